/-
  Contracts of single functions of the program, each shown by the engine: what a call returns for arguments within the contract's bounds.
-/
import Derived.Test.YtkafaeeianofnaaFFnChangedTermsa
import Derived.Test.YtkafaeeianofnaaEd
import Derived.Test.YtkafaeeianofnaaEc
set_option linter.unusedSimpArgs false
set_option linter.unusedVariables false
set_option linter.unusedSectionVars false

namespace Go.Proofs.Ytkafaeeianofnaa
open Go.SE Go.RowKit
variable [Base]
set_option linter.unusedSectionVars false
set_option linter.unusedSimpArgs false
set_option linter.unusedVariables false
set_option maxHeartbeats 1000000
set_option maxRecDepth 100000
abbrev c_sFactValid:Con:=⟨[.fact],[.bool],fun _=>True,.inl fun (f,_)=>(fV f,()),fun _=>0⟩
abbrev L_sFactValid:List (FuncId × Con):=[(105,c_l1Is)]
abbrev P_sFactValid:List (FuncId × PT):=[]
def VC_sFactValid (f:GFact) (k:Nat):Prop:=TN/\True/\True/\True/\(True/\True/\True)/\True/\(vcIf (isT f.a) (True/\True/\(True/\True/\True)/\True/\True/\((((isT f.b),()):Bool × Unit)=(fV f,()))/\True/\True/\True/\True/\TF) (True/\True/\(((false,()):Bool × Unit)=(fV f,()))/\True/\True/\True/\True/\TF))
theorem vcn_sFactValid (f:GFact) (k:Nat):VC_sFactValid f k:=by
 unfold VC_sFactValid
 simp only [cln,Nat.reduceEqDiff,Nat.reduceLeDiff,Nat.reduceAdd]
 cases h:isT f.a <;> simp [vcIf,fV,h]
theorem ok_sFactValid:FnOk Try.prog E 83 c_sFactValid :=
 fn_okQ (l:=L_sFactValid) (lp:=P_sFactValid) (hp:=fun _=>false) (gcs:=fun _=>none) (perm:=fun _=>[]) tabOk mix ⟨ok_l1Is,trivial⟩ trivial Try.func83 rfl (by kernel_rfl) (by decide) (by kernel_rfl) (anns:=fun x _=>fun _ _=>none) (fun ⟨f,_⟩ k _ _=>Eq.mp (by kernel_rfl) (vcn_sFactValid f k)) tot_fn
abbrev c_l3Atom:Con:=⟨[.atom],[.bool],fun _=>True,.inl fun (x,_)=>(atV x,()),fun _=>0⟩
abbrev L_l3Atom:List (FuncId × Con):=[(105,c_l1Is)]
abbrev P_l3Atom:List (FuncId × PT):=[]
def VC_l3Atom_1 (x:GAtom):Prop:=True/\True/\(((false,()):Bool × Unit)=(atV x,()))/\True/\True/\True/\True/\TF
def VC_l3Atom_2 (x:GAtom):Prop:=True/\True/\(True/\True/\True)/\True/\True/\(vcIf (isT x.a) (True/\True/\(True/\True/\True)/\True/\True/\((((isT x.b),()):Bool × Unit)=(atV x,()))/\True/\True/\True/\True/\TF) (VC_l3Atom_1 x))
def VC_l3Atom (x:GAtom) (k:Nat):Prop:=TN/\True/\True/\True/\True/\True/\(vcIf (x.kind == (1:Int)) (True/\True/\(VC_l3Atom_2 x)) (True/\True/\True/\True/\True/\(vcIf (x.kind == (2:Int)) (VC_l3Atom_2 x) (True/\True/\(VC_l3Atom_1 x)))))
theorem vcn_l3Atom (x:GAtom) (k:Nat):VC_l3Atom x k:=by
 unfold VC_l3Atom VC_l3Atom_2 VC_l3Atom_1
 simp only [cln,Nat.reduceEqDiff,Nat.reduceLeDiff,Nat.reduceAdd]
 all_goals (try simp only [opn])
 all_goals (repeat' (first | apply And.intro | intro _))
 all_goals (first | omega | (simp_all;done) | grind [atV])
theorem ok_l3Atom:FnOk Try.prog E 122 c_l3Atom :=
 fn_okQ (l:=L_l3Atom) (lp:=P_l3Atom) (hp:=fun _=>false) (gcs:=fun _=>none) (perm:=fun _=>[]) tabOk mix ⟨ok_l1Is,trivial⟩ trivial Try.func122 rfl (by kernel_rfl) (by decide) (by kernel_rfl) (anns:=fun x _=>fun _ _=>none) (fun ⟨x,_⟩ k _ _=>Eq.mp (by kernel_rfl) (vcn_l3Atom x k)) tot_fn
abbrev c_sFactsValid:Con:=⟨[.sl .fact],[.bool],fun (l,_)=>l.length<=281474976710656,.inl fun (l,_)=>(fsV l,()),fun _=>0⟩
abbrev L_sFactsValid:List (FuncId × Con):=[(83,c_sFactValid)]
abbrev P_sFactsValid:List (FuncId × PT):=[]
def an_sFactsValid (l:List GFact):Nat->St->Option Ann
 | 2,se=>some { α:=Nat,ok:=fun i=>i<=l.length/\(l.take i).all fV=true,mu:=fun i=>l.length - i,i0:=fun _=>0,nx:=fun a _=>(fun i=>i+1) a,live:=[0],sets:=fun i=>[(3,sv (.int .i64 i))],mids:=[],blks:=fun i=>[],owns:=fun i=>[],rd:=fun r _=>r,base:=100000 }
 | _,_=>none
def VC_sFactsValid (l:List GFact) (k:Nat):Prop:=True/\True/\((0<=l.length/\(l.take 0).all fV=true)/\TT/\(RL [.s (.c (.d (.arr .fact l)))])/\(([.s (.c (.d (.val (.int .i64 (0:Int)))))]:List S)=[.s (.c (.d (.val (.int .i64 ((0:Nat):Int)))))])/\(RM [])/\(RM [])/\True/\TT)/\(∀ i1:Nat,(i1<=l.length/\(l.take i1).all fV=true)->True/\True/\True/\True/\(vcIf (decide (((i1:Nat):Int) < ((l.length:Nat):Int))) (True/\True/\(0<=((i1:Nat):Int)/\((i1:Nat):Int) < ((l.length:Nat):Int))/\True/\(True/\True/\True)/\True/\(vcIf (!(fV (l.getD i1 (⟨false,0,0⟩:GFact)))) (True/\(((false,()):Bool × Unit)=(fsV l,()))/\True/\True/\True/\True/\TF) (True/\(inK .i64 (((i1:Nat):Int)+(1:Int)))/\True/\((i1+1)<=l.length/\(l.take (i1+1)).all fV=true)/\(l.length - (i1+1) < l.length - i1)/\TT/\(RL [.s (.c (.d (.arr .fact l)))])/\(([.s (.c (.d (.val (.int .i64 (((i1:Nat):Int)+(1:Int))))))]:List S)=[.s (.c (.d (.val (.int .i64 (((i1+1):Nat):Int)))))])/\(RM [])/\(RM [])/\True/\TT))) (True/\True/\True/\True/\(((decide (((l.length:Nat):Int)<=(12:Int)),()):Bool × Unit)=(fsV l,()))/\True/\True/\True/\True/\TF)))
theorem vcn_sFactsValid (l:List GFact) (k:Nat) (hp:l.length<=281474976710656):VC_sFactsValid l k:=by
 unfold VC_sFactsValid
 simp only [cln,Nat.reduceEqDiff,Nat.reduceLeDiff,Nat.reduceAdd]
 all_goals (try simp only [opn])
 all_goals (repeat' (first | apply And.intro | intro _))
 all_goals (first | omega | (simp_all;done) | grind [fsV,take_all,all_take,take_full,Ty.zero])
theorem ok_sFactsValid:FnOk Try.prog E 123 c_sFactsValid :=
 fn_okQ (l:=L_sFactsValid) (lp:=P_sFactsValid) (hp:=fun _=>false) (gcs:=fun _=>none) (perm:=fun _=>[]) tabOk mix ⟨ok_sFactValid,trivial⟩ trivial Try.func123 rfl (by kernel_rfl) (by decide) (by kernel_rfl) (anns:=fun x _=>an_sFactsValid x.1) (fun ⟨l,_⟩ k hp _=>Eq.mp (by kernel_rfl) (vcn_sFactsValid l k hp)) tot_fn
abbrev c_sAssertionValid:Con:=⟨[.asn],[.bool],fun (a,_)=>a.facts.length<=281474976710656/\a.atoms.length<=281474976710656,.inl fun (a,_)=>(asV a,()),fun _=>0⟩
abbrev L_sAssertionValid:List (FuncId × Con):=[(122,c_l3Atom),(123,c_sFactsValid)]
abbrev P_sAssertionValid:List (FuncId × PT):=[]
def an_sAssertionValid (a:GAsn):Nat->St->Option Ann
 | 2,se=>some { α:=Nat,ok:=fun i=>i<=a.atoms.length/\(a.atoms.take i).all atV=true,mu:=fun i=>a.atoms.length - i,i0:=fun _=>0,nx:=fun a _=>(fun i=>i+1) a,live:=[1],sets:=fun i=>[(3,sv (.int .i64 i))],mids:=[31],blks:=fun i=>[],owns:=fun i=>[],rd:=fun r _=>r,base:=100000 }
 | _,_=>none
def VC_sAssertionValid_1 (a:GAsn):Prop:=(RM [some (.blk [.d (.arr .fact a.facts),.d (.arr .atom a.atoms)])])/\(RM [])/\True/\TT
def VC_sAssertionValid_2 (a:GAsn):Prop:=True/\(((false,()):Bool × Unit)=(asV a,()))/\True/\True/\True/\True/\TF
def VC_sAssertionValid (a:GAsn) (k:Nat):Prop:=TN/\True/\True/\((0<=a.atoms.length/\(a.atoms.take 0).all atV=true)/\TT/\(RL [.s (.c (.ptr 31 0))])/\(([.s (.c (.d (.val (.int .i64 (0:Int)))))]:List S)=[.s (.c (.d (.val (.int .i64 ((0:Nat):Int)))))])/\(VC_sAssertionValid_1 a))/\(∀ i1:Nat,(i1<=a.atoms.length/\(a.atoms.take i1).all atV=true)->True/\True/\True/\True/\True/\(vcIf (decide (((i1:Nat):Int) < ((a.atoms.length:Nat):Int))) (True/\True/\True/\(0<=((i1:Nat):Int)/\((i1:Nat):Int) < ((a.atoms.length:Nat):Int))/\True/\(True/\True/\True)/\True/\(vcIf (!(atV (a.atoms.getD i1 (⟨0,0,0⟩:GAtom)))) (VC_sAssertionValid_2 a) (True/\(inK .i64 (((i1:Nat):Int)+(1:Int)))/\True/\((i1+1)<=a.atoms.length/\(a.atoms.take (i1+1)).all atV=true)/\(a.atoms.length - (i1+1) < a.atoms.length - i1)/\TT/\(RL [.s (.c (.ptr 31 0))])/\(([.s (.c (.d (.val (.int .i64 (((i1:Nat):Int)+(1:Int))))))]:List S)=[.s (.c (.d (.val (.int .i64 (((i1+1):Nat):Int)))))])/\(VC_sAssertionValid_1 a)))) (True/\True/\((a.facts.length<=281474976710656)/\True/\True)/\True/\(vcIf (fsV a.facts) (True/\True/\True/\True/\True/\True/\(((decide (((a.atoms.length:Nat):Int)<=(6:Int)),()):Bool × Unit)=(asV a,()))/\True/\True/\True/\True/\TF) (True/\(VC_sAssertionValid_2 a))))))
theorem vcn_sAssertionValid (a:GAsn) (k:Nat) (hp:a.facts.length<=281474976710656/\a.atoms.length<=281474976710656):VC_sAssertionValid a k:=by
 unfold VC_sAssertionValid VC_sAssertionValid_2 VC_sAssertionValid_1
 simp only [cln,Nat.reduceEqDiff,Nat.reduceLeDiff,Nat.reduceAdd]
 all_goals (try simp only [opn])
 all_goals (repeat' (first | apply And.intro | intro _))
 all_goals (first | omega | (simp_all;done) | grind [asV,take_all,all_take,take_full,Ty.zero])
theorem ok_sAssertionValid:FnOk Try.prog E 85 c_sAssertionValid :=
 fn_okQ (l:=L_sAssertionValid) (lp:=P_sAssertionValid) (hp:=fun _=>false) (gcs:=fun _=>none) (perm:=fun _=>[]) tabOk mix ⟨ok_l3Atom,ok_sFactsValid,trivial⟩ trivial Try.func85 rfl (by kernel_rfl) (by decide) (by kernel_rfl) (anns:=fun x _=>an_sAssertionValid x.1) (fun ⟨a,_⟩ k hp _=>Eq.mp (by kernel_rfl) (vcn_sAssertionValid a k hp)) tot_fn
abbrev c_l8Shape:Con:=⟨[.sl .cmd,.int],[.bool],fun (l,d,_)=>BdL l/\0<=d/\d<=4,.inl fun (l,d,_)=>(shL d l,()),fun _=>0⟩
abbrev mu_l8Shape:Args c_l8Shape.aks->Nat:=fun (l,d,_)=>ndL l
abbrev L_l8Shape (m:Nat):List (FuncId × Con):=[(47,c_l8Shape.lim mu_l8Shape m),(63,c_l8Basic),(83,c_sFactValid),(84,c_l8NoInv),(85,c_sAssertionValid)]
abbrev P_l8Shape:List (FuncId × PT):=[]
def an_l8Shape (l:List GCmd) (d:Int):Nat->St->Option Ann
 | 4,se=>some { α:=Nat,ok:=fun i=>i<=l.length/\(1<=d ∨ l.length=0)/\shL d (l.take i)=true,mu:=fun i=>l.length - i,i0:=fun _=>0,nx:=fun a _=>(fun i=>i+1) a,live:=[0,1],sets:=fun i=>[(5,sv (.int .i64 i))],mids:=[],blks:=fun i=>[],owns:=fun i=>[],rd:=fun r _=>r,base:=100000 }
 | _,_=>none
def VC_l8Shape_1 (d:Int) (l:List GCmd):Prop:=True/\(((false,()):Bool × Unit)=(shL d l,()))/\True/\True/\True/\True/\TF
def VC_l8Shape_2 (d:Int) (l:List GCmd):Prop:=True/\(VC_l8Shape_1 d l)
def VC_l8Shape_3 (d:Int) (l:List GCmd):Prop:=True/\True/\(VC_l8Shape_2 d l)
def VC_l8Shape_4 (d:Int) (l:List GCmd):Prop:=True/\True/\(VC_l8Shape_3 d l)
def VC_l8Shape_5 (l:List GCmd) (i1:Nat):Prop:=(((l.getD i1 (Ty.zero .cmd)).inv).facts.length<=281474976710656/\((l.getD i1 (Ty.zero .cmd)).inv).atoms.length<=281474976710656)/\True/\True
def VC_l8Shape_6 (d:Int) (l:List GCmd) (i1:Nat) (m:Nat):Prop:=True/\True/\True/\(inK .i64 (d - (1:Int)))/\(((BdL ((l.getD i1 (Ty.zero .cmd)).body)/\0<=(d - (1:Int))/\(d - (1:Int))<=4)/\ndL ((l.getD i1 (Ty.zero .cmd)).body) < m)/\True/\True)/\True/\True/\(vcIf (!(shL (d - (1:Int)) ((l.getD i1 (Ty.zero .cmd)).body))) (VC_l8Shape_2 d l) (True/\True/\True/\(inK .i64 (d - (1:Int)))/\(((BdL ((l.getD i1 (Ty.zero .cmd)).els)/\0<=(d - (1:Int))/\(d - (1:Int))<=4)/\ndL ((l.getD i1 (Ty.zero .cmd)).els) < m)/\True/\True)/\True/\True/\(vcIf (!(shL (d - (1:Int)) ((l.getD i1 (Ty.zero .cmd)).els))) (VC_l8Shape_1 d l) (True/\(inK .i64 (((i1:Nat):Int)+(1:Int)))/\True/\((i1+1)<=l.length/\(1<=d ∨ l.length=0)/\shL d (l.take (i1+1))=true)/\(l.length - (i1+1) < l.length - i1)/\TT/\(RL [.s (.c (.d (.arr .cmd l))),.s (.c (.d (.val (.int .i64 d))))])/\(([.s (.c (.d (.val (.int .i64 (((i1:Nat):Int)+(1:Int))))))]:List S)=[.s (.c (.d (.val (.int .i64 (((i1+1):Nat):Int)))))])/\(RM [])/\(RM [])/\True/\TT))))
def VC_l8Shape_7 (l:List GCmd) (d:Int) (m:Nat):Prop:=True/\((0<=l.length/\(1<=d ∨ l.length=0)/\shL d (l.take 0)=true)/\TT/\(RL [.s (.c (.d (.arr .cmd l))),.s (.c (.d (.val (.int .i64 d))))])/\(([.s (.c (.d (.val (.int .i64 (0:Int)))))]:List S)=[.s (.c (.d (.val (.int .i64 ((0:Nat):Int)))))])/\(RM [])/\(RM [])/\True/\TT)/\(∀ i1:Nat,(i1<=l.length/\(1<=d ∨ l.length=0)/\shL d (l.take i1)=true)->True/\True/\True/\True/\(vcIf (decide (((i1:Nat):Int) < ((l.length:Nat):Int))) (True/\True/\(0<=((i1:Nat):Int)/\((i1:Nat):Int) < ((l.length:Nat):Int))/\True/\(TN/\TN/\TN/\TN/\TN/\True)/\(TF/\TF)/\True/\True/\True/\True/\(vcIf (((l.getD i1 (Ty.zero .cmd)).kind) == (6:Int)) (True/\True/\True/\True/\(vcIf (((l.getD i1 (Ty.zero .cmd)).a) != (0:Int)) (VC_l8Shape_4 d l) (True/\True/\True/\True/\True/\(vcIf (((l.getD i1 (Ty.zero .cmd)).b) != (0:Int)) (VC_l8Shape_3 d l) (True/\True/\(True/\True/\True)/\True/\True/\True/\(vcIf (!(fV ((l.getD i1 (Ty.zero .cmd)).test))) (VC_l8Shape_2 d l) (True/\True/\(VC_l8Shape_5 l i1)/\True/\True/\(vcIf (!(noA ((l.getD i1 (Ty.zero .cmd)).inv))) (VC_l8Shape_1 d l) (VC_l8Shape_6 d l i1 m))))))))) (True/\True/\(vcIf (((l.getD i1 (Ty.zero .cmd)).kind) == (7:Int)) (True/\True/\True/\True/\(vcIf (((l.getD i1 (Ty.zero .cmd)).a) != (0:Int)) (True/\True/\(VC_l8Shape_4 d l)) (True/\True/\True/\True/\True/\(vcIf (((l.getD i1 (Ty.zero .cmd)).b) != (0:Int)) (VC_l8Shape_4 d l) (True/\True/\(True/\True/\True)/\True/\True/\True/\(vcIf (!(fV ((l.getD i1 (Ty.zero .cmd)).test))) (VC_l8Shape_3 d l) (True/\True/\(VC_l8Shape_5 l i1)/\True/\True/\True/\(vcIf (!(asV ((l.getD i1 (Ty.zero .cmd)).inv))) (VC_l8Shape_2 d l) (True/\True/\True/\True/\True/\(vcIf (decide ((0:Int) < ((((l.getD i1 (Ty.zero .cmd)).els).length:Nat):Int))) (VC_l8Shape_1 d l) (VC_l8Shape_6 d l i1 m))))))))))) (True/\((BdC (GCmd.mk ((l.getD i1 (Ty.zero .cmd)).kind) ((l.getD i1 (Ty.zero .cmd)).a) ((l.getD i1 (Ty.zero .cmd)).b) ((l.getD i1 (Ty.zero .cmd)).test) ((l.getD i1 (Ty.zero .cmd)).inv) ((l.getD i1 (Ty.zero .cmd)).body) ((l.getD i1 (Ty.zero .cmd)).els)))/\True/\True)/\True/\(vcIf (!(fokB (GCmd.mk ((l.getD i1 (Ty.zero .cmd)).kind) ((l.getD i1 (Ty.zero .cmd)).a) ((l.getD i1 (Ty.zero .cmd)).b) ((l.getD i1 (Ty.zero .cmd)).test) ((l.getD i1 (Ty.zero .cmd)).inv) ((l.getD i1 (Ty.zero .cmd)).body) ((l.getD i1 (Ty.zero .cmd)).els)))) (VC_l8Shape_1 d l) (VC_l8Shape_6 d l i1 m))))))) (True/\(((true,()):Bool × Unit)=(shL d l,()))/\True/\True/\True/\True/\TF)))
def VC_l8Shape (l:List GCmd) (d:Int) (m:Nat) (k:Nat):Prop:=True/\True/\True/\True/\(vcIf (decide (d < (1:Int))) (True/\True/\True/\True/\(vcIf (decide ((0:Int) < ((l.length:Nat):Int))) (VC_l8Shape_1 d l) (VC_l8Shape_7 l d m))) (True/\(VC_l8Shape_7 l d m)))
theorem vcn_l8Shape (l:List GCmd) (d:Int) (m:Nat) (k:Nat) (hp:(BdL l/\0<=d/\d<=4)/\ndL l < m+1):VC_l8Shape l d m k:=by
 unfold VC_l8Shape VC_l8Shape_7 VC_l8Shape_6 VC_l8Shape_5 VC_l8Shape_4 VC_l8Shape_3 VC_l8Shape_2 VC_l8Shape_1
 simp only [cln,Nat.reduceEqDiff,Nat.reduceLeDiff,Nat.reduceAdd,GCmd.eta]
 have hl:=hp.1.1.len
 have hg:∀ i,i < l.length->BdC (l.getD i (Ty.zero .cmd))/\ndC (l.getD i (Ty.zero .cmd))<=ndL l/\BdL (l.getD i (Ty.zero .cmd)).body/\BdL (l.getD i (Ty.zero .cmd)).els/\(l.getD i (Ty.zero .cmd)).inv.facts.length<=281474976710656/\(l.getD i (Ty.zero .cmd)).inv.atoms.length<=281474976710656 :=
  fun i hi=>⟨hp.1.1.get hi,ndL_get hi,(hp.1.1.get hi).b,(hp.1.1.get hi).e,(hp.1.1.get hi).f,(hp.1.1.get hi).a⟩
 have hn:∀ i,ndC (l.getD i (Ty.zero .cmd))=1+ndL (l.getD i (Ty.zero .cmd)).body+ndL (l.getD i (Ty.zero .cmd)).els:=fun i=>ndC_eq _
 have hs:=fun (i:Nat) (hi:i < l.length) (h1:1<=d)=>shL_step (d:=d) (z:=Ty.zero .cmd) h1 hi
 have hc:=fun (i:Nat)=>shC_eq d (l.getD i (Ty.zero .cmd))
 have hnot:=fun (i:Nat) (hi:i < l.length) (h:shC d (l.getD i (Ty.zero .cmd))=false)=>shL_not (d:=d) hi h
 have hz:=fun (h:d < 1) (h2:0 < l.length)=>shL_zero h h2
 all_goals (try simp only [vcIf_iff,decide_eq_true_eq,decide_eq_false_iff_not,bne_iff_ne,ne_eq,beq_iff_eq,beq_eq_false_iff_ne,bne_eq_false_iff_eq,Bool.not_eq_true',Bool.not_eq_false',Int.ofNat_lt,Int.natCast_inj])
 all_goals (repeat' (first | apply And.intro | intro _))
 all_goals (repeat (cases ‹_/\_›))
 all_goals (first | omega | (simp_all;done) | grind [fokC,shL_nil,List.take_length] | skip)
theorem ok_l8Shape:FnOk Try.prog E 47 c_l8Shape :=
 fn_rec (mu:=mu_l8Shape) (fun m ih=>fn_okQ (con:=c_l8Shape.lim mu_l8Shape (m+1)) (fn:=Try.f47) (l:=L_l8Shape m) (lp:=P_l8Shape) (hp:=fun _=>false) (gcs:=fun _=>none) (perm:=fun _=>[]) tabOk mix ⟨ih,ok_l8Basic,ok_sFactValid,ok_l8NoInv,ok_sAssertionValid,trivial⟩ trivial Try.func47 rfl (by kernel_rfl) (show c_l8Shape.aks.length<=Try.f47.ntmps by decide) (by kernel_rfl) (anns:=fun x _=>an_l8Shape x.1 x.2.1) (fun ⟨l,d,_⟩ k hp _=>Eq.mp (by kernel_rfl) (vcn_l8Shape l d m k hp)) tot_fn) ⟨_,_,Try.func47,by kernel_rfl,rfl⟩ tot_fn
abbrev c_l8Count:Con:=⟨[.sl .cmd,.int],[.int],fun (l,d,_)=>BdL l/\0<=d/\d<=4/\ndL l<=1048576,.inl fun (l,d,_)=>((cnL d l:Int),()),fun _=>0⟩
abbrev mu_l8Count:Args c_l8Count.aks->Nat:=fun (l,d,_)=>ndL l
abbrev L_l8Count (m:Nat):List (FuncId × Con):=[(48,c_l8Count.lim mu_l8Count m)]
abbrev P_l8Count:List (FuncId × PT):=[]
def an_l8Count (l:List GCmd) (d:Int):Nat->St->Option Ann
 | 3,se=>some { α:=Nat,ok:=fun i=>i<=l.length/\(i=0 ∨ 1<=d),mu:=fun i=>l.length - i,i0:=fun _=>0,nx:=fun a _=>(fun i=>i+1) a,live:=[0,1,4],sets:=fun i=>[(6,sv (.int .i64 i)),(5,sv (.int .i64 (cnL d (l.take i))))],mids:=[],blks:=fun i=>[],owns:=fun i=>[],rd:=fun r _=>r,base:=100000 }
 | _,_=>none
def VC_l8Count_1 (l:List GCmd) (d:Int):Prop:=RL [.s (.c (.d (.arr .cmd l))),.s (.c (.d (.val (.int .i64 d)))),.s (.c (.d (.val (.int .i64 (0:Int)))))]
def VC_l8Count_2 (d:Int) (l:List GCmd) (i1:Nat):Prop:=True/\True/\((((cnL d (l.take i1):Int),()):Int × Unit)=((cnL d l:Int),()))/\True/\True/\True/\True/\TF
def VC_l8Count (l:List GCmd) (d:Int) (m:Nat) (k:Nat):Prop:=True/\True/\True/\((0<=l.length/\(0=0 ∨ 1<=d))/\TT/\(VC_l8Count_1 l d)/\(([.s (.c (.d (.val (.int .i64 (0:Int))))),.s (.c (.d (.val (.int .i64 (0:Int)))))]:List S)=[.s (.c (.d (.val (.int .i64 ((0:Nat):Int))))),.s (.c (.d (.val (.int .i64 (cnL d (l.take 0):Int)))))])/\(RM [])/\(RM [])/\True/\TT)/\(∀ i1:Nat,(i1<=l.length/\(i1=0 ∨ 1<=d))->True/\True/\True/\True/\True/\(vcIf (decide (((i1:Nat):Int) < ((l.length:Nat):Int))) (True/\True/\True/\(vcIf (decide ((0:Int) < d)) (True/\(inK .i64 ((cnL d (l.take i1):Int)+(1:Int)))/\True/\True/\(0<=((i1:Nat):Int)/\((i1:Nat):Int) < ((l.length:Nat):Int))/\True/\True/\True/\(inK .i64 (d - (1:Int)))/\(((BdL ((l.getD i1 (Ty.zero .cmd)).body)/\0<=(d - (1:Int))/\(d - (1:Int))<=4/\ndL ((l.getD i1 (Ty.zero .cmd)).body)<=1048576)/\ndL ((l.getD i1 (Ty.zero .cmd)).body) < m)/\True/\True)/\(inK .i64 (((cnL d (l.take i1):Int)+(1:Int))+(cnL (d - (1:Int)) ((l.getD i1 (Ty.zero .cmd)).body):Int)))/\True/\True/\(0<=((i1:Nat):Int)/\((i1:Nat):Int) < ((l.length:Nat):Int))/\True/\True/\True/\(inK .i64 (d - (1:Int)))/\(((BdL ((l.getD i1 (Ty.zero .cmd)).els)/\0<=(d - (1:Int))/\(d - (1:Int))<=4/\ndL ((l.getD i1 (Ty.zero .cmd)).els)<=1048576)/\ndL ((l.getD i1 (Ty.zero .cmd)).els) < m)/\True/\True)/\(inK .i64 ((((cnL d (l.take i1):Int)+(1:Int))+(cnL (d - (1:Int)) ((l.getD i1 (Ty.zero .cmd)).body):Int))+(cnL (d - (1:Int)) ((l.getD i1 (Ty.zero .cmd)).els):Int)))/\True/\True/\(inK .i64 (((i1:Nat):Int)+(1:Int)))/\True/\((i1+1)<=l.length/\((i1+1)=0 ∨ 1<=d))/\(l.length - (i1+1) < l.length - i1)/\TT/\(VC_l8Count_1 l d)/\(([.s (.c (.d (.val (.int .i64 (((i1:Nat):Int)+(1:Int)))))),.s (.c (.d (.val (.int .i64 ((((cnL d (l.take i1):Int)+(1:Int))+(cnL (d - (1:Int)) ((l.getD i1 (Ty.zero .cmd)).body):Int))+(cnL (d - (1:Int)) ((l.getD i1 (Ty.zero .cmd)).els):Int))))))]:List S)=[.s (.c (.d (.val (.int .i64 (((i1+1):Nat):Int))))),.s (.c (.d (.val (.int .i64 (cnL d (l.take (i1+1)):Int)))))])/\(RM [])/\(RM [])/\True/\TT) (VC_l8Count_2 d l i1))) (True/\(VC_l8Count_2 d l i1))))
theorem vcn_l8Count (l:List GCmd) (d:Int) (m:Nat) (k:Nat) (hp:(BdL l/\0<=d/\d<=4/\ndL l<=1048576)/\ndL l < m+1):VC_l8Count l d m k:=by
 unfold VC_l8Count VC_l8Count_2 VC_l8Count_1
 simp only [cln,Nat.reduceEqDiff,Nat.reduceLeDiff,Nat.reduceAdd]
 have hl:=hp.1.1.len
 have hg:∀ i,i < l.length->ndC (l.getD i (Ty.zero .cmd))<=ndL l/\BdL (l.getD i (Ty.zero .cmd)).body/\BdL (l.getD i (Ty.zero .cmd)).els :=
  fun i hi=>⟨ndL_get hi,(hp.1.1.get hi).b,(hp.1.1.get hi).e⟩
 have hn:∀ i,ndC (l.getD i (Ty.zero .cmd))=1+ndL (l.getD i (Ty.zero .cmd)).body+ndL (l.getD i (Ty.zero .cmd)).els:=fun i=>ndC_eq _
 have hs:=fun (i:Nat) (hi:i < l.length) (h1:1<=d)=>cnL_step (d:=d) (z:=Ty.zero .cmd) h1 hi
 have hc:=fun (i:Nat)=>cnC_eq d (l.getD i (Ty.zero .cmd))
 have hz:=fun (h:¬ 1<=d)=>cnL_low h l
 have hb:=fun (i:Nat)=>cnL_le (d - 1) (l.getD i (Ty.zero .cmd)).body
 have he:=fun (i:Nat)=>cnL_le (d - 1) (l.getD i (Ty.zero .cmd)).els
 have ht:=fun (i:Nat)=>cnL_le d (l.take i)
 have hu:=fun (i:Nat)=>ndL_take_le l i
 all_goals (try simp only [vcIf_iff,decide_eq_true_eq,decide_eq_false_iff_not,bne_iff_ne,ne_eq,beq_iff_eq,beq_eq_false_iff_ne,bne_eq_false_iff_eq,Bool.not_eq_true',Bool.not_eq_false',Int.ofNat_lt,Int.natCast_inj])
 all_goals (repeat' (first | apply And.intro | intro _))
 all_goals (repeat (cases ‹_/\_›))
 all_goals (first | omega | (simp_all;done) | grind [cnL_nil,List.take_length] | skip)
theorem ok_l8Count:FnOk Try.prog E 48 c_l8Count :=
 fn_rec (mu:=mu_l8Count) (fun m ih=>fn_okQ (con:=c_l8Count.lim mu_l8Count (m+1)) (fn:=Try.f48) (l:=L_l8Count m) (lp:=P_l8Count) (hp:=fun _=>false) (gcs:=fun _=>none) (perm:=fun _=>[]) tabOk mix ⟨ih,trivial⟩ trivial Try.func48 rfl (by kernel_rfl) (show c_l8Count.aks.length<=Try.f48.ntmps by decide) (by kernel_rfl) (anns:=fun x _=>an_l8Count x.1 x.2.1) (fun ⟨l,d,_⟩ k hp _=>Eq.mp (by kernel_rfl) (vcn_l8Count l d m k hp)) tot_fn) ⟨_,_,Try.func48,by kernel_rfl,rfl⟩ tot_fn
abbrev c_sProgramValid:Con:=⟨[.sl .cmd],[.bool],fun (l,_)=>BdL l/\ndL l<=1048576,.inl fun (l,_)=>(prV l,()),fun _=>0⟩
abbrev L_sProgramValid:List (FuncId × Con):=[(47,c_l8Shape),(48,c_l8Count)]
abbrev P_sProgramValid:List (FuncId × PT):=[]
def VC_sProgramValid (l:List GCmd) (k:Nat):Prop:=True/\True/\((BdL l/\0<=(4:Int)/\(4:Int)<=4)/\True/\True)/\True/\(vcIf (shL (4:Int) l) (True/\((BdL l/\0<=(4:Int)/\(4:Int)<=4/\ndL l<=1048576)/\True/\True)/\True/\True/\True/\(((decide ((cnL (4:Int) l:Int)<=(16:Int)),()):Bool × Unit)=(prV l,()))/\True/\True/\True/\True/\TF) (True/\True/\(((false,()):Bool × Unit)=(prV l,()))/\True/\True/\True/\True/\TF))
theorem vcn_sProgramValid (l:List GCmd) (k:Nat) (hp:BdL l/\ndL l<=1048576):VC_sProgramValid l k:=by
 unfold VC_sProgramValid
 simp only [cln,Nat.reduceEqDiff,Nat.reduceLeDiff,Nat.reduceAdd]
 all_goals (try simp only [vcIf_iff,decide_eq_true_eq,decide_eq_false_iff_not,bne_iff_ne,ne_eq,beq_iff_eq,beq_eq_false_iff_ne,bne_eq_false_iff_eq,Bool.not_eq_true',Bool.not_eq_false',Int.ofNat_lt,Int.natCast_inj])
 all_goals (repeat' (first | apply And.intro | intro _))
 all_goals (repeat (cases ‹_/\_›))
 all_goals (first | omega | (simp_all;done) | grind [prV,cvB,cvN,cnL_sh] | skip)
theorem ok_sProgramValid:FnOk Try.prog E 18 c_sProgramValid :=
 fn_okQ (l:=L_sProgramValid) (lp:=P_sProgramValid) (hp:=fun _=>false) (gcs:=fun _=>none) (perm:=fun _=>[]) tabOk mix ⟨ok_l8Shape,ok_l8Count,trivial⟩ trivial Try.func18 rfl (by kernel_rfl) (by decide) (by kernel_rfl) (anns:=fun x _=>fun _ _=>none) (fun ⟨l,_⟩ k hp _=>Eq.mp (by kernel_rfl) (vcn_sProgramValid l k hp)) tot_fn
abbrev c_pick:Con:=⟨[.rdr,.int],[.int],fun _=>True,.inr fun (_,n,_) (r,_)=>pickP n r,fun _=>1⟩
theorem vc_pick (code:List UInt8) (v:Value) (p n:Int) (k:Nat) (h1:code.length<=2000) (h2:0<=p) (h3:p<=k) (h4:k+1<=rdLimit):vc tab (lookF []) (fun _=>none) (fun _=>[]) (bodyOf Try.f43) (pickSt code v p n) (pickQ code v p n):=by
 have h5:p<=1099511627776:=by have:k+1<=1099511627776:=h4;omega
 dsimp only [bodyOf,Try.f43,rdOf]
 simp only [pickSt,pickQ,pickK,pickM,pickR,pickP,true_and,and_true,SE.lookF,tab2,tab3,tab4,tab5,tab7,tab9,tab12,tab13,tab21,tab22,tab23,tab28,tab35,tab40,tab41,tab42,tab43,tab44,tab45,tab46,tab47,tab48,tab49,tab56,tab57,tab58,tab59,tab60,tab61,tab62,tab63,tab77,tab78,tab79,tab81,tab82,tab83,tab89,tab90,tab94,tab102,tab103,tab113,tab114,tab118,tab119,tab122,tab145,tab156,tab168,SE.entry,SE.envOf,SE.rdOf,Option.get_some,SE.vc,SE.vcReg,SE.vcLoop,SE.condK,SE.seqK,SE.blockK,SE.vcOps,SE.vcStep,SE.vcOp,SE.vcTr,SE.vcDet_some,SE.vcDet_none,SE.vcIf_true,SE.vcIf_false,SE.vcEach,SE.pickOps,SE.gslot,SE.trOp,SE.moveId,SE.trMove,SE.trPick,SE.trAlloc,SE.trBox,SE.trBuild,SE.trBuildSlice,SE.trLoad,SE.trStore,SE.trNilCheck,SE.trBin,SE.trUn,SE.trConvert,SE.trFieldAddr,SE.trField,SE.trIndexAddr,SE.trIndex,SE.trSlice,SE.trMakeSlice,SE.trExtract,SE.trLen,SE.trAppend,SE.trCopy,SE.trFn,SE.trCall,SE.argsS,SE.ev,SE.constS,SE.junk,SE.sv,SE.upd_app,SE.adds,SE.sets,SE.nid,SE.St.app,SE.St.put,SE.free,SE.freeL,SE.allFree,SE.rids,SE.AK.rids,SE.castL,SE.rdl,SE.AK.dec,SE.decs,SE.AK.enc,SE.encs,SE.AK.res,SE.ress,SE.pack1,SE.zcells,SE.zeroOf,SE.partCells,SE.putc,SE.fills,SE.datas,SE.ownDC,SE.wkDC,SE.wkS,SE.xfix,SE.tightM,SE.rdn,SE.rdnC,SE.elemOf,SE.elemsOf,SE.elemX,SE.zeroC,SE.notSpent,SE.cellsAt,SE.weak,SE.dcellsAt,SE.slAt,SE.rdPlus,SE.intAt,SE.updElem,SE.kill,SE.noJunk,SE.inK,SE.binI,SE.shf,SE.isShift,SE.eqCells,SE.aggS,SE.intOp,SE.nested,SE.hasRdr,SE.refsC,SE.refsCs,SE.ownsC,SE.refsAr,SE.rdFits,SE.costIf,SE.Con.post,SE.Con.det,SE.Ty.cells,SE.Ty.sz,SE.Ty.zero,SE.Ty.flat,SE.Ty.dec,SE.retOk,SE.loadsS,SE.loadS,SE.decRs,SE.decR,SE.outC,SE.rdC,SE.allDiff,SE.notIn,SE.notFrozen,SE.apartL,SE.rdEnd,SE.firstReg,SE.headC,SE.fitsC,SE.idsC,SE.keepE,SE.keepM,SE.keepB,SE.inL,SE.puts,SE.ownRes,SE.ownEnv,SE.renL,SE.srcId,SE.lookR,SE.envSame,SE.envSets,SE.memSame,SE.memBlks,SE.memOwns,SE.famsOf,SE.allIn,SE.closedE,SE.closedV,SE.closedM,SE.closedR,SE.rdLe,SE.S.refs,SE.S0.refs,SE.CV.refs,SE.refsL,SE.refsT,SE.S.ren,SE.S0.ren,SE.CV.ren,SE.Res.refs,SE.Res.ren,min_i64,max_i64,min_u16,max_u16,min_u8,max_u8,min_u64,max_u64,S.s.injEq,S0.c.injEq,CV.d.injEq,DC.val.injEq,Value.int.injEq,Value.bool.injEq,Value.string.injEq,eta_fact,eta_atom,eta_asn,eta_state,List.mem_cons,List.mem_nil_iff,or_false,false_or,or_true,true_or,List.map_cons,List.map_nil,Option.map_some,Option.map_none,Option.bind_some,Option.getD_some,Option.getD_none,Nat.reduceEqDiff,Nat.reduceAdd,Nat.reduceMul,Nat.reduceLeDiff,↓reduceIte,reduceCtorEq,true_and,and_true,and_self,forall_const,implies_true,true_implies,List.getElem?_toArray,List.getElem?_cons_succ,List.getElem?_cons_zero,List.append_nil,List.nil_append,List.cons_append,List.length_cons,List.length_nil,List.take_succ_cons,List.take_zero,List.drop_succ_cons,List.drop_zero,List.set_cons_zero,List.set_cons_succ,List.map_cons,List.map_nil,Nat.add_zero,Nat.zero_add,forall_eq,Prod.forall,Bool.not_true,Bool.not_false,Nat.lt_irrefl,Nat.zero_lt_succ,List.singleton_append,Prod.mk.injEq,Nat.zero_mul,Nat.one_mul,Nat.reducePow,Option.some.injEq,not_false_eq_true,Int.toNat_natCast,Nat.sub_zero,Nat.le_refl,Bool.or_false,Bool.false_or,Bool.or_true,Bool.true_or,Bool.and_true,Bool.true_and,Bool.and_false,Bool.false_and,Bool.or_self,Bool.and_self,List.append_eq,and_false,false_and]
 all_goals (try simp only [vcIf_iff,decide_eq_true_eq,decide_eq_false_iff_not,bne_iff_ne,ne_eq,beq_iff_eq,beq_eq_false_iff_ne])
 have hq:p+1 - 1=p:=by omega
 simp only [hq]
 have hA:=byte_bd code
 generalize hL:(code.length:Int)=L at *
 have hL0:0<=L:=by omega
 have hm:∀ x:Int,0<=x->¬ L=0->0<=x.tmod L/\x.tmod L < L:=fun x h0 h1=>tmod_bd h0 (by omega)
 refine ⟨by omega,fun _ _=>by omega,fun hn=>⟨fun _ _=>by omega,fun hl=>⟨by omega,fun hpl=>?_,fun hpl=>?_⟩⟩⟩
 ·have a1:=hA p.toNat
  have m1:=tmod_bd (n:=n) a1.1 (by omega)
  generalize ((code.getD p.toNat 0).toNat:Int)=A at *
  exact ⟨by omega,by omega,by omega,fun _=>m1,fun h=>by omega⟩
 ·have m1:=hm p h2 hl
  have m2:=hm (p * 7+3) (by omega) hl
  have a1:=hA (p.tmod L).toNat
  have a2:=hA ((p * 7+3).tmod L).toNat
  have d1:=tdiv_bd (x:=p) (n:=L) h2 (by omega)
  generalize ((code.getD (p.tmod L).toNat 0).toNat:Int)=A at *
  generalize ((code.getD ((p * 7+3).tmod L).toNat 0).toNat:Int)=B at *
  generalize p.tdiv L=D at *
  have d2:=tdiv_bd (x:=A * 131+B * 1117+p * 29+D * 53) (n:=64) (by omega) (by omega)
  have x1:=xor_i64_pos (a:=A * 131+B * 1117+p * 29+D * 53) (b:=(A * 131+B * 1117+p * 29+D * 53).tdiv 64) (by omega) (by omega) d2.1 (by omega)
  have m3:=tmod_bd (n:=n) x1 (by omega)
  repeat' (first | apply And.intro | intro _)
  all_goals (first | assumption | omega | exact m3.1 | exact m3.2)
theorem ok_pick:FnOk Try.prog E 43 c_pick :=
 pick_ok tabOk mix (perm:=fun _=>[]) Try.func43 (by kernel_rfl) (by decide) (by kernel_rfl) (by decide) (by kernel_rfl) (fun code v p n k h1 h2 h3 h4=>vc_pick code v p n k h1 h2 h3 h4)
abbrev c_num:Con:=⟨[.rdr,.sl .int],[.int],fun (rr,l,_)=>0 < l.length/\l.length<=1000,.inr fun (rr,l,_) r=>r.1 ∈ l,fun (rr,l,_)=>1⟩
abbrev L_num:List (FuncId × Con):=[(43,c_pick)]
abbrev P_num:List (FuncId × PT):=[]
def VC_num (rr:Unit) (l:List Int) (k:Nat):Prop:=True/\True/\True/\True/\True/\(True/\(k+1<=1099511627776)/\True)/\(∀ r1:Int × Unit,(pickP ((l.length:Nat):Int) r1.1)->(0<=r1.1/\r1.1 < ((l.length:Nat):Int))/\True/\True/\((l.getD r1.1.toNat (0:Int)) ∈ l)/\True/\True/\True/\True/\(k+1<=k+1))
theorem vcn_num (rr:Unit) (l:List Int) (k:Nat) (hp:0 < l.length/\l.length<=1000) (hk:k+(1)<=1099511627776):VC_num rr l k:=by
 unfold VC_num
 simp only [cln,Nat.reduceEqDiff,Nat.reduceLeDiff,Nat.reduceAdd]
 all_goals (try simp only [opn])
 all_goals (repeat' (first | apply And.intro | intro _))
 all_goals (first | omega | (simp_all;done) | grind [getD_mem,pickP])
theorem ok_num:FnOk Try.prog E 80 c_num :=
 fn_okQ (l:=L_num) (lp:=P_num) (hp:=fun _=>false) (gcs:=fun _=>none) (perm:=fun _=>[]) tabOk mix ⟨ok_pick,trivial⟩ trivial Try.func80 rfl (by kernel_rfl) (by decide) (by kernel_rfl) (anns:=fun x _=>fun _ _=>none) (fun ⟨rr,l,_⟩ k hp hk=>Eq.mp (by kernel_rfl) (vcn_num rr l k hp (hk rfl))) (fun ⟨_,l,_⟩ hp=>⟨(l.getD 0 0,()),getD_mem hp.1⟩)
abbrev c_l8Simple:Con:=⟨[.rdr],[.cmd],fun _=>True,.inr fun (rr,_) r=>r.1.test=⟨false,0,0⟩/\r.1.inv=⟨[],[]⟩/\r.1.body=[]/\r.1.els=[],fun (rr,_)=>3⟩
abbrev L_l8Simple:List (FuncId × Con):=[(43,c_pick),(80,c_num)]
abbrev P_l8Simple:List (FuncId × PT):=[]
def VC_l8Simple_1 (r1:Int × Unit) (r2:Int × Unit) (k:Nat):Prop:=True/\(TF/\TF)/\True/\(TF/\TF)/\((GCmd.mk ((1:Int)+r1.1) r2.1 (0:Int) (⟨false,(0:Int),(0:Int)⟩:GFact) (⟨([]:List GFact),([]:List GAtom)⟩:GAsn) ([]:List GCmd) ([]:List GCmd)).test=⟨false,0,0⟩/\(GCmd.mk ((1:Int)+r1.1) r2.1 (0:Int) (⟨false,(0:Int),(0:Int)⟩:GFact) (⟨([]:List GFact),([]:List GAtom)⟩:GAsn) ([]:List GCmd) ([]:List GCmd)).inv=⟨[],[]⟩/\(GCmd.mk ((1:Int)+r1.1) r2.1 (0:Int) (⟨false,(0:Int),(0:Int)⟩:GFact) (⟨([]:List GFact),([]:List GAtom)⟩:GAsn) ([]:List GCmd) ([]:List GCmd)).body=[]/\(GCmd.mk ((1:Int)+r1.1) r2.1 (0:Int) (⟨false,(0:Int),(0:Int)⟩:GFact) (⟨([]:List GFact),([]:List GAtom)⟩:GAsn) ([]:List GCmd) ([]:List GCmd)).els=[])/\True/\True/\(TF/\TF/\TF/\TF/\True)/\True/\(k+1+1+1<=k+3)
def VC_l8Simple (rr:Unit) (k:Nat):Prop:=(TN/\TN/\TN/\TN/\TN/\True)/\True/\(True/\(k+1<=1099511627776)/\True)/\(∀ r1:Int × Unit,(pickP (5:Int) r1.1)->(inK .i64 ((1:Int)+r1.1))/\True/\(TN/\True)/\((0 < ([(1:Int),(2:Int),(3:Int),(1:Int),(4:Int)]:List Int).length/\([(1:Int),(2:Int),(3:Int),(1:Int),(4:Int)]:List Int).length<=1000)/\(k+1+1<=1099511627776)/\True)/\(∀ r2:Int × Unit,(r2.1 ∈ ([(1:Int),(2:Int),(3:Int),(1:Int),(4:Int)]:List Int))->True/\(TN/\True)/\((0 < ([(2:Int),(0:Int),(1:Int),(3:Int),(5:Int)]:List Int).length/\([(2:Int),(0:Int),(1:Int),(3:Int),(5:Int)]:List Int).length<=1000)/\(k+1+1+1<=1099511627776)/\True)/\(∀ r3:Int × Unit,(r3.1 ∈ ([(2:Int),(0:Int),(1:Int),(3:Int),(5:Int)]:List Int))->(TN/\TN/\TN/\TN/\True)/\(TN/\TN/\TN/\TN/\TN/\True)/\(TF/\TF)/\True/\True/\True/\True/\(vcIf (((1:Int)+r1.1) == (4:Int)) (True/\(VC_l8Simple_1 r1 r2 k)) (True/\True/\True/\True/\(vcIf (((1:Int)+r1.1) == (5:Int)) (VC_l8Simple_1 r1 r2 k) (True/\(TF/\TF)/\((GCmd.mk ((1:Int)+r1.1) r2.1 r3.1 (⟨false,(0:Int),(0:Int)⟩:GFact) (⟨([]:List GFact),([]:List GAtom)⟩:GAsn) ([]:List GCmd) ([]:List GCmd)).test=⟨false,0,0⟩/\(GCmd.mk ((1:Int)+r1.1) r2.1 r3.1 (⟨false,(0:Int),(0:Int)⟩:GFact) (⟨([]:List GFact),([]:List GAtom)⟩:GAsn) ([]:List GCmd) ([]:List GCmd)).inv=⟨[],[]⟩/\(GCmd.mk ((1:Int)+r1.1) r2.1 r3.1 (⟨false,(0:Int),(0:Int)⟩:GFact) (⟨([]:List GFact),([]:List GAtom)⟩:GAsn) ([]:List GCmd) ([]:List GCmd)).body=[]/\(GCmd.mk ((1:Int)+r1.1) r2.1 r3.1 (⟨false,(0:Int),(0:Int)⟩:GFact) (⟨([]:List GFact),([]:List GAtom)⟩:GAsn) ([]:List GCmd) ([]:List GCmd)).els=[])/\True/\True/\(TF/\TF/\TF/\TF/\True)/\True/\(k+1+1+1<=k+3))))))))
theorem vcn_l8Simple (rr:Unit) (k:Nat) (hk:k+(3)<=1099511627776):VC_l8Simple rr k:=by
 unfold VC_l8Simple VC_l8Simple_1
 simp only [cln,Nat.reduceEqDiff,Nat.reduceLeDiff,Nat.reduceAdd]
 all_goals (try simp only [vcIf_iff,decide_eq_true_eq,decide_eq_false_iff_not,bne_iff_ne,ne_eq,beq_iff_eq,beq_eq_false_iff_ne,bne_eq_false_iff_eq,Bool.not_eq_true',Bool.not_eq_false',Int.ofNat_lt,Int.natCast_inj])
 all_goals (repeat' (first | apply And.intro | intro _))
 all_goals (repeat (cases ‹_/\_›))
 all_goals (first | omega | with_reducible assumption | with_reducible rfl | rfl | skip)
 all_goals (first | omega | (simp_all;done) | grind [pickP] | skip)
theorem ok_l8Simple:FnOk Try.prog E 57 c_l8Simple :=
 fn_okQ (l:=L_l8Simple) (lp:=P_l8Simple) (hp:=fun _=>false) (gcs:=fun _=>none) (perm:=fun _=>[]) tabOk mix ⟨ok_pick,ok_num,trivial⟩ trivial Try.func57 rfl (by kernel_rfl) (by decide) (by kernel_rfl) (anns:=fun x _=>fun _ _=>none) (fun ⟨rr,_⟩ k _ hk=>Eq.mp (by kernel_rfl) (vcn_l8Simple rr k (hk rfl))) (fun _ _=>⟨(GCmd.mk 0 0 0 ⟨false,0,0⟩ ⟨[],[]⟩ [] [],()),⟨rfl,rfl,rfl,rfl⟩⟩)
abbrev c_l8Test:Con:=⟨[.rdr],[.fact],fun _=>True,.inr fun (rr,_) r=>True,fun (rr,_)=>3⟩
abbrev L_l8Test:List (FuncId × Con):=[(43,c_pick),(80,c_num)]
abbrev P_l8Test:List (FuncId × PT):=[]
def VC_l8Test (rr:Unit) (k:Nat):Prop:=(TN/\True)/\True/\(True/\(k+1<=1099511627776)/\True)/\(∀ r1:Int × Unit,(pickP (3:Int) r1.1)->True/\True/\(TN/\True)/\((0 < ([(1:Int),(2:Int),(3:Int)]:List Int).length/\([(1:Int),(2:Int),(3:Int)]:List Int).length<=1000)/\(k+1+1<=1099511627776)/\True)/\(∀ r2:Int × Unit,(r2.1 ∈ ([(1:Int),(2:Int),(3:Int)]:List Int))->True/\(TN/\True)/\((0 < ([(0:Int),(2:Int),(0:Int),(5:Int)]:List Int).length/\([(0:Int),(2:Int),(0:Int),(5:Int)]:List Int).length<=1000)/\(k+1+1+1<=1099511627776)/\True)/\(∀ r3:Int × Unit,(r3.1 ∈ ([(0:Int),(2:Int),(0:Int),(5:Int)]:List Int))->True/\(TF/\TF)/\True/\True/\True/\True/\True/\(k+1+1+1<=k+3))))
theorem vcn_l8Test (rr:Unit) (k:Nat) (hk:k+(3)<=1099511627776):VC_l8Test rr k:=by
 unfold VC_l8Test
 simp only [cln,Nat.reduceEqDiff,Nat.reduceLeDiff,Nat.reduceAdd,GCmd.eta]
 all_goals (try simp only [vcIf_iff,decide_eq_true_eq,decide_eq_false_iff_not,bne_iff_ne,ne_eq,beq_iff_eq,beq_eq_false_iff_ne,bne_eq_false_iff_eq,Bool.not_eq_true',Bool.not_eq_false',Int.ofNat_lt,Int.natCast_inj])
 all_goals (repeat' (first | apply And.intro | intro _))
 all_goals (repeat (cases ‹_/\_›))
 all_goals (first | omega | with_reducible assumption | with_reducible rfl | rfl | with_reducible exact True.intro | skip)
theorem ok_l8Test:FnOk Try.prog E 117 c_l8Test :=
 fn_okQ (l:=L_l8Test) (lp:=P_l8Test) (hp:=fun _=>false) (gcs:=fun _=>none) (perm:=fun _=>[]) tabOk mix ⟨ok_pick,ok_num,trivial⟩ trivial Try.func117 rfl (by kernel_rfl) (by decide) (by kernel_rfl) (anns:=fun x _=>fun _ _=>none) (fun ⟨rr,_⟩ k _ hk=>Eq.mp (by kernel_rfl) (vcn_l8Test rr k (hk rfl))) (fun _ _=>⟨((⟨false,0,0⟩:GFact),()),trivial⟩)
abbrev c_l3Point:Con:=⟨[.rdr],[.atom],fun _=>True,.inr fun (rr,_) r=>atV r.1=true,fun (rr,_)=>3⟩
abbrev L_l3Point:List (FuncId × Con):=[(43,c_pick),(80,c_num)]
abbrev P_l3Point:List (FuncId × PT):=[]
def VC_l3Point (rr:Unit) (k:Nat):Prop:=(TN/\True)/\True/\(TN/\True)/\((0 < ([(1:Int),(2:Int),(3:Int),(5:Int),(4:Int),(6:Int)]:List Int).length/\([(1:Int),(2:Int),(3:Int),(5:Int),(4:Int),(6:Int)]:List Int).length<=1000)/\(k+1<=1099511627776)/\True)/\(∀ r1:Int × Unit,(r1.1 ∈ ([(1:Int),(2:Int),(3:Int),(5:Int),(4:Int),(6:Int)]:List Int))->True/\(TN/\True)/\((0 < ([(2:Int),(0:Int),(3:Int),(1:Int),(5:Int),(0:Int),(6:Int)]:List Int).length/\([(2:Int),(0:Int),(3:Int),(1:Int),(5:Int),(0:Int),(6:Int)]:List Int).length<=1000)/\(k+1+1<=1099511627776)/\True)/\(∀ r2:Int × Unit,(r2.1 ∈ ([(2:Int),(0:Int),(3:Int),(1:Int),(5:Int),(0:Int),(6:Int)]:List Int))->True/\(TN/\True)/\(TF/\TF)/\True/\(True/\(k+1+1+1<=1099511627776)/\True)/\(∀ r3:Int × Unit,(pickP (2:Int) r3.1)->True/\(vcIf (r3.1 == (0:Int)) (True/\(TF/\TF)/\True/\(TF/\TF)/\(atV (⟨(2:Int),r1.1,r2.1⟩:GAtom)=true)/\True/\True/\True/\True/\(k+1+1+1<=k+3)) (True/\(TF/\TF)/\(atV (⟨(1:Int),r1.1,r2.1⟩:GAtom)=true)/\True/\True/\True/\True/\(k+1+1+1<=k+3))))))
theorem vcn_l3Point (rr:Unit) (k:Nat) (hk:k+(3)<=1099511627776):VC_l3Point rr k:=by
 unfold VC_l3Point
 simp only [cln,Nat.reduceEqDiff,Nat.reduceLeDiff,Nat.reduceAdd]
 all_goals (try simp only [opn])
 all_goals (repeat' (first | apply And.intro | intro _))
 all_goals (first | omega | grind (splits:=40) [atV,isT])
theorem ok_l3Point:FnOk Try.prog E 129 c_l3Point :=
 fn_okQ (l:=L_l3Point) (lp:=P_l3Point) (hp:=fun _=>false) (gcs:=fun _=>none) (perm:=fun _=>[]) tabOk mix ⟨ok_pick,ok_num,trivial⟩ trivial Try.func129 rfl (by kernel_rfl) (by decide) (by kernel_rfl) (anns:=fun x _=>fun _ _=>none) (fun ⟨rr,_⟩ k _ hk=>Eq.mp (by kernel_rfl) (vcn_l3Point rr k (hk rfl))) (fun _ _=>⟨((⟨1,0,0⟩:GAtom),()),rfl⟩)
abbrev c_l3Draw:Con:=⟨[.rdr],[.asn],fun _=>True,.inr fun (rr,_) r=>asV r.1=true,fun (rr,_)=>20⟩
abbrev L_l3Draw:List (FuncId × Con):=[(43,c_pick),(80,c_num),(129,c_l3Point)]
abbrev P_l3Draw:List (FuncId × PT):=[]
def an_l3Draw (rr:Unit):Nat->St->Option Ann
 | 3,se=>some { α:=Int × List GFact,ok:=fun a=>0<=a.1/\a.1+a.2.length<=2/\a.2.all fV=true,mu:=fun a=>a.1.toNat,i0:=fun st=>(intAt st 4,([]:List GFact)),nx:=fun a st=>(a.1 - 1,slAt .fact st (.cell 63 0)),live:=[0,2,3],sets:=fun a=>[(4,sv (.int .i64 a.1))],mids:=[32,33,47],blks:=fun a=>[(63,.blk [.own 7,.own 8])],owns:=fun a=>[⟨7,.cell 63 0,.fact,a.2⟩,⟨8,.cell 63 1,.atom,([]:List GAtom)⟩],rd:=fun r a=>rdPlus r (3 * (2 - a.1.toNat)),base:=100000 }
 | 7,se=>some { α:=Int × List GFact × List GAtom,ok:=fun a=>0<=a.1/\a.1+a.2.2.length<=4/\a.2.1.length<=2/\a.2.1.all fV=true/\a.2.2.all atV=true,mu:=fun a=>a.1.toNat,i0:=fun st=>(intAt st 5,slAt .fact st (.cell 63 0),([]:List GAtom)),nx:=fun a st=>(intAt st 5,slAt .fact st (.cell 63 0),slAt .atom st (.cell 63 1)),live:=[0,2,3],sets:=fun a=>[(5,sv (.int .i64 a.1))],mids:=[32,33,47],blks:=fun a=>[(63,.blk [.own 7,.own 8])],owns:=fun a=>[⟨7,.cell 63 0,.fact,a.2.1⟩,⟨8,.cell 63 1,.atom,a.2.2⟩],rd:=fun r a=>rdPlus r (3 * (4 - a.1.toNat)),base:=200000 }
 | _,_=>none
def VC_l3Draw_1 :Prop:=RM [some (.sl 32 .fact ([]:List GFact)),some (.sl 33 .atom ([]:List GAtom)),some (.blk [.own 32,.own 33])]
def VC_l3Draw_2 (r6:Int × Unit) (a2:Int × List GFact) (k:Nat):Prop:=(((0<=(r6.1,a2.2,([]:List GAtom)).1/\(r6.1,a2.2,([]:List GAtom)).1+(r6.1,a2.2,([]:List GAtom)).2.2.length<=4/\(r6.1,a2.2,([]:List GAtom)).2.1.length<=2/\(r6.1,a2.2,([]:List GAtom)).2.1.all fV=true/\(r6.1,a2.2,([]:List GAtom)).2.2.all atV=true)/\TT/\(RL [.s (.c (.rdr)),.s (.c (.ptr 47 0)),.s (.c (.ptr 63 0))])/\(([.s (.c (.d (.val (.int .i64 r6.1))))]:List S)=[.s (.c (.d (.val (.int .i64 ((r6.1,a2.2,([]:List GAtom)).1:Int)))))])/\VC_l3Draw_1/\(RM [some (.blk [.own 7,.own 8])])/\(((some a2.2:Option (List GFact))=some ((r6.1,a2.2,([]:List GAtom)).2.1))/\((some ([]:List GAtom):Option (List GAtom))=some ((r6.1,a2.2,([]:List GAtom)).2.2))/\True)/\(k+1+(3 * (2 - a2.1.toNat))+1<=k+1+(3 * (2 - a2.1.toNat))+1+(3 * (4 - (r6.1,a2.2,([]:List GAtom)).1.toNat))/\k+1+(3 * (2 - a2.1.toNat))+1+(3 * (4 - (r6.1,a2.2,([]:List GAtom)).1.toNat))<=1099511627776))/\(∀ a7:Int × List GFact × List GAtom,(0<=a7.1/\a7.1+a7.2.2.length<=4/\a7.2.1.length<=2/\a7.2.1.all fV=true/\a7.2.2.all atV=true)->True/\True/\(vcIf (decide ((0:Int) < (a7.1:Int))) (True/\True/\True/\(True/\(k+1+(3 * (2 - a2.1.toNat))+1+(3 * (4 - a7.1.toNat))+3<=1099511627776)/\True)/\(∀ r8:GAtom × Unit,(atV r8.1=true)->(TN/\True)/\(TN/\TF/\TF/\(a7.2.2.length+([r8.1]:List GAtom).length<=4294967296))/\True/\(TF/\TF)/\True/\(inK .i64 ((a7.1:Int) - (1:Int)))/\True/\(0<=(((a7.1:Int) - (1:Int)),a7.2.1,(a7.2.2 ++ ([r8.1]:List GAtom))).1/\(((a7.1:Int) - (1:Int)),a7.2.1,(a7.2.2 ++ ([r8.1]:List GAtom))).1+(((a7.1:Int) - (1:Int)),a7.2.1,(a7.2.2 ++ ([r8.1]:List GAtom))).2.2.length<=4/\(((a7.1:Int) - (1:Int)),a7.2.1,(a7.2.2 ++ ([r8.1]:List GAtom))).2.1.length<=2/\(((a7.1:Int) - (1:Int)),a7.2.1,(a7.2.2 ++ ([r8.1]:List GAtom))).2.1.all fV=true/\(((a7.1:Int) - (1:Int)),a7.2.1,(a7.2.2 ++ ([r8.1]:List GAtom))).2.2.all atV=true)/\((((a7.1:Int) - (1:Int)),a7.2.1,(a7.2.2 ++ ([r8.1]:List GAtom))).1.toNat < a7.1.toNat)/\TT/\(RL [.s (.c (.rdr)),.s (.c (.ptr 47 0)),.s (.c (.ptr 63 0))])/\(([.s (.c (.d (.val (.int .i64 ((a7.1:Int) - (1:Int))))))]:List S)=[.s (.c (.d (.val (.int .i64 ((((a7.1:Int) - (1:Int)),a7.2.1,(a7.2.2 ++ ([r8.1]:List GAtom))).1:Int)))))])/\VC_l3Draw_1/\(RM [some (.blk [.own 7,.own 200656])])/\(((some a7.2.1:Option (List GFact))=some ((((a7.1:Int) - (1:Int)),a7.2.1,(a7.2.2 ++ ([r8.1]:List GAtom))).2.1))/\((some (a7.2.2 ++ ([r8.1]:List GAtom)):Option (List GAtom))=some ((((a7.1:Int) - (1:Int)),a7.2.1,(a7.2.2 ++ ([r8.1]:List GAtom))).2.2))/\True)/\(k+1+(3 * (2 - a2.1.toNat))+1+(3 * (4 - a7.1.toNat))+3<=k+1+(3 * (2 - a2.1.toNat))+1+(3 * (4 - (((a7.1:Int) - (1:Int)),a7.2.1,(a7.2.2 ++ ([r8.1]:List GAtom))).1.toNat))/\k+1+(3 * (2 - a2.1.toNat))+1+(3 * (4 - (((a7.1:Int) - (1:Int)),a7.2.1,(a7.2.2 ++ ([r8.1]:List GAtom))).1.toNat))<=1099511627776))) (True/\(TF/\TF)/\(asV (⟨a7.2.1,a7.2.2⟩:GAsn)=true)/\((((7:Nat) ≠ 8)/\True)/\True/\True)/\((TF/\TF)/\(TF/\TF)/\True)/\True/\(True/\True/\True)/\(k+1+(3 * (2 - a2.1.toNat))+1+(3 * (4 - a7.1.toNat))<=k+20)))))
def VC_l3Draw_3 (r1:Int × Unit) (k:Nat):Prop:=(((0<=(r1.1,([]:List GFact)).1/\(r1.1,([]:List GFact)).1+(r1.1,([]:List GFact)).2.length<=2/\(r1.1,([]:List GFact)).2.all fV=true)/\TT/\(RL [.s (.c (.rdr)),.s (.c (.ptr 47 0)),.s (.c (.ptr 63 0))])/\(([.s (.c (.d (.val (.int .i64 r1.1))))]:List S)=[.s (.c (.d (.val (.int .i64 ((r1.1,([]:List GFact)).1:Int)))))])/\VC_l3Draw_1/\(RM [some (.blk [.own 96,.own 97])])/\(((some ([]:List GFact):Option (List GFact))=some ((r1.1,([]:List GFact)).2))/\((some ([]:List GAtom):Option (List GAtom))=some ([]:List GAtom))/\True)/\(k+1<=k+1+(3 * (2 - (r1.1,([]:List GFact)).1.toNat))/\k+1+(3 * (2 - (r1.1,([]:List GFact)).1.toNat))<=1099511627776))/\(∀ a2:Int × List GFact,(0<=a2.1/\a2.1+a2.2.length<=2/\a2.2.all fV=true)->True/\True/\(vcIf (decide ((0:Int) < (a2.1:Int))) (True/\True/\True/\(True/\(k+1+(3 * (2 - a2.1.toNat))+1<=1099511627776)/\True)/\(∀ r3:Int × Unit,(pickP (3:Int) r3.1)->True/\True/\(TN/\True)/\((0 < ([(1:Int),(2:Int),(3:Int),(5:Int)]:List Int).length/\([(1:Int),(2:Int),(3:Int),(5:Int)]:List Int).length<=1000)/\(k+1+(3 * (2 - a2.1.toNat))+1+1<=1099511627776)/\True)/\(∀ r4:Int × Unit,(r4.1 ∈ ([(1:Int),(2:Int),(3:Int),(5:Int)]:List Int))->True/\(TN/\True)/\((0 < ([(0:Int),(2:Int),(3:Int),(1:Int),(6:Int)]:List Int).length/\([(0:Int),(2:Int),(3:Int),(1:Int),(6:Int)]:List Int).length<=1000)/\(k+1+(3 * (2 - a2.1.toNat))+1+1+1<=1099511627776)/\True)/\(∀ r5:Int × Unit,(r5.1 ∈ ([(0:Int),(2:Int),(3:Int),(1:Int),(6:Int)]:List Int))->True/\(TN/\True)/\(TN/\TF/\TF/\(a2.2.length+([(⟨r3.1 == (0:Int),r4.1,r5.1⟩:GFact)]:List GFact).length<=4294967296))/\True/\(TF/\TF)/\True/\(inK .i64 ((a2.1:Int) - (1:Int)))/\True/\(0<=(a2.1 - 1,(a2.2 ++ ([(⟨r3.1 == (0:Int),r4.1,r5.1⟩:GFact)]:List GFact))).1/\(a2.1 - 1,(a2.2 ++ ([(⟨r3.1 == (0:Int),r4.1,r5.1⟩:GFact)]:List GFact))).1+(a2.1 - 1,(a2.2 ++ ([(⟨r3.1 == (0:Int),r4.1,r5.1⟩:GFact)]:List GFact))).2.length<=2/\(a2.1 - 1,(a2.2 ++ ([(⟨r3.1 == (0:Int),r4.1,r5.1⟩:GFact)]:List GFact))).2.all fV=true)/\((a2.1 - 1,(a2.2 ++ ([(⟨r3.1 == (0:Int),r4.1,r5.1⟩:GFact)]:List GFact))).1.toNat < a2.1.toNat)/\TT/\(RL [.s (.c (.rdr)),.s (.c (.ptr 47 0)),.s (.c (.ptr 63 0))])/\(([.s (.c (.d (.val (.int .i64 ((a2.1:Int) - (1:Int))))))]:List S)=[.s (.c (.d (.val (.int .i64 ((a2.1 - 1,(a2.2 ++ ([(⟨r3.1 == (0:Int),r4.1,r5.1⟩:GFact)]:List GFact))).1:Int)))))])/\VC_l3Draw_1/\(RM [some (.blk [.own 100432,.own 8])])/\(((some (a2.2 ++ ([(⟨r3.1 == (0:Int),r4.1,r5.1⟩:GFact)]:List GFact)):Option (List GFact))=some ((a2.1 - 1,(a2.2 ++ ([(⟨r3.1 == (0:Int),r4.1,r5.1⟩:GFact)]:List GFact))).2))/\((some ([]:List GAtom):Option (List GAtom))=some ([]:List GAtom))/\True)/\(k+1+(3 * (2 - a2.1.toNat))+1+1+1<=k+1+(3 * (2 - (a2.1 - 1,(a2.2 ++ ([(⟨r3.1 == (0:Int),r4.1,r5.1⟩:GFact)]:List GFact))).1.toNat))/\k+1+(3 * (2 - (a2.1 - 1,(a2.2 ++ ([(⟨r3.1 == (0:Int),r4.1,r5.1⟩:GFact)]:List GFact))).1.toNat))<=1099511627776))))) (True/\(TN/\True)/\((0 < ([(2:Int),(1:Int),(3:Int),(2:Int),(0:Int),(4:Int)]:List Int).length/\([(2:Int),(1:Int),(3:Int),(2:Int),(0:Int),(4:Int)]:List Int).length<=1000)/\(k+1+(3 * (2 - a2.1.toNat))+1<=1099511627776)/\True)/\(∀ r6:Int × Unit,(r6.1 ∈ ([(2:Int),(1:Int),(3:Int),(2:Int),(0:Int),(4:Int)]:List Int))->True/\(VC_l3Draw_2 r6 a2 k))))))
def VC_l3Draw (rr:Unit) (k:Nat):Prop:=(TN/\TN/\TN/\True)/\(TN/\TN/\True)/\(TN/\TN/\TN/\True)/\(TF/\TF)/\True/\(TN/\True)/\((0 < ([(1:Int),(0:Int),(2:Int),(0:Int)]:List Int).length/\([(1:Int),(0:Int),(2:Int),(0:Int)]:List Int).length<=1000)/\(k+1<=1099511627776)/\True)/\(∀ r1:Int × Unit,(r1.1 ∈ ([(1:Int),(0:Int),(2:Int),(0:Int)]:List Int))->True/\(VC_l3Draw_3 r1 k))
theorem vcn_l3Draw (rr:Unit) (k:Nat) (hk:k+(20)<=1099511627776):VC_l3Draw rr k:=by
 unfold VC_l3Draw VC_l3Draw_3 VC_l3Draw_2 VC_l3Draw_1
 simp only [cln,Nat.reduceEqDiff,Nat.reduceLeDiff,Nat.reduceAdd]
 all_goals (try simp only [vcIf_iff,decide_eq_true_eq,decide_eq_false_iff_not,bne_iff_ne,ne_eq,beq_iff_eq,beq_eq_false_iff_ne,bne_eq_false_iff_eq,Bool.not_eq_true',Bool.not_eq_false',Int.ofNat_lt,Int.natCast_inj,List.mem_cons,List.mem_nil_iff,List.not_mem_nil,or_false])
 all_goals (repeat' (first | apply And.intro | intro _))
 all_goals (repeat (cases ‹_/\_›))
 all_goals (first | omega | with_reducible assumption | with_reducible rfl | rfl | with_reducible exact True.intro | skip)
 all_goals (first
  | (rw [List.length_append];simp only [List.length_cons,List.length_nil];omega)
  | (simp only [List.length_append,List.length_cons,List.length_nil];omega)
  | (simp only [List.all_append,List.all_cons,List.all_nil,Bool.and_true,Bool.and_eq_true];exact ⟨by assumption,by (first | assumption | (simp only [fV,isT,Bool.and_eq_true,decide_eq_true_eq];omega))⟩)
  | skip)
 all_goals (exact asV_of ‹_› ‹_› (by omega) ‹_›)
theorem ok_l3Draw:FnOk Try.prog E 118 c_l3Draw :=
 fn_okQ (l:=L_l3Draw) (lp:=P_l3Draw) (hp:=fun _=>false) (gcs:=fun _=>none) (perm:=fun _=>[]) tabOk mix ⟨ok_pick,ok_num,ok_l3Point,trivial⟩ trivial Try.func118 rfl (by kernel_rfl) (by decide) (by kernel_rfl) (anns:=fun x _=>an_l3Draw x.1) (fun ⟨rr,_⟩ k _ hk=>Eq.mp (by kernel_rfl) (vcn_l3Draw rr k (hk rfl))) (fun _ _=>⟨((⟨[],[]⟩:GAsn),()),rfl⟩)
end Go.Proofs.Ytkafaeeianofnaa
