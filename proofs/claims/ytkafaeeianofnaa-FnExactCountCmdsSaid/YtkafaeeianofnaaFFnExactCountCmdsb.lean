/-
  Contracts of single functions of the program, each shown by the engine: what a call returns for arguments within the contract's bounds.
-/
import Derived.Test.YtkafaeeianofnaaFFnExactCountCmdsa
import Derived.Test.YtkafaeeianofnaaEc
set_option linter.unusedSimpArgs false
set_option linter.unusedVariables false
set_option linter.unusedSectionVars false

namespace Go.Proofs.Ytkafaeeianofnaa
open Go.SE Go.RowKit
set_option linter.unusedSimpArgs false
set_option linter.unusedVariables false
set_option maxHeartbeats 1000000
set_option maxRecDepth 100000
abbrev c_l8Basic:Con:=⟨[.cmd],[.bool],fun (c,_)=>BdC c,.inl fun (c,_)=>(fokB c,()),fun _=>0⟩
abbrev L_l8Basic:List (FuncId × Con):=[(84,c_l8NoInv),(103,c_l8NoFact),(104,c_l8Prog),(105,c_l1Is)]
abbrev P_l8Basic:List (FuncId × PT):=[]
def VC_l8Basic_1 (c:GCmd):Prop:=True/\(((false,()):Bool × Unit)=(fokB c,()))/\True/\True/\True/\True/\TF
def VC_l8Basic_2 (c:GCmd):Prop:=True/\(VC_l8Basic_1 c)
def VC_l8Basic_3 (c:GCmd):Prop:=True/\True/\(VC_l8Basic_2 c)
def VC_l8Basic_4 (c:GCmd):Prop:=True/\True/\(True/\True/\True)/\True/\True/\((((isT c.b),()):Bool × Unit)=(fokB c,()))/\True/\True/\True/\True/\TF
def VC_l8Basic_5 (c:GCmd):Prop:=True/\True/\(True/\True/\True)/\True/\(vcIf (pvV c.a) (VC_l8Basic_4 c) (VC_l8Basic_2 c))
def VC_l8Basic_6 (c:GCmd):Prop:=True/\True/\True/\True/\True/\(((c.b == (0:Int),()):Bool × Unit)=(fokB c,()))/\True/\True/\True/\True/\TF
def VC_l8Basic_7 (c:GCmd):Prop:=True/\True/\(vcIf (c.kind == (3:Int)) (True/\True/\(True/\True/\True)/\True/\(vcIf (isT c.a) (VC_l8Basic_4 c) (VC_l8Basic_2 c))) (True/\True/\(vcIf (c.kind == (4:Int)) (True/\True/\(True/\True/\True)/\True/\(vcIf (pvV c.a) (VC_l8Basic_6 c) (VC_l8Basic_2 c))) (True/\True/\(vcIf (c.kind == (5:Int)) (True/\True/\(True/\True/\True)/\True/\(vcIf (isT c.a) (VC_l8Basic_6 c) (VC_l8Basic_2 c))) (VC_l8Basic_1 c))))))
def VC_l8Basic (c:GCmd) (k:Nat):Prop:=TN/\True/\True/\True/\(True/\True/\True)/\True/\True/\(vcIf (!(decide (c.test=⟨false,0,0⟩))) (True/\True/\(VC_l8Basic_3 c)) (True/\True/\((c.inv.facts.length<=281474976710656/\c.inv.atoms.length<=281474976710656)/\True/\True)/\True/\True/\True/\(vcIf (!(noA c.inv)) (VC_l8Basic_3 c) (True/\True/\True/\True/\True/\True/\(vcIf (decide ((0:Int) < ((c.body.length:Nat):Int))) (VC_l8Basic_2 c) (True/\True/\True/\True/\True/\(vcIf (decide ((0:Int) < ((c.els.length:Nat):Int))) (VC_l8Basic_1 c) (True/\True/\True/\True/\(vcIf (c.kind == (1:Int)) (vcIf (c.kind == (1:Int)) (VC_l8Basic_5 c) (VC_l8Basic_7 c)) (True/\True/\(vcIf (c.kind == (2:Int)) (VC_l8Basic_5 c) (VC_l8Basic_7 c))))))))))))
theorem vcn_l8Basic (c:GCmd) (k:Nat) (hp:BdC c):VC_l8Basic c k:=by
 unfold VC_l8Basic VC_l8Basic_7 VC_l8Basic_6 VC_l8Basic_5 VC_l8Basic_4 VC_l8Basic_3 VC_l8Basic_2 VC_l8Basic_1
 simp only [cln,Nat.reduceEqDiff,Nat.reduceLeDiff,Nat.reduceAdd,GCmd.eta]
 have b1:=hp.f
 have b2:=hp.a
 all_goals (try simp only [vcIf_iff,decide_eq_true_eq,decide_eq_false_iff_not,bne_iff_ne,ne_eq,beq_iff_eq,beq_eq_false_iff_ne,bne_eq_false_iff_eq,Bool.not_eq_true',Bool.not_eq_false',Int.ofNat_lt,Int.natCast_inj])
 all_goals (repeat' (first | apply And.intro | intro _))
 all_goals (repeat (cases ‹_/\_›))
 all_goals (first | omega | (simp_all;done) | grind [pvV,noA,fokC,fokB,prV,cvB,cvN] | skip)
theorem ok_l8Basic:FnOk Try.prog E 63 c_l8Basic :=
 fn_okQ (l:=L_l8Basic) (lp:=P_l8Basic) (hp:=fun _=>false) (gcs:=fun _=>none) (perm:=fun _=>[]) tabOk mix ⟨ok_l8NoInv,ok_l8NoFact,ok_l8Prog,ok_l1Is,trivial⟩ trivial Try.func63 rfl (by kernel_rfl) (by decide) (by kernel_rfl) (anns:=fun x _=>fun _ _=>none) (fun ⟨c,_⟩ k hp _=>Eq.mp (by kernel_rfl) (vcn_l8Basic c k hp)) tot_fn
abbrev c_sFactValid:Con:=⟨[.fact],[.bool],fun _=>True,.inl fun (f,_)=>(fV f,()),fun _=>0⟩
abbrev L_sFactValid:List (FuncId × Con):=[(105,c_l1Is)]
abbrev P_sFactValid:List (FuncId × PT):=[]
def VC_sFactValid (f:GFact) (k:Nat):Prop:=TN/\True/\True/\True/\(True/\True/\True)/\True/\(vcIf (isT f.a) (True/\True/\(True/\True/\True)/\True/\True/\((((isT f.b),()):Bool × Unit)=(fV f,()))/\True/\True/\True/\True/\TF) (True/\True/\(((false,()):Bool × Unit)=(fV f,()))/\True/\True/\True/\True/\TF))
theorem vcn_sFactValid (f:GFact) (k:Nat):VC_sFactValid f k:=by
 unfold VC_sFactValid
 simp only [cln,Nat.reduceEqDiff,Nat.reduceLeDiff,Nat.reduceAdd]
 cases h:isT f.a <;> simp [vcIf,fV,h]
theorem ok_sFactValid:FnOk Try.prog E 83 c_sFactValid :=
 fn_okQ (l:=L_sFactValid) (lp:=P_sFactValid) (hp:=fun _=>false) (gcs:=fun _=>none) (perm:=fun _=>[]) tabOk mix ⟨ok_l1Is,trivial⟩ trivial Try.func83 rfl (by kernel_rfl) (by decide) (by kernel_rfl) (anns:=fun x _=>fun _ _=>none) (fun ⟨f,_⟩ k _ _=>Eq.mp (by kernel_rfl) (vcn_sFactValid f k)) tot_fn
abbrev c_l3Atom:Con:=⟨[.atom],[.bool],fun _=>True,.inl fun (x,_)=>(atV x,()),fun _=>0⟩
abbrev L_l3Atom:List (FuncId × Con):=[(105,c_l1Is)]
abbrev P_l3Atom:List (FuncId × PT):=[]
def VC_l3Atom_1 (x:GAtom):Prop:=True/\True/\(((false,()):Bool × Unit)=(atV x,()))/\True/\True/\True/\True/\TF
def VC_l3Atom_2 (x:GAtom):Prop:=True/\True/\(True/\True/\True)/\True/\True/\(vcIf (isT x.a) (True/\True/\(True/\True/\True)/\True/\True/\((((isT x.b),()):Bool × Unit)=(atV x,()))/\True/\True/\True/\True/\TF) (VC_l3Atom_1 x))
def VC_l3Atom (x:GAtom) (k:Nat):Prop:=TN/\True/\True/\True/\True/\True/\(vcIf (x.kind == (1:Int)) (True/\True/\(VC_l3Atom_2 x)) (True/\True/\True/\True/\True/\(vcIf (x.kind == (2:Int)) (VC_l3Atom_2 x) (True/\True/\(VC_l3Atom_1 x)))))
theorem vcn_l3Atom (x:GAtom) (k:Nat):VC_l3Atom x k:=by
 unfold VC_l3Atom VC_l3Atom_2 VC_l3Atom_1
 simp only [cln,Nat.reduceEqDiff,Nat.reduceLeDiff,Nat.reduceAdd]
 all_goals (try simp only [opn])
 all_goals (repeat' (first | apply And.intro | intro _))
 all_goals (first | omega | (simp_all;done) | grind [atV])
theorem ok_l3Atom:FnOk Try.prog E 122 c_l3Atom :=
 fn_okQ (l:=L_l3Atom) (lp:=P_l3Atom) (hp:=fun _=>false) (gcs:=fun _=>none) (perm:=fun _=>[]) tabOk mix ⟨ok_l1Is,trivial⟩ trivial Try.func122 rfl (by kernel_rfl) (by decide) (by kernel_rfl) (anns:=fun x _=>fun _ _=>none) (fun ⟨x,_⟩ k _ _=>Eq.mp (by kernel_rfl) (vcn_l3Atom x k)) tot_fn
abbrev c_sFactsValid:Con:=⟨[.sl .fact],[.bool],fun (l,_)=>l.length<=281474976710656,.inl fun (l,_)=>(fsV l,()),fun _=>0⟩
abbrev L_sFactsValid:List (FuncId × Con):=[(83,c_sFactValid)]
abbrev P_sFactsValid:List (FuncId × PT):=[]
def an_sFactsValid (l:List GFact):Nat->St->Option Ann
 | 2,se=>some { α:=Nat,ok:=fun i=>i<=l.length/\(l.take i).all fV=true,mu:=fun i=>l.length - i,i0:=fun _=>0,nx:=fun a _=>(fun i=>i+1) a,live:=[0],sets:=fun i=>[(3,sv (.int .i64 i))],mids:=[],blks:=fun i=>[],owns:=fun i=>[],rd:=fun r _=>r,base:=100000 }
 | _,_=>none
def VC_sFactsValid (l:List GFact) (k:Nat):Prop:=True/\True/\((0<=l.length/\(l.take 0).all fV=true)/\TT/\(RL [.s (.c (.d (.arr .fact l)))])/\(([.s (.c (.d (.val (.int .i64 (0:Int)))))]:List S)=[.s (.c (.d (.val (.int .i64 ((0:Nat):Int)))))])/\(RM [])/\(RM [])/\True/\TT)/\(∀ i1:Nat,(i1<=l.length/\(l.take i1).all fV=true)->True/\True/\True/\True/\(vcIf (decide (((i1:Nat):Int) < ((l.length:Nat):Int))) (True/\True/\(0<=((i1:Nat):Int)/\((i1:Nat):Int) < ((l.length:Nat):Int))/\True/\(True/\True/\True)/\True/\(vcIf (!(fV (l.getD i1 (⟨false,0,0⟩:GFact)))) (True/\(((false,()):Bool × Unit)=(fsV l,()))/\True/\True/\True/\True/\TF) (True/\(inK .i64 (((i1:Nat):Int)+(1:Int)))/\True/\((i1+1)<=l.length/\(l.take (i1+1)).all fV=true)/\(l.length - (i1+1) < l.length - i1)/\TT/\(RL [.s (.c (.d (.arr .fact l)))])/\(([.s (.c (.d (.val (.int .i64 (((i1:Nat):Int)+(1:Int))))))]:List S)=[.s (.c (.d (.val (.int .i64 (((i1+1):Nat):Int)))))])/\(RM [])/\(RM [])/\True/\TT))) (True/\True/\True/\True/\(((decide (((l.length:Nat):Int)<=(12:Int)),()):Bool × Unit)=(fsV l,()))/\True/\True/\True/\True/\TF)))
theorem vcn_sFactsValid (l:List GFact) (k:Nat) (hp:l.length<=281474976710656):VC_sFactsValid l k:=by
 unfold VC_sFactsValid
 simp only [cln,Nat.reduceEqDiff,Nat.reduceLeDiff,Nat.reduceAdd]
 all_goals (try simp only [opn])
 all_goals (repeat' (first | apply And.intro | intro _))
 all_goals (first | omega | (simp_all;done) | grind [fsV,take_all,all_take,take_full,Ty.zero])
theorem ok_sFactsValid:FnOk Try.prog E 123 c_sFactsValid :=
 fn_okQ (l:=L_sFactsValid) (lp:=P_sFactsValid) (hp:=fun _=>false) (gcs:=fun _=>none) (perm:=fun _=>[]) tabOk mix ⟨ok_sFactValid,trivial⟩ trivial Try.func123 rfl (by kernel_rfl) (by decide) (by kernel_rfl) (anns:=fun x _=>an_sFactsValid x.1) (fun ⟨l,_⟩ k hp _=>Eq.mp (by kernel_rfl) (vcn_sFactsValid l k hp)) tot_fn
abbrev c_sAssertionValid:Con:=⟨[.asn],[.bool],fun (a,_)=>a.facts.length<=281474976710656/\a.atoms.length<=281474976710656,.inl fun (a,_)=>(asV a,()),fun _=>0⟩
abbrev L_sAssertionValid:List (FuncId × Con):=[(122,c_l3Atom),(123,c_sFactsValid)]
abbrev P_sAssertionValid:List (FuncId × PT):=[]
def an_sAssertionValid (a:GAsn):Nat->St->Option Ann
 | 2,se=>some { α:=Nat,ok:=fun i=>i<=a.atoms.length/\(a.atoms.take i).all atV=true,mu:=fun i=>a.atoms.length - i,i0:=fun _=>0,nx:=fun a _=>(fun i=>i+1) a,live:=[1],sets:=fun i=>[(3,sv (.int .i64 i))],mids:=[31],blks:=fun i=>[],owns:=fun i=>[],rd:=fun r _=>r,base:=100000 }
 | _,_=>none
def VC_sAssertionValid_1 (a:GAsn):Prop:=(RM [some (.blk [.d (.arr .fact a.facts),.d (.arr .atom a.atoms)])])/\(RM [])/\True/\TT
def VC_sAssertionValid_2 (a:GAsn):Prop:=True/\(((false,()):Bool × Unit)=(asV a,()))/\True/\True/\True/\True/\TF
def VC_sAssertionValid (a:GAsn) (k:Nat):Prop:=TN/\True/\True/\((0<=a.atoms.length/\(a.atoms.take 0).all atV=true)/\TT/\(RL [.s (.c (.ptr 31 0))])/\(([.s (.c (.d (.val (.int .i64 (0:Int)))))]:List S)=[.s (.c (.d (.val (.int .i64 ((0:Nat):Int)))))])/\(VC_sAssertionValid_1 a))/\(∀ i1:Nat,(i1<=a.atoms.length/\(a.atoms.take i1).all atV=true)->True/\True/\True/\True/\True/\(vcIf (decide (((i1:Nat):Int) < ((a.atoms.length:Nat):Int))) (True/\True/\True/\(0<=((i1:Nat):Int)/\((i1:Nat):Int) < ((a.atoms.length:Nat):Int))/\True/\(True/\True/\True)/\True/\(vcIf (!(atV (a.atoms.getD i1 (⟨0,0,0⟩:GAtom)))) (VC_sAssertionValid_2 a) (True/\(inK .i64 (((i1:Nat):Int)+(1:Int)))/\True/\((i1+1)<=a.atoms.length/\(a.atoms.take (i1+1)).all atV=true)/\(a.atoms.length - (i1+1) < a.atoms.length - i1)/\TT/\(RL [.s (.c (.ptr 31 0))])/\(([.s (.c (.d (.val (.int .i64 (((i1:Nat):Int)+(1:Int))))))]:List S)=[.s (.c (.d (.val (.int .i64 (((i1+1):Nat):Int)))))])/\(VC_sAssertionValid_1 a)))) (True/\True/\((a.facts.length<=281474976710656)/\True/\True)/\True/\(vcIf (fsV a.facts) (True/\True/\True/\True/\True/\True/\(((decide (((a.atoms.length:Nat):Int)<=(6:Int)),()):Bool × Unit)=(asV a,()))/\True/\True/\True/\True/\TF) (True/\(VC_sAssertionValid_2 a))))))
theorem vcn_sAssertionValid (a:GAsn) (k:Nat) (hp:a.facts.length<=281474976710656/\a.atoms.length<=281474976710656):VC_sAssertionValid a k:=by
 unfold VC_sAssertionValid VC_sAssertionValid_2 VC_sAssertionValid_1
 simp only [cln,Nat.reduceEqDiff,Nat.reduceLeDiff,Nat.reduceAdd]
 all_goals (try simp only [opn])
 all_goals (repeat' (first | apply And.intro | intro _))
 all_goals (first | omega | (simp_all;done) | grind [asV,take_all,all_take,take_full,Ty.zero])
theorem ok_sAssertionValid:FnOk Try.prog E 85 c_sAssertionValid :=
 fn_okQ (l:=L_sAssertionValid) (lp:=P_sAssertionValid) (hp:=fun _=>false) (gcs:=fun _=>none) (perm:=fun _=>[]) tabOk mix ⟨ok_l3Atom,ok_sFactsValid,trivial⟩ trivial Try.func85 rfl (by kernel_rfl) (by decide) (by kernel_rfl) (anns:=fun x _=>an_sAssertionValid x.1) (fun ⟨a,_⟩ k hp _=>Eq.mp (by kernel_rfl) (vcn_sAssertionValid a k hp)) tot_fn
abbrev c_l8Shape:Con:=⟨[.sl .cmd,.int],[.bool],fun (l,d,_)=>BdL l/\0<=d/\d<=4,.inl fun (l,d,_)=>(shL d l,()),fun _=>0⟩
abbrev mu_l8Shape:Args c_l8Shape.aks->Nat:=fun (l,d,_)=>ndL l
abbrev L_l8Shape (m:Nat):List (FuncId × Con):=[(47,c_l8Shape.lim mu_l8Shape m),(63,c_l8Basic),(83,c_sFactValid),(84,c_l8NoInv),(85,c_sAssertionValid)]
abbrev P_l8Shape:List (FuncId × PT):=[]
def an_l8Shape (l:List GCmd) (d:Int):Nat->St->Option Ann
 | 4,se=>some { α:=Nat,ok:=fun i=>i<=l.length/\(1<=d ∨ l.length=0)/\shL d (l.take i)=true,mu:=fun i=>l.length - i,i0:=fun _=>0,nx:=fun a _=>(fun i=>i+1) a,live:=[0,1],sets:=fun i=>[(5,sv (.int .i64 i))],mids:=[],blks:=fun i=>[],owns:=fun i=>[],rd:=fun r _=>r,base:=100000 }
 | _,_=>none
def VC_l8Shape_1 (d:Int) (l:List GCmd):Prop:=True/\(((false,()):Bool × Unit)=(shL d l,()))/\True/\True/\True/\True/\TF
def VC_l8Shape_2 (d:Int) (l:List GCmd):Prop:=True/\(VC_l8Shape_1 d l)
def VC_l8Shape_3 (d:Int) (l:List GCmd):Prop:=True/\True/\(VC_l8Shape_2 d l)
def VC_l8Shape_4 (d:Int) (l:List GCmd):Prop:=True/\True/\(VC_l8Shape_3 d l)
def VC_l8Shape_5 (l:List GCmd) (i1:Nat):Prop:=(((l.getD i1 (Ty.zero .cmd)).inv).facts.length<=281474976710656/\((l.getD i1 (Ty.zero .cmd)).inv).atoms.length<=281474976710656)/\True/\True
def VC_l8Shape_6 (d:Int) (l:List GCmd) (i1:Nat) (m:Nat):Prop:=True/\True/\True/\(inK .i64 (d - (1:Int)))/\(((BdL ((l.getD i1 (Ty.zero .cmd)).body)/\0<=(d - (1:Int))/\(d - (1:Int))<=4)/\ndL ((l.getD i1 (Ty.zero .cmd)).body) < m)/\True/\True)/\True/\True/\(vcIf (!(shL (d - (1:Int)) ((l.getD i1 (Ty.zero .cmd)).body))) (VC_l8Shape_2 d l) (True/\True/\True/\(inK .i64 (d - (1:Int)))/\(((BdL ((l.getD i1 (Ty.zero .cmd)).els)/\0<=(d - (1:Int))/\(d - (1:Int))<=4)/\ndL ((l.getD i1 (Ty.zero .cmd)).els) < m)/\True/\True)/\True/\True/\(vcIf (!(shL (d - (1:Int)) ((l.getD i1 (Ty.zero .cmd)).els))) (VC_l8Shape_1 d l) (True/\(inK .i64 (((i1:Nat):Int)+(1:Int)))/\True/\((i1+1)<=l.length/\(1<=d ∨ l.length=0)/\shL d (l.take (i1+1))=true)/\(l.length - (i1+1) < l.length - i1)/\TT/\(RL [.s (.c (.d (.arr .cmd l))),.s (.c (.d (.val (.int .i64 d))))])/\(([.s (.c (.d (.val (.int .i64 (((i1:Nat):Int)+(1:Int))))))]:List S)=[.s (.c (.d (.val (.int .i64 (((i1+1):Nat):Int)))))])/\(RM [])/\(RM [])/\True/\TT))))
def VC_l8Shape_7 (l:List GCmd) (d:Int) (m:Nat):Prop:=True/\((0<=l.length/\(1<=d ∨ l.length=0)/\shL d (l.take 0)=true)/\TT/\(RL [.s (.c (.d (.arr .cmd l))),.s (.c (.d (.val (.int .i64 d))))])/\(([.s (.c (.d (.val (.int .i64 (0:Int)))))]:List S)=[.s (.c (.d (.val (.int .i64 ((0:Nat):Int)))))])/\(RM [])/\(RM [])/\True/\TT)/\(∀ i1:Nat,(i1<=l.length/\(1<=d ∨ l.length=0)/\shL d (l.take i1)=true)->True/\True/\True/\True/\(vcIf (decide (((i1:Nat):Int) < ((l.length:Nat):Int))) (True/\True/\(0<=((i1:Nat):Int)/\((i1:Nat):Int) < ((l.length:Nat):Int))/\True/\(TN/\TN/\TN/\TN/\TN/\True)/\(TF/\TF)/\True/\True/\True/\True/\(vcIf (((l.getD i1 (Ty.zero .cmd)).kind) == (6:Int)) (True/\True/\True/\True/\(vcIf (((l.getD i1 (Ty.zero .cmd)).a) != (0:Int)) (VC_l8Shape_4 d l) (True/\True/\True/\True/\True/\(vcIf (((l.getD i1 (Ty.zero .cmd)).b) != (0:Int)) (VC_l8Shape_3 d l) (True/\True/\(True/\True/\True)/\True/\True/\True/\(vcIf (!(fV ((l.getD i1 (Ty.zero .cmd)).test))) (VC_l8Shape_2 d l) (True/\True/\(VC_l8Shape_5 l i1)/\True/\True/\(vcIf (!(noA ((l.getD i1 (Ty.zero .cmd)).inv))) (VC_l8Shape_1 d l) (VC_l8Shape_6 d l i1 m))))))))) (True/\True/\(vcIf (((l.getD i1 (Ty.zero .cmd)).kind) == (7:Int)) (True/\True/\True/\True/\(vcIf (((l.getD i1 (Ty.zero .cmd)).a) != (0:Int)) (True/\True/\(VC_l8Shape_4 d l)) (True/\True/\True/\True/\True/\(vcIf (((l.getD i1 (Ty.zero .cmd)).b) != (0:Int)) (VC_l8Shape_4 d l) (True/\True/\(True/\True/\True)/\True/\True/\True/\(vcIf (!(fV ((l.getD i1 (Ty.zero .cmd)).test))) (VC_l8Shape_3 d l) (True/\True/\(VC_l8Shape_5 l i1)/\True/\True/\True/\(vcIf (!(asV ((l.getD i1 (Ty.zero .cmd)).inv))) (VC_l8Shape_2 d l) (True/\True/\True/\True/\True/\(vcIf (decide ((0:Int) < ((((l.getD i1 (Ty.zero .cmd)).els).length:Nat):Int))) (VC_l8Shape_1 d l) (VC_l8Shape_6 d l i1 m))))))))))) (True/\((BdC (GCmd.mk ((l.getD i1 (Ty.zero .cmd)).kind) ((l.getD i1 (Ty.zero .cmd)).a) ((l.getD i1 (Ty.zero .cmd)).b) ((l.getD i1 (Ty.zero .cmd)).test) ((l.getD i1 (Ty.zero .cmd)).inv) ((l.getD i1 (Ty.zero .cmd)).body) ((l.getD i1 (Ty.zero .cmd)).els)))/\True/\True)/\True/\(vcIf (!(fokB (GCmd.mk ((l.getD i1 (Ty.zero .cmd)).kind) ((l.getD i1 (Ty.zero .cmd)).a) ((l.getD i1 (Ty.zero .cmd)).b) ((l.getD i1 (Ty.zero .cmd)).test) ((l.getD i1 (Ty.zero .cmd)).inv) ((l.getD i1 (Ty.zero .cmd)).body) ((l.getD i1 (Ty.zero .cmd)).els)))) (VC_l8Shape_1 d l) (VC_l8Shape_6 d l i1 m))))))) (True/\(((true,()):Bool × Unit)=(shL d l,()))/\True/\True/\True/\True/\TF)))
def VC_l8Shape (l:List GCmd) (d:Int) (m:Nat) (k:Nat):Prop:=True/\True/\True/\True/\(vcIf (decide (d < (1:Int))) (True/\True/\True/\True/\(vcIf (decide ((0:Int) < ((l.length:Nat):Int))) (VC_l8Shape_1 d l) (VC_l8Shape_7 l d m))) (True/\(VC_l8Shape_7 l d m)))
theorem vcn_l8Shape (l:List GCmd) (d:Int) (m:Nat) (k:Nat) (hp:(BdL l/\0<=d/\d<=4)/\ndL l < m+1):VC_l8Shape l d m k:=by
 unfold VC_l8Shape VC_l8Shape_7 VC_l8Shape_6 VC_l8Shape_5 VC_l8Shape_4 VC_l8Shape_3 VC_l8Shape_2 VC_l8Shape_1
 simp only [cln,Nat.reduceEqDiff,Nat.reduceLeDiff,Nat.reduceAdd,GCmd.eta]
 have hl:=hp.1.1.len
 have hg:∀ i,i < l.length->BdC (l.getD i (Ty.zero .cmd))/\ndC (l.getD i (Ty.zero .cmd))<=ndL l/\BdL (l.getD i (Ty.zero .cmd)).body/\BdL (l.getD i (Ty.zero .cmd)).els/\(l.getD i (Ty.zero .cmd)).inv.facts.length<=281474976710656/\(l.getD i (Ty.zero .cmd)).inv.atoms.length<=281474976710656 :=
  fun i hi=>⟨hp.1.1.get hi,ndL_get hi,(hp.1.1.get hi).b,(hp.1.1.get hi).e,(hp.1.1.get hi).f,(hp.1.1.get hi).a⟩
 have hn:∀ i,ndC (l.getD i (Ty.zero .cmd))=1+ndL (l.getD i (Ty.zero .cmd)).body+ndL (l.getD i (Ty.zero .cmd)).els:=fun i=>ndC_eq _
 have hs:=fun (i:Nat) (hi:i < l.length) (h1:1<=d)=>shL_step (d:=d) (z:=Ty.zero .cmd) h1 hi
 have hc:=fun (i:Nat)=>shC_eq d (l.getD i (Ty.zero .cmd))
 have hnot:=fun (i:Nat) (hi:i < l.length) (h:shC d (l.getD i (Ty.zero .cmd))=false)=>shL_not (d:=d) hi h
 have hz:=fun (h:d < 1) (h2:0 < l.length)=>shL_zero h h2
 all_goals (try simp only [vcIf_iff,decide_eq_true_eq,decide_eq_false_iff_not,bne_iff_ne,ne_eq,beq_iff_eq,beq_eq_false_iff_ne,bne_eq_false_iff_eq,Bool.not_eq_true',Bool.not_eq_false',Int.ofNat_lt,Int.natCast_inj])
 all_goals (repeat' (first | apply And.intro | intro _))
 all_goals (repeat (cases ‹_/\_›))
 all_goals (first | omega | (simp_all;done) | grind [fokC,shL_nil,List.take_length] | skip)
theorem ok_l8Shape:FnOk Try.prog E 47 c_l8Shape :=
 fn_rec (mu:=mu_l8Shape) (fun m ih=>fn_okQ (con:=c_l8Shape.lim mu_l8Shape (m+1)) (fn:=Try.f47) (l:=L_l8Shape m) (lp:=P_l8Shape) (hp:=fun _=>false) (gcs:=fun _=>none) (perm:=fun _=>[]) tabOk mix ⟨ih,ok_l8Basic,ok_sFactValid,ok_l8NoInv,ok_sAssertionValid,trivial⟩ trivial Try.func47 rfl (by kernel_rfl) (show c_l8Shape.aks.length<=Try.f47.ntmps by decide) (by kernel_rfl) (anns:=fun x _=>an_l8Shape x.1 x.2.1) (fun ⟨l,d,_⟩ k hp _=>Eq.mp (by kernel_rfl) (vcn_l8Shape l d m k hp)) tot_fn) ⟨_,_,Try.func47,by kernel_rfl,rfl⟩ tot_fn
abbrev c_l8Count:Con:=⟨[.sl .cmd,.int],[.int],fun (l,d,_)=>BdL l/\0<=d/\d<=4/\ndL l<=1048576,.inl fun (l,d,_)=>((cnL d l:Int),()),fun _=>0⟩
abbrev mu_l8Count:Args c_l8Count.aks->Nat:=fun (l,d,_)=>ndL l
abbrev L_l8Count (m:Nat):List (FuncId × Con):=[(48,c_l8Count.lim mu_l8Count m)]
abbrev P_l8Count:List (FuncId × PT):=[]
def an_l8Count (l:List GCmd) (d:Int):Nat->St->Option Ann
 | 3,se=>some { α:=Nat,ok:=fun i=>i<=l.length/\(i=0 ∨ 1<=d),mu:=fun i=>l.length - i,i0:=fun _=>0,nx:=fun a _=>(fun i=>i+1) a,live:=[0,1,4],sets:=fun i=>[(6,sv (.int .i64 i)),(5,sv (.int .i64 (cnL d (l.take i))))],mids:=[],blks:=fun i=>[],owns:=fun i=>[],rd:=fun r _=>r,base:=100000 }
 | _,_=>none
def VC_l8Count_1 (l:List GCmd) (d:Int):Prop:=RL [.s (.c (.d (.arr .cmd l))),.s (.c (.d (.val (.int .i64 d)))),.s (.c (.d (.val (.int .i64 (0:Int)))))]
def VC_l8Count_2 (d:Int) (l:List GCmd) (i1:Nat):Prop:=True/\True/\((((cnL d (l.take i1):Int),()):Int × Unit)=((cnL d l:Int),()))/\True/\True/\True/\True/\TF
def VC_l8Count (l:List GCmd) (d:Int) (m:Nat) (k:Nat):Prop:=True/\True/\True/\((0<=l.length/\(0=0 ∨ 1<=d))/\TT/\(VC_l8Count_1 l d)/\(([.s (.c (.d (.val (.int .i64 (0:Int))))),.s (.c (.d (.val (.int .i64 (0:Int)))))]:List S)=[.s (.c (.d (.val (.int .i64 ((0:Nat):Int))))),.s (.c (.d (.val (.int .i64 (cnL d (l.take 0):Int)))))])/\(RM [])/\(RM [])/\True/\TT)/\(∀ i1:Nat,(i1<=l.length/\(i1=0 ∨ 1<=d))->True/\True/\True/\True/\True/\(vcIf (decide (((i1:Nat):Int) < ((l.length:Nat):Int))) (True/\True/\True/\(vcIf (decide ((0:Int) < d)) (True/\(inK .i64 ((cnL d (l.take i1):Int)+(1:Int)))/\True/\True/\(0<=((i1:Nat):Int)/\((i1:Nat):Int) < ((l.length:Nat):Int))/\True/\True/\True/\(inK .i64 (d - (1:Int)))/\(((BdL ((l.getD i1 (Ty.zero .cmd)).body)/\0<=(d - (1:Int))/\(d - (1:Int))<=4/\ndL ((l.getD i1 (Ty.zero .cmd)).body)<=1048576)/\ndL ((l.getD i1 (Ty.zero .cmd)).body) < m)/\True/\True)/\(inK .i64 (((cnL d (l.take i1):Int)+(1:Int))+(cnL (d - (1:Int)) ((l.getD i1 (Ty.zero .cmd)).body):Int)))/\True/\True/\(0<=((i1:Nat):Int)/\((i1:Nat):Int) < ((l.length:Nat):Int))/\True/\True/\True/\(inK .i64 (d - (1:Int)))/\(((BdL ((l.getD i1 (Ty.zero .cmd)).els)/\0<=(d - (1:Int))/\(d - (1:Int))<=4/\ndL ((l.getD i1 (Ty.zero .cmd)).els)<=1048576)/\ndL ((l.getD i1 (Ty.zero .cmd)).els) < m)/\True/\True)/\(inK .i64 ((((cnL d (l.take i1):Int)+(1:Int))+(cnL (d - (1:Int)) ((l.getD i1 (Ty.zero .cmd)).body):Int))+(cnL (d - (1:Int)) ((l.getD i1 (Ty.zero .cmd)).els):Int)))/\True/\True/\(inK .i64 (((i1:Nat):Int)+(1:Int)))/\True/\((i1+1)<=l.length/\((i1+1)=0 ∨ 1<=d))/\(l.length - (i1+1) < l.length - i1)/\TT/\(VC_l8Count_1 l d)/\(([.s (.c (.d (.val (.int .i64 (((i1:Nat):Int)+(1:Int)))))),.s (.c (.d (.val (.int .i64 ((((cnL d (l.take i1):Int)+(1:Int))+(cnL (d - (1:Int)) ((l.getD i1 (Ty.zero .cmd)).body):Int))+(cnL (d - (1:Int)) ((l.getD i1 (Ty.zero .cmd)).els):Int))))))]:List S)=[.s (.c (.d (.val (.int .i64 (((i1+1):Nat):Int))))),.s (.c (.d (.val (.int .i64 (cnL d (l.take (i1+1)):Int)))))])/\(RM [])/\(RM [])/\True/\TT) (VC_l8Count_2 d l i1))) (True/\(VC_l8Count_2 d l i1))))
theorem vcn_l8Count (l:List GCmd) (d:Int) (m:Nat) (k:Nat) (hp:(BdL l/\0<=d/\d<=4/\ndL l<=1048576)/\ndL l < m+1):VC_l8Count l d m k:=by
 unfold VC_l8Count VC_l8Count_2 VC_l8Count_1
 simp only [cln,Nat.reduceEqDiff,Nat.reduceLeDiff,Nat.reduceAdd]
 have hl:=hp.1.1.len
 have hg:∀ i,i < l.length->ndC (l.getD i (Ty.zero .cmd))<=ndL l/\BdL (l.getD i (Ty.zero .cmd)).body/\BdL (l.getD i (Ty.zero .cmd)).els :=
  fun i hi=>⟨ndL_get hi,(hp.1.1.get hi).b,(hp.1.1.get hi).e⟩
 have hn:∀ i,ndC (l.getD i (Ty.zero .cmd))=1+ndL (l.getD i (Ty.zero .cmd)).body+ndL (l.getD i (Ty.zero .cmd)).els:=fun i=>ndC_eq _
 have hs:=fun (i:Nat) (hi:i < l.length) (h1:1<=d)=>cnL_step (d:=d) (z:=Ty.zero .cmd) h1 hi
 have hc:=fun (i:Nat)=>cnC_eq d (l.getD i (Ty.zero .cmd))
 have hz:=fun (h:¬ 1<=d)=>cnL_low h l
 have hb:=fun (i:Nat)=>cnL_le (d - 1) (l.getD i (Ty.zero .cmd)).body
 have he:=fun (i:Nat)=>cnL_le (d - 1) (l.getD i (Ty.zero .cmd)).els
 have ht:=fun (i:Nat)=>cnL_le d (l.take i)
 have hu:=fun (i:Nat)=>ndL_take_le l i
 all_goals (try simp only [vcIf_iff,decide_eq_true_eq,decide_eq_false_iff_not,bne_iff_ne,ne_eq,beq_iff_eq,beq_eq_false_iff_ne,bne_eq_false_iff_eq,Bool.not_eq_true',Bool.not_eq_false',Int.ofNat_lt,Int.natCast_inj])
 all_goals (repeat' (first | apply And.intro | intro _))
 all_goals (repeat (cases ‹_/\_›))
 all_goals (first | omega | (simp_all;done) | grind [cnL_nil,List.take_length] | skip)
theorem ok_l8Count:FnOk Try.prog E 48 c_l8Count :=
 fn_rec (mu:=mu_l8Count) (fun m ih=>fn_okQ (con:=c_l8Count.lim mu_l8Count (m+1)) (fn:=Try.f48) (l:=L_l8Count m) (lp:=P_l8Count) (hp:=fun _=>false) (gcs:=fun _=>none) (perm:=fun _=>[]) tabOk mix ⟨ih,trivial⟩ trivial Try.func48 rfl (by kernel_rfl) (show c_l8Count.aks.length<=Try.f48.ntmps by decide) (by kernel_rfl) (anns:=fun x _=>an_l8Count x.1 x.2.1) (fun ⟨l,d,_⟩ k hp _=>Eq.mp (by kernel_rfl) (vcn_l8Count l d m k hp)) tot_fn) ⟨_,_,Try.func48,by kernel_rfl,rfl⟩ tot_fn
abbrev c_sProgramValid:Con:=⟨[.sl .cmd],[.bool],fun (l,_)=>BdL l/\ndL l<=1048576,.inl fun (l,_)=>(prV l,()),fun _=>0⟩
abbrev L_sProgramValid:List (FuncId × Con):=[(47,c_l8Shape),(48,c_l8Count)]
abbrev P_sProgramValid:List (FuncId × PT):=[]
def VC_sProgramValid (l:List GCmd) (k:Nat):Prop:=True/\True/\((BdL l/\0<=(4:Int)/\(4:Int)<=4)/\True/\True)/\True/\(vcIf (shL (4:Int) l) (True/\((BdL l/\0<=(4:Int)/\(4:Int)<=4/\ndL l<=1048576)/\True/\True)/\True/\True/\True/\(((decide ((cnL (4:Int) l:Int)<=(16:Int)),()):Bool × Unit)=(prV l,()))/\True/\True/\True/\True/\TF) (True/\True/\(((false,()):Bool × Unit)=(prV l,()))/\True/\True/\True/\True/\TF))
theorem vcn_sProgramValid (l:List GCmd) (k:Nat) (hp:BdL l/\ndL l<=1048576):VC_sProgramValid l k:=by
 unfold VC_sProgramValid
 simp only [cln,Nat.reduceEqDiff,Nat.reduceLeDiff,Nat.reduceAdd]
 all_goals (try simp only [vcIf_iff,decide_eq_true_eq,decide_eq_false_iff_not,bne_iff_ne,ne_eq,beq_iff_eq,beq_eq_false_iff_ne,bne_eq_false_iff_eq,Bool.not_eq_true',Bool.not_eq_false',Int.ofNat_lt,Int.natCast_inj])
 all_goals (repeat' (first | apply And.intro | intro _))
 all_goals (repeat (cases ‹_/\_›))
 all_goals (first | omega | (simp_all;done) | grind [prV,cvB,cvN,cnL_sh] | skip)
theorem ok_sProgramValid:FnOk Try.prog E 18 c_sProgramValid :=
 fn_okQ (l:=L_sProgramValid) (lp:=P_sProgramValid) (hp:=fun _=>false) (gcs:=fun _=>none) (perm:=fun _=>[]) tabOk mix ⟨ok_l8Shape,ok_l8Count,trivial⟩ trivial Try.func18 rfl (by kernel_rfl) (by decide) (by kernel_rfl) (anns:=fun x _=>fun _ _=>none) (fun ⟨l,_⟩ k hp _=>Eq.mp (by kernel_rfl) (vcn_sProgramValid l k hp)) tot_fn
abbrev c_sCountCmds:Con:=⟨[.sl .cmd],[.int],fun (l,_)=>BdL l/\ndL l<=1048576,.inl fun (l,_)=>((if prV l then (ndL l:Int) else 0),()),fun _=>0⟩
abbrev L_sCountCmds:List (FuncId × Con):=[(18,c_sProgramValid),(48,c_l8Count)]
abbrev P_sCountCmds:List (FuncId × PT):=[]
def VC_sCountCmds (l:List GCmd) (k:Nat):Prop:=True/\True/\((BdL l/\ndL l<=1048576)/\True/\True)/\True/\(vcIf (!(prV l)) (True/\((((0:Int),()):Int × Unit)=((if prV l then (ndL l:Int) else 0),()))/\True/\True/\True/\True/\TF) (True/\((BdL l/\0<=(4:Int)/\(4:Int)<=4/\ndL l<=1048576)/\True/\True)/\True/\((((cnL (4:Int) l:Int),()):Int × Unit)=((if prV l then (ndL l:Int) else 0),()))/\True/\True/\True/\True/\TF))
theorem vcn_sCountCmds (l:List GCmd) (k:Nat) (hp:BdL l/\ndL l<=1048576):VC_sCountCmds l k:=by
 unfold VC_sCountCmds
 simp only [cln,Nat.reduceEqDiff,Nat.reduceLeDiff,Nat.reduceAdd]
 all_goals (try simp only [vcIf_iff,decide_eq_true_eq,decide_eq_false_iff_not,bne_iff_ne,ne_eq,beq_iff_eq,beq_eq_false_iff_ne,bne_eq_false_iff_eq,Bool.not_eq_true',Bool.not_eq_false',Int.ofNat_lt,Int.natCast_inj])
 all_goals (repeat' (first | apply And.intro | intro _))
 all_goals (repeat (cases ‹_/\_›))
 all_goals (first | omega | (simp_all;done) | grind [prV,cvB,cvN,cnL_sh] | skip)
theorem ok_sCountCmds:FnOk Try.prog E 25 c_sCountCmds :=
 fn_okQ (l:=L_sCountCmds) (lp:=P_sCountCmds) (hp:=fun _=>false) (gcs:=fun _=>none) (perm:=fun _=>[]) tabOk mix ⟨ok_sProgramValid,ok_l8Count,trivial⟩ trivial Try.func25 rfl (by kernel_rfl) (by decide) (by kernel_rfl) (anns:=fun x _=>fun _ _=>none) (fun ⟨l,_⟩ k hp _=>Eq.mp (by kernel_rfl) (vcn_sCountCmds l k hp)) tot_fn
abbrev c_isBasic:Con:=⟨[.cmd],[.bool],fun _=>True,.inl fun (c,_)=>(decide (1<=c.kind) && decide (c.kind<=5),()),fun _=>0⟩
abbrev L_isBasic:List (FuncId × Con):=[]
abbrev P_isBasic:List (FuncId × PT):=[]
def VC_isBasic (c:GCmd) (k:Nat):Prop:=TN/\True/\True/\True/\True/\True/\(vcIf (decide ((1:Int)<=c.kind)) (True/\True/\True/\True/\True/\(((decide (c.kind<=(5:Int)),()):Bool × Unit)=(decide (1<=c.kind) && decide (c.kind<=5),()))/\True/\True/\True/\True/\TF) (True/\True/\(((false,()):Bool × Unit)=(decide (1<=c.kind) && decide (c.kind<=5),()))/\True/\True/\True/\True/\TF))
theorem vcn_isBasic (c:GCmd) (k:Nat):VC_isBasic c k:=by
 unfold VC_isBasic
 simp only [cln,Nat.reduceEqDiff,Nat.reduceLeDiff,Nat.reduceAdd]
 all_goals (try simp only [vcIf_iff,decide_eq_true_eq,decide_eq_false_iff_not,bne_iff_ne,ne_eq,beq_iff_eq,beq_eq_false_iff_ne,bne_eq_false_iff_eq,Bool.not_eq_true',Bool.not_eq_false',Int.ofNat_lt,Int.natCast_inj])
 all_goals (repeat' (first | apply And.intro | intro _))
 all_goals (repeat (cases ‹_/\_›))
 all_goals (first | omega | (simp_all;done) | grind [pvV,noA,fokC,fokB,prV,cvB,cvN] | skip)
theorem ok_isBasic:FnOk Try.prog E 58 c_isBasic :=
 fn_okQ (l:=L_isBasic) (lp:=P_isBasic) (hp:=fun _=>false) (gcs:=fun _=>none) (perm:=fun _=>[]) tabOk mix trivial trivial Try.func58 rfl (by kernel_rfl) (by decide) (by kernel_rfl) (anns:=fun x _=>fun _ _=>none) (fun ⟨c,_⟩ k _ _=>Eq.mp (by kernel_rfl) (vcn_isBasic c k)) tot_fn
abbrev c_noAssn:Con:=⟨[.asn],[.bool],fun (a,_)=>a.facts.length<=281474976710656/\a.atoms.length<=281474976710656,.inl fun (a,_)=>(noA a,()),fun _=>0⟩
abbrev L_noAssn:List (FuncId × Con):=[]
abbrev P_noAssn:List (FuncId × PT):=[]
def VC_noAssn (a:GAsn) (k:Nat):Prop:=TN/\True/\True/\True/\True/\True/\True/\(vcIf (((a.facts.length:Nat):Int) == (0:Int)) (True/\True/\True/\True/\True/\True/\(((((a.atoms.length:Nat):Int) == (0:Int),()):Bool × Unit)=(noA a,()))/\True/\True/\True/\True/\TF) (True/\True/\(((false,()):Bool × Unit)=(noA a,()))/\True/\True/\True/\True/\TF))
theorem vcn_noAssn (a:GAsn) (k:Nat) (hp:a.facts.length<=281474976710656/\a.atoms.length<=281474976710656):VC_noAssn a k:=by
 unfold VC_noAssn
 simp only [cln,Nat.reduceEqDiff,Nat.reduceLeDiff,Nat.reduceAdd]
 all_goals (try simp only [vcIf_iff,decide_eq_true_eq,decide_eq_false_iff_not,bne_iff_ne,ne_eq,beq_iff_eq,beq_eq_false_iff_ne,bne_eq_false_iff_eq,Bool.not_eq_true',Bool.not_eq_false',Int.ofNat_lt,Int.natCast_inj])
 all_goals (repeat' (first | apply And.intro | intro _))
 all_goals (repeat (cases ‹_/\_›))
 all_goals (first | omega | (simp_all;done) | grind [pvV,noA,fokC,fokB,prV,cvB,cvN] | skip)
theorem ok_noAssn:FnOk Try.prog E 92 c_noAssn :=
 fn_okQ (l:=L_noAssn) (lp:=P_noAssn) (hp:=fun _=>false) (gcs:=fun _=>none) (perm:=fun _=>[]) tabOk mix trivial trivial Try.func92 rfl (by kernel_rfl) (by decide) (by kernel_rfl) (anns:=fun x _=>fun _ _=>none) (fun ⟨a,_⟩ k hp _=>Eq.mp (by kernel_rfl) (vcn_noAssn a k hp)) tot_fn
abbrev c_isPV:Con:=⟨[.int],[.bool],fun _=>True,.inl fun (t,_)=>(pvV t,()),fun _=>0⟩
abbrev L_isPV:List (FuncId × Con):=[]
abbrev P_isPV:List (FuncId × PT):=[]
def VC_isPV (t:Int) (k:Nat):Prop:=True/\True/\True/\True/\(vcIf (decide ((1:Int)<=t)) (True/\True/\True/\True/\(((decide (t<=(4:Int)),()):Bool × Unit)=(pvV t,()))/\True/\True/\True/\True/\TF) (True/\True/\(((false,()):Bool × Unit)=(pvV t,()))/\True/\True/\True/\True/\TF))
theorem vcn_isPV (t:Int) (k:Nat):VC_isPV t k:=by
 unfold VC_isPV
 simp only [cln,Nat.reduceEqDiff,Nat.reduceLeDiff,Nat.reduceAdd]
 all_goals (try simp only [vcIf_iff,decide_eq_true_eq,decide_eq_false_iff_not,bne_iff_ne,ne_eq,beq_iff_eq,beq_eq_false_iff_ne,bne_eq_false_iff_eq,Bool.not_eq_true',Bool.not_eq_false',Int.ofNat_lt,Int.natCast_inj])
 all_goals (repeat' (first | apply And.intro | intro _))
 all_goals (repeat (cases ‹_/\_›))
 all_goals (first | omega | (simp_all;done) | grind [pvV,noA,fokC,fokB,prV,cvB,cvN] | skip)
theorem ok_isPV:FnOk Try.prog E 93 c_isPV :=
 fn_okQ (l:=L_isPV) (lp:=P_isPV) (hp:=fun _=>false) (gcs:=fun _=>none) (perm:=fun _=>[]) tabOk mix trivial trivial Try.func93 rfl (by kernel_rfl) (by decide) (by kernel_rfl) (anns:=fun x _=>fun _ _=>none) (fun ⟨t,_⟩ k _ _=>Eq.mp (by kernel_rfl) (vcn_isPV t k)) tot_fn
abbrev c_isTerm:Con:=⟨[.int],[.bool],fun _=>True,.inl fun (t,_)=>(isT t,()),fun _=>0⟩
abbrev L_isTerm:List (FuncId × Con):=[]
abbrev P_isTerm:List (FuncId × PT):=[]
def VC_isTerm (t:Int) (k:Nat):Prop:=True/\True/\True/\True/\(vcIf (decide ((0:Int)<=t)) (True/\True/\True/\True/\(((decide (t<=(8:Int)),()):Bool × Unit)=(isT t,()))/\True/\True/\True/\True/\TF) (True/\True/\(((false,()):Bool × Unit)=(isT t,()))/\True/\True/\True/\True/\TF))
theorem vcn_isTerm (t:Int) (k:Nat):VC_isTerm t k:=by
 unfold VC_isTerm
 simp only [cln,Nat.reduceEqDiff,Nat.reduceLeDiff,Nat.reduceAdd]
 cases h:decide (0<=t) <;> simp [vcIf,isT,h]
theorem ok_isTerm:FnOk Try.prog E 94 c_isTerm :=
 fn_okQ (l:=L_isTerm) (lp:=P_isTerm) (hp:=fun _=>false) (gcs:=fun _=>none) (perm:=fun _=>[]) tabOk mix trivial trivial Try.func94 rfl (by kernel_rfl) (by decide) (by kernel_rfl) (anns:=fun x _=>fun _ _=>none) (fun ⟨t,_⟩ k _ _=>Eq.mp (by kernel_rfl) (vcn_isTerm t k)) tot_fn
abbrev c_iFactValid:Con:=⟨[.fact],[.bool],fun _=>True,.inl fun (f,_)=>(fV f,()),fun _=>0⟩
abbrev L_iFactValid:List (FuncId × Con):=[(94,c_isTerm)]
abbrev P_iFactValid:List (FuncId × PT):=[]
def VC_iFactValid (f:GFact) (k:Nat):Prop:=TN/\True/\True/\True/\(True/\True/\True)/\True/\(vcIf (isT f.a) (True/\True/\(True/\True/\True)/\True/\True/\((((isT f.b),()):Bool × Unit)=(fV f,()))/\True/\True/\True/\True/\TF) (True/\True/\(((false,()):Bool × Unit)=(fV f,()))/\True/\True/\True/\True/\TF))
theorem vcn_iFactValid (f:GFact) (k:Nat):VC_iFactValid f k:=by
 unfold VC_iFactValid
 simp only [cln,Nat.reduceEqDiff,Nat.reduceLeDiff,Nat.reduceAdd]
 cases h:isT f.a <;> simp [vcIf,fV,h]
theorem ok_iFactValid:FnOk Try.prog E 95 c_iFactValid :=
 fn_okQ (l:=L_iFactValid) (lp:=P_iFactValid) (hp:=fun _=>false) (gcs:=fun _=>none) (perm:=fun _=>[]) tabOk mix ⟨ok_isTerm,trivial⟩ trivial Try.func95 rfl (by kernel_rfl) (by decide) (by kernel_rfl) (anns:=fun x _=>fun _ _=>none) (fun ⟨f,_⟩ k _ _=>Eq.mp (by kernel_rfl) (vcn_iFactValid f k)) tot_fn
abbrev c_iFactsValid:Con:=⟨[.sl .fact],[.bool],fun (l,_)=>l.length<=281474976710656,.inl fun (l,_)=>(fsV l,()),fun _=>0⟩
abbrev L_iFactsValid:List (FuncId × Con):=[(95,c_iFactValid)]
abbrev P_iFactsValid:List (FuncId × PT):=[]
def an_iFactsValid (l:List GFact):Nat->St->Option Ann
 | 4,se=>some { α:=Nat,ok:=fun i=>i<=l.length/\l.length<=12/\(l.take i).all fV=true,mu:=fun i=>l.length - i,i0:=fun _=>0,nx:=fun a _=>(fun i=>i+1) a,live:=[8,9],sets:=fun i=>[(10,sv (.int .i64 i))],mids:=[],blks:=fun i=>[],owns:=fun i=>[],rd:=fun r _=>r,base:=100000 }
 | _,_=>none
def VC_iFactsValid_1 (l:List GFact):Prop:=True/\(((false,()):Bool × Unit)=(fsV l,()))/\True/\True/\True/\True/\TF
def VC_iFactsValid_2 (l:List GFact):Prop:=RL [.s (.c (.d (.arr .fact l))),.s (.c (.d (.val (.int .i64 ((l.length:Nat):Int)))))]
def VC_iFactsValid (l:List GFact) (k:Nat):Prop:=True/\True/\True/\True/\(vcIf (decide ((12:Int) < ((l.length:Nat):Int))) (VC_iFactsValid_1 l) (True/\True/\True/\((0<=l.length/\l.length<=12/\(l.take 0).all fV=true)/\TT/\(VC_iFactsValid_2 l)/\(([.s (.c (.d (.val (.int .i64 (0:Int)))))]:List S)=[.s (.c (.d (.val (.int .i64 ((0:Nat):Int)))))])/\(RM [])/\(RM [])/\True/\TT)/\(∀ i1:Nat,(i1<=l.length/\l.length<=12/\(l.take i1).all fV=true)->True/\(vcIf (decide (((i1:Nat):Int) < ((l.length:Nat):Int))) ((0<=((i1:Nat):Int)/\((i1:Nat):Int) < ((l.length:Nat):Int))/\True/\(TN/\True)/\(TF/\TF)/\True/\(True/\True/\True)/\True/\(vcIf (!(fV (l.getD i1 (⟨false,0,0⟩:GFact)))) (VC_iFactsValid_1 l) ((inK .i64 (((i1:Nat):Int)+(1:Int)))/\True/\((i1+1)<=l.length/\l.length<=12/\(l.take (i1+1)).all fV=true)/\(l.length - (i1+1) < l.length - i1)/\TT/\(VC_iFactsValid_2 l)/\(([.s (.c (.d (.val (.int .i64 (((i1:Nat):Int)+(1:Int))))))]:List S)=[.s (.c (.d (.val (.int .i64 (((i1+1):Nat):Int)))))])/\(RM [])/\(RM [])/\True/\TT))) (True/\(((true,()):Bool × Unit)=(fsV l,()))/\True/\True/\True/\True/\TF)))))
theorem vcn_iFactsValid (l:List GFact) (k:Nat) (hp:l.length<=281474976710656):VC_iFactsValid l k:=by
 unfold VC_iFactsValid VC_iFactsValid_2 VC_iFactsValid_1
 simp only [cln,Nat.reduceEqDiff,Nat.reduceLeDiff,Nat.reduceAdd]
 all_goals (try simp only [opn])
 all_goals (repeat' (first | apply And.intro | intro _))
 all_goals (first | omega | (simp_all;done) | grind [fsV,take_all,all_take,take_full,Ty.zero])
theorem ok_iFactsValid:FnOk Try.prog E 124 c_iFactsValid :=
 fn_okQ (l:=L_iFactsValid) (lp:=P_iFactsValid) (hp:=fun _=>false) (gcs:=fun _=>none) (perm:=fun _=>[]) tabOk mix ⟨ok_iFactValid,trivial⟩ trivial Try.func124 rfl (by kernel_rfl) (by decide) (by kernel_rfl) (anns:=fun x _=>an_iFactsValid x.1) (fun ⟨l,_⟩ k hp _=>Eq.mp (by kernel_rfl) (vcn_iFactsValid l k hp)) tot_fn
abbrev c_iAtomValid:Con:=⟨[.atom],[.bool],fun _=>True,.inl fun (x,_)=>(atV x,()),fun _=>0⟩
abbrev L_iAtomValid:List (FuncId × Con):=[(94,c_isTerm)]
abbrev P_iAtomValid:List (FuncId × PT):=[]
def VC_iAtomValid_1 (x:GAtom):Prop:=True/\True/\(((false,()):Bool × Unit)=(atV x,()))/\True/\True/\True/\True/\TF
def VC_iAtomValid_2 (x:GAtom):Prop:=True/\True/\(True/\True/\True)/\True/\True/\(vcIf (isT x.a) (True/\True/\(True/\True/\True)/\True/\True/\((((isT x.b),()):Bool × Unit)=(atV x,()))/\True/\True/\True/\True/\TF) (VC_iAtomValid_1 x))
def VC_iAtomValid (x:GAtom) (k:Nat):Prop:=TN/\True/\True/\True/\True/\True/\(vcIf (x.kind == (1:Int)) (True/\True/\(VC_iAtomValid_2 x)) (True/\True/\True/\True/\True/\(vcIf (x.kind == (2:Int)) (VC_iAtomValid_2 x) (True/\True/\(VC_iAtomValid_1 x)))))
theorem vcn_iAtomValid (x:GAtom) (k:Nat):VC_iAtomValid x k:=by
 unfold VC_iAtomValid VC_iAtomValid_2 VC_iAtomValid_1
 simp only [cln,Nat.reduceEqDiff,Nat.reduceLeDiff,Nat.reduceAdd]
 all_goals (try simp only [opn])
 all_goals (repeat' (first | apply And.intro | intro _))
 all_goals (first | omega | (simp_all;done) | grind [atV])
theorem ok_iAtomValid:FnOk Try.prog E 125 c_iAtomValid :=
 fn_okQ (l:=L_iAtomValid) (lp:=P_iAtomValid) (hp:=fun _=>false) (gcs:=fun _=>none) (perm:=fun _=>[]) tabOk mix ⟨ok_isTerm,trivial⟩ trivial Try.func125 rfl (by kernel_rfl) (by decide) (by kernel_rfl) (anns:=fun x _=>fun _ _=>none) (fun ⟨x,_⟩ k _ _=>Eq.mp (by kernel_rfl) (vcn_iAtomValid x k)) tot_fn
abbrev c_iAssertionValid:Con:=⟨[.asn],[.bool],fun (a,_)=>a.facts.length<=281474976710656/\a.atoms.length<=281474976710656,.inl fun (a,_)=>(asV a,()),fun _=>0⟩
abbrev L_iAssertionValid:List (FuncId × Con):=[(124,c_iFactsValid),(125,c_iAtomValid)]
abbrev P_iAssertionValid:List (FuncId × PT):=[]
def an_iAssertionValid (a:GAsn):Nat->St->Option Ann
 | 4,se=>some { α:=Nat,ok:=fun i=>i<=a.atoms.length/\a.atoms.length<=6/\fsV a.facts=true/\(a.atoms.take i).all atV=true,mu:=fun i=>a.atoms.length - i,i0:=fun _=>0,nx:=fun a _=>(fun i=>i+1) a,live:=[16,17],sets:=fun i=>[(18,sv (.int .i64 i))],mids:=[],blks:=fun i=>[],owns:=fun i=>[],rd:=fun r _=>r,base:=100000 }
 | _,_=>none
def VC_iAssertionValid_1 (a:GAsn):Prop:=True/\(((false,()):Bool × Unit)=(asV a,()))/\True/\True/\True/\True/\TF
def VC_iAssertionValid_2 (a:GAsn):Prop:=RL [.s (.c (.d (.arr .atom a.atoms))),.s (.c (.d (.val (.int .i64 ((a.atoms.length:Nat):Int)))))]
def VC_iAssertionValid (a:GAsn) (k:Nat):Prop:=TN/\True/\True/\True/\((a.facts.length<=281474976710656)/\True/\True)/\True/\True/\(vcIf (!(fsV a.facts)) (True/\(VC_iAssertionValid_1 a)) (True/\True/\True/\True/\True/\(vcIf (decide ((6:Int) < ((a.atoms.length:Nat):Int))) (VC_iAssertionValid_1 a) (True/\True/\True/\True/\((0<=a.atoms.length/\a.atoms.length<=6/\fsV a.facts=true/\(a.atoms.take 0).all atV=true)/\TT/\(VC_iAssertionValid_2 a)/\(([.s (.c (.d (.val (.int .i64 (0:Int)))))]:List S)=[.s (.c (.d (.val (.int .i64 ((0:Nat):Int)))))])/\(RM [])/\(RM [])/\True/\TT)/\(∀ i1:Nat,(i1<=a.atoms.length/\a.atoms.length<=6/\fsV a.facts=true/\(a.atoms.take i1).all atV=true)->True/\(vcIf (decide (((i1:Nat):Int) < ((a.atoms.length:Nat):Int))) ((0<=((i1:Nat):Int)/\((i1:Nat):Int) < ((a.atoms.length:Nat):Int))/\True/\(TN/\True)/\(TF/\TF)/\True/\(True/\True/\True)/\True/\(vcIf (!(atV (a.atoms.getD i1 (⟨0,0,0⟩:GAtom)))) (VC_iAssertionValid_1 a) ((inK .i64 (((i1:Nat):Int)+(1:Int)))/\True/\((i1+1)<=a.atoms.length/\a.atoms.length<=6/\fsV a.facts=true/\(a.atoms.take (i1+1)).all atV=true)/\(a.atoms.length - (i1+1) < a.atoms.length - i1)/\TT/\(VC_iAssertionValid_2 a)/\(([.s (.c (.d (.val (.int .i64 (((i1:Nat):Int)+(1:Int))))))]:List S)=[.s (.c (.d (.val (.int .i64 (((i1+1):Nat):Int)))))])/\(RM [])/\(RM [])/\True/\TT))) (True/\(((true,()):Bool × Unit)=(asV a,()))/\True/\True/\True/\True/\TF)))))))
theorem vcn_iAssertionValid (a:GAsn) (k:Nat) (hp:a.facts.length<=281474976710656/\a.atoms.length<=281474976710656):VC_iAssertionValid a k:=by
 unfold VC_iAssertionValid VC_iAssertionValid_2 VC_iAssertionValid_1
 simp only [cln,Nat.reduceEqDiff,Nat.reduceLeDiff,Nat.reduceAdd]
 all_goals (try simp only [opn])
 all_goals (repeat' (first | apply And.intro | intro _))
 all_goals (first | omega | (simp_all;done) | grind [asV,take_all,all_take,take_full,Ty.zero])
theorem ok_iAssertionValid:FnOk Try.prog E 96 c_iAssertionValid :=
 fn_okQ (l:=L_iAssertionValid) (lp:=P_iAssertionValid) (hp:=fun _=>false) (gcs:=fun _=>none) (perm:=fun _=>[]) tabOk mix ⟨ok_iFactsValid,ok_iAtomValid,trivial⟩ trivial Try.func96 rfl (by kernel_rfl) (by decide) (by kernel_rfl) (anns:=fun x _=>an_iAssertionValid x.1) (fun ⟨a,_⟩ k hp _=>Eq.mp (by kernel_rfl) (vcn_iAssertionValid a k hp)) tot_fn
abbrev c_fieldsValid:Con:=⟨[.cmd],[.bool],fun (c,_)=>BdC c,.inl fun (c,_)=>(fokC c,()),fun _=>0⟩
abbrev L_fieldsValid:List (FuncId × Con):=[(58,c_isBasic),(92,c_noAssn),(93,c_isPV),(94,c_isTerm),(95,c_iFactValid),(96,c_iAssertionValid)]
abbrev P_fieldsValid:List (FuncId × PT):=[]
def VC_fieldsValid_1 (c:GCmd):Prop:=True/\(((false,()):Bool × Unit)=(fokC c,()))/\True/\True/\True/\True/\TF
def VC_fieldsValid_2 (c:GCmd):Prop:=True/\(VC_fieldsValid_1 c)
def VC_fieldsValid_3 (c:GCmd):Prop:=True/\(VC_fieldsValid_2 c)
def VC_fieldsValid_4 (c:GCmd):Prop:=True/\(VC_fieldsValid_3 c)
def VC_fieldsValid_5 (c:GCmd):Prop:=True/\(VC_fieldsValid_4 c)
def VC_fieldsValid_6 (c:GCmd):Prop:=True/\(VC_fieldsValid_5 c)
def VC_fieldsValid_7 (c:GCmd):Prop:=True/\(VC_fieldsValid_6 c)
def VC_fieldsValid_8 (c:GCmd):Prop:=(c.inv.facts.length<=281474976710656/\c.inv.atoms.length<=281474976710656)/\True/\True
def VC_fieldsValid_9 (c:GCmd):Prop:=True/\True/\(True/\True/\True)/\True/\True/\((((isT c.b),()):Bool × Unit)=(fokC c,()))/\True/\True/\True/\True/\TF
def VC_fieldsValid_10 (c:GCmd):Prop:=True/\True/\(True/\True/\True)/\True/\(vcIf (pvV c.a) (VC_fieldsValid_9 c) (VC_fieldsValid_2 c))
def VC_fieldsValid_11 (c:GCmd):Prop:=True/\True/\True/\True/\True/\(((c.b == (0:Int),()):Bool × Unit)=(fokC c,()))/\True/\True/\True/\True/\TF
def VC_fieldsValid_12 (c:GCmd):Prop:=True/\True/\(vcIf (c.kind == (3:Int)) (True/\True/\(True/\True/\True)/\True/\(vcIf (isT c.a) (VC_fieldsValid_9 c) (VC_fieldsValid_2 c))) (True/\True/\(vcIf (c.kind == (4:Int)) (True/\True/\(True/\True/\True)/\True/\(vcIf (pvV c.a) (VC_fieldsValid_11 c) (VC_fieldsValid_2 c))) (True/\True/\(vcIf (c.kind == (5:Int)) (True/\True/\(True/\True/\True)/\True/\(vcIf (isT c.a) (VC_fieldsValid_11 c) (VC_fieldsValid_2 c))) (True/\True/\(vcIf (c.kind == (6:Int)) (True/\True/\True/\True/\(vcIf (c.a == (0:Int)) (True/\True/\True/\True/\True/\(vcIf (c.b == (0:Int)) (True/\True/\(True/\True/\True)/\True/\True/\(vcIf (fV c.test) (True/\True/\(VC_fieldsValid_8 c)/\True/\True/\((((noA c.inv),()):Bool × Unit)=(fokC c,()))/\True/\True/\True/\True/\TF) (VC_fieldsValid_2 c))) (VC_fieldsValid_4 c))) (VC_fieldsValid_6 c))) (True/\True/\(vcIf (c.kind == (7:Int)) (True/\True/\True/\True/\(vcIf (c.a == (0:Int)) (True/\True/\True/\True/\True/\(vcIf (c.b == (0:Int)) (True/\True/\(True/\True/\True)/\True/\True/\(vcIf (fV c.test) (True/\True/\(VC_fieldsValid_8 c)/\True/\True/\(vcIf (asV c.inv) (True/\True/\True/\True/\True/\True/\(((((c.els.length:Nat):Int) == (0:Int),()):Bool × Unit)=(fokC c,()))/\True/\True/\True/\True/\TF) (VC_fieldsValid_2 c))) (VC_fieldsValid_4 c))) (VC_fieldsValid_6 c))) (True/\(VC_fieldsValid_7 c)))) (VC_fieldsValid_1 c))))))))))
def VC_fieldsValid_13 (c:GCmd):Prop:=True/\True/\True/\True/\(vcIf (c.kind == (1:Int)) (vcIf (c.kind == (1:Int)) (VC_fieldsValid_10 c) (VC_fieldsValid_12 c)) (True/\True/\(vcIf (c.kind == (2:Int)) (VC_fieldsValid_10 c) (VC_fieldsValid_12 c))))
def VC_fieldsValid (c:GCmd) (k:Nat):Prop:=TN/\True/\True/\(True/\True/\True)/\True/\(vcIf (decide (1<=(GCmd.mk c.kind c.a c.b c.test c.inv c.body c.els).kind) && decide ((GCmd.mk c.kind c.a c.b c.test c.inv c.body c.els).kind<=5)) (True/\True/\True/\True/\True/\(vcIf (!((c.test.eq == false) && ((c.test.a == (0:Int)) && ((c.test.b == (0:Int)) && true)))) (VC_fieldsValid_7 c) (True/\True/\(VC_fieldsValid_8 c)/\True/\True/\True/\(vcIf (!(noA c.inv)) (VC_fieldsValid_5 c) (True/\True/\True/\True/\True/\True/\(vcIf (decide ((0:Int) < ((c.body.length:Nat):Int))) (VC_fieldsValid_3 c) (True/\True/\True/\True/\True/\True/\(vcIf (decide ((0:Int) < ((c.els.length:Nat):Int))) (VC_fieldsValid_1 c) (VC_fieldsValid_13 c))))))))) (True/\(VC_fieldsValid_13 c)))
theorem vcn_fieldsValid (c:GCmd) (k:Nat) (hp:BdC c):VC_fieldsValid c k:=by
 unfold VC_fieldsValid VC_fieldsValid_13 VC_fieldsValid_12 VC_fieldsValid_11 VC_fieldsValid_10 VC_fieldsValid_9 VC_fieldsValid_8 VC_fieldsValid_7 VC_fieldsValid_6 VC_fieldsValid_5 VC_fieldsValid_4 VC_fieldsValid_3 VC_fieldsValid_2 VC_fieldsValid_1
 simp only [cln,Nat.reduceEqDiff,Nat.reduceLeDiff,Nat.reduceAdd,GCmd.eta]
 have b1:=hp.f
 have b2:=hp.a
 have ht:=gf_zero c.test
 all_goals (try simp only [vcIf_iff,← gf_zero,decide_eq_true_eq,decide_eq_false_iff_not,bne_iff_ne,ne_eq,beq_iff_eq,beq_eq_false_iff_ne,bne_eq_false_iff_eq,Bool.not_eq_true',Bool.not_eq_false',Int.ofNat_lt,Int.natCast_inj])
 all_goals (repeat' (first | apply And.intro | intro _))
 all_goals (repeat (cases ‹_/\_›))
 all_goals (first | omega | (simp_all;done) | grind [pvV,noA,fokC,fokB,prV,cvB,cvN] | skip)
theorem ok_fieldsValid:FnOk Try.prog E 59 c_fieldsValid :=
 fn_okQ (l:=L_fieldsValid) (lp:=P_fieldsValid) (hp:=fun _=>false) (gcs:=fun _=>none) (perm:=fun _=>[]) tabOk mix ⟨ok_isBasic,ok_noAssn,ok_isPV,ok_isTerm,ok_iFactValid,ok_iAssertionValid,trivial⟩ trivial Try.func59 rfl (by kernel_rfl) (by decide) (by kernel_rfl) (anns:=fun x _=>fun _ _=>none) (fun ⟨c,_⟩ k hp _=>Eq.mp (by kernel_rfl) (vcn_fieldsValid c k hp)) tot_fn
end Go.Proofs.Ytkafaeeianofnaa
