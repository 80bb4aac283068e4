/-
  Contracts of single functions of the program, each shown by the engine: what a call returns for arguments within the contract's bounds.
-/
import Derived.Test.YtkafaeeianofnaaDoorFFnExactFormatPrograma
import Derived.Test.YtkafaeeianofnaaDoorFFnExactFormatProgramb
import Derived.Test.YtkafaeeianofnaaDoorEd
set_option linter.unusedSimpArgs false
set_option linter.unusedVariables false
set_option linter.unusedSectionVars false

namespace Go.Proofs.YtkafaeeianofnaaDoor
open Go.SE Go.RowKit
variable [Base]
set_option linter.unusedSectionVars false
set_option linter.unusedSimpArgs false
set_option linter.unusedVariables false
set_option maxHeartbeats 1000000
set_option maxRecDepth 100000
abbrev c_l8Shape:Con:=⟨[.sl .cmd,.int],[.bool],fun (l,d,_)=>BdL l/\0<=d/\d<=4,.inl fun (l,d,_)=>(shL d l,()),fun _=>0⟩
abbrev mu_l8Shape:Args c_l8Shape.aks->Nat:=fun (l,d,_)=>ndL l
abbrev L_l8Shape (m:Nat):List (FuncId × Con):=[(29,c_l8Shape.lim mu_l8Shape m),(51,c_sFactValid),(52,c_l8NoInv),(53,c_sAssertionValid),(54,c_l8Basic)]
abbrev P_l8Shape:List (FuncId × PT):=[]
def an_l8Shape (l:List GCmd) (d:Int):Nat->St->Option Ann
 | 4,se=>some { α:=Nat,ok:=fun i=>i<=l.length/\(1<=d ∨ l.length=0)/\shL d (l.take i)=true,mu:=fun i=>l.length - i,i0:=fun _=>0,nx:=fun a _=>(fun i=>i+1) a,live:=[0,1],sets:=fun i=>[(5,sv (.int .i64 i))],mids:=[],blks:=fun i=>[],owns:=fun i=>[],rd:=fun r _=>r,base:=100000 }
 | _,_=>none
def VC_l8Shape_1 (d:Int) (l:List GCmd):Prop:=True/\(((false,()):Bool × Unit)=(shL d l,()))/\True/\True/\True/\True/\TF
def VC_l8Shape_2 (d:Int) (l:List GCmd):Prop:=True/\(VC_l8Shape_1 d l)
def VC_l8Shape_3 (d:Int) (l:List GCmd):Prop:=True/\True/\(VC_l8Shape_2 d l)
def VC_l8Shape_4 (d:Int) (l:List GCmd):Prop:=True/\True/\(VC_l8Shape_3 d l)
def VC_l8Shape_5 (l:List GCmd) (i1:Nat):Prop:=(((l.getD i1 (Ty.zero .cmd)).inv).facts.length<=281474976710656/\((l.getD i1 (Ty.zero .cmd)).inv).atoms.length<=281474976710656)/\True/\True
def VC_l8Shape_6 (d:Int) (l:List GCmd) (i1:Nat) (m:Nat):Prop:=True/\True/\True/\(inK .i64 (d - (1:Int)))/\(((BdL ((l.getD i1 (Ty.zero .cmd)).body)/\0<=(d - (1:Int))/\(d - (1:Int))<=4)/\ndL ((l.getD i1 (Ty.zero .cmd)).body) < m)/\True/\True)/\True/\True/\(vcIf (!(shL (d - (1:Int)) ((l.getD i1 (Ty.zero .cmd)).body))) (VC_l8Shape_2 d l) (True/\True/\True/\(inK .i64 (d - (1:Int)))/\(((BdL ((l.getD i1 (Ty.zero .cmd)).els)/\0<=(d - (1:Int))/\(d - (1:Int))<=4)/\ndL ((l.getD i1 (Ty.zero .cmd)).els) < m)/\True/\True)/\True/\True/\(vcIf (!(shL (d - (1:Int)) ((l.getD i1 (Ty.zero .cmd)).els))) (VC_l8Shape_1 d l) (True/\(inK .i64 (((i1:Nat):Int)+(1:Int)))/\True/\((i1+1)<=l.length/\(1<=d ∨ l.length=0)/\shL d (l.take (i1+1))=true)/\(l.length - (i1+1) < l.length - i1)/\TT/\(RL [.s (.c (.d (.arr .cmd l))),.s (.c (.d (.val (.int .i64 d))))])/\(([.s (.c (.d (.val (.int .i64 (((i1:Nat):Int)+(1:Int))))))]:List S)=[.s (.c (.d (.val (.int .i64 (((i1+1):Nat):Int)))))])/\(RM [])/\(RM [])/\True/\TT))))
def VC_l8Shape_7 (l:List GCmd) (d:Int) (m:Nat):Prop:=True/\((0<=l.length/\(1<=d ∨ l.length=0)/\shL d (l.take 0)=true)/\TT/\(RL [.s (.c (.d (.arr .cmd l))),.s (.c (.d (.val (.int .i64 d))))])/\(([.s (.c (.d (.val (.int .i64 (0:Int)))))]:List S)=[.s (.c (.d (.val (.int .i64 ((0:Nat):Int)))))])/\(RM [])/\(RM [])/\True/\TT)/\(∀ i1:Nat,(i1<=l.length/\(1<=d ∨ l.length=0)/\shL d (l.take i1)=true)->True/\True/\True/\True/\(vcIf (decide (((i1:Nat):Int) < ((l.length:Nat):Int))) (True/\True/\(0<=((i1:Nat):Int)/\((i1:Nat):Int) < ((l.length:Nat):Int))/\True/\(TN/\TN/\TN/\TN/\TN/\True)/\(TF/\TF)/\True/\True/\True/\True/\(vcIf (((l.getD i1 (Ty.zero .cmd)).kind) == (6:Int)) (True/\True/\True/\True/\(vcIf (((l.getD i1 (Ty.zero .cmd)).a) != (0:Int)) (VC_l8Shape_4 d l) (True/\True/\True/\True/\True/\(vcIf (((l.getD i1 (Ty.zero .cmd)).b) != (0:Int)) (VC_l8Shape_3 d l) (True/\True/\(True/\True/\True)/\True/\True/\True/\(vcIf (!(fV ((l.getD i1 (Ty.zero .cmd)).test))) (VC_l8Shape_2 d l) (True/\True/\(VC_l8Shape_5 l i1)/\True/\True/\(vcIf (!(noA ((l.getD i1 (Ty.zero .cmd)).inv))) (VC_l8Shape_1 d l) (VC_l8Shape_6 d l i1 m))))))))) (True/\True/\(vcIf (((l.getD i1 (Ty.zero .cmd)).kind) == (7:Int)) (True/\True/\True/\True/\(vcIf (((l.getD i1 (Ty.zero .cmd)).a) != (0:Int)) (True/\True/\(VC_l8Shape_4 d l)) (True/\True/\True/\True/\True/\(vcIf (((l.getD i1 (Ty.zero .cmd)).b) != (0:Int)) (VC_l8Shape_4 d l) (True/\True/\(True/\True/\True)/\True/\True/\True/\(vcIf (!(fV ((l.getD i1 (Ty.zero .cmd)).test))) (VC_l8Shape_3 d l) (True/\True/\(VC_l8Shape_5 l i1)/\True/\True/\True/\(vcIf (!(asV ((l.getD i1 (Ty.zero .cmd)).inv))) (VC_l8Shape_2 d l) (True/\True/\True/\True/\True/\(vcIf (decide ((0:Int) < ((((l.getD i1 (Ty.zero .cmd)).els).length:Nat):Int))) (VC_l8Shape_1 d l) (VC_l8Shape_6 d l i1 m))))))))))) (True/\((BdC (GCmd.mk ((l.getD i1 (Ty.zero .cmd)).kind) ((l.getD i1 (Ty.zero .cmd)).a) ((l.getD i1 (Ty.zero .cmd)).b) ((l.getD i1 (Ty.zero .cmd)).test) ((l.getD i1 (Ty.zero .cmd)).inv) ((l.getD i1 (Ty.zero .cmd)).body) ((l.getD i1 (Ty.zero .cmd)).els)))/\True/\True)/\True/\(vcIf (!(fokB (GCmd.mk ((l.getD i1 (Ty.zero .cmd)).kind) ((l.getD i1 (Ty.zero .cmd)).a) ((l.getD i1 (Ty.zero .cmd)).b) ((l.getD i1 (Ty.zero .cmd)).test) ((l.getD i1 (Ty.zero .cmd)).inv) ((l.getD i1 (Ty.zero .cmd)).body) ((l.getD i1 (Ty.zero .cmd)).els)))) (VC_l8Shape_1 d l) (VC_l8Shape_6 d l i1 m))))))) (True/\(((true,()):Bool × Unit)=(shL d l,()))/\True/\True/\True/\True/\TF)))
def VC_l8Shape (l:List GCmd) (d:Int) (m:Nat) (k:Nat):Prop:=True/\True/\True/\True/\(vcIf (decide (d < (1:Int))) (True/\True/\True/\True/\(vcIf (decide ((0:Int) < ((l.length:Nat):Int))) (VC_l8Shape_1 d l) (VC_l8Shape_7 l d m))) (True/\(VC_l8Shape_7 l d m)))
theorem vcn_l8Shape (l:List GCmd) (d:Int) (m:Nat) (k:Nat) (hp:(BdL l/\0<=d/\d<=4)/\ndL l < m+1):VC_l8Shape l d m k:=by
 unfold VC_l8Shape VC_l8Shape_7 VC_l8Shape_6 VC_l8Shape_5 VC_l8Shape_4 VC_l8Shape_3 VC_l8Shape_2 VC_l8Shape_1
 simp only [cln,Nat.reduceEqDiff,Nat.reduceLeDiff,Nat.reduceAdd,GCmd.eta]
 have hl:=hp.1.1.len
 have hg:∀ i,i < l.length->BdC (l.getD i (Ty.zero .cmd))/\ndC (l.getD i (Ty.zero .cmd))<=ndL l/\BdL (l.getD i (Ty.zero .cmd)).body/\BdL (l.getD i (Ty.zero .cmd)).els/\(l.getD i (Ty.zero .cmd)).inv.facts.length<=281474976710656/\(l.getD i (Ty.zero .cmd)).inv.atoms.length<=281474976710656 :=
  fun i hi=>⟨hp.1.1.get hi,ndL_get hi,(hp.1.1.get hi).b,(hp.1.1.get hi).e,(hp.1.1.get hi).f,(hp.1.1.get hi).a⟩
 have hn:∀ i,ndC (l.getD i (Ty.zero .cmd))=1+ndL (l.getD i (Ty.zero .cmd)).body+ndL (l.getD i (Ty.zero .cmd)).els:=fun i=>ndC_eq _
 have hs:=fun (i:Nat) (hi:i < l.length) (h1:1<=d)=>shL_step (d:=d) (z:=Ty.zero .cmd) h1 hi
 have hc:=fun (i:Nat)=>shC_eq d (l.getD i (Ty.zero .cmd))
 have hnot:=fun (i:Nat) (hi:i < l.length) (h:shC d (l.getD i (Ty.zero .cmd))=false)=>shL_not (d:=d) hi h
 have hz:=fun (h:d < 1) (h2:0 < l.length)=>shL_zero h h2
 all_goals (try simp only [vcIf_iff,decide_eq_true_eq,decide_eq_false_iff_not,bne_iff_ne,ne_eq,beq_iff_eq,beq_eq_false_iff_ne,bne_eq_false_iff_eq,Bool.not_eq_true',Bool.not_eq_false',Int.ofNat_lt,Int.natCast_inj])
 all_goals (repeat' (first | apply And.intro | intro _))
 all_goals (repeat (cases ‹_/\_›))
 all_goals (first | omega | (simp_all;done) | grind [fokC,shL_nil,List.take_length] | skip)
theorem ok_l8Shape:FnOk Tryd.prog E 29 c_l8Shape :=
 fn_rec (mu:=mu_l8Shape) (fun m ih=>fn_okQ (con:=c_l8Shape.lim mu_l8Shape (m+1)) (fn:=Tryd.f29) (l:=L_l8Shape m) (lp:=P_l8Shape) (hp:=fun _=>false) (gcs:=fun _=>none) (perm:=fun _=>[]) tabOk mix ⟨ih,ok_sFactValid,ok_l8NoInv,ok_sAssertionValid,ok_l8Basic,trivial⟩ trivial Tryd.func29 rfl (by kernel_rfl) (show c_l8Shape.aks.length<=Tryd.f29.ntmps by decide) (by kernel_rfl) (anns:=fun x _=>an_l8Shape x.1 x.2.1) (fun ⟨l,d,_⟩ k hp _=>Eq.mp (by kernel_rfl) (vcn_l8Shape l d m k hp)) tot_fn) ⟨_,_,Tryd.func29,by kernel_rfl,rfl⟩ tot_fn
abbrev c_sProgramValid:Con:=⟨[.sl .cmd],[.bool],fun (l,_)=>BdL l/\ndL l<=1048576,.inl fun (l,_)=>(prV l,()),fun _=>0⟩
abbrev L_sProgramValid:List (FuncId × Con):=[(19,c_l8Count),(29,c_l8Shape)]
abbrev P_sProgramValid:List (FuncId × PT):=[]
def VC_sProgramValid (l:List GCmd) (k:Nat):Prop:=True/\True/\((BdL l/\0<=(4:Int)/\(4:Int)<=4)/\True/\True)/\True/\(vcIf (shL (4:Int) l) (True/\((BdL l/\0<=(4:Int)/\(4:Int)<=4/\ndL l<=1048576)/\True/\True)/\True/\True/\True/\(((decide ((cnL (4:Int) l:Int)<=(16:Int)),()):Bool × Unit)=(prV l,()))/\True/\True/\True/\True/\TF) (True/\True/\(((false,()):Bool × Unit)=(prV l,()))/\True/\True/\True/\True/\TF))
theorem vcn_sProgramValid (l:List GCmd) (k:Nat) (hp:BdL l/\ndL l<=1048576):VC_sProgramValid l k:=by
 unfold VC_sProgramValid
 simp only [cln,Nat.reduceEqDiff,Nat.reduceLeDiff,Nat.reduceAdd]
 all_goals (try simp only [vcIf_iff,decide_eq_true_eq,decide_eq_false_iff_not,bne_iff_ne,ne_eq,beq_iff_eq,beq_eq_false_iff_ne,bne_eq_false_iff_eq,Bool.not_eq_true',Bool.not_eq_false',Int.ofNat_lt,Int.natCast_inj])
 all_goals (repeat' (first | apply And.intro | intro _))
 all_goals (repeat (cases ‹_/\_›))
 all_goals (first | omega | (simp_all;done) | grind [prV,cvB,cvN,cnL_sh] | skip)
theorem ok_sProgramValid:FnOk Tryd.prog E 18 c_sProgramValid :=
 fn_okQ (l:=L_sProgramValid) (lp:=P_sProgramValid) (hp:=fun _=>false) (gcs:=fun _=>none) (perm:=fun _=>[]) tabOk mix ⟨ok_l8Count,ok_l8Shape,trivial⟩ trivial Tryd.func18 rfl (by kernel_rfl) (by decide) (by kernel_rfl) (anns:=fun x _=>fun _ _=>none) (fun ⟨l,_⟩ k hp _=>Eq.mp (by kernel_rfl) (vcn_sProgramValid l k hp)) tot_fn
abbrev c_sTermName:Con:=⟨[.int],[.str],fun _=>True,.inl fun (t,_)=>(nmB t,()),fun _=>0⟩
abbrev L_sTermName:List (FuncId × Con):=[(74,c_l1Is)]
abbrev P_sTermName:List (FuncId × PT):=[]
def VC_sTermName (t:Int) (k:Nat):Prop:=True/\True/\(True/\True/\True)/\True/\(vcIf (!(isT t)) (True/\((((⟨#[]⟩:ByteArray),()):ByteArray × Unit)=(nmB t,()))/\True/\True/\True/\True/\TF) (True/\True/\(vcIf (t == (0:Int)) (True/\((((⟨#[110,105,108]⟩:ByteArray),()):ByteArray × Unit)=(nmB t,()))/\True/\True/\True/\True/\TF) (True/\(inK .i64 (t - (1:Int)))/\True/\((0<=(t - (1:Int)))/\((t - (1:Int))<=t)/\(t<=(((⟨#[97,98,99,100,112,113,114,115]⟩:ByteArray).size:Nat):Int)))/\True/\((((⟨#[97,98,99,100,112,113,114,115]⟩:ByteArray).extract (t - (1:Int)).toNat t.toNat,()):ByteArray × Unit)=(nmB t,()))/\True/\True/\True/\True/\TF))))
theorem vcn_sTermName (t:Int) (k:Nat):VC_sTermName t k:=by
 unfold VC_sTermName
 simp only [cln,Nat.reduceEqDiff,Nat.reduceLeDiff,Nat.reduceAdd]
 have hc:=fun h h0=>nm_cut (t:=t) h h0
 all_goals (try simp only [vcIf_iff,decide_eq_true_eq,decide_eq_false_iff_not,bne_iff_ne,ne_eq,beq_iff_eq,beq_eq_false_iff_ne,bne_eq_false_iff_eq,Bool.not_eq_true',Bool.not_eq_false',Int.ofNat_lt,Int.natCast_inj])
 all_goals (repeat' (first | apply And.intro | intro _))
 all_goals (repeat (cases ‹_/\_›))
 all_goals (first | omega | with_reducible assumption | with_reducible rfl | (simp only [ba_size,ba_lit,List.size_toArray,List.length_cons,List.length_nil];omega) | skip)
 all_goals (first | (have:=(nm_cut (t:=t) ‹_› ‹_›);have e:(⟨#[97,98,99,100,112,113,114,115]⟩:ByteArray).size=8:=rfl;omega) | exact (nm_cut ‹_› ‹_›).2.2 | exact nm_not ‹_› | exact nm_zero ‹_› | skip)
theorem ok_sTermName:FnOk Tryd.prog E 59 c_sTermName :=
 fn_okQ (l:=L_sTermName) (lp:=P_sTermName) (hp:=fun _=>false) (gcs:=fun _=>none) (perm:=fun _=>[]) tabOk mix ⟨ok_l1Is,trivial⟩ trivial Tryd.func59 rfl (by kernel_rfl) (by decide) (by kernel_rfl) (anns:=fun x _=>fun _ _=>none) (fun ⟨t,_⟩ k _ _=>Eq.mp (by kernel_rfl) (vcn_sTermName t k)) tot_fn
abbrev c_l1Text:Con:=⟨[.fact],[.str],fun _=>True,.inl fun (f,_)=>(factT f,()),fun _=>0⟩
abbrev L_l1Text:List (FuncId × Con):=[(59,c_sTermName)]
abbrev P_l1Text:List (FuncId × PT):=[]
def VC_l1Text (f:GFact) (k:Nat):Prop:=TN/\True/\True/\True/\(vcIf f.eq (True/\True/\(True/\True/\True)/\((((nmB f.a).size+(⟨#[61]⟩:ByteArray).size:Nat):Int)<=9223372036854775807)/\True/\True/\(True/\True/\True)/\(((((nmB f.a) ++ (⟨#[61]⟩:ByteArray)).size+(nmB f.b).size:Nat):Int)<=9223372036854775807)/\True/\(((((nmB f.a) ++ (⟨#[61]⟩:ByteArray)) ++ (nmB f.b),()):ByteArray × Unit)=(factT f,()))/\True/\True/\True/\True/\TF) (True/\True/\(True/\True/\True)/\((((nmB f.a).size+(⟨#[33,61]⟩:ByteArray).size:Nat):Int)<=9223372036854775807)/\True/\True/\(True/\True/\True)/\(((((nmB f.a) ++ (⟨#[33,61]⟩:ByteArray)).size+(nmB f.b).size:Nat):Int)<=9223372036854775807)/\True/\(((((nmB f.a) ++ (⟨#[33,61]⟩:ByteArray)) ++ (nmB f.b),()):ByteArray × Unit)=(factT f,()))/\True/\True/\True/\True/\TF))
theorem vcn_l1Text (f:GFact) (k:Nat):VC_l1Text f k:=by
 unfold VC_l1Text
 simp only [cln,Nat.reduceEqDiff,Nat.reduceLeDiff,Nat.reduceAdd]
 have n1:=nmB_size f.a
 have n2:=nmB_size f.b
 all_goals (try simp only [vcIf_iff,decide_eq_true_eq,decide_eq_false_iff_not,bne_iff_ne,ne_eq,beq_iff_eq,beq_eq_false_iff_ne,bne_eq_false_iff_eq,Bool.not_eq_true',Bool.not_eq_false',Int.ofNat_lt,Int.natCast_inj])
 all_goals (repeat' (first | apply And.intro | intro _))
 all_goals (repeat (cases ‹_/\_›))
 all_goals (first | omega | with_reducible assumption | with_reducible rfl | (simp only [ba_size,ba_lit,List.size_toArray,List.length_cons,List.length_nil];omega) | skip)
 all_goals (first | (simp [factT, *];done) | skip)
theorem ok_l1Text:FnOk Tryd.prog E 60 c_l1Text :=
 fn_okQ (l:=L_l1Text) (lp:=P_l1Text) (hp:=fun _=>false) (gcs:=fun _=>none) (perm:=fun _=>[]) tabOk mix ⟨ok_sTermName,trivial⟩ trivial Tryd.func60 rfl (by kernel_rfl) (by decide) (by kernel_rfl) (anns:=fun x _=>fun _ _=>none) (fun ⟨f,_⟩ k _ _=>Eq.mp (by kernel_rfl) (vcn_l1Text f k)) tot_fn
abbrev c_l3Text:Con:=⟨[.asn],[.str],fun (a,_)=>asV a=true,.inl fun (a,_)=>(asnT a,()),fun _=>0⟩
abbrev L_l3Text:List (FuncId × Con):=[(59,c_sTermName),(60,c_l1Text)]
abbrev P_l3Text:List (FuncId × PT):=[]
def an_l3Text (a:GAsn):Nat->St->Option Ann
 | 3,se=>some { α:=Nat,ok:=fun i=>i<=a.facts.length,mu:=fun i=>a.facts.length - i,i0:=fun _=>0,nx:=fun a _=>(fun i=>i+1) a,live:=[1,2],sets:=fun i=>[(4,sv (.int .i64 i)),(3,sv (.string (joinB ((a.facts.take i).map factT) (⟨#[32,38,32]⟩:ByteArray))))],mids:=[31],blks:=fun i=>[],owns:=fun i=>[],rd:=fun r _=>r,base:=100000 }
 | 13,se=>some { α:=Nat,ok:=fun i=>i<=a.atoms.length,mu:=fun i=>a.atoms.length - i,i0:=fun _=>0,nx:=fun a _=>(fun i=>i+1) a,live:=[1,2],sets:=fun i=>[(5,sv (.int .i64 i)),(3,sv (.string (l3S a i)))],mids:=[31],blks:=fun i=>[],owns:=fun i=>[],rd:=fun r _=>r,base:=200000 }
 | _,_=>none
def VC_l3Text_1 (a:GAsn):Prop:=(RM [some (.blk [.d (.arr .fact a.facts),.d (.arr .atom a.atoms)])])/\(RM [])/\True/\TT
def VC_l3Text_2 (a:GAsn) (i2:Nat):Prop:=(((l3S a i2).size+(⟨#[32,124,32]⟩:ByteArray).size:Nat):Int)<=9223372036854775807
def VC_l3Text_3 (a:GAsn) (i2:Nat):Prop:=((((l3S a i2) ++ (⟨#[32,124,32]⟩:ByteArray)).size+(nmB ((a.atoms.getD i2 (⟨0,0,0⟩:GAtom)).a)).size:Nat):Int)<=9223372036854775807
def VC_l3Text_4 (a:GAsn) (i2:Nat):Prop:=(((l3S a i2).size+(⟨#[32,42,32]⟩:ByteArray).size:Nat):Int)<=9223372036854775807
def VC_l3Text_5 (a:GAsn) (i2:Nat):Prop:=((((l3S a i2) ++ (⟨#[32,42,32]⟩:ByteArray)).size+(nmB ((a.atoms.getD i2 (⟨0,0,0⟩:GAtom)).a)).size:Nat):Int)<=9223372036854775807
def VC_l3Text_6 (a:GAsn) (i2:Nat):Prop:=(True/\(vcIf (((a.atoms.getD i2 (⟨0,0,0⟩:GAtom)).kind) == (2:Int)) (True/\True/\True/\(vcIf (((i2:Nat):Int) == (0:Int)) (True/\(VC_l3Text_2 a i2)/\True/\True/\True/\True/\True/\(0<=((i2:Nat):Int)/\((i2:Nat):Int) < ((a.atoms.length:Nat):Int))/\True/\True/\(True/\True/\True)/\(VC_l3Text_3 a i2)/\True/\((((((l3S a i2) ++ (⟨#[32,124,32]⟩:ByteArray)) ++ (nmB ((a.atoms.getD i2 (⟨0,0,0⟩:GAtom)).a))).size+(⟨#[126]⟩:ByteArray).size:Nat):Int)<=9223372036854775807)/\True/\True/\True/\(0<=((i2:Nat):Int)/\((i2:Nat):Int) < ((a.atoms.length:Nat):Int))/\True/\True/\(True/\True/\True)/\(((((((l3S a i2) ++ (⟨#[32,124,32]⟩:ByteArray)) ++ (nmB ((a.atoms.getD i2 (⟨0,0,0⟩:GAtom)).a))) ++ (⟨#[126]⟩:ByteArray)).size+(nmB ((a.atoms.getD i2 (⟨0,0,0⟩:GAtom)).b)).size:Nat):Int)<=9223372036854775807)/\True/\True/\(inK .i64 (((i2:Nat):Int)+(1:Int)))/\True/\((i2+1)<=a.atoms.length)/\(a.atoms.length - (i2+1) < a.atoms.length - i2)/\TT/\(RL [.s (.c (.ptr 31 0)),.s (.c (.d (.val (.string (⟨#[]⟩:ByteArray)))))])/\(([.s (.c (.d (.val (.int .i64 (((i2:Nat):Int)+(1:Int)))))),.s (.c (.d (.val (.string (((((l3S a i2) ++ (⟨#[32,124,32]⟩:ByteArray)) ++ (nmB ((a.atoms.getD i2 (⟨0,0,0⟩:GAtom)).a))) ++ (⟨#[126]⟩:ByteArray)) ++ (nmB ((a.atoms.getD i2 (⟨0,0,0⟩:GAtom)).b)))))))]:List S)=[.s (.c (.d (.val (.int .i64 (((i2+1):Nat):Int))))),.s (.c (.d (.val (.string (l3S a (i2+1))))))])/\(VC_l3Text_1 a)) (True/\(VC_l3Text_4 a i2)/\True/\True/\True/\True/\True/\(0<=((i2:Nat):Int)/\((i2:Nat):Int) < ((a.atoms.length:Nat):Int))/\True/\True/\(True/\True/\True)/\(VC_l3Text_5 a i2)/\True/\((((((l3S a i2) ++ (⟨#[32,42,32]⟩:ByteArray)) ++ (nmB ((a.atoms.getD i2 (⟨0,0,0⟩:GAtom)).a))).size+(⟨#[126]⟩:ByteArray).size:Nat):Int)<=9223372036854775807)/\True/\True/\True/\(0<=((i2:Nat):Int)/\((i2:Nat):Int) < ((a.atoms.length:Nat):Int))/\True/\True/\(True/\True/\True)/\(((((((l3S a i2) ++ (⟨#[32,42,32]⟩:ByteArray)) ++ (nmB ((a.atoms.getD i2 (⟨0,0,0⟩:GAtom)).a))) ++ (⟨#[126]⟩:ByteArray)).size+(nmB ((a.atoms.getD i2 (⟨0,0,0⟩:GAtom)).b)).size:Nat):Int)<=9223372036854775807)/\True/\True/\(inK .i64 (((i2:Nat):Int)+(1:Int)))/\True/\((i2+1)<=a.atoms.length)/\(a.atoms.length - (i2+1) < a.atoms.length - i2)/\TT/\(RL [.s (.c (.ptr 31 0)),.s (.c (.d (.val (.string (⟨#[]⟩:ByteArray)))))])/\(([.s (.c (.d (.val (.int .i64 (((i2:Nat):Int)+(1:Int)))))),.s (.c (.d (.val (.string (((((l3S a i2) ++ (⟨#[32,42,32]⟩:ByteArray)) ++ (nmB ((a.atoms.getD i2 (⟨0,0,0⟩:GAtom)).a))) ++ (⟨#[126]⟩:ByteArray)) ++ (nmB ((a.atoms.getD i2 (⟨0,0,0⟩:GAtom)).b)))))))]:List S)=[.s (.c (.d (.val (.int .i64 (((i2+1):Nat):Int))))),.s (.c (.d (.val (.string (l3S a (i2+1))))))])/\(VC_l3Text_1 a)))) (True/\True/\(vcIf (((i2:Nat):Int) == (0:Int)) (True/\(VC_l3Text_2 a i2)/\True/\True/\True/\True/\True/\(0<=((i2:Nat):Int)/\((i2:Nat):Int) < ((a.atoms.length:Nat):Int))/\True/\True/\(True/\True/\True)/\(VC_l3Text_3 a i2)/\True/\((((((l3S a i2) ++ (⟨#[32,124,32]⟩:ByteArray)) ++ (nmB ((a.atoms.getD i2 (⟨0,0,0⟩:GAtom)).a))).size+(⟨#[62]⟩:ByteArray).size:Nat):Int)<=9223372036854775807)/\True/\True/\True/\(0<=((i2:Nat):Int)/\((i2:Nat):Int) < ((a.atoms.length:Nat):Int))/\True/\True/\(True/\True/\True)/\(((((((l3S a i2) ++ (⟨#[32,124,32]⟩:ByteArray)) ++ (nmB ((a.atoms.getD i2 (⟨0,0,0⟩:GAtom)).a))) ++ (⟨#[62]⟩:ByteArray)).size+(nmB ((a.atoms.getD i2 (⟨0,0,0⟩:GAtom)).b)).size:Nat):Int)<=9223372036854775807)/\True/\True/\(inK .i64 (((i2:Nat):Int)+(1:Int)))/\True/\((i2+1)<=a.atoms.length)/\(a.atoms.length - (i2+1) < a.atoms.length - i2)/\TT/\(RL [.s (.c (.ptr 31 0)),.s (.c (.d (.val (.string (⟨#[]⟩:ByteArray)))))])/\(([.s (.c (.d (.val (.int .i64 (((i2:Nat):Int)+(1:Int)))))),.s (.c (.d (.val (.string (((((l3S a i2) ++ (⟨#[32,124,32]⟩:ByteArray)) ++ (nmB ((a.atoms.getD i2 (⟨0,0,0⟩:GAtom)).a))) ++ (⟨#[62]⟩:ByteArray)) ++ (nmB ((a.atoms.getD i2 (⟨0,0,0⟩:GAtom)).b)))))))]:List S)=[.s (.c (.d (.val (.int .i64 (((i2+1):Nat):Int))))),.s (.c (.d (.val (.string (l3S a (i2+1))))))])/\(VC_l3Text_1 a)) (True/\(VC_l3Text_4 a i2)/\True/\True/\True/\True/\True/\(0<=((i2:Nat):Int)/\((i2:Nat):Int) < ((a.atoms.length:Nat):Int))/\True/\True/\(True/\True/\True)/\(VC_l3Text_5 a i2)/\True/\((((((l3S a i2) ++ (⟨#[32,42,32]⟩:ByteArray)) ++ (nmB ((a.atoms.getD i2 (⟨0,0,0⟩:GAtom)).a))).size+(⟨#[62]⟩:ByteArray).size:Nat):Int)<=9223372036854775807)/\True/\True/\True/\(0<=((i2:Nat):Int)/\((i2:Nat):Int) < ((a.atoms.length:Nat):Int))/\True/\True/\(True/\True/\True)/\(((((((l3S a i2) ++ (⟨#[32,42,32]⟩:ByteArray)) ++ (nmB ((a.atoms.getD i2 (⟨0,0,0⟩:GAtom)).a))) ++ (⟨#[62]⟩:ByteArray)).size+(nmB ((a.atoms.getD i2 (⟨0,0,0⟩:GAtom)).b)).size:Nat):Int)<=9223372036854775807)/\True/\True/\(inK .i64 (((i2:Nat):Int)+(1:Int)))/\True/\((i2+1)<=a.atoms.length)/\(a.atoms.length - (i2+1) < a.atoms.length - i2)/\TT/\(RL [.s (.c (.ptr 31 0)),.s (.c (.d (.val (.string (⟨#[]⟩:ByteArray)))))])/\(([.s (.c (.d (.val (.int .i64 (((i2:Nat):Int)+(1:Int)))))),.s (.c (.d (.val (.string (((((l3S a i2) ++ (⟨#[32,42,32]⟩:ByteArray)) ++ (nmB ((a.atoms.getD i2 (⟨0,0,0⟩:GAtom)).a))) ++ (⟨#[62]⟩:ByteArray)) ++ (nmB ((a.atoms.getD i2 (⟨0,0,0⟩:GAtom)).b)))))))]:List S)=[.s (.c (.d (.val (.int .i64 (((i2+1):Nat):Int))))),.s (.c (.d (.val (.string (l3S a (i2+1))))))])/\(VC_l3Text_1 a))))))
def VC_l3Text_7 (a:GAsn):Prop:=∀ i2:Nat,(i2<=a.atoms.length)->True/\True/\True/\True/\True/\(vcIf (decide (((i2:Nat):Int) < ((a.atoms.length:Nat):Int))) (True/\True/\True/\True/\(0<=((i2:Nat):Int)/\((i2:Nat):Int) < ((a.atoms.length:Nat):Int))/\True/\True/\(VC_l3Text_6 a i2)) (True/\True/\((((l3S a i2),()):ByteArray × Unit)=(asnT a,()))/\True/\True/\True/\True/\TF))
def VC_l3Text_8 (i1:Nat) (a:GAsn):Prop:=(True/\(vcIf (decide (((i1:Nat):Int) < ((a.facts.length:Nat):Int))) (True/\True/\(vcIf (decide ((0:Int) < ((i1:Nat):Int))) (True/\((((joinB ((a.facts.take i1).map factT) (⟨#[32,38,32]⟩:ByteArray)).size+(⟨#[32,38,32]⟩:ByteArray).size:Nat):Int)<=9223372036854775807)/\True/\True/\True/\True/\True/\(0<=((i1:Nat):Int)/\((i1:Nat):Int) < ((a.facts.length:Nat):Int))/\True/\(True/\True/\True)/\(((((joinB ((a.facts.take i1).map factT) (⟨#[32,38,32]⟩:ByteArray)) ++ (⟨#[32,38,32]⟩:ByteArray)).size+(factT (a.facts.getD i1 (⟨false,0,0⟩:GFact))).size:Nat):Int)<=9223372036854775807)/\True/\True/\(inK .i64 (((i1:Nat):Int)+(1:Int)))/\True/\((i1+1)<=a.facts.length)/\(a.facts.length - (i1+1) < a.facts.length - i1)/\TT/\(RL [.s (.c (.ptr 31 0)),.s (.c (.d (.val (.string (⟨#[]⟩:ByteArray)))))])/\(([.s (.c (.d (.val (.int .i64 (((i1:Nat):Int)+(1:Int)))))),.s (.c (.d (.val (.string (((joinB ((a.facts.take i1).map factT) (⟨#[32,38,32]⟩:ByteArray)) ++ (⟨#[32,38,32]⟩:ByteArray)) ++ (factT (a.facts.getD i1 (⟨false,0,0⟩:GFact))))))))]:List S)=[.s (.c (.d (.val (.int .i64 (((i1+1):Nat):Int))))),.s (.c (.d (.val (.string (joinB ((a.facts.take (i1+1)).map factT) (⟨#[32,38,32]⟩:ByteArray))))))])/\(VC_l3Text_1 a)) (True/\True/\True/\True/\(0<=((i1:Nat):Int)/\((i1:Nat):Int) < ((a.facts.length:Nat):Int))/\True/\(True/\True/\True)/\((((joinB ((a.facts.take i1).map factT) (⟨#[32,38,32]⟩:ByteArray)).size+(factT (a.facts.getD i1 (⟨false,0,0⟩:GFact))).size:Nat):Int)<=9223372036854775807)/\True/\True/\(inK .i64 (((i1:Nat):Int)+(1:Int)))/\True/\((i1+1)<=a.facts.length)/\(a.facts.length - (i1+1) < a.facts.length - i1)/\TT/\(RL [.s (.c (.ptr 31 0)),.s (.c (.d (.val (.string (⟨#[]⟩:ByteArray)))))])/\(([.s (.c (.d (.val (.int .i64 (((i1:Nat):Int)+(1:Int)))))),.s (.c (.d (.val (.string ((joinB ((a.facts.take i1).map factT) (⟨#[32,38,32]⟩:ByteArray)) ++ (factT (a.facts.getD i1 (⟨false,0,0⟩:GFact))))))))]:List S)=[.s (.c (.d (.val (.int .i64 (((i1+1):Nat):Int))))),.s (.c (.d (.val (.string (joinB ((a.facts.take (i1+1)).map factT) (⟨#[32,38,32]⟩:ByteArray))))))])/\(VC_l3Text_1 a)))) (True/\True/\True/\True/\(vcIf (((a.facts.length:Nat):Int) == (0:Int)) (True/\True/\True/\True/\True/\(vcIf (((a.atoms.length:Nat):Int) == (0:Int)) (True/\((((⟨#[116,114,117,101]⟩:ByteArray).size+(⟨#[32,124,32,101,109,112]⟩:ByteArray).size:Nat):Int)<=9223372036854775807)/\True/\((((⟨#[116,114,117,101]⟩:ByteArray) ++ (⟨#[32,124,32,101,109,112]⟩:ByteArray),()):ByteArray × Unit)=(asnT a,()))/\True/\True/\True/\True/\TF) (True/\((0<=a.atoms.length)/\TT/\(RL [.s (.c (.ptr 31 0)),.s (.c (.d (.val (.string (⟨#[]⟩:ByteArray)))))])/\(([.s (.c (.d (.val (.int .i64 (0:Int))))),.s (.c (.d (.val (.string (⟨#[116,114,117,101]⟩:ByteArray)))))]:List S)=[.s (.c (.d (.val (.int .i64 ((0:Nat):Int))))),.s (.c (.d (.val (.string (l3S a 0)))))])/\(VC_l3Text_1 a))/\(VC_l3Text_7 a)))) (True/\True/\True/\True/\(vcIf (((a.atoms.length:Nat):Int) == (0:Int)) (True/\((((joinB ((a.facts.take i1).map factT) (⟨#[32,38,32]⟩:ByteArray)).size+(⟨#[32,124,32,101,109,112]⟩:ByteArray).size:Nat):Int)<=9223372036854775807)/\True/\((((joinB ((a.facts.take i1).map factT) (⟨#[32,38,32]⟩:ByteArray)) ++ (⟨#[32,124,32,101,109,112]⟩:ByteArray),()):ByteArray × Unit)=(asnT a,()))/\True/\True/\True/\True/\TF) (True/\((0<=a.atoms.length)/\TT/\(RL [.s (.c (.ptr 31 0)),.s (.c (.d (.val (.string (⟨#[]⟩:ByteArray)))))])/\(([.s (.c (.d (.val (.int .i64 (0:Int))))),.s (.c (.d (.val (.string (joinB ((a.facts.take i1).map factT) (⟨#[32,38,32]⟩:ByteArray))))))]:List S)=[.s (.c (.d (.val (.int .i64 ((0:Nat):Int))))),.s (.c (.d (.val (.string (l3S a 0)))))])/\(VC_l3Text_1 a))/\(VC_l3Text_7 a))))))))
def VC_l3Text (a:GAsn) (k:Nat):Prop:=TN/\True/\True/\True/\((0<=a.facts.length)/\TT/\(RL [.s (.c (.ptr 31 0)),.s (.c (.d (.val (.string (⟨#[]⟩:ByteArray)))))])/\(([.s (.c (.d (.val (.int .i64 (0:Int))))),.s (.c (.d (.val (.string (⟨#[]⟩:ByteArray)))))]:List S)=[.s (.c (.d (.val (.int .i64 ((0:Nat):Int))))),.s (.c (.d (.val (.string (joinB ((a.facts.take 0).map factT) (⟨#[32,38,32]⟩:ByteArray))))))])/\(VC_l3Text_1 a))/\(∀ i1:Nat,(i1<=a.facts.length)->True/\True/\True/\True/\(VC_l3Text_8 i1 a))
theorem vcn_l3Text (a:GAsn) (k:Nat) (hp:asV a=true):VC_l3Text a k:=by
 unfold VC_l3Text VC_l3Text_8 VC_l3Text_7 VC_l3Text_6 VC_l3Text_5 VC_l3Text_4 VC_l3Text_3 VC_l3Text_2 VC_l3Text_1
 simp only [cln,Nat.reduceEqDiff,Nat.reduceLeDiff,Nat.reduceAdd]
 obtain ⟨_,h12,_,h6⟩:=asV_facts hp
 have s1:=fun i=>jf_size h12 i
 have s2:=fun i=>l3S_size hp i
 have s3:=factsT_size h12
 all_goals (try simp only [vcIf_iff,decide_eq_true_eq,decide_eq_false_iff_not,bne_iff_ne,ne_eq,beq_iff_eq,beq_eq_false_iff_ne,bne_eq_false_iff_eq,Bool.not_eq_true',Bool.not_eq_false',Int.ofNat_lt,Int.natCast_inj])
 all_goals (repeat' (first | apply And.intro | intro _))
 all_goals (repeat (cases ‹_/\_›))
 all_goals (first | omega | with_reducible assumption | with_reducible rfl | skip)
 all_goals (first
  | ((try simp only [ba_size,ba_lit,List.size_toArray,List.length_cons,List.length_nil]);grind [nmB_size,factT_size])
  | exact congrArg Value.string (joinB_nil _).symm
  | exact congrArg Value.string (l3t_more ‹_› ‹_›)
  | exact congrArg Value.string (l3t_first ‹_› ‹_›)
  | exact (by rw [l3t_nofacts ‹_›];exact l3t_emp ‹_›)
  | exact congrArg Value.string ((l3t_nofacts ‹_›).trans (l3S_zero _).symm)
  | exact (by rw [l3t_facts ‹_› ‹_› ‹_›];exact l3t_emp ‹_›)
  | exact congrArg Value.string ((l3t_facts ‹_› ‹_› ‹_›).trans (l3S_zero _).symm)
  | (refine congrArg Value.string ?_;simp only [ba_assoc];rw [← l3t_a0 ‹_› ‹_›,atomT_list ‹_›];simp only [ba_assoc];done)
  | (refine congrArg Value.string ?_;simp only [ba_assoc];rw [← l3t_a0 ‹_› ‹_›,atomT_cell ‹_›];simp only [ba_assoc];done)
  | (refine congrArg Value.string ?_;simp only [ba_assoc];rw [← l3t_a1 ‹_› ‹_›,atomT_list ‹_›];simp only [ba_assoc];done)
  | (refine congrArg Value.string ?_;simp only [ba_assoc];rw [← l3t_a1 ‹_› ‹_›,atomT_cell ‹_›];simp only [ba_assoc];done)
  | exact l3t_end ‹_› ‹_› ‹_›
  | skip)
theorem ok_l3Text:FnOk Tryd.prog E 61 c_l3Text :=
 fn_okQ (l:=L_l3Text) (lp:=P_l3Text) (hp:=fun _=>false) (gcs:=fun _=>none) (perm:=fun _=>[]) tabOk mix ⟨ok_sTermName,ok_l1Text,trivial⟩ trivial Tryd.func61 rfl (by kernel_rfl) (by decide) (by kernel_rfl) (anns:=fun x _=>an_l3Text x.1) (fun ⟨a,_⟩ k hp _=>Eq.mp (by kernel_rfl) (vcn_l3Text a k hp)) tot_fn
abbrev c_l8Line:Con:=⟨[.cmd],[.str],fun (c,_)=>fokC c=true,.inl fun (c,_)=>(lineT c,()),fun _=>0⟩
abbrev L_l8Line:List (FuncId × Con):=[(59,c_sTermName),(60,c_l1Text),(61,c_l3Text)]
abbrev P_l8Line:List (FuncId × PT):=[]
def VC_l8Line_1 (c:GCmd):Prop:=(True/\(vcIf (c.kind == (1:Int)) (True/\((((nmB c.a).size+(⟨#[58,61]⟩:ByteArray).size:Nat):Int)<=9223372036854775807)/\True/\(((((nmB c.a) ++ (⟨#[58,61]⟩:ByteArray)).size+(nmB c.b).size:Nat):Int)<=9223372036854775807)/\True/\(((((nmB c.a) ++ (⟨#[58,61]⟩:ByteArray)) ++ (nmB c.b),()):ByteArray × Unit)=(lineT c,()))/\True/\True/\True/\True/\TF) (True/\True/\(vcIf (c.kind == (2:Int)) (True/\((((nmB c.a).size+(⟨#[58,61,91]⟩:ByteArray).size:Nat):Int)<=9223372036854775807)/\True/\(((((nmB c.a) ++ (⟨#[58,61,91]⟩:ByteArray)).size+(nmB c.b).size:Nat):Int)<=9223372036854775807)/\((((((nmB c.a) ++ (⟨#[58,61,91]⟩:ByteArray)) ++ (nmB c.b)).size+(⟨#[93]⟩:ByteArray).size:Nat):Int)<=9223372036854775807)/\True/\((((((nmB c.a) ++ (⟨#[58,61,91]⟩:ByteArray)) ++ (nmB c.b)) ++ (⟨#[93]⟩:ByteArray),()):ByteArray × Unit)=(lineT c,()))/\True/\True/\True/\True/\TF) (True/\True/\(vcIf (c.kind == (3:Int)) (True/\((((⟨#[91]⟩:ByteArray).size+(nmB c.a).size:Nat):Int)<=9223372036854775807)/\(((((⟨#[91]⟩:ByteArray) ++ (nmB c.a)).size+(⟨#[93,58,61]⟩:ByteArray).size:Nat):Int)<=9223372036854775807)/\True/\((((((⟨#[91]⟩:ByteArray) ++ (nmB c.a)) ++ (⟨#[93,58,61]⟩:ByteArray)).size+(nmB c.b).size:Nat):Int)<=9223372036854775807)/\True/\((((((⟨#[91]⟩:ByteArray) ++ (nmB c.a)) ++ (⟨#[93,58,61]⟩:ByteArray)) ++ (nmB c.b),()):ByteArray × Unit)=(lineT c,()))/\True/\True/\True/\True/\TF) (True/\True/\(vcIf (c.kind == (4:Int)) (True/\((((⟨#[110,101,119,32]⟩:ByteArray).size+(nmB c.a).size:Nat):Int)<=9223372036854775807)/\True/\((((⟨#[110,101,119,32]⟩:ByteArray) ++ (nmB c.a),()):ByteArray × Unit)=(lineT c,()))/\True/\True/\True/\True/\TF) (True/\True/\(vcIf (c.kind == (5:Int)) (True/\((((⟨#[102,114,101,101,32]⟩:ByteArray).size+(nmB c.a).size:Nat):Int)<=9223372036854775807)/\True/\((((⟨#[102,114,101,101,32]⟩:ByteArray) ++ (nmB c.a),()):ByteArray × Unit)=(lineT c,()))/\True/\True/\True/\True/\TF) (True/\True/\(vcIf (c.kind == (6:Int)) (True/\True/\(True/\True/\True)/\((((⟨#[105,102,32]⟩:ByteArray).size+(factT c.test).size:Nat):Int)<=9223372036854775807)/\True/\((((⟨#[105,102,32]⟩:ByteArray) ++ (factT c.test),()):ByteArray × Unit)=(lineT c,()))/\True/\True/\True/\True/\TF) (True/\True/\(True/\True/\True)/\((((⟨#[119,104,105,108,101,32]⟩:ByteArray).size+(factT c.test).size:Nat):Int)<=9223372036854775807)/\(((((⟨#[119,104,105,108,101,32]⟩:ByteArray) ++ (factT c.test)).size+(⟨#[32,119,105,116,104,32]⟩:ByteArray).size:Nat):Int)<=9223372036854775807)/\True/\True/\((asV c.inv=true)/\True/\True)/\((((((⟨#[119,104,105,108,101,32]⟩:ByteArray) ++ (factT c.test)) ++ (⟨#[32,119,105,116,104,32]⟩:ByteArray)).size+(asnT c.inv).size:Nat):Int)<=9223372036854775807)/\True/\((((((⟨#[119,104,105,108,101,32]⟩:ByteArray) ++ (factT c.test)) ++ (⟨#[32,119,105,116,104,32]⟩:ByteArray)) ++ (asnT c.inv),()):ByteArray × Unit)=(lineT c,()))/\True/\True/\True/\True/\TF)))))))))))))
def VC_l8Line (c:GCmd) (k:Nat):Prop:=TN/\True/\True/\True/\(True/\True/\True)/\True/\True/\True/\(True/\True/\True)/\True/\True/\True/\True/\(VC_l8Line_1 c)
theorem vcn_l8Line (c:GCmd) (k:Nat) (hp:fokC c=true):VC_l8Line c k:=by
 unfold VC_l8Line VC_l8Line_1
 simp only [cln,Nat.reduceEqDiff,Nat.reduceLeDiff,Nat.reduceAdd,GCmd.eta]
 have n1:=nmB_size c.a
 have n2:=nmB_size c.b
 have n3:=factT_size c.test
 have q0:=fun h h6 h7=>fok_kind (c:=c) h h6 h7
 have q7:=fun h hk=>fok7 (c:=c) h hk
 have q8:=fun h=>asnT_size (a:=c.inv) h
 all_goals (try simp only [vcIf_iff,decide_eq_true_eq,decide_eq_false_iff_not,bne_iff_ne,ne_eq,beq_iff_eq,beq_eq_false_iff_ne,bne_eq_false_iff_eq,Bool.not_eq_true',Bool.not_eq_false',Int.ofNat_lt,Int.natCast_inj])
 all_goals (repeat' (first | apply And.intro | intro _))
 all_goals (repeat (cases ‹_/\_›))
 all_goals (first | omega | with_reducible assumption | with_reducible rfl | (simp only [ba_size,ba_lit,List.size_toArray,List.length_cons,List.length_nil];omega) | skip)
 all_goals (first
  | (simp [lineT,bscT, *];done)
  | (have hk:c.kind=7:=(by clear n1 n2 n3;grind);have:=q7 ‹_› hk;first | exact this.1 | (simp only [ba_size,ba_lit,List.size_toArray,List.length_cons,List.length_nil];have:=q8 this.1;omega) | (simp [lineT,hk];done))
  | skip)
theorem ok_l8Line:FnOk Tryd.prog E 35 c_l8Line :=
 fn_okQ (l:=L_l8Line) (lp:=P_l8Line) (hp:=fun _=>false) (gcs:=fun _=>none) (perm:=fun _=>[]) tabOk mix ⟨ok_sTermName,ok_l1Text,ok_l3Text,trivial⟩ trivial Tryd.func35 rfl (by kernel_rfl) (by decide) (by kernel_rfl) (anns:=fun x _=>fun _ _=>none) (fun ⟨c,_⟩ k hp _=>Eq.mp (by kernel_rfl) (vcn_l8Line c k hp)) tot_fn
abbrev c_l8Text:Con:=⟨[.sl .cmd],[.str],fun (l,_)=>VlL l,.inl fun (l,_)=>(cmL l,()),fun _=>0⟩
abbrev mu_l8Text:Args c_l8Text.aks->Nat:=fun (l,_)=>ndL l
abbrev L_l8Text (m:Nat):List (FuncId × Con):=[(21,c_l8Text.lim mu_l8Text m),(35,c_l8Line)]
abbrev P_l8Text:List (FuncId × PT):=[]
def an_l8Text (l:List GCmd):Nat->St->Option Ann
 | 3,se=>some { α:=Nat,ok:=fun i=>i<=l.length,mu:=fun i=>l.length - i,i0:=fun _=>0,nx:=fun a _=>(fun i=>i+1) a,live:=[0,2],sets:=fun i=>[(4,sv (.int .i64 i)),(3,sv (.string (cmL (l.take i))))],mids:=[],blks:=fun i=>[],owns:=fun i=>[],rd:=fun r _=>r,base:=100000 }
 | _,_=>none
def VC_l8Text_1 (l:List GCmd) (i1:Nat):Prop:=True/\(((((((((cmL (l.take i1)) ++ (lineT (GCmd.mk ((l.getD i1 (Ty.zero .cmd)).kind) ((l.getD i1 (Ty.zero .cmd)).a) ((l.getD i1 (Ty.zero .cmd)).b) ((l.getD i1 (Ty.zero .cmd)).test) ((l.getD i1 (Ty.zero .cmd)).inv) ((l.getD i1 (Ty.zero .cmd)).body) ((l.getD i1 (Ty.zero .cmd)).els)))) ++ (⟨#[10]⟩:ByteArray)) ++ (cmL ((l.getD i1 (Ty.zero .cmd)).body))) ++ (⟨#[101,108,115,101,10]⟩:ByteArray)) ++ (cmL ((l.getD i1 (Ty.zero .cmd)).els))).size+(⟨#[101,110,100,10]⟩:ByteArray).size:Nat):Int)<=9223372036854775807)/\True/\True/\(inK .i64 (((i1:Nat):Int)+(1:Int)))/\True/\((i1+1)<=l.length)/\(l.length - (i1+1) < l.length - i1)/\TT/\(RL [.s (.c (.d (.arr .cmd l))),.s (.c (.d (.val (.string (⟨#[]⟩:ByteArray)))))])/\(([.s (.c (.d (.val (.int .i64 (((i1:Nat):Int)+(1:Int)))))),.s (.c (.d (.val (.string (((((((cmL (l.take i1)) ++ (lineT (GCmd.mk ((l.getD i1 (Ty.zero .cmd)).kind) ((l.getD i1 (Ty.zero .cmd)).a) ((l.getD i1 (Ty.zero .cmd)).b) ((l.getD i1 (Ty.zero .cmd)).test) ((l.getD i1 (Ty.zero .cmd)).inv) ((l.getD i1 (Ty.zero .cmd)).body) ((l.getD i1 (Ty.zero .cmd)).els)))) ++ (⟨#[10]⟩:ByteArray)) ++ (cmL ((l.getD i1 (Ty.zero .cmd)).body))) ++ (⟨#[101,108,115,101,10]⟩:ByteArray)) ++ (cmL ((l.getD i1 (Ty.zero .cmd)).els))) ++ (⟨#[101,110,100,10]⟩:ByteArray))))))]:List S)=[.s (.c (.d (.val (.int .i64 (((i1+1):Nat):Int))))),.s (.c (.d (.val (.string (cmL (l.take (i1+1)))))))])/\(RM [])/\(RM [])/\True/\TT
def VC_l8Text_2 (l:List GCmd) (i1:Nat):Prop:=True/\(((((((cmL (l.take i1)) ++ (lineT (GCmd.mk ((l.getD i1 (Ty.zero .cmd)).kind) ((l.getD i1 (Ty.zero .cmd)).a) ((l.getD i1 (Ty.zero .cmd)).b) ((l.getD i1 (Ty.zero .cmd)).test) ((l.getD i1 (Ty.zero .cmd)).inv) ((l.getD i1 (Ty.zero .cmd)).body) ((l.getD i1 (Ty.zero .cmd)).els)))) ++ (⟨#[10]⟩:ByteArray)) ++ (cmL ((l.getD i1 (Ty.zero .cmd)).body))).size+(⟨#[101,110,100,10]⟩:ByteArray).size:Nat):Int)<=9223372036854775807)/\True/\True/\(inK .i64 (((i1:Nat):Int)+(1:Int)))/\True/\((i1+1)<=l.length)/\(l.length - (i1+1) < l.length - i1)/\TT/\(RL [.s (.c (.d (.arr .cmd l))),.s (.c (.d (.val (.string (⟨#[]⟩:ByteArray)))))])/\(([.s (.c (.d (.val (.int .i64 (((i1:Nat):Int)+(1:Int)))))),.s (.c (.d (.val (.string (((((cmL (l.take i1)) ++ (lineT (GCmd.mk ((l.getD i1 (Ty.zero .cmd)).kind) ((l.getD i1 (Ty.zero .cmd)).a) ((l.getD i1 (Ty.zero .cmd)).b) ((l.getD i1 (Ty.zero .cmd)).test) ((l.getD i1 (Ty.zero .cmd)).inv) ((l.getD i1 (Ty.zero .cmd)).body) ((l.getD i1 (Ty.zero .cmd)).els)))) ++ (⟨#[10]⟩:ByteArray)) ++ (cmL ((l.getD i1 (Ty.zero .cmd)).body))) ++ (⟨#[101,110,100,10]⟩:ByteArray))))))]:List S)=[.s (.c (.d (.val (.int .i64 (((i1+1):Nat):Int))))),.s (.c (.d (.val (.string (cmL (l.take (i1+1)))))))])/\(RM [])/\(RM [])/\True/\TT
def VC_l8Text_3 (l:List GCmd) (i1:Nat) (m:Nat):Prop:=(True/\(vcIf (decide ((0:Int) < ((((l.getD i1 (Ty.zero .cmd)).els).length:Nat):Int))) (True/\(((((((cmL (l.take i1)) ++ (lineT (GCmd.mk ((l.getD i1 (Ty.zero .cmd)).kind) ((l.getD i1 (Ty.zero .cmd)).a) ((l.getD i1 (Ty.zero .cmd)).b) ((l.getD i1 (Ty.zero .cmd)).test) ((l.getD i1 (Ty.zero .cmd)).inv) ((l.getD i1 (Ty.zero .cmd)).body) ((l.getD i1 (Ty.zero .cmd)).els)))) ++ (⟨#[10]⟩:ByteArray)) ++ (cmL ((l.getD i1 (Ty.zero .cmd)).body))).size+(⟨#[101,108,115,101,10]⟩:ByteArray).size:Nat):Int)<=9223372036854775807)/\True/\True/\(((VlL ((l.getD i1 (Ty.zero .cmd)).els))/\ndL ((l.getD i1 (Ty.zero .cmd)).els) < m)/\True/\True)/\((((((((cmL (l.take i1)) ++ (lineT (GCmd.mk ((l.getD i1 (Ty.zero .cmd)).kind) ((l.getD i1 (Ty.zero .cmd)).a) ((l.getD i1 (Ty.zero .cmd)).b) ((l.getD i1 (Ty.zero .cmd)).test) ((l.getD i1 (Ty.zero .cmd)).inv) ((l.getD i1 (Ty.zero .cmd)).body) ((l.getD i1 (Ty.zero .cmd)).els)))) ++ (⟨#[10]⟩:ByteArray)) ++ (cmL ((l.getD i1 (Ty.zero .cmd)).body))) ++ (⟨#[101,108,115,101,10]⟩:ByteArray)).size+(cmL ((l.getD i1 (Ty.zero .cmd)).els)).size:Nat):Int)<=9223372036854775807)/\True/\True/\True/\True/\True/\(vcIf (((l.getD i1 (Ty.zero .cmd)).kind) == (6:Int)) (True/\(VC_l8Text_1 l i1)) (True/\True/\True/\True/\(vcIf (((l.getD i1 (Ty.zero .cmd)).kind) == (7:Int)) (VC_l8Text_1 l i1) (True/\(inK .i64 (((i1:Nat):Int)+(1:Int)))/\True/\((i1+1)<=l.length)/\(l.length - (i1+1) < l.length - i1)/\TT/\(RL [.s (.c (.d (.arr .cmd l))),.s (.c (.d (.val (.string (⟨#[]⟩:ByteArray)))))])/\(([.s (.c (.d (.val (.int .i64 (((i1:Nat):Int)+(1:Int)))))),.s (.c (.d (.val (.string ((((((cmL (l.take i1)) ++ (lineT (GCmd.mk ((l.getD i1 (Ty.zero .cmd)).kind) ((l.getD i1 (Ty.zero .cmd)).a) ((l.getD i1 (Ty.zero .cmd)).b) ((l.getD i1 (Ty.zero .cmd)).test) ((l.getD i1 (Ty.zero .cmd)).inv) ((l.getD i1 (Ty.zero .cmd)).body) ((l.getD i1 (Ty.zero .cmd)).els)))) ++ (⟨#[10]⟩:ByteArray)) ++ (cmL ((l.getD i1 (Ty.zero .cmd)).body))) ++ (⟨#[101,108,115,101,10]⟩:ByteArray)) ++ (cmL ((l.getD i1 (Ty.zero .cmd)).els)))))))]:List S)=[.s (.c (.d (.val (.int .i64 (((i1+1):Nat):Int))))),.s (.c (.d (.val (.string (cmL (l.take (i1+1)))))))])/\(RM [])/\(RM [])/\True/\TT))))) (True/\True/\True/\True/\(vcIf (((l.getD i1 (Ty.zero .cmd)).kind) == (6:Int)) (True/\(VC_l8Text_2 l i1)) (True/\True/\True/\True/\(vcIf (((l.getD i1 (Ty.zero .cmd)).kind) == (7:Int)) (VC_l8Text_2 l i1) (True/\(inK .i64 (((i1:Nat):Int)+(1:Int)))/\True/\((i1+1)<=l.length)/\(l.length - (i1+1) < l.length - i1)/\TT/\(RL [.s (.c (.d (.arr .cmd l))),.s (.c (.d (.val (.string (⟨#[]⟩:ByteArray)))))])/\(([.s (.c (.d (.val (.int .i64 (((i1:Nat):Int)+(1:Int)))))),.s (.c (.d (.val (.string ((((cmL (l.take i1)) ++ (lineT (GCmd.mk ((l.getD i1 (Ty.zero .cmd)).kind) ((l.getD i1 (Ty.zero .cmd)).a) ((l.getD i1 (Ty.zero .cmd)).b) ((l.getD i1 (Ty.zero .cmd)).test) ((l.getD i1 (Ty.zero .cmd)).inv) ((l.getD i1 (Ty.zero .cmd)).body) ((l.getD i1 (Ty.zero .cmd)).els)))) ++ (⟨#[10]⟩:ByteArray)) ++ (cmL ((l.getD i1 (Ty.zero .cmd)).body)))))))]:List S)=[.s (.c (.d (.val (.int .i64 (((i1+1):Nat):Int))))),.s (.c (.d (.val (.string (cmL (l.take (i1+1)))))))])/\(RM [])/\(RM [])/\True/\TT)))))))
def VC_l8Text (l:List GCmd) (m:Nat) (k:Nat):Prop:=True/\True/\True/\((0<=l.length)/\TT/\(RL [.s (.c (.d (.arr .cmd l))),.s (.c (.d (.val (.string (⟨#[]⟩:ByteArray)))))])/\(([.s (.c (.d (.val (.int .i64 (0:Int))))),.s (.c (.d (.val (.string (⟨#[]⟩:ByteArray)))))]:List S)=[.s (.c (.d (.val (.int .i64 ((0:Nat):Int))))),.s (.c (.d (.val (.string (cmL (l.take 0))))))])/\(RM [])/\(RM [])/\True/\TT)/\(∀ i1:Nat,(i1<=l.length)->True/\True/\True/\True/\(vcIf (decide (((i1:Nat):Int) < ((l.length:Nat):Int))) (True/\True/\(0<=((i1:Nat):Int)/\((i1:Nat):Int) < ((l.length:Nat):Int))/\True/\(TN/\TN/\TN/\TN/\TN/\True)/\(TF/\TF)/\True/\True/\((fokC (GCmd.mk ((l.getD i1 (Ty.zero .cmd)).kind) ((l.getD i1 (Ty.zero .cmd)).a) ((l.getD i1 (Ty.zero .cmd)).b) ((l.getD i1 (Ty.zero .cmd)).test) ((l.getD i1 (Ty.zero .cmd)).inv) ((l.getD i1 (Ty.zero .cmd)).body) ((l.getD i1 (Ty.zero .cmd)).els))=true)/\True/\True)/\((((cmL (l.take i1)).size+(lineT (GCmd.mk ((l.getD i1 (Ty.zero .cmd)).kind) ((l.getD i1 (Ty.zero .cmd)).a) ((l.getD i1 (Ty.zero .cmd)).b) ((l.getD i1 (Ty.zero .cmd)).test) ((l.getD i1 (Ty.zero .cmd)).inv) ((l.getD i1 (Ty.zero .cmd)).body) ((l.getD i1 (Ty.zero .cmd)).els))).size:Nat):Int)<=9223372036854775807)/\(((((cmL (l.take i1)) ++ (lineT (GCmd.mk ((l.getD i1 (Ty.zero .cmd)).kind) ((l.getD i1 (Ty.zero .cmd)).a) ((l.getD i1 (Ty.zero .cmd)).b) ((l.getD i1 (Ty.zero .cmd)).test) ((l.getD i1 (Ty.zero .cmd)).inv) ((l.getD i1 (Ty.zero .cmd)).body) ((l.getD i1 (Ty.zero .cmd)).els)))).size+(⟨#[10]⟩:ByteArray).size:Nat):Int)<=9223372036854775807)/\True/\True/\(((VlL ((l.getD i1 (Ty.zero .cmd)).body))/\ndL ((l.getD i1 (Ty.zero .cmd)).body) < m)/\True/\True)/\((((((cmL (l.take i1)) ++ (lineT (GCmd.mk ((l.getD i1 (Ty.zero .cmd)).kind) ((l.getD i1 (Ty.zero .cmd)).a) ((l.getD i1 (Ty.zero .cmd)).b) ((l.getD i1 (Ty.zero .cmd)).test) ((l.getD i1 (Ty.zero .cmd)).inv) ((l.getD i1 (Ty.zero .cmd)).body) ((l.getD i1 (Ty.zero .cmd)).els)))) ++ (⟨#[10]⟩:ByteArray)).size+(cmL ((l.getD i1 (Ty.zero .cmd)).body)).size:Nat):Int)<=9223372036854775807)/\True/\True/\True/\True/\(VC_l8Text_3 l i1 m)) (True/\True/\((((cmL (l.take i1)),()):ByteArray × Unit)=(cmL l,()))/\True/\True/\True/\True/\TF)))
theorem vcn_l8Text (l:List GCmd) (m:Nat) (k:Nat) (hp:(VlL l)/\ndL l < m+1):VC_l8Text l m k:=by
 unfold VC_l8Text VC_l8Text_3 VC_l8Text_2 VC_l8Text_1
 simp only [cln,Nat.reduceEqDiff,Nat.reduceLeDiff,Nat.reduceAdd,GCmd.eta]
 have hz:=VlL.lenb hp.1
 have hb:=fun i (hi:i < l.length)=>VlL.bnd (z:=Ty.zero .cmd) hp.1 hi
 all_goals (try simp only [vcIf_iff,decide_eq_true_eq,decide_eq_false_iff_not,bne_iff_ne,ne_eq,beq_iff_eq,beq_eq_false_iff_ne,bne_eq_false_iff_eq,Bool.not_eq_true',Bool.not_eq_false',Int.ofNat_lt,Int.natCast_inj])
 all_goals (repeat' (first | apply And.intro | intro _))
 all_goals (repeat (cases ‹_/\_›))
 all_goals (try (have bb:=hb _ ‹_›;obtain ⟨b1,b2,b3,b4,b5,b6,b7,b8,b9⟩:=bb))
 all_goals (first | omega | with_reducible assumption | with_reducible rfl | (simp only [ba_size,ba_lit,List.size_toArray,List.length_cons,List.length_nil];omega) | skip)
 all_goals (first
  | with_reducible exact congrArg Value.string cmL_nil.symm
  | with_reducible exact congrArg Value.string (cmx_ee ‹_› ‹_› (by omega))
  | with_reducible exact congrArg Value.string (cmx_e ‹_› ‹_› (by omega))
  | with_reducible exact congrArg Value.string (cmx_n ‹_› ‹_› (by omega))
  | with_reducible exact congrArg Value.string (cmx_0 ‹_› ‹_› (by omega))
  | with_reducible exact cm_end ‹_› ‹_›
  | skip)
theorem ok_l8Text:FnOk Tryd.prog E 21 c_l8Text :=
 fn_rec (mu:=mu_l8Text) (fun m ih=>fn_okQ (con:=c_l8Text.lim mu_l8Text (m+1)) (fn:=Tryd.f21) (l:=L_l8Text m) (lp:=P_l8Text) (hp:=fun _=>false) (gcs:=fun _=>none) (perm:=fun _=>[]) tabOk mix ⟨ih,ok_l8Line,trivial⟩ trivial Tryd.func21 rfl (by kernel_rfl) (show c_l8Text.aks.length<=Tryd.f21.ntmps by decide) (by kernel_rfl) (anns:=fun x _=>an_l8Text x.1) (fun ⟨l,_⟩ k hp _=>Eq.mp (by kernel_rfl) (vcn_l8Text l m k hp)) tot_fn) ⟨_,_,Tryd.func21,by kernel_rfl,rfl⟩ tot_fn
abbrev c_sFormatProgram:Con:=⟨[.sl .cmd],[.str],fun (l,_)=>BdL l/\ndL l<=1048576,.inl fun (l,_)=>(if prV l=true then cmL l else ⟨#[]⟩,()),fun _=>0⟩
abbrev L_sFormatProgram:List (FuncId × Con):=[(18,c_sProgramValid),(21,c_l8Text)]
abbrev P_sFormatProgram:List (FuncId × PT):=[]
def VC_sFormatProgram (l:List GCmd) (k:Nat):Prop:=True/\True/\((BdL l/\ndL l<=1048576)/\True/\True)/\True/\(vcIf (!(prV l)) (True/\((((⟨#[]⟩:ByteArray),()):ByteArray × Unit)=(if prV l=true then cmL l else ⟨#[]⟩,()))/\True/\True/\True/\True/\TF) (True/\((VlL l)/\True/\True)/\True/\((((cmL l),()):ByteArray × Unit)=(if prV l=true then cmL l else ⟨#[]⟩,()))/\True/\True/\True/\True/\TF))
theorem vcn_sFormatProgram (l:List GCmd) (k:Nat) (hp:BdL l/\ndL l<=1048576):VC_sFormatProgram l k:=by
 unfold VC_sFormatProgram
 simp only [cln,Nat.reduceEqDiff,Nat.reduceLeDiff,Nat.reduceAdd]
 all_goals (try simp only [vcIf_iff,decide_eq_true_eq,decide_eq_false_iff_not,bne_iff_ne,ne_eq,beq_iff_eq,beq_eq_false_iff_ne,bne_eq_false_iff_eq,Bool.not_eq_true',Bool.not_eq_false',Int.ofNat_lt,Int.natCast_inj])
 all_goals (repeat' (first | apply And.intro | intro _))
 all_goals (repeat (cases ‹_/\_›))
 all_goals (first | omega | with_reducible assumption | with_reducible rfl | exact VlL.of ‹_› | (simp [*];done) | skip)
theorem ok_sFormatProgram:FnOk Tryd.prog E 12 c_sFormatProgram :=
 fn_okQ (l:=L_sFormatProgram) (lp:=P_sFormatProgram) (hp:=fun _=>false) (gcs:=fun _=>none) (perm:=fun _=>[]) tabOk mix ⟨ok_sProgramValid,ok_l8Text,trivial⟩ trivial Tryd.func12 rfl (by kernel_rfl) (by decide) (by kernel_rfl) (anns:=fun x _=>fun _ _=>none) (fun ⟨l,_⟩ k hp _=>Eq.mp (by kernel_rfl) (vcn_sFormatProgram l k hp)) tot_fn
abbrev c_szFactS:Con:=⟨[.sl .lfact,.int],[.int],fun (l,left,_)=>l.length<=281474976710656/\0<=left/\left<=1048576,.inl fun (l,left,_)=>(sz1 left l.length,()),fun _=>0⟩
abbrev L_szFactS:List (FuncId × Con):=[]
abbrev P_szFactS:List (FuncId × PT):=[]
def VC_szFactS (l:List GFact) (left:Int) (k:Nat):Prop:=True/\True/\True/\True/\(inK .i64 (left - ((l.length:Nat):Int)))/\True/\True/\True/\(vcIf (decide ((left - ((l.length:Nat):Int)) < (0:Int))) (True/\((((-1:Int),()):Int × Unit)=(sz1 left l.length,()))/\True/\True/\True/\True/\TF) (True/\True/\(((left - ((l.length:Nat):Int),()):Int × Unit)=(sz1 left l.length,()))/\True/\True/\True/\True/\TF))
theorem vcn_szFactS (l:List GFact) (left:Int) (k:Nat) (hp:l.length<=281474976710656/\0<=left/\left<=1048576):VC_szFactS l left k:=by
 unfold VC_szFactS
 simp only [cln,Nat.reduceEqDiff,Nat.reduceLeDiff,Nat.reduceAdd]
 unfold sz1
 by_cases h:left - l.length < 0 <;> simp [vcIf,h] <;> omega
theorem ok_szFactS:FnOk Tryd.prog E 62 c_szFactS :=
 fn_okQ (l:=L_szFactS) (lp:=P_szFactS) (hp:=fun _=>false) (gcs:=fun _=>none) (perm:=fun _=>[]) tabOk mix trivial trivial Tryd.func62 rfl (by kernel_rfl) (by decide) (by kernel_rfl) (anns:=fun x _=>fun _ _=>none) (fun ⟨l,left,_⟩ k hp _=>Eq.mp (by kernel_rfl) (vcn_szFactS l left k hp)) tot_fn
abbrev c_szAtomS:Con:=⟨[.sl .latom,.int],[.int],fun (l,left,_)=>l.length<=281474976710656/\0<=left/\left<=1048576,.inl fun (l,left,_)=>(sz1 left l.length,()),fun _=>0⟩
abbrev L_szAtomS:List (FuncId × Con):=[]
abbrev P_szAtomS:List (FuncId × PT):=[]
def VC_szAtomS (l:List GAtom) (left:Int) (k:Nat):Prop:=True/\True/\True/\True/\(inK .i64 (left - ((l.length:Nat):Int)))/\True/\True/\True/\(vcIf (decide ((left - ((l.length:Nat):Int)) < (0:Int))) (True/\((((-1:Int),()):Int × Unit)=(sz1 left l.length,()))/\True/\True/\True/\True/\TF) (True/\True/\(((left - ((l.length:Nat):Int),()):Int × Unit)=(sz1 left l.length,()))/\True/\True/\True/\True/\TF))
theorem vcn_szAtomS (l:List GAtom) (left:Int) (k:Nat) (hp:l.length<=281474976710656/\0<=left/\left<=1048576):VC_szAtomS l left k:=by
 unfold VC_szAtomS
 simp only [cln,Nat.reduceEqDiff,Nat.reduceLeDiff,Nat.reduceAdd]
 unfold sz1
 by_cases h:left - l.length < 0 <;> simp [vcIf,h] <;> omega
theorem ok_szAtomS:FnOk Tryd.prog E 63 c_szAtomS :=
 fn_okQ (l:=L_szAtomS) (lp:=P_szAtomS) (hp:=fun _=>false) (gcs:=fun _=>none) (perm:=fun _=>[]) tabOk mix trivial trivial Tryd.func63 rfl (by kernel_rfl) (by decide) (by kernel_rfl) (anns:=fun x _=>fun _ _=>none) (fun ⟨l,left,_⟩ k hp _=>Eq.mp (by kernel_rfl) (vcn_szAtomS l left k hp)) tot_fn
abbrev c_szAssertion:Con:=⟨[.lasn,.int],[.int],fun (a,left,_)=>a.facts.length<=281474976710656/\a.atoms.length<=281474976710656/\0<=left/\left<=1048576,.inl fun (a,left,_)=>(szA a left,()),fun _=>0⟩
abbrev L_szAssertion:List (FuncId × Con):=[(62,c_szFactS),(63,c_szAtomS)]
abbrev P_szAssertion:List (FuncId × PT):=[]
def VC_szAssertion_1 (a:GAsn) (left:Int):Prop:=True/\((((-1:Int),()):Int × Unit)=(szA a left,()))/\True/\True/\True/\True/\TF
def VC_szAssertion (a:GAsn) (left:Int) (k:Nat):Prop:=TN/\True/\True/\True/\True/\((a.facts.length<=281474976710656/\0<=left/\left<=1048576)/\True/\True)/\True/\True/\True/\(vcIf (decide ((sz1 left a.facts.length) < (0:Int))) (VC_szAssertion_1 a left) (True/\True/\True/\((a.atoms.length<=281474976710656/\0<=(sz1 left a.facts.length)/\(sz1 left a.facts.length)<=1048576)/\True/\True)/\True/\True/\True/\(vcIf (decide ((sz1 (sz1 left a.facts.length) a.atoms.length) < (0:Int))) (VC_szAssertion_1 a left) (True/\True/\((((sz1 (sz1 left a.facts.length) a.atoms.length),()):Int × Unit)=(szA a left,()))/\True/\True/\True/\True/\TF))))
theorem vcn_szAssertion (a:GAsn) (left:Int) (k:Nat) (hp:a.facts.length<=281474976710656/\a.atoms.length<=281474976710656/\0<=left/\left<=1048576):VC_szAssertion a left k:=by
 unfold VC_szAssertion VC_szAssertion_1
 simp only [cln,Nat.reduceEqDiff,Nat.reduceLeDiff,Nat.reduceAdd]
 all_goals (try simp only [opn])
 all_goals (repeat' (first | apply And.intro | intro _))
 all_goals (first | omega | (simp_all;done) | grind [szA,sz1])
theorem ok_szAssertion:FnOk Tryd.prog E 36 c_szAssertion :=
 fn_okQ (l:=L_szAssertion) (lp:=P_szAssertion) (hp:=fun _=>false) (gcs:=fun _=>none) (perm:=fun _=>[]) tabOk mix ⟨ok_szFactS,ok_szAtomS,trivial⟩ trivial Tryd.func36 rfl (by kernel_rfl) (by decide) (by kernel_rfl) (anns:=fun x _=>fun _ _=>none) (fun ⟨a,left,_⟩ k hp _=>Eq.mp (by kernel_rfl) (vcn_szAssertion a left k hp)) tot_fn
abbrev c_szCmdS:Con:=⟨[.sl .lcmd,.int],[.int],fun (l,left,_)=>BdL l/\0<=left/\left<=1048576,.inl fun (l,left,_)=>(sz1 left (l.length+wcL l),()),fun _=>0⟩
abbrev mu_szCmdS:Args c_szCmdS.aks->Nat:=fun (l,left,_)=>ndL l
abbrev c_szCmd:Con:=⟨[.lcmd,.int],[.int],fun (c,left,_)=>BdC c/\0<=left/\left<=1048576,.inl fun (c,left,_)=>(sz1 left (wtC c),()),fun _=>0⟩
abbrev mu_szCmd:Args c_szCmd.aks->Nat:=fun (c,left,_)=>ndC c
abbrev L_szCmd (m:Nat):List (FuncId × Con):=[(13,c_szCmdS.lim mu_szCmdS m),(36,c_szAssertion)]
abbrev P_szCmd:List (FuncId × PT):=[]
def VC_szCmd_1 (left:Int) (c:GCmd):Prop:=True/\((((-1:Int),()):Int × Unit)=(sz1 left (wtC c),()))/\True/\True/\True/\True/\TF
def VC_szCmd (c:GCmd) (left:Int) (m:Nat) (k:Nat):Prop:=TN/\True/\True/\True/\True/\((c.inv.facts.length<=281474976710656/\c.inv.atoms.length<=281474976710656/\0<=left/\left<=1048576)/\True/\True)/\True/\True/\True/\(vcIf (decide ((szA c.inv left) < (0:Int))) (VC_szCmd_1 left c) (True/\True/\True/\(((BdL c.body/\0<=(szA c.inv left)/\(szA c.inv left)<=1048576)/\ndL c.body < m)/\True/\True)/\True/\True/\True/\(vcIf (decide ((sz1 (szA c.inv left) (c.body.length+wcL c.body)) < (0:Int))) (VC_szCmd_1 left c) (True/\True/\True/\(((BdL c.els/\0<=(sz1 (szA c.inv left) (c.body.length+wcL c.body))/\(sz1 (szA c.inv left) (c.body.length+wcL c.body))<=1048576)/\ndL c.els < m)/\True/\True)/\True/\True/\True/\(vcIf (decide ((sz1 (sz1 (szA c.inv left) (c.body.length+wcL c.body)) (c.els.length+wcL c.els)) < (0:Int))) (VC_szCmd_1 left c) (True/\True/\((((sz1 (sz1 (szA c.inv left) (c.body.length+wcL c.body)) (c.els.length+wcL c.els)),()):Int × Unit)=(sz1 left (wtC c),()))/\True/\True/\True/\True/\TF))))))
theorem vcn_szCmd (c:GCmd) (left:Int) (m:Nat) (k:Nat) (hp:(BdC c/\0<=left/\left<=1048576)/\ndC c < m+1):VC_szCmd c left m k:=by
 unfold VC_szCmd VC_szCmd_1
 simp only [cln,Nat.reduceEqDiff,Nat.reduceLeDiff,Nat.reduceAdd,GCmd.eta]
 have e1:=ndC_eq c
 have e2:=wtC_eq c
 have b1:=hp.1.1.b
 have b2:=hp.1.1.e
 have b3:=hp.1.1.f
 have b4:=hp.1.1.a
 all_goals (try simp only [vcIf_iff,decide_eq_true_eq,decide_eq_false_iff_not,bne_iff_ne,ne_eq,beq_iff_eq,beq_eq_false_iff_ne,bne_eq_false_iff_eq,Bool.not_eq_true',Bool.not_eq_false',Int.ofNat_lt,Int.natCast_inj])
 all_goals (repeat' (first | apply And.intro | intro _))
 all_goals (first | omega | (simp_all;done) | grind [sz1,szA])
theorem okof_szCmd (m:Nat) (ih:FnOk Tryd.prog E 13 (c_szCmdS.lim mu_szCmdS m)):FnOk Tryd.prog E 22 (c_szCmd.lim mu_szCmd (m+1)) :=
 fn_okQ (con:=c_szCmd.lim mu_szCmd (m+1)) (fn:=Tryd.f22) (l:=L_szCmd m) (lp:=P_szCmd) (hp:=fun _=>false) (gcs:=fun _=>none) (perm:=fun _=>[]) tabOk mix ⟨ih,ok_szAssertion,trivial⟩ trivial Tryd.func22 rfl (by kernel_rfl) (show c_szCmd.aks.length<=Tryd.f22.ntmps by decide) (by kernel_rfl) (anns:=fun x _=>fun _ _=>none) (fun ⟨c,left,_⟩ k hp _=>Eq.mp (by kernel_rfl) (vcn_szCmd c left m k hp)) tot_fn
abbrev L_szCmdS (m:Nat):List (FuncId × Con):=[(22,c_szCmd.lim mu_szCmd (m+1))]
abbrev P_szCmdS:List (FuncId × PT):=[]
def an_szCmdS (l:List GCmd) (left:Int):Nat->St->Option Ann
 | 5,se=>some { α:=Nat,ok:=fun i=>i<=l.length/\l.length+wcL (l.take i)<=left,mu:=fun i=>l.length - i,i0:=fun _=>0,nx:=fun a _=>(fun i=>i+1) a,live:=[0],sets:=fun i=>[(5,sv (.int .i64 i)),(1,sv (.int .i64 (left - l.length - wcL (l.take i))))],mids:=[],blks:=fun i=>[],owns:=fun i=>[],rd:=fun r _=>r,base:=100000 }
 | _,_=>none
def VC_szCmdS_1 (left:Int) (l:List GCmd):Prop:=True/\((((-1:Int),()):Int × Unit)=(sz1 left (l.length+wcL l),()))/\True/\True/\True/\True/\TF
def VC_szCmdS (l:List GCmd) (left:Int) (m:Nat) (k:Nat):Prop:=True/\True/\True/\True/\(inK .i64 (left - ((l.length:Nat):Int)))/\True/\True/\True/\(vcIf (decide ((left - ((l.length:Nat):Int)) < (0:Int))) (VC_szCmdS_1 left l) (True/\((0<=l.length/\l.length+wcL (l.take 0)<=left)/\TT/\(RL [.s (.c (.d (.arr .lcmd l)))])/\(([.s (.c (.d (.val (.int .i64 (0:Int))))),.s (.c (.d (.val (.int .i64 (left - ((l.length:Nat):Int))))))]:List S)=[.s (.c (.d (.val (.int .i64 ((0:Nat):Int))))),.s (.c (.d (.val (.int .i64 (left - l.length - wcL (l.take 0):Int)))))])/\(RM [])/\(RM [])/\True/\TT)/\(∀ i1:Nat,(i1<=l.length/\l.length+wcL (l.take i1)<=left)->True/\True/\True/\True/\(vcIf (decide (((i1:Nat):Int) < ((l.length:Nat):Int))) (True/\True/\(0<=((i1:Nat):Int)/\((i1:Nat):Int) < ((l.length:Nat):Int))/\True/\True/\(((BdC (GCmd.mk ((l.getD i1 (Ty.zero .lcmd)).kind) ((l.getD i1 (Ty.zero .lcmd)).a) ((l.getD i1 (Ty.zero .lcmd)).b) ((l.getD i1 (Ty.zero .lcmd)).test) ((l.getD i1 (Ty.zero .lcmd)).inv) ((l.getD i1 (Ty.zero .lcmd)).body) ((l.getD i1 (Ty.zero .lcmd)).els))/\0<=(left - l.length - wcL (l.take i1):Int)/\(left - l.length - wcL (l.take i1):Int)<=1048576)/\ndC (GCmd.mk ((l.getD i1 (Ty.zero .lcmd)).kind) ((l.getD i1 (Ty.zero .lcmd)).a) ((l.getD i1 (Ty.zero .lcmd)).b) ((l.getD i1 (Ty.zero .lcmd)).test) ((l.getD i1 (Ty.zero .lcmd)).inv) ((l.getD i1 (Ty.zero .lcmd)).body) ((l.getD i1 (Ty.zero .lcmd)).els)) < m+1)/\True/\True)/\True/\True/\True/\(vcIf (decide ((sz1 (left - l.length - wcL (l.take i1):Int) (wtC (GCmd.mk ((l.getD i1 (Ty.zero .lcmd)).kind) ((l.getD i1 (Ty.zero .lcmd)).a) ((l.getD i1 (Ty.zero .lcmd)).b) ((l.getD i1 (Ty.zero .lcmd)).test) ((l.getD i1 (Ty.zero .lcmd)).inv) ((l.getD i1 (Ty.zero .lcmd)).body) ((l.getD i1 (Ty.zero .lcmd)).els)))) < (0:Int))) (VC_szCmdS_1 left l) (True/\(inK .i64 (((i1:Nat):Int)+(1:Int)))/\True/\((i1+1)<=l.length/\l.length+wcL (l.take (i1+1))<=left)/\(l.length - (i1+1) < l.length - i1)/\TT/\(RL [.s (.c (.d (.arr .lcmd l)))])/\(([.s (.c (.d (.val (.int .i64 (((i1:Nat):Int)+(1:Int)))))),.s (.c (.d (.val (.int .i64 (sz1 (left - l.length - wcL (l.take i1):Int) (wtC (GCmd.mk ((l.getD i1 (Ty.zero .lcmd)).kind) ((l.getD i1 (Ty.zero .lcmd)).a) ((l.getD i1 (Ty.zero .lcmd)).b) ((l.getD i1 (Ty.zero .lcmd)).test) ((l.getD i1 (Ty.zero .lcmd)).inv) ((l.getD i1 (Ty.zero .lcmd)).body) ((l.getD i1 (Ty.zero .lcmd)).els))))))))]:List S)=[.s (.c (.d (.val (.int .i64 (((i1+1):Nat):Int))))),.s (.c (.d (.val (.int .i64 (left - l.length - wcL (l.take (i1+1)):Int)))))])/\(RM [])/\(RM [])/\True/\TT))) (True/\True/\((((left - l.length - wcL (l.take i1):Int),()):Int × Unit)=(sz1 left (l.length+wcL l),()))/\True/\True/\True/\True/\TF)))))
theorem vcn_szCmdS (l:List GCmd) (left:Int) (m:Nat) (k:Nat) (hp:(BdL l/\0<=left/\left<=1048576)/\ndL l < m+1):VC_szCmdS l left m k:=by
 unfold VC_szCmdS VC_szCmdS_1
 simp only [cln,Nat.reduceEqDiff,Nat.reduceLeDiff,Nat.reduceAdd,GCmd.eta]
 have hl:=hp.1.1.len
 have hg:∀ i,i < l.length->BdC (l.getD i (Ty.zero .lcmd))/\ndC (l.getD i (Ty.zero .lcmd))<=ndL l/\wcL (l.take (i+1))=wcL (l.take i)+wtC (l.getD i (Ty.zero .lcmd))/\wcL (l.take (i+1))<=wcL l:=fun i hi=>⟨hp.1.1.get hi,ndL_get hi,wcL_step hi,wcL_take_le l (i+1)⟩
 all_goals (try simp only [vcIf_iff,decide_eq_true_eq,decide_eq_false_iff_not,bne_iff_ne,ne_eq,beq_iff_eq,beq_eq_false_iff_ne,bne_eq_false_iff_eq,Bool.not_eq_true',Bool.not_eq_false',Int.ofNat_lt,Int.natCast_inj])
 all_goals (repeat' (first | apply And.intro | intro _))
 all_goals (first | omega | (simp_all;done) | grind [sz1,wcL_nil,List.take_length])
theorem ok_szCmdS:FnOk Tryd.prog E 13 c_szCmdS :=
 fn_rec (mu:=mu_szCmdS) (fun m ih=>fn_okQ (con:=c_szCmdS.lim mu_szCmdS (m+1)) (fn:=Tryd.f13) (l:=L_szCmdS m) (lp:=P_szCmdS) (hp:=fun _=>false) (gcs:=fun _=>none) (perm:=fun _=>[]) tabOk mix ⟨(okof_szCmd m ih),trivial⟩ trivial Tryd.func13 rfl (by kernel_rfl) (show c_szCmdS.aks.length<=Tryd.f13.ntmps by decide) (by kernel_rfl) (anns:=fun x _=>an_szCmdS x.1 x.2.1) (fun ⟨l,left,_⟩ k hp _=>Eq.mp (by kernel_rfl) (vcn_szCmdS l left m k hp)) tot_fn) ⟨_,_,Tryd.func13,by kernel_rfl,rfl⟩ tot_fn
end Go.Proofs.YtkafaeeianofnaaDoor
