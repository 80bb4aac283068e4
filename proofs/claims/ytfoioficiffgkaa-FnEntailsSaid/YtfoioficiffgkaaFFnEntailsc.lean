/-
  Contracts of single functions of the program, each shown by the engine: what a call returns for arguments within the contract's bounds.
-/
import Derived.Test.YtfoioficiffgkaaFFnEntailsa
import Derived.Test.YtfoioficiffgkaaFFnEntailsb
import Derived.Test.YtfoioficiffgkaaEd
import Derived.Test.YtfoioficiffgkaaEe
set_option linter.unusedSimpArgs false
set_option linter.unusedVariables false
set_option linter.unusedSectionVars false

namespace Go.Proofs.Ytfoioficiffgkaa
open Go.SE Go.RowKit
set_option linter.unusedSimpArgs false
set_option linter.unusedVariables false
set_option maxHeartbeats 1000000
set_option maxRecDepth 100000
abbrev c_termsIn:Con:=⟨[.asn],[.u16],fun (a,_)=>a.facts.length<=281474976710656/\a.atoms.length<=281474976710656,.inl fun (a,_)=>(tsA a,()),fun _=>0⟩
abbrev L_termsIn:List (FuncId × Con):=[(87,c_tsWith)]
abbrev P_termsIn:List (FuncId × PT):=[]
def an_termsIn (a:GAsn):Nat->St->Option Ann
 | 3,se=>some { α:=Nat,ok:=fun i=>i<=a.facts.length,mu:=fun i=>a.facts.length - i,i0:=fun _=>0,nx:=fun a _=>(fun i=>i+1) a,live:=[1,2,9,10],sets:=fun i=>[(11,sv (.int .i64 i)),(3,sv (.int .u16 (tsF (a.facts.take i))))],mids:=[31],blks:=fun i=>[],owns:=fun i=>[],rd:=fun r _=>r,base:=100000 }
 | 8,se=>some { α:=Nat,ok:=fun i=>i<=a.atoms.length,mu:=fun i=>a.atoms.length - i,i0:=fun _=>0,nx:=fun a _=>(fun i=>i+1) a,live:=[2,24,25],sets:=fun i=>[(26,sv (.int .i64 i)),(3,sv (.int .u16 (tsG (tsF a.facts) (a.atoms.take i))))],mids:=[],blks:=fun i=>[],owns:=fun i=>[],rd:=fun r _=>r,base:=200000 }
 | _,_=>none
def VC_termsIn_1 (a:GAsn):Prop:=RL [.s (.c (.ptr 31 0)),.s (.c (.d (.val (.int .u16 (0:Int))))),.s (.c (.d (.arr .fact a.facts))),.s (.c (.d (.val (.int .i64 ((a.facts.length:Nat):Int)))))]
def VC_termsIn_2 (a:GAsn):Prop:=(RM [some (.blk [.d (.arr .fact a.facts),.d (.arr .atom a.atoms)])])/\(RM [])/\True/\TT
def VC_termsIn_3 (a:GAsn):Prop:=RL [.s (.c (.d (.val (.int .u16 (0:Int))))),.s (.c (.d (.arr .atom a.atoms))),.s (.c (.d (.val (.int .i64 ((a.atoms.length:Nat):Int)))))]
def VC_termsIn_4 (a:GAsn):Prop:=(((0<=a.facts.length)/\TT/\(VC_termsIn_1 a)/\(([.s (.c (.d (.val (.int .i64 (0:Int))))),.s (.c (.d (.val (.int .u16 (0:Int)))))]:List S)=[.s (.c (.d (.val (.int .i64 ((0:Nat):Int))))),.s (.c (.d (.val (.int .u16 (tsF (a.facts.take 0):Int)))))])/\(VC_termsIn_2 a))/\(∀ i1:Nat,(i1<=a.facts.length)->True/\(vcIf (decide (((i1:Nat):Int) < ((a.facts.length:Nat):Int))) ((0<=((i1:Nat):Int)/\((i1:Nat):Int) < ((a.facts.length:Nat):Int))/\True/\(TN/\True)/\(TF/\TF)/\True/\True/\True/\((0<=(tsF (a.facts.take i1):Int)/\(tsF (a.facts.take i1):Int) < 512)/\True/\True)/\True/\True/\((0<=(tsWith (tsF (a.facts.take i1):Int) ((a.facts.getD i1 (⟨false,0,0⟩:GFact)).a))/\(tsWith (tsF (a.facts.take i1):Int) ((a.facts.getD i1 (⟨false,0,0⟩:GFact)).a)) < 512)/\True/\True)/\True/\(inK .i64 (((i1:Nat):Int)+(1:Int)))/\True/\((i1+1)<=a.facts.length)/\(a.facts.length - (i1+1) < a.facts.length - i1)/\TT/\(VC_termsIn_1 a)/\(([.s (.c (.d (.val (.int .i64 (((i1:Nat):Int)+(1:Int)))))),.s (.c (.d (.val (.int .u16 (tsWith (tsWith (tsF (a.facts.take i1):Int) ((a.facts.getD i1 (⟨false,0,0⟩:GFact)).a)) ((a.facts.getD i1 (⟨false,0,0⟩:GFact)).b))))))]:List S)=[.s (.c (.d (.val (.int .i64 (((i1+1):Nat):Int))))),.s (.c (.d (.val (.int .u16 (tsF (a.facts.take (i1+1)):Int)))))])/\(VC_termsIn_2 a)) (True/\True/\True/\True/\((0<=a.atoms.length)/\TT/\(VC_termsIn_3 a)/\(([.s (.c (.d (.val (.int .i64 (0:Int))))),.s (.c (.d (.val (.int .u16 (tsF (a.facts.take i1):Int)))))]:List S)=[.s (.c (.d (.val (.int .i64 ((0:Nat):Int))))),.s (.c (.d (.val (.int .u16 (tsG (tsF a.facts) (a.atoms.take 0):Int)))))])/\(RM [])/\(RM [])/\True/\TT)/\(∀ i2:Nat,(i2<=a.atoms.length)->True/\(vcIf (decide (((i2:Nat):Int) < ((a.atoms.length:Nat):Int))) ((0<=((i2:Nat):Int)/\((i2:Nat):Int) < ((a.atoms.length:Nat):Int))/\True/\(TN/\True)/\(TF/\TF)/\True/\True/\True/\((0<=(tsG (tsF a.facts) (a.atoms.take i2):Int)/\(tsG (tsF a.facts) (a.atoms.take i2):Int) < 512)/\True/\True)/\True/\True/\((0<=(tsWith (tsG (tsF a.facts) (a.atoms.take i2):Int) ((a.atoms.getD i2 (⟨0,0,0⟩:GAtom)).a))/\(tsWith (tsG (tsF a.facts) (a.atoms.take i2):Int) ((a.atoms.getD i2 (⟨0,0,0⟩:GAtom)).a)) < 512)/\True/\True)/\True/\(inK .i64 (((i2:Nat):Int)+(1:Int)))/\True/\((i2+1)<=a.atoms.length)/\(a.atoms.length - (i2+1) < a.atoms.length - i2)/\TT/\(VC_termsIn_3 a)/\(([.s (.c (.d (.val (.int .i64 (((i2:Nat):Int)+(1:Int)))))),.s (.c (.d (.val (.int .u16 (tsWith (tsWith (tsG (tsF a.facts) (a.atoms.take i2):Int) ((a.atoms.getD i2 (⟨0,0,0⟩:GAtom)).a)) ((a.atoms.getD i2 (⟨0,0,0⟩:GAtom)).b))))))]:List S)=[.s (.c (.d (.val (.int .i64 (((i2+1):Nat):Int))))),.s (.c (.d (.val (.int .u16 (tsG (tsF a.facts) (a.atoms.take (i2+1)):Int)))))])/\(RM [])/\(RM [])/\True/\TT) (True/\True/\((((tsG (tsF a.facts) (a.atoms.take i2):Int),()):Int × Unit)=(tsA a,()))/\True/\True/\True/\True/\TF)))))))
def VC_termsIn (a:GAsn) (k:Nat):Prop:=TN/\True/\True/\True/\True/\True/\True/\(VC_termsIn_4 a)
theorem vcn_termsIn (a:GAsn) (k:Nat) (hp:a.facts.length<=281474976710656/\a.atoms.length<=281474976710656):VC_termsIn a k:=by
 unfold VC_termsIn VC_termsIn_4 VC_termsIn_3 VC_termsIn_2 VC_termsIn_1
 simp only [cln,Nat.reduceEqDiff,Nat.reduceLeDiff,Nat.reduceAdd]
 have hF:=tsF_bd
 have hW1:∀ s t,0<=s->s < 512->0<=tsWith s t:=fun _ _ h0 h1=>(tsWith_bd h0 h1).1
 have hW2:∀ s t,0<=s->s < 512->tsWith s t < 512:=fun _ _ h0 h1=>(tsWith_bd h0 h1).2
 have hF0:tsF []=0:=rfl
 have hG0:∀ z,tsG z []=z:=fun _=>rfl
 have hG:=fun l=>tsG_bd l _ (tsF_bd a.facts)
 all_goals (try simp only [opn])
 all_goals (repeat' (first | apply And.intro | intro _))
 all_goals (first | omega | (simp_all;done) | grind [tsF_step,tsG_step,tsA,take_full,Ty.zero])
theorem ok_termsIn:FnOk Try.prog E 72 c_termsIn :=
 fn_okQ (l:=L_termsIn) (lp:=P_termsIn) (hp:=fun _=>false) (gcs:=fun _=>none) (perm:=fun _=>[]) tabOk mix ⟨ok_tsWith,trivial⟩ trivial Try.func72 rfl (by kernel_rfl) (by decide) (by kernel_rfl) (anns:=fun x _=>an_termsIn x.1) (fun ⟨a,_⟩ k hp _=>Eq.mp (by kernel_rfl) (vcn_termsIn a k hp)) tot_fn
abbrev c_tsHas:Con:=⟨[.u16,.int],[.bool],fun (s,t,_)=>0<=s/\s < 512,.inl fun (s,t,_)=>(tsHas s t,()),fun _=>0⟩
abbrev L_tsHas:List (FuncId × Con):=[(89,c_isTerm)]
abbrev P_tsHas:List (FuncId × PT):=[]
def VC_tsHas (s:Int) (t:Int) (k:Nat):Prop:=True/\True/\(True/\True/\True)/\True/\(vcIf (isT t) (True/\True/\(0<=t)/\True/\True/\True/\True/\((((bits .and .u16 (Int.fdiv s (2 ^ (min t.toNat (IntKind.bits .u16)))) (1:Int)) == (1:Int),()):Bool × Unit)=(tsHas s t,()))/\True/\True/\True/\True/\TF) (True/\True/\(((false,()):Bool × Unit)=(tsHas s t,()))/\True/\True/\True/\True/\TF))
theorem vcn_tsHas (s:Int) (t:Int) (k:Nat) (hp:0<=s/\s < 512):VC_tsHas s t k:=by
 unfold VC_tsHas
 simp only [cln,Nat.reduceEqDiff,Nat.reduceLeDiff,Nat.reduceAdd]
 simp only [vcIf_iff]
 exact ⟨fun h=>⟨(isT_iff.1 h).1,tsHas_eq hp.1 hp.2 h⟩,fun h=>by simp [tsHas,h]⟩
theorem ok_tsHas:FnOk Try.prog E 128 c_tsHas :=
 fn_okQ (l:=L_tsHas) (lp:=P_tsHas) (hp:=fun _=>false) (gcs:=fun _=>none) (perm:=fun _=>[]) tabOk mix ⟨ok_isTerm,trivial⟩ trivial Try.func128 rfl (by kernel_rfl) (by decide) (by kernel_rfl) (anns:=fun x _=>fun _ _=>none) (fun ⟨s,t,_⟩ k hp _=>Eq.mp (by kernel_rfl) (vcn_tsHas s t k hp)) tot_fn
abbrev c_factHolds:Con:=⟨[.pkase,.fact],[.bool],fun (c,f,_)=>c.length=9/\fV f=true,.inl fun (c,f,_)=>(fh c f,()),fun _=>0⟩
abbrev L_factHolds:List (FuncId × Con):=[]
abbrev P_factHolds:List (FuncId × PT):=[]
def VC_factHolds (c:List Int) (f:GFact) (k:Nat):Prop:=TN/\True/\True/\True/\True/\True/\(0<=f.a/\f.a < ((9:Nat):Int)/\c.length=9)/\True/\True/\True/\True/\True/\(0<=f.b/\f.b < ((9:Nat):Int)/\c.length=9)/\True/\True/\True/\True/\True/\True/\(((((c.getD f.a.toNat (0:Int)) == (c.getD f.b.toNat (0:Int))) == f.eq,()):Bool × Unit)=(fh c f,()))/\True/\True/\True/\True/\TF
theorem vcn_factHolds (c:List Int) (f:GFact) (k:Nat) (hp:c.length=9/\fV f=true):VC_factHolds c f k:=by
 unfold VC_factHolds
 simp only [cln,Nat.reduceEqDiff,Nat.reduceLeDiff,Nat.reduceAdd]
 have h1:=fV_isT hp.2
 have h2:=isT_iff.1 h1.1
 have h3:=isT_iff.1 h1.2
 all_goals (try simp only [opn])
 all_goals (repeat' (first | apply And.intro | intro _))
 all_goals (first | omega | (simp_all;done) | grind [fh,cl])
theorem ok_factHolds:FnOk Try.prog E 88 c_factHolds :=
 fn_okQ (l:=L_factHolds) (lp:=P_factHolds) (hp:=fun _=>false) (gcs:=fun _=>none) (perm:=fun _=>[]) tabOk mix trivial trivial Try.func88 rfl (by kernel_rfl) (by decide) (by kernel_rfl) (anns:=fun x _=>fun _ _=>none) (fun ⟨c,f,_⟩ k hp _=>Eq.mp (by kernel_rfl) (vcn_factHolds c f k hp)) tot_fn
abbrev c_isFilled:Con:=⟨[.pkase,.atom],[.bool],fun (c,x,_)=>c.length=9/\atV x=true,.inl fun (c,x,_)=>(filB c x,()),fun _=>0⟩
abbrev L_isFilled:List (FuncId × Con):=[]
abbrev P_isFilled:List (FuncId × PT):=[]
def VC_isFilled (c:List Int) (x:GAtom) (k:Nat):Prop:=TN/\True/\True/\True/\True/\True/\(vcIf (x.kind == (1:Int)) (True/\True/\(((true,()):Bool × Unit)=(filB c x,()))/\True/\True/\True/\True/\TF) (True/\True/\True/\True/\(0<=x.a/\x.a < ((9:Nat):Int)/\c.length=9)/\True/\True/\True/\True/\True/\(0<=x.b/\x.b < ((9:Nat):Int)/\c.length=9)/\True/\True/\True/\True/\((((c.getD x.a.toNat (0:Int)) != (c.getD x.b.toNat (0:Int)),()):Bool × Unit)=(filB c x,()))/\True/\True/\True/\True/\TF))
theorem vcn_isFilled (c:List Int) (x:GAtom) (k:Nat) (hp:c.length=9/\atV x=true):VC_isFilled c x k:=by
 unfold VC_isFilled
 simp only [cln,Nat.reduceEqDiff,Nat.reduceLeDiff,Nat.reduceAdd]
 have h1:=atV_isT hp.2
 have h2:=isT_iff.1 h1.1
 have h3:=isT_iff.1 h1.2
 all_goals (try simp only [opn])
 all_goals (repeat' (first | apply And.intro | intro _))
 all_goals (first | omega | (simp_all;done) | grind [filB,cl])
theorem ok_isFilled:FnOk Try.prog E 150 c_isFilled :=
 fn_okQ (l:=L_isFilled) (lp:=P_isFilled) (hp:=fun _=>false) (gcs:=fun _=>none) (perm:=fun _=>[]) tabOk mix trivial trivial Try.func150 rfl (by kernel_rfl) (by decide) (by kernel_rfl) (anns:=fun x _=>fun _ _=>none) (fun ⟨c,x,_⟩ k hp _=>Eq.mp (by kernel_rfl) (vcn_isFilled c x k hp)) tot_fn
abbrev c_possible:Con:=⟨[.pkase,.asn,.int],[.bool],fun (c,a,last,_)=>c.length=9/\asV a=true/\0<=last/\last<=8,.inl fun (c,a,last,_)=>(possI a c last,()),fun _=>0⟩
abbrev L_possible:List (FuncId × Con):=[(87,c_tsWith),(88,c_factHolds),(128,c_tsHas),(150,c_isFilled)]
abbrev P_possible:List (FuncId × PT):=[]
def an_possible (c:List Int) (a:GAsn) (last:Int):Nat->St->Option Ann
 | 2,se=>some { α:=Nat,ok:=fun i=>i<=a.facts.length/\possF c last (a.facts.take i)=true,mu:=fun i=>a.facts.length - i,i0:=fun _=>0,nx:=fun a _=>(fun i=>i+1) a,live:=[0,2,4,13,14],sets:=fun i=>[(15,sv (.int .i64 i))],mids:=[79],blks:=fun i=>[],owns:=fun i=>[],rd:=fun r _=>r,base:=100000 }
 | 9,se=>some { α:=Nat,ok:=fun i=>i<=a.atoms.length/\possF c last a.facts=true/\okS [] (sts c last (a.atoms.take i))=true,mu:=fun i=>a.atoms.length - i,i0:=fun _=>0,nx:=fun a _=>(fun i=>i+1) a,live:=[0,2,37,38],sets:=fun i=>[(39,sv (.int .i64 i)),(9,sv (.int .u16 (maskS (sts c last (a.atoms.take i)))))],mids:=[],blks:=fun i=>[],owns:=fun i=>[],rd:=fun r _=>r,base:=200000 }
 | _,_=>none
def VC_possible_1 (c:List Int) (last:Int) (a:GAsn):Prop:=RL [.s (.c (.rv .int c)),.s (.c (.d (.val (.int .i64 last)))),.s (.c (.ptr 79 0)),.s (.c (.d (.arr .fact a.facts))),.s (.c (.d (.val (.int .i64 ((a.facts.length:Nat):Int)))))]
def VC_possible_2 (a:GAsn):Prop:=(RM [some (.blk [.d (.arr .fact a.facts),.d (.arr .atom a.atoms)])])/\(RM [])/\True/\TT
def VC_possible_3 (a:GAsn) (c:List Int) (last:Int):Prop:=True/\(((false,()):Bool × Unit)=(possI a c last,()))/\True/\True/\True/\True/\TF
def VC_possible_4 (i1:Nat) (a:GAsn) (c:List Int) (last:Int):Prop:=(inK .i64 (((i1:Nat):Int)+(1:Int)))/\True/\((i1+1)<=a.facts.length/\possF c last (a.facts.take (i1+1))=true)/\(a.facts.length - (i1+1) < a.facts.length - i1)/\TT/\(VC_possible_1 c last a)/\(([.s (.c (.d (.val (.int .i64 (((i1:Nat):Int)+(1:Int))))))]:List S)=[.s (.c (.d (.val (.int .i64 (((i1+1):Nat):Int)))))])/\(VC_possible_2 a)
def VC_possible_5 (i1:Nat) (a:GAsn) (c:List Int) (last:Int):Prop:=True/\(VC_possible_4 i1 a c last)
def VC_possible_6 (c:List Int) (last:Int) (a:GAsn):Prop:=RL [.s (.c (.rv .int c)),.s (.c (.d (.val (.int .i64 last)))),.s (.c (.d (.arr .atom a.atoms))),.s (.c (.d (.val (.int .i64 ((a.atoms.length:Nat):Int)))))]
def VC_possible_7 (i2:Nat) (a:GAsn) (c:List Int) (last:Int):Prop:=(i2+1)<=a.atoms.length/\possF c last a.facts=true/\okS [] (sts c last (a.atoms.take (i2+1)))=true
def VC_possible_8 (i2:Nat) (a:GAsn) (c:List Int) (last:Int):Prop:=(inK .i64 (((i2:Nat):Int)+(1:Int)))/\True/\(VC_possible_7 i2 a c last)/\(a.atoms.length - (i2+1) < a.atoms.length - i2)/\TT/\(VC_possible_6 c last a)/\(([.s (.c (.d (.val (.int .i64 (((i2:Nat):Int)+(1:Int)))))),.s (.c (.d (.val (.int .u16 (maskS (sts c last (a.atoms.take i2)):Int)))))]:List S)=[.s (.c (.d (.val (.int .i64 (((i2+1):Nat):Int))))),.s (.c (.d (.val (.int .u16 (maskS (sts c last (a.atoms.take (i2+1))):Int)))))])/\(RM [])/\(RM [])/\True/\TT
def VC_possible_9 (i2:Nat) (a:GAsn) (c:List Int) (last:Int):Prop:=True/\(VC_possible_8 i2 a c last)
def VC_possible_10 (a:GAsn) (i2:Nat) (c:List Int):Prop:=0<=((a.atoms.getD i2 (⟨0,0,0⟩:GAtom)).a)/\((a.atoms.getD i2 (⟨0,0,0⟩:GAtom)).a) < ((9:Nat):Int)/\c.length=9
def VC_possible_11 (c:List Int) (last:Int) (a:GAsn) (i2:Nat):Prop:=(0<=(maskS (sts c last (a.atoms.take i2)):Int)/\(maskS (sts c last (a.atoms.take i2)):Int) < 512)/\True/\True
def VC_possible_12 (i1:Nat) (a:GAsn) (last:Int) (c:List Int):Prop:=(True/\(vcIf (decide (((i1:Nat):Int) < ((a.facts.length:Nat):Int))) ((0<=((i1:Nat):Int)/\((i1:Nat):Int) < ((a.facts.length:Nat):Int))/\True/\(TN/\True)/\(TF/\TF)/\True/\True/\True/\True/\True/\(vcIf (decide (((a.facts.getD i1 (⟨false,0,0⟩:GFact)).a)<=last)) (True/\True/\True/\True/\True/\True/\(vcIf (decide (((a.facts.getD i1 (⟨false,0,0⟩:GFact)).b)<=last)) (True/\True/\((c.length=9/\fV (a.facts.getD i1 (⟨false,0,0⟩:GFact))=true)/\True/\True)/\True/\True/\(vcIf (!(fh c (a.facts.getD i1 (⟨false,0,0⟩:GFact)))) (VC_possible_3 a c last) (VC_possible_4 i1 a c last))) (VC_possible_5 i1 a c last))) (True/\True/\(VC_possible_5 i1 a c last)))) (True/\True/\True/\True/\True/\((0<=a.atoms.length/\possF c last a.facts=true/\okS [] (sts c last (a.atoms.take 0))=true)/\TT/\(VC_possible_6 c last a)/\(([.s (.c (.d (.val (.int .i64 (0:Int))))),.s (.c (.d (.val (.int .u16 (0:Int)))))]:List S)=[.s (.c (.d (.val (.int .i64 ((0:Nat):Int))))),.s (.c (.d (.val (.int .u16 (maskS (sts c last (a.atoms.take 0)):Int)))))])/\(RM [])/\(RM [])/\True/\TT)/\(∀ i2:Nat,(i2<=a.atoms.length/\possF c last a.facts=true/\okS [] (sts c last (a.atoms.take i2))=true)->True/\(vcIf (decide (((i2:Nat):Int) < ((a.atoms.length:Nat):Int))) ((0<=((i2:Nat):Int)/\((i2:Nat):Int) < ((a.atoms.length:Nat):Int))/\True/\(TN/\True)/\(TF/\TF)/\True/\True/\True/\True/\True/\(vcIf (decide (last < ((a.atoms.getD i2 (⟨0,0,0⟩:GAtom)).a))) (True/\True/\(VC_possible_9 i2 a c last)) (True/\True/\True/\True/\True/\True/\(vcIf (decide (last < ((a.atoms.getD i2 (⟨0,0,0⟩:GAtom)).b))) (VC_possible_9 i2 a c last) (True/\True/\((c.length=9/\atV (a.atoms.getD i2 (⟨0,0,0⟩:GAtom))=true)/\True/\True)/\True/\True/\(vcIf (!(filB c (a.atoms.getD i2 (⟨0,0,0⟩:GAtom)))) (VC_possible_8 i2 a c last) (True/\True/\True/\True/\(VC_possible_10 a i2 c)/\True/\True/\True/\(vcIf ((c.getD ((a.atoms.getD i2 (⟨0,0,0⟩:GAtom)).a).toNat (0:Int)) == (0:Int)) (True/\(VC_possible_3 a c last)) (True/\True/\True/\True/\True/\(VC_possible_10 a i2 c)/\True/\(VC_possible_11 c last a i2)/\True/\(vcIf (tsHas (maskS (sts c last (a.atoms.take i2)):Int) (c.getD ((a.atoms.getD i2 (⟨0,0,0⟩:GAtom)).a).toNat (0:Int))) (VC_possible_3 a c last) (True/\True/\True/\True/\True/\(VC_possible_10 a i2 c)/\True/\(VC_possible_11 c last a i2)/\True/\(inK .i64 (((i2:Nat):Int)+(1:Int)))/\True/\(VC_possible_7 i2 a c last)/\(a.atoms.length - (i2+1) < a.atoms.length - i2)/\TT/\(VC_possible_6 c last a)/\(([.s (.c (.d (.val (.int .i64 (((i2:Nat):Int)+(1:Int)))))),.s (.c (.d (.val (.int .u16 (tsWith (maskS (sts c last (a.atoms.take i2)):Int) (c.getD ((a.atoms.getD i2 (⟨0,0,0⟩:GAtom)).a).toNat (0:Int)))))))]:List S)=[.s (.c (.d (.val (.int .i64 (((i2+1):Nat):Int))))),.s (.c (.d (.val (.int .u16 (maskS (sts c last (a.atoms.take (i2+1))):Int)))))])/\(RM [])/\(RM [])/\True/\TT))))))))))) (True/\(((true,()):Bool × Unit)=(possI a c last,()))/\True/\True/\True/\True/\TF))))))
def VC_possible (c:List Int) (a:GAsn) (last:Int) (k:Nat):Prop:=TN/\True/\True/\True/\True/\True/\((0<=a.facts.length/\possF c last (a.facts.take 0)=true)/\TT/\(VC_possible_1 c last a)/\(([.s (.c (.d (.val (.int .i64 (0:Int)))))]:List S)=[.s (.c (.d (.val (.int .i64 ((0:Nat):Int)))))])/\(VC_possible_2 a))/\(∀ i1:Nat,(i1<=a.facts.length/\possF c last (a.facts.take i1)=true)->(VC_possible_12 i1 a last c))
theorem vcn_possible (c:List Int) (a:GAsn) (last:Int) (k:Nat) (hp:c.length=9/\asV a=true/\0<=last/\last<=8):VC_possible c a last k:=by
 unfold VC_possible VC_possible_12 VC_possible_11 VC_possible_10 VC_possible_9 VC_possible_8 VC_possible_7 VC_possible_6 VC_possible_5 VC_possible_4 VC_possible_3 VC_possible_2 VC_possible_1
 simp only [cln,Nat.reduceEqDiff,Nat.reduceLeDiff,Nat.reduceAdd]
 have hF:=asV_facts hp.2.1
 have hX:=fun i (h:i < a.atoms.length)=>isT_iff.1 (asV_atom (d:=⟨0,0,0⟩) hp.2.1 h).1
 have hM:=fun i=>maskS_bd (sts c last (a.atoms.take i))
 all_goals (try simp only [opn])
 all_goals (repeat' (first | apply And.intro | intro _))
 all_goals (repeat (cases ‹_/\_›))
 all_goals (first | omega | rfl | assumption | (simp_all;done) | (exact (hX _ ‹_›).1) | (exact (hM _).1) | (exact (hM _).2) | (symm;exact possI_noF ‹_› ‹_› ‹_› ‹_›) | (rw [possF_step (d:=⟨false,0,0⟩) ‹_›];simp_all;done) | (rw [possF_step (d:=⟨false,0,0⟩) ‹_›];simp_all;omega) | (rw [← take_full (l:=a.facts) ‹_›];assumption) | (rw [sts_skip (c:=c) (last:=last) (l:=a.atoms) (d:=⟨0,0,0⟩) ‹_› (by simp only [stB,Bool.and_eq_false_iff,decide_eq_false_iff_not];first | (left;left;omega) | (left;right;omega) | (right;assumption))];done) | (rw [sts_skip (c:=c) (last:=last) (l:=a.atoms) (d:=⟨0,0,0⟩) ‹_› (by simp only [stB,Bool.and_eq_false_iff,decide_eq_false_iff_not];first | (left;left;omega) | (left;right;omega) | (right;assumption))];assumption) | (rw [take_full (l:=a.atoms) ‹_›] at *;simp_all [possI];done) | skip)
 all_goals (have hS:=fun (j:Nat) (h1:¬ last < (a.atoms.getD j ⟨0,0,0⟩).a) (h2:¬ last < (a.atoms.getD j ⟨0,0,0⟩).b) (h3:filB c (a.atoms.getD j ⟨0,0,0⟩)=true)=>show stB c last (a.atoms.getD j ⟨0,0,0⟩)=true by (simp only [stB,Bool.and_eq_true,decide_eq_true_eq];exact ⟨⟨by omega,by omega⟩,by assumption⟩))
 all_goals (first | (symm;exact possI_noA ‹_› (hS _ ‹_› ‹_› ‹_›) (.inl ‹_›)) | (symm;exact possI_noA ‹_› (hS _ ‹_› ‹_› ‹_›) (.inr ‹_›)) | (exact (okS_step ‹_› ‹_› (hS _ ‹_› ‹_› ‹_›) ‹_› ‹_›).1) | (exact (okS_step ‹_› ‹_› (hS _ ‹_› ‹_› ‹_›) ‹_› ‹_›).2.symm) | skip)
theorem ok_possible:FnOk Try.prog E 129 c_possible :=
 fn_okQ (l:=L_possible) (lp:=P_possible) (hp:=fun _=>false) (gcs:=fun _=>none) (perm:=fun _=>[]) tabOk mix ⟨ok_tsWith,ok_factHolds,ok_tsHas,ok_isFilled,trivial⟩ trivial Try.func129 rfl (by kernel_rfl) (by decide) (by kernel_rfl) (anns:=fun x _=>an_possible x.1 x.2.1 x.2.2.1) (fun ⟨c,a,last,_⟩ k hp _=>Eq.mp (by kernel_rfl) (vcn_possible c a last k hp)) tot_fn
abbrev L_ext:List (FuncId × Con):=[(128,c_tsHas),(129,c_possible)]
def an_ext (a:GAsn) (tm:Int) (go:List Int->Bool) (T:CG) (l:Nat) (t t':Int) (en en':List Int->CG) (c:List Int) (γ:CG):Nat->St->CG->Option (AnnY CG)
 | 7,st0,GM=>some ⟨{ α:=Nat × List Int,ok:=fun p=>p.1<=t.toNat+1/\p.2.length=9/\(∀ x:Int,p.2.set t.toNat x=c.set t.toNat x)/\((List.range p.1).flatMap (brC (poss a) en t.toNat c)).all go=true,mu:=fun p=>t.toNat+1 - p.1,i0:=fun _=>(0,c),nx:=fun p st=>(p.1+1,vecAt st 95),live:=[1,3,4,5,7],sets:=fun p=>[(11,sv (.int .i64 p.1))],mids:=[127],blks:=fun p=>[(95,.vec .int p.2)],owns:=fun p=>[],rd:=fun r _=>r,base:=100000 },fun p=>GM ++ (List.range p.1).flatMap (brC (poss a) en t.toNat c)⟩
 | _,_,_=>none
def hp_ext:Nat->Bool
 | 2=>true
 | 5=>true
 | 11=>true
 | _=>false
def VC_ext_1 (t:Int) (tm:Int) (l:Nat):Prop:=RL [.s (.c (.d (.val (.int .i64 t)))),.s (.c (.d (.val (.int .u16 tm)))),.s (.c (.d (.val (yV l)))),.s (.c (.ptr 95 0)),.s (.c (.ptr 127 0))]
def VC_ext_2 (p1:Nat × List Int) (t:Int) (c:List Int) (a:GAsn) (en:List Int->CG) (go:List Int->Bool):Prop:=(p1.1+1,(p1.2.set t.toNat (p1.1:Int))).1<=t.toNat+1/\(p1.1+1,(p1.2.set t.toNat (p1.1:Int))).2.length=9/\(∀ x:Int,(p1.1+1,(p1.2.set t.toNat (p1.1:Int))).2.set t.toNat x=c.set t.toNat x)/\((List.range (p1.1+1,(p1.2.set t.toNat (p1.1:Int))).1).flatMap (brC (poss a) en t.toNat c)).all go=true
def VC_ext_3 (t:Int) (p1:Nat × List Int) (tm:Int) (l:Nat) (a:GAsn):Prop:=(t.toNat+1 - (p1.1+1,(p1.2.set t.toNat (p1.1:Int))).1 < t.toNat+1 - p1.1)/\TT/\(VC_ext_1 t tm l)/\(([.s (.c (.d (.val (.int .i64 ((p1.1:Int)+(1:Int))))))]:List S)=[.s (.c (.d (.val (.int .i64 ((p1.1+1,(p1.2.set t.toNat (p1.1:Int))).1:Int)))))])/\(RM [some (.blk [.d (.arr .fact a.facts),.d (.arr .atom a.atoms)])])/\(([some (.vec .int (p1.2.set t.toNat (p1.1:Int)))]:List (Option Res))=[some (.vec .int ((p1.1+1,(p1.2.set t.toNat (p1.1:Int))).2))])/\True/\TT
def VC_ext_4 (t:Int) (p1:Nat × List Int) (a:GAsn) (t':Int) (tm:Int) (l:Nat) (γ:CG) (en:List Int->CG) (c:List Int) (go:List Int->Bool) (T:CG) (en':List Int->CG):Prop:=TT/\True/\True/\(0<=t/\t < ((9:Nat):Int)/\p1.2.length=9)/\(TF/\TF/\True)/\TT/\True/\True/\(((p1.2.set t.toNat (p1.1:Int)).length=9/\asV a=true/\0<=t/\t<=8)/\True/\True)/\True/\(vcIf (possI a (p1.2.set t.toNat (p1.1:Int)) t) ((9=(p1.2.set t.toNat (p1.1:Int)).length * 1)/\True/\(inK .i64 (t+(1:Int)))/\True/\True/\True/\(((none:Option Nat)=none)/\((p1.2.set t.toNat (p1.1:Int)).length=9)/\((t+(1:Int))=t')/\(a.facts=a.facts)/\(a.atoms=a.atoms)/\(tm=tm)/\((yV l:Value)=yV l)/\((γ ++ (List.range p1.1).flatMap (brC (poss a) en t.toNat c)).all go=true)/\(((γ ++ (List.range p1.1).flatMap (brC (poss a) en t.toNat c)) ++ en (p1.2.set t.toNat (p1.1:Int))) <+: T))/\True/\True/\(vcIf (!((en (p1.2.set t.toNat (p1.1:Int))).all go)) (TT/\True/\((none:Option Nat)=none)/\(false=(en' c).all go)/\((γ ++ (List.range p1.1).flatMap (brC (poss a) en t.toNat c) ++ upTo go (en (p1.2.set t.toNat (p1.1:Int))):CG)=γ ++ upTo go (en' c))) (TT/\True/\(inK .i64 ((p1.1:Int)+(1:Int)))/\True/\(VC_ext_2 p1 t c a en go)/\((γ ++ (List.range (p1.1+1,(p1.2.set t.toNat (p1.1:Int))).1).flatMap (brC (poss a) en t.toNat c):CG)=γ ++ (List.range p1.1).flatMap (brC (poss a) en t.toNat c) ++ upTo go (en (p1.2.set t.toNat (p1.1:Int))))/\(VC_ext_3 t p1 tm l a)))) (True/\TT/\True/\(inK .i64 ((p1.1:Int)+(1:Int)))/\True/\(VC_ext_2 p1 t c a en go)/\((γ ++ (List.range (p1.1+1,(p1.2.set t.toNat (p1.1:Int))).1).flatMap (brC (poss a) en t.toNat c):CG)=γ ++ (List.range p1.1).flatMap (brC (poss a) en t.toNat c))/\(VC_ext_3 t p1 tm l a)))
def VC_ext_5 (t:Int) (c:List Int) (l:Nat) (γ:CG) (go:List Int->Bool) (T:CG) (en':List Int->CG) (tm:Int) (t':Int) (a:GAsn) (en:List Int->CG):Prop:=(True/\(vcIf (decide ((8:Int) < t)) (TT/\True/\(9=c.length * 1)/\(((none:Option Nat)=none)/\((.s (.c (.d (.val (yV l)))):S)=.s (.c (.d (.val (yV l)))))/\(γ.all go=true)/\((γ ++ [c]) <+: T))/\True/\((none:Option Nat)=none)/\((go c)=(en' c).all go)/\((γ ++ [c]:CG)=γ ++ upTo go (en' c))) (TT/\True/\True/\((0<=tm/\tm < 512)/\True/\True)/\True/\(vcIf (!(tsHas tm t)) (TT/\True/\(0<=t/\t < ((9:Nat):Int)/\c.length=9)/\(TF/\TF/\True)/\TT/\(9=(c.set t.toNat (-1:Int)).length * 1)/\True/\(inK .i64 (t+(1:Int)))/\True/\True/\True/\(((none:Option Nat)=none)/\((c.set t.toNat (-1:Int)).length=9)/\((t+(1:Int))=t')/\(a.facts=a.facts)/\(a.atoms=a.atoms)/\(tm=tm)/\((yV l:Value)=yV l)/\(γ.all go=true)/\((γ ++ en (c.set t.toNat (-1:Int))) <+: T))/\True/\((none:Option Nat)=none)/\(((en (c.set t.toNat (-1:Int))).all go)=(en' c).all go)/\((γ ++ upTo go (en (c.set t.toNat (-1:Int))):CG)=γ ++ upTo go (en' c))) (TT/\True/\(((0,c).1<=t.toNat+1/\(0,c).2.length=9/\(∀ x:Int,(0,c).2.set t.toNat x=c.set t.toNat x)/\((List.range (0,c).1).flatMap (brC (poss a) en t.toNat c)).all go=true)/\((γ ++ (List.range (0,c).1).flatMap (brC (poss a) en t.toNat c):CG)=γ)/\TT/\(VC_ext_1 t tm l)/\(([.s (.c (.d (.val (.int .i64 (0:Int)))))]:List S)=[.s (.c (.d (.val (.int .i64 ((0,c).1:Int)))))])/\(RM [some (.blk [.d (.arr .fact a.facts),.d (.arr .atom a.atoms)])])/\(([some (.vec .int c)]:List (Option Res))=[some (.vec .int ((0,c).2))])/\True/\TT)/\(∀ p1:Nat × List Int,(p1.1<=t.toNat+1/\p1.2.length=9/\(∀ x:Int,p1.2.set t.toNat x=c.set t.toNat x)/\((List.range p1.1).flatMap (brC (poss a) en t.toNat c)).all go=true)->TT/\True/\True/\True/\(vcIf (decide ((p1.1:Int)<=t)) (TT/\True/\True/\True/\True/\(vcIf (decide ((p1.1:Int) < t)) (True/\(0<=(p1.1:Int)/\(p1.1:Int) < ((9:Nat):Int)/\p1.2.length=9)/\True/\True/\True/\True/\(vcIf ((p1.2.getD (p1.1:Int).toNat (0:Int)) != (p1.1:Int)) (TT/\True/\(inK .i64 ((p1.1:Int)+(1:Int)))/\True/\((p1.1+1,p1.2).1<=t.toNat+1/\(p1.1+1,p1.2).2.length=9/\(∀ x:Int,(p1.1+1,p1.2).2.set t.toNat x=c.set t.toNat x)/\((List.range (p1.1+1,p1.2).1).flatMap (brC (poss a) en t.toNat c)).all go=true)/\((γ ++ (List.range (p1.1+1,p1.2).1).flatMap (brC (poss a) en t.toNat c):CG)=γ ++ (List.range p1.1).flatMap (brC (poss a) en t.toNat c))/\(t.toNat+1 - (p1.1+1,p1.2).1 < t.toNat+1 - p1.1)/\TT/\(VC_ext_1 t tm l)/\(([.s (.c (.d (.val (.int .i64 ((p1.1:Int)+(1:Int))))))]:List S)=[.s (.c (.d (.val (.int .i64 ((p1.1+1,p1.2).1:Int)))))])/\(RM [some (.blk [.d (.arr .fact a.facts),.d (.arr .atom a.atoms)])])/\(([some (.vec .int p1.2)]:List (Option Res))=[some (.vec .int ((p1.1+1,p1.2).2))])/\True/\TT) (VC_ext_4 t p1 a t' tm l γ en c go T en'))) (True/\(VC_ext_4 t p1 a t' tm l γ en c go T en')))) (TT/\True/\((none:Option Nat)=none)/\(true=(en' c).all go)/\((γ ++ (List.range p1.1).flatMap (brC (poss a) en t.toNat c):CG)=γ ++ upTo go (en' c))))))))))
def VC_ext (a:GAsn) (tm:Int) (go:List Int->Bool) (T:CG) (l:Nat) (t t':Int) (en en':List Int->CG) (c:List Int) (γ:CG):Prop:=TT/\TN/\TN/\True/\TT/\True/\(VC_ext_5 t c l γ go T en' tm t' a en)
theorem vcn_ext (a:GAsn) (tm:Int) (go:List Int->Bool) (T:CG) (l:Nat) (t t':Int) (en en':List Int->CG) (c:List Int) (γ:CG) (hp:asV a=true/\0<=tm/\tm < 512) (ht:0<=t/\t<=9) (ht':t'=t+1) (hc:c.length=9) (hgo:γ.all go=true) (hT:(γ ++ en' c) <+: T) (h9:8 < t->en' c=[c]) (h8:¬ 8 < t->en' c=cond (tsHas tm t) ((List.range (t.toNat+1)).flatMap (brC (poss a) en t.toNat c)) (en (c.set t.toNat (-1)))):VC_ext a tm go T l t t' en en' c γ:=by
 unfold VC_ext VC_ext_5 VC_ext_4 VC_ext_3 VC_ext_2 VC_ext_1
 simp only [cln,Nat.reduceEqDiff,Nat.reduceLeDiff,Nat.reduceAdd]
 obtain ⟨n,rfl⟩:∃ n:Nat,t=(n:Int):=⟨t.toNat,by omega⟩
 simp only [Int.toNat_natCast] at h8 ⊢
 all_goals (try simp only [vcIf_iff,decide_eq_true_eq,decide_eq_false_iff_not,bne_iff_ne,ne_eq,beq_iff_eq,beq_eq_false_iff_ne,bne_eq_false_iff_eq,Bool.not_eq_true',Bool.not_eq_false',Int.ofNat_lt,Int.natCast_inj])
 all_goals (repeat' (first | apply And.intro | intro _))
 all_goals (first | omega | assumption | rfl | (simp_all;done) | skip)
 ·rw [h9 ‹_›];simp only [upTo];cases go c <;> rfl
 all_goals (have hL:=h8 ‹_›;rw [(by assumption:tsHas tm (n:Int)=true),cond_true] at hL)
 all_goals (have hok:=(by assumption:_/\_/\(∀ x:Int,_)/\_);obtain ⟨k1,k2,k3,k4⟩:=hok)
 all_goals (first
  | (have e:=fl_skip (a:=a) (en:=en) k3 (by omega) ‹_›;unfold flC at e;rw [e];assumption) | (have e:=fl_skip (a:=a) (en:=en) k3 (by omega) ‹_›;unfold flC at e;rw [e];done)
  | (rw [List.all_append,hgo,k4];rfl)
  | (exact fl_pre hL k3 (.inr ‹_›) ‹_› ‹_› hT) | (exact fl_pre hL k3 (.inl (by omega)) ‹_› ‹_› hT)
  | (exact (fl_all (γ:=γ) hL k3 (.inr ‹_›) ‹_› ‹_› ‹_› k4).1) | (exact (fl_all (γ:=γ) hL k3 (.inl (by omega)) ‹_› ‹_› ‹_› k4).1)
  | (exact (fl_all hL k3 (.inr ‹_›) ‹_› ‹_› ‹_› k4).2) | (exact (fl_all hL k3 (.inl (by omega)) ‹_› ‹_› ‹_› k4).2)
  | (exact (fl_end (γ:=γ) hL k1 ‹_› k4).1) | (exact (fl_end hL k1 ‹_› k4).2)
  | (have e:=fl_no (en:=en) k3 ‹_›;unfold flC at e;rw [e];assumption) | (have e:=fl_no (en:=en) k3 ‹_›;unfold flC at e;rw [e];done)
  | (have e:=fl_yes (en:=en) k3 (.inr ‹_›) ‹_› ‹_›;unfold flC at e;rw [e,List.all_append,k4,(by assumption:List.all (en _) go=true)];rfl)
  | (have e:=fl_yes (en:=en) k3 (.inl (by omega)) ‹_› ‹_›;unfold flC at e;rw [e,List.all_append,k4,(by assumption:List.all (en _) go=true)];rfl)
  | (have e:=fl_yes (en:=en) k3 (.inr ‹_›) ‹_› ‹_›;unfold flC at e;rw [e,upTo_all ‹_›,List.append_assoc];done)
  | (have e:=fl_yes (en:=en) k3 (.inl (by omega)) ‹_› ‹_›;unfold flC at e;rw [e,upTo_all ‹_›,List.append_assoc];done)
  | skip)
def hp_pc:Nat->Bool
 | 1=>true
 | _=>false
def VC_pc (a:GAsn) (tm:Int) (go:List Int->Bool) (T:CG) (l:Nat) (en:List Int->CG) (γ1:CG):Prop:=TT/\(TN/\True)/\TT/\(9=(List.replicate 9 (0:Int)).length * 1)/\True/\True/\True/\(((none:Option Nat)=none)/\((List.replicate 9 (0:Int)).length=9)/\((0:Int)=0)/\(a.facts=a.facts)/\(a.atoms=a.atoms)/\(tm=tm)/\((yV l:Value)=yV l)/\([].all go=true)/\(([] ++ en (List.replicate 9 (0:Int))) <+: T))/\((none:Option Nat)=none)/\(([] ++ upTo go (en (List.replicate 9 (0:Int))):CG)=γ1)
theorem vcn_pc (a:GAsn) (tm:Int) (go:List Int->Bool) (T:CG) (l:Nat) (en:List Int->CG) (γ1:CG) (hT:en (List.replicate 9 0)=T) (h1:γ1=upTo go T):VC_pc a tm go T l en γ1:=by
 unfold VC_pc
 simp only [cln,Nat.reduceEqDiff,Nat.reduceLeDiff,Nat.reduceAdd]
 subst h1 hT
 simp
theorem vce_pc (a:GAsn) (tm:Int) (go:List Int->Bool) (T:CG) (l:Nat) (en:List Int->CG) (γ1:CG):VC_pc a tm go T l en γ1=vcY tab (lookF []) (lookP []) (spE 137 l go T a tm 0 en) noSpc (fun _=>false) hp_pc (fun _=>none) (fun _ _ _=>none) (fun _=>[]) (bodyOf Try.f136) (pcSt a tm l) [] (retP0 tab Try.f136.results.toList γ1):=by kernel_rfl
theorem ext_step {J:JJ CG} {a:GAsn} {tm:Int} {go:List Int->Bool} {T:CG} {l:Nat} {t t':Int} {en en':List Int->CG} (hp:asV a=true/\0<=tm/\tm < 512) (ht:0<=t/\t<=9) (ht':t'=t+1) (h9:∀ c,8 < t->en' c=[c]) (h8:∀ c,¬ 8 < t->en' c=cond (tsHas tm t) ((List.range (t.toNat+1)).flatMap (brC (poss a) en t.toNat c)) (en (c.set t.toNat (-1))))
  (hx:ExtOk Try.prog J 137 l go T a tm t' en) (hy:YOk Try.prog J l go T):ExtOk Try.prog J 137 l go T a tm t en' :=
 ext_sound (hp:=hp_ext) (gcs:=fun _=>none) (perm:=fun _=>[]) (pts:=lookP []) tabOk (kall_of (l:=L_ext) ⟨ok_tsHas,ok_possible,trivial⟩) (pall_of (l:=[]) trivial) mix Try.func137 rfl (by kernel_rfl) (by decide) (by kernel_rfl) hx hy (anns:=fun c γ=>an_ext a tm go T l t t' en en' c γ)
  fun c γ hc hgo hT=>Eq.mp (by kernel_rfl) (vcn_ext a tm go T l t t' en en' c γ hp ht ht' hc hgo hT (h9 c) (h8 c))
theorem ext_all {J:JJ CG} {a:GAsn} {tm:Int} {go:List Int->Bool} {T:CG} {l:Nat} (hp:asV a=true/\0<=tm/\tm < 512) (hy:YOk Try.prog J l go T):∀ (f t:Nat),f+t=9->ExtOk Try.prog J 137 l go T a tm (t:Int) (enumC (poss a) (hasN tm) f t):=by
 intro f
 induction f with
 | zero =>
  intro t ht
  have:t=9:=by omega
  subst this
  exact ext_step (t':=10) hp (by decide) (by decide) (fun c _=>rfl) (fun c h=>absurd h (by decide)) ext_none hy
 | succ f ih =>
  intro t ht
  refine ext_step (t':=((t+1:Nat):Int)) (en:=enumC (poss a) (hasN tm) f (t+1)) hp (by omega) (by omega) (fun c h=>by omega) (fun c _=>?_) (ih (t+1) (by omega)) hy
  simp only [Int.toNat_natCast]
  rfl
theorem it_ok:ItOk Try.prog 136 itPre itEn:=by
 intro J l go a tm hpre hy w p ro0 ρ b1 b2 vs1 ty1 ty2 hin hro h1 hc1 h2 hne hp1 hp2 hr1 hr2 hJ
 exact pc_ok (fid:=137) (T:=itEn a tm) (en:=enumC (poss a) (hasN tm) 9 0) (t:=0) (hp:=hp_pc) (gcs:=fun _=>none) (perm:=fun _=>[]) (K:=lookF []) (pts:=lookP []) (anns:=fun _ _ _=>none) tabOk (kall_of (l:=[]) trivial) (pall_of (l:=[]) trivial) mix Try.func136 rfl (by decide) Try.func137 rfl (by kernel_rfl) (by kernel_rfl) (ext_all hpre hy 9 0 rfl) hy
  ((vce_pc a tm go (itEn a tm) l (enumC (poss a) (hasN tm) 9 0) (upTo go (itEn a tm))).mp (vcn_pc a tm go (itEn a tm) l (enumC (poss a) (hasN tm) 9 0) (upTo go (itEn a tm)) rfl rfl)) hin hro h1 hc1 h2 hne hp1 hp2 hr1 hr2 hJ
theorem it_run:∀ args w,(callFunc 136 args).run Try.prog w=.ok (.enter 136 args) w:=run_callFunc Try.func136 (by kernel_rfl) rfl
abbrev L_possibleCases:List (FuncId × Con):=[(72,c_termsIn),(87,c_tsWith)]
abbrev P_possibleCases:List (FuncId × PT):=[]
abbrev pt_possibleCases:PT:=inl tab (lookF L_possibleCases) (lookP P_possibleCases) (fun _=>false) (fun _ _=>none) (fun _ _ _ _=>none) (fun _=>[]) Try.f86.ntmps (bodyOf Try.f86) Try.f86.results.toList
theorem ptok_possibleCases:PTOk Try.prog E 86 pt_possibleCases :=
 pt_ok (l:=L_possibleCases) (lp:=P_possibleCases) tabOk mix ⟨ok_termsIn,ok_tsWith,trivial⟩ trivial Try.func86 rfl (by kernel_rfl) (by kernel_rfl)
abbrev c_firstCase:Con:=⟨[.asn],[.kase,.bool],fun (a,_)=>asV a=true,.inl fun (a,_)=>((casesF a).headD (List.replicate 9 0),!(casesF a).isEmpty,()),fun _=>0⟩
abbrev L_firstCase:List (FuncId × Con):=[]
abbrev P_firstCase:List (FuncId × PT):=[(86,pt_possibleCases)]
def hp_firstCase:Nat->Bool
 | 1=>true
 | _=>false
def ra_firstCase (a:GAsn):St->Option RAnn:=fun se=>some ⟨fun _=>false,[2,3],[47,63],fun i=>[],[47,63],fun i=>[],fun i=>[],300000⟩
def VC_firstCase_1 (c2_0:Int) (c2_1:Int) (c2_2:Int) (c2_3:Int) (c2_4:Int) (c2_5:Int) (c2_6:Int) (c2_7:Int) (c2_8:Int):Prop:=(([c2_0,c2_1,c2_2,c2_3,c2_4,c2_5,c2_6,c2_7,c2_8]:List Int).length=(List.replicate 9 (0:Int)).length)/\TF/\TF
def VC_firstCase (a:GAsn) (k:Nat):Prop:=TT/\TN/\(TN/\True)/\(TN/\True)/\TT/\True/\((2:Nat)<=12)/\TN/\True/\True/\((a.facts.length<=281474976710656/\a.atoms.length<=281474976710656)/\True/\True)/\((0<=(tsA a)/\(tsA a) < 512)/\True/\True)/\True/\True/\(TN/\True)/\(TF/\TF)/\True/\True/\((((136:Nat)=136)/\((none:Option Nat)=none)/\(itPre a (bits .or .u16 (tsWith (tsA a) (0:Int)) (0:Int))))/\TT/\TT/\(RL [.s (.c (.ptr 47 0)),.s (.c (.ptr 63 0))])/\(RL [])/\(RM [some (.vec .int (List.replicate 9 (0:Int))),some (.blk [.d (.val (.bool false))])])/\(RM [])/\True/\TT)/\(∀ i1:Nat,∀ c2_0:Int,∀ c2_1:Int,∀ c2_2:Int,∀ c2_3:Int,∀ c2_4:Int,∀ c2_5:Int,∀ c2_6:Int,∀ c2_7:Int,∀ c2_8:Int,((itEn a (bits .or .u16 (tsWith (tsA a) (0:Int)) (0:Int)))[i1]?=some ([c2_0,c2_1,c2_2,c2_3,c2_4,c2_5,c2_6,c2_7,c2_8]:List Int))->(((itEn a (bits .or .u16 (tsWith (tsA a) (0:Int)) (0:Int))).take i1).all (fun _=>false)=true)->TT/\(TN/\True)/\(VC_firstCase_1 c2_0 c2_1 c2_2 c2_3 c2_4 c2_5 c2_6 c2_7 c2_8)/\((none:Option Nat)=none)/\TT/\(9=([c2_0,c2_1,c2_2,c2_3,c2_4,c2_5,c2_6,c2_7,c2_8]:List Int).length * 1)/\(VC_firstCase_1 c2_0 c2_1 c2_2 c2_3 c2_4 c2_5 c2_6 c2_7 c2_8)/\(TF/\TF)/\(false=false)/\((none:Option Nat)=none)/\((none:Option Nat)=none)/\(((([c2_0,c2_1,c2_2,c2_3,c2_4,c2_5,c2_6,c2_7,c2_8]:List Int),true,()):(List Int) × Bool × Unit)=((casesF a).headD (List.replicate 9 0),!(casesF a).isEmpty,()))/\True/\True/\True/\True/\TF)/\(((itEn a (bits .or .u16 (tsWith (tsA a) (0:Int)) (0:Int))).all (fun _=>false)=true)->TT/\True/\(((List.replicate 9 (0:Int)).length=(List.replicate 9 (0:Int)).length)/\TF/\TF)/\(TF/\TF)/\((none:Option Nat)=none)/\(((List.replicate 9 (0:Int),false,()):(List Int) × Bool × Unit)=((casesF a).headD (List.replicate 9 0),!(casesF a).isEmpty,()))/\True/\True/\True/\True/\TF)
theorem vcn_firstCase (a:GAsn) (k:Nat) (hp:asV a=true):VC_firstCase a k:=by
 unfold VC_firstCase VC_firstCase_1
 simp only [cln,Nat.reduceEqDiff,Nat.reduceLeDiff,Nat.reduceAdd]
 have hs:=asV_small hp
 have hb:=tsA_bd a
 have hw:=tsWith_bd (t:=0) hb.1 hb.2
 have ho:=tsOr hw.1 hw.2 (y:=0) (by decide) (by decide)
 have hi:=itEn_or hp (s:=0) (by decide) (by decide)
 rw [itEn_zero hp]
 all_goals (repeat' (first | apply And.intro | intro _))
 all_goals (first | omega | assumption | rfl | exact hs.1 | exact hs.2 | exact hi.2 | (rw [itEn_zero hp] at *;exact hi.2) | exact ho.1 | exact ho.2.1 | (simp_all;done) | exact (head_hit ‹_› ‹_›).1 | exact (head_hit (d:=[]) ‹_› ‹_›).2 | exact (head_none ‹_›).1 | exact (head_none (d:=[]) ‹_›).2 | skip)
abbrev spc_firstCase (a:GAsn):SpCode Bool:=spR tab (lookF L_firstCase) (lookP P_firstCase) hp_firstCase (fun _=>none) (fun _ _ _=>none) (fun _=>[]) Try.f60.ntmps 136 itPre itEn (ra_firstCase a)
theorem spcok_firstCase (a:GAsn) (wE:World) (ro0:Nat->Option (Array Value)) (ρ:Nat):SpcOk Fence.wide 0 Try.prog E (AC wE ro0 ρ) Try.f60.ntmps (spc_firstCase a) :=
 spR_ok tabOk (kall_of (l:=L_firstCase) trivial) (pall_of (l:=P_firstCase) ⟨ptok_possibleCases,trivial⟩) mix it_ok it_len it_run
theorem vcr_firstCase:∀ x:Args c_firstCase.aks,c_firstCase.pre x->vcY tab (lookF L_firstCase) (lookP P_firstCase) noSpB (spc_firstCase x.1) (fun b=>!b) hp_firstCase (fun _=>none) (fun _ _ _=>none) (fun _=>[]) (bodyOf Try.f60) (entry (encs c_firstCase.aks x) none) false (retR tab c_firstCase Try.f60.results.toList x) :=
 fun ⟨a,_⟩ hp=>Eq.mp (by kernel_rfl) (vcn_firstCase a 0 hp)
theorem ok_firstCase:FnOk Try.prog E 60 c_firstCase :=
 fnR_ok (con:=c_firstCase) (fn:=Try.f60) (l:=L_firstCase) (lp:=P_firstCase) (hp:=hp_firstCase) (gcs:=fun _=>none) (perm:=fun _=>[]) (spc:=fun x=>spc_firstCase x.1) (anns:=fun x=>(fun _ _ _=>none)) tabOk mix trivial ⟨ptok_possibleCases,trivial⟩ rfl Try.func60 rfl (by kernel_rfl) (by decide) (by kernel_rfl) (fun x _=>spcok_firstCase x.1) vcr_firstCase tot_fn
abbrev c_iFilled:Con:=⟨[.pkase,.sl .atom],[.sl .atom],fun (c,l,_)=>l.length<=1048576/\l.all atV=true/\c.length=9,.inl fun (c,l,_)=>(fL c l,()),fun _=>0⟩
abbrev L_iFilled:List (FuncId × Con):=[(150,c_isFilled)]
abbrev P_iFilled:List (FuncId × PT):=[]
def an_iFilled (c:List Int) (l:List GAtom):Nat->St->Option Ann
 | 3,se=>some { α:=Nat,ok:=fun i=>i<=l.length,mu:=fun i=>l.length - i,i0:=fun _=>0,nx:=fun a _=>(fun i=>i+1) a,live:=[0,4,8,9],sets:=fun i=>[(10,sv (.int .i64 i))],mids:=[64],blks:=fun i=>[],owns:=fun i=>[⟨7,.slot 5,.atom,fL c (l.take i)⟩],rd:=fun r _=>r,base:=100000 }
 | _,_=>none
def VC_iFilled_1 (c:List Int) (l:List GAtom):Prop:=RL [.s (.c (.rv .int c)),.s (.c (.own 64)),.s (.c (.d (.arr .atom l))),.s (.c (.d (.val (.int .i64 ((l.length:Nat):Int)))))]
def VC_iFilled_2 (i1:Nat):Prop:=([.s (.c (.d (.val (.int .i64 (((i1:Nat):Int)+(1:Int))))))]:List S)=[.s (.c (.d (.val (.int .i64 (((i1+1):Nat):Int)))))]
def VC_iFilled (c:List Int) (l:List GAtom) (k:Nat):Prop:=TN/\TN/\True/\True/\True/\((0<=l.length)/\TT/\(VC_iFilled_1 c l)/\(([.s (.c (.d (.val (.int .i64 (0:Int)))))]:List S)=[.s (.c (.d (.val (.int .i64 ((0:Nat):Int)))))])/\(RM [some (.sl 64 .atom ([]:List GAtom))])/\(RM [])/\(((some ([]:List GAtom):Option (List GAtom))=some (fL c (l.take 0)))/\True)/\TT)/\(∀ i1:Nat,(i1<=l.length)->True/\(vcIf (decide (((i1:Nat):Int) < ((l.length:Nat):Int))) ((0<=((i1:Nat):Int)/\((i1:Nat):Int) < ((l.length:Nat):Int))/\True/\(TN/\True)/\(TF/\TF)/\True/\True/\((c.length=9/\atV (l.getD i1 (⟨0,0,0⟩:GAtom))=true)/\True/\True)/\(vcIf (filB c (l.getD i1 (⟨0,0,0⟩:GAtom))) (True/\True/\True/\True/\True/\True/\True/\(0<=((l.getD i1 (⟨0,0,0⟩:GAtom)).a)/\((l.getD i1 (⟨0,0,0⟩:GAtom)).a) < ((9:Nat):Int)/\c.length=9)/\True/\True/\True/\True/\True/\(0<=((l.getD i1 (⟨0,0,0⟩:GAtom)).b)/\((l.getD i1 (⟨0,0,0⟩:GAtom)).b) < ((9:Nat):Int)/\c.length=9)/\True/\True/\(TN/\True)/\(TN/\TF/\TF/\((fL c (l.take i1)).length+([(⟨(l.getD i1 (⟨0,0,0⟩:GAtom)).kind,(c.getD ((l.getD i1 (⟨0,0,0⟩:GAtom)).a).toNat (0:Int)),(c.getD ((l.getD i1 (⟨0,0,0⟩:GAtom)).b).toNat (0:Int))⟩:GAtom)]:List GAtom).length<=4294967296))/\True/\(inK .i64 (((i1:Nat):Int)+(1:Int)))/\True/\((i1+1)<=l.length)/\(l.length - (i1+1) < l.length - i1)/\TT/\(VC_iFilled_1 c l)/\(VC_iFilled_2 i1)/\(RM [some (.sl 64 .atom ([]:List GAtom))])/\(RM [])/\(((some ((fL c (l.take i1)) ++ ([(⟨(l.getD i1 (⟨0,0,0⟩:GAtom)).kind,(c.getD ((l.getD i1 (⟨0,0,0⟩:GAtom)).a).toNat (0:Int)),(c.getD ((l.getD i1 (⟨0,0,0⟩:GAtom)).b).toNat (0:Int))⟩:GAtom)]:List GAtom)):Option (List GAtom))=some (fL c (l.take (i1+1))))/\True)/\TT) ((inK .i64 (((i1:Nat):Int)+(1:Int)))/\True/\((i1+1)<=l.length)/\(l.length - (i1+1) < l.length - i1)/\TT/\(VC_iFilled_1 c l)/\(VC_iFilled_2 i1)/\(RM [some (.sl 64 .atom ([]:List GAtom))])/\(RM [])/\(((some (fL c (l.take i1)):Option (List GAtom))=some (fL c (l.take (i1+1))))/\True)/\TT))) (True/\True/\(((fL c (l.take i1),()):(List GAtom) × Unit)=(fL c l,()))/\(True/\True)/\((TF/\TF)/\True)/\True/\(True/\True)/\TF)))
theorem vcn_iFilled (c:List Int) (l:List GAtom) (k:Nat) (hp:l.length<=1048576/\l.all atV=true/\c.length=9):VC_iFilled c l k:=by
 unfold VC_iFilled VC_iFilled_2 VC_iFilled_1
 simp only [cln,Nat.reduceEqDiff,Nat.reduceLeDiff,Nat.reduceAdd]
 have hV:=hp.2.1
 have hL:∀ i,(fL c (l.take i)).length<=1048576:=fun i=>Nat.le_trans (fL_len _ _) (by simp;omega)
 all_goals (try simp only [opn])
 all_goals (repeat' (first | apply And.intro | intro _))
 all_goals (repeat (cases ‹_/\_›))
 all_goals (first | omega | rfl | assumption | (simp_all;done) | skip)
 all_goals (first
  | (have h1:=atom_idx (l:=l) hV ‹_›;omega)
  | exact Nat.le_trans (hL _) (by decide)
  | (rw [fL_step (d:=⟨0,0,0⟩) ‹_›,(by assumption:filB c _=true)];rfl)
  | (rw [fL_step (d:=⟨0,0,0⟩) ‹_›,(by assumption:filB c _=false)];rfl)
  | (rw [take_full (l:=l) ‹_›];done) | skip)
theorem ok_iFilled:FnOk Try.prog E 116 c_iFilled :=
 fn_okQ (l:=L_iFilled) (lp:=P_iFilled) (hp:=fun _=>false) (gcs:=fun _=>none) (perm:=fun _=>[]) tabOk mix ⟨ok_isFilled,trivial⟩ trivial Try.func116 rfl (by kernel_rfl) (by decide) (by kernel_rfl) (anns:=fun x _=>an_iFilled x.1 x.2.1) (fun ⟨c,l,_⟩ k hp _=>Eq.mp (by kernel_rfl) (vcn_iFilled c l k hp)) tot_fn
abbrev c_termValue:Con:=⟨[.sl .int,.int],[.int],fun (l,t,_)=>l.length=8/\isT t=true,.inl fun (l,t,_)=>(tv l t,()),fun _=>0⟩
abbrev L_termValue:List (FuncId × Con):=[]
abbrev P_termValue:List (FuncId × PT):=[]
def VC_termValue (l:List Int) (t:Int) (k:Nat):Prop:=True/\True/\True/\(vcIf (t == (0:Int)) (True/\((((0:Int),()):Int × Unit)=(tv l t,()))/\True/\True/\True/\True/\TF) (True/\True/\(inK .i64 (t - (1:Int)))/\(0<=(t - (1:Int))/\(t - (1:Int)) < ((l.length:Nat):Int))/\True/\True/\((((l.getD (t - (1:Int)).toNat (0:Int)),()):Int × Unit)=(tv l t,()))/\True/\True/\True/\True/\TF))
theorem vcn_termValue (l:List Int) (t:Int) (k:Nat) (hp:l.length=8/\isT t=true):VC_termValue l t k:=by
 unfold VC_termValue
 simp only [cln,Nat.reduceEqDiff,Nat.reduceLeDiff,Nat.reduceAdd]
 have h:=isT_iff.1 hp.2
 by_cases h0:t=0 <;> simp [vcIf,tv,h0,inK_i64] <;> omega
theorem ok_termValue:FnOk Try.prog E 117 c_termValue :=
 fn_okQ (l:=L_termValue) (lp:=P_termValue) (hp:=fun _=>false) (gcs:=fun _=>none) (perm:=fun _=>[]) tabOk mix trivial trivial Try.func117 rfl (by kernel_rfl) (by decide) (by kernel_rfl) (anns:=fun x _=>fun _ _=>none) (fun ⟨l,t,_⟩ k hp _=>Eq.mp (by kernel_rfl) (vcn_termValue l t k hp)) tot_fn
abbrev c_caseState:Con:=⟨[.asn,.kase],[.state],fun (a,c,_)=>asV a=true/\CaseOk a c,.inl fun (a,c,_)=>(md a c,()),fun _=>0⟩
abbrev L_caseState:List (FuncId × Con):=[(116,c_iFilled),(117,c_termValue)]
abbrev P_caseState:List (FuncId × PT):=[]
def an_caseState (a:GAsn) (c:List Int):Nat->St->Option Ann
 | 3,se=>some { α:=Nat,ok:=fun i=>i<=8,mu:=fun i=>8 - i,i0:=fun _=>0,nx:=fun a _=>(fun i=>i+1) a,live:=[2,3,4,5,16],sets:=fun i=>[(17,sv (.int .i64 i))],mids:=[47,63,64,65,79],blks:=fun i=>[(95,.blk [.own 7,.own 8])],owns:=fun i=>[⟨7,.cell 95 0,.int,List.replicate 8 0⟩,⟨8,.cell 95 1,.int,List.replicate i (-1) ++ List.replicate (8 - i) 0⟩],rd:=fun r _=>r,base:=100000 }
 | 9,se=>some { α:=Nat,ok:=fun i=>i<=8,mu:=fun i=>8 - i,i0:=fun _=>0,nx:=fun a _=>(fun i=>i+1) a,live:=[2,3,4,5],sets:=fun i=>[(8,sv (.int .i64 ((i:Int)+1))),(7,sv (.int .i64 ((mdV c i).2+1)))],mids:=[47,63,64,65,79],blks:=fun i=>[(95,.blk [.own 7,.own 8])],owns:=fun i=>[⟨7,.cell 95 0,.int,(mdV c i).1⟩,⟨8,.cell 95 1,.int,List.replicate 8 (-1)⟩],rd:=fun r _=>r,base:=200000 }
 | 17,se=>some { α:=Nat,ok:=fun i=>i<=(fL c a.atoms).length,mu:=fun i=>(fL c a.atoms).length - i,i0:=fun _=>0,nx:=fun a _=>(fun i=>i+1) a,live:=[4,5,63,64],sets:=fun i=>[(65,sv (.int .i64 i))],mids:=[64,65,79,201008],blks:=fun i=>[(95,.blk [.own 7,.own 8])],owns:=fun i=>[⟨7,.cell 95 0,.int,(mdV c 8).1⟩,⟨8,.cell 95 1,.int,mdH (mdV c 8).1 ((fL c a.atoms).take i)⟩],rd:=fun r _=>r,base:=300000 }
 | _,_=>none
def VC_caseState_1 :Prop:=RL [.s (.c (.ptr 47 0)),.s (.c (.ptr 63 0)),.s (.c (.ptr 79 0)),.s (.c (.ptr 95 0)),.s (.c (.d (.val (.int .i64 (((List.replicate 8 (0:Int)).length:Nat):Int)))))]
def VC_caseState_2 :Prop:=([.s (.c (.d (.val (.int .i64 (0:Int)))))]:List S)=[.s (.c (.d (.val (.int .i64 ((0:Nat):Int)))))]
def VC_caseState_3 (a:GAsn) (c:List Int):Prop:=RM [some (.blk [.d (.arr .fact a.facts),.d (.arr .atom a.atoms)]),some (.vec .int c),some (.sl 64 .int ([]:List Int)),some (.sl 65 .int ([]:List Int)),some (.blk [.own 64,.own 65])]
def VC_caseState_4 (i1:Nat):Prop:=([.s (.c (.d (.val (.int .i64 (((i1:Nat):Int)+(1:Int))))))]:List S)=[.s (.c (.d (.val (.int .i64 (((i1+1):Nat):Int)))))]
def VC_caseState_5 (i2:Nat) (c:List Int):Prop:=0<=(((i2:Int)+1:Int) - (1:Int))/\(((i2:Int)+1:Int) - (1:Int)) < ((((mdV c i2).1).length:Nat):Int)
def VC_caseState_6 :Prop:=((some (List.replicate 8 (-1)):Option (List Int))=some (List.replicate 8 (-1)))/\True
def VC_caseState_7 (i2:Nat) (c:List Int):Prop:=([.s (.c (.d (.val (.int .i64 (((i2:Int)+1:Int)+(1:Int)))))),.s (.c (.d (.val (.int .i64 ((mdV c i2).2+1:Int)))))]:List S)=[.s (.c (.d (.val (.int .i64 (((i2+1):Int)+1:Int))))),.s (.c (.d (.val (.int .i64 ((mdV c (i2+1)).2+1:Int)))))]
def VC_caseState_8 (c:List Int) (a:GAsn):Prop:=RL [.s (.c (.ptr 79 0)),.s (.c (.ptr 95 0)),.s (.c (.own 201008)),.s (.c (.d (.val (.int .i64 (((fL c a.atoms).length:Nat):Int)))))]
def VC_caseState_9 (c:List Int) (a:GAsn):Prop:=RM [some (.sl 64 .int ([]:List Int)),some (.sl 65 .int ([]:List Int)),some (.blk [.own 64,.own 65]),some (.sl 201008 .atom (fL c a.atoms))]
def VC_caseState_10 (i2:Nat) (c:List Int) (a:GAsn):Prop:=(True/\(vcIf (decide (((i2:Int)+1:Int)<=(8:Int))) (True/\(0<=((i2:Int)+1:Int)/\((i2:Int)+1:Int) < ((9:Nat):Int)/\c.length=9)/\True/\True/\True/\True/\(vcIf ((c.getD ((i2:Int)+1:Int).toNat (0:Int)) == ((i2:Int)+1:Int)) (True/\True/\True/\(inK .i64 (((i2:Int)+1:Int) - (1:Int)))/\True/\(VC_caseState_5 i2 c)/\(TF/\TF/\True/\((7:Nat) ∉ ([]:List Nat)))/\True/\(inK .i64 (((mdV c i2).2+1:Int)+(1:Int)))/\True/\True/\(inK .i64 (((i2:Int)+1:Int)+(1:Int)))/\True/\((i2+1)<=8)/\(8 - (i2+1) < 8 - i2)/\TT/\(RL [.s (.c (.ptr 47 0)),.s (.c (.ptr 63 0)),.s (.c (.ptr 79 0)),.s (.c (.ptr 95 0))])/\(([.s (.c (.d (.val (.int .i64 (((i2:Int)+1:Int)+(1:Int)))))),.s (.c (.d (.val (.int .i64 (((mdV c i2).2+1:Int)+(1:Int))))))]:List S)=[.s (.c (.d (.val (.int .i64 (((i2+1):Int)+1:Int))))),.s (.c (.d (.val (.int .i64 ((mdV c (i2+1)).2+1:Int)))))])/\(VC_caseState_3 a c)/\(RM [some (.blk [.own 7,.own 8])])/\(((some (((mdV c i2).1).set (((i2:Int)+1:Int) - (1:Int)).toNat ((mdV c i2).2+1:Int)):Option (List Int))=some ((mdV c (i2+1)).1))/\VC_caseState_6)/\TT) (True/\(0<=((i2:Int)+1:Int)/\((i2:Int)+1:Int) < ((9:Nat):Int)/\c.length=9)/\True/\True/\True/\(vcIf (decide ((0:Int) < (c.getD ((i2:Int)+1:Int).toNat (0:Int)))) (True/\True/\True/\(inK .i64 (((i2:Int)+1:Int) - (1:Int)))/\True/\True/\True/\(0<=((i2:Int)+1:Int)/\((i2:Int)+1:Int) < ((9:Nat):Int)/\c.length=9)/\True/\(inK .i64 ((c.getD ((i2:Int)+1:Int).toNat (0:Int)) - (1:Int)))/\(0<=((c.getD ((i2:Int)+1:Int).toNat (0:Int)) - (1:Int))/\((c.getD ((i2:Int)+1:Int).toNat (0:Int)) - (1:Int)) < ((((mdV c i2).1).length:Nat):Int))/\True/\(VC_caseState_5 i2 c)/\(TF/\TF/\True/\((7:Nat) ∉ ([]:List Nat)))/\True/\(inK .i64 (((i2:Int)+1:Int)+(1:Int)))/\True/\((i2+1)<=8)/\(8 - (i2+1) < 8 - i2)/\TT/\(RL [.s (.c (.ptr 47 0)),.s (.c (.ptr 63 0)),.s (.c (.ptr 79 0)),.s (.c (.ptr 95 0))])/\(VC_caseState_7 i2 c)/\(VC_caseState_3 a c)/\(RM [some (.blk [.own 7,.own 8])])/\(((some (((mdV c i2).1).set (((i2:Int)+1:Int) - (1:Int)).toNat (((mdV c i2).1).getD ((c.getD ((i2:Int)+1:Int).toNat (0:Int)) - (1:Int)).toNat (0:Int))):Option (List Int))=some ((mdV c (i2+1)).1))/\VC_caseState_6)/\TT) (True/\(inK .i64 (((i2:Int)+1:Int)+(1:Int)))/\True/\((i2+1)<=8)/\(8 - (i2+1) < 8 - i2)/\TT/\(RL [.s (.c (.ptr 47 0)),.s (.c (.ptr 63 0)),.s (.c (.ptr 79 0)),.s (.c (.ptr 95 0))])/\(VC_caseState_7 i2 c)/\(VC_caseState_3 a c)/\(RM [some (.blk [.own 7,.own 8])])/\(((some ((mdV c i2).1):Option (List Int))=some ((mdV c (i2+1)).1))/\VC_caseState_6)/\TT))))) (True/\True/\((a.atoms.length<=1048576/\a.atoms.all atV=true/\c.length=9)/\True/\TN/\True)/\True/\True/\((0<=(fL c a.atoms).length)/\TT/\(VC_caseState_8 c a)/\VC_caseState_2/\(VC_caseState_9 c a)/\(RM [some (.blk [.own 7,.own 8])])/\(((some ((mdV c i2).1):Option (List Int))=some ((mdV c 8).1))/\((some (List.replicate 8 (-1)):Option (List Int))=some (mdH (mdV c 8).1 ((fL c a.atoms).take 0)))/\True)/\TT)/\(∀ i3:Nat,(i3<=(fL c a.atoms).length)->True/\(vcIf (decide (((i3:Nat):Int) < (((fL c a.atoms).length:Nat):Int))) ((0<=((i3:Nat):Int)/\((i3:Nat):Int) < (((fL c a.atoms).length:Nat):Int))/\True/\(TN/\True)/\(TF/\TF)/\True/\True/\True/\True/\True/\True/\((((mdV c 8).1).length=8/\isT (((fL c a.atoms).getD i3 (⟨0,0,0⟩:GAtom)).a)=true)/\True/\True)/\(inK .i64 ((tv ((mdV c 8).1) (((fL c a.atoms).getD i3 (⟨0,0,0⟩:GAtom)).a)) - (1:Int)))/\True/\True/\True/\True/\((((mdV c 8).1).length=8/\isT (((fL c a.atoms).getD i3 (⟨0,0,0⟩:GAtom)).b)=true)/\True/\True)/\(0<=((tv ((mdV c 8).1) (((fL c a.atoms).getD i3 (⟨0,0,0⟩:GAtom)).a)) - (1:Int))/\((tv ((mdV c 8).1) (((fL c a.atoms).getD i3 (⟨0,0,0⟩:GAtom)).a)) - (1:Int)) < (((mdH (mdV c 8).1 ((fL c a.atoms).take i3)).length:Nat):Int))/\(TF/\TF/\True/\((8:Nat) ∉ ([]:List Nat)))/\(inK .i64 (((i3:Nat):Int)+(1:Int)))/\True/\((i3+1)<=(fL c a.atoms).length)/\((fL c a.atoms).length - (i3+1) < (fL c a.atoms).length - i3)/\TT/\(VC_caseState_8 c a)/\(VC_caseState_4 i3)/\(VC_caseState_9 c a)/\(RM [some (.blk [.own 7,.own 8])])/\(((some ((mdV c 8).1):Option (List Int))=some ((mdV c 8).1))/\((some ((mdH (mdV c 8).1 ((fL c a.atoms).take i3)).set ((tv ((mdV c 8).1) (((fL c a.atoms).getD i3 (⟨0,0,0⟩:GAtom)).a)) - (1:Int)).toNat (tv ((mdV c 8).1) (((fL c a.atoms).getD i3 (⟨0,0,0⟩:GAtom)).b))):Option (List Int))=some (mdH (mdV c 8).1 ((fL c a.atoms).take (i3+1))))/\True)/\TT) (True/\(TF/\TF)/\((((⟨(mdV c 8).1,mdH (mdV c 8).1 ((fL c a.atoms).take i3)⟩:GState),()):GState × Unit)=(md a c,()))/\((((7:Nat) ≠ 8)/\True)/\True/\True)/\((TF/\TF)/\(TF/\TF)/\True)/\True/\(True/\True/\True)/\TF))))))
def VC_caseState (a:GAsn) (c:List Int) (k:Nat):Prop:=TN/\TN/\(TN/\TN/\TN/\True)/\(TN/\(0<=(8:Int)/\(8:Int)<=(8:Int)/\(8:Int)<=4294967296))/\(TN/\(0<=(8:Int)/\(8:Int)<=(8:Int)/\(8:Int)<=4294967296))/\(TN/\TN/\True)/\(TN/\TN/\TN/\True)/\(TF/\TF)/\True/\True/\True/\True/\((0<=8)/\TT/\VC_caseState_1/\VC_caseState_2/\(VC_caseState_3 a c)/\(RM [some (.blk [.own 176,.own 192])])/\(((some (List.replicate 8 (0:Int)):Option (List Int))=some (List.replicate 8 0))/\((some (List.replicate 8 (0:Int)):Option (List Int))=some (List.replicate 0 (-1) ++ List.replicate (8 - 0) 0))/\True)/\TT)/\(∀ i1:Nat,(i1<=8)->True/\(vcIf (decide (((i1:Nat):Int) < (((List.replicate 8 (0:Int)).length:Nat):Int))) (True/\True/\True/\True/\True/\(0<=((i1:Nat):Int)/\((i1:Nat):Int) < (((List.replicate i1 (-1) ++ List.replicate (8 - i1) 0).length:Nat):Int))/\(TF/\TF/\True/\((8:Nat) ∉ ([]:List Nat)))/\(inK .i64 (((i1:Nat):Int)+(1:Int)))/\True/\((i1+1)<=8)/\(8 - (i1+1) < 8 - i1)/\TT/\VC_caseState_1/\(VC_caseState_4 i1)/\(VC_caseState_3 a c)/\(RM [some (.blk [.own 7,.own 8])])/\(((some (List.replicate 8 0):Option (List Int))=some (List.replicate 8 0))/\((some ((List.replicate i1 (-1) ++ List.replicate (8 - i1) 0).set i1 (-1:Int)):Option (List Int))=some (List.replicate (i1+1) (-1) ++ List.replicate (8 - (i1+1)) 0))/\True)/\TT) (True/\True/\((0<=8)/\TT/\(RL [.s (.c (.ptr 47 0)),.s (.c (.ptr 63 0)),.s (.c (.ptr 79 0)),.s (.c (.ptr 95 0))])/\(([.s (.c (.d (.val (.int .i64 (1:Int))))),.s (.c (.d (.val (.int .i64 (1:Int)))))]:List S)=[.s (.c (.d (.val (.int .i64 ((0:Int)+1:Int))))),.s (.c (.d (.val (.int .i64 ((mdV c 0).2+1:Int)))))])/\(VC_caseState_3 a c)/\(RM [some (.blk [.own 7,.own 8])])/\(((some (List.replicate 8 0):Option (List Int))=some ((mdV c 0).1))/\((some (List.replicate i1 (-1) ++ List.replicate (8 - i1) 0):Option (List Int))=some (List.replicate 8 (-1)))/\True)/\TT)/\(∀ i2:Nat,(i2<=8)->True/\(VC_caseState_10 i2 c a)))))
theorem vcn_caseState (a:GAsn) (c:List Int) (k:Nat) (hp:asV a=true/\CaseOk a c):VC_caseState a c k:=by
 unfold VC_caseState VC_caseState_10 VC_caseState_9 VC_caseState_8 VC_caseState_7 VC_caseState_6 VC_caseState_5 VC_caseState_4 VC_caseState_3 VC_caseState_2 VC_caseState_1
 simp only [cln,Nat.reduceEqDiff,Nat.reduceLeDiff,Nat.reduceAdd]
 have hC:=hp.2
 have hn:=mdV_n c
 have hl:=hC.len
 have hF:=Nat.le_trans (fL_len c a.atoms) (asV_facts hp.1).2.2.2
 all_goals (try simp only [vcIf_iff,tn1,tn2,len8,mdH_len,List.length_replicate,List.length_set,decide_eq_true_eq,decide_eq_false_iff_not,bne_iff_ne,ne_eq,beq_iff_eq,beq_eq_false_iff_ne,bne_eq_false_iff_eq,Bool.not_eq_true',Bool.not_eq_false',Int.ofNat_lt,Int.natCast_inj])
 all_goals (repeat' (first | apply And.intro | intro _))
 all_goals (repeat (cases ‹_/\_›))
 all_goals (first | omega | rfl | assumption | (simp_all;done) | skip)
 all_goals (try simp only [tn1,tn2,len8,mdH_len,List.length_replicate,List.length_set] at *)
 all_goals (first
  | omega | exact rep_set (by omega) | exact rep_end ‹_› ‹_›
  | exact (md_n1 ‹_›).1 | exact (md_n1 ‹_›).2.1 | exact (md_n1 ‹_›).2.2.1 | exact (md_n1 ‹_›).2.2.2
  | exact (md_le hC ‹_›).1 | exact (md_le hC ‹_›).2 | exact md_end ‹_› ‹_›
  | exact (md_a hC ‹_›).1.1 | exact (md_a hC ‹_›).1.2 | exact (md_a hC ‹_›).2.1.1 | exact (md_a hC ‹_›).2.1.2 | exact (md_a hC ‹_›).2.2.1 | exact (md_a hC ‹_›).2.2.2
  | exact (md_gt hC ‹_› ‹_› ‹_›).elim
  | exact (mdH_step ‹_›).symm | (rw [take_full (l:=fL c a.atoms) ‹_›];rfl)
  | (rw [mdV_eq ‹_›];done) | (rw [mdV_lt ‹_› ‹_›];done) | (rw [mdV_no ‹_› ‹_›];done)
  | (have h1:=le_get hC (t:=_+1) (by omega);omega)
  | (have h1:=asV_facts (by assumption:asV a=true);omega)
  | exact (asV_facts (by assumption:asV a=true)).2.2.1
  | skip)
theorem ok_caseState:FnOk Try.prog E 61 c_caseState :=
 fn_okQ (l:=L_caseState) (lp:=P_caseState) (hp:=fun _=>false) (gcs:=fun _=>none) (perm:=fun _=>[]) tabOk mix ⟨ok_iFilled,ok_termValue,trivial⟩ trivial Try.func61 rfl (by kernel_rfl) (by decide) (by kernel_rfl) (anns:=fun x _=>an_caseState x.1 x.2.1) (fun ⟨a,c,_⟩ k hp _=>Eq.mp (by kernel_rfl) (vcn_caseState a c k hp)) tot_fn
abbrev c_iModelOf:Con:=⟨[.asn],[.state,.bool],fun (a,_)=>a.facts.length<=281474976710656/\a.atoms.length<=281474976710656,.inl fun (a,_)=>(mdL a,asV a && !(casesF a).isEmpty,()),fun _=>0⟩
abbrev L_iModelOf:List (FuncId × Con):=[(33,c_iAssertionValid),(60,c_firstCase),(61,c_caseState)]
abbrev P_iModelOf:List (FuncId × PT):=[]
def VC_iModelOf_1 (a:GAsn):Prop:=(((⟨([]:List Int),([]:List Int)⟩:GState),false,()):GState × Bool × Unit)=(mdL a,asV a && !(casesF a).isEmpty,())
def VC_iModelOf (a:GAsn) (k:Nat):Prop:=TN/\(TN/\TN/\TN/\True)/\True/\True/\((a.facts.length<=281474976710656/\a.atoms.length<=281474976710656)/\True/\True)/\True/\(vcIf (!(asV a)) ((TN/\TN/\True)/\(TF/\TF)/\True/\(VC_iModelOf_1 a)/\((((144:Nat) ≠ 145)/\True)/\True/\True)/\((TF/\TF)/\(TF/\TF)/\True)/\True/\(True/\True/\True)/\TF) (True/\((asV a=true)/\True/\True)/\True/\True/\True/\(TN/\True)/\((((casesF a).headD (List.replicate 9 0)).length=(List.replicate 9 (0:Int)).length)/\TF/\TF)/\True/\True/\True/\(vcIf (!(!(casesF a).isEmpty)) ((TN/\TN/\True)/\(TF/\TF)/\True/\(VC_iModelOf_1 a)/\((((272:Nat) ≠ 273)/\True)/\True/\True)/\((TF/\TF)/\(TF/\TF)/\True)/\True/\(True/\True/\True)/\TF) (True/\(9=((casesF a).headD (List.replicate 9 0)).length * 1)/\((asV a=true/\CaseOk a ((casesF a).headD (List.replicate 9 0)))/\True/\TN/\TN/\True)/\(TF/\TF)/\True/\((((md a ((casesF a).headD (List.replicate 9 0))),true,()):GState × Bool × Unit)=(mdL a,asV a && !(casesF a).isEmpty,()))/\((((320:Nat) ≠ 321)/\True)/\True/\True)/\((TF/\TF)/\(TF/\TF)/\True)/\True/\(True/\True/\True)/\TF))))
theorem vcn_iModelOf (a:GAsn) (k:Nat) (hp:a.facts.length<=281474976710656/\a.atoms.length<=281474976710656):VC_iModelOf a k:=by
 unfold VC_iModelOf VC_iModelOf_1
 simp only [cln,Nat.reduceEqDiff,Nat.reduceLeDiff,Nat.reduceAdd]
 have hl:=casesF_len a
 all_goals (try simp only [opn])
 all_goals (repeat' (first | apply And.intro | intro _))
 all_goals (repeat (cases ‹_/\_›))
 all_goals (first | omega | rfl | assumption | (simp_all;done) | skip)
 all_goals (first
  | exact mdL_no1 ‹_› | exact mdL_no2 ‹_› | exact mdL_yes ‹_› ‹_› _ | exact head_ok ‹_› ‹_› _ | omega | skip)
theorem ok_iModelOf:FnOk Try.prog E 20 c_iModelOf :=
 fn_okQ (l:=L_iModelOf) (lp:=P_iModelOf) (hp:=fun _=>false) (gcs:=fun _=>none) (perm:=fun _=>[]) tabOk mix ⟨ok_iAssertionValid,ok_firstCase,ok_caseState,trivial⟩ trivial Try.func20 rfl (by kernel_rfl) (by decide) (by kernel_rfl) (anns:=fun x _=>fun _ _=>none) (fun ⟨a,_⟩ k hp _=>Eq.mp (by kernel_rfl) (vcn_iModelOf a k hp)) tot_fn
abbrev c_isValue:Con:=⟨[.int],[.bool],fun _=>True,.inl fun (t,_)=>(isT t,()),fun _=>0⟩
abbrev L_isValue:List (FuncId × Con):=[]
abbrev P_isValue:List (FuncId × PT):=[]
def VC_isValue (t:Int) (k:Nat):Prop:=True/\True/\True/\True/\(vcIf (decide ((0:Int)<=t)) (True/\True/\True/\True/\(((decide (t<=(8:Int)),()):Bool × Unit)=(isT t,()))/\True/\True/\True/\True/\TF) (True/\True/\(((false,()):Bool × Unit)=(isT t,()))/\True/\True/\True/\True/\TF))
theorem vcn_isValue (t:Int) (k:Nat):VC_isValue t k:=by
 unfold VC_isValue
 simp only [cln,Nat.reduceEqDiff,Nat.reduceLeDiff,Nat.reduceAdd]
 cases h:decide (0<=t) <;> simp [vcIf,isT,h]
theorem ok_isValue:FnOk Try.prog E 101 c_isValue :=
 fn_okQ (l:=L_isValue) (lp:=P_isValue) (hp:=fun _=>false) (gcs:=fun _=>none) (perm:=fun _=>[]) tabOk mix trivial trivial Try.func101 rfl (by kernel_rfl) (by decide) (by kernel_rfl) (anns:=fun x _=>fun _ _=>none) (fun ⟨t,_⟩ k _ _=>Eq.mp (by kernel_rfl) (vcn_isValue t k)) tot_fn
end Go.Proofs.Ytfoioficiffgkaa
