/-
  Contracts of single functions of the program, each shown by the engine: what a call returns for arguments within the contract's bounds.
-/
import Derived.Test.YtopjgjelkpkmmaaFFnMissingNonea
import Derived.Test.YtopjgjelkpkmmaaFFnMissingNonef
import Derived.Test.YtopjgjelkpkmmaaEd
import Derived.Test.YtopjgjelkpkmmaaEe
import Derived.Test.YtopjgjelkpkmmaaFFnMissingNonee
import Derived.Test.YtopjgjelkpkmmaaFFnMissingNoned
set_option linter.unusedSimpArgs false
set_option linter.unusedVariables false
set_option linter.unusedSectionVars false

namespace Go.Proofs.Ytopjgjelkpkmmaa
open Go.SE Go.RowKit
set_option linter.unusedSimpArgs false
set_option linter.unusedVariables false
set_option maxHeartbeats 1000000
set_option maxRecDepth 100000
abbrev c_l6Both:Con:=⟨[.asn,.asn],[.sl .bool],fun (a,b,_)=>asV a=true/\asV b=true,.inl fun (a,b,_)=>(fl9 (fun t=>occ a t || occ b t),()),fun _=>0⟩
abbrev L_l6Both:List (FuncId × Con):=[(128,c_l3Terms)]
abbrev P_l6Both:List (FuncId × PT):=[]
def VC_l6Both (a:GAsn) (b:GAsn) (k:Nat):Prop:=TN/\TN/\TN/\(TN/\True)/\True/\True/\(TN/\TF/\TF/\(([]:List GFact).length+a.facts.length<=4294967296))/\True/\True/\(TN/\TF/\TF/\((([]:List GFact) ++ a.facts).length+b.facts.length<=4294967296))/\(TN/\True)/\True/\True/\(TN/\TF/\TF/\(([]:List GAtom).length+a.atoms.length<=4294967296))/\True/\True/\(TN/\TF/\TF/\((([]:List GAtom) ++ a.atoms).length+b.atoms.length<=4294967296))/\(TN/\TN/\True)/\((asV (⟨(([]:List GFact) ++ a.facts) ++ b.facts,(([]:List GAtom) ++ a.atoms) ++ b.atoms⟩:GAsn)=true ∨ vA (⟨(([]:List GFact) ++ a.facts) ++ b.facts,(([]:List GAtom) ++ a.atoms) ++ b.atoms⟩:GAsn)=true)/\True/\TN/\True)/\True/\((((fl9 (occ (⟨(([]:List GFact) ++ a.facts) ++ b.facts,(([]:List GAtom) ++ a.atoms) ++ b.atoms⟩:GAsn))),()):(List Bool) × Unit)=(fl9 (fun t=>occ a t || occ b t),()))/\(True/\True)/\((TF/\TF)/\True)/\True/\(True/\True)/\TF
theorem vcn_l6Both (a:GAsn) (b:GAsn) (k:Nat) (hp:asV a=true/\asV b=true):VC_l6Both a b k:=by
 unfold VC_l6Both
 simp only [cln,Nat.reduceEqDiff,Nat.reduceLeDiff,Nat.reduceAdd]
 have hA:=asV_facts hp.1
 have hB:=asV_facts hp.2
 have hV:=both_vA hp.1 hp.2
 all_goals (try simp only [opn,List.length_append])
 all_goals (repeat' (first | apply And.intro | intro _))
 all_goals (first | omega | rfl | assumption | exact .inr hV | exact both_fl | skip)
theorem ok_l6Both:FnOk Try.prog E 141 c_l6Both :=
 fn_okQ (l:=L_l6Both) (lp:=P_l6Both) (hp:=fun _=>false) (gcs:=fun _=>none) (perm:=fun _=>[]) tabOk mix ⟨ok_l3Terms,trivial⟩ trivial Try.func141 rfl (by kernel_rfl) (by decide) (by kernel_rfl) (anns:=fun x _=>fun _ _=>none) (fun ⟨a,b,_⟩ k hp _=>Eq.mp (by kernel_rfl) (vcn_l6Both a b k hp)) tot_fn
abbrev c_l6Fails:Con:=⟨[.asn,.asn],[.sl .int,.bool],fun (a,b,_)=>asV a=true/\asV b=true,.inl fun (a,b,_)=>((FC a b).headD [],!(FC a b).isEmpty,()),fun _=>0⟩
abbrev L_l6Fails:List (FuncId × Con):=[(129,c_l5Open),(140,c_l6Seek),(141,c_l6Both)]
abbrev P_l6Fails:List (FuncId × PT):=[]
def VC_l6Fails (a:GAsn) (b:GAsn) (k:Nat):Prop:=TN/\TN/\TN/\True/\True/\True/\True/\True/\((asV a=true/\asV b=true)/\True/\TN/\True)/\(True/\True/\TN/\True)/\((asV a=true/\asV b=true/\(fl9 (fun t=>occ a t || occ b t)).length=9/\opens.length=9/\le8 opens=true/\1<=(1:Int)/\(1:Int)<=9)/\True/\TN/\True)/\True/\True/\True/\True/\(((((sQ (sFn a b) a (fl9 (fun t=>occ a t || occ b t)) opens (1:Int)).headD []),(!(sQ (sFn a b) a (fl9 (fun t=>occ a t || occ b t)) opens (1:Int)).isEmpty),()):(List Int) × Bool × Unit)=((FC a b).headD [],!(FC a b).isEmpty,()))/\(True/\True)/\((TF/\TF)/\True)/\True/\(True/\True)/\TF
theorem vcn_l6Fails (a:GAsn) (b:GAsn) (k:Nat) (hp:asV a=true/\asV b=true):VC_l6Fails a b k:=by
 unfold VC_l6Fails
 simp only [cln,Nat.reduceEqDiff,Nat.reduceLeDiff,Nat.reduceAdd]
 have hA:=asV_facts hp.1
 have hB:=asV_facts hp.2
 all_goals (try rw [sFC hp.1 hp.2])
 all_goals (try simp only [opn])
 all_goals (repeat' (first | apply And.intro | intro _))
 all_goals (first | omega | rfl | assumption | exact hp.1 | exact hp.2 | exact fl9_len _ | trivial | skip)
theorem ok_l6Fails:FnOk Try.prog E 105 c_l6Fails :=
 fn_okQ (l:=L_l6Fails) (lp:=P_l6Fails) (hp:=fun _=>false) (gcs:=fun _=>none) (perm:=fun _=>[]) tabOk mix ⟨ok_l5Open,ok_l6Seek,ok_l6Both,trivial⟩ trivial Try.func105 rfl (by kernel_rfl) (by decide) (by kernel_rfl) (anns:=fun x _=>fun _ _=>none) (fun ⟨a,b,_⟩ k hp _=>Eq.mp (by kernel_rfl) (vcn_l6Fails a b k hp)) tot_fn
abbrev c_sEntails:Con:=⟨[.asn,.asn],[.bool],fun (a,b,_)=>a.facts.length<=281474976710656/\a.atoms.length<=281474976710656/\b.facts.length<=281474976710656/\b.atoms.length<=281474976710656,.inl fun (a,b,_)=>(ENT a b,()),fun _=>0⟩
abbrev L_sEntails:List (FuncId × Con):=[(74,c_sAssertionValid),(105,c_l6Fails)]
abbrev P_sEntails:List (FuncId × PT):=[]
def VC_sEntails_1 (a:GAsn) (b:GAsn):Prop:=True/\(((false,()):Bool × Unit)=(ENT a b,()))/\True/\True/\True/\True/\TF
def VC_sEntails (a:GAsn) (b:GAsn) (k:Nat):Prop:=TN/\TN/\True/\True/\((a.facts.length<=281474976710656/\a.atoms.length<=281474976710656)/\True/\True)/\True/\True/\(vcIf (!(asV a)) (True/\(VC_sEntails_1 a b)) (True/\((b.facts.length<=281474976710656/\b.atoms.length<=281474976710656)/\True/\True)/\True/\True/\(vcIf (!(asV b)) (VC_sEntails_1 a b) (True/\True/\((asV a=true/\asV b=true)/\True/\TN/\True)/\True/\True/\True/\True/\True/\True/\True/\True/\(((!(!(FC a b).isEmpty),()):Bool × Unit)=(ENT a b,()))/\True/\True/\True/\True/\TF))))
theorem vcn_sEntails (a:GAsn) (b:GAsn) (k:Nat) (hp:a.facts.length<=281474976710656/\a.atoms.length<=281474976710656/\b.facts.length<=281474976710656/\b.atoms.length<=281474976710656):VC_sEntails a b k:=by
 unfold VC_sEntails VC_sEntails_1
 simp only [cln,Nat.reduceEqDiff,Nat.reduceLeDiff,Nat.reduceAdd]
 all_goals (try simp only [opn])
 all_goals (repeat' (first | apply And.intro | intro _))
 all_goals (repeat (cases ‹_/\_›))
 all_goals (first | omega | rfl | assumption | exact (ent_no1 ‹_›).symm | exact (ent_no2 ‹_›).symm | (rw [ENT_FC ‹_› ‹_›,Bool.not_not];done) | exact fc_len ‹_› ‹_› | skip)
theorem ok_sEntails:FnOk Try.prog E 124 c_sEntails :=
 fn_okQ (l:=L_sEntails) (lp:=P_sEntails) (hp:=fun _=>false) (gcs:=fun _=>none) (perm:=fun _=>[]) tabOk mix ⟨ok_sAssertionValid,ok_l6Fails,trivial⟩ trivial Try.func124 rfl (by kernel_rfl) (by decide) (by kernel_rfl) (anns:=fun x _=>fun _ _=>none) (fun ⟨a,b,_⟩ k hp _=>Eq.mp (by kernel_rfl) (vcn_sEntails a b k hp)) tot_fn
abbrev c_l7Frame:Con:=⟨[.asn,.asn],[.asn,.bool],fun (a,b,_)=>asV a=true/\asV b=true,.inl fun (a,b,_)=>(frmL a b,frmB a b,()),fun _=>0⟩
abbrev L_l7Frame:List (FuncId × Con):=[(74,c_sAssertionValid),(75,c_l7Pick),(87,c_l3Star),(124,c_sEntails)]
abbrev P_l7Frame:List (FuncId × PT):=[]
def an_l7Frame (a:GAsn) (b:GAsn):Nat->St->Option Ann
 | 2,se=>some { α:=Nat,ok:=fun i=>(i:Int)<=pkTop a/\frN a b i=true,mu:=fun i=>(pkTop a).toNat - i,i0:=fun _=>0,nx:=fun a _=>(fun i=>i+1) a,live:=[2,3,4],sets:=fun i=>[(6,sv (.int .i64 i))],mids:=[47,63,64,65,79],blks:=fun i=>[],owns:=fun i=>[],rd:=fun r _=>r,base:=100000 }
 | _,_=>none
def VC_l7Frame_1 (a:GAsn) (b:GAsn):Prop:=(RM [some (.blk [.d (.arr .fact a.facts),.d (.arr .atom a.atoms)]),some (.blk [.d (.arr .fact b.facts),.d (.arr .atom b.atoms)]),some (.sl 64 .fact ([]:List GFact)),some (.sl 65 .atom ([]:List GAtom)),some (.blk [.own 64,.own 65])])/\(RM [])/\True/\TT
def VC_l7Frame_2 (i1:Nat) (a:GAsn) (b:GAsn):Prop:=True/\(inK .i64 (((i1:Nat):Int)+(1:Int)))/\True/\(((i1+1):Int)<=pkTop a/\frN a b (i1+1)=true)/\((pkTop a).toNat - (i1+1) < (pkTop a).toNat - i1)/\TT/\(RL [.s (.c (.ptr 47 0)),.s (.c (.ptr 63 0)),.s (.c (.ptr 79 0))])/\(([.s (.c (.d (.val (.int .i64 (((i1:Nat):Int)+(1:Int))))))]:List S)=[.s (.c (.d (.val (.int .i64 (((i1+1):Nat):Int)))))])/\(VC_l7Frame_1 a b)
def VC_l7Frame (a:GAsn) (b:GAsn) (k:Nat):Prop:=TN/\TN/\(TN/\TN/\TN/\True)/\True/\True/\(((0:Int)<=pkTop a/\frN a b 0=true)/\TT/\(RL [.s (.c (.ptr 47 0)),.s (.c (.ptr 63 0)),.s (.c (.ptr 79 0))])/\(([.s (.c (.d (.val (.int .i64 (0:Int)))))]:List S)=[.s (.c (.d (.val (.int .i64 ((0:Nat):Int)))))])/\(VC_l7Frame_1 a b))/\(∀ i1:Nat,((i1:Int)<=pkTop a/\frN a b i1=true)->True/\True/\True/\True/\(0<=((a.atoms.length:Nat):Int))/\True/\(vcIf (decide (((i1:Nat):Int) < (IntKind.wrap .i64 ((1:Int) * 2 ^ (min a.atoms.length (IntKind.bits .i64)))))) (True/\True/\((a.facts.length<=1048576/\a.atoms.length<=1048576)/\True/\TN/\TN/\True)/\(TN/\TN/\TN/\True)/\(TF/\TF)/\True/\True/\((b.facts.length<=1048576/\b.atoms.length<=1048576/\(⟨[],(pkA ((i1:Nat):Int) a.atoms)⟩:GAsn).facts.length<=1048576/\(⟨[],(pkA ((i1:Nat):Int) a.atoms)⟩:GAsn).atoms.length<=1048576)/\True/\TN/\TN/\True)/\(TN/\TN/\TN/\True)/\(TF/\TF)/\True/\(((⟨(b.facts ++ (⟨[],(pkA ((i1:Nat):Int) a.atoms)⟩:GAsn).facts),(b.atoms ++ (⟨[],(pkA ((i1:Nat):Int) a.atoms)⟩:GAsn).atoms)⟩:GAsn).facts.length<=281474976710656/\(⟨(b.facts ++ (⟨[],(pkA ((i1:Nat):Int) a.atoms)⟩:GAsn).facts),(b.atoms ++ (⟨[],(pkA ((i1:Nat):Int) a.atoms)⟩:GAsn).atoms)⟩:GAsn).atoms.length<=281474976710656)/\True/\True)/\True/\(vcIf (asV (⟨(b.facts ++ (⟨[],(pkA ((i1:Nat):Int) a.atoms)⟩:GAsn).facts),(b.atoms ++ (⟨[],(pkA ((i1:Nat):Int) a.atoms)⟩:GAsn).atoms)⟩:GAsn)) (True/\True/\((a.facts.length<=281474976710656/\a.atoms.length<=281474976710656/\(⟨(b.facts ++ (⟨[],(pkA ((i1:Nat):Int) a.atoms)⟩:GAsn).facts),(b.atoms ++ (⟨[],(pkA ((i1:Nat):Int) a.atoms)⟩:GAsn).atoms)⟩:GAsn).facts.length<=281474976710656/\(⟨(b.facts ++ (⟨[],(pkA ((i1:Nat):Int) a.atoms)⟩:GAsn).facts),(b.atoms ++ (⟨[],(pkA ((i1:Nat):Int) a.atoms)⟩:GAsn).atoms)⟩:GAsn).atoms.length<=281474976710656)/\True/\True)/\True/\(vcIf (ENT a (⟨(b.facts ++ (⟨[],(pkA ((i1:Nat):Int) a.atoms)⟩:GAsn).facts),(b.atoms ++ (⟨[],(pkA ((i1:Nat):Int) a.atoms)⟩:GAsn).atoms)⟩:GAsn)) (True/\(TF/\TF)/\True/\((((⟨[],(pkA ((i1:Nat):Int) a.atoms)⟩:GAsn),true,()):GAsn × Bool × Unit)=(frmL a b,frmB a b,()))/\((((100304:Nat) ≠ 100305)/\True)/\True/\True)/\((TF/\TF)/\(TF/\TF)/\True)/\True/\(True/\True/\True)/\TF) (VC_l7Frame_2 i1 a b))) (True/\(VC_l7Frame_2 i1 a b)))) ((TN/\TN/\True)/\(TF/\TF)/\True/\((((⟨([]:List GFact),([]:List GAtom)⟩:GAsn),false,()):GAsn × Bool × Unit)=(frmL a b,frmB a b,()))/\((((100496:Nat) ≠ 100497)/\True)/\True/\True)/\((TF/\TF)/\(TF/\TF)/\True)/\True/\(True/\True/\True)/\TF)))
theorem vcn_l7Frame (a:GAsn) (b:GAsn) (k:Nat) (hp:asV a=true/\asV b=true):VC_l7Frame a b k:=by
 unfold VC_l7Frame VC_l7Frame_2 VC_l7Frame_1
 simp only [cln,Nat.reduceEqDiff,Nat.reduceLeDiff,Nat.reduceAdd]
 have hT:=pkTop_eq hp.1
 have hA:=fo_len6 hp.1
 have hB:=fo_len6 hp.2
 all_goals (try simp only [opn])
 all_goals (try simp only [pkTop_w])
 all_goals (try simp only [decide_eq_true_eq,decide_eq_false_iff_not])
 all_goals (repeat' (first | apply And.intro | intro _))
 all_goals (repeat (cases ‹_/\_›))
 all_goals (first | with_reducible exact True.intro | (exfalso;contradiction) | omega | with_reducible assumption | with_reducible rfl | skip)
 all_goals (first
  | with_reducible exact frN_zero | with_reducible exact pk200 (by omega)
  | (with_reducible refine Nat.le_trans (m:=200) ?_ (by decide);with_reducible exact app_pk (by omega) (by omega))
  | with_reducible exact fra_a ‹_› ‹_› ‹_› ‹_› | with_reducible exact fra_b ‹_› ‹_› ‹_› ‹_›
  | with_reducible exact (frm_f ‹_› ‹_› ‹_› ‹_› ‹_› ‹_›).1 | with_reducible exact (frm_f ‹_› ‹_› ‹_› ‹_› ‹_› ‹_›).2
  | with_reducible exact (frm_none ‹_› ‹_› ‹_› ‹_›).1 | with_reducible exact (frm_none ‹_› ‹_› ‹_› ‹_›).2
  | skip)
theorem ok_l7Frame:FnOk Try.prog E 83 c_l7Frame :=
 fn_okQ (l:=L_l7Frame) (lp:=P_l7Frame) (hp:=fun _=>false) (gcs:=fun _=>none) (perm:=fun _=>[]) tabOk mix ⟨ok_sAssertionValid,ok_l7Pick,ok_l3Star,ok_sEntails,trivial⟩ trivial Try.func83 rfl (by kernel_rfl) (by decide) (by kernel_rfl) (anns:=fun x _=>an_l7Frame x.1 x.2.1) (fun ⟨a,b,_⟩ k hp _=>Eq.mp (by kernel_rfl) (vcn_l7Frame a b k hp)) tot_fn
abbrev c_l5First:Con:=⟨[.asn,.sl .bool,.sl .int,.int],[.sl .int,.bool],fun (a,tm,c,t,_)=>vA a=true/\tm.length=9/\c.length=9/\le8 c=true/\1<=t/\t<=9,.inl fun (a,tm,c,t,_)=>((sQ (sFin a) a tm c t).headD [],!(sQ (sFin a) a tm c t).isEmpty,()),fun _=>0⟩
abbrev mu_l5First:Args c_l5First.aks->Nat:=fun (a,tm,c,t,_)=>(9 - t).toNat
abbrev L_l5First (m:Nat):List (FuncId × Con):=[(107,c_l5Filled),(127,c_l5First.lim mu_l5First m),(153,c_l5Fits),(154,c_l5Early),(155,c_l5Apart)]
abbrev P_l5First:List (FuncId × PT):=[]
def an_l5First (a:GAsn) (tm:List Bool) (c:List Int) (t:Int):Nat->St->Option Ann
 | 10,se=>some { α:=Nat,ok:=fun i=>(i:Int)<=t+1/\∀ j,j < i->brE (sFin a) a tm c t j=[],mu:=fun i=>(t+1).toNat - i,i0:=fun _=>0,nx:=fun a _=>(fun i=>i+1) a,live:=[1,2,3,4],sets:=fun i=>[(10,sv (.int .i64 i))],mids:=[79],blks:=fun i=>[],owns:=fun i=>[],rd:=fun r _=>r,base:=100000 }
 | _,_=>none
def VC_l5First_1 (a:GAsn) (tm:List Bool) (c:List Int) (t:Int):Prop:=(TN/\True)/\True/\True/\(((([]:List Int),false,()):(List Int) × Bool × Unit)=((sQ (sFin a) a tm c t).headD [],!(sQ (sFin a) a tm c t).isEmpty,()))/\(True/\True)/\((TF/\TF)/\True)/\True/\(True/\True)/\TF
def VC_l5First_2 (tm:List Bool) (c:List Int) (t:Int):Prop:=RL [.s (.c (.d (.arr .bool tm))),.s (.c (.d (.arr .int c))),.s (.c (.d (.val (.int .i64 t)))),.s (.c (.ptr 79 0))]
def VC_l5First_3 (a:GAsn):Prop:=(RM [some (.blk [.d (.arr .fact a.facts),.d (.arr .atom a.atoms)])])/\(RM [])/\True/\TT
def VC_l5First_4 (i1:Nat) (t:Int) (a:GAsn) (tm:List Bool) (c:List Int):Prop:=True/\(inK .i64 (((i1:Nat):Int)+(1:Int)))/\True/\(((i1+1):Int)<=t+1/\∀ j,j < (i1+1)->brE (sFin a) a tm c t j=[])/\((t+1).toNat - (i1+1) < (t+1).toNat - i1)/\TT/\(VC_l5First_2 tm c t)/\(([.s (.c (.d (.val (.int .i64 (((i1:Nat):Int)+(1:Int))))))]:List S)=[.s (.c (.d (.val (.int .i64 (((i1+1):Nat):Int)))))])/\(VC_l5First_3 a)
def VC_l5First_5 (c:List Int) (t:Int) (a:GAsn) (tm:List Bool) (i1:Nat) (m:Nat):Prop:=(TN/\True)/\True/\(TN/\TF/\TF/\(([]:List Int).length+c.length<=4294967296))/\True/\True/\True/\True/\(0<=t/\t < (((([]:List Int) ++ c).length:Nat):Int))/\(TF/\TF/\True/\((101104:Nat) ∉ ([]:List Nat)))/\True/\True/\True/\True/\(inK .i64 (t+(1:Int)))/\(((vA a=true/\tm.length=9/\((([]:List Int) ++ c).set t.toNat ((i1:Nat):Int)).length=9/\le8 ((([]:List Int) ++ c).set t.toNat ((i1:Nat):Int))=true/\1<=(t+(1:Int))/\(t+(1:Int))<=9)/\(9 - (t+(1:Int))).toNat < m)/\True/\TN/\True)/\True/\True/\True/\True/\True/\True/\(vcIf (!(sQ (sFin a) a tm ((([]:List Int) ++ c).set t.toNat ((i1:Nat):Int)) (t+(1:Int))).isEmpty) (True/\True/\True/\(((((sQ (sFin a) a tm ((([]:List Int) ++ c).set t.toNat ((i1:Nat):Int)) (t+(1:Int))).headD []),true,()):(List Int) × Bool × Unit)=((sQ (sFin a) a tm c t).headD [],!(sQ (sFin a) a tm c t).isEmpty,()))/\(True/\True)/\((TF/\TF)/\True)/\True/\(True/\True)/\TF) (VC_l5First_4 i1 t a tm c))
def VC_l5First (a:GAsn) (tm:List Bool) (c:List Int) (t:Int) (m:Nat) (k:Nat):Prop:=TN/\TN/\True/\True/\True/\True/\((a.facts.length<=1048576/\a.facts.all fV=true/\c.length=9)/\True/\True)/\True/\True/\(vcIf (!(sFit a.facts c)) (True/\(VC_l5First_1 a tm c t)) (True/\True/\True/\((a.atoms.length<=1048576/\a.atoms.all atV=true/\c.length=9/\le8 c=true)/\True/\True)/\True/\True/\(vcIf (!(sEarly a.atoms c)) (VC_l5First_1 a tm c t) (True/\True/\(vcIf (decide ((8:Int) < t)) (True/\True/\True/\((a.atoms.length<=1048576/\a.atoms.all atV=true/\c.length=9)/\True/\TN/\True)/\(((fL c a.atoms).length<=1048576)/\True/\True)/\(vcIf (sApart (fL c a.atoms)) ((TN/\True)/\True/\(TN/\TF/\TF/\(([]:List Int).length+c.length<=4294967296))/\True/\True/\(((([]:List Int) ++ c,true,()):(List Int) × Bool × Unit)=((sQ (sFin a) a tm c t).headD [],!(sQ (sFin a) a tm c t).isEmpty,()))/\(True/\True)/\((TF/\TF)/\True)/\True/\(True/\True)/\TF) (VC_l5First_1 a tm c t))) (True/\True/\(0<=t/\t < ((tm.length:Nat):Int))/\True/\True/\(vcIf (!(tm.getD t.toNat false)) (True/\True/\True/\True/\(inK .i64 (t+(1:Int)))/\(((vA a=true/\tm.length=9/\c.length=9/\le8 c=true/\1<=(t+(1:Int))/\(t+(1:Int))<=9)/\(9 - (t+(1:Int))).toNat < m)/\True/\TN/\True)/\True/\True/\True/\True/\(((((sQ (sFin a) a tm c (t+(1:Int))).headD []),(!(sQ (sFin a) a tm c (t+(1:Int))).isEmpty),()):(List Int) × Bool × Unit)=((sQ (sFin a) a tm c t).headD [],!(sQ (sFin a) a tm c t).isEmpty,()))/\(True/\True)/\((TF/\TF)/\True)/\True/\(True/\True)/\TF) (True/\(((0:Int)<=t+1/\∀ j,j < 0->brE (sFin a) a tm c t j=[])/\TT/\(VC_l5First_2 tm c t)/\(([.s (.c (.d (.val (.int .i64 (0:Int)))))]:List S)=[.s (.c (.d (.val (.int .i64 ((0:Nat):Int)))))])/\(VC_l5First_3 a))/\(∀ i1:Nat,((i1:Int)<=t+1/\∀ j,j < i1->brE (sFin a) a tm c t j=[])->True/\True/\True/\(vcIf (decide (((i1:Nat):Int)<=t)) (True/\True/\True/\True/\(vcIf (decide (((i1:Nat):Int) < t)) (True/\True/\(0<=((i1:Nat):Int)/\((i1:Nat):Int) < ((c.length:Nat):Int))/\True/\True/\True/\True/\(vcIf ((c.getD i1 (0:Int)) != ((i1:Nat):Int)) (VC_l5First_4 i1 t a tm c) (VC_l5First_5 c t a tm i1 m))) (True/\(VC_l5First_5 c t a tm i1 m)))) (VC_l5First_1 a tm c t)))))))))))
theorem vcn_l5First (a:GAsn) (tm:List Bool) (c:List Int) (t:Int) (m:Nat) (k:Nat) (hp:(vA a=true/\tm.length=9/\c.length=9/\le8 c=true/\1<=t/\t<=9)/\(9 - t).toNat < m+1):VC_l5First a tm c t m k:=by
 unfold VC_l5First VC_l5First_5 VC_l5First_4 VC_l5First_3 VC_l5First_2 VC_l5First_1
 simp only [cln,Nat.reduceEqDiff,Nat.reduceLeDiff,Nat.reduceAdd]
 have hV:=vA_iff.1 hp.1.1
 have hA:(fL c a.atoms).length<=1048576:=Nat.le_trans (fL_len _ _) (Nat.le_trans hV.2.2.2 (by decide))
 all_goals (try simp only [opn])
 all_goals (repeat' (first | apply And.intro | intro _))
 all_goals (repeat (cases ‹_/\_›))
 all_goals (first | omega | rfl | assumption | (simp_all;done) | skip)
 all_goals (first
  | exact hV.1 | exact hV.2.1 | exact Nat.le_trans hV.2.2.1 (by decide) | exact Nat.le_trans hV.2.2.2 (by decide) | exact Nat.le_trans (fL_len _ _) (Nat.le_trans hV.2.2.2 (by decide))
  | (rw [fits_no1 ‹_›];rfl) | (rw [fits_no2 ‹_›];rfl)
  | (rw [last_yes ‹_› ‹_› ‹_› ‹_›];rfl) | (rw [last_no ‹_› ‹_› ‹_› ‹_›];rfl)
  | (rw [sQ_skip (t:=t) ‹_› (by omega) (fits_yes ‹_› ‹_›) ‹_›];done)
  | exact brE_skip ‹_› ‹_› ‹_› _ ‹_›
  | exact brE_none ‹_› ‹_› _ ‹_›
  | exact le8_set ‹_› (by omega)
  | exact (sQ_hit ‹_› (by omega) (fits_yes ‹_› ‹_›) ‹_› ‹_› ‹_› (.inr ‹_›) ‹_›).1.symm
  | exact (sQ_hit ‹_› (by omega) (fits_yes ‹_› ‹_›) ‹_› ‹_› ‹_› (.inl (by omega)) ‹_›).1.symm
  | (rw [(sQ_hit ‹_› (by omega) (fits_yes ‹_› ‹_›) ‹_› ‹_› ‹_› (.inr ‹_›) ‹_›).2];rfl)
  | (rw [(sQ_hit ‹_› (by omega) (fits_yes ‹_› ‹_›) ‹_› ‹_› ‹_› (.inl (by omega)) ‹_›).2];rfl)
  | (rw [sQ_none ‹_› (by omega) (fits_yes ‹_› ‹_›) ‹_› ‹_› ‹_›];rfl)
  | skip)
theorem ok_l5First:FnOk Try.prog E 127 c_l5First :=
 fn_rec (mu:=mu_l5First) (fun m ih=>fn_okQ (con:=c_l5First.lim mu_l5First (m+1)) (fn:=Try.f127) (l:=L_l5First m) (lp:=P_l5First) (hp:=fun _=>false) (gcs:=fun _=>none) (perm:=fun _=>[]) tabOk mix ⟨ok_l5Filled,ih,ok_l5Fits,ok_l5Early,ok_l5Apart,trivial⟩ trivial Try.func127 rfl (by kernel_rfl) (show c_l5First.aks.length<=Try.f127.ntmps by decide) (by kernel_rfl) (anns:=fun x _=>an_l5First x.1 x.2.1 x.2.2.1 x.2.2.2.1) (fun ⟨a,tm,c,t,_⟩ k hp _=>Eq.mp (by kernel_rfl) (vcn_l5First a tm c t m k hp)) tot_fn) ⟨_,_,Try.func127,by kernel_rfl,rfl⟩ tot_fn
abbrev c_sConsistent:Con:=⟨[.asn],[.bool],fun (a,_)=>a.facts.length<=281474976710656/\a.atoms.length<=281474976710656,.inl fun (a,_)=>(asV a && !(casesF a).isEmpty,()),fun _=>0⟩
abbrev L_sConsistent:List (FuncId × Con):=[(74,c_sAssertionValid),(127,c_l5First),(128,c_l3Terms),(129,c_l5Open)]
abbrev P_sConsistent:List (FuncId × PT):=[]
def VC_sConsistent (a:GAsn) (k:Nat):Prop:=TN/\True/\True/\((a.facts.length<=281474976710656/\a.atoms.length<=281474976710656)/\True/\True)/\True/\(vcIf (!(asV a)) (True/\(((false,()):Bool × Unit)=(asV a && !(casesF a).isEmpty,()))/\True/\True/\True/\True/\TF) (True/\True/\((asV a=true ∨ vA a=true)/\True/\TN/\True)/\(True/\True/\TN/\True)/\((vA a=true/\(fl9 (occ a)).length=9/\opens.length=9/\le8 opens=true/\1<=(1:Int)/\(1:Int)<=9)/\True/\TN/\True)/\True/\True/\True/\True/\True/\True/\True/\((((!(sQ (sFin a) a (fl9 (occ a)) opens (1:Int)).isEmpty),()):Bool × Unit)=(asV a && !(casesF a).isEmpty,()))/\True/\True/\True/\True/\TF))
theorem vcn_sConsistent (a:GAsn) (k:Nat) (hp:a.facts.length<=281474976710656/\a.atoms.length<=281474976710656):VC_sConsistent a k:=by
 unfold VC_sConsistent
 simp only [cln,Nat.reduceEqDiff,Nat.reduceLeDiff,Nat.reduceAdd]
 all_goals (try simp only [opn])
 all_goals (repeat' (first | apply And.intro | intro _))
 all_goals (repeat (cases ‹_/\_›))
 all_goals (first | omega | rfl | assumption | (simp_all;done) | skip)
 all_goals (have ha:=(by assumption:asV a=true))
 all_goals (first | exact vA_of ha | (rw [sCases ha,ha];rfl) | skip)
theorem ok_sConsistent:FnOk Try.prog E 90 c_sConsistent :=
 fn_okQ (l:=L_sConsistent) (lp:=P_sConsistent) (hp:=fun _=>false) (gcs:=fun _=>none) (perm:=fun _=>[]) tabOk mix ⟨ok_sAssertionValid,ok_l5First,ok_l3Terms,ok_l5Open,trivial⟩ trivial Try.func90 rfl (by kernel_rfl) (by decide) (by kernel_rfl) (anns:=fun x _=>fun _ _=>none) (fun ⟨a,_⟩ k hp _=>Eq.mp (by kernel_rfl) (vcn_sConsistent a k hp)) tot_fn
abbrev c_sMissingOf:Con:=⟨[.asn,.asn],[.asn,.asn,.bool],fun (a,b,_)=>a.facts.length<=281474976710656/\a.atoms.length<=281474976710656/\b.facts.length<=281474976710656/\b.atoms.length<=281474976710656,.inl fun (a,b,_)=>(miL a b,miF a b,miB a b,()),fun _=>0⟩
abbrev L_sMissingOf:List (FuncId × Con):=[(74,c_sAssertionValid),(75,c_l7Pick),(83,c_l7Frame),(87,c_l3Star),(90,c_sConsistent)]
abbrev P_sMissingOf:List (FuncId × PT):=[]
def an_sMissingOf (a:GAsn) (b:GAsn):Nat->St->Option Ann
 | 4,se=>some { α:=Nat,ok:=fun i=>(i:Int)<=pkTop b/\miN a b i=true,mu:=fun i=>(pkTop b).toNat - i,i0:=fun _=>0,nx:=fun a _=>(fun i=>i+1) a,live:=[2,3,4,5],sets:=fun i=>[(7,sv (.int .i64 i))],mids:=[47,63,64,65,79,80,81,95],blks:=fun i=>[],owns:=fun i=>[],rd:=fun r _=>r,base:=100000 }
 | _,_=>none
def perm_sMissingOf:Nat->List (List Nat)
 | 11=>[[0,1,2,3,4],[1,0,2,3,4],[0,2,1,3,4]]
 | _=>[]
def VC_sMissingOf_1 (a:GAsn) (b:GAsn):Prop:=(((⟨([]:List GFact),([]:List GAtom)⟩:GAsn),(⟨([]:List GFact),([]:List GAtom)⟩:GAsn),false,()):GAsn × GAsn × Bool × Unit)=(miL a b,miF a b,miB a b,())
def VC_sMissingOf_2 :Prop:=((TF/\TF)/\(TF/\TF)/\(TF/\TF)/\(TF/\TF)/\True)/\True/\(True/\True/\True/\True/\True)/\TF
def VC_sMissingOf_3 (a:GAsn) (b:GAsn):Prop:=(TN/\TN/\True)/\(TN/\TN/\True)/\(TF/\TF)/\(TF/\TF)/\True/\(VC_sMissingOf_1 a b)/\((((320:Nat) ≠ 321)/\((320:Nat) ≠ 336)/\((320:Nat) ≠ 337)/\True)/\(((321:Nat) ≠ 336)/\((321:Nat) ≠ 337)/\True)/\(((336:Nat) ≠ 337)/\True)/\True/\True)/\VC_sMissingOf_2
def VC_sMissingOf_4 (a:GAsn) (b:GAsn):Prop:=(RM [some (.blk [.d (.arr .fact a.facts),.d (.arr .atom a.atoms)]),some (.blk [.d (.arr .fact b.facts),.d (.arr .atom b.atoms)]),some (.sl 64 .fact ([]:List GFact)),some (.sl 65 .atom ([]:List GAtom)),some (.blk [.own 64,.own 65]),some (.sl 80 .fact ([]:List GFact)),some (.sl 81 .atom ([]:List GAtom)),some (.blk [.own 80,.own 81])])/\(RM [])/\True/\TT
def VC_sMissingOf_5 (a:GAsn) (i1:Nat) (b:GAsn):Prop:=((⟨(a.facts ++ (⟨[],(pkA ((i1:Nat):Int) b.atoms)⟩:GAsn).facts),(a.atoms ++ (⟨[],(pkA ((i1:Nat):Int) b.atoms)⟩:GAsn).atoms)⟩:GAsn).facts.length<=281474976710656/\(⟨(a.facts ++ (⟨[],(pkA ((i1:Nat):Int) b.atoms)⟩:GAsn).facts),(a.atoms ++ (⟨[],(pkA ((i1:Nat):Int) b.atoms)⟩:GAsn).atoms)⟩:GAsn).atoms.length<=281474976710656)/\True/\True
def VC_sMissingOf_6 (i1:Nat) (b:GAsn) (a:GAsn):Prop:=True/\(inK .i64 (((i1:Nat):Int)+(1:Int)))/\True/\(((i1+1):Int)<=pkTop b/\miN a b (i1+1)=true)/\((pkTop b).toNat - (i1+1) < (pkTop b).toNat - i1)/\TT/\(RL [.s (.c (.ptr 47 0)),.s (.c (.ptr 63 0)),.s (.c (.ptr 79 0)),.s (.c (.ptr 95 0))])/\(([.s (.c (.d (.val (.int .i64 (((i1:Nat):Int)+(1:Int))))))]:List S)=[.s (.c (.d (.val (.int .i64 (((i1+1):Nat):Int)))))])/\(VC_sMissingOf_4 a b)
def VC_sMissingOf_7 (i1:Nat) (b:GAsn) (a:GAsn):Prop:=(TF/\TF)/\True/\((((⟨[],(pkA ((i1:Nat):Int) b.atoms)⟩:GAsn),(frmL (⟨(a.facts ++ (⟨[],(pkA ((i1:Nat):Int) b.atoms)⟩:GAsn).facts),(a.atoms ++ (⟨[],(pkA ((i1:Nat):Int) b.atoms)⟩:GAsn).atoms)⟩:GAsn) b),true,()):GAsn × GAsn × Bool × Unit)=(miL a b,miF a b,miB a b,()))/\((((100512:Nat) ≠ 100513)/\((100512:Nat) ≠ 100752)/\((100512:Nat) ≠ 100753)/\True)/\(((100513:Nat) ≠ 100752)/\((100513:Nat) ≠ 100753)/\True)/\(((100752:Nat) ≠ 100753)/\True)/\True/\True)/\VC_sMissingOf_2
def VC_sMissingOf_8 (i1:Nat) (b:GAsn) (a:GAsn):Prop:=True/\True/\(TF/\TF)/\(VC_sMissingOf_7 i1 b a)
def VC_sMissingOf (a:GAsn) (b:GAsn) (k:Nat):Prop:=TN/\TN/\(TN/\TN/\TN/\True)/\(TN/\TN/\TN/\True)/\True/\True/\((a.facts.length<=281474976710656/\a.atoms.length<=281474976710656)/\True/\True)/\True/\True/\(vcIf (!(asV a)) (True/\(VC_sMissingOf_3 a b)) (True/\((b.facts.length<=281474976710656/\b.atoms.length<=281474976710656)/\True/\True)/\True/\True/\(vcIf (!(asV b)) (VC_sMissingOf_3 a b) (True/\(((0:Int)<=pkTop b/\miN a b 0=true)/\TT/\(RL [.s (.c (.ptr 47 0)),.s (.c (.ptr 63 0)),.s (.c (.ptr 79 0)),.s (.c (.ptr 95 0))])/\(([.s (.c (.d (.val (.int .i64 (0:Int)))))]:List S)=[.s (.c (.d (.val (.int .i64 ((0:Nat):Int)))))])/\(VC_sMissingOf_4 a b))/\(∀ i1:Nat,((i1:Int)<=pkTop b/\miN a b i1=true)->True/\True/\True/\True/\(0<=((b.atoms.length:Nat):Int))/\True/\(vcIf (decide (((i1:Nat):Int) < (IntKind.wrap .i64 ((1:Int) * 2 ^ (min b.atoms.length (IntKind.bits .i64)))))) (True/\True/\((b.facts.length<=1048576/\b.atoms.length<=1048576)/\True/\TN/\TN/\True)/\(TN/\TN/\TN/\True)/\(TF/\TF)/\True/\True/\((a.facts.length<=1048576/\a.atoms.length<=1048576/\(⟨[],(pkA ((i1:Nat):Int) b.atoms)⟩:GAsn).facts.length<=1048576/\(⟨[],(pkA ((i1:Nat):Int) b.atoms)⟩:GAsn).atoms.length<=1048576)/\True/\TN/\TN/\True)/\(TN/\TN/\TN/\True)/\(TF/\TF)/\True/\(VC_sMissingOf_5 a i1 b)/\True/\True/\(vcIf (!(asV (⟨(a.facts ++ (⟨[],(pkA ((i1:Nat):Int) b.atoms)⟩:GAsn).facts),(a.atoms ++ (⟨[],(pkA ((i1:Nat):Int) b.atoms)⟩:GAsn).atoms)⟩:GAsn))) (True/\(VC_sMissingOf_6 i1 b a)) (True/\(VC_sMissingOf_5 a i1 b)/\True/\True/\(vcIf (!(asV (⟨(a.facts ++ (⟨[],(pkA ((i1:Nat):Int) b.atoms)⟩:GAsn).facts),(a.atoms ++ (⟨[],(pkA ((i1:Nat):Int) b.atoms)⟩:GAsn).atoms)⟩:GAsn) && !(casesF (⟨(a.facts ++ (⟨[],(pkA ((i1:Nat):Int) b.atoms)⟩:GAsn).facts),(a.atoms ++ (⟨[],(pkA ((i1:Nat):Int) b.atoms)⟩:GAsn).atoms)⟩:GAsn)).isEmpty)) (VC_sMissingOf_6 i1 b a) (True/\True/\((asV (⟨(a.facts ++ (⟨[],(pkA ((i1:Nat):Int) b.atoms)⟩:GAsn).facts),(a.atoms ++ (⟨[],(pkA ((i1:Nat):Int) b.atoms)⟩:GAsn).atoms)⟩:GAsn)=true/\asV b=true)/\True/\TN/\TN/\True)/\True/\True/\True/\(TN/\TN/\TN/\True)/\(TF/\TF)/\True/\True/\(vcIf (frmB (⟨(a.facts ++ (⟨[],(pkA ((i1:Nat):Int) b.atoms)⟩:GAsn).facts),(a.atoms ++ (⟨[],(pkA ((i1:Nat):Int) b.atoms)⟩:GAsn).atoms)⟩:GAsn) b) ((VC_sMissingOf_8 i1 b a)/\(VC_sMissingOf_8 i1 b a)/\(True/\(TF/\TF)/\True/\(VC_sMissingOf_7 i1 b a))/\True) (VC_sMissingOf_6 i1 b a))))))) ((TN/\TN/\True)/\(TN/\TN/\True)/\(TF/\TF)/\(TF/\TF)/\True/\(VC_sMissingOf_1 a b)/\((((100848:Nat) ≠ 100849)/\((100848:Nat) ≠ 100864)/\((100848:Nat) ≠ 100865)/\True)/\(((100849:Nat) ≠ 100864)/\((100849:Nat) ≠ 100865)/\True)/\(((100864:Nat) ≠ 100865)/\True)/\True/\True)/\VC_sMissingOf_2)))))))
theorem vcn_sMissingOf (a:GAsn) (b:GAsn) (k:Nat) (hp:a.facts.length<=281474976710656/\a.atoms.length<=281474976710656/\b.facts.length<=281474976710656/\b.atoms.length<=281474976710656):VC_sMissingOf a b k:=by
 unfold VC_sMissingOf VC_sMissingOf_8 VC_sMissingOf_7 VC_sMissingOf_6 VC_sMissingOf_5 VC_sMissingOf_4 VC_sMissingOf_3 VC_sMissingOf_2 VC_sMissingOf_1
 simp only [cln,Nat.reduceEqDiff,Nat.reduceLeDiff,Nat.reduceAdd]
 all_goals (try simp only [opn])
 all_goals (try simp only [pkTop_w])
 all_goals (repeat' (first | apply And.intro | intro _))
 all_goals (repeat (cases ‹_/\_›))
 all_goals (first | with_reducible exact True.intro | (exfalso;contradiction) | omega | with_reducible assumption | with_reducible rfl | skip)
 all_goals (first | with_reducible exact (mi_n1 ‹_›).1 | with_reducible exact (mi_n1 ‹_›).2.1 | with_reducible exact (mi_n1 ‹_›).2.2 | with_reducible exact (mi_n2 ‹_›).1 | with_reducible exact (mi_n2 ‹_›).2.1 | with_reducible exact (mi_n2 ‹_›).2.2 | skip)
 all_goals (have hA:=fo_len6 ‹asV a=true›;have hB:=fo_len6 ‹asV b=true›;have hT:=pkTop_eq ‹asV b=true›)
 all_goals (try (have e:=popc_eq ‹asV b=true› ‹((_:Nat):Int) < pkTop b›;simp only [e] at *;clear e))
 all_goals (first
  | omega | rfl
  | (with_reducible refine Nat.le_trans (m:=200) ?_ (by decide);first | with_reducible exact mxs200F (by omega) | with_reducible exact mxa200 (by omega) (by omega) | with_reducible exact mxs200A (by omega) (by omega) | with_reducible exact pk200 (by omega))
  | with_reducible exact miN_step ‹_› (mxN1 ‹_› ‹_› ‹_›) | with_reducible exact miN_step ‹_› (mxN2 ‹_› ‹_›) | with_reducible exact miN_step ‹_› (mxN3 ‹_› ‹_›)
  | with_reducible exact miN_step ‹_› (mxM1 ‹_›) | with_reducible exact miN_step ‹_› (mxM2 ‹_›) | with_reducible exact miN_step ‹_› (mxM3 ‹_›)
  | with_reducible exact (mi_none ‹_› ‹_› ‹_› ‹_›).1 | with_reducible exact (mi_none ‹_› ‹_› ‹_› ‹_›).2.1 | with_reducible exact (mi_none ‹_› ‹_› ‹_› ‹_›).2.2
  | with_reducible exact (mi_sf ‹_› ‹_› ‹_› ‹_› ‹_› ‹_›).1 | with_reducible exact (mi_sf ‹_› ‹_› ‹_› ‹_› ‹_› ‹_›).2.1 | with_reducible exact (mi_sf ‹_› ‹_› ‹_› ‹_› ‹_› ‹_›).2.2
  | with_reducible exact (mi_if ‹_› ‹_› ‹_› ‹_› ‹_› ‹_› ‹_›).1 | with_reducible exact (mi_if ‹_› ‹_› ‹_› ‹_› ‹_› ‹_› ‹_›).2.1 | with_reducible exact (mi_if ‹_› ‹_› ‹_› ‹_› ‹_› ‹_› ‹_›).2.2
  | skip)
theorem ok_sMissingOf:FnOk Try.prog E 43 c_sMissingOf :=
 fn_okQ (l:=L_sMissingOf) (lp:=P_sMissingOf) (hp:=fun _=>false) (gcs:=fun _=>none) (perm:=perm_sMissingOf) tabOk mix ⟨ok_sAssertionValid,ok_l7Pick,ok_l7Frame,ok_l3Star,ok_sConsistent,trivial⟩ trivial Try.func43 rfl (by kernel_rfl) (by decide) (by kernel_rfl) (anns:=fun x _=>an_sMissingOf x.1 x.2.1) (fun ⟨a,b,_⟩ k hp _=>Eq.mp (by kernel_rfl) (vcn_sMissingOf a b k hp)) tot_fn
end Go.Proofs.Ytopjgjelkpkmmaa
