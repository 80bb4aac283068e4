/-
  Contracts of single functions of the program, each shown by the engine: what a call returns for arguments within the contract's bounds.
-/
import Derived.Test.YtkafaeeianofnaaFFnChangedTermsa
import Derived.Test.YtkafaeeianofnaaFFnChangedTermsc
import Derived.Test.YtkafaeeianofnaaEd
import Derived.Test.YtkafaeeianofnaaEe
import Derived.Test.YtkafaeeianofnaaFFnChangedTermsb
set_option linter.unusedSimpArgs false
set_option linter.unusedVariables false
set_option linter.unusedSectionVars false

namespace Go.Proofs.Ytkafaeeianofnaa
open Go.SE Go.RowKit
variable [Base]
set_option linter.unusedSectionVars false
set_option linter.unusedSimpArgs false
set_option linter.unusedVariables false
set_option maxHeartbeats 1000000
set_option maxRecDepth 100000
abbrev m_visitCh:VCon:=⟨87,fun l s=>0<=s/\s < 512/\BdL l,fun l s=>chS s l⟩
abbrev pt_visitCh:PT:=ptV m_visitCh
abbrev L_visitCh:List (FuncId × Con):=[]
abbrev P_visitCh (m:Nat):List (FuncId × PT):=[(86,ptV (m_visitCh.lim m)),(87,pt_chIn1)]
def an_visitCh (l:List GCmd) (s:Int):Nat->St->Option Ann
 | 1,se=>some { α:=Nat,ok:=fun i=>i<=l.length,mu:=fun i=>l.length - i,i0:=fun _=>0,nx:=fun a _=>(fun i=>i+1) a,live:=[1,6,7],sets:=fun i=>[(8,sv (.int .i64 i))],mids:=[],blks:=fun i=>[(7,.blk [.d (.val (.int .u16 (chS s (l.take i))))])],owns:=fun i=>[],rd:=fun r _=>r,base:=100000 }
 | _,_=>none
def hp_visitCh:Nat->Bool
 | 3=>true
 | 4=>true
 | 5=>true
 | _=>false
def VC_visitCh_1 (l:List GCmd):Prop:=RL [.s (.c (.fn 87 [7])),.s (.c (.d (.arr .cmd l))),.s (.c (.d (.val (.int .i64 ((l.length:Nat):Int)))))]
def VC_visitCh_2 (i1:Nat):Prop:=([.s (.c (.d (.val (.int .i64 (((i1:Nat):Int)+(1:Int))))))]:List S)=[.s (.c (.d (.val (.int .i64 (((i1+1):Nat):Int)))))]
def VC_visitCh_3 (s:Int) (l:List GCmd) (i1:Nat) (m:Nat):Prop:=True/\True/\True/\((0<=(chS s (l.take i1))/\(chS s (l.take i1)) < 512)/\True/\True)/\(TF/\TF)/\True/\True/\True/\((87:Nat)=87)/\TF/\TF/\((0<=(tsWith (chS s (l.take i1)) ((l.getD i1 (Ty.zero .cmd)).a))/\(tsWith (chS s (l.take i1)) ((l.getD i1 (Ty.zero .cmd)).a)) < 512/\BdL ((l.getD i1 (Ty.zero .cmd)).body))/\ndL ((l.getD i1 (Ty.zero .cmd)).body) < m)/\True/\True/\True/\((87:Nat)=87)/\TF/\TF/\((0<=(chS (tsWith (chS s (l.take i1)) ((l.getD i1 (Ty.zero .cmd)).a)) ((l.getD i1 (Ty.zero .cmd)).body))/\(chS (tsWith (chS s (l.take i1)) ((l.getD i1 (Ty.zero .cmd)).a)) ((l.getD i1 (Ty.zero .cmd)).body)) < 512/\BdL ((l.getD i1 (Ty.zero .cmd)).els))/\ndL ((l.getD i1 (Ty.zero .cmd)).els) < m)/\(inK .i64 (((i1:Nat):Int)+(1:Int)))/\True/\((i1+1)<=l.length)/\(l.length - (i1+1) < l.length - i1)/\TT/\(VC_visitCh_1 l)/\(VC_visitCh_2 i1)/\(RM [])/\(([some (.blk [.d (.val (.int .u16 (chS (chS (tsWith (chS s (l.take i1)) ((l.getD i1 (Ty.zero .cmd)).a)) ((l.getD i1 (Ty.zero .cmd)).body)) ((l.getD i1 (Ty.zero .cmd)).els))))])]:List (Option Res))=[some (.blk [.d (.val (.int .u16 (chS s (l.take (i1+1)))))])])/\True/\TT
def VC_visitCh_4 (s:Int) (l:List GCmd) (i1:Nat) (m:Nat):Prop:=True/\(VC_visitCh_3 s l i1 m)
def VC_visitCh (l:List GCmd) (s:Int) (m:Nat) (k:Nat):Prop:=True/\True/\True/\((0<=l.length)/\TT/\(VC_visitCh_1 l)/\(([.s (.c (.d (.val (.int .i64 (0:Int)))))]:List S)=[.s (.c (.d (.val (.int .i64 ((0:Nat):Int)))))])/\(RM [])/\(([some (.blk [.d (.val (.int .u16 s))])]:List (Option Res))=[some (.blk [.d (.val (.int .u16 (chS s (l.take 0))))])])/\True/\TT)/\(∀ i1:Nat,(i1<=l.length)->True/\(vcIf (decide (((i1:Nat):Int) < ((l.length:Nat):Int))) ((0<=((i1:Nat):Int)/\((i1:Nat):Int) < ((l.length:Nat):Int))/\True/\(TN/\TN/\TN/\TN/\TN/\True)/\(TF/\TF)/\True/\True/\((2:Nat)<=20)/\TN/\True/\True/\True/\True/\(vcIf (((l.getD i1 (Ty.zero .cmd)).kind) == (1:Int)) (True/\True/\(VC_visitCh_4 s l i1 m)) (True/\True/\True/\True/\True/\(vcIf (((l.getD i1 (Ty.zero .cmd)).kind) == (2:Int)) (VC_visitCh_4 s l i1 m) (True/\True/\True/\True/\(vcIf (((l.getD i1 (Ty.zero .cmd)).kind) == (4:Int)) (VC_visitCh_3 s l i1 m) (True/\True/\True/\((87:Nat)=87)/\TF/\TF/\((0<=(chS s (l.take i1))/\(chS s (l.take i1)) < 512/\BdL ((l.getD i1 (Ty.zero .cmd)).body))/\ndL ((l.getD i1 (Ty.zero .cmd)).body) < m)/\True/\True/\True/\((87:Nat)=87)/\TF/\TF/\((0<=(chS (chS s (l.take i1)) ((l.getD i1 (Ty.zero .cmd)).body))/\(chS (chS s (l.take i1)) ((l.getD i1 (Ty.zero .cmd)).body)) < 512/\BdL ((l.getD i1 (Ty.zero .cmd)).els))/\ndL ((l.getD i1 (Ty.zero .cmd)).els) < m)/\(inK .i64 (((i1:Nat):Int)+(1:Int)))/\True/\((i1+1)<=l.length)/\(l.length - (i1+1) < l.length - i1)/\TT/\(VC_visitCh_1 l)/\(VC_visitCh_2 i1)/\(RM [])/\(([some (.blk [.d (.val (.int .u16 (chS (chS (chS s (l.take i1)) ((l.getD i1 (Ty.zero .cmd)).body)) ((l.getD i1 (Ty.zero .cmd)).els))))])]:List (Option Res))=[some (.blk [.d (.val (.int .u16 (chS s (l.take (i1+1)))))])])/\True/\TT))))))) ((TF/\TF)/\(((chS s (l.take i1)):Int)=chS s l))))
theorem vcn_visitCh (l:List GCmd) (s:Int) (m:Nat) (k:Nat) (hp:(0<=s/\s < 512/\BdL l)/\ndL l < m+1):VC_visitCh l s m k:=by
 unfold VC_visitCh VC_visitCh_4 VC_visitCh_3 VC_visitCh_2 VC_visitCh_1
 simp only [cln,Nat.reduceEqDiff,Nat.reduceLeDiff,Nat.reduceAdd,GCmd.eta]
 have hS:=fun i=>chS_bd ⟨hp.1.1,hp.1.2.1⟩ (l.take i)
 have hB:=hp.1.2.2
 have hL:=hB.len
 all_goals (try simp only [vcIf_iff,decide_eq_true_eq,decide_eq_false_iff_not,bne_iff_ne,ne_eq,beq_iff_eq,beq_eq_false_iff_ne,bne_eq_false_iff_eq,Bool.not_eq_true',Bool.not_eq_false',Int.ofNat_lt,Int.natCast_inj,List.mem_cons,List.mem_nil_iff,List.not_mem_nil,or_false])
 all_goals (repeat' (first | apply And.intro | intro _))
 all_goals (repeat (cases ‹_/\_›))
 all_goals (first | omega | with_reducible assumption | with_reducible rfl | rfl | with_reducible exact True.intro | skip)
 all_goals (first
  | exact (hS _).1 | exact (hS _).2 | exact (tsWith_bd (hS _).1 (hS _).2).1 | exact (tsWith_bd (hS _).1 (hS _).2).2
  | exact (chS_bd (tsWith_bd (hS _).1 (hS _).2) _).1 | exact (chS_bd (tsWith_bd (hS _).1 (hS _).2) _).2
  | exact (chS_bd (hS _) _).1 | exact (chS_bd (hS _) _).2
  | exact (sub_get hB ‹_›).1 | exact (sub_get hB ‹_›).2.1
  | (have h9:=(sub_get hB ‹_›).2.2;omega)
  | exact chS_y ‹_› (by simp only [*,true_or,or_true]) | exact chS_n ‹_› ‹_› ‹_› ‹_›
  | (rw [take_all' ‹_› ‹_›])
  | rw [chS_nil]
  | rw [List.take_zero,chS_nil]
  | omega | skip)
theorem ptok_visitCh:PTOk Try.prog E 86 pt_visitCh :=
 ptV_rec (fun m ih=>vis_ok (c:=(m_visitCh.lim (m+1))) (fn:=Try.f86) (l:=L_visitCh) (lp:=P_visitCh m) (hp:=hp_visitCh) (perm:=fun _=>[]) tabOk mix trivial ⟨ih,ptok_chIn1,trivial⟩ Try.func86 rfl (by kernel_rfl) (by decide) (by kernel_rfl) (anns:=fun l s=>an_visitCh l s) (fun l s hp=>Eq.mp (by kernel_rfl) (vcn_visitCh l s m 0 hp))) ⟨_,_,Try.func86,by kernel_rfl,rfl⟩
abbrev c_iChangedIn:Con:=⟨[.sl .cmd],[.u16],fun (l,_)=>BdL l,.inl fun (l,_)=>(chS 0 l,()),fun _=>0⟩
abbrev L_iChangedIn:List (FuncId × Con):=[]
abbrev P_iChangedIn:List (FuncId × PT):=[(86,pt_visitCh)]
def hp_iChangedIn:Nat->Bool
 | 2=>true
 | _=>false
def VC_iChangedIn (l:List GCmd) (k:Nat):Prop:=True/\(TN/\True)/\True/\True/\((87:Nat)=87)/\TF/\TF/\(0<=(0:Int)/\(0:Int) < 512/\BdL l)/\True/\True/\(((chS (0:Int) l,()):Int × Unit)=(chS 0 l,()))/\True/\True/\True/\True/\TF
theorem vcn_iChangedIn (l:List GCmd) (k:Nat) (hp:BdL l):VC_iChangedIn l k:=by
 unfold VC_iChangedIn
 simp only [cln,Nat.reduceEqDiff,Nat.reduceLeDiff,Nat.reduceAdd]
 all_goals (try simp only [vcIf_iff,decide_eq_true_eq,decide_eq_false_iff_not,bne_iff_ne,ne_eq,beq_iff_eq,beq_eq_false_iff_ne,bne_eq_false_iff_eq,Bool.not_eq_true',Bool.not_eq_false',Int.ofNat_lt,Int.natCast_inj,List.mem_cons,List.mem_nil_iff,List.not_mem_nil,or_false])
 all_goals (repeat' (first | apply And.intro | intro _))
 all_goals (repeat (cases ‹_/\_›))
 all_goals (first | omega | with_reducible assumption | with_reducible rfl | rfl | with_reducible exact True.intro | skip)
theorem ok_iChangedIn:FnOk Try.prog E 51 c_iChangedIn :=
 fn_okQ (l:=L_iChangedIn) (lp:=P_iChangedIn) (hp:=hp_iChangedIn) (gcs:=fun _=>none) (perm:=fun _=>[]) tabOk mix trivial ⟨ptok_visitCh,trivial⟩ Try.func51 rfl (by kernel_rfl) (by decide) (by kernel_rfl) (anns:=fun x _=>fun _ _=>none) (fun ⟨l,_⟩ k hp _=>Eq.mp (by kernel_rfl) (vcn_iChangedIn l k hp)) tot_fn
abbrev c_tsHas:Con:=⟨[.u16,.int],[.bool],fun (s,t,_)=>0<=s/\s < 512,.inl fun (s,t,_)=>(tsHas s t,()),fun _=>0⟩
abbrev L_tsHas:List (FuncId × Con):=[(94,c_isTerm)]
abbrev P_tsHas:List (FuncId × PT):=[]
def VC_tsHas (s:Int) (t:Int) (k:Nat):Prop:=True/\True/\(True/\True/\True)/\True/\(vcIf (isT t) (True/\True/\(0<=t)/\True/\True/\True/\True/\((((bits .and .u16 (Int.fdiv s (2 ^ (min t.toNat (IntKind.bits .u16)))) (1:Int)) == (1:Int),()):Bool × Unit)=(tsHas s t,()))/\True/\True/\True/\True/\TF) (True/\True/\(((false,()):Bool × Unit)=(tsHas s t,()))/\True/\True/\True/\True/\TF))
theorem vcn_tsHas (s:Int) (t:Int) (k:Nat) (hp:0<=s/\s < 512):VC_tsHas s t k:=by
 unfold VC_tsHas
 simp only [cln,Nat.reduceEqDiff,Nat.reduceLeDiff,Nat.reduceAdd]
 simp only [vcIf_iff]
 exact ⟨fun h=>⟨(isT_iff.1 h).1,tsHas_eq hp.1 hp.2 h⟩,fun h=>by simp [tsHas,h]⟩
theorem ok_tsHas:FnOk Try.prog E 89 c_tsHas :=
 fn_okQ (l:=L_tsHas) (lp:=P_tsHas) (hp:=fun _=>false) (gcs:=fun _=>none) (perm:=fun _=>[]) tabOk mix ⟨ok_isTerm,trivial⟩ trivial Try.func89 rfl (by kernel_rfl) (by decide) (by kernel_rfl) (anns:=fun x _=>fun _ _=>none) (fun ⟨s,t,_⟩ k hp _=>Eq.mp (by kernel_rfl) (vcn_tsHas s t k hp)) tot_fn
abbrev c_tsList:Con:=⟨[.u16],[.sl .int],fun (s,_)=>0<=s/\s < 512,.inl fun (s,_)=>(tsLk s 9,()),fun _=>0⟩
abbrev L_tsList:List (FuncId × Con):=[(89,c_tsHas)]
abbrev P_tsList:List (FuncId × PT):=[]
def an_tsList (s:Int):Nat->St->Option Ann
 | 3,se=>some { α:=Nat,ok:=fun i=>i<=9,mu:=fun i=>9 - i,i0:=fun _=>0,nx:=fun a _=>(fun i=>i+1) a,live:=[0,2],sets:=fun i=>[(4,sv (.int .i64 i))],mids:=[32],blks:=fun i=>[],owns:=fun i=>[⟨7,.slot 3,.int,tsLk s i⟩],rd:=fun r _=>r,base:=100000 }
 | _,_=>none
def VC_tsList_1 (i1:Nat):Prop:=([.s (.c (.d (.val (.int .i64 (((i1:Nat):Int)+(1:Int))))))]:List S)=[.s (.c (.d (.val (.int .i64 (((i1+1):Nat):Int)))))]
def VC_tsList (s:Int) (k:Nat):Prop:=TN/\TN/\True/\((0<=9)/\TT/\(RL [.s (.c (.d (.val (.int .u16 s)))),.s (.c (.own 32))])/\(([.s (.c (.d (.val (.int .i64 (0:Int)))))]:List S)=[.s (.c (.d (.val (.int .i64 ((0:Nat):Int)))))])/\(RM [some (.sl 32 .int ([]:List Int))])/\(RM [])/\(((some ([]:List Int):Option (List Int))=some (tsLk s 0))/\True)/\TT)/\(∀ i1:Nat,(i1<=9)->True/\True/\(vcIf (decide (((i1:Nat):Int)<=(8:Int))) (True/\True/\((0<=s/\s < 512)/\True/\True)/\(vcIf (tsHas s ((i1:Nat):Int)) (True/\True/\(TN/\True)/\(TN/\TF/\TF/\((tsLk s i1).length+([((i1:Nat):Int)]:List Int).length<=4294967296))/\True/\True/\(inK .i64 (((i1:Nat):Int)+(1:Int)))/\True/\((i1+1)<=9)/\(9 - (i1+1) < 9 - i1)/\TT/\(RL [.s (.c (.d (.val (.int .u16 s)))),.s (.c (.own 32))])/\(VC_tsList_1 i1)/\(RM [some (.sl 32 .int ([]:List Int))])/\(RM [])/\(((some ((tsLk s i1) ++ ([((i1:Nat):Int)]:List Int)):Option (List Int))=some (tsLk s (i1+1)))/\True)/\TT) (True/\(inK .i64 (((i1:Nat):Int)+(1:Int)))/\True/\((i1+1)<=9)/\(9 - (i1+1) < 9 - i1)/\TT/\(RL [.s (.c (.d (.val (.int .u16 s)))),.s (.c (.own 32))])/\(VC_tsList_1 i1)/\(RM [some (.sl 32 .int ([]:List Int))])/\(RM [])/\(((some (tsLk s i1):Option (List Int))=some (tsLk s (i1+1)))/\True)/\TT))) (True/\True/\(((tsLk s i1,()):(List Int) × Unit)=(tsLk s 9,()))/\(True/\True)/\((TF/\TF)/\True)/\True/\(True/\True)/\TF)))
theorem vcn_tsList (s:Int) (k:Nat) (hp:0<=s/\s < 512):VC_tsList s k:=by
 unfold VC_tsList VC_tsList_1
 simp only [cln,Nat.reduceEqDiff,Nat.reduceLeDiff,Nat.reduceAdd]
 all_goals (try simp only [opn])
 all_goals (repeat' (first | apply And.intro | intro _))
 all_goals (first | omega | (simp_all;done) | grind [tsLk_step,tsLk])
theorem ok_tsList:FnOk Try.prog E 52 c_tsList :=
 fn_okQ (l:=L_tsList) (lp:=P_tsList) (hp:=fun _=>false) (gcs:=fun _=>none) (perm:=fun _=>[]) tabOk mix ⟨ok_tsHas,trivial⟩ trivial Try.func52 rfl (by kernel_rfl) (by decide) (by kernel_rfl) (anns:=fun x _=>an_tsList x.1) (fun ⟨s,_⟩ k hp _=>Eq.mp (by kernel_rfl) (vcn_tsList s k hp)) tot_fn
abbrev c_iChangedTerms:Con:=⟨[.sl .cmd],[.sl .int],fun (l,_)=>BdL l,.inl fun (l,_)=>(chT l,()),fun _=>0⟩
abbrev L_iChangedTerms:List (FuncId × Con):=[(19,c_iProgramValid),(51,c_iChangedIn),(52,c_tsList)]
abbrev P_iChangedTerms:List (FuncId × PT):=[]
def VC_iChangedTerms (l:List GCmd) (k:Nat):Prop:=TN/\True/\((BdL l)/\True/\True)/\True/\(vcIf (!(prV l)) (TN/\(((([]:List Int),()):(List Int) × Unit)=(chT l,()))/\(True/\True)/\((TF/\TF)/\True)/\True/\(True/\True)/\TF) (True/\((BdL l)/\True/\True)/\((0<=(chS 0 l)/\(chS 0 l) < 512)/\True/\TN/\True)/\True/\((((tsLk (chS 0 l) 9),()):(List Int) × Unit)=(chT l,()))/\(True/\True)/\((TF/\TF)/\True)/\True/\(True/\True)/\TF))
theorem vcn_iChangedTerms (l:List GCmd) (k:Nat) (hp:BdL l):VC_iChangedTerms l k:=by
 unfold VC_iChangedTerms
 simp only [cln,Nat.reduceEqDiff,Nat.reduceLeDiff,Nat.reduceAdd]
 all_goals (try simp only [vcIf_iff,decide_eq_true_eq,decide_eq_false_iff_not,bne_iff_ne,ne_eq,beq_iff_eq,beq_eq_false_iff_ne,bne_eq_false_iff_eq,Bool.not_eq_true',Bool.not_eq_false',Int.ofNat_lt,Int.natCast_inj,List.mem_cons,List.mem_nil_iff,List.not_mem_nil,or_false])
 all_goals (repeat' (first | apply And.intro | intro _))
 all_goals (repeat (cases ‹_/\_›))
 all_goals (first | omega | with_reducible assumption | with_reducible rfl | rfl | with_reducible exact True.intro | skip)
 all_goals (first
  | exact (chS_bd (by omega) _).1 | exact (chS_bd (by omega) _).2
  | exact chT_impl (by simpa using ‹_›)
  | exact (chT_no (by simpa using ‹_›)).symm
  | skip)
theorem ok_iChangedTerms:FnOk Try.prog E 21 c_iChangedTerms :=
 fn_okQ (l:=L_iChangedTerms) (lp:=P_iChangedTerms) (hp:=fun _=>false) (gcs:=fun _=>none) (perm:=fun _=>[]) tabOk mix ⟨ok_iProgramValid,ok_iChangedIn,ok_tsList,trivial⟩ trivial Try.func21 rfl (by kernel_rfl) (by decide) (by kernel_rfl) (anns:=fun x _=>fun _ _=>none) (fun ⟨l,_⟩ k hp _=>Eq.mp (by kernel_rfl) (vcn_iChangedTerms l k hp)) tot_fn
abbrev c_slInts:Con:=⟨[.sl .int,.sl .int],[.bool],fun (a,b,_)=>a.length<=281474976710656/\b.length<=281474976710656,.inl fun (a,b,_)=>(decide (a=b),()),fun _=>0⟩
abbrev L_slInts:List (FuncId × Con):=[]
abbrev P_slInts:List (FuncId × PT):=[]
def an_slInts (a:List Int) (b:List Int):Nat->St->Option Ann
 | 4,se=>some { α:=Nat,ok:=fun i=>i<=a.length/\a.length=b.length/\a.take i=b.take i,mu:=fun i=>a.length - i,i0:=fun _=>0,nx:=fun a _=>(fun i=>i+1) a,live:=[0,1],sets:=fun i=>[(5,sv (.int .i64 i))],mids:=[],blks:=fun i=>[],owns:=fun i=>[],rd:=fun r _=>r,base:=100000 }
 | _,_=>none
def VC_slInts_1 (a:List Int) (b:List Int):Prop:=True/\(((false,()):Bool × Unit)=(decide (a=b),()))/\True/\True/\True/\True/\TF
def VC_slInts (a:List Int) (b:List Int) (k:Nat):Prop:=True/\True/\True/\True/\True/\True/\(vcIf (((a.length:Nat):Int) != ((b.length:Nat):Int)) (VC_slInts_1 a b) (True/\((0<=a.length/\a.length=b.length/\a.take 0=b.take 0)/\TT/\(RL [.s (.c (.d (.arr .int a))),.s (.c (.d (.arr .int b)))])/\(([.s (.c (.d (.val (.int .i64 (0:Int)))))]:List S)=[.s (.c (.d (.val (.int .i64 ((0:Nat):Int)))))])/\(RM [])/\(RM [])/\True/\TT)/\(∀ i1:Nat,(i1<=a.length/\a.length=b.length/\a.take i1=b.take i1)->True/\True/\True/\True/\(vcIf (decide (((i1:Nat):Int) < ((a.length:Nat):Int))) (True/\True/\(0<=((i1:Nat):Int)/\((i1:Nat):Int) < ((a.length:Nat):Int))/\True/\True/\True/\(0<=((i1:Nat):Int)/\((i1:Nat):Int) < ((b.length:Nat):Int))/\True/\True/\(vcIf ((a.getD i1 (0:Int)) != (b.getD i1 (0:Int))) (VC_slInts_1 a b) (True/\(inK .i64 (((i1:Nat):Int)+(1:Int)))/\True/\((i1+1)<=a.length/\a.length=b.length/\a.take (i1+1)=b.take (i1+1))/\(a.length - (i1+1) < a.length - i1)/\TT/\(RL [.s (.c (.d (.arr .int a))),.s (.c (.d (.arr .int b)))])/\(([.s (.c (.d (.val (.int .i64 (((i1:Nat):Int)+(1:Int))))))]:List S)=[.s (.c (.d (.val (.int .i64 (((i1+1):Nat):Int)))))])/\(RM [])/\(RM [])/\True/\TT))) (True/\(((true,()):Bool × Unit)=(decide (a=b),()))/\True/\True/\True/\True/\TF)))))
theorem vcn_slInts (a:List Int) (b:List Int) (k:Nat) (hp:a.length<=281474976710656/\b.length<=281474976710656):VC_slInts a b k:=by
 unfold VC_slInts VC_slInts_1
 simp only [cln,Nat.reduceEqDiff,Nat.reduceLeDiff,Nat.reduceAdd]
 all_goals (try simp only [opn])
 all_goals (repeat' (first | apply And.intro | intro _))
 all_goals (first | omega | (simp_all;done) | grind [same_step,same_not,take_full])
theorem ok_slInts:FnOk Try.prog E 22 c_slInts :=
 fn_okQ (l:=L_slInts) (lp:=P_slInts) (hp:=fun _=>false) (gcs:=fun _=>none) (perm:=fun _=>[]) tabOk mix trivial trivial Try.func22 rfl (by kernel_rfl) (by decide) (by kernel_rfl) (anns:=fun x _=>an_slInts x.1 x.2.1) (fun ⟨a,b,_⟩ k hp _=>Eq.mp (by kernel_rfl) (vcn_slInts a b k hp)) tot_fn
abbrev c_l3List:Con:=⟨[.sl .bool],[.sl .int],fun (l,_)=>l.length<=1048576,.inl fun (l,_)=>(flL l,()),fun _=>0⟩
abbrev L_l3List:List (FuncId × Con):=[]
abbrev P_l3List:List (FuncId × PT):=[]
def an_l3List (l:List Bool):Nat->St->Option Ann
 | 3,se=>some { α:=Nat,ok:=fun i=>i<=l.length,mu:=fun i=>l.length - i,i0:=fun _=>0,nx:=fun a _=>(fun i=>i+1) a,live:=[0,2],sets:=fun i=>[(4,sv (.int .i64 i))],mids:=[32],blks:=fun i=>[],owns:=fun i=>[⟨7,.slot 3,.int,flU l i⟩],rd:=fun r _=>r,base:=100000 }
 | _,_=>none
def VC_l3List_1 (i1:Nat):Prop:=([.s (.c (.d (.val (.int .i64 (((i1:Nat):Int)+(1:Int))))))]:List S)=[.s (.c (.d (.val (.int .i64 (((i1+1):Nat):Int)))))]
def VC_l3List (l:List Bool) (k:Nat):Prop:=TN/\(TN/\True)/\True/\True/\((0<=l.length)/\TT/\(RL [.s (.c (.d (.arr .bool l))),.s (.c (.own 32))])/\(([.s (.c (.d (.val (.int .i64 (0:Int)))))]:List S)=[.s (.c (.d (.val (.int .i64 ((0:Nat):Int)))))])/\(RM [some (.sl 32 .int ([]:List Int))])/\(RM [])/\(((some ([]:List Int):Option (List Int))=some (flU l 0))/\True)/\TT)/\(∀ i1:Nat,(i1<=l.length)->True/\True/\True/\True/\(vcIf (decide (((i1:Nat):Int) < ((l.length:Nat):Int))) (True/\True/\(0<=((i1:Nat):Int)/\((i1:Nat):Int) < ((l.length:Nat):Int))/\True/\(vcIf (l.getD i1 false) (True/\True/\(TN/\True)/\(TN/\TF/\TF/\((flU l i1).length+([((i1:Nat):Int)]:List Int).length<=4294967296))/\True/\True/\(inK .i64 (((i1:Nat):Int)+(1:Int)))/\True/\((i1+1)<=l.length)/\(l.length - (i1+1) < l.length - i1)/\TT/\(RL [.s (.c (.d (.arr .bool l))),.s (.c (.own 32))])/\(VC_l3List_1 i1)/\(RM [some (.sl 32 .int ([]:List Int))])/\(RM [])/\(((some ((flU l i1) ++ ([((i1:Nat):Int)]:List Int)):Option (List Int))=some (flU l (i1+1)))/\True)/\TT) (True/\(inK .i64 (((i1:Nat):Int)+(1:Int)))/\True/\((i1+1)<=l.length)/\(l.length - (i1+1) < l.length - i1)/\TT/\(RL [.s (.c (.d (.arr .bool l))),.s (.c (.own 32))])/\(VC_l3List_1 i1)/\(RM [some (.sl 32 .int ([]:List Int))])/\(RM [])/\(((some (flU l i1):Option (List Int))=some (flU l (i1+1)))/\True)/\TT))) (True/\True/\(((flU l i1,()):(List Int) × Unit)=(flL l,()))/\(True/\True)/\((TF/\TF)/\True)/\True/\(True/\True)/\TF)))
theorem vcn_l3List (l:List Bool) (k:Nat) (hp:l.length<=1048576):VC_l3List l k:=by
 unfold VC_l3List VC_l3List_1
 simp only [cln,Nat.reduceEqDiff,Nat.reduceLeDiff,Nat.reduceAdd]
 have hs:=flU_step l
 have hl:=flU_len l
 all_goals (try simp only [opn])
 all_goals (repeat' (first | apply And.intro | intro _))
 all_goals (first | omega | (simp_all;done) | grind [flL,flU])
theorem ok_l3List:FnOk Try.prog E 53 c_l3List :=
 fn_okQ (l:=L_l3List) (lp:=P_l3List) (hp:=fun _=>false) (gcs:=fun _=>none) (perm:=fun _=>[]) tabOk mix trivial trivial Try.func53 rfl (by kernel_rfl) (by decide) (by kernel_rfl) (anns:=fun x _=>an_l3List x.1) (fun ⟨l,_⟩ k hp _=>Eq.mp (by kernel_rfl) (vcn_l3List l k hp)) tot_fn
abbrev m_l8Changed:CCon:=⟨[],.bool,[.sl .cmd],fun _ f (l,_)=>f.length=9/\BdL l/\OkA l,fun _ f (l,_)=>chF f l⟩
abbrev pt_l8Changed:PT:=ptC m_l8Changed
abbrev mu_l8Changed:Args m_l8Changed.k1->List m_l8Changed.t.den->Args m_l8Changed.k2->Nat:=fun _ f (l,_)=>ndL l
abbrev L_l8Changed:List (FuncId × Con):=[]
abbrev P_l8Changed (m:Nat):List (FuncId × PT):=[(54,ptC (m_l8Changed.lim mu_l8Changed m))]
def an_l8Changed (f:List Bool) (l:List GCmd):Nat->St->Option Ann
 | 2,se=>some { α:=Nat × List Bool,ok:=fun a=>a.1<=l.length/\a.2=chF f (l.take a.1),mu:=fun a=>l.length - a.1,i0:=fun _=>(0,f),nx:=fun a st=>(a.1+1,slAt .bool st (.slot 0)),live:=[1,4],sets:=fun a=>[(5,sv (.int .i64 a.1))],mids:=[80],blks:=fun a=>[],owns:=fun a=>[⟨7,.slot 0,.bool,a.2⟩],rd:=fun r _=>r,base:=100000 }
 | _,_=>none
def hp_l8Changed:Nat->Bool
 | 9=>true
 | _=>false
def lr_l8Changed:Nat->Option (List Nat × List Nat)
 | 9=>some ([6,12,13],[0,1,2,3,4,5,7,8,9,10,11,6,12,13])
 | _=>none
def VC_l8Changed_1 (a1:Nat × List Bool) (l:List GCmd) (m:Nat) (f:List Bool):Prop:=True/\True/\True/\(0<=(a1.1:Int)/\(a1.1:Int) < ((l.length:Nat):Int))/\True/\True/\(0<=((l.getD (a1.1:Int).toNat (Ty.zero .cmd)).a)/\((l.getD (a1.1:Int).toNat (Ty.zero .cmd)).a) < ((a1.2.length:Nat):Int))/\(TF/\TF/\True/\((7:Nat) ∉ ([]:List Nat)))/\True/\True/\True/\(0<=(a1.1:Int)/\(a1.1:Int) < ((l.length:Nat):Int))/\True/\True/\True/\True/\(0<=(a1.1:Int)/\(a1.1:Int) < ((l.length:Nat):Int))/\True/\True/\TF/\TF/\True/\True/\((none:Option Nat)=none)/\TN/\(((a1.2.set ((l.getD (a1.1:Int).toNat (Ty.zero .cmd)).a).toNat true).length=9/\BdL ((l.getD (a1.1:Int).toNat (Ty.zero .cmd)).body)/\OkA ((l.getD (a1.1:Int).toNat (Ty.zero .cmd)).body))/\ndL ((l.getD (a1.1:Int).toNat (Ty.zero .cmd)).body) < m)/\TF/\TF/\True/\True/\((none:Option Nat)=none)/\TN/\(((chF (a1.2.set ((l.getD (a1.1:Int).toNat (Ty.zero .cmd)).a).toNat true) ((l.getD (a1.1:Int).toNat (Ty.zero .cmd)).body)).length=9/\BdL ((l.getD (a1.1:Int).toNat (Ty.zero .cmd)).els)/\OkA ((l.getD (a1.1:Int).toNat (Ty.zero .cmd)).els))/\ndL ((l.getD (a1.1:Int).toNat (Ty.zero .cmd)).els) < m)/\True/\True/\(inK .i64 ((a1.1:Int)+(1:Int)))/\True/\((a1.1+1,(chF (chF (a1.2.set ((l.getD (a1.1:Int).toNat (Ty.zero .cmd)).a).toNat true) ((l.getD (a1.1:Int).toNat (Ty.zero .cmd)).body)) ((l.getD (a1.1:Int).toNat (Ty.zero .cmd)).els))).1<=l.length/\(a1.1+1,(chF (chF (a1.2.set ((l.getD (a1.1:Int).toNat (Ty.zero .cmd)).a).toNat true) ((l.getD (a1.1:Int).toNat (Ty.zero .cmd)).body)) ((l.getD (a1.1:Int).toNat (Ty.zero .cmd)).els))).2=chF f (l.take (a1.1+1,(chF (chF (a1.2.set ((l.getD (a1.1:Int).toNat (Ty.zero .cmd)).a).toNat true) ((l.getD (a1.1:Int).toNat (Ty.zero .cmd)).body)) ((l.getD (a1.1:Int).toNat (Ty.zero .cmd)).els))).1))/\(l.length - (a1.1+1,(chF (chF (a1.2.set ((l.getD (a1.1:Int).toNat (Ty.zero .cmd)).a).toNat true) ((l.getD (a1.1:Int).toNat (Ty.zero .cmd)).body)) ((l.getD (a1.1:Int).toNat (Ty.zero .cmd)).els))).1 < l.length - a1.1)/\TT/\(RL [.s (.c (.d (.arr .cmd l))),.s (.c (.own 80))])/\(([.s (.c (.d (.val (.int .i64 ((a1.1:Int)+(1:Int))))))]:List S)=[.s (.c (.d (.val (.int .i64 ((a1.1+1,(chF (chF (a1.2.set ((l.getD (a1.1:Int).toNat (Ty.zero .cmd)).a).toNat true) ((l.getD (a1.1:Int).toNat (Ty.zero .cmd)).body)) ((l.getD (a1.1:Int).toNat (Ty.zero .cmd)).els))).1:Int)))))])/\(RM [some (.sl 80 .bool ([]:List Bool))])/\(RM [])/\(((some (chF (chF (a1.2.set ((l.getD (a1.1:Int).toNat (Ty.zero .cmd)).a).toNat true) ((l.getD (a1.1:Int).toNat (Ty.zero .cmd)).body)) ((l.getD (a1.1:Int).toNat (Ty.zero .cmd)).els)):Option (List Bool))=some ((a1.1+1,(chF (chF (a1.2.set ((l.getD (a1.1:Int).toNat (Ty.zero .cmd)).a).toNat true) ((l.getD (a1.1:Int).toNat (Ty.zero .cmd)).body)) ((l.getD (a1.1:Int).toNat (Ty.zero .cmd)).els))).2))/\True)/\TT
def VC_l8Changed_2 (a1:Nat × List Bool) (l:List GCmd) (m:Nat) (f:List Bool):Prop:=True/\True/\True/\(0<=(a1.1:Int)/\(a1.1:Int) < ((l.length:Nat):Int))/\True/\True/\True/\True/\(0<=(a1.1:Int)/\(a1.1:Int) < ((l.length:Nat):Int))/\True/\True/\TF/\TF/\True/\True/\((none:Option Nat)=none)/\TN/\((a1.2.length=9/\BdL ((l.getD (a1.1:Int).toNat (Ty.zero .cmd)).body)/\OkA ((l.getD (a1.1:Int).toNat (Ty.zero .cmd)).body))/\ndL ((l.getD (a1.1:Int).toNat (Ty.zero .cmd)).body) < m)/\TF/\TF/\True/\True/\((none:Option Nat)=none)/\TN/\(((chF a1.2 ((l.getD (a1.1:Int).toNat (Ty.zero .cmd)).body)).length=9/\BdL ((l.getD (a1.1:Int).toNat (Ty.zero .cmd)).els)/\OkA ((l.getD (a1.1:Int).toNat (Ty.zero .cmd)).els))/\ndL ((l.getD (a1.1:Int).toNat (Ty.zero .cmd)).els) < m)/\True/\True/\(inK .i64 ((a1.1:Int)+(1:Int)))/\True/\((a1.1+1,(chF (chF a1.2 ((l.getD (a1.1:Int).toNat (Ty.zero .cmd)).body)) ((l.getD (a1.1:Int).toNat (Ty.zero .cmd)).els))).1<=l.length/\(a1.1+1,(chF (chF a1.2 ((l.getD (a1.1:Int).toNat (Ty.zero .cmd)).body)) ((l.getD (a1.1:Int).toNat (Ty.zero .cmd)).els))).2=chF f (l.take (a1.1+1,(chF (chF a1.2 ((l.getD (a1.1:Int).toNat (Ty.zero .cmd)).body)) ((l.getD (a1.1:Int).toNat (Ty.zero .cmd)).els))).1))/\(l.length - (a1.1+1,(chF (chF a1.2 ((l.getD (a1.1:Int).toNat (Ty.zero .cmd)).body)) ((l.getD (a1.1:Int).toNat (Ty.zero .cmd)).els))).1 < l.length - a1.1)/\TT/\(RL [.s (.c (.d (.arr .cmd l))),.s (.c (.own 80))])/\(([.s (.c (.d (.val (.int .i64 ((a1.1:Int)+(1:Int))))))]:List S)=[.s (.c (.d (.val (.int .i64 ((a1.1+1,(chF (chF a1.2 ((l.getD (a1.1:Int).toNat (Ty.zero .cmd)).body)) ((l.getD (a1.1:Int).toNat (Ty.zero .cmd)).els))).1:Int)))))])/\(RM [some (.sl 80 .bool ([]:List Bool))])/\(RM [])/\(((some (chF (chF a1.2 ((l.getD (a1.1:Int).toNat (Ty.zero .cmd)).body)) ((l.getD (a1.1:Int).toNat (Ty.zero .cmd)).els)):Option (List Bool))=some ((a1.1+1,(chF (chF a1.2 ((l.getD (a1.1:Int).toNat (Ty.zero .cmd)).body)) ((l.getD (a1.1:Int).toNat (Ty.zero .cmd)).els))).2))/\True)/\TT
def VC_l8Changed (f:List Bool) (l:List GCmd) (m:Nat) (k:Nat):Prop:=TN/\True/\(((0,f).1<=l.length/\(0,f).2=chF f (l.take (0,f).1))/\TT/\(RL [.s (.c (.d (.arr .cmd l))),.s (.c (.own 80))])/\(([.s (.c (.d (.val (.int .i64 (0:Int)))))]:List S)=[.s (.c (.d (.val (.int .i64 ((0,f).1:Int)))))])/\(RM [some (.sl 80 .bool ([]:List Bool))])/\(RM [])/\(((some f:Option (List Bool))=some ((0,f).2))/\True)/\TT)/\(∀ a1:Nat × List Bool,(a1.1<=l.length/\a1.2=chF f (l.take a1.1))->True/\True/\True/\True/\(vcIf (decide ((a1.1:Int) < ((l.length:Nat):Int))) (True/\True/\(0<=(a1.1:Int)/\(a1.1:Int) < ((l.length:Nat):Int))/\True/\True/\True/\True/\(vcIf (((l.getD (a1.1:Int).toNat (Ty.zero .cmd)).kind) == (1:Int)) (vcIf (((l.getD (a1.1:Int).toNat (Ty.zero .cmd)).kind) == (1:Int)) (VC_l8Changed_1 a1 l m f) (VC_l8Changed_2 a1 l m f)) (True/\True/\(vcIf (((l.getD (a1.1:Int).toNat (Ty.zero .cmd)).kind) == (2:Int)) (vcIf (((l.getD (a1.1:Int).toNat (Ty.zero .cmd)).kind) == (2:Int)) (VC_l8Changed_1 a1 l m f) (VC_l8Changed_2 a1 l m f)) (True/\True/\(vcIf (((l.getD (a1.1:Int).toNat (Ty.zero .cmd)).kind) == (4:Int)) (VC_l8Changed_1 a1 l m f) (VC_l8Changed_2 a1 l m f))))))) (True/\True/\((some a1.2:Option (List Bool))=some (chF f l))/\TF/\TF)))
theorem vcn_l8Changed (f:List Bool) (l:List GCmd) (m:Nat) (k:Nat) (hp:(f.length=9/\BdL l/\OkA l)/\ndL l < m+1):VC_l8Changed f l m k:=by
 unfold VC_l8Changed VC_l8Changed_2 VC_l8Changed_1
 simp only [cln,Nat.reduceEqDiff,Nat.reduceLeDiff,Nat.reduceAdd,GCmd.eta]
 have h99:=hp.1.1
 have hB:=hp.1.2.1
 have hO:=hp.1.2.2
 have hL:=hB.len
 all_goals (try simp only [vcIf_iff,decide_eq_true_eq,decide_eq_false_iff_not,bne_iff_ne,ne_eq,beq_iff_eq,beq_eq_false_iff_ne,bne_eq_false_iff_eq,Bool.not_eq_true',Bool.not_eq_false',Int.ofNat_lt,Int.natCast_inj,List.mem_cons,List.mem_nil_iff,List.not_mem_nil,or_false])
 all_goals (repeat' (first | apply And.intro | intro _))
 all_goals (repeat (cases ‹_/\_›))
 all_goals (first | omega | with_reducible assumption | with_reducible rfl | rfl | with_reducible exact True.intro | skip)
 all_goals (try have e2:=chF_e2 (f:=f) (l:=l) (by with_reducible assumption) h99)
 all_goals (first
  | exact (sub_get hB ‹_›).1 | exact (sub_get hB ‹_›).2.1
  | exact (hO.get ‹_›).2.1 | exact (hO.get ‹_›).2.2
  | (have h9:=(sub_get hB ‹_›).2.2;omega)
  | exact okA_0 hO ‹_› (by simp only [*,true_or,or_true]) | exact okA_9 hO ‹_› (by simp only [*,true_or,or_true]) e2
  | exact chF_y ‹_› ‹_› (by simp only [*,true_or,or_true]) | exact chF_n ‹_› ‹_› ‹_› ‹_› ‹_›
  | (rw [take_all' ‹_› ‹_›] at *;assumption)
  | (simp only [chF_len,List.length_set];omega)
  | rw [List.take_zero,chF_nil]
  | omega | skip)
theorem ptok_l8Changed:PTOk Try.prog E 54 pt_l8Changed :=
 ptC_rec (mu:=mu_l8Changed) (fun m ih=>cons_okL (lr:=lr_l8Changed) (c:=(m_l8Changed.lim mu_l8Changed (m+1))) (fn:=Try.f54) (l:=L_l8Changed) (lp:=P_l8Changed m) (hp:=hp_l8Changed) (perm:=fun _=>[]) tabOk mix trivial ⟨ih,trivial⟩ ⟨ptC_blind _,trivial⟩ Try.func54 rfl (by kernel_rfl) (show m_l8Changed.k1.length+m_l8Changed.k2.length+1<=Try.f54.ntmps by decide) (by kernel_rfl) (anns:=fun x l y=>an_l8Changed l y.1) (fun _ f ⟨l,_⟩ hp=>Eq.mp (by kernel_rfl) (vcn_l8Changed f l m 0 hp))) ⟨_,_,Try.func54,by kernel_rfl,rfl⟩
abbrev c_sChangedTerms:Con:=⟨[.sl .cmd],[.sl .int],fun (l,_)=>BdL l/\ndL l<=1048576,.inl fun (l,_)=>(chT l,()),fun _=>0⟩
abbrev L_sChangedTerms:List (FuncId × Con):=[(18,c_sProgramValid),(53,c_l3List)]
abbrev P_sChangedTerms:List (FuncId × PT):=[(54,pt_l8Changed)]
def hp_sChangedTerms:Nat->Bool
 | 3=>true
 | _=>false
def VC_sChangedTerms (l:List GCmd) (k:Nat):Prop:=TN/\True/\((BdL l/\ndL l<=1048576)/\True/\True)/\True/\(vcIf (!(prV l)) ((TN/\True)/\True/\(((([]:List Int),()):(List Int) × Unit)=(chT l,()))/\(True/\True)/\((TF/\TF)/\True)/\True/\(True/\True)/\TF) ((TN/\(0<=(9:Int)/\(9:Int)<=(9:Int)/\(9:Int)<=4294967296/\True))/\True/\TF/\TF/\True/\True/\((none:Option Nat)=none)/\TN/\((List.replicate 9 false).length=9/\BdL l/\OkA l)/\(((chF (List.replicate 9 false) l).length<=1048576)/\True/\TN/\True)/\True/\((((flL (chF (List.replicate 9 false) l)),()):(List Int) × Unit)=(chT l,()))/\(True/\True)/\((TF/\TF)/\True)/\True/\(True/\True)/\TF))
theorem vcn_sChangedTerms (l:List GCmd) (k:Nat) (hp:BdL l/\ndL l<=1048576):VC_sChangedTerms l k:=by
 unfold VC_sChangedTerms
 simp only [cln,Nat.reduceEqDiff,Nat.reduceLeDiff,Nat.reduceAdd]
 all_goals (try simp only [vcIf_iff,decide_eq_true_eq,decide_eq_false_iff_not,bne_iff_ne,ne_eq,beq_iff_eq,beq_eq_false_iff_ne,bne_eq_false_iff_eq,Bool.not_eq_true',Bool.not_eq_false',Int.ofNat_lt,Int.natCast_inj,List.mem_cons,List.mem_nil_iff,List.not_mem_nil,or_false])
 all_goals (repeat' (first | apply And.intro | intro _))
 all_goals (repeat (cases ‹_/\_›))
 all_goals (first | omega | with_reducible assumption | with_reducible rfl | rfl | with_reducible exact True.intro | skip)
 all_goals (first
  | exact okA_pr (by simpa using ‹_›)
  | exact chT_spec (by simpa using ‹_›)
  | exact (chT_no (by simpa using ‹_›)).symm
  | (rw [chF_len];simp)
  | skip)
theorem ok_sChangedTerms:FnOk Try.prog E 23 c_sChangedTerms :=
 fn_okQ (l:=L_sChangedTerms) (lp:=P_sChangedTerms) (hp:=hp_sChangedTerms) (gcs:=fun _=>none) (perm:=fun _=>[]) tabOk mix ⟨ok_sProgramValid,ok_l3List,trivial⟩ ⟨ptok_l8Changed,trivial⟩ Try.func23 rfl (by kernel_rfl) (by decide) (by kernel_rfl) (anns:=fun x _=>fun _ _=>none) (fun ⟨l,_⟩ k hp _=>Eq.mp (by kernel_rfl) (vcn_sChangedTerms l k hp)) tot_fn
abbrev c_slHas:Con:=⟨[.sl .int,.int],[.bool],fun (l,n,_)=>l.length<=281474976710656,.inl fun (l,n,_)=>(l.contains n,()),fun _=>0⟩
abbrev L_slHas:List (FuncId × Con):=[]
abbrev P_slHas:List (FuncId × PT):=[]
def an_slHas (l:List Int) (n:Int):Nat->St->Option Ann
 | 2,se=>some { α:=Nat,ok:=fun i=>i<=l.length/\(l.take i).contains n=false,mu:=fun i=>l.length - i,i0:=fun _=>0,nx:=fun a _=>(fun i=>i+1) a,live:=[0,1],sets:=fun i=>[(5,sv (.int .i64 i))],mids:=[],blks:=fun i=>[],owns:=fun i=>[],rd:=fun r _=>r,base:=100000 }
 | _,_=>none
def VC_slHas (l:List Int) (n:Int) (k:Nat):Prop:=True/\True/\((0<=l.length/\(l.take 0).contains n=false)/\TT/\(RL [.s (.c (.d (.arr .int l))),.s (.c (.d (.val (.int .i64 n))))])/\(([.s (.c (.d (.val (.int .i64 (0:Int)))))]:List S)=[.s (.c (.d (.val (.int .i64 ((0:Nat):Int)))))])/\(RM [])/\(RM [])/\True/\TT)/\(∀ i1:Nat,(i1<=l.length/\(l.take i1).contains n=false)->True/\True/\True/\True/\(vcIf (decide (((i1:Nat):Int) < ((l.length:Nat):Int))) (True/\True/\(0<=((i1:Nat):Int)/\((i1:Nat):Int) < ((l.length:Nat):Int))/\True/\True/\True/\(vcIf ((l.getD i1 (0:Int)) == n) (True/\(((true,()):Bool × Unit)=(l.contains n,()))/\True/\True/\True/\True/\TF) (True/\(inK .i64 (((i1:Nat):Int)+(1:Int)))/\True/\((i1+1)<=l.length/\(l.take (i1+1)).contains n=false)/\(l.length - (i1+1) < l.length - i1)/\TT/\(RL [.s (.c (.d (.arr .int l))),.s (.c (.d (.val (.int .i64 n))))])/\(([.s (.c (.d (.val (.int .i64 (((i1:Nat):Int)+(1:Int))))))]:List S)=[.s (.c (.d (.val (.int .i64 (((i1+1):Nat):Int)))))])/\(RM [])/\(RM [])/\True/\TT))) (True/\(((false,()):Bool × Unit)=(l.contains n,()))/\True/\True/\True/\True/\TF)))
theorem vcn_slHas (l:List Int) (n:Int) (k:Nat) (hp:l.length<=281474976710656):VC_slHas l n k:=by
 unfold VC_slHas
 simp only [cln,Nat.reduceEqDiff,Nat.reduceLeDiff,Nat.reduceAdd]
 all_goals (try simp only [opn])
 all_goals (repeat' (first | apply And.intro | intro _))
 all_goals (first | omega | (simp_all;done) | grind [has_step,has_get,take_full])
theorem ok_slHas:FnOk Try.prog E 24 c_slHas :=
 fn_okQ (l:=L_slHas) (lp:=P_slHas) (hp:=fun _=>false) (gcs:=fun _=>none) (perm:=fun _=>[]) tabOk mix trivial trivial Try.func24 rfl (by kernel_rfl) (by decide) (by kernel_rfl) (anns:=fun x _=>an_slHas x.1 x.2.1) (fun ⟨l,n,_⟩ k hp _=>Eq.mp (by kernel_rfl) (vcn_slHas l n k hp)) tot_fn
abbrev c_FnChangedTerms:Con:=⟨[.sl .u8],[.bool],fun (code,_)=>code.length<=281474976710656,.inl fun (code,_)=>(true,()),fun _=>0⟩
abbrev L_FnChangedTerms:List (FuncId × Con):=[(19,c_iProgramValid),(20,c_DrawChangedTerms),(21,c_iChangedTerms),(22,c_slInts),(23,c_sChangedTerms),(24,c_slHas)]
abbrev P_FnChangedTerms:List (FuncId × PT):=[]
def an_FnChangedTerms (code:List UInt8):Nat->St->Option Ann
 | 8,se=>some { α:=Nat,ok:=fun t=>t<=9,mu:=fun t=>9 - t,i0:=fun _=>0,nx:=fun a _=>(fun i=>i+1) a,live:=[3,4],sets:=fun t=>[(5,sv (.int .i64 t))],mids:=[224],blks:=fun t=>[],owns:=fun t=>[],rd:=fun r _=>r,base:=100000 }
 | 12,se=>some { α:=Nat × Bool,ok:=fun a=>a.1<=(cmdsAt se 3).length/\a.2=smB ((cmdsAt se 3).take a.1) (intAt se 5),mu:=fun a=>(cmdsAt se 3).length - a.1,i0:=fun _=>(0,false),nx:=fun a st=>(a.1+1,flagAt st 6),live:=[2,3,4,5],sets:=fun a=>[(7,sv (.int .i64 a.1)),(6,sv (.bool a.2))],mids:=[224],blks:=fun a=>[],owns:=fun a=>[],rd:=fun r _=>r,base:=200000 }
 | _,_=>none
def VC_FnChangedTerms_1 :Prop:=True/\(((true,()):Bool × Unit)=(true,()))/\True/\True/\True/\True/\TF
def VC_FnChangedTerms_2 :Prop:=True/\(((false,()):Bool × Unit)=(true,()))/\True/\True/\True/\True/\TF
def VC_FnChangedTerms_3 (r1:(List GCmd) × Unit) (t2:Nat):Prop:=RL [.s (.c (.junk)),.s (.c (.d (.arr .cmd r1.1))),.s (.c (.own 224)),.s (.c (.d (.val (.int .i64 ((t2:Nat):Int)))))]
def VC_FnChangedTerms_4 :Prop:=True/\VC_FnChangedTerms_2
def VC_FnChangedTerms_5 (t2:Nat) (r1:(List GCmd) × Unit):Prop:=True/\(inK .i64 (((t2:Nat):Int)+(1:Int)))/\True/\((t2+1)<=9)/\(9 - (t2+1) < 9 - t2)/\TT/\(RL [.s (.c (.d (.arr .cmd r1.1))),.s (.c (.own 224))])/\(([.s (.c (.d (.val (.int .i64 (((t2:Nat):Int)+(1:Int))))))]:List S)=[.s (.c (.d (.val (.int .i64 (((t2+1):Nat):Int)))))])/\(RM [some (.sl 224 .int (chT r1.1))])/\(RM [])/\True/\TT
def VC_FnChangedTerms_6 (r1:(List GCmd) × Unit) (t2:Nat):Prop:=True/\True/\(((chT r1.1).length<=281474976710656)/\True/\True)/\True/\(vcIf ((chT r1.1).contains ((t2:Nat):Int)) (True/\True/\True/\(vcIf (decide (((t2:Nat):Int) < (1:Int))) (True/\True/\VC_FnChangedTerms_4) (True/\True/\True/\True/\True/\(vcIf (decide ((4:Int) < ((t2:Nat):Int))) VC_FnChangedTerms_2 (VC_FnChangedTerms_5 t2 r1))))) (True/\True/\(VC_FnChangedTerms_5 t2 r1)))
def VC_FnChangedTerms_7 (r1:(List GCmd) × Unit) (t2:Nat):Prop:=((((0,false).1<=(r1.1).length/\(0,false).2=smB ((r1.1).take (0,false).1) (((t2:Nat):Int)))/\TT/\(VC_FnChangedTerms_3 r1 t2)/\(([.s (.c (.d (.val (.int .i64 (0:Int))))),.s (.c (.d (.val (.bool false))))]:List S)=[.s (.c (.d (.val (.int .i64 ((0,false).1:Int))))),.s (.c (.d (.val (.bool ((0,false).2)))))])/\(RM [some (.sl 224 .int (chT r1.1))])/\(RM [])/\True/\TT)/\(∀ a3:Nat × Bool,(a3.1<=(r1.1).length/\a3.2=smB ((r1.1).take a3.1) (((t2:Nat):Int)))->True/\True/\True/\True/\(vcIf (decide ((a3.1:Int) < ((r1.1.length:Nat):Int))) (True/\True/\(vcIf a3.2 (True/\True/\True/\(inK .i64 ((a3.1:Int)+(1:Int)))/\True/\((a3.1+1,true).1<=(r1.1).length/\(a3.1+1,true).2=smB ((r1.1).take (a3.1+1,true).1) (((t2:Nat):Int)))/\((r1.1).length - (a3.1+1,true).1 < (r1.1).length - a3.1)/\TT/\(VC_FnChangedTerms_3 r1 t2)/\(([.s (.c (.d (.val (.int .i64 ((a3.1:Int)+(1:Int)))))),.s (.c (.d (.val (.bool true))))]:List S)=[.s (.c (.d (.val (.int .i64 ((a3.1+1,true).1:Int))))),.s (.c (.d (.val (.bool ((a3.1+1,true).2)))))])/\(RM [some (.sl 224 .int (chT r1.1))])/\(RM [])/\True/\TT) (True/\True/\True/\(inK .i64 ((a3.1:Int)+(1:Int)))/\((0<=(a3.1:Int))/\((a3.1:Int)<=((a3.1:Int)+(1:Int)))/\(((a3.1:Int)+(1:Int))<=((r1.1.length:Nat):Int)))/\((BdL ((r1.1.drop (a3.1:Int).toNat).take (((a3.1:Int)+(1:Int)).toNat - (a3.1:Int).toNat)))/\True/\TN/\True)/\True/\(((chT ((r1.1.drop (a3.1:Int).toNat).take (((a3.1:Int)+(1:Int)).toNat - (a3.1:Int).toNat))).length<=281474976710656)/\True/\True)/\True/\True/\True/\(inK .i64 ((a3.1:Int)+(1:Int)))/\True/\((a3.1+1,((chT ((r1.1.drop (a3.1:Int).toNat).take (((a3.1:Int)+(1:Int)).toNat - (a3.1:Int).toNat))).contains ((t2:Nat):Int))).1<=(r1.1).length/\(a3.1+1,((chT ((r1.1.drop (a3.1:Int).toNat).take (((a3.1:Int)+(1:Int)).toNat - (a3.1:Int).toNat))).contains ((t2:Nat):Int))).2=smB ((r1.1).take (a3.1+1,((chT ((r1.1.drop (a3.1:Int).toNat).take (((a3.1:Int)+(1:Int)).toNat - (a3.1:Int).toNat))).contains ((t2:Nat):Int))).1) (((t2:Nat):Int)))/\((r1.1).length - (a3.1+1,((chT ((r1.1.drop (a3.1:Int).toNat).take (((a3.1:Int)+(1:Int)).toNat - (a3.1:Int).toNat))).contains ((t2:Nat):Int))).1 < (r1.1).length - a3.1)/\TT/\(VC_FnChangedTerms_3 r1 t2)/\(([.s (.c (.d (.val (.int .i64 ((a3.1:Int)+(1:Int)))))),.s (.c (.d (.val (.bool ((chT ((r1.1.drop (a3.1:Int).toNat).take (((a3.1:Int)+(1:Int)).toNat - (a3.1:Int).toNat))).contains ((t2:Nat):Int))))))]:List S)=[.s (.c (.d (.val (.int .i64 ((a3.1+1,((chT ((r1.1.drop (a3.1:Int).toNat).take (((a3.1:Int)+(1:Int)).toNat - (a3.1:Int).toNat))).contains ((t2:Nat):Int))).1:Int))))),.s (.c (.d (.val (.bool ((a3.1+1,((chT ((r1.1.drop (a3.1:Int).toNat).take (((a3.1:Int)+(1:Int)).toNat - (a3.1:Int).toNat))).contains ((t2:Nat):Int))).2)))))])/\(RM [some (.sl 224 .int (chT r1.1))])/\(RM [])/\True/\TT))) (True/\((BdL r1.1)/\True/\True)/\True/\(vcIf (prV r1.1) (True/\True/\True/\(((chT r1.1).length<=281474976710656)/\True/\True)/\True/\True/\True/\(vcIf (a3.2 != ((chT r1.1).contains ((t2:Nat):Int))) VC_FnChangedTerms_4 (VC_FnChangedTerms_6 r1 t2))) (True/\True/\(VC_FnChangedTerms_6 r1 t2)))))))
def VC_FnChangedTerms (code:List UInt8) (k:Nat):Prop:=True/\True/\True/\True/\(vcIf (decide ((1048576:Int) < ((code.length:Nat):Int))) VC_FnChangedTerms_1 (True/\(True/\True/\True/\True)/\(∀ r1:(List GCmd) × Unit,(r1.1.length+wcL r1.1<=20100)->True/\True/\((BdL r1.1)/\True/\TN/\True)/\True/\True/\True/\((BdL r1.1/\ndL r1.1<=1048576)/\True/\TN/\True)/\(((chT r1.1).length<=281474976710656/\(chT r1.1).length<=281474976710656)/\True/\True)/\True/\(vcIf (!(decide ((chT r1.1)=(chT r1.1)))) VC_FnChangedTerms_2 (True/\((0<=9)/\TT/\(RL [.s (.c (.d (.arr .cmd r1.1))),.s (.c (.own 224))])/\(([.s (.c (.d (.val (.int .i64 (0:Int)))))]:List S)=[.s (.c (.d (.val (.int .i64 ((0:Nat):Int)))))])/\(RM [some (.sl 224 .int (chT r1.1))])/\(RM [])/\True/\TT)/\(∀ t2:Nat,(t2<=9)->True/\True/\(vcIf (decide (((t2:Nat):Int)<=(8:Int))) (True/\True/\(VC_FnChangedTerms_7 r1 t2)) VC_FnChangedTerms_1)))))))
theorem vcn_FnChangedTerms (code:List UInt8) (k:Nat) (hp:code.length<=281474976710656):VC_FnChangedTerms code k:=by
 unfold VC_FnChangedTerms VC_FnChangedTerms_7 VC_FnChangedTerms_6 VC_FnChangedTerms_5 VC_FnChangedTerms_4 VC_FnChangedTerms_3 VC_FnChangedTerms_2 VC_FnChangedTerms_1
 simp only [cln,Nat.reduceEqDiff,Nat.reduceLeDiff,Nat.reduceAdd,bne_self_eq_false,beq_self_eq_true,decide_true,eq_self,Bool.not_true,Bool.not_false,vcIf_true,vcIf_false,Bool.false_and,Bool.true_and,Bool.or_false,Bool.or_true,GCmd.eta]
 all_goals (try simp only [vcIf_iff,decide_eq_true_eq,decide_eq_false_iff_not,bne_iff_ne,ne_eq,beq_iff_eq,beq_eq_false_iff_ne,bne_eq_false_iff_eq,Bool.not_eq_true',Bool.not_eq_false',Int.ofNat_lt,Int.natCast_inj,List.mem_cons,List.mem_nil_iff,List.not_mem_nil,or_false])
 all_goals (repeat' (first | apply And.intro | intro _))
 all_goals (repeat (cases ‹_/\_›))
 all_goals (first | omega | with_reducible assumption | with_reducible rfl | rfl | with_reducible exact True.intro | skip)
 all_goals (first
  | exact small_bdL (by omega)
  | exact Nat.le_trans (ndL_wt _) (by omega)
  | exact Nat.le_trans (chT_len _) (by decide)
  | exact sm_y ‹_› ‹_› ‹_› | exact sm_n ‹_› ‹_› ‹_›
  | exact one_bd ‹_› ‹_›
  | (exfalso;exact ‹¬ _=List.contains _ _› (sm_end ‹_› ‹_› ‹_›))
  | (exfalso;have h9:=chT_rng ‹_›;omega)
  | skip)
theorem ok_FnChangedTerms:FnOk Try.prog E 6 c_FnChangedTerms :=
 fn_okQ (l:=L_FnChangedTerms) (lp:=P_FnChangedTerms) (hp:=fun _=>false) (gcs:=fun _=>none) (perm:=fun _=>[]) tabOk mix ⟨ok_iProgramValid,ok_DrawChangedTerms,ok_iChangedTerms,ok_slInts,ok_sChangedTerms,ok_slHas,trivial⟩ trivial Try.func6 rfl (by kernel_rfl) (by decide) (by kernel_rfl) (anns:=fun x _=>an_FnChangedTerms x.1) (fun ⟨code,_⟩ k hp _=>Eq.mp (by kernel_rfl) (vcn_FnChangedTerms code k hp)) tot_fn
end Go.Proofs.Ytkafaeeianofnaa
