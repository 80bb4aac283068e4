/-
  Contracts of single functions of the program, each shown by the engine: what a call returns for arguments within the contract's bounds.
-/
import Derived.Test.YtopjgjelkpkmmaaFFnMissingNonea
import Derived.Test.YtopjgjelkpkmmaaEd
import Derived.Test.YtopjgjelkpkmmaaEe
set_option linter.unusedSimpArgs false
set_option linter.unusedVariables false
set_option linter.unusedSectionVars false

namespace Go.Proofs.Ytopjgjelkpkmmaa
open Go.SE Go.RowKit
set_option linter.unusedSimpArgs false
set_option linter.unusedVariables false
set_option maxHeartbeats 1000000
set_option maxRecDepth 100000
abbrev c_l5Open:Con:=⟨[],[.sl .int],fun _=>True,.inl fun _=>(opens,()),fun _=>0⟩
abbrev L_l5Open:List (FuncId × Con):=[]
abbrev P_l5Open:List (FuncId × PT):=[]
def an_l5Open :Nat->St->Option Ann
 | 2,se=>some { α:=Nat,ok:=fun i=>i<=8,mu:=fun i=>8 - i,i0:=fun _=>0,nx:=fun a _=>(fun i=>i+1) a,live:=[0],sets:=fun i=>[],mids:=[0],blks:=fun i=>[],owns:=fun i=>[⟨7,.slot 1,.int,0 :: List.replicate i (-1)⟩],rd:=fun r _=>r,base:=100000 }
 | _,_=>none
def VC_l5Open (k:Nat):Prop:=TN/\(TN/\True)/\True/\((0<=8)/\TT/\(RL [.s (.c (.own 0))])/\(RL [])/\(RM [some (.sl 0 .int ([]:List Int))])/\(RM [])/\(((some ([(0:Int)]:List Int):Option (List Int))=some (0 :: List.replicate 0 (-1)))/\True)/\TT)/\(∀ i1:Nat,(i1<=8)->True/\True/\True/\(vcIf (decide ((((0 :: List.replicate i1 (-1)).length:Nat):Int)<=(8:Int))) (True/\(TN/\True)/\(TN/\TF/\TF/\((0 :: List.replicate i1 (-1)).length+([(-1:Int)]:List Int).length<=4294967296))/\True/\((i1+1)<=8)/\(8 - (i1+1) < 8 - i1)/\TT/\(RL [.s (.c (.own 0))])/\(RL [])/\(RM [some (.sl 0 .int ([]:List Int))])/\(RM [])/\(((some ((0 :: List.replicate i1 (-1)) ++ ([(-1:Int)]:List Int)):Option (List Int))=some (0 :: List.replicate (i1+1) (-1)))/\True)/\TT) (True/\True/\(((0 :: List.replicate i1 (-1),()):(List Int) × Unit)=(opens,()))/\(True/\True)/\((TF/\TF)/\True)/\True/\(True/\True)/\TF)))
theorem vcn_l5Open  (k:Nat):VC_l5Open  k:=by
 unfold VC_l5Open
 simp only [cln,Nat.reduceEqDiff,Nat.reduceLeDiff,Nat.reduceAdd]
 all_goals (try simp only [opn])
 all_goals (repeat' (first | apply And.intro | intro _))
 all_goals (repeat (cases ‹_/\_›))
 all_goals (first | omega | rfl | assumption | (simp_all;done) | skip)
 all_goals (first
  | exact open_lt ‹_› | (have h1:=open_lt ‹_›;omega) | (rw [List.replicate_succ'];rfl) | exact open_end ‹_› ‹_› | skip)
theorem ok_l5Open:FnOk Try.prog E 129 c_l5Open :=
 fn_okQ (l:=L_l5Open) (lp:=P_l5Open) (hp:=fun _=>false) (gcs:=fun _=>none) (perm:=fun _=>[]) tabOk mix trivial trivial Try.func129 rfl (by kernel_rfl) (by decide) (by kernel_rfl) (anns:=fun x _=>an_l5Open ) (fun _ k _ _=>Eq.mp (by kernel_rfl) (vcn_l5Open  k)) tot_fn
abbrev c_l5Filled:Con:=⟨[.sl .atom,.sl .int],[.sl .atom],fun (l,c,_)=>l.length<=1048576/\l.all atV=true/\c.length=9,.inl fun (l,c,_)=>(fL c l,()),fun _=>0⟩
abbrev L_l5Filled:List (FuncId × Con):=[]
abbrev P_l5Filled:List (FuncId × PT):=[]
def an_l5Filled (l:List GAtom) (c:List Int):Nat->St->Option Ann
 | 3,se=>some { α:=Nat,ok:=fun i=>i<=l.length,mu:=fun i=>l.length - i,i0:=fun _=>0,nx:=fun a _=>(fun i=>i+1) a,live:=[0,1,4],sets:=fun i=>[(6,sv (.int .i64 i))],mids:=[64],blks:=fun i=>[],owns:=fun i=>[⟨7,.slot 5,.atom,fL c (l.take i)⟩],rd:=fun r _=>r,base:=100000 }
 | _,_=>none
def VC_l5Filled_1 (i1:Nat):Prop:=([.s (.c (.d (.val (.int .i64 (((i1:Nat):Int)+(1:Int))))))]:List S)=[.s (.c (.d (.val (.int .i64 (((i1+1):Nat):Int)))))]
def VC_l5Filled_2 (c:List Int) (l:List GAtom) (i1:Nat):Prop:=True/\True/\(TN/\True)/\(TN/\TF/\TF/\((fL c (l.take i1)).length+([(⟨(l.getD i1 (⟨0,0,0⟩:GAtom)).kind,(c.getD ((l.getD i1 (⟨0,0,0⟩:GAtom)).a).toNat (0:Int)),(c.getD ((l.getD i1 (⟨0,0,0⟩:GAtom)).b).toNat (0:Int))⟩:GAtom)]:List GAtom).length<=4294967296))/\True/\True/\(inK .i64 (((i1:Nat):Int)+(1:Int)))/\True/\((i1+1)<=l.length)/\(l.length - (i1+1) < l.length - i1)/\TT/\(RL [.s (.c (.d (.arr .atom l))),.s (.c (.d (.arr .int c))),.s (.c (.own 64))])/\(VC_l5Filled_1 i1)/\(RM [some (.sl 64 .atom ([]:List GAtom))])/\(RM [])/\(((some ((fL c (l.take i1)) ++ ([(⟨(l.getD i1 (⟨0,0,0⟩:GAtom)).kind,(c.getD ((l.getD i1 (⟨0,0,0⟩:GAtom)).a).toNat (0:Int)),(c.getD ((l.getD i1 (⟨0,0,0⟩:GAtom)).b).toNat (0:Int))⟩:GAtom)]:List GAtom)):Option (List GAtom))=some (fL c (l.take (i1+1))))/\True)/\TT
def VC_l5Filled (l:List GAtom) (c:List Int) (k:Nat):Prop:=TN/\(TN/\True)/\True/\True/\((0<=l.length)/\TT/\(RL [.s (.c (.d (.arr .atom l))),.s (.c (.d (.arr .int c))),.s (.c (.own 64))])/\(([.s (.c (.d (.val (.int .i64 (0:Int)))))]:List S)=[.s (.c (.d (.val (.int .i64 ((0:Nat):Int)))))])/\(RM [some (.sl 64 .atom ([]:List GAtom))])/\(RM [])/\(((some ([]:List GAtom):Option (List GAtom))=some (fL c (l.take 0)))/\True)/\TT)/\(∀ i1:Nat,(i1<=l.length)->True/\True/\True/\True/\(vcIf (decide (((i1:Nat):Int) < ((l.length:Nat):Int))) (True/\True/\(0<=((i1:Nat):Int)/\((i1:Nat):Int) < ((l.length:Nat):Int))/\True/\True/\True/\True/\True/\(0<=((i1:Nat):Int)/\((i1:Nat):Int) < ((l.length:Nat):Int))/\True/\True/\(0<=((l.getD i1 (⟨0,0,0⟩:GAtom)).a)/\((l.getD i1 (⟨0,0,0⟩:GAtom)).a) < ((c.length:Nat):Int))/\True/\True/\True/\True/\(0<=((i1:Nat):Int)/\((i1:Nat):Int) < ((l.length:Nat):Int))/\True/\True/\(0<=((l.getD i1 (⟨0,0,0⟩:GAtom)).b)/\((l.getD i1 (⟨0,0,0⟩:GAtom)).b) < ((c.length:Nat):Int))/\True/\True/\(TN/\True)/\(TF/\TF)/\True/\True/\True/\True/\(vcIf (((l.getD i1 (⟨0,0,0⟩:GAtom)).kind) == (1:Int)) (True/\(VC_l5Filled_2 c l i1)) (True/\True/\True/\True/\True/\True/\(vcIf ((c.getD ((l.getD i1 (⟨0,0,0⟩:GAtom)).a).toNat (0:Int)) != (c.getD ((l.getD i1 (⟨0,0,0⟩:GAtom)).b).toNat (0:Int))) (VC_l5Filled_2 c l i1) (True/\(inK .i64 (((i1:Nat):Int)+(1:Int)))/\True/\((i1+1)<=l.length)/\(l.length - (i1+1) < l.length - i1)/\TT/\(RL [.s (.c (.d (.arr .atom l))),.s (.c (.d (.arr .int c))),.s (.c (.own 64))])/\(VC_l5Filled_1 i1)/\(RM [some (.sl 64 .atom ([]:List GAtom))])/\(RM [])/\(((some (fL c (l.take i1)):Option (List GAtom))=some (fL c (l.take (i1+1))))/\True)/\TT))))) (True/\True/\(((fL c (l.take i1),()):(List GAtom) × Unit)=(fL c l,()))/\(True/\True)/\((TF/\TF)/\True)/\True/\(True/\True)/\TF)))
theorem vcn_l5Filled (l:List GAtom) (c:List Int) (k:Nat) (hp:l.length<=1048576/\l.all atV=true/\c.length=9):VC_l5Filled l c k:=by
 unfold VC_l5Filled VC_l5Filled_2 VC_l5Filled_1
 simp only [cln,Nat.reduceEqDiff,Nat.reduceLeDiff,Nat.reduceAdd]
 have hV:=hp.2.1
 have hL:∀ i,(fL c (l.take i)).length<=1048576:=fun i=>Nat.le_trans (fL_len _ _) (by simp;omega)
 all_goals (try simp only [opn])
 all_goals (repeat' (first | apply And.intro | intro _))
 all_goals (repeat (cases ‹_/\_›))
 all_goals (first | omega | rfl | assumption | (simp_all;done) | skip)
 all_goals (first
  | (have h1:=atom_idx (l:=l) hV ‹_›;omega)
  | exact Nat.le_trans (hL _) (by decide)
  | (rw [fL_step (d:=⟨0,0,0⟩) ‹_›];unfold filB cl;simp_all;done)
  | (rw [fL_step (d:=⟨0,0,0⟩) ‹_›];unfold filB cl;rw [beq_eq_false_iff_ne.2 (by assumption:¬ (_:GAtom).kind=1),beq_eq_false_iff_ne.2 ‹_›];rfl)
  | (rw [fL_step (d:=⟨0,0,0⟩) ‹_›];unfold filB cl;rw [beq_eq_false_iff_ne.2 (by assumption:¬ (_:GAtom).kind=1),beq_iff_eq.2 ‹_›];rfl)
  | (rw [take_full (l:=l) ‹_›];done) | skip)
theorem ok_l5Filled:FnOk Try.prog E 107 c_l5Filled :=
 fn_okQ (l:=L_l5Filled) (lp:=P_l5Filled) (hp:=fun _=>false) (gcs:=fun _=>none) (perm:=fun _=>[]) tabOk mix trivial trivial Try.func107 rfl (by kernel_rfl) (by decide) (by kernel_rfl) (anns:=fun x _=>an_l5Filled x.1 x.2.1) (fun ⟨l,c,_⟩ k hp _=>Eq.mp (by kernel_rfl) (vcn_l5Filled l c k hp)) tot_fn
abbrev c_l5Fits:Con:=⟨[.sl .fact,.sl .int],[.bool],fun (l,c,_)=>l.length<=1048576/\l.all fV=true/\c.length=9,.inl fun (l,c,_)=>(sFit l c,()),fun _=>0⟩
abbrev L_l5Fits:List (FuncId × Con):=[]
abbrev P_l5Fits:List (FuncId × PT):=[]
def an_l5Fits (l:List GFact) (c:List Int):Nat->St->Option Ann
 | 2,se=>some { α:=Nat,ok:=fun i=>i<=l.length/\sFit (l.take i) c=true,mu:=fun i=>l.length - i,i0:=fun _=>0,nx:=fun a _=>(fun i=>i+1) a,live:=[0,1],sets:=fun i=>[(5,sv (.int .i64 i))],mids:=[],blks:=fun i=>[],owns:=fun i=>[],rd:=fun r _=>r,base:=100000 }
 | _,_=>none
def VC_l5Fits_1 (i1:Nat) (l:List GFact) (c:List Int):Prop:=True/\(inK .i64 (((i1:Nat):Int)+(1:Int)))/\True/\((i1+1)<=l.length/\sFit (l.take (i1+1)) c=true)/\(l.length - (i1+1) < l.length - i1)/\TT/\(RL [.s (.c (.d (.arr .fact l))),.s (.c (.d (.arr .int c)))])/\(([.s (.c (.d (.val (.int .i64 (((i1:Nat):Int)+(1:Int))))))]:List S)=[.s (.c (.d (.val (.int .i64 (((i1+1):Nat):Int)))))])/\(RM [])/\(RM [])/\True/\TT
def VC_l5Fits_2 (i1:Nat) (l:List GFact) (c:List Int):Prop:=True/\(VC_l5Fits_1 i1 l c)
def VC_l5Fits (l:List GFact) (c:List Int) (k:Nat):Prop:=True/\True/\((0<=l.length/\sFit (l.take 0) c=true)/\TT/\(RL [.s (.c (.d (.arr .fact l))),.s (.c (.d (.arr .int c)))])/\(([.s (.c (.d (.val (.int .i64 (0:Int)))))]:List S)=[.s (.c (.d (.val (.int .i64 ((0:Nat):Int)))))])/\(RM [])/\(RM [])/\True/\TT)/\(∀ i1:Nat,(i1<=l.length/\sFit (l.take i1) c=true)->True/\True/\True/\True/\(vcIf (decide (((i1:Nat):Int) < ((l.length:Nat):Int))) (True/\True/\True/\(0<=((i1:Nat):Int)/\((i1:Nat):Int) < ((l.length:Nat):Int))/\True/\True/\(0<=((l.getD i1 (⟨false,0,0⟩:GFact)).a)/\((l.getD i1 (⟨false,0,0⟩:GFact)).a) < ((c.length:Nat):Int))/\True/\True/\True/\True/\True/\(0<=((i1:Nat):Int)/\((i1:Nat):Int) < ((l.length:Nat):Int))/\True/\True/\(0<=((l.getD i1 (⟨false,0,0⟩:GFact)).b)/\((l.getD i1 (⟨false,0,0⟩:GFact)).b) < ((c.length:Nat):Int))/\True/\True/\True/\True/\True/\(vcIf (decide ((0:Int)<=(c.getD ((l.getD i1 (⟨false,0,0⟩:GFact)).a).toNat (0:Int)))) (True/\True/\True/\True/\(vcIf (decide ((0:Int)<=(c.getD ((l.getD i1 (⟨false,0,0⟩:GFact)).b).toNat (0:Int)))) (True/\True/\True/\True/\True/\(0<=((i1:Nat):Int)/\((i1:Nat):Int) < ((l.length:Nat):Int))/\True/\True/\True/\True/\(vcIf (((c.getD ((l.getD i1 (⟨false,0,0⟩:GFact)).a).toNat (0:Int)) == (c.getD ((l.getD i1 (⟨false,0,0⟩:GFact)).b).toNat (0:Int))) != ((l.getD i1 (⟨false,0,0⟩:GFact)).eq)) (True/\(((false,()):Bool × Unit)=(sFit l c,()))/\True/\True/\True/\True/\TF) (VC_l5Fits_1 i1 l c))) (VC_l5Fits_2 i1 l c))) (True/\True/\(VC_l5Fits_2 i1 l c)))) (True/\(((true,()):Bool × Unit)=(sFit l c,()))/\True/\True/\True/\True/\TF)))
theorem vcn_l5Fits (l:List GFact) (c:List Int) (k:Nat) (hp:l.length<=1048576/\l.all fV=true/\c.length=9):VC_l5Fits l c k:=by
 unfold VC_l5Fits VC_l5Fits_2 VC_l5Fits_1
 simp only [cln,Nat.reduceEqDiff,Nat.reduceLeDiff,Nat.reduceAdd]
 have hV:=hp.2.1
 all_goals (try simp only [opn])
 all_goals (repeat' (first | apply And.intro | intro _))
 all_goals (repeat (cases ‹_/\_›))
 all_goals (first | omega | rfl | assumption | (simp_all;done) | skip)
 all_goals (first
  | (have h1:=fact_idx (l:=l) hV ‹_›;omega)
  | (symm;exact sFit_no ‹_› ‹_› ‹_› (by unfold fh cl;rw [beq_eq_false_iff_ne];assumption))
  | (rw [sFit_step (d:=⟨false,0,0⟩) ‹_›];unfold fh cl;simp_all;done)
  | (rw [take_full (l:=l) ‹_›] at *;simp_all;done) | skip)
theorem ok_l5Fits:FnOk Try.prog E 153 c_l5Fits :=
 fn_okQ (l:=L_l5Fits) (lp:=P_l5Fits) (hp:=fun _=>false) (gcs:=fun _=>none) (perm:=fun _=>[]) tabOk mix trivial trivial Try.func153 rfl (by kernel_rfl) (by decide) (by kernel_rfl) (anns:=fun x _=>an_l5Fits x.1 x.2.1) (fun ⟨l,c,_⟩ k hp _=>Eq.mp (by kernel_rfl) (vcn_l5Fits l c k hp)) tot_fn
abbrev c_l5Early:Con:=⟨[.sl .atom,.sl .int],[.bool],fun (l,c,_)=>l.length<=1048576/\l.all atV=true/\c.length=9/\le8 c=true,.inl fun (l,c,_)=>(sEarly l c,()),fun _=>0⟩
abbrev L_l5Early:List (FuncId × Con):=[]
abbrev P_l5Early:List (FuncId × PT):=[]
def an_l5Early (l:List GAtom) (c:List Int):Nat->St->Option Ann
 | 3,se=>some { α:=Nat,ok:=fun i=>i<=l.length/\okS [] (est c (l.take i))=true,mu:=fun i=>l.length - i,i0:=fun _=>0,nx:=fun a _=>(fun i=>i+1) a,live:=[0,1],sets:=fun i=>[(6,sv (.int .i64 i))],mids:=[],blks:=fun i=>[],owns:=fun i=>[⟨7,.slot 5,.bool,fl9 (fun t=>(est c (l.take i)).contains t)⟩],rd:=fun r _=>r,base:=100000 }
 | _,_=>none
def VC_l5Early_1 (i1:Nat):Prop:=([.s (.c (.d (.val (.int .i64 (((i1:Nat):Int)+(1:Int))))))]:List S)=[.s (.c (.d (.val (.int .i64 (((i1+1):Nat):Int)))))]
def VC_l5Early_2 (i1:Nat) (l:List GAtom) (c:List Int):Prop:=True/\(inK .i64 (((i1:Nat):Int)+(1:Int)))/\True/\((i1+1)<=l.length/\okS [] (est c (l.take (i1+1)))=true)/\(l.length - (i1+1) < l.length - i1)/\TT/\(RL [.s (.c (.d (.arr .atom l))),.s (.c (.d (.arr .int c)))])/\(VC_l5Early_1 i1)/\(RM [])/\(RM [])/\(((some (fl9 (fun t=>(est c (l.take i1)).contains t)):Option (List Bool))=some (fl9 (fun t=>(est c (l.take (i1+1))).contains t)))/\True)/\TT
def VC_l5Early_3 (l:List GAtom) (c:List Int):Prop:=True/\(((false,()):Bool × Unit)=(sEarly l c,()))/\True/\True/\True/\True/\TF
def VC_l5Early_4 (c:List Int) (l:List GAtom) (i1:Nat):Prop:=0<=(c.getD ((l.getD i1 (⟨0,0,0⟩:GAtom)).a).toNat (0:Int))/\(c.getD ((l.getD i1 (⟨0,0,0⟩:GAtom)).a).toNat (0:Int)) < (((fl9 (fun t=>(est c (l.take i1)).contains t)).length:Nat):Int)
def VC_l5Early (l:List GAtom) (c:List Int) (k:Nat):Prop:=True/\(TN/\(0<=(9:Int)/\(9:Int)<=(9:Int)/\(9:Int)<=4294967296))/\True/\True/\((0<=l.length/\okS [] (est c (l.take 0))=true)/\TT/\(RL [.s (.c (.d (.arr .atom l))),.s (.c (.d (.arr .int c)))])/\(([.s (.c (.d (.val (.int .i64 (0:Int)))))]:List S)=[.s (.c (.d (.val (.int .i64 ((0:Nat):Int)))))])/\(RM [])/\(RM [])/\(((some (List.replicate 9 false):Option (List Bool))=some (fl9 (fun t=>(est c (l.take 0)).contains t)))/\True)/\TT)/\(∀ i1:Nat,(i1<=l.length/\okS [] (est c (l.take i1))=true)->True/\True/\True/\True/\(vcIf (decide (((i1:Nat):Int) < ((l.length:Nat):Int))) (True/\True/\True/\(0<=((i1:Nat):Int)/\((i1:Nat):Int) < ((l.length:Nat):Int))/\True/\True/\(0<=((l.getD i1 (⟨0,0,0⟩:GAtom)).a)/\((l.getD i1 (⟨0,0,0⟩:GAtom)).a) < ((c.length:Nat):Int))/\True/\True/\True/\True/\(0<=((i1:Nat):Int)/\((i1:Nat):Int) < ((l.length:Nat):Int))/\True/\True/\True/\True/\(vcIf (((l.getD i1 (⟨0,0,0⟩:GAtom)).kind) != (1:Int)) (True/\(VC_l5Early_2 i1 l c)) (True/\True/\True/\(vcIf (decide ((c.getD ((l.getD i1 (⟨0,0,0⟩:GAtom)).a).toNat (0:Int)) < (0:Int))) (VC_l5Early_2 i1 l c) (True/\True/\True/\(vcIf ((c.getD ((l.getD i1 (⟨0,0,0⟩:GAtom)).a).toNat (0:Int)) == (0:Int)) (True/\(VC_l5Early_3 l c)) (True/\True/\(VC_l5Early_4 c l i1)/\True/\True/\(vcIf ((fl9 (fun t=>(est c (l.take i1)).contains t)).getD (c.getD ((l.getD i1 (⟨0,0,0⟩:GAtom)).a).toNat (0:Int)).toNat false) (VC_l5Early_3 l c) (True/\True/\(VC_l5Early_4 c l i1)/\(TF/\TF/\True/\((7:Nat) ∉ ([]:List Nat)))/\True/\(inK .i64 (((i1:Nat):Int)+(1:Int)))/\True/\((i1+1)<=l.length/\okS [] (est c (l.take (i1+1)))=true)/\(l.length - (i1+1) < l.length - i1)/\TT/\(RL [.s (.c (.d (.arr .atom l))),.s (.c (.d (.arr .int c)))])/\(VC_l5Early_1 i1)/\(RM [])/\(RM [])/\(((some ((fl9 (fun t=>(est c (l.take i1)).contains t)).set (c.getD ((l.getD i1 (⟨0,0,0⟩:GAtom)).a).toNat (0:Int)).toNat true):Option (List Bool))=some (fl9 (fun t=>(est c (l.take (i1+1))).contains t)))/\True)/\TT))))))))) (True/\(((true,()):Bool × Unit)=(sEarly l c,()))/\True/\True/\True/\True/\TF)))
theorem vcn_l5Early (l:List GAtom) (c:List Int) (k:Nat) (hp:l.length<=1048576/\l.all atV=true/\c.length=9/\le8 c=true):VC_l5Early l c k:=by
 unfold VC_l5Early VC_l5Early_4 VC_l5Early_3 VC_l5Early_2 VC_l5Early_1
 simp only [cln,Nat.reduceEqDiff,Nat.reduceLeDiff,Nat.reduceAdd]
 have h8:=le8_get hp.2.2.2
 have hV:=hp.2.1
 all_goals (try simp only [opn])
 all_goals (repeat' (first | apply And.intro | intro _))
 all_goals (repeat (cases ‹_/\_›))
 all_goals (first | omega | rfl | assumption | (simp_all;done) | skip)
 all_goals (first
  | (have h1:=atom_idx (l:=l) hV ‹_›;omega)
  | (rw [early_skip (d:=⟨0,0,0⟩) ‹_› (.inl ‹_›)];done)
  | (rw [early_skip (d:=⟨0,0,0⟩) ‹_› (.inl ‹_›)];assumption)
  | (rw [early_skip (d:=⟨0,0,0⟩) ‹_› (.inr ‹_›)];done)
  | (rw [early_skip (d:=⟨0,0,0⟩) ‹_› (.inr ‹_›)];assumption)
  | exact early_no (d:=⟨0,0,0⟩) ‹_› ‹_› ‹_› ‹_› (.inl ‹_›)
  | exact early_no (d:=⟨0,0,0⟩) ‹_› ‹_› ‹_› ‹_› (.inr ‹_›)
  | exact (early_go (d:=⟨0,0,0⟩) ‹_› ‹_› ‹_› ‹_› ‹_› ‹_› ‹_›).1
  | exact (early_go (d:=⟨0,0,0⟩) ‹_› ‹_› ‹_› ‹_› ‹_› ‹_› ‹_›).2
  | (rw [fl9_len];exact Int.lt_of_le_of_lt (h8 _) (by decide))
  | (unfold sEarly;rw [take_full (l:=l) ‹_›] at *;simp_all;done) | skip)
theorem ok_l5Early:FnOk Try.prog E 154 c_l5Early :=
 fn_okQ (l:=L_l5Early) (lp:=P_l5Early) (hp:=fun _=>false) (gcs:=fun _=>none) (perm:=fun _=>[]) tabOk mix trivial trivial Try.func154 rfl (by kernel_rfl) (by decide) (by kernel_rfl) (anns:=fun x _=>an_l5Early x.1 x.2.1) (fun ⟨l,c,_⟩ k hp _=>Eq.mp (by kernel_rfl) (vcn_l5Early l c k hp)) tot_fn
abbrev c_l5Apart:Con:=⟨[.sl .atom],[.bool],fun (l,_)=>l.length<=1048576,.inl fun (l,_)=>(sApart l,()),fun _=>0⟩
abbrev L_l5Apart:List (FuncId × Con):=[]
abbrev P_l5Apart:List (FuncId × PT):=[]
def an_l5Apart (l:List GAtom):Nat->St->Option Ann
 | 2,se=>some { α:=Nat,ok:=fun i=>i<=l.length/\sApart (l.take i)=true,mu:=fun i=>l.length - i,i0:=fun _=>0,nx:=fun a _=>(fun i=>i+1) a,live:=[0],sets:=fun i=>[(3,sv (.int .i64 i))],mids:=[],blks:=fun i=>[],owns:=fun i=>[],rd:=fun r _=>r,base:=100000 }
 | 7,se=>some { α:=Nat,ok:=fun j=>(j:Int)<=intAt se 3/\((l.take j).all fun x=>!(x.a == (l.getD (intAt se 3).toNat ⟨0,0,0⟩).a))=true,mu:=fun j=>(intAt se 3).toNat - j,i0:=fun _=>0,nx:=fun a _=>(fun j=>j+1) a,live:=[0,3],sets:=fun j=>[(4,sv (.int .i64 j))],mids:=[],blks:=fun j=>[],owns:=fun j=>[],rd:=fun r _=>r,base:=200000 }
 | _,_=>none
def VC_l5Apart_1 :Prop:=(([.s (.c (.d (.val (.int .i64 (0:Int)))))]:List S)=[.s (.c (.d (.val (.int .i64 ((0:Nat):Int)))))])/\(RM [])/\(RM [])/\True/\TT
def VC_l5Apart_2 (l:List GAtom):Prop:=True/\(((false,()):Bool × Unit)=(sApart l,()))/\True/\True/\True/\True/\TF
def VC_l5Apart_3 (j2:Nat):Prop:=(([.s (.c (.d (.val (.int .i64 (((j2:Nat):Int)+(1:Int))))))]:List S)=[.s (.c (.d (.val (.int .i64 (((j2+1):Nat):Int)))))])/\(RM [])/\(RM [])/\True/\TT
def VC_l5Apart (l:List GAtom) (k:Nat):Prop:=True/\True/\((0<=l.length/\sApart (l.take 0)=true)/\TT/\(RL [.s (.c (.d (.arr .atom l)))])/\VC_l5Apart_1)/\(∀ i1:Nat,(i1<=l.length/\sApart (l.take i1)=true)->True/\True/\True/\True/\(vcIf (decide (((i1:Nat):Int) < ((l.length:Nat):Int))) (True/\True/\(0<=((i1:Nat):Int)/\((i1:Nat):Int) < ((l.length:Nat):Int))/\True/\True/\True/\(vcIf (((l.getD i1 (⟨0,0,0⟩:GAtom)).a) == (0:Int)) (VC_l5Apart_2 l) (True/\(((0:Int)<=((i1:Nat):Int)/\((l.take 0).all fun x=>!(x.a == (l.getD (((i1:Nat):Int)).toNat ⟨0,0,0⟩).a))=true)/\TT/\(RL [.s (.c (.d (.arr .atom l))),.s (.c (.d (.val (.int .i64 ((i1:Nat):Int)))))])/\VC_l5Apart_1)/\(∀ j2:Nat,((j2:Int)<=((i1:Nat):Int)/\((l.take j2).all fun x=>!(x.a == (l.getD (((i1:Nat):Int)).toNat ⟨0,0,0⟩).a))=true)->True/\True/\True/\(vcIf (decide (((j2:Nat):Int) < ((i1:Nat):Int))) (True/\True/\(0<=((j2:Nat):Int)/\((j2:Nat):Int) < ((l.length:Nat):Int))/\True/\True/\True/\True/\(0<=((i1:Nat):Int)/\((i1:Nat):Int) < ((l.length:Nat):Int))/\True/\True/\True/\(vcIf (((l.getD j2 (⟨0,0,0⟩:GAtom)).a) == ((l.getD i1 (⟨0,0,0⟩:GAtom)).a)) (VC_l5Apart_2 l) (True/\(inK .i64 (((j2:Nat):Int)+(1:Int)))/\True/\(((j2+1):Int)<=((i1:Nat):Int)/\((l.take (j2+1)).all fun x=>!(x.a == (l.getD (((i1:Nat):Int)).toNat ⟨0,0,0⟩).a))=true)/\((((i1:Nat):Int)).toNat - (j2+1) < (((i1:Nat):Int)).toNat - j2)/\TT/\(RL [.s (.c (.d (.arr .atom l))),.s (.c (.d (.val (.int .i64 ((i1:Nat):Int)))))])/\(VC_l5Apart_3 j2)))) (True/\(inK .i64 (((i1:Nat):Int)+(1:Int)))/\True/\((i1+1)<=l.length/\sApart (l.take (i1+1))=true)/\(l.length - (i1+1) < l.length - i1)/\TT/\(RL [.s (.c (.d (.arr .atom l)))])/\(VC_l5Apart_3 i1))))))) (True/\(((true,()):Bool × Unit)=(sApart l,()))/\True/\True/\True/\True/\TF)))
theorem vcn_l5Apart (l:List GAtom) (k:Nat) (hp:l.length<=1048576):VC_l5Apart l k:=by
 unfold VC_l5Apart VC_l5Apart_3 VC_l5Apart_2 VC_l5Apart_1
 simp only [cln,Nat.reduceEqDiff,Nat.reduceLeDiff,Nat.reduceAdd]
 all_goals (try simp only [opn])
 all_goals (repeat' (first | apply And.intro | intro _))
 all_goals (repeat (cases ‹_/\_›))
 all_goals (first | omega | rfl | assumption | (simp_all;done) | skip)
 all_goals (first
  | (symm;exact sApart_zero (d:=⟨0,0,0⟩) ‹_› ‹_›)
  | (symm;exact sApart_two (d:=⟨0,0,0⟩) (h:=by assumption) (hj:=by assumption) (h0:=by assumption))
  | exact apart_in (by omega) ‹_› ‹_›
  | exact apart_fin ‹_› ‹_› ‹_› ‹_› ‹_› ‹_›
  | (rw [take_full (l:=l) ‹_›] at *;simp_all;done) | skip)
theorem ok_l5Apart:FnOk Try.prog E 155 c_l5Apart :=
 fn_okQ (l:=L_l5Apart) (lp:=P_l5Apart) (hp:=fun _=>false) (gcs:=fun _=>none) (perm:=fun _=>[]) tabOk mix trivial trivial Try.func155 rfl (by kernel_rfl) (by decide) (by kernel_rfl) (anns:=fun x _=>an_l5Apart x.1) (fun ⟨l,_⟩ k hp _=>Eq.mp (by kernel_rfl) (vcn_l5Apart l k hp)) tot_fn
abbrev c_l6Find:Con:=⟨[.sl .atom,.sl .bool,.int],[.int],fun (l,u,q,_)=>l.length<=1048576/\u.length=l.length,.inl fun (l,u,q,_)=>(fdI l u q,()),fun _=>0⟩
abbrev L_l6Find:List (FuncId × Con):=[]
abbrev P_l6Find:List (FuncId × PT):=[]
def an_l6Find (l:List GAtom) (u:List Bool) (q:Int):Nat->St->Option Ann
 | 2,se=>some { α:=Nat,ok:=fun i=>i<=l.length/\uaN l u q i=true,mu:=fun i=>l.length - i,i0:=fun _=>0,nx:=fun a _=>(fun i=>i+1) a,live:=[0,1,2],sets:=fun i=>[(7,sv (.int .i64 i))],mids:=[],blks:=fun i=>[],owns:=fun i=>[],rd:=fun r _=>r,base:=100000 }
 | _,_=>none
def VC_l6Find_1 (l:List GAtom) (u:List Bool) (q:Int):Prop:=RL [.s (.c (.d (.arr .atom l))),.s (.c (.d (.arr .bool u))),.s (.c (.d (.val (.int .i64 q))))]
def VC_l6Find_2 (i1:Nat) (l:List GAtom) (u:List Bool) (q:Int):Prop:=True/\(inK .i64 (((i1:Nat):Int)+(1:Int)))/\True/\((i1+1)<=l.length/\uaN l u q (i1+1)=true)/\(l.length - (i1+1) < l.length - i1)/\TT/\(VC_l6Find_1 l u q)/\(([.s (.c (.d (.val (.int .i64 (((i1:Nat):Int)+(1:Int))))))]:List S)=[.s (.c (.d (.val (.int .i64 (((i1+1):Nat):Int)))))])/\(RM [])/\(RM [])/\True/\TT
def VC_l6Find (l:List GAtom) (u:List Bool) (q:Int) (k:Nat):Prop:=True/\True/\((0<=l.length/\uaN l u q 0=true)/\TT/\(VC_l6Find_1 l u q)/\(([.s (.c (.d (.val (.int .i64 (0:Int)))))]:List S)=[.s (.c (.d (.val (.int .i64 ((0:Nat):Int)))))])/\(RM [])/\(RM [])/\True/\TT)/\(∀ i1:Nat,(i1<=l.length/\uaN l u q i1=true)->True/\True/\True/\True/\(vcIf (decide (((i1:Nat):Int) < ((l.length:Nat):Int))) (True/\True/\(0<=((i1:Nat):Int)/\((i1:Nat):Int) < ((u.length:Nat):Int))/\True/\True/\True/\(vcIf (!(u.getD i1 false)) (True/\True/\(0<=((i1:Nat):Int)/\((i1:Nat):Int) < ((l.length:Nat):Int))/\True/\True/\True/\True/\True/\(vcIf (((l.getD i1 (⟨0,0,0⟩:GAtom)).a) == q) (True/\True/\(((((i1:Nat):Int),()):Int × Unit)=(fdI l u q,()))/\True/\True/\True/\True/\TF) (VC_l6Find_2 i1 l u q))) (True/\(VC_l6Find_2 i1 l u q)))) (True/\((((-1:Int),()):Int × Unit)=(fdI l u q,()))/\True/\True/\True/\True/\TF)))
theorem vcn_l6Find (l:List GAtom) (u:List Bool) (q:Int) (k:Nat) (hp:l.length<=1048576/\u.length=l.length):VC_l6Find l u q k:=by
 unfold VC_l6Find VC_l6Find_2 VC_l6Find_1
 simp only [cln,Nat.reduceEqDiff,Nat.reduceLeDiff,Nat.reduceAdd]
 all_goals (try simp only [opn])
 all_goals (repeat' (first | apply And.intro | intro _))
 all_goals (repeat (cases ‹_/\_›))
 all_goals (first | omega | rfl | assumption | (simp_all;done) | skip)
 all_goals (first
  | exact fd_hit ‹_› ‹_› ‹_› ‹_›
  | exact fd_miss ‹_› ‹_› ‹_›
  | exact uaN_s1 ‹_› ‹_›
  | exact uaN_s3 ‹_› ‹_›
  | skip)
theorem ok_l6Find:FnOk Try.prog E 167 c_l6Find :=
 fn_okQ (l:=L_l6Find) (lp:=P_l6Find) (hp:=fun _=>false) (gcs:=fun _=>none) (perm:=fun _=>[]) tabOk mix trivial trivial Try.func167 rfl (by kernel_rfl) (by decide) (by kernel_rfl) (anns:=fun x _=>an_l6Find x.1 x.2.1 x.2.2.1) (fun ⟨l,u,q,_⟩ k hp _=>Eq.mp (by kernel_rfl) (vcn_l6Find l u q k hp)) tot_fn
abbrev c_l5Begins:Con:=⟨[.sl .atom,.int],[.bool],fun (l,c,_)=>l.length<=1048576,.inl fun (l,c,_)=>(bgn l c,()),fun _=>0⟩
abbrev L_l5Begins:List (FuncId × Con):=[]
abbrev P_l5Begins:List (FuncId × PT):=[]
def an_l5Begins (l:List GAtom) (c:Int):Nat->St->Option Ann
 | 2,se=>some { α:=Nat,ok:=fun i=>i<=l.length/\bgn (l.take i) c=false,mu:=fun i=>l.length - i,i0:=fun _=>0,nx:=fun a _=>(fun i=>i+1) a,live:=[0,1],sets:=fun i=>[(5,sv (.int .i64 i))],mids:=[],blks:=fun i=>[],owns:=fun i=>[],rd:=fun r _=>r,base:=100000 }
 | _,_=>none
def VC_l5Begins (l:List GAtom) (c:Int) (k:Nat):Prop:=True/\True/\((0<=l.length/\bgn (l.take 0) c=false)/\TT/\(RL [.s (.c (.d (.arr .atom l))),.s (.c (.d (.val (.int .i64 c))))])/\(([.s (.c (.d (.val (.int .i64 (0:Int)))))]:List S)=[.s (.c (.d (.val (.int .i64 ((0:Nat):Int)))))])/\(RM [])/\(RM [])/\True/\TT)/\(∀ i1:Nat,(i1<=l.length/\bgn (l.take i1) c=false)->True/\True/\True/\True/\(vcIf (decide (((i1:Nat):Int) < ((l.length:Nat):Int))) (True/\True/\(0<=((i1:Nat):Int)/\((i1:Nat):Int) < ((l.length:Nat):Int))/\True/\True/\True/\True/\(vcIf (((l.getD i1 (⟨0,0,0⟩:GAtom)).a) == c) (True/\(((true,()):Bool × Unit)=(bgn l c,()))/\True/\True/\True/\True/\TF) (True/\(inK .i64 (((i1:Nat):Int)+(1:Int)))/\True/\((i1+1)<=l.length/\bgn (l.take (i1+1)) c=false)/\(l.length - (i1+1) < l.length - i1)/\TT/\(RL [.s (.c (.d (.arr .atom l))),.s (.c (.d (.val (.int .i64 c))))])/\(([.s (.c (.d (.val (.int .i64 (((i1:Nat):Int)+(1:Int))))))]:List S)=[.s (.c (.d (.val (.int .i64 (((i1+1):Nat):Int)))))])/\(RM [])/\(RM [])/\True/\TT))) (True/\(((false,()):Bool × Unit)=(bgn l c,()))/\True/\True/\True/\True/\TF)))
theorem vcn_l5Begins (l:List GAtom) (c:Int) (k:Nat) (hp:l.length<=1048576):VC_l5Begins l c k:=by
 unfold VC_l5Begins
 simp only [cln,Nat.reduceEqDiff,Nat.reduceLeDiff,Nat.reduceAdd]
 all_goals (try simp only [opn])
 all_goals (repeat' (first | apply And.intro | intro _))
 all_goals (repeat (cases ‹_/\_›))
 all_goals (first | omega | rfl | assumption | (simp_all;done) | skip)
 all_goals (first
  | exact (bgn_yes ‹_› ‹_›).symm
  | exact bgn_step ‹_› ‹_› ‹_›
  | exact (bgn_end ‹_› ‹_›).symm
  | skip)
theorem ok_l5Begins:FnOk Try.prog E 168 c_l5Begins :=
 fn_okQ (l:=L_l5Begins) (lp:=P_l5Begins) (hp:=fun _=>false) (gcs:=fun _=>none) (perm:=fun _=>[]) tabOk mix trivial trivial Try.func168 rfl (by kernel_rfl) (by decide) (by kernel_rfl) (anns:=fun x _=>an_l5Begins x.1 x.2.1) (fun ⟨l,c,_⟩ k hp _=>Eq.mp (by kernel_rfl) (vcn_l5Begins l c k hp)) tot_fn
abbrev m_l6Chain:MCon:=⟨[.sl .atom],.bool,[.int,.int],fun (l,_) u (q,y,_)=>l.length<=6/\u.length=l.length,fun (l,_) u (q,y,_)=>.bool (rchB l u q y),fun (l,_) u (q,y,_)=>rchU l u q y⟩
abbrev pt_l6Chain:PT:=ptM m_l6Chain
abbrev L_l6Chain:List (FuncId × Con):=[(167,c_l6Find),(168,c_l5Begins)]
abbrev P_l6Chain:List (FuncId × PT):=[]
def an_l6Chain (l:List GAtom) (u:List Bool) (q:Int) (y:Int):Nat->St->Option Ann
 | 1,se=>some { α:=Nat × List Bool × Int,ok:=fun p=>rcI l u q y p.1 p.2.1 p.2.2,mu:=fun p=>7 - p.1,i0:=fun st=>(0,slAt .bool st (.slot 1),intAt st 2),nx:=fun p st=>(p.1+1,slAt .bool st (.slot 1),intAt st 2),live:=[0,3],sets:=fun p=>[(2,sv (.int .i64 p.2.2))],mids:=[],blks:=fun p=>[],owns:=fun p=>[⟨7,.slot 1,.bool,p.2.1⟩],rd:=fun r _=>r,base:=100000 }
 | _,_=>none
def VC_l6Chain_1 (l:List GAtom) (u:List Bool) (q:Int) (y:Int) (p1:Nat × List Bool × Int):Prop:=True/\((some [.c (.d (.val (.bool false)))]:Option (List S0))=some [.c (.d (.val (.bool (rchB l u q y))))])/\((some p1.2.1:Option (List Bool))=some (rchU l u q y))
def VC_l6Chain_2 (l:List GAtom) (p1:Nat × List Bool × Int):Prop:=0<=(fdI l p1.2.1 (p1.2.2:Int))/\(fdI l p1.2.1 (p1.2.2:Int)) < ((l.length:Nat):Int)
def VC_l6Chain_3 (l:List GAtom) (p1:Nat × List Bool × Int) (u:List Bool) (q:Int) (y:Int):Prop:=True/\True/\(0<=(fdI l p1.2.1 (p1.2.2:Int))/\(fdI l p1.2.1 (p1.2.2:Int)) < ((p1.2.1.length:Nat):Int))/\(TF/\TF/\True/\((7:Nat) ∉ ([]:List Nat)))/\True/\True/\(VC_l6Chain_2 l p1)/\True/\True/\True/\(rcI l u q y (p1.1+1,(p1.2.1.set (fdI l p1.2.1 (p1.2.2:Int)).toNat true),((l.getD (fdI l p1.2.1 (p1.2.2:Int)).toNat (⟨0,0,0⟩:GAtom)).b)).1 (p1.1+1,(p1.2.1.set (fdI l p1.2.1 (p1.2.2:Int)).toNat true),((l.getD (fdI l p1.2.1 (p1.2.2:Int)).toNat (⟨0,0,0⟩:GAtom)).b)).2.1 (p1.1+1,(p1.2.1.set (fdI l p1.2.1 (p1.2.2:Int)).toNat true),((l.getD (fdI l p1.2.1 (p1.2.2:Int)).toNat (⟨0,0,0⟩:GAtom)).b)).2.2)/\(7 - (p1.1+1,(p1.2.1.set (fdI l p1.2.1 (p1.2.2:Int)).toNat true),((l.getD (fdI l p1.2.1 (p1.2.2:Int)).toNat (⟨0,0,0⟩:GAtom)).b)).1 < 7 - p1.1)/\TT/\(RL [.s (.c (.d (.arr .atom l))),.s (.c (.d (.val (.int .i64 y))))])/\(([.s (.c (.d (.val (.int .i64 ((l.getD (fdI l p1.2.1 (p1.2.2:Int)).toNat (⟨0,0,0⟩:GAtom)).b)))))]:List S)=[.s (.c (.d (.val (.int .i64 ((p1.1+1,(p1.2.1.set (fdI l p1.2.1 (p1.2.2:Int)).toNat true),((l.getD (fdI l p1.2.1 (p1.2.2:Int)).toNat (⟨0,0,0⟩:GAtom)).b)).2.2:Int)))))])/\(RM [])/\(RM [])/\(((some (p1.2.1.set (fdI l p1.2.1 (p1.2.2:Int)).toNat true):Option (List Bool))=some ((p1.1+1,(p1.2.1.set (fdI l p1.2.1 (p1.2.2:Int)).toNat true),((l.getD (fdI l p1.2.1 (p1.2.2:Int)).toNat (⟨0,0,0⟩:GAtom)).b)).2.1))/\True)/\TT
def VC_l6Chain_4 (l:List GAtom) (p1:Nat × List Bool × Int) (u:List Bool) (q:Int) (y:Int):Prop:=True/\(VC_l6Chain_3 l p1 u q y)
def VC_l6Chain_5 (l:List GAtom) (p1:Nat × List Bool × Int) (u:List Bool) (q:Int) (y:Int):Prop:=True/\True/\(VC_l6Chain_4 l p1 u q y)
def VC_l6Chain (l:List GAtom) (u:List Bool) (q:Int) (y:Int) (k:Nat):Prop:=True/\((rcI l u q y (0,u,q).1 (0,u,q).2.1 (0,u,q).2.2)/\TT/\(RL [.s (.c (.d (.arr .atom l))),.s (.c (.d (.val (.int .i64 y))))])/\(([.s (.c (.d (.val (.int .i64 q))))]:List S)=[.s (.c (.d (.val (.int .i64 ((0,u,q).2.2:Int)))))])/\(RM [])/\(RM [])/\(((some u:Option (List Bool))=some ((0,u,q).2.1))/\True)/\TT)/\(∀ p1:Nat × List Bool × Int,(rcI l u q y p1.1 p1.2.1 p1.2.2)->True/\True/\True/\(vcIf ((p1.2.2:Int) != y) (True/\True/\True/\((l.length<=1048576/\p1.2.1.length=l.length)/\True/\True)/\True/\True/\True/\(vcIf (decide ((fdI l p1.2.1 (p1.2.2:Int)) < (0:Int))) (VC_l6Chain_1 l u q y p1) (True/\True/\(VC_l6Chain_2 l p1)/\True/\True/\True/\True/\(vcIf (((l.getD (fdI l p1.2.1 (p1.2.2:Int)).toNat (⟨0,0,0⟩:GAtom)).kind) == (2:Int)) (True/\True/\(VC_l6Chain_2 l p1)/\True/\True/\True/\True/\True/\True/\(vcIf (((l.getD (fdI l p1.2.1 (p1.2.2:Int)).toNat (⟨0,0,0⟩:GAtom)).b) != y) (True/\True/\True/\True/\(vcIf (y != (0:Int)) (True/\True/\((l.length<=1048576)/\True/\True)/\True/\True/\(vcIf (!(bgn l y)) (VC_l6Chain_1 l u q y p1) (VC_l6Chain_3 l p1 u q y))) (VC_l6Chain_4 l p1 u q y))) (VC_l6Chain_5 l p1 u q y))) (True/\True/\(VC_l6Chain_5 l p1 u q y)))))) (True/\((some [.c (.d (.val (.bool true)))]:Option (List S0))=some [.c (.d (.val (.bool (rchB l u q y))))])/\((some p1.2.1:Option (List Bool))=some (rchU l u q y)))))
theorem vcn_l6Chain (l:List GAtom) (u:List Bool) (q:Int) (y:Int) (k:Nat) (hp:l.length<=6/\u.length=l.length):VC_l6Chain l u q y k:=by
 unfold VC_l6Chain VC_l6Chain_5 VC_l6Chain_4 VC_l6Chain_3 VC_l6Chain_2 VC_l6Chain_1
 simp only [cln,Nat.reduceEqDiff,Nat.reduceLeDiff,Nat.reduceAdd]
 have hl:=hp.1
 all_goals (try simp only [opn])
 all_goals (repeat' (first | apply And.intro | intro _))
 all_goals (try (have h7:=‹rcI _ _ _ _ _ _ _›))
 all_goals (first | omega | rfl | assumption | exact rcI_zero hp.2 | exact h7.len | (simp_all;done) | skip)
 all_goals (first
  | exact (rc_end h7 hl ‹_›).1.symm | exact (rc_end h7 hl ‹_›).2.symm
  | exact (rc_no h7 hl ‹_› ‹_›).1.symm | exact (rc_no h7 hl ‹_› ‹_›).2.symm
  | exact (rc_open h7 hl ‹_› ‹_› ‹_› ‹_› (cl3 ‹_› ‹_›)).1.symm
  | exact (rc_open h7 hl ‹_› ‹_› ‹_› ‹_› (cl3 ‹_› ‹_›)).2.symm
  | exact (rc_go h7 hl ‹_› ‹_› (.inr (.inl ‹_›))).1
  | exact (rc_go h7 hl ‹_› ‹_› (.inl ‹_›)).1
  | exact (rc_go h7 hl ‹_› ‹_› (.inr (.inr (cl1 ‹_›)))).1
  | exact (rc_go h7 hl ‹_› ‹_› (.inr (.inr (cl2 ‹_›)))).1
  | (have h:=(rc_go h7 hl ‹_› ‹_› (.inr (.inl ‹_›))).2;omega)
  | (have h:=(rc_go h7 hl ‹_› ‹_› (.inl ‹_›)).2;omega)
  | (have h:=(rc_go h7 hl ‹_› ‹_› (.inr (.inr (cl1 ‹_›)))).2;omega)
  | (have h:=(rc_go h7 hl ‹_› ‹_› (.inr (.inr (cl2 ‹_›)))).2;omega)
  | (have h9:=fd_bd ‹¬ fdI _ _ _ < 0›;have h10:=h7.len;omega)
  | skip)
theorem ptok_l6Chain:PTOk Try.prog E 166 pt_l6Chain :=
 mut_ok (l:=L_l6Chain) (lp:=P_l6Chain) (hp:=fun _=>false) (perm:=fun _=>[]) tabOk mix ⟨ok_l6Find,ok_l5Begins,trivial⟩ trivial Try.func166 rfl (by kernel_rfl) rfl (by decide) (by kernel_rfl) (anns:=fun x l y=>an_l6Chain x.1 l y.1 y.2.1) (fun ⟨l,_⟩ u ⟨q,y,_⟩ hp=>Eq.mp (by kernel_rfl) (vcn_l6Chain l u q y 0 hp))
abbrev c_l6Match:Con:=⟨[.sl .atom,.sl .atom],[.bool],fun (l,g,_)=>l.length<=6/\g.length<=6,.inl fun (l,g,_)=>(rmM l g,()),fun _=>0⟩
abbrev L_l6Match:List (FuncId × Con):=[(167,c_l6Find)]
abbrev P_l6Match:List (FuncId × PT):=[(166,pt_l6Chain)]
def hp_l6Match:Nat->Bool
 | 6=>true
 | _=>false
def VC_l6Match_1 (l:List GAtom) (g:List GAtom):Prop:=TT/\True/\((none:Option Nat)=none)/\(((false,()):Bool × Unit)=(rmM l g,()))/\True/\True/\True/\True/\TF
def VC_l6Match_2 (g:List GAtom) (p1:Nat × List Bool) (l:List GAtom):Prop:=(True/\(vcIf (((g.getD (p1.1:Int).toNat (⟨0,0,0⟩:GAtom)).kind) == (2:Int)) (TT/\True/\True/\True/\True/\(0<=(p1.1:Int)/\(p1.1:Int) < ((g.length:Nat):Int))/\True/\True/\True/\True/\(0<=(p1.1:Int)/\(p1.1:Int) < ((g.length:Nat):Int))/\True/\True/\TF/\TF/\True/\True/\(l.length<=6/\p1.2.length=l.length)/\True/\(vcIf (!(rchB l p1.2 ((g.getD (p1.1:Int).toNat (⟨0,0,0⟩:GAtom)).a) ((g.getD (p1.1:Int).toNat (⟨0,0,0⟩:GAtom)).b))) (VC_l6Match_1 l g) (TT/\True/\(inK .i64 ((p1.1:Int)+(1:Int)))/\True/\((p1.1+1,(rchU l p1.2 ((g.getD (p1.1:Int).toNat (⟨0,0,0⟩:GAtom)).a) ((g.getD (p1.1:Int).toNat (⟨0,0,0⟩:GAtom)).b))).1<=g.length/\rmI l g (p1.1+1,(rchU l p1.2 ((g.getD (p1.1:Int).toNat (⟨0,0,0⟩:GAtom)).a) ((g.getD (p1.1:Int).toNat (⟨0,0,0⟩:GAtom)).b))).1 (p1.1+1,(rchU l p1.2 ((g.getD (p1.1:Int).toNat (⟨0,0,0⟩:GAtom)).a) ((g.getD (p1.1:Int).toNat (⟨0,0,0⟩:GAtom)).b))).2)/\((false:Bool)=false)/\(g.length - (p1.1+1,(rchU l p1.2 ((g.getD (p1.1:Int).toNat (⟨0,0,0⟩:GAtom)).a) ((g.getD (p1.1:Int).toNat (⟨0,0,0⟩:GAtom)).b))).1 < g.length - p1.1)/\TT/\(RL [.s (.c (.d (.arr .atom l))),.s (.c (.d (.arr .atom g)))])/\(([.s (.c (.d (.val (.int .i64 ((p1.1:Int)+(1:Int))))))]:List S)=[.s (.c (.d (.val (.int .i64 ((p1.1+1,(rchU l p1.2 ((g.getD (p1.1:Int).toNat (⟨0,0,0⟩:GAtom)).a) ((g.getD (p1.1:Int).toNat (⟨0,0,0⟩:GAtom)).b))).1:Int)))))])/\(RM [])/\(RM [])/\(((some (rchU l p1.2 ((g.getD (p1.1:Int).toNat (⟨0,0,0⟩:GAtom)).a) ((g.getD (p1.1:Int).toNat (⟨0,0,0⟩:GAtom)).b)):Option (List Bool))=some ((p1.1+1,(rchU l p1.2 ((g.getD (p1.1:Int).toNat (⟨0,0,0⟩:GAtom)).a) ((g.getD (p1.1:Int).toNat (⟨0,0,0⟩:GAtom)).b))).2))/\True)/\TT))) (TT/\True/\True/\True/\True/\(0<=(p1.1:Int)/\(p1.1:Int) < ((g.length:Nat):Int))/\True/\True/\((l.length<=1048576/\p1.2.length=l.length)/\True/\True)/\True/\TT/\True/\True/\True/\(vcIf (decide ((fdI l p1.2 ((g.getD (p1.1:Int).toNat (⟨0,0,0⟩:GAtom)).a)) < (0:Int))) (True/\(VC_l6Match_1 l g)) (True/\True/\(0<=(fdI l p1.2 ((g.getD (p1.1:Int).toNat (⟨0,0,0⟩:GAtom)).a))/\(fdI l p1.2 ((g.getD (p1.1:Int).toNat (⟨0,0,0⟩:GAtom)).a)) < ((l.length:Nat):Int))/\True/\True/\True/\(0<=(p1.1:Int)/\(p1.1:Int) < ((g.length:Nat):Int))/\True/\True/\True/\(vcIf (!((((l.getD (fdI l p1.2 ((g.getD (p1.1:Int).toNat (⟨0,0,0⟩:GAtom)).a)).toNat (⟨0,0,0⟩:GAtom)).kind) == ((g.getD (p1.1:Int).toNat (⟨0,0,0⟩:GAtom)).kind)) && ((((l.getD (fdI l p1.2 ((g.getD (p1.1:Int).toNat (⟨0,0,0⟩:GAtom)).a)).toNat (⟨0,0,0⟩:GAtom)).a) == ((g.getD (p1.1:Int).toNat (⟨0,0,0⟩:GAtom)).a)) && ((((l.getD (fdI l p1.2 ((g.getD (p1.1:Int).toNat (⟨0,0,0⟩:GAtom)).a)).toNat (⟨0,0,0⟩:GAtom)).b) == ((g.getD (p1.1:Int).toNat (⟨0,0,0⟩:GAtom)).b)) && true)))) (VC_l6Match_1 l g) (TT/\True/\True/\(0<=(fdI l p1.2 ((g.getD (p1.1:Int).toNat (⟨0,0,0⟩:GAtom)).a))/\(fdI l p1.2 ((g.getD (p1.1:Int).toNat (⟨0,0,0⟩:GAtom)).a)) < ((p1.2.length:Nat):Int))/\(TF/\TF/\True/\((7:Nat) ∉ ([]:List Nat)))/\TT/\True/\(inK .i64 ((p1.1:Int)+(1:Int)))/\True/\((p1.1+1,(p1.2.set (fdI l p1.2 ((g.getD (p1.1:Int).toNat (⟨0,0,0⟩:GAtom)).a)).toNat true)).1<=g.length/\rmI l g (p1.1+1,(p1.2.set (fdI l p1.2 ((g.getD (p1.1:Int).toNat (⟨0,0,0⟩:GAtom)).a)).toNat true)).1 (p1.1+1,(p1.2.set (fdI l p1.2 ((g.getD (p1.1:Int).toNat (⟨0,0,0⟩:GAtom)).a)).toNat true)).2)/\((false:Bool)=false)/\(g.length - (p1.1+1,(p1.2.set (fdI l p1.2 ((g.getD (p1.1:Int).toNat (⟨0,0,0⟩:GAtom)).a)).toNat true)).1 < g.length - p1.1)/\TT/\(RL [.s (.c (.d (.arr .atom l))),.s (.c (.d (.arr .atom g)))])/\(([.s (.c (.d (.val (.int .i64 ((p1.1:Int)+(1:Int))))))]:List S)=[.s (.c (.d (.val (.int .i64 ((p1.1+1,(p1.2.set (fdI l p1.2 ((g.getD (p1.1:Int).toNat (⟨0,0,0⟩:GAtom)).a)).toNat true)).1:Int)))))])/\(RM [])/\(RM [])/\(((some (p1.2.set (fdI l p1.2 ((g.getD (p1.1:Int).toNat (⟨0,0,0⟩:GAtom)).a)).toNat true):Option (List Bool))=some ((p1.1+1,(p1.2.set (fdI l p1.2 ((g.getD (p1.1:Int).toNat (⟨0,0,0⟩:GAtom)).a)).toNat true)).2))/\True)/\TT)))))))
def VC_l6Match (l:List GAtom) (g:List GAtom) (k:Nat):Prop:=TT/\True/\TT/\True/\True/\(TN/\(0<=((l.length:Nat):Int)/\((l.length:Nat):Int)<=((l.length:Nat):Int)/\((l.length:Nat):Int)<=4294967296))/\True/\TT/\True/\(((0,(List.replicate l.length false)).1<=g.length/\rmI l g (0,(List.replicate l.length false)).1 (0,(List.replicate l.length false)).2)/\((false:Bool)=false)/\TT/\(RL [.s (.c (.d (.arr .atom l))),.s (.c (.d (.arr .atom g)))])/\(([.s (.c (.d (.val (.int .i64 (0:Int)))))]:List S)=[.s (.c (.d (.val (.int .i64 ((0,(List.replicate l.length false)).1:Int)))))])/\(RM [])/\(RM [])/\(((some (List.replicate l.length false):Option (List Bool))=some ((0,(List.replicate l.length false)).2))/\True)/\TT)/\(∀ p1:Nat × List Bool,(p1.1<=g.length/\rmI l g p1.1 p1.2)->TT/\True/\True/\True/\True/\(vcIf (decide ((p1.1:Int) < ((g.length:Nat):Int))) (TT/\True/\True/\(0<=(p1.1:Int)/\(p1.1:Int) < ((g.length:Nat):Int))/\True/\True/\(VC_l6Match_2 g p1 l)) (TT/\True/\((0<=(p1.2).length/\(List.take 0 (p1.2)).all id=true)/\((false:Bool)=false)/\TT/\(RL [.s (.c (.own 7))])/\(([.s (.c (.d (.val (.int .i64 (0:Int)))))]:List S)=[.s (.c (.d (.val (.int .i64 ((0:Nat):Int)))))])/\(RM [some (.sl 7 .bool p1.2)])/\(RM [])/\True/\TT)/\(∀ j2:Nat,(j2<=(p1.2).length/\(List.take j2 (p1.2)).all id=true)->TT/\True/\True/\True/\True/\(vcIf (decide (((j2:Nat):Int) < ((p1.2.length:Nat):Int))) (TT/\True/\True/\(0<=((j2:Nat):Int)/\((j2:Nat):Int) < ((p1.2.length:Nat):Int))/\True/\True/\(vcIf (!(p1.2.getD j2 false)) (VC_l6Match_1 l g) (TT/\True/\(inK .i64 (((j2:Nat):Int)+(1:Int)))/\True/\((j2+1)<=(p1.2).length/\(List.take (j2+1) (p1.2)).all id=true)/\((false:Bool)=false)/\((p1.2).length - (j2+1) < (p1.2).length - j2)/\TT/\(RL [.s (.c (.own 7))])/\(([.s (.c (.d (.val (.int .i64 (((j2:Nat):Int)+(1:Int))))))]:List S)=[.s (.c (.d (.val (.int .i64 (((j2+1):Nat):Int)))))])/\(RM [some (.sl 7 .bool p1.2)])/\(RM [])/\True/\TT))) (TT/\True/\((none:Option Nat)=none)/\(((true,()):Bool × Unit)=(rmM l g,()))/\True/\True/\True/\True/\TF))))))
theorem vcn_l6Match (l:List GAtom) (g:List GAtom) (k:Nat) (hp:l.length<=6/\g.length<=6):VC_l6Match l g k:=by
 unfold VC_l6Match VC_l6Match_2 VC_l6Match_1
 simp only [cln,Nat.reduceEqDiff,Nat.reduceLeDiff,Nat.reduceAdd]
 have hl:=hp.1
 simp only [atom_beq]
 all_goals (try simp only [opn])
 all_goals (repeat' (first | apply And.intro | intro _))
 all_goals (repeat (cases ‹_/\_›))
 all_goals (try (have h7:=‹rmI _ _ _ _›))
 all_goals (first | omega | rfl | assumption | exact rmI_zero | exact h7.len | (simp_all;done) | skip)
 all_goals (first
  | exact rm_bad1 h7 ‹_› ‹_› ‹_›
  | exact rm_go1 h7 ‹_› ‹_› ‹_›
  | exact rm_bad2 h7 ‹_› ‹_› ‹_›
  | exact rm_bad3 h7 ‹_› ‹_› ‹_› ‹_›
  | exact rm_go2 h7 ‹_› ‹_› ‹_› ‹_›
  | (have h9:=fd_bd ‹¬ fdI _ _ _ < 0›;have h10:=h7.len;omega)
  | exact rm_all h7 ‹_› ‹_› ‹_›
  | exact rm_yes h7 ‹_› ‹_› ‹_›
  | (have h10:=h7.len;omega)
  | exact id_step ‹_› ‹_› ‹_›
  | skip)
def an_l6Match (l:List GAtom) (g:List GAtom):Nat->St->Bool->Option (AnnY Bool)
 | 3,se,_=>some ⟨{ α:=Nat × List Bool,ok:=fun p=>p.1<=g.length/\rmI l g p.1 p.2,mu:=fun p=>g.length - p.1,i0:=fun st=>(0,slAt .bool st (.slot 5)),nx:=fun p st=>(p.1+1,slAt .bool st (.slot 5)),live:=[0,1],sets:=fun p=>[(6,sv (.int .i64 p.1))],mids:=[],blks:=fun p=>[],owns:=fun p=>[⟨7,.slot 5,.bool,p.2⟩],rd:=fun r _=>r,base:=100000 },fun _=>false⟩
 | 13,se,_=>some ⟨{ α:=Nat,ok:=fun j=>j<=(slAt .bool se (.slot 5)).length/\(List.take j (slAt .bool se (.slot 5))).all id=true,mu:=fun j=>(slAt .bool se (.slot 5)).length - j,i0:=fun _=>0,nx:=fun a _=>(fun j=>j+1) a,live:=[5],sets:=fun j=>[(8,sv (.int .i64 j))],mids:=[7],blks:=fun j=>[],owns:=fun j=>[],rd:=fun r _=>r,base:=200000 },fun _=>false⟩
 | _,_,_=>none
abbrev spc_l6Match (l:List GAtom) (g:List GAtom):SpCode Bool:=(fun _ _ _ _ _ _=>none)
theorem spcok_l6Match (l:List GAtom) (g:List GAtom) (wE:World) (ro0:Nat->Option (Array Value)) (ρ:Nat):SpcOk Fence.wide 0 Try.prog E (AC wE ro0 ρ) Try.f165.ntmps (spc_l6Match l g) :=
 fun _ _ _ _ _ _ _ h=>by cases h
theorem vcr_l6Match:∀ x:Args c_l6Match.aks,c_l6Match.pre x->vcY tab (lookF L_l6Match) (lookP P_l6Match) noSpB (spc_l6Match x.1 x.2.1) (fun b=>!b) hp_l6Match (fun _=>none) (an_l6Match x.1 x.2.1) (fun _=>[]) (bodyOf Try.f165) (entry (encs c_l6Match.aks x) none) false (retR tab c_l6Match Try.f165.results.toList x) :=
 fun ⟨l,g,_⟩ hp=>Eq.mp (by kernel_rfl) (vcn_l6Match l g 0 hp)
theorem ok_l6Match:FnOk Try.prog E 165 c_l6Match :=
 fnR_ok (con:=c_l6Match) (fn:=Try.f165) (l:=L_l6Match) (lp:=P_l6Match) (hp:=hp_l6Match) (gcs:=fun _=>none) (perm:=fun _=>[]) (spc:=fun x=>spc_l6Match x.1 x.2.1) (anns:=fun x=>(an_l6Match x.1 x.2.1)) tabOk mix ⟨ok_l6Find,trivial⟩ ⟨ptok_l6Chain,trivial⟩ rfl Try.func165 rfl (by kernel_rfl) (by decide) (by kernel_rfl) (fun x _=>spcok_l6Match x.1 x.2.1) vcr_l6Match tot_fn
abbrev c_l6Case:Con:=⟨[.asn,.asn,.sl .int],[.bool],fun (a,b,c,_)=>asV a=true/\asV b=true/\c.length=9,.inl fun (a,b,c,_)=>(EC a b c,()),fun _=>0⟩
abbrev L_l6Case:List (FuncId × Con):=[(107,c_l5Filled),(153,c_l5Fits),(165,c_l6Match)]
abbrev P_l6Case:List (FuncId × PT):=[]
def VC_l6Case (a:GAsn) (b:GAsn) (c:List Int) (k:Nat):Prop:=TN/\TN/\True/\True/\True/\True/\((b.facts.length<=1048576/\b.facts.all fV=true/\c.length=9)/\True/\True)/\True/\(vcIf (sFit b.facts c) (True/\True/\True/\((a.atoms.length<=1048576/\a.atoms.all atV=true/\c.length=9)/\True/\TN/\True)/\True/\True/\True/\((b.atoms.length<=1048576/\b.atoms.all atV=true/\c.length=9)/\True/\TN/\True)/\(((fL c a.atoms).length<=6/\(fL c b.atoms).length<=6)/\True/\True)/\True/\True/\((((rmM (fL c a.atoms) (fL c b.atoms)),()):Bool × Unit)=(EC a b c,()))/\True/\True/\True/\True/\TF) (True/\True/\(((false,()):Bool × Unit)=(EC a b c,()))/\True/\True/\True/\True/\TF))
theorem vcn_l6Case (a:GAsn) (b:GAsn) (c:List Int) (k:Nat) (hp:asV a=true/\asV b=true/\c.length=9):VC_l6Case a b c k:=by
 unfold VC_l6Case
 simp only [cln,Nat.reduceEqDiff,Nat.reduceLeDiff,Nat.reduceAdd]
 have hA:=asV_facts hp.1
 have hB:=asV_facts hp.2.1
 have hLa:=Nat.le_trans (fL_len c a.atoms) hA.2.2.2
 have hLb:=Nat.le_trans (fL_len c b.atoms) hB.2.2.2
 all_goals (try simp only [opn])
 all_goals (repeat' (first | apply And.intro | intro _))
 all_goals (first | omega | rfl | assumption | exact hA.2.2.1 | exact hB.2.2.1 | exact hB.1 | exact hp.2.2 | (unfold EC;simp_all;done) | skip)
theorem ok_l6Case:FnOk Try.prog E 162 c_l6Case :=
 fn_okQ (l:=L_l6Case) (lp:=P_l6Case) (hp:=fun _=>false) (gcs:=fun _=>none) (perm:=fun _=>[]) tabOk mix ⟨ok_l5Filled,ok_l5Fits,ok_l6Match,trivial⟩ trivial Try.func162 rfl (by kernel_rfl) (by decide) (by kernel_rfl) (anns:=fun x _=>fun _ _=>none) (fun ⟨a,b,c,_⟩ k hp _=>Eq.mp (by kernel_rfl) (vcn_l6Case a b c k hp)) tot_fn
abbrev c_l6Seek:Con:=⟨[.asn,.asn,.sl .bool,.sl .int,.int],[.sl .int,.bool],fun (a,b,tm,c,t,_)=>asV a=true/\asV b=true/\tm.length=9/\c.length=9/\le8 c=true/\1<=t/\t<=9,.inl fun (a,b,tm,c,t,_)=>((sQ (sFn a b) a tm c t).headD [],!(sQ (sFn a b) a tm c t).isEmpty,()),fun _=>0⟩
abbrev mu_l6Seek:Args c_l6Seek.aks->Nat:=fun (a,b,tm,c,t,_)=>(9 - t).toNat
abbrev L_l6Seek (m:Nat):List (FuncId × Con):=[(107,c_l5Filled),(140,c_l6Seek.lim mu_l6Seek m),(153,c_l5Fits),(154,c_l5Early),(155,c_l5Apart),(162,c_l6Case)]
abbrev P_l6Seek:List (FuncId × PT):=[]
def an_l6Seek (a:GAsn) (b:GAsn) (tm:List Bool) (c:List Int) (t:Int):Nat->St->Option Ann
 | 10,se=>some { α:=Nat,ok:=fun i=>(i:Int)<=t+1/\∀ j,j < i->brE (sFn a b) a tm c t j=[],mu:=fun i=>(t+1).toNat - i,i0:=fun _=>0,nx:=fun a _=>(fun i=>i+1) a,live:=[2,3,4,5,6],sets:=fun i=>[(12,sv (.int .i64 i))],mids:=[95,111],blks:=fun i=>[],owns:=fun i=>[],rd:=fun r _=>r,base:=100000 }
 | _,_=>none
def VC_l6Seek_1 (a:GAsn) (b:GAsn) (tm:List Bool) (c:List Int) (t:Int):Prop:=(TN/\True)/\True/\True/\(((([]:List Int),false,()):(List Int) × Bool × Unit)=((sQ (sFn a b) a tm c t).headD [],!(sQ (sFn a b) a tm c t).isEmpty,()))/\(True/\True)/\((TF/\TF)/\True)/\True/\(True/\True)/\TF
def VC_l6Seek_2 (a:GAsn) (b:GAsn) (tm:List Bool) (c:List Int) (t:Int):Prop:=True/\(VC_l6Seek_1 a b tm c t)
def VC_l6Seek_3 (tm:List Bool) (c:List Int) (t:Int):Prop:=RL [.s (.c (.d (.arr .bool tm))),.s (.c (.d (.arr .int c))),.s (.c (.d (.val (.int .i64 t)))),.s (.c (.ptr 95 0)),.s (.c (.ptr 111 0))]
def VC_l6Seek_4 (a:GAsn) (b:GAsn):Prop:=(RM [some (.blk [.d (.arr .fact a.facts),.d (.arr .atom a.atoms)]),some (.blk [.d (.arr .fact b.facts),.d (.arr .atom b.atoms)])])/\(RM [])/\True/\TT
def VC_l6Seek_5 (i1:Nat) (t:Int) (a:GAsn) (b:GAsn) (tm:List Bool) (c:List Int):Prop:=True/\(inK .i64 (((i1:Nat):Int)+(1:Int)))/\True/\(((i1+1):Int)<=t+1/\∀ j,j < (i1+1)->brE (sFn a b) a tm c t j=[])/\((t+1).toNat - (i1+1) < (t+1).toNat - i1)/\TT/\(VC_l6Seek_3 tm c t)/\(([.s (.c (.d (.val (.int .i64 (((i1:Nat):Int)+(1:Int))))))]:List S)=[.s (.c (.d (.val (.int .i64 (((i1+1):Nat):Int)))))])/\(VC_l6Seek_4 a b)
def VC_l6Seek_6 (c:List Int) (t:Int) (a:GAsn) (b:GAsn) (tm:List Bool) (i1:Nat) (m:Nat):Prop:=(TN/\True)/\True/\(TN/\TF/\TF/\(([]:List Int).length+c.length<=4294967296))/\True/\True/\True/\True/\(0<=t/\t < (((([]:List Int) ++ c).length:Nat):Int))/\(TF/\TF/\True/\((101264:Nat) ∉ ([]:List Nat)))/\True/\True/\True/\True/\True/\(inK .i64 (t+(1:Int)))/\(((asV a=true/\asV b=true/\tm.length=9/\((([]:List Int) ++ c).set t.toNat ((i1:Nat):Int)).length=9/\le8 ((([]:List Int) ++ c).set t.toNat ((i1:Nat):Int))=true/\1<=(t+(1:Int))/\(t+(1:Int))<=9)/\(9 - (t+(1:Int))).toNat < m)/\True/\TN/\True)/\True/\True/\True/\True/\True/\True/\(vcIf (!(sQ (sFn a b) a tm ((([]:List Int) ++ c).set t.toNat ((i1:Nat):Int)) (t+(1:Int))).isEmpty) (True/\True/\True/\(((((sQ (sFn a b) a tm ((([]:List Int) ++ c).set t.toNat ((i1:Nat):Int)) (t+(1:Int))).headD []),true,()):(List Int) × Bool × Unit)=((sQ (sFn a b) a tm c t).headD [],!(sQ (sFn a b) a tm c t).isEmpty,()))/\(True/\True)/\((TF/\TF)/\True)/\True/\(True/\True)/\TF) (VC_l6Seek_5 i1 t a b tm c))
def VC_l6Seek (a:GAsn) (b:GAsn) (tm:List Bool) (c:List Int) (t:Int) (m:Nat) (k:Nat):Prop:=TN/\TN/\TN/\True/\True/\True/\True/\((a.facts.length<=1048576/\a.facts.all fV=true/\c.length=9)/\True/\True)/\True/\True/\(vcIf (!(sFit a.facts c)) (VC_l6Seek_2 a b tm c t) (True/\True/\True/\((a.atoms.length<=1048576/\a.atoms.all atV=true/\c.length=9/\le8 c=true)/\True/\True)/\True/\True/\(vcIf (!(sEarly a.atoms c)) (VC_l6Seek_1 a b tm c t) (True/\True/\(vcIf (decide ((8:Int) < t)) (True/\True/\True/\((a.atoms.length<=1048576/\a.atoms.all atV=true/\c.length=9)/\True/\TN/\True)/\(((fL c a.atoms).length<=1048576)/\True/\True)/\True/\(vcIf (sApart (fL c a.atoms)) (True/\True/\True/\((asV a=true/\asV b=true/\c.length=9)/\True/\True)/\True/\True/\(vcIf (!(EC a b c)) ((TN/\True)/\True/\(TN/\TF/\TF/\(([]:List Int).length+c.length<=4294967296))/\True/\True/\(((([]:List Int) ++ c,true,()):(List Int) × Bool × Unit)=((sQ (sFn a b) a tm c t).headD [],!(sQ (sFn a b) a tm c t).isEmpty,()))/\(True/\True)/\((TF/\TF)/\True)/\True/\(True/\True)/\TF) (VC_l6Seek_1 a b tm c t))) (VC_l6Seek_2 a b tm c t))) (True/\True/\(0<=t/\t < ((tm.length:Nat):Int))/\True/\True/\(vcIf (!(tm.getD t.toNat false)) (True/\True/\True/\True/\True/\(inK .i64 (t+(1:Int)))/\(((asV a=true/\asV b=true/\tm.length=9/\c.length=9/\le8 c=true/\1<=(t+(1:Int))/\(t+(1:Int))<=9)/\(9 - (t+(1:Int))).toNat < m)/\True/\TN/\True)/\True/\True/\True/\True/\(((((sQ (sFn a b) a tm c (t+(1:Int))).headD []),(!(sQ (sFn a b) a tm c (t+(1:Int))).isEmpty),()):(List Int) × Bool × Unit)=((sQ (sFn a b) a tm c t).headD [],!(sQ (sFn a b) a tm c t).isEmpty,()))/\(True/\True)/\((TF/\TF)/\True)/\True/\(True/\True)/\TF) (True/\(((0:Int)<=t+1/\∀ j,j < 0->brE (sFn a b) a tm c t j=[])/\TT/\(VC_l6Seek_3 tm c t)/\(([.s (.c (.d (.val (.int .i64 (0:Int)))))]:List S)=[.s (.c (.d (.val (.int .i64 ((0:Nat):Int)))))])/\(VC_l6Seek_4 a b))/\(∀ i1:Nat,((i1:Int)<=t+1/\∀ j,j < i1->brE (sFn a b) a tm c t j=[])->True/\True/\True/\(vcIf (decide (((i1:Nat):Int)<=t)) (True/\True/\True/\True/\(vcIf (decide (((i1:Nat):Int) < t)) (True/\True/\(0<=((i1:Nat):Int)/\((i1:Nat):Int) < ((c.length:Nat):Int))/\True/\True/\True/\True/\(vcIf ((c.getD i1 (0:Int)) != ((i1:Nat):Int)) (VC_l6Seek_5 i1 t a b tm c) (VC_l6Seek_6 c t a b tm i1 m))) (True/\(VC_l6Seek_6 c t a b tm i1 m)))) (VC_l6Seek_1 a b tm c t)))))))))))
theorem vcn_l6Seek (a:GAsn) (b:GAsn) (tm:List Bool) (c:List Int) (t:Int) (m:Nat) (k:Nat) (hp:(asV a=true/\asV b=true/\tm.length=9/\c.length=9/\le8 c=true/\1<=t/\t<=9)/\(9 - t).toNat < m+1):VC_l6Seek a b tm c t m k:=by
 unfold VC_l6Seek VC_l6Seek_6 VC_l6Seek_5 VC_l6Seek_4 VC_l6Seek_3 VC_l6Seek_2 VC_l6Seek_1
 simp only [cln,Nat.reduceEqDiff,Nat.reduceLeDiff,Nat.reduceAdd]
 have hV:=vA_iff.1 (vA_of hp.1.1)
 have hA:(fL c a.atoms).length<=1048576:=Nat.le_trans (fL_len _ _) (Nat.le_trans hV.2.2.2 (by decide))
 all_goals (try simp only [opn])
 all_goals (repeat' (first | apply And.intro | intro _))
 all_goals (repeat (cases ‹_/\_›))
 all_goals (first | omega | rfl | assumption | (simp_all;done) | skip)
 all_goals (first
  | exact hV.1 | exact hV.2.1 | exact Nat.le_trans hV.2.2.1 (by decide) | exact Nat.le_trans hV.2.2.2 (by decide) | exact Nat.le_trans (fL_len _ _) (Nat.le_trans hV.2.2.2 (by decide))
  | (rw [fits_no1 ‹_›];rfl) | (rw [fits_no2 ‹_›];rfl)
  | (rw [sk_last ‹_› ‹_› ‹_› ‹_› ‹_›];rfl) | (rw [sk_no1 ‹_› ‹_› ‹_› ‹_›];rfl) | (rw [sk_no2 ‹_› ‹_› ‹_› ‹_›];rfl)
  | (rw [sQ_skip (t:=t) ‹_› (by omega) (fits_yes ‹_› ‹_›) ‹_›];done)
  | exact brE_skip ‹_› ‹_› ‹_› _ ‹_›
  | exact brE_none ‹_› ‹_› _ ‹_›
  | exact le8_set ‹_› (by omega)
  | exact (sQ_hit ‹_› (by omega) (fits_yes ‹_› ‹_›) ‹_› ‹_› ‹_› (.inr ‹_›) ‹_›).1.symm
  | exact (sQ_hit ‹_› (by omega) (fits_yes ‹_› ‹_›) ‹_› ‹_› ‹_› (.inl (by omega)) ‹_›).1.symm
  | (rw [(sQ_hit ‹_› (by omega) (fits_yes ‹_› ‹_›) ‹_› ‹_› ‹_› (.inr ‹_›) ‹_›).2];rfl)
  | (rw [(sQ_hit ‹_› (by omega) (fits_yes ‹_› ‹_›) ‹_› ‹_› ‹_› (.inl (by omega)) ‹_›).2];rfl)
  | (rw [sQ_none ‹_› (by omega) (fits_yes ‹_› ‹_›) ‹_› ‹_› ‹_›];rfl)
  | skip)
theorem ok_l6Seek:FnOk Try.prog E 140 c_l6Seek :=
 fn_rec (mu:=mu_l6Seek) (fun m ih=>fn_okQ (con:=c_l6Seek.lim mu_l6Seek (m+1)) (fn:=Try.f140) (l:=L_l6Seek m) (lp:=P_l6Seek) (hp:=fun _=>false) (gcs:=fun _=>none) (perm:=fun _=>[]) tabOk mix ⟨ok_l5Filled,ih,ok_l5Fits,ok_l5Early,ok_l5Apart,ok_l6Case,trivial⟩ trivial Try.func140 rfl (by kernel_rfl) (show c_l6Seek.aks.length<=Try.f140.ntmps by decide) (by kernel_rfl) (anns:=fun x _=>an_l6Seek x.1 x.2.1 x.2.2.1 x.2.2.2.1 x.2.2.2.2.1) (fun ⟨a,b,tm,c,t,_⟩ k hp _=>Eq.mp (by kernel_rfl) (vcn_l6Seek a b tm c t m k hp)) tot_fn) ⟨_,_,Try.func140,by kernel_rfl,rfl⟩ tot_fn
abbrev c_l3Terms:Con:=⟨[.asn],[.sl .bool],fun (a,_)=>asV a=true ∨ vA a=true,.inl fun (a,_)=>(fl9 (occ a),()),fun _=>0⟩
abbrev L_l3Terms:List (FuncId × Con):=[]
abbrev P_l3Terms:List (FuncId × PT):=[]
def an_l3Terms (a:GAsn):Nat->St->Option Ann
 | 3,se=>some { α:=Nat,ok:=fun i=>i<=a.facts.length,mu:=fun i=>a.facts.length - i,i0:=fun _=>0,nx:=fun a _=>(fun i=>i+1) a,live:=[1,2],sets:=fun i=>[(4,sv (.int .i64 i))],mids:=[31,32],blks:=fun i=>[],owns:=fun i=>[⟨7,.slot 3,.bool,fl9 (occF (a.facts.take i))⟩],rd:=fun r _=>r,base:=100000 }
 | 8,se=>some { α:=Nat,ok:=fun i=>i<=a.atoms.length,mu:=fun i=>a.atoms.length - i,i0:=fun _=>0,nx:=fun a _=>(fun i=>i+1) a,live:=[1,2],sets:=fun i=>[(5,sv (.int .i64 i))],mids:=[31,32],blks:=fun i=>[],owns:=fun i=>[⟨7,.slot 3,.bool,fl9 (fun t=>occF a.facts t || occG (a.atoms.take i) t)⟩],rd:=fun r _=>r,base:=200000 }
 | _,_=>none
def VC_l3Terms_1 :Prop:=([.s (.c (.d (.val (.int .i64 (0:Int)))))]:List S)=[.s (.c (.d (.val (.int .i64 ((0:Nat):Int)))))]
def VC_l3Terms_2 (a:GAsn):Prop:=RM [some (.blk [.d (.arr .fact a.facts),.d (.arr .atom a.atoms)]),some (.sl 32 .bool ([]:List Bool))]
def VC_l3Terms_3 (i1:Nat):Prop:=([.s (.c (.d (.val (.int .i64 (((i1:Nat):Int)+(1:Int))))))]:List S)=[.s (.c (.d (.val (.int .i64 (((i1+1):Nat):Int)))))]
def VC_l3Terms_4 (i1:Nat) (a:GAsn):Prop:=(True/\(vcIf (decide (((i1:Nat):Int) < ((a.facts.length:Nat):Int))) (True/\True/\True/\True/\(0<=((i1:Nat):Int)/\((i1:Nat):Int) < ((a.facts.length:Nat):Int))/\True/\True/\(0<=((a.facts.getD i1 (⟨false,0,0⟩:GFact)).a)/\((a.facts.getD i1 (⟨false,0,0⟩:GFact)).a) < (((fl9 (occF (a.facts.take i1))).length:Nat):Int))/\(TF/\TF/\True/\((7:Nat) ∉ ([]:List Nat)))/\True/\True/\True/\True/\(0<=((i1:Nat):Int)/\((i1:Nat):Int) < ((a.facts.length:Nat):Int))/\True/\True/\(0<=((a.facts.getD i1 (⟨false,0,0⟩:GFact)).b)/\((a.facts.getD i1 (⟨false,0,0⟩:GFact)).b) < ((((fl9 (occF (a.facts.take i1))).set ((a.facts.getD i1 (⟨false,0,0⟩:GFact)).a).toNat true).length:Nat):Int))/\(TF/\TF/\True/\((7:Nat) ∉ ([]:List Nat)))/\True/\(inK .i64 (((i1:Nat):Int)+(1:Int)))/\True/\((i1+1)<=a.facts.length)/\(a.facts.length - (i1+1) < a.facts.length - i1)/\TT/\(RL [.s (.c (.ptr 31 0)),.s (.c (.own 32))])/\(VC_l3Terms_3 i1)/\(VC_l3Terms_2 a)/\(RM [])/\(((some (((fl9 (occF (a.facts.take i1))).set ((a.facts.getD i1 (⟨false,0,0⟩:GFact)).a).toNat true).set ((a.facts.getD i1 (⟨false,0,0⟩:GFact)).b).toNat true):Option (List Bool))=some (fl9 (occF (a.facts.take (i1+1)))))/\True)/\TT) (True/\((0<=a.atoms.length)/\TT/\(RL [.s (.c (.ptr 31 0)),.s (.c (.own 32))])/\VC_l3Terms_1/\(VC_l3Terms_2 a)/\(RM [])/\(((some (fl9 (occF (a.facts.take i1))):Option (List Bool))=some (fl9 (fun t=>occF a.facts t || occG (a.atoms.take 0) t)))/\True)/\TT)/\(∀ i2:Nat,(i2<=a.atoms.length)->True/\True/\True/\True/\True/\(vcIf (decide (((i2:Nat):Int) < ((a.atoms.length:Nat):Int))) (True/\True/\True/\True/\(0<=((i2:Nat):Int)/\((i2:Nat):Int) < ((a.atoms.length:Nat):Int))/\True/\True/\(0<=((a.atoms.getD i2 (⟨0,0,0⟩:GAtom)).a)/\((a.atoms.getD i2 (⟨0,0,0⟩:GAtom)).a) < (((fl9 (fun t=>occF a.facts t || occG (a.atoms.take i2) t)).length:Nat):Int))/\(TF/\TF/\True/\((7:Nat) ∉ ([]:List Nat)))/\True/\True/\True/\True/\(0<=((i2:Nat):Int)/\((i2:Nat):Int) < ((a.atoms.length:Nat):Int))/\True/\True/\(0<=((a.atoms.getD i2 (⟨0,0,0⟩:GAtom)).b)/\((a.atoms.getD i2 (⟨0,0,0⟩:GAtom)).b) < ((((fl9 (fun t=>occF a.facts t || occG (a.atoms.take i2) t)).set ((a.atoms.getD i2 (⟨0,0,0⟩:GAtom)).a).toNat true).length:Nat):Int))/\(TF/\TF/\True/\((7:Nat) ∉ ([]:List Nat)))/\True/\(inK .i64 (((i2:Nat):Int)+(1:Int)))/\True/\((i2+1)<=a.atoms.length)/\(a.atoms.length - (i2+1) < a.atoms.length - i2)/\TT/\(RL [.s (.c (.ptr 31 0)),.s (.c (.own 32))])/\(VC_l3Terms_3 i2)/\(VC_l3Terms_2 a)/\(RM [])/\(((some (((fl9 (fun t=>occF a.facts t || occG (a.atoms.take i2) t)).set ((a.atoms.getD i2 (⟨0,0,0⟩:GAtom)).a).toNat true).set ((a.atoms.getD i2 (⟨0,0,0⟩:GAtom)).b).toNat true):Option (List Bool))=some (fl9 (fun t=>occF a.facts t || occG (a.atoms.take (i2+1)) t)))/\True)/\TT) (True/\True/\(((fl9 (fun t=>occF a.facts t || occG (a.atoms.take i2) t),()):(List Bool) × Unit)=(fl9 (occ a),()))/\(True/\True)/\((TF/\TF)/\True)/\True/\(True/\True)/\TF))))))
def VC_l3Terms (a:GAsn) (k:Nat):Prop:=TN/\TN/\(TN/\(0<=(9:Int)/\(9:Int)<=(9:Int)/\(9:Int)<=4294967296))/\True/\True/\((0<=a.facts.length)/\TT/\(RL [.s (.c (.ptr 31 0)),.s (.c (.own 32))])/\VC_l3Terms_1/\(VC_l3Terms_2 a)/\(RM [])/\(((some (List.replicate 9 false):Option (List Bool))=some (fl9 (occF (a.facts.take 0))))/\True)/\TT)/\(∀ i1:Nat,(i1<=a.facts.length)->True/\True/\True/\True/\(VC_l3Terms_4 i1 a))
theorem vcn_l3Terms (a:GAsn) (k:Nat) (hp:asV a=true ∨ vA a=true):VC_l3Terms a k:=by
 unfold VC_l3Terms VC_l3Terms_4 VC_l3Terms_3 VC_l3Terms_2 VC_l3Terms_1
 simp only [cln,Nat.reduceEqDiff,Nat.reduceLeDiff,Nat.reduceAdd]
 have hl:=vA_iff.1 (hp.elim vA_of id)
 have hF:=fun i (h:i < a.facts.length)=>fV_isT (all_get (d:=(⟨false,0,0⟩:GFact)) hl.1 h)
 have hG:=fun i (h:i < a.atoms.length)=>atV_isT (all_get (d:=(⟨0,0,0⟩:GAtom)) hl.2.1 h)
 have hi:∀ t,isT t=true->0<=t/\t<=8:=fun t h=>isT_iff.1 h
 have hL:=fl9_len
 all_goals (try simp only [opn])
 all_goals (repeat' (first | apply And.intro | intro _))
 all_goals (first | omega | rfl | (simp_all;done) | (exact flF_step ‹_› (hF _ ‹_›).1 (hF _ ‹_›).2) | (exact flG_step ‹_› (hG _ ‹_›).1 (hG _ ‹_›).2) | skip)
 all_goals (first | (have h1:=hF _ ‹_›;have h2:=hi _ h1.1;have h3:=hi _ h1.2;simp only [List.length_set,hL];omega) | (have h1:=hG _ ‹_›;have h2:=hi _ h1.1;have h3:=hi _ h1.2;simp only [List.length_set,hL];omega) | (rw [take_full ‹_›];done) | (rw [take_full ‹_›];apply fl9_congr;intro t;simp [occF,occG,occ];done) | (rw [take_full ‹_›];rfl) | grind)
theorem ok_l3Terms:FnOk Try.prog E 128 c_l3Terms :=
 fn_okQ (l:=L_l3Terms) (lp:=P_l3Terms) (hp:=fun _=>false) (gcs:=fun _=>none) (perm:=fun _=>[]) tabOk mix trivial trivial Try.func128 rfl (by kernel_rfl) (by decide) (by kernel_rfl) (anns:=fun x _=>an_l3Terms x.1) (fun ⟨a,_⟩ k hp _=>Eq.mp (by kernel_rfl) (vcn_l3Terms a k hp)) tot_fn
end Go.Proofs.Ytopjgjelkpkmmaa
