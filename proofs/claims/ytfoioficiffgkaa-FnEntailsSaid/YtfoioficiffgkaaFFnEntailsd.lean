/-
  Contracts of single functions of the program, each shown by the engine: what a call returns for arguments within the contract's bounds.
-/
import Derived.Test.YtfoioficiffgkaaFFnEntailsa
import Derived.Test.YtfoioficiffgkaaFFnEntailsc
import Derived.Test.YtfoioficiffgkaaEd
import Derived.Test.YtfoioficiffgkaaFFnEntailsb
import Derived.Test.YtfoioficiffgkaaEe
import Derived.Test.YtfoioficiffgkaaEf
set_option linter.unusedSimpArgs false
set_option linter.unusedVariables false
set_option linter.unusedSectionVars false

namespace Go.Proofs.Ytfoioficiffgkaa
open Go.SE Go.RowKit
set_option linter.unusedSimpArgs false
set_option linter.unusedVariables false
set_option maxHeartbeats 1000000
set_option maxRecDepth 100000
abbrev c_iStateValid:Con:=⟨[.state],[.bool],fun (s,_)=>s.vals.length<=281474976710656/\s.heap.length<=281474976710656,.inl fun (s,_)=>(stV s,()),fun _=>0⟩
abbrev L_iStateValid:List (FuncId × Con):=[(101,c_isValue)]
abbrev P_iStateValid:List (FuncId × PT):=[]
def an_iStateValid (s:GState):Nat->St->Option Ann
 | 4,se=>some { α:=Nat,ok:=fun i=>i<=s.vals.length/\s.vals.length=8/\s.heap.length=8/\(s.vals.take i).all isT=true,mu:=fun i=>s.vals.length - i,i0:=fun _=>0,nx:=fun a _=>(fun i=>i+1) a,live:=[1,18,19],sets:=fun i=>[(20,sv (.int .i64 i))],mids:=[31],blks:=fun i=>[],owns:=fun i=>[],rd:=fun r _=>r,base:=100000 }
 | 10,se=>some { α:=Nat,ok:=fun i=>i<=s.heap.length/\s.vals.length=8/\s.heap.length=8/\s.vals.all isT=true/\(s.heap.take i).all hv=true,mu:=fun i=>s.heap.length - i,i0:=fun _=>0,nx:=fun a _=>(fun i=>i+1) a,live:=[29,30],sets:=fun i=>[(31,sv (.int .i64 i))],mids:=[],blks:=fun i=>[],owns:=fun i=>[],rd:=fun r _=>r,base:=200000 }
 | _,_=>none
def VC_iStateValid_1 (s:GState):Prop:=True/\(((false,()):Bool × Unit)=(stV s,()))/\True/\True/\True/\True/\TF
def VC_iStateValid_2 (s:GState):Prop:=RL [.s (.c (.ptr 31 0)),.s (.c (.d (.arr .int s.vals))),.s (.c (.d (.val (.int .i64 ((s.vals.length:Nat):Int)))))]
def VC_iStateValid_3 :Prop:=([.s (.c (.d (.val (.int .i64 (0:Int)))))]:List S)=[.s (.c (.d (.val (.int .i64 ((0:Nat):Int)))))]
def VC_iStateValid_4 (i1:Nat):Prop:=([.s (.c (.d (.val (.int .i64 (((i1:Nat):Int)+(1:Int))))))]:List S)=[.s (.c (.d (.val (.int .i64 (((i1+1):Nat):Int)))))]
def VC_iStateValid_5 (s:GState):Prop:=RL [.s (.c (.d (.arr .int s.heap))),.s (.c (.d (.val (.int .i64 ((s.heap.length:Nat):Int)))))]
def VC_iStateValid_6 (i2:Nat) (s:GState):Prop:=(inK .i64 (((i2:Nat):Int)+(1:Int)))/\True/\((i2+1)<=s.heap.length/\s.vals.length=8/\s.heap.length=8/\s.vals.all isT=true/\(s.heap.take (i2+1)).all hv=true)/\(s.heap.length - (i2+1) < s.heap.length - i2)/\TT/\(VC_iStateValid_5 s)/\(VC_iStateValid_4 i2)/\(RM [])/\(RM [])/\True/\TT
def VC_iStateValid (s:GState) (k:Nat):Prop:=TN/\True/\True/\True/\True/\True/\True/\(vcIf (((s.vals.length:Nat):Int) != (8:Int)) (True/\(VC_iStateValid_1 s)) (True/\True/\True/\True/\True/\(vcIf (((s.heap.length:Nat):Int) != (8:Int)) (VC_iStateValid_1 s) (True/\True/\True/\True/\((0<=s.vals.length/\s.vals.length=8/\s.heap.length=8/\(s.vals.take 0).all isT=true)/\TT/\(VC_iStateValid_2 s)/\VC_iStateValid_3/\(RM [some (.blk [.d (.arr .int s.vals),.d (.arr .int s.heap)])])/\(RM [])/\True/\TT)/\(∀ i1:Nat,(i1<=s.vals.length/\s.vals.length=8/\s.heap.length=8/\(s.vals.take i1).all isT=true)->True/\(vcIf (decide (((i1:Nat):Int) < ((s.vals.length:Nat):Int))) ((0<=((i1:Nat):Int)/\((i1:Nat):Int) < ((s.vals.length:Nat):Int))/\True/\True/\True/\(True/\True/\True)/\True/\(vcIf (!(isT (s.vals.getD i1 (0:Int)))) (VC_iStateValid_1 s) ((inK .i64 (((i1:Nat):Int)+(1:Int)))/\True/\((i1+1)<=s.vals.length/\s.vals.length=8/\s.heap.length=8/\(s.vals.take (i1+1)).all isT=true)/\(s.vals.length - (i1+1) < s.vals.length - i1)/\TT/\(VC_iStateValid_2 s)/\(VC_iStateValid_4 i1)/\(RM [some (.blk [.d (.arr .int s.vals),.d (.arr .int s.heap)])])/\(RM [])/\True/\TT))) (True/\True/\True/\True/\((0<=s.heap.length/\s.vals.length=8/\s.heap.length=8/\s.vals.all isT=true/\(s.heap.take 0).all hv=true)/\TT/\(VC_iStateValid_5 s)/\VC_iStateValid_3/\(RM [])/\(RM [])/\True/\TT)/\(∀ i2:Nat,(i2<=s.heap.length/\s.vals.length=8/\s.heap.length=8/\s.vals.all isT=true/\(s.heap.take i2).all hv=true)->True/\(vcIf (decide (((i2:Nat):Int) < ((s.heap.length:Nat):Int))) ((0<=((i2:Nat):Int)/\((i2:Nat):Int) < ((s.heap.length:Nat):Int))/\True/\True/\True/\True/\True/\(vcIf ((s.heap.getD i2 (0:Int)) != (-1:Int)) (True/\(True/\True/\True)/\True/\True/\(vcIf (!(isT (s.heap.getD i2 (0:Int)))) (VC_iStateValid_1 s) (VC_iStateValid_6 i2 s))) (True/\(VC_iStateValid_6 i2 s)))) (True/\(((true,()):Bool × Unit)=(stV s,()))/\True/\True/\True/\True/\TF))))))))))
theorem vcn_iStateValid (s:GState) (k:Nat) (hp:s.vals.length<=281474976710656/\s.heap.length<=281474976710656):VC_iStateValid s k:=by
 unfold VC_iStateValid VC_iStateValid_6 VC_iStateValid_5 VC_iStateValid_4 VC_iStateValid_3 VC_iStateValid_2 VC_iStateValid_1
 simp only [cln,Nat.reduceEqDiff,Nat.reduceLeDiff,Nat.reduceAdd]
 all_goals (try simp only [opn])
 all_goals (repeat' (first | apply And.intro | intro _))
 all_goals (first | omega | (simp_all;done) | grind [stV,hv,take_all,all_take,take_full])
theorem ok_iStateValid:FnOk Try.prog E 100 c_iStateValid :=
 fn_okQ (l:=L_iStateValid) (lp:=P_iStateValid) (hp:=fun _=>false) (gcs:=fun _=>none) (perm:=fun _=>[]) tabOk mix ⟨ok_isValue,trivial⟩ trivial Try.func100 rfl (by kernel_rfl) (by decide) (by kernel_rfl) (anns:=fun x _=>an_iStateValid x.1) (fun ⟨s,_⟩ k hp _=>Eq.mp (by kernel_rfl) (vcn_iStateValid s k hp)) tot_fn
abbrev c_iFactsHold:Con:=⟨[.sl .fact,.sl .int],[.bool],fun (l,v,_)=>l.length<=281474976710656/\v.length<=281474976710656,.inl fun (l,v,_)=>(fsV l && (v.length == 8 && l.all (holdF v)),()),fun _=>0⟩
abbrev L_iFactsHold:List (FuncId × Con):=[(80,c_iFactsValid),(117,c_termValue)]
abbrev P_iFactsHold:List (FuncId × PT):=[]
def an_iFactsHold (l:List GFact) (v:List Int):Nat->St->Option Ann
 | 4,se=>some { α:=Nat,ok:=fun i=>i<=l.length/\fsV l=true/\v.length=8/\(l.take i).all (holdF v)=true,mu:=fun i=>l.length - i,i0:=fun _=>0,nx:=fun a _=>(fun i=>i+1) a,live:=[1,15,16],sets:=fun i=>[(17,sv (.int .i64 i))],mids:=[],blks:=fun i=>[],owns:=fun i=>[],rd:=fun r _=>r,base:=100000 }
 | _,_=>none
def VC_iFactsHold_1 (l:List GFact) (v:List Int):Prop:=True/\(((false,()):Bool × Unit)=(fsV l && (v.length == 8 && l.all (holdF v)),()))/\True/\True/\True/\True/\TF
def VC_iFactsHold_2 (v:List Int) (l:List GFact):Prop:=RL [.s (.c (.d (.arr .int v))),.s (.c (.d (.arr .fact l))),.s (.c (.d (.val (.int .i64 ((l.length:Nat):Int)))))]
def VC_iFactsHold (l:List GFact) (v:List Int) (k:Nat):Prop:=True/\True/\((l.length<=281474976710656)/\True/\True)/\True/\True/\(vcIf (!(fsV l)) (True/\(VC_iFactsHold_1 l v)) (True/\True/\True/\True/\(vcIf (((v.length:Nat):Int) != (8:Int)) (VC_iFactsHold_1 l v) (True/\True/\True/\((0<=l.length/\fsV l=true/\v.length=8/\(l.take 0).all (holdF v)=true)/\TT/\(VC_iFactsHold_2 v l)/\(([.s (.c (.d (.val (.int .i64 (0:Int)))))]:List S)=[.s (.c (.d (.val (.int .i64 ((0:Nat):Int)))))])/\(RM [])/\(RM [])/\True/\TT)/\(∀ i1:Nat,(i1<=l.length/\fsV l=true/\v.length=8/\(l.take i1).all (holdF v)=true)->True/\(vcIf (decide (((i1:Nat):Int) < ((l.length:Nat):Int))) ((0<=((i1:Nat):Int)/\((i1:Nat):Int) < ((l.length:Nat):Int))/\True/\(TN/\True)/\(TF/\TF)/\True/\True/\True/\((v.length=8/\isT ((l.getD i1 (⟨false,0,0⟩:GFact)).a)=true)/\True/\True)/\True/\True/\True/\((v.length=8/\isT ((l.getD i1 (⟨false,0,0⟩:GFact)).b)=true)/\True/\True)/\True/\True/\True/\True/\(vcIf (((tv v ((l.getD i1 (⟨false,0,0⟩:GFact)).a)) == (tv v ((l.getD i1 (⟨false,0,0⟩:GFact)).b))) != ((l.getD i1 (⟨false,0,0⟩:GFact)).eq)) (VC_iFactsHold_1 l v) ((inK .i64 (((i1:Nat):Int)+(1:Int)))/\True/\((i1+1)<=l.length/\fsV l=true/\v.length=8/\(l.take (i1+1)).all (holdF v)=true)/\(l.length - (i1+1) < l.length - i1)/\TT/\(VC_iFactsHold_2 v l)/\(([.s (.c (.d (.val (.int .i64 (((i1:Nat):Int)+(1:Int))))))]:List S)=[.s (.c (.d (.val (.int .i64 (((i1+1):Nat):Int)))))])/\(RM [])/\(RM [])/\True/\TT))) (True/\(((true,()):Bool × Unit)=(fsV l && (v.length == 8 && l.all (holdF v)),()))/\True/\True/\True/\True/\TF)))))))
theorem vcn_iFactsHold (l:List GFact) (v:List Int) (k:Nat) (hp:l.length<=281474976710656/\v.length<=281474976710656):VC_iFactsHold l v k:=by
 unfold VC_iFactsHold VC_iFactsHold_2 VC_iFactsHold_1
 simp only [cln,Nat.reduceEqDiff,Nat.reduceLeDiff,Nat.reduceAdd]
 all_goals (try simp only [opn])
 all_goals (repeat' (first | apply And.intro | intro _))
 all_goals (repeat (cases ‹_/\_›))
 all_goals (first | omega | rfl | assumption | skip)
 all_goals (first
  | exact fho_no1 ‹_› | exact fho_no2 ‹_› | exact fho_no3 ‹_› ‹_›
  | exact (fho_idx ‹_› ‹_›).1 | exact (fho_idx ‹_› ‹_›).2
  | exact fho_step ‹_› ‹_› ‹_› | exact fho_end ‹_› ‹_› ‹_› ‹_›
  | (simp_all;done) | skip)
theorem ok_iFactsHold:FnOk Try.prog E 118 c_iFactsHold :=
 fn_okQ (l:=L_iFactsHold) (lp:=P_iFactsHold) (hp:=fun _=>false) (gcs:=fun _=>none) (perm:=fun _=>[]) tabOk mix ⟨ok_iFactsValid,ok_termValue,trivial⟩ trivial Try.func118 rfl (by kernel_rfl) (by decide) (by kernel_rfl) (anns:=fun x _=>an_iFactsHold x.1 x.2.1) (fun ⟨l,v,_⟩ k hp _=>Eq.mp (by kernel_rfl) (vcn_iFactsHold l v k hp)) tot_fn
abbrev c_isAddr:Con:=⟨[.int],[.bool],fun _=>True,.inl fun (n,_)=>(isAd n,()),fun _=>0⟩
abbrev L_isAddr:List (FuncId × Con):=[]
abbrev P_isAddr:List (FuncId × PT):=[]
def VC_isAddr (n:Int) (k:Nat):Prop:=True/\True/\True/\True/\(vcIf (decide ((1:Int)<=n)) (True/\True/\True/\True/\(((decide (n<=(8:Int)),()):Bool × Unit)=(isAd n,()))/\True/\True/\True/\True/\TF) (True/\True/\(((false,()):Bool × Unit)=(isAd n,()))/\True/\True/\True/\True/\TF))
theorem vcn_isAddr (n:Int) (k:Nat):VC_isAddr n k:=by
 unfold VC_isAddr
 simp only [cln,Nat.reduceEqDiff,Nat.reduceLeDiff,Nat.reduceAdd]
 all_goals (cases h:decide (1<=n) <;> simp [vcIf,isAd,h])
theorem ok_isAddr:FnOk Try.prog E 153 c_isAddr :=
 fn_okQ (l:=L_isAddr) (lp:=P_isAddr) (hp:=fun _=>false) (gcs:=fun _=>none) (perm:=fun _=>[]) tabOk mix trivial trivial Try.func153 rfl (by kernel_rfl) (by decide) (by kernel_rfl) (anns:=fun x _=>fun _ _=>none) (fun ⟨n,_⟩ k _ _=>Eq.mp (by kernel_rfl) (vcn_isAddr n k)) tot_fn
abbrev c_content:Con:=⟨[.state,.int],[.int],fun (s,n,_)=>stV s=true,.inl fun (s,n,_)=>(ct s n,()),fun _=>0⟩
abbrev L_content:List (FuncId × Con):=[(153,c_isAddr)]
abbrev P_content:List (FuncId × PT):=[]
def VC_content (s:GState) (n:Int) (k:Nat):Prop:=TN/\True/\True/\(True/\True/\True)/\True/\(vcIf (!(isAd n)) (True/\((((-1:Int),()):Int × Unit)=(ct s n,()))/\True/\True/\True/\True/\TF) (True/\True/\True/\(inK .i64 (n - (1:Int)))/\(0<=(n - (1:Int))/\(n - (1:Int)) < ((s.heap.length:Nat):Int))/\True/\True/\((((s.heap.getD (n - (1:Int)).toNat (0:Int)),()):Int × Unit)=(ct s n,()))/\True/\True/\True/\True/\TF))
theorem vcn_content (s:GState) (n:Int) (k:Nat) (hp:stV s=true):VC_content s n k:=by
 unfold VC_content
 simp only [cln,Nat.reduceEqDiff,Nat.reduceLeDiff,Nat.reduceAdd]
 all_goals (try simp only [opn])
 all_goals (repeat' (first | apply And.intro | intro _))
 all_goals (repeat (cases ‹_/\_›))
 all_goals (first | omega | rfl | assumption | (simp_all;done) | skip)
 all_goals (first
  | exact (ct_no ‹_›).symm
  | exact (ct_yes ‹_›).symm
  | (have h:=isAd_iff.1 ‹isAd n=true›;have h2:=stV_all hp;omega)
  | skip)
theorem ok_content:FnOk Try.prog E 152 c_content :=
 fn_okQ (l:=L_content) (lp:=P_content) (hp:=fun _=>false) (gcs:=fun _=>none) (perm:=fun _=>[]) tabOk mix ⟨ok_isAddr,trivial⟩ trivial Try.func152 rfl (by kernel_rfl) (by decide) (by kernel_rfl) (anns:=fun x _=>fun _ _=>none) (fun ⟨s,n,_⟩ k hp _=>Eq.mp (by kernel_rfl) (vcn_content s n k hp)) tot_fn
abbrev c_allocated:Con:=⟨[.state,.int],[.bool],fun (s,n,_)=>stV s=true,.inl fun (s,n,_)=>(al s n,()),fun _=>0⟩
abbrev L_allocated:List (FuncId × Con):=[(152,c_content)]
abbrev P_allocated:List (FuncId × PT):=[]
def VC_allocated (s:GState) (n:Int) (k:Nat):Prop:=TN/\True/\True/\True/\((stV s=true)/\True/\True)/\True/\True/\(((decide ((0:Int)<=(ct s n)),()):Bool × Unit)=(al s n,()))/\True/\True/\True/\True/\TF
theorem vcn_allocated (s:GState) (n:Int) (k:Nat) (hp:stV s=true):VC_allocated s n k:=by
 unfold VC_allocated
 simp only [cln,Nat.reduceEqDiff,Nat.reduceLeDiff,Nat.reduceAdd]
 all_goals (try simp only [opn])
 all_goals (repeat' (first | apply And.intro | intro _))
 all_goals (repeat (cases ‹_/\_›))
 all_goals (first | omega | rfl | assumption | (simp_all;done) | skip)
theorem ok_allocated:FnOk Try.prog E 121 c_allocated :=
 fn_okQ (l:=L_allocated) (lp:=P_allocated) (hp:=fun _=>false) (gcs:=fun _=>none) (perm:=fun _=>[]) tabOk mix ⟨ok_content,trivial⟩ trivial Try.func121 rfl (by kernel_rfl) (by decide) (by kernel_rfl) (anns:=fun x _=>fun _ _=>none) (fun ⟨s,n,_⟩ k hp _=>Eq.mp (by kernel_rfl) (vcn_allocated s n k hp)) tot_fn
abbrev c_iWalkCells:Con:=⟨[.state,.int,.int],[.sl .int,.bool],fun (s,x,y,_)=>s.vals.length<=281474976710656/\s.heap.length<=281474976710656,.inl fun (s,x,y,_)=>(wkL s x y,wkB s x y,()),fun _=>0⟩
abbrev L_iWalkCells:List (FuncId × Con):=[(100,c_iStateValid),(101,c_isValue),(121,c_allocated),(152,c_content)]
abbrev P_iWalkCells:List (FuncId × PT):=[]
def an_iWalkCells (s:GState) (x:Int) (y:Int):Nat->St->Option Ann
 | 5,se=>some { α:=List Int × Int,ok:=fun p=>stV s=true/\isT x=true/\isT y=true/\wkI s x y p.1 p.2,mu:=fun p=>9 - p.1.length,i0:=fun st=>(slAt .int st (.slot 8),intAt st 9),nx:=fun p st=>(slAt .int st (.slot 8),intAt st 9),live:=[2,3],sets:=fun p=>[(9,sv (.int .i64 p.2))],mids:=[63],blks:=fun p=>[],owns:=fun p=>[⟨7,.slot 8,.int,p.1⟩],rd:=fun r _=>r,base:=100000 }
 | _,_=>none
def VC_iWalkCells_1 (s:GState) (x:Int) (y:Int):Prop:=TN/\True/\(((([]:List Int),false,()):(List Int) × Bool × Unit)=(wkL s x y,wkB s x y,()))/\(True/\True)/\((TF/\TF)/\True)/\True/\(True/\True)/\TF
def VC_iWalkCells_2 (s:GState) (x:Int) (y:Int):Prop:=True/\(VC_iWalkCells_1 s x y)
def VC_iWalkCells (s:GState) (x:Int) (y:Int) (k:Nat):Prop:=TN/\TN/\True/\True/\((s.vals.length<=281474976710656/\s.heap.length<=281474976710656)/\True/\True)/\True/\True/\(vcIf (!(stV s)) (True/\True/\(VC_iWalkCells_2 s x y)) (True/\(True/\True/\True)/\True/\True/\True/\(vcIf (!(isT x)) (VC_iWalkCells_2 s x y) (True/\(True/\True/\True)/\True/\True/\(vcIf (!(isT y)) (VC_iWalkCells_1 s x y) (TN/\True/\True/\((stV s=true/\isT x=true/\isT y=true/\wkI s x y (([]:List Int),x).1 (([]:List Int),x).2)/\TT/\(RL [.s (.c (.d (.val (.int .i64 y)))),.s (.c (.ptr 63 0))])/\(([.s (.c (.d (.val (.int .i64 x))))]:List S)=[.s (.c (.d (.val (.int .i64 ((([]:List Int),x).2:Int)))))])/\(RM [some (.blk [.d (.arr .int s.vals),.d (.arr .int s.heap)])])/\(RM [])/\(((some ([]:List Int):Option (List Int))=some ((([]:List Int),x).1))/\True)/\TT)/\(∀ p1:List Int × Int,(stV s=true/\isT x=true/\isT y=true/\wkI s x y p1.1 p1.2)->True/\True/\True/\(vcIf ((p1.2:Int) != y) (True/\True/\((stV s=true)/\True/\True)/\True/\True/\(vcIf (!(al s (p1.2:Int))) (VC_iWalkCells_2 s x y) (True/\True/\True/\True/\(vcIf (((p1.1.length:Nat):Int) == (8:Int)) (VC_iWalkCells_1 s x y) (True/\True/\(TN/\True)/\(TN/\TF/\TF/\(p1.1.length+([(p1.2:Int)]:List Int).length<=4294967296))/\True/\True/\True/\((stV s=true)/\True/\True)/\True/\(stV s=true/\isT x=true/\isT y=true/\wkI s x y ((p1.1 ++ ([(p1.2:Int)]:List Int)),(ct s (p1.2:Int))).1 ((p1.1 ++ ([(p1.2:Int)]:List Int)),(ct s (p1.2:Int))).2)/\(9 - ((p1.1 ++ ([(p1.2:Int)]:List Int)),(ct s (p1.2:Int))).1.length < 9 - p1.1.length)/\TT/\(RL [.s (.c (.d (.val (.int .i64 y)))),.s (.c (.ptr 63 0))])/\(([.s (.c (.d (.val (.int .i64 (ct s (p1.2:Int))))))]:List S)=[.s (.c (.d (.val (.int .i64 (((p1.1 ++ ([(p1.2:Int)]:List Int)),(ct s (p1.2:Int))).2:Int)))))])/\(RM [some (.blk [.d (.arr .int s.vals),.d (.arr .int s.heap)])])/\(RM [])/\(((some (p1.1 ++ ([(p1.2:Int)]:List Int)):Option (List Int))=some (((p1.1 ++ ([(p1.2:Int)]:List Int)),(ct s (p1.2:Int))).1))/\True)/\TT))))) (True/\True/\True/\(((p1.1,true,()):(List Int) × Bool × Unit)=(wkL s x y,wkB s x y,()))/\(True/\True)/\((TF/\TF)/\True)/\True/\(True/\True)/\TF)))))))))
theorem vcn_iWalkCells (s:GState) (x:Int) (y:Int) (k:Nat) (hp:s.vals.length<=281474976710656/\s.heap.length<=281474976710656):VC_iWalkCells s x y k:=by
 unfold VC_iWalkCells VC_iWalkCells_2 VC_iWalkCells_1
 simp only [cln,Nat.reduceEqDiff,Nat.reduceLeDiff,Nat.reduceAdd]
 all_goals (try simp only [opn])
 all_goals (repeat' (first | apply And.intro | intro _))
 all_goals (repeat (cases ‹_/\_›))
 all_goals (try have h7:=‹wkI _ _ _ _ _›)
 all_goals (try have h8:=h7.le)
 all_goals (first | omega | rfl | assumption | (simp_all;done) | skip)
 all_goals (first
  | exact (wk_bad1 ‹_›).1.symm | exact (wk_bad1 ‹_›).2.symm
  | exact (wk_bad2 ‹_›).1.symm | exact (wk_bad2 ‹_›).2.symm
  | exact (wk_bad3 ‹_›).1.symm | exact (wk_bad3 ‹_›).2.symm
  | exact wkI_zero ‹_›
  | exact (wk_none (wk_no h7 ‹_› ‹_›) ‹_› ‹_› ‹_›).1.symm
  | exact (wk_none (wk_no h7 ‹_› ‹_›) ‹_› ‹_› ‹_›).2.symm
  | exact (wk_none (wk_full h7 ‹_› (by omega)) ‹_› ‹_› ‹_›).1.symm
  | exact (wk_none (wk_full h7 ‹_› (by omega)) ‹_› ‹_› ‹_›).2.symm
  | exact (wk_some (wk_end h7 ‹_›) ‹_› ‹_› ‹_›).1.symm
  | exact (wk_some (wk_end h7 ‹_›) ‹_› ‹_› ‹_›).2.symm
  | exact wk_go ‹_› h7 ‹_› ‹_› (by omega)
  | (rw [List.length_append,List.length_singleton];omega)
  | skip)
theorem ok_iWalkCells:FnOk Try.prog E 151 c_iWalkCells :=
 fn_okQ (l:=L_iWalkCells) (lp:=P_iWalkCells) (hp:=fun _=>false) (gcs:=fun _=>none) (perm:=fun _=>[]) tabOk mix ⟨ok_iStateValid,ok_isValue,ok_allocated,ok_content,trivial⟩ trivial Try.func151 rfl (by kernel_rfl) (by decide) (by kernel_rfl) (anns:=fun x _=>an_iWalkCells x.1 x.2.1 x.2.2.1) (fun ⟨s,x,y,_⟩ k hp _=>Eq.mp (by kernel_rfl) (vcn_iWalkCells s x y k hp)) tot_fn
abbrev c_iAtomCells:Con:=⟨[.state,.atom],[.sl .int,.bool],fun (s,x,_)=>s.vals.length<=281474976710656/\s.heap.length<=281474976710656,.inl fun (s,x,_)=>(acL s x,acB s x,()),fun _=>0⟩
abbrev L_iAtomCells:List (FuncId × Con):=[(81,c_iAtomValid),(100,c_iStateValid),(117,c_termValue),(151,c_iWalkCells),(152,c_content)]
abbrev P_iAtomCells:List (FuncId × PT):=[]
def VC_iAtomCells_1 (s:GState) (x:GAtom):Prop:=TN/\True/\(((([]:List Int),false,()):(List Int) × Bool × Unit)=(acL s x,acB s x,()))/\(True/\True)/\((TF/\TF)/\True)/\True/\(True/\True)/\TF
def VC_iAtomCells (s:GState) (x:GAtom) (k:Nat):Prop:=TN/\TN/\TN/\True/\True/\((s.vals.length<=281474976710656/\s.heap.length<=281474976710656)/\True/\True)/\True/\True/\(vcIf (!(stV s)) (True/\(VC_iAtomCells_1 s x)) (True/\(True/\True/\True)/\True/\True/\(vcIf (!(atV x)) (VC_iAtomCells_1 s x) (True/\True/\True/\True/\((s.vals.length=8/\isT x.a=true)/\True/\True)/\True/\True/\True/\True/\((s.vals.length=8/\isT x.b=true)/\True/\True)/\True/\True/\True/\True/\True/\(vcIf (x.kind == (2:Int)) (True/\True/\True/\((s.vals.length<=281474976710656/\s.heap.length<=281474976710656)/\True/\TN/\True)/\True/\True/\True/\True/\((((wkL s (tv s.vals x.a) (tv s.vals x.b)),(wkB s (tv s.vals x.a) (tv s.vals x.b)),()):(List Int) × Bool × Unit)=(acL s x,acB s x,()))/\(True/\True)/\((TF/\TF)/\True)/\True/\(True/\True)/\TF) (True/\True/\((stV s=true)/\True/\True)/\True/\True/\(vcIf ((ct s (tv s.vals x.a)) != (tv s.vals x.b)) (VC_iAtomCells_1 s x) (True/\(TN/\True)/\True/\True/\(((([(tv s.vals x.a)]:List Int),true,()):(List Int) × Bool × Unit)=(acL s x,acB s x,()))/\(True/\True)/\((TF/\TF)/\True)/\True/\(True/\True)/\TF))))))))
theorem vcn_iAtomCells (s:GState) (x:GAtom) (k:Nat) (hp:s.vals.length<=281474976710656/\s.heap.length<=281474976710656):VC_iAtomCells s x k:=by
 unfold VC_iAtomCells VC_iAtomCells_1
 simp only [cln,Nat.reduceEqDiff,Nat.reduceLeDiff,Nat.reduceAdd]
 all_goals (try simp only [opn])
 all_goals (repeat' (first | apply And.intro | intro _))
 all_goals (repeat (cases ‹_/\_›))
 all_goals (first | omega | rfl | assumption | (simp_all;done) | skip)
 all_goals (first
  | exact (ac_bad1 ‹_›).1.symm | exact (ac_bad1 ‹_›).2.symm
  | exact (ac_bad2 ‹_›).1.symm | exact (ac_bad2 ‹_›).2.symm
  | exact (stV_all ‹_›).1 | exact (atV_isT ‹_›).1 | exact (atV_isT ‹_›).2
  | exact (ac_list ‹_› ‹_› ‹_›).1.symm | exact (ac_list ‹_› ‹_› ‹_›).2.symm
  | exact (ac_no ‹_› ‹_› ‹_› ‹_›).1.symm | exact (ac_no ‹_› ‹_› ‹_› ‹_›).2.symm
  | exact (ac_yes ‹_› ‹_› ‹_› ‹_›).1.symm | exact (ac_yes ‹_› ‹_› ‹_› ‹_›).2.symm
  | skip)
theorem ok_iAtomCells:FnOk Try.prog E 119 c_iAtomCells :=
 fn_okQ (l:=L_iAtomCells) (lp:=P_iAtomCells) (hp:=fun _=>false) (gcs:=fun _=>none) (perm:=fun _=>[]) tabOk mix ⟨ok_iAtomValid,ok_iStateValid,ok_termValue,ok_iWalkCells,ok_content,trivial⟩ trivial Try.func119 rfl (by kernel_rfl) (by decide) (by kernel_rfl) (anns:=fun x _=>fun _ _=>none) (fun ⟨s,x,_⟩ k hp _=>Eq.mp (by kernel_rfl) (vcn_iAtomCells s x k hp)) tot_fn
abbrev c_csHas:Con:=⟨[.u16,.int],[.bool],fun (z,n,_)=>0<=z/\z < 512,.inl fun (z,n,_)=>(csHas z n,()),fun _=>0⟩
abbrev L_csHas:List (FuncId × Con):=[(153,c_isAddr)]
abbrev P_csHas:List (FuncId × PT):=[]
def VC_csHas (z:Int) (n:Int) (k:Nat):Prop:=True/\True/\(True/\True/\True)/\True/\(vcIf (isAd n) (True/\True/\(0<=n)/\True/\True/\True/\True/\((((bits .and .u16 (Int.fdiv z (2 ^ (min n.toNat (IntKind.bits .u16)))) (1:Int)) == (1:Int),()):Bool × Unit)=(csHas z n,()))/\True/\True/\True/\True/\TF) (True/\True/\(((false,()):Bool × Unit)=(csHas z n,()))/\True/\True/\True/\True/\TF))
theorem vcn_csHas (z:Int) (n:Int) (k:Nat) (hp:0<=z/\z < 512):VC_csHas z n k:=by
 unfold VC_csHas
 simp only [cln,Nat.reduceEqDiff,Nat.reduceLeDiff,Nat.reduceAdd]
 all_goals (try simp only [opn])
 all_goals (repeat' (first | apply And.intro | intro _))
 all_goals (repeat (cases ‹_/\_›))
 all_goals (first | omega | rfl | assumption | (simp_all;done) | skip)
 all_goals (first | exact cs_yes hp.1 hp.2 ‹_› | exact cs_no ‹_› | (have h:=isAd_iff.1 ‹isAd n=true›;omega) | exact cs_yes ‹_› ‹_› ‹_› | skip)
theorem ok_csHas:FnOk Try.prog E 120 c_csHas :=
 fn_okQ (l:=L_csHas) (lp:=P_csHas) (hp:=fun _=>false) (gcs:=fun _=>none) (perm:=fun _=>[]) tabOk mix ⟨ok_isAddr,trivial⟩ trivial Try.func120 rfl (by kernel_rfl) (by decide) (by kernel_rfl) (anns:=fun x _=>fun _ _=>none) (fun ⟨z,n,_⟩ k hp _=>Eq.mp (by kernel_rfl) (vcn_csHas z n k hp)) tot_fn
abbrev c_partOf:Con:=⟨[.state,.asn],[.u16,.bool],fun (s,a,_)=>s.vals.length<=281474976710656/\s.heap.length<=281474976710656/\a.facts.length<=281474976710656/\a.atoms.length<=281474976710656,.inl fun (s,a,_)=>(maskS (poL s a),poB s a,()),fun _=>0⟩
abbrev L_partOf:List (FuncId × Con):=[(33,c_iAssertionValid),(100,c_iStateValid),(118,c_iFactsHold),(119,c_iAtomCells),(120,c_csHas)]
abbrev P_partOf:List (FuncId × PT):=[]
def an_partOf (s:GState) (a:GAsn):Nat->St->Option Ann
 | 5,se=>some { α:=Nat,ok:=fun i=>stV s=true/\asV a=true/\fctB s a.facts=true/\ptI s a.atoms i,mu:=fun i=>a.atoms.length - i,i0:=fun _=>0,nx:=fun a _=>(fun i=>i+1) a,live:=[2,30,31],sets:=fun i=>[(32,sv (.int .i64 i)),(6,sv (.int .u16 (maskS (ptL s a.atoms i))))],mids:=[47],blks:=fun i=>[],owns:=fun i=>[],rd:=fun r _=>r,base:=100000 }
 | 11,se=>some { α:=Nat,ok:=fun j=>j<=(slAt .int se (.slot 44)).length/\nw (ptL s a.atoms (intAt se 32).toNat) (slAt .int se (.slot 44)) j,mu:=fun j=>(slAt .int se (.slot 44)).length - j,i0:=fun _=>0,nx:=fun a _=>(fun j=>j+1) a,live:=[2,30,31,32,44,45],sets:=fun j=>[(46,sv (.int .i64 j)),(6,sv (.int .u16 (maskS (ptL s a.atoms (intAt se 32).toNat ++ (slAt .int se (.slot 44)).take j))))],mids:=[47,100624],blks:=fun j=>[],owns:=fun j=>[],rd:=fun r _=>r,base:=200000 }
 | _,_=>none
def VC_partOf_1 (s:GState) (a:GAsn):Prop:=True/\True/\((((0:Int),false,()):Int × Bool × Unit)=(maskS (poL s a),poB s a,()))/\True/\True/\True/\True/\TF
def VC_partOf_2 (s:GState) (a:GAsn):Prop:=True/\(VC_partOf_1 s a)
def VC_partOf_3 (a:GAsn):Prop:=RL [.s (.c (.ptr 47 0)),.s (.c (.d (.arr .atom a.atoms))),.s (.c (.d (.val (.int .i64 ((a.atoms.length:Nat):Int)))))]
def VC_partOf_4 (a:GAsn) (i1:Nat) (s:GState):Prop:=RL [.s (.c (.ptr 47 0)),.s (.c (.d (.arr .atom a.atoms))),.s (.c (.d (.val (.int .i64 ((a.atoms.length:Nat):Int))))),.s (.c (.d (.val (.int .i64 ((i1:Nat):Int))))),.s (.c (.own 100624)),.s (.c (.d (.val (.int .i64 (((acL s (a.atoms.getD i1 (⟨0,0,0⟩:GAtom))).length:Nat):Int)))))]
def VC_partOf_5 (s:GState) (a:GAsn) (i1:Nat):Prop:=(RM [some (.blk [.d (.arr .int s.vals),.d (.arr .int s.heap)]),some (.sl 100624 .int (acL s (a.atoms.getD i1 (⟨0,0,0⟩:GAtom))))])/\(RM [])/\True/\TT
def VC_partOf_6 (s:GState) (a:GAsn) (i1:Nat):Prop:=(((0<=((acL s (a.atoms.getD i1 (⟨0,0,0⟩:GAtom)))).length/\nw (ptL s a.atoms (((i1:Nat):Int)).toNat) ((acL s (a.atoms.getD i1 (⟨0,0,0⟩:GAtom)))) 0)/\TT/\(VC_partOf_4 a i1 s)/\(([.s (.c (.d (.val (.int .i64 (0:Int))))),.s (.c (.d (.val (.int .u16 (maskS (ptL s a.atoms i1):Int)))))]:List S)=[.s (.c (.d (.val (.int .i64 ((0:Nat):Int))))),.s (.c (.d (.val (.int .u16 (maskS (ptL s a.atoms (((i1:Nat):Int)).toNat ++ ((acL s (a.atoms.getD i1 (⟨0,0,0⟩:GAtom)))).take 0):Int)))))])/\(VC_partOf_5 s a i1))/\(∀ j2:Nat,(j2<=((acL s (a.atoms.getD i1 (⟨0,0,0⟩:GAtom)))).length/\nw (ptL s a.atoms (((i1:Nat):Int)).toNat) ((acL s (a.atoms.getD i1 (⟨0,0,0⟩:GAtom)))) j2)->True/\(vcIf (decide (((j2:Nat):Int) < (((acL s (a.atoms.getD i1 (⟨0,0,0⟩:GAtom))).length:Nat):Int))) ((0<=((j2:Nat):Int)/\((j2:Nat):Int) < (((acL s (a.atoms.getD i1 (⟨0,0,0⟩:GAtom))).length:Nat):Int))/\True/\True/\True/\True/\((0<=(maskS (ptL s a.atoms (((i1:Nat):Int)).toNat ++ ((acL s (a.atoms.getD i1 (⟨0,0,0⟩:GAtom)))).take j2):Int)/\(maskS (ptL s a.atoms (((i1:Nat):Int)).toNat ++ ((acL s (a.atoms.getD i1 (⟨0,0,0⟩:GAtom)))).take j2):Int) < 512)/\True/\True)/\(vcIf (csHas (maskS (ptL s a.atoms (((i1:Nat):Int)).toNat ++ ((acL s (a.atoms.getD i1 (⟨0,0,0⟩:GAtom)))).take j2):Int) ((acL s (a.atoms.getD i1 (⟨0,0,0⟩:GAtom))).getD j2 (0:Int))) (VC_partOf_1 s a) (True/\True/\(0<=((acL s (a.atoms.getD i1 (⟨0,0,0⟩:GAtom))).getD j2 (0:Int)))/\True/\True/\(inK .i64 (((j2:Nat):Int)+(1:Int)))/\True/\((j2+1)<=((acL s (a.atoms.getD i1 (⟨0,0,0⟩:GAtom)))).length/\nw (ptL s a.atoms (((i1:Nat):Int)).toNat) ((acL s (a.atoms.getD i1 (⟨0,0,0⟩:GAtom)))) (j2+1))/\(((acL s (a.atoms.getD i1 (⟨0,0,0⟩:GAtom)))).length - (j2+1) < ((acL s (a.atoms.getD i1 (⟨0,0,0⟩:GAtom)))).length - j2)/\TT/\(VC_partOf_4 a i1 s)/\(([.s (.c (.d (.val (.int .i64 (((j2:Nat):Int)+(1:Int)))))),.s (.c (.d (.val (.int .u16 (bits .or .u16 (maskS (ptL s a.atoms (((i1:Nat):Int)).toNat ++ ((acL s (a.atoms.getD i1 (⟨0,0,0⟩:GAtom)))).take j2):Int) (IntKind.wrap .u16 ((1:Int) * 2 ^ (min ((acL s (a.atoms.getD i1 (⟨0,0,0⟩:GAtom))).getD j2 (0:Int)).toNat (IntKind.bits .u16)))))))))]:List S)=[.s (.c (.d (.val (.int .i64 (((j2+1):Nat):Int))))),.s (.c (.d (.val (.int .u16 (maskS (ptL s a.atoms (((i1:Nat):Int)).toNat ++ ((acL s (a.atoms.getD i1 (⟨0,0,0⟩:GAtom)))).take (j2+1)):Int)))))])/\(VC_partOf_5 s a i1)))) ((inK .i64 (((i1:Nat):Int)+(1:Int)))/\True/\(stV s=true/\asV a=true/\fctB s a.facts=true/\ptI s a.atoms (i1+1))/\(a.atoms.length - (i1+1) < a.atoms.length - i1)/\TT/\(VC_partOf_3 a)/\(([.s (.c (.d (.val (.int .i64 (((i1:Nat):Int)+(1:Int)))))),.s (.c (.d (.val (.int .u16 (maskS (ptL s a.atoms (((i1:Nat):Int)).toNat ++ ((acL s (a.atoms.getD i1 (⟨0,0,0⟩:GAtom)))).take j2):Int)))))]:List S)=[.s (.c (.d (.val (.int .i64 (((i1+1):Nat):Int))))),.s (.c (.d (.val (.int .u16 (maskS (ptL s a.atoms (i1+1)):Int)))))])/\(RM [some (.blk [.d (.arr .int s.vals),.d (.arr .int s.heap)])])/\(RM [])/\True/\TT))))
def VC_partOf (s:GState) (a:GAsn) (k:Nat):Prop:=TN/\TN/\True/\True/\True/\((s.vals.length<=281474976710656/\s.heap.length<=281474976710656)/\True/\True)/\True/\True/\(vcIf (!(stV s)) (True/\True/\(VC_partOf_2 s a)) (True/\((a.facts.length<=281474976710656/\a.atoms.length<=281474976710656)/\True/\True)/\True/\True/\True/\(vcIf (!(asV a)) (VC_partOf_2 s a) (True/\True/\True/\True/\((a.facts.length<=281474976710656/\s.vals.length<=281474976710656)/\True/\True)/\True/\True/\(vcIf (!(fsV a.facts && (s.vals.length == 8 && a.facts.all (holdF s.vals)))) (VC_partOf_1 s a) (True/\True/\True/\True/\True/\((stV s=true/\asV a=true/\fctB s a.facts=true/\ptI s a.atoms 0)/\TT/\(VC_partOf_3 a)/\(([.s (.c (.d (.val (.int .i64 (0:Int))))),.s (.c (.d (.val (.int .u16 (0:Int)))))]:List S)=[.s (.c (.d (.val (.int .i64 ((0:Nat):Int))))),.s (.c (.d (.val (.int .u16 (maskS (ptL s a.atoms 0):Int)))))])/\(RM [some (.blk [.d (.arr .int s.vals),.d (.arr .int s.heap)])])/\(RM [])/\True/\TT)/\(∀ i1:Nat,(stV s=true/\asV a=true/\fctB s a.facts=true/\ptI s a.atoms i1)->True/\(vcIf (decide (((i1:Nat):Int) < ((a.atoms.length:Nat):Int))) ((0<=((i1:Nat):Int)/\((i1:Nat):Int) < ((a.atoms.length:Nat):Int))/\True/\(TN/\True)/\(TF/\TF)/\True/\True/\((s.vals.length<=281474976710656/\s.heap.length<=281474976710656)/\True/\TN/\True)/\True/\True/\True/\True/\True/\True/\True/\(vcIf (!(acB s (a.atoms.getD i1 (⟨0,0,0⟩:GAtom)))) (VC_partOf_1 s a) (True/\True/\True/\(VC_partOf_6 s a i1)))) (True/\True/\True/\((((maskS (ptL s a.atoms i1):Int),true,()):Int × Bool × Unit)=(maskS (poL s a),poB s a,()))/\True/\True/\True/\True/\TF)))))))))
theorem vcn_partOf (s:GState) (a:GAsn) (k:Nat) (hp:s.vals.length<=281474976710656/\s.heap.length<=281474976710656/\a.facts.length<=281474976710656/\a.atoms.length<=281474976710656):VC_partOf s a k:=by
 unfold VC_partOf VC_partOf_6 VC_partOf_5 VC_partOf_4 VC_partOf_3 VC_partOf_2 VC_partOf_1
 simp only [cln,Nat.reduceEqDiff,Nat.reduceLeDiff,Nat.reduceAdd]
 all_goals (try simp only [opn])
 all_goals (repeat' (first | apply And.intro | intro _))
 all_goals (repeat (cases ‹_/\_›))
 all_goals (try have h7:=‹ptI _ _ _›)
 all_goals (first | omega | assumption | skip)
 all_goals (first
  | exact (po_q1 ‹_›).1 | exact (po_q1 ‹_›).2
  | exact (po_q2 ‹_›).1 | exact (po_q2 ‹_›).2
  | exact (po_q3 ‹_› ‹_› ‹_›).1 | exact (po_q3 ‹_› ‹_› ‹_›).2
  | exact ptI_zero | exact nw_zero | (rw [← fct_iff ‹_› ‹_›];assumption)
  | exact (po_q4 ‹_› ‹_› ‹_› h7 ‹_› ‹_›).1 | exact (po_q4 ‹_› ‹_› ‹_› h7 ‹_› ‹_›).2
  | exact (po_q5 ‹_› ‹_› ‹_› h7 ‹_› ‹_› ‹_›).1 | exact (po_q5 ‹_› ‹_› ‹_› h7 ‹_› ‹_› ‹_›).2
  | with_reducible exact (maskS_bd _).1 | with_reducible exact (maskS_bd _).2
  | exact po_g1 ‹_› ‹_› ‹_› ‹_›
  | exact po_g2 ‹_› ‹_›
  | exact (po_n ‹_› ‹_› h7 ‹_› ‹_› ‹_› ‹_› ‹_›).1
  | exact (po_n ‹_› ‹_› h7 ‹_› ‹_› ‹_› ‹_› ‹_›).2
  | exact (po_e ‹_› ‹_› ‹_› h7 ‹_›).1 | exact (po_e ‹_› ‹_› ‹_› h7 ‹_›).2
  | (have h:=isAd_iff.1 (ac_get ‹_› ‹_›);omega)
  | exact jb ‹_› | exact po_g1 ‹_› ‹_› ‹_› ‹_› _ ‹_›
  | (rw [List.take_zero,List.append_nil];done)
  | exact maskS_zero | exact maskS_zero.symm | rfl
  | skip)
theorem ok_partOf:FnOk Try.prog E 62 c_partOf :=
 fn_okQ (l:=L_partOf) (lp:=P_partOf) (hp:=fun _=>false) (gcs:=fun _=>none) (perm:=fun _=>[]) tabOk mix ⟨ok_iAssertionValid,ok_iStateValid,ok_iFactsHold,ok_iAtomCells,ok_csHas,trivial⟩ trivial Try.func62 rfl (by kernel_rfl) (by decide) (by kernel_rfl) (anns:=fun x _=>an_partOf x.1 x.2.1) (fun ⟨s,a,_⟩ k hp _=>Eq.mp (by kernel_rfl) (vcn_partOf s a k hp)) tot_fn
abbrev c_usedIn:Con:=⟨[.state],[.u16],fun (s,_)=>stV s=true,.inl fun (s,_)=>(maskS (usL s 8),()),fun _=>0⟩
abbrev L_usedIn:List (FuncId × Con):=[(121,c_allocated)]
abbrev P_usedIn:List (FuncId × PT):=[]
def an_usedIn (s:GState):Nat->St->Option Ann
 | 3,se=>some { α:=Nat,ok:=fun i=>i<=8,mu:=fun i=>8 - i,i0:=fun _=>0,nx:=fun a _=>(fun i=>i+1) a,live:=[1,2],sets:=fun i=>[(4,sv (.int .i64 ((i:Int)+1))),(3,sv (.int .u16 (maskS (usL s i))))],mids:=[31],blks:=fun i=>[],owns:=fun i=>[],rd:=fun r _=>r,base:=100000 }
 | _,_=>none
def VC_usedIn (s:GState) (k:Nat):Prop:=TN/\True/\True/\True/\((0<=8)/\TT/\(RL [.s (.c (.ptr 31 0)),.s (.c (.d (.val (.int .u16 (0:Int)))))])/\(([.s (.c (.d (.val (.int .i64 (1:Int))))),.s (.c (.d (.val (.int .u16 (0:Int)))))]:List S)=[.s (.c (.d (.val (.int .i64 ((0:Int)+1:Int))))),.s (.c (.d (.val (.int .u16 (maskS (usL s 0):Int)))))])/\(RM [some (.blk [.d (.arr .int s.vals),.d (.arr .int s.heap)])])/\(RM [])/\True/\TT)/\(∀ i1:Nat,(i1<=8)->True/\True/\(vcIf (decide (((i1:Int)+1:Int)<=(8:Int))) (True/\True/\((stV s=true)/\True/\True)/\(vcIf (al s ((i1:Int)+1:Int)) (True/\True/\(0<=((i1:Int)+1:Int))/\True/\True/\True/\(inK .i64 (((i1:Int)+1:Int)+(1:Int)))/\True/\((i1+1)<=8)/\(8 - (i1+1) < 8 - i1)/\TT/\(RL [.s (.c (.ptr 31 0)),.s (.c (.d (.val (.int .u16 (0:Int)))))])/\(([.s (.c (.d (.val (.int .i64 (((i1:Int)+1:Int)+(1:Int)))))),.s (.c (.d (.val (.int .u16 (bits .or .u16 (maskS (usL s i1):Int) (IntKind.wrap .u16 ((1:Int) * 2 ^ (min ((i1:Int)+1:Int).toNat (IntKind.bits .u16)))))))))]:List S)=[.s (.c (.d (.val (.int .i64 (((i1+1):Int)+1:Int))))),.s (.c (.d (.val (.int .u16 (maskS (usL s (i1+1)):Int)))))])/\(RM [some (.blk [.d (.arr .int s.vals),.d (.arr .int s.heap)])])/\(RM [])/\True/\TT) (True/\(inK .i64 (((i1:Int)+1:Int)+(1:Int)))/\True/\((i1+1)<=8)/\(8 - (i1+1) < 8 - i1)/\TT/\(RL [.s (.c (.ptr 31 0)),.s (.c (.d (.val (.int .u16 (0:Int)))))])/\(([.s (.c (.d (.val (.int .i64 (((i1:Int)+1:Int)+(1:Int)))))),.s (.c (.d (.val (.int .u16 (maskS (usL s i1):Int)))))]:List S)=[.s (.c (.d (.val (.int .i64 (((i1+1):Int)+1:Int))))),.s (.c (.d (.val (.int .u16 (maskS (usL s (i1+1)):Int)))))])/\(RM [some (.blk [.d (.arr .int s.vals),.d (.arr .int s.heap)])])/\(RM [])/\True/\TT))) (True/\True/\((((maskS (usL s i1):Int),()):Int × Unit)=(maskS (usL s 8),()))/\True/\True/\True/\True/\TF)))
theorem vcn_usedIn (s:GState) (k:Nat) (hp:stV s=true):VC_usedIn s k:=by
 unfold VC_usedIn
 simp only [cln,Nat.reduceEqDiff,Nat.reduceLeDiff,Nat.reduceAdd]
 all_goals (try simp only [opn])
 all_goals (repeat' (first | apply And.intro | intro _))
 all_goals (repeat (cases ‹_/\_›))
 all_goals (first | omega | rfl | assumption | (simp_all;done) | skip)
 all_goals (first | exact us1 ‹_› ‹_› | exact us2 ‹_› ‹_› | exact us3 ‹_› ‹_› | skip)
theorem ok_usedIn:FnOk Try.prog E 63 c_usedIn :=
 fn_okQ (l:=L_usedIn) (lp:=P_usedIn) (hp:=fun _=>false) (gcs:=fun _=>none) (perm:=fun _=>[]) tabOk mix ⟨ok_allocated,trivial⟩ trivial Try.func63 rfl (by kernel_rfl) (by decide) (by kernel_rfl) (anns:=fun x _=>an_usedIn x.1) (fun ⟨s,_⟩ k hp _=>Eq.mp (by kernel_rfl) (vcn_usedIn s k hp)) tot_fn
abbrev c_iHolds:Con:=⟨[.state,.asn],[.bool],fun (s,a,_)=>s.vals.length<=281474976710656/\s.heap.length<=281474976710656/\a.facts.length<=281474976710656/\a.atoms.length<=281474976710656,.inl fun (s,a,_)=>(HOL s a,()),fun _=>0⟩
abbrev L_iHolds:List (FuncId × Con):=[(62,c_partOf),(63,c_usedIn)]
abbrev P_iHolds:List (FuncId × PT):=[]
def VC_iHolds (s:GState) (a:GAsn) (k:Nat):Prop:=TN/\TN/\True/\True/\True/\((s.vals.length<=281474976710656/\s.heap.length<=281474976710656/\a.facts.length<=281474976710656/\a.atoms.length<=281474976710656)/\True/\True)/\True/\True/\True/\True/\True/\True/\True/\(vcIf (poB s a) (True/\True/\((stV s=true)/\True/\True)/\True/\True/\True/\((((maskS (poL s a)) == (maskS (usL s 8)),()):Bool × Unit)=(HOL s a,()))/\True/\True/\True/\True/\TF) (True/\True/\(((false,()):Bool × Unit)=(HOL s a,()))/\True/\True/\True/\True/\TF))
theorem vcn_iHolds (s:GState) (a:GAsn) (k:Nat) (hp:s.vals.length<=281474976710656/\s.heap.length<=281474976710656/\a.facts.length<=281474976710656/\a.atoms.length<=281474976710656):VC_iHolds s a k:=by
 unfold VC_iHolds
 simp only [cln,Nat.reduceEqDiff,Nat.reduceLeDiff,Nat.reduceAdd]
 all_goals (try simp only [opn])
 all_goals (repeat' (first | apply And.intro | intro _))
 all_goals (repeat (cases ‹_/\_›))
 all_goals (first | omega | rfl | assumption | (simp_all;done) | skip)
 all_goals (first | exact (po_v ‹_›).1 | exact hol_mask ‹_› | exact (hol_poF ‹_›).symm | skip)
theorem ok_iHolds:FnOk Try.prog E 21 c_iHolds :=
 fn_okQ (l:=L_iHolds) (lp:=P_iHolds) (hp:=fun _=>false) (gcs:=fun _=>none) (perm:=fun _=>[]) tabOk mix ⟨ok_partOf,ok_usedIn,trivial⟩ trivial Try.func21 rfl (by kernel_rfl) (by decide) (by kernel_rfl) (anns:=fun x _=>fun _ _=>none) (fun ⟨s,a,_⟩ k hp _=>Eq.mp (by kernel_rfl) (vcn_iHolds s a k hp)) tot_fn
abbrev c_l6Chains:Con:=⟨[.rdr],[.asn],fun _=>True,.inr fun (rr,_) r=>r.1.facts.length<=1/\r.1.atoms.length<=4,fun (rr,_)=>13⟩
abbrev L_l6Chains:List (FuncId × Con):=[(53,c_pick),(84,c_num)]
abbrev P_l6Chains:List (FuncId × PT):=[]
def an_l6Chains (rr:Unit):Nat->St->Option Ann
 | 4,se=>some { α:=Int × Int × List GAtom,ok:=fun p=>0<=p.2.1/\p.2.1+p.2.2.length<=4,mu:=fun p=>p.2.1.toNat,i0:=fun st=>(intAt st 4,intAt st 5,([]:List GAtom)),nx:=fun p st=>(intAt st 4,p.2.1 - 1,slAt .atom st (.cell 63 1)),live:=[0,2,3],sets:=fun p=>[(4,sv (.int .i64 p.1)),(5,sv (.int .i64 p.2.1))],mids:=[32,33,47],blks:=fun p=>[(63,.blk [.own 7,.own 8])],owns:=fun p=>[⟨7,.cell 63 0,.fact,([]:List GFact)⟩,⟨8,.cell 63 1,.atom,p.2.2⟩],rd:=fun r p=>rdPlus r (2 * (4 - p.2.1.toNat)),base:=100000 }
 | _,_=>none
def VC_l6Chains_1 :Prop:=0 < ([(1:Int),(2:Int),(5:Int)]:List Int).length/\([(1:Int),(2:Int),(5:Int)]:List Int).length<=1000
def VC_l6Chains_2 :Prop:=RM [some (.sl 32 .fact ([]:List GFact)),some (.sl 33 .atom ([]:List GAtom)),some (.blk [.own 32,.own 33])]
def VC_l6Chains_3 (r5:Int × Unit) (p3:Int × Int × List GAtom) (r4:Int × Unit) (k:Nat):Prop:=(True/\(vcIf (r5.1 == (0:Int)) (True/\(TF/\TF)/\True/\True/\True/\(TN/\True)/\(TN/\TF/\TF/\(p3.2.2.length+([(⟨(2:Int),(p3.1:Int),r4.1⟩:GAtom)]:List GAtom).length<=4294967296))/\True/\(TF/\TF)/\True/\True/\True/\True/\(inK .i64 ((p3.2.1:Int) - (1:Int)))/\True/\(0<=(r4.1,p3.2.1 - 1,(p3.2.2 ++ ([(⟨(2:Int),(p3.1:Int),r4.1⟩:GAtom)]:List GAtom))).2.1/\(r4.1,p3.2.1 - 1,(p3.2.2 ++ ([(⟨(2:Int),(p3.1:Int),r4.1⟩:GAtom)]:List GAtom))).2.1+(r4.1,p3.2.1 - 1,(p3.2.2 ++ ([(⟨(2:Int),(p3.1:Int),r4.1⟩:GAtom)]:List GAtom))).2.2.length<=4)/\((r4.1,p3.2.1 - 1,(p3.2.2 ++ ([(⟨(2:Int),(p3.1:Int),r4.1⟩:GAtom)]:List GAtom))).2.1.toNat < p3.2.1.toNat)/\TT/\(RL [.s (.c (.rdr)),.s (.c (.ptr 47 0)),.s (.c (.ptr 63 0))])/\(([.s (.c (.d (.val (.int .i64 r4.1)))),.s (.c (.d (.val (.int .i64 ((p3.2.1:Int) - (1:Int))))))]:List S)=[.s (.c (.d (.val (.int .i64 ((r4.1,p3.2.1 - 1,(p3.2.2 ++ ([(⟨(2:Int),(p3.1:Int),r4.1⟩:GAtom)]:List GAtom))).1:Int))))),.s (.c (.d (.val (.int .i64 ((r4.1,p3.2.1 - 1,(p3.2.2 ++ ([(⟨(2:Int),(p3.1:Int),r4.1⟩:GAtom)]:List GAtom))).2.1:Int)))))])/\VC_l6Chains_2/\(RM [some (.blk [.own 7,.own 100496])])/\(((some ([]:List GFact):Option (List GFact))=some ([]:List GFact))/\((some (p3.2.2 ++ ([(⟨(2:Int),(p3.1:Int),r4.1⟩:GAtom)]:List GAtom)):Option (List GAtom))=some ((r4.1,p3.2.1 - 1,(p3.2.2 ++ ([(⟨(2:Int),(p3.1:Int),r4.1⟩:GAtom)]:List GAtom))).2.2))/\True)/\(k+1+1+(2 * (4 - p3.2.1.toNat))+1+1<=k+1+1+(2 * (4 - (r4.1,p3.2.1 - 1,(p3.2.2 ++ ([(⟨(2:Int),(p3.1:Int),r4.1⟩:GAtom)]:List GAtom))).2.1.toNat))/\k+1+1+(2 * (4 - (r4.1,p3.2.1 - 1,(p3.2.2 ++ ([(⟨(2:Int),(p3.1:Int),r4.1⟩:GAtom)]:List GAtom))).2.1.toNat))<=1099511627776)) (True/\True/\True/\(TN/\True)/\(TN/\TF/\TF/\(p3.2.2.length+([(⟨(1:Int),(p3.1:Int),r4.1⟩:GAtom)]:List GAtom).length<=4294967296))/\True/\(TF/\TF)/\True/\True/\True/\True/\(inK .i64 ((p3.2.1:Int) - (1:Int)))/\True/\(0<=(r4.1,p3.2.1 - 1,(p3.2.2 ++ ([(⟨(1:Int),(p3.1:Int),r4.1⟩:GAtom)]:List GAtom))).2.1/\(r4.1,p3.2.1 - 1,(p3.2.2 ++ ([(⟨(1:Int),(p3.1:Int),r4.1⟩:GAtom)]:List GAtom))).2.1+(r4.1,p3.2.1 - 1,(p3.2.2 ++ ([(⟨(1:Int),(p3.1:Int),r4.1⟩:GAtom)]:List GAtom))).2.2.length<=4)/\((r4.1,p3.2.1 - 1,(p3.2.2 ++ ([(⟨(1:Int),(p3.1:Int),r4.1⟩:GAtom)]:List GAtom))).2.1.toNat < p3.2.1.toNat)/\TT/\(RL [.s (.c (.rdr)),.s (.c (.ptr 47 0)),.s (.c (.ptr 63 0))])/\(([.s (.c (.d (.val (.int .i64 r4.1)))),.s (.c (.d (.val (.int .i64 ((p3.2.1:Int) - (1:Int))))))]:List S)=[.s (.c (.d (.val (.int .i64 ((r4.1,p3.2.1 - 1,(p3.2.2 ++ ([(⟨(1:Int),(p3.1:Int),r4.1⟩:GAtom)]:List GAtom))).1:Int))))),.s (.c (.d (.val (.int .i64 ((r4.1,p3.2.1 - 1,(p3.2.2 ++ ([(⟨(1:Int),(p3.1:Int),r4.1⟩:GAtom)]:List GAtom))).2.1:Int)))))])/\VC_l6Chains_2/\(RM [some (.blk [.own 7,.own 100496])])/\(((some ([]:List GFact):Option (List GFact))=some ([]:List GFact))/\((some (p3.2.2 ++ ([(⟨(1:Int),(p3.1:Int),r4.1⟩:GAtom)]:List GAtom)):Option (List GAtom))=some ((r4.1,p3.2.1 - 1,(p3.2.2 ++ ([(⟨(1:Int),(p3.1:Int),r4.1⟩:GAtom)]:List GAtom))).2.2))/\True)/\(k+1+1+(2 * (4 - p3.2.1.toNat))+1+1<=k+1+1+(2 * (4 - (r4.1,p3.2.1 - 1,(p3.2.2 ++ ([(⟨(1:Int),(p3.1:Int),r4.1⟩:GAtom)]:List GAtom))).2.1.toNat))/\k+1+1+(2 * (4 - (r4.1,p3.2.1 - 1,(p3.2.2 ++ ([(⟨(1:Int),(p3.1:Int),r4.1⟩:GAtom)]:List GAtom))).2.1.toNat))<=1099511627776))))
def VC_l6Chains_4 (r1:Int × Unit) (r2:Int × Unit) (k:Nat):Prop:=(((0<=(r1.1,r2.1,([]:List GAtom)).2.1/\(r1.1,r2.1,([]:List GAtom)).2.1+(r1.1,r2.1,([]:List GAtom)).2.2.length<=4)/\TT/\(RL [.s (.c (.rdr)),.s (.c (.ptr 47 0)),.s (.c (.ptr 63 0))])/\(([.s (.c (.d (.val (.int .i64 r1.1)))),.s (.c (.d (.val (.int .i64 r2.1))))]:List S)=[.s (.c (.d (.val (.int .i64 ((r1.1,r2.1,([]:List GAtom)).1:Int))))),.s (.c (.d (.val (.int .i64 ((r1.1,r2.1,([]:List GAtom)).2.1:Int)))))])/\VC_l6Chains_2/\(RM [some (.blk [.own 112,.own 113])])/\(((some ([]:List GFact):Option (List GFact))=some ([]:List GFact))/\((some ([]:List GAtom):Option (List GAtom))=some ((r1.1,r2.1,([]:List GAtom)).2.2))/\True)/\(k+1+1<=k+1+1+(2 * (4 - (r1.1,r2.1,([]:List GAtom)).2.1.toNat))/\k+1+1+(2 * (4 - (r1.1,r2.1,([]:List GAtom)).2.1.toNat))<=1099511627776))/\(∀ p3:Int × Int × List GAtom,(0<=p3.2.1/\p3.2.1+p3.2.2.length<=4)->True/\True/\(vcIf (decide ((0:Int) < (p3.2.1:Int))) (True/\True/\(TN/\True)/\((0 < ([(2:Int),(5:Int),(0:Int),(3:Int),(6:Int),(1:Int)]:List Int).length/\([(2:Int),(5:Int),(0:Int),(3:Int),(6:Int),(1:Int)]:List Int).length<=1000)/\(k+1+1+(2 * (4 - p3.2.1.toNat))+1<=1099511627776)/\True)/\(∀ r4:Int × Unit,(r4.1 ∈ ([(2:Int),(5:Int),(0:Int),(3:Int),(6:Int),(1:Int)]:List Int))->True/\(TN/\True)/\(TF/\TF)/\True/\(True/\(k+1+1+(2 * (4 - p3.2.1.toNat))+1+1<=1099511627776)/\True)/\(∀ r5:Int × Unit,(pickP (2:Int) r5.1)->(VC_l6Chains_3 r5 p3 r4 k)))) (True/\(True/\(k+1+1+(2 * (4 - p3.2.1.toNat))+1<=1099511627776)/\True)/\(∀ r6:Int × Unit,(pickP (3:Int) r6.1)->True/\(vcIf (r6.1 == (0:Int)) (True/\True/\True/\(TN/\True)/\(VC_l6Chains_1/\(k+1+1+(2 * (4 - p3.2.1.toNat))+1+1<=1099511627776)/\True)/\(∀ r7:Int × Unit,(r7.1 ∈ ([(1:Int),(2:Int),(5:Int)]:List Int))->True/\(TN/\True)/\((0 < ([(0:Int),(2:Int),(3:Int),(5:Int)]:List Int).length/\([(0:Int),(2:Int),(3:Int),(5:Int)]:List Int).length<=1000)/\(k+1+1+(2 * (4 - p3.2.1.toNat))+1+1+1<=1099511627776)/\True)/\(∀ r8:Int × Unit,(r8.1 ∈ ([(0:Int),(2:Int),(3:Int),(5:Int)]:List Int))->True/\(TN/\True)/\(TN/\TF/\TF/\(([]:List GFact).length+([(⟨false,r7.1,r8.1⟩:GFact)]:List GFact).length<=4294967296))/\True/\(TF/\TF)/\True/\(TF/\TF)/\((⟨([]:List GFact) ++ ([(⟨false,r7.1,r8.1⟩:GFact)]:List GFact),p3.2.2⟩:GAsn).facts.length<=1/\(⟨([]:List GFact) ++ ([(⟨false,r7.1,r8.1⟩:GFact)]:List GFact),p3.2.2⟩:GAsn).atoms.length<=4)/\((((100768:Nat) ≠ 8)/\True)/\True/\True)/\((TF/\TF)/\(TF/\TF)/\True)/\True/\(True/\True/\True)/\(k+1+1+(2 * (4 - p3.2.1.toNat))+1+1+1<=k+13)))) (True/\(TF/\TF)/\((⟨([]:List GFact),p3.2.2⟩:GAsn).facts.length<=1/\(⟨([]:List GFact),p3.2.2⟩:GAsn).atoms.length<=4)/\((((7:Nat) ≠ 8)/\True)/\True/\True)/\((TF/\TF)/\(TF/\TF)/\True)/\True/\(True/\True/\True)/\(k+1+1+(2 * (4 - p3.2.1.toNat))+1<=k+13))))))))
def VC_l6Chains (rr:Unit) (k:Nat):Prop:=(TN/\TN/\TN/\True)/\(TN/\TN/\True)/\(TN/\TN/\TN/\True)/\(TF/\TF)/\True/\(TN/\True)/\(VC_l6Chains_1/\(k+1<=1099511627776)/\True)/\(∀ r1:Int × Unit,(r1.1 ∈ ([(1:Int),(2:Int),(5:Int)]:List Int))->True/\True/\(TN/\True)/\((0 < ([(2:Int),(3:Int),(1:Int),(4:Int)]:List Int).length/\([(2:Int),(3:Int),(1:Int),(4:Int)]:List Int).length<=1000)/\(k+1+1<=1099511627776)/\True)/\(∀ r2:Int × Unit,(r2.1 ∈ ([(2:Int),(3:Int),(1:Int),(4:Int)]:List Int))->True/\(VC_l6Chains_4 r1 r2 k)))
theorem vcn_l6Chains (rr:Unit) (k:Nat) (hk:k+(13)<=1099511627776):VC_l6Chains rr k:=by
 unfold VC_l6Chains VC_l6Chains_4 VC_l6Chains_3 VC_l6Chains_2 VC_l6Chains_1
 simp only [cln,Nat.reduceEqDiff,Nat.reduceLeDiff,Nat.reduceAdd]
 all_goals (try simp only [opn])
 all_goals (repeat' (first | apply And.intro | intro _))
 all_goals (repeat (cases ‹_/\_›))
 all_goals (first | (exfalso;contradiction) | omega | with_reducible assumption | with_reducible rfl | skip)
 all_goals (try simp only [List.length_append,List.length_cons,List.length_nil,List.length_set,List.length_take,List.length_drop,List.mem_cons,List.mem_nil_iff,or_false] at *)
 all_goals (first
  | omega
  | (rcases ‹_ ∨ _› with h | h | h | h <;> omega)
  | exact Nat.le_trans fcL_len.1 ‹_› | exact Nat.le_trans fcL_len.2 ‹_›
  | grind [asV,fsV])
theorem ok_l6Chains:FnOk Try.prog E 76 c_l6Chains :=
 fn_okQ (l:=L_l6Chains) (lp:=P_l6Chains) (hp:=fun _=>false) (gcs:=fun _=>none) (perm:=fun _=>[]) tabOk mix ⟨ok_pick,ok_num,trivial⟩ trivial Try.func76 rfl (by kernel_rfl) (by decide) (by kernel_rfl) (anns:=fun x _=>an_l6Chains x.1) (fun ⟨rr,_⟩ k _ hk=>Eq.mp (by kernel_rfl) (vcn_l6Chains rr k (hk rfl))) (fun _ _=>⟨((⟨[],[]⟩:GAsn),()),⟨Nat.zero_le _,Nat.zero_le _⟩⟩)
abbrev c_l1Is:Con:=⟨[.int],[.bool],fun _=>True,.inl fun (t,_)=>(isT t,()),fun _=>0⟩
abbrev L_l1Is:List (FuncId × Con):=[]
abbrev P_l1Is:List (FuncId × PT):=[]
def VC_l1Is (t:Int) (k:Nat):Prop:=True/\True/\True/\True/\(vcIf (decide ((0:Int)<=t)) (True/\True/\True/\True/\(((decide (t<=(8:Int)),()):Bool × Unit)=(isT t,()))/\True/\True/\True/\True/\TF) (True/\True/\(((false,()):Bool × Unit)=(isT t,()))/\True/\True/\True/\True/\TF))
theorem vcn_l1Is (t:Int) (k:Nat):VC_l1Is t k:=by
 unfold VC_l1Is
 simp only [cln,Nat.reduceEqDiff,Nat.reduceLeDiff,Nat.reduceAdd]
 cases h:decide (0<=t) <;> simp [vcIf,isT,h]
theorem ok_l1Is:FnOk Try.prog E 140 c_l1Is :=
 fn_okQ (l:=L_l1Is) (lp:=P_l1Is) (hp:=fun _=>false) (gcs:=fun _=>none) (perm:=fun _=>[]) tabOk mix trivial trivial Try.func140 rfl (by kernel_rfl) (by decide) (by kernel_rfl) (anns:=fun x _=>fun _ _=>none) (fun ⟨t,_⟩ k _ _=>Eq.mp (by kernel_rfl) (vcn_l1Is t k)) tot_fn
abbrev c_l3Atom:Con:=⟨[.atom],[.bool],fun _=>True,.inl fun (x,_)=>(atV x,()),fun _=>0⟩
abbrev L_l3Atom:List (FuncId × Con):=[(140,c_l1Is)]
abbrev P_l3Atom:List (FuncId × PT):=[]
def VC_l3Atom_1 (x:GAtom):Prop:=True/\True/\(((false,()):Bool × Unit)=(atV x,()))/\True/\True/\True/\True/\TF
def VC_l3Atom_2 (x:GAtom):Prop:=True/\True/\(True/\True/\True)/\True/\True/\(vcIf (isT x.a) (True/\True/\(True/\True/\True)/\True/\True/\((((isT x.b),()):Bool × Unit)=(atV x,()))/\True/\True/\True/\True/\TF) (VC_l3Atom_1 x))
def VC_l3Atom (x:GAtom) (k:Nat):Prop:=TN/\True/\True/\True/\True/\True/\(vcIf (x.kind == (1:Int)) (True/\True/\(VC_l3Atom_2 x)) (True/\True/\True/\True/\True/\(vcIf (x.kind == (2:Int)) (VC_l3Atom_2 x) (True/\True/\(VC_l3Atom_1 x)))))
theorem vcn_l3Atom (x:GAtom) (k:Nat):VC_l3Atom x k:=by
 unfold VC_l3Atom VC_l3Atom_2 VC_l3Atom_1
 simp only [cln,Nat.reduceEqDiff,Nat.reduceLeDiff,Nat.reduceAdd]
 all_goals (try simp only [opn])
 all_goals (repeat' (first | apply And.intro | intro _))
 all_goals (first | omega | (simp_all;done) | grind [atV])
theorem ok_l3Atom:FnOk Try.prog E 111 c_l3Atom :=
 fn_okQ (l:=L_l3Atom) (lp:=P_l3Atom) (hp:=fun _=>false) (gcs:=fun _=>none) (perm:=fun _=>[]) tabOk mix ⟨ok_l1Is,trivial⟩ trivial Try.func111 rfl (by kernel_rfl) (by decide) (by kernel_rfl) (anns:=fun x _=>fun _ _=>none) (fun ⟨x,_⟩ k _ _=>Eq.mp (by kernel_rfl) (vcn_l3Atom x k)) tot_fn
abbrev c_sFactValid:Con:=⟨[.fact],[.bool],fun _=>True,.inl fun (f,_)=>(fV f,()),fun _=>0⟩
abbrev L_sFactValid:List (FuncId × Con):=[(140,c_l1Is)]
abbrev P_sFactValid:List (FuncId × PT):=[]
def VC_sFactValid (f:GFact) (k:Nat):Prop:=TN/\True/\True/\True/\(True/\True/\True)/\True/\(vcIf (isT f.a) (True/\True/\(True/\True/\True)/\True/\True/\((((isT f.b),()):Bool × Unit)=(fV f,()))/\True/\True/\True/\True/\TF) (True/\True/\(((false,()):Bool × Unit)=(fV f,()))/\True/\True/\True/\True/\TF))
theorem vcn_sFactValid (f:GFact) (k:Nat):VC_sFactValid f k:=by
 unfold VC_sFactValid
 simp only [cln,Nat.reduceEqDiff,Nat.reduceLeDiff,Nat.reduceAdd]
 cases h:isT f.a <;> simp [vcIf,fV,h]
theorem ok_sFactValid:FnOk Try.prog E 91 c_sFactValid :=
 fn_okQ (l:=L_sFactValid) (lp:=P_sFactValid) (hp:=fun _=>false) (gcs:=fun _=>none) (perm:=fun _=>[]) tabOk mix ⟨ok_l1Is,trivial⟩ trivial Try.func91 rfl (by kernel_rfl) (by decide) (by kernel_rfl) (anns:=fun x _=>fun _ _=>none) (fun ⟨f,_⟩ k _ _=>Eq.mp (by kernel_rfl) (vcn_sFactValid f k)) tot_fn
abbrev c_sFactsValid:Con:=⟨[.sl .fact],[.bool],fun (l,_)=>l.length<=281474976710656,.inl fun (l,_)=>(fsV l,()),fun _=>0⟩
abbrev L_sFactsValid:List (FuncId × Con):=[(91,c_sFactValid)]
abbrev P_sFactsValid:List (FuncId × PT):=[]
def an_sFactsValid (l:List GFact):Nat->St->Option Ann
 | 2,se=>some { α:=Nat,ok:=fun i=>i<=l.length/\(l.take i).all fV=true,mu:=fun i=>l.length - i,i0:=fun _=>0,nx:=fun a _=>(fun i=>i+1) a,live:=[0],sets:=fun i=>[(3,sv (.int .i64 i))],mids:=[],blks:=fun i=>[],owns:=fun i=>[],rd:=fun r _=>r,base:=100000 }
 | _,_=>none
def VC_sFactsValid (l:List GFact) (k:Nat):Prop:=True/\True/\((0<=l.length/\(l.take 0).all fV=true)/\TT/\(RL [.s (.c (.d (.arr .fact l)))])/\(([.s (.c (.d (.val (.int .i64 (0:Int)))))]:List S)=[.s (.c (.d (.val (.int .i64 ((0:Nat):Int)))))])/\(RM [])/\(RM [])/\True/\TT)/\(∀ i1:Nat,(i1<=l.length/\(l.take i1).all fV=true)->True/\True/\True/\True/\(vcIf (decide (((i1:Nat):Int) < ((l.length:Nat):Int))) (True/\True/\(0<=((i1:Nat):Int)/\((i1:Nat):Int) < ((l.length:Nat):Int))/\True/\(True/\True/\True)/\True/\(vcIf (!(fV (l.getD i1 (⟨false,0,0⟩:GFact)))) (True/\(((false,()):Bool × Unit)=(fsV l,()))/\True/\True/\True/\True/\TF) (True/\(inK .i64 (((i1:Nat):Int)+(1:Int)))/\True/\((i1+1)<=l.length/\(l.take (i1+1)).all fV=true)/\(l.length - (i1+1) < l.length - i1)/\TT/\(RL [.s (.c (.d (.arr .fact l)))])/\(([.s (.c (.d (.val (.int .i64 (((i1:Nat):Int)+(1:Int))))))]:List S)=[.s (.c (.d (.val (.int .i64 (((i1+1):Nat):Int)))))])/\(RM [])/\(RM [])/\True/\TT))) (True/\True/\True/\True/\(((decide (((l.length:Nat):Int)<=(12:Int)),()):Bool × Unit)=(fsV l,()))/\True/\True/\True/\True/\TF)))
theorem vcn_sFactsValid (l:List GFact) (k:Nat) (hp:l.length<=281474976710656):VC_sFactsValid l k:=by
 unfold VC_sFactsValid
 simp only [cln,Nat.reduceEqDiff,Nat.reduceLeDiff,Nat.reduceAdd]
 all_goals (try simp only [opn])
 all_goals (repeat' (first | apply And.intro | intro _))
 all_goals (first | omega | (simp_all;done) | grind [fsV,take_all,all_take,take_full,Ty.zero])
theorem ok_sFactsValid:FnOk Try.prog E 112 c_sFactsValid :=
 fn_okQ (l:=L_sFactsValid) (lp:=P_sFactsValid) (hp:=fun _=>false) (gcs:=fun _=>none) (perm:=fun _=>[]) tabOk mix ⟨ok_sFactValid,trivial⟩ trivial Try.func112 rfl (by kernel_rfl) (by decide) (by kernel_rfl) (anns:=fun x _=>an_sFactsValid x.1) (fun ⟨l,_⟩ k hp _=>Eq.mp (by kernel_rfl) (vcn_sFactsValid l k hp)) tot_fn
abbrev c_sAssertionValid:Con:=⟨[.asn],[.bool],fun (a,_)=>a.facts.length<=281474976710656/\a.atoms.length<=281474976710656,.inl fun (a,_)=>(asV a,()),fun _=>0⟩
abbrev L_sAssertionValid:List (FuncId × Con):=[(111,c_l3Atom),(112,c_sFactsValid)]
abbrev P_sAssertionValid:List (FuncId × PT):=[]
def an_sAssertionValid (a:GAsn):Nat->St->Option Ann
 | 2,se=>some { α:=Nat,ok:=fun i=>i<=a.atoms.length/\(a.atoms.take i).all atV=true,mu:=fun i=>a.atoms.length - i,i0:=fun _=>0,nx:=fun a _=>(fun i=>i+1) a,live:=[1],sets:=fun i=>[(3,sv (.int .i64 i))],mids:=[31],blks:=fun i=>[],owns:=fun i=>[],rd:=fun r _=>r,base:=100000 }
 | _,_=>none
def VC_sAssertionValid_1 (a:GAsn):Prop:=(RM [some (.blk [.d (.arr .fact a.facts),.d (.arr .atom a.atoms)])])/\(RM [])/\True/\TT
def VC_sAssertionValid_2 (a:GAsn):Prop:=True/\(((false,()):Bool × Unit)=(asV a,()))/\True/\True/\True/\True/\TF
def VC_sAssertionValid (a:GAsn) (k:Nat):Prop:=TN/\True/\True/\((0<=a.atoms.length/\(a.atoms.take 0).all atV=true)/\TT/\(RL [.s (.c (.ptr 31 0))])/\(([.s (.c (.d (.val (.int .i64 (0:Int)))))]:List S)=[.s (.c (.d (.val (.int .i64 ((0:Nat):Int)))))])/\(VC_sAssertionValid_1 a))/\(∀ i1:Nat,(i1<=a.atoms.length/\(a.atoms.take i1).all atV=true)->True/\True/\True/\True/\True/\(vcIf (decide (((i1:Nat):Int) < ((a.atoms.length:Nat):Int))) (True/\True/\True/\(0<=((i1:Nat):Int)/\((i1:Nat):Int) < ((a.atoms.length:Nat):Int))/\True/\(True/\True/\True)/\True/\(vcIf (!(atV (a.atoms.getD i1 (⟨0,0,0⟩:GAtom)))) (VC_sAssertionValid_2 a) (True/\(inK .i64 (((i1:Nat):Int)+(1:Int)))/\True/\((i1+1)<=a.atoms.length/\(a.atoms.take (i1+1)).all atV=true)/\(a.atoms.length - (i1+1) < a.atoms.length - i1)/\TT/\(RL [.s (.c (.ptr 31 0))])/\(([.s (.c (.d (.val (.int .i64 (((i1:Nat):Int)+(1:Int))))))]:List S)=[.s (.c (.d (.val (.int .i64 (((i1+1):Nat):Int)))))])/\(VC_sAssertionValid_1 a)))) (True/\True/\((a.facts.length<=281474976710656)/\True/\True)/\True/\(vcIf (fsV a.facts) (True/\True/\True/\True/\True/\True/\(((decide (((a.atoms.length:Nat):Int)<=(6:Int)),()):Bool × Unit)=(asV a,()))/\True/\True/\True/\True/\TF) (True/\(VC_sAssertionValid_2 a))))))
theorem vcn_sAssertionValid (a:GAsn) (k:Nat) (hp:a.facts.length<=281474976710656/\a.atoms.length<=281474976710656):VC_sAssertionValid a k:=by
 unfold VC_sAssertionValid VC_sAssertionValid_2 VC_sAssertionValid_1
 simp only [cln,Nat.reduceEqDiff,Nat.reduceLeDiff,Nat.reduceAdd]
 all_goals (try simp only [opn])
 all_goals (repeat' (first | apply And.intro | intro _))
 all_goals (first | omega | (simp_all;done) | grind [asV,take_all,all_take,take_full,Ty.zero])
theorem ok_sAssertionValid:FnOk Try.prog E 56 c_sAssertionValid :=
 fn_okQ (l:=L_sAssertionValid) (lp:=P_sAssertionValid) (hp:=fun _=>false) (gcs:=fun _=>none) (perm:=fun _=>[]) tabOk mix ⟨ok_l3Atom,ok_sFactsValid,trivial⟩ trivial Try.func56 rfl (by kernel_rfl) (by decide) (by kernel_rfl) (anns:=fun x _=>an_sAssertionValid x.1) (fun ⟨a,_⟩ k hp _=>Eq.mp (by kernel_rfl) (vcn_sAssertionValid a k hp)) tot_fn
end Go.Proofs.Ytfoioficiffgkaa
