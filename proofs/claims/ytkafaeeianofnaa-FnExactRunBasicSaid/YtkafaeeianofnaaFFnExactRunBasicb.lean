/-
  Contracts of single functions of the program, each shown by the engine: what a call returns for arguments within the contract's bounds.
-/
import Derived.Test.YtkafaeeianofnaaFFnExactRunBasica
import Derived.Test.YtkafaeeianofnaaEd
import Derived.Test.YtkafaeeianofnaaEc
import Derived.Test.YtkafaeeianofnaaEe
set_option linter.unusedSimpArgs false
set_option linter.unusedVariables false
set_option linter.unusedSectionVars false

namespace Go.Proofs.Ytkafaeeianofnaa
open Go.SE Go.RowKit
variable [Base]
set_option linter.unusedSectionVars false
set_option linter.unusedSimpArgs false
set_option linter.unusedVariables false
set_option maxHeartbeats 1000000
set_option maxRecDepth 100000
abbrev c_iRunBasic:Con:=⟨[.state,.cmd],[.state,.int],fun (s,c,_)=>s.vals.length<=1048576/\s.heap.length<=1048576/\BdC c,.inl fun (s,c,_)=>(rbS s c,rbK s c,()),fun _=>0⟩
abbrev L_iRunBasic:List (FuncId × Con):=[(31,c_iStateValid),(58,c_isBasic),(59,c_fieldsValid),(60,c_copyState)]
abbrev P_iRunBasic:List (FuncId × PT):=[(61,pt_mbasic)]
def hp_iRunBasic:Nat->Bool
 | 4=>true
 | _=>false
def VC_iRunBasic_1 (s:GState) (c:GCmd):Prop:=(TN/\TN/\True)/\(TF/\TF)/\True/\((((⟨([]:List Int),([]:List Int)⟩:GState),(4:Int),()):GState × Int × Unit)=(rbS s c,rbK s c,()))/\((((336:Nat) ≠ 337)/\True)/\True/\True)/\((TF/\TF)/\(TF/\TF)/\True)/\True/\(True/\True/\True)/\TF
def VC_iRunBasic_2 (s:GState) (c:GCmd):Prop:=True/\(VC_iRunBasic_1 s c)
def VC_iRunBasic_3 :Prop:=((((464:Nat) ≠ 465)/\True)/\True/\True)/\((TF/\TF)/\(TF/\TF)/\True)/\True/\(True/\True/\True)/\TF
def VC_iRunBasic_4 (s:GState) (c:GCmd):Prop:=(TN/\TN/\True)/\True/\(TF/\TF)/\True/\((((⟨([]:List Int),([]:List Int)⟩:GState),(0:Int),()):GState × Int × Unit)=(rbS s c,rbK s c,()))/\VC_iRunBasic_3
def VC_iRunBasic_5 :Prop:=((((368:Nat) ≠ 369)/\True)/\True/\True)/\((TF/\TF)/\(TF/\TF)/\True)/\True/\(True/\True/\True)/\TF
def VC_iRunBasic_6 (s:GState) (c:GCmd):Prop:=True/\True/\(TF/\TF)/\True/\(((s,(0:Int),()):GState × Int × Unit)=(rbS s c,rbK s c,()))/\VC_iRunBasic_5
def VC_iRunBasic_7 (s:GState) (c:GCmd):Prop:=True/\True/\True/\True/\(vcIf ((1:Int) != (0:Int)) ((TN/\TN/\True)/\True/\(TF/\TF)/\True/\((((⟨([]:List Int),([]:List Int)⟩:GState),(1:Int),()):GState × Int × Unit)=(rbS s c,rbK s c,()))/\VC_iRunBasic_3) (VC_iRunBasic_6 s c))
def VC_iRunBasic_8 (s:GState) (c:GCmd):Prop:=0<=((tv s.vals c.a) - (1:Int))/\((tv s.vals c.a) - (1:Int)) < ((s.heap.length:Nat):Int)
def VC_iRunBasic_9 (c:GCmd) (s:GState):Prop:=(True/\(vcIf (c.kind == (2:Int)) (True/\True/\True/\True/\True/\((stV s=true)/\True/\True)/\True/\(vcIf (!(al s (tv s.vals c.b))) (VC_iRunBasic_7 s c) (True/\True/\True/\True/\True/\True/\True/\(inK .i64 (c.a - (1:Int)))/\True/\True/\True/\True/\True/\((stV s=true)/\True/\True)/\(0<=(c.a - (1:Int))/\(c.a - (1:Int)) < ((s.vals.length:Nat):Int))/\(TF/\TF/\True/\((368:Nat) ∉ ([]:List Nat)))/\True/\True/\True/\True/\(vcIf ((0:Int) != (0:Int)) (VC_iRunBasic_4 s c) (True/\True/\(TF/\TF)/\True/\((((⟨s.vals.set (c.a - (1:Int)).toNat (ct s (tv s.vals c.b)),s.heap⟩:GState),(0:Int),()):GState × Int × Unit)=(rbS s c,rbK s c,()))/\VC_iRunBasic_5))))) (True/\True/\(vcIf (c.kind == (3:Int)) (True/\True/\True/\True/\True/\((stV s=true)/\True/\True)/\True/\(vcIf (!(al s (tv s.vals c.a))) (VC_iRunBasic_7 s c) (True/\True/\True/\True/\True/\True/\(inK .i64 ((tv s.vals c.a) - (1:Int)))/\True/\(VC_iRunBasic_8 s c)/\(TF/\TF/\True/\((369:Nat) ∉ ([]:List Nat)))/\True/\True/\True/\True/\(vcIf ((0:Int) != (0:Int)) (VC_iRunBasic_4 s c) (True/\True/\(TF/\TF)/\True/\((((⟨s.vals,s.heap.set ((tv s.vals c.a) - (1:Int)).toNat (tv s.vals c.b)⟩:GState),(0:Int),()):GState × Int × Unit)=(rbS s c,rbK s c,()))/\VC_iRunBasic_5))))) (True/\True/\(vcIf (c.kind == (4:Int)) (True/\True/\True/\True/\((s.vals.length<=1048576/\s.heap.length<=1048576)/\True/\TN/\TN/\True)/\True/\True/\True/\True/\(TN/\TN/\TN/\True)/\(TF/\TF)/\True/\True/\True/\True/\(vcIf (!(!(qcV s == 0))) (True/\True/\True/\True/\(vcIf ((2:Int) != (0:Int)) ((TN/\TN/\True)/\True/\(TF/\TF)/\True/\((((⟨([]:List Int),([]:List Int)⟩:GState),(2:Int),()):GState × Int × Unit)=(rbS s c,rbK s c,()))/\VC_iRunBasic_3) (VC_iRunBasic_6 s c))) (True/\True/\True/\True/\(TF/\TF)/\True/\True/\True/\True/\True/\True/\True/\(inK .i64 (c.a - (1:Int)))/\True/\(0<=(c.a - (1:Int))/\(c.a - (1:Int)) < ((((qcS s).vals).length:Nat):Int))/\(TF/\TF/\True/\((443792:Nat) ∉ ([]:List Nat)))/\True/\True/\True/\True/\(vcIf ((0:Int) != (0:Int)) (VC_iRunBasic_4 s c) (True/\True/\(TF/\TF)/\True/\((((⟨((qcS s).vals).set (c.a - (1:Int)).toNat (qcV s),(qcS s).heap⟩:GState),(0:Int),()):GState × Int × Unit)=(rbS s c,rbK s c,()))/\((((443792:Nat) ≠ 443793)/\True)/\True/\True)/\((TF/\TF)/\(TF/\TF)/\True)/\True/\(True/\True/\True)/\TF))))) (True/\True/\(vcIf (c.kind == (5:Int)) (True/\True/\True/\True/\True/\((stV s=true)/\True/\True)/\True/\(vcIf (!(al s (tv s.vals c.a))) (VC_iRunBasic_7 s c) (True/\True/\True/\True/\True/\True/\(inK .i64 ((tv s.vals c.a) - (1:Int)))/\(VC_iRunBasic_8 s c)/\(TF/\TF/\True/\((369:Nat) ∉ ([]:List Nat)))/\True/\True/\True/\True/\(vcIf ((0:Int) != (0:Int)) (VC_iRunBasic_4 s c) (True/\True/\(TF/\TF)/\True/\((((⟨s.vals,s.heap.set ((tv s.vals c.a) - (1:Int)).toNat (-1:Int)⟩:GState),(0:Int),()):GState × Int × Unit)=(rbS s c,rbK s c,()))/\VC_iRunBasic_5))))) (True/\True/\True/\True/\(vcIf ((0:Int) != (0:Int)) (VC_iRunBasic_4 s c) (VC_iRunBasic_6 s c)))))))))))
def VC_iRunBasic (s:GState) (c:GCmd) (k:Nat):Prop:=TN/\TN/\(TN/\TN/\TN/\True)/\True/\True/\((s.vals.length<=281474976710656/\s.heap.length<=281474976710656)/\True/\True)/\True/\True/\(vcIf (!(stV s)) (True/\True/\(VC_iRunBasic_2 s c)) (True/\(True/\True/\True)/\True/\True/\True/\(vcIf (!(decide (1<=(GCmd.mk c.kind c.a c.b c.test c.inv c.body c.els).kind) && decide ((GCmd.mk c.kind c.a c.b c.test c.inv c.body c.els).kind<=5))) (VC_iRunBasic_2 s c) (True/\((BdC (GCmd.mk c.kind c.a c.b c.test c.inv c.body c.els))/\True/\True)/\True/\True/\(vcIf (!(fokC (GCmd.mk c.kind c.a c.b c.test c.inv c.body c.els))) (VC_iRunBasic_1 s c) (True/\((s.vals.length<=1048576/\s.heap.length<=1048576)/\True/\TN/\TN/\True)/\(TN/\TN/\True)/\(TN/\TN/\TN/\True)/\(TF/\TF)/\True/\((2:Nat)<=126)/\TN/\True/\True/\True/\True/\True/\True/\True/\True/\((s.vals.length=8/\isT c.a=true)/\True/\True)/\True/\True/\True/\True/\True/\True/\True/\((s.vals.length=8/\isT c.b=true)/\True/\True)/\True/\True/\True/\True/\True/\True/\(vcIf (c.kind == (1:Int)) (True/\True/\True/\True/\True/\True/\True/\(inK .i64 (c.a - (1:Int)))/\True/\(0<=(c.a - (1:Int))/\(c.a - (1:Int)) < ((s.vals.length:Nat):Int))/\(TF/\TF/\True/\((368:Nat) ∉ ([]:List Nat)))/\True/\True/\True/\True/\(vcIf ((0:Int) != (0:Int)) (VC_iRunBasic_4 s c) (True/\True/\(TF/\TF)/\True/\((((⟨s.vals.set (c.a - (1:Int)).toNat (tv s.vals c.b),s.heap⟩:GState),(0:Int),()):GState × Int × Unit)=(rbS s c,rbK s c,()))/\VC_iRunBasic_5))) (True/\(VC_iRunBasic_9 c s)))))))))
theorem vcn_iRunBasic (s:GState) (c:GCmd) (k:Nat) (hp:s.vals.length<=1048576/\s.heap.length<=1048576/\BdC c):VC_iRunBasic s c k:=by
 unfold VC_iRunBasic VC_iRunBasic_9 VC_iRunBasic_8 VC_iRunBasic_7 VC_iRunBasic_6 VC_iRunBasic_5 VC_iRunBasic_4 VC_iRunBasic_3 VC_iRunBasic_2 VC_iRunBasic_1
 simp only [cln,Nat.reduceEqDiff,Nat.reduceLeDiff,Nat.reduceAdd,GCmd.eta]
 have hL:=fun h=>stV_lens (s:=s) h
 have hA:=fun (n:Int) h=>al_in (s:=s) (n:=n) h
 have hV:=qcV_rng s
 have hW:=basic_iff c
 have hF:=fun h=>fok_of (c:=c) h
 have hOk:(decide (1<=c.kind) && decide (c.kind<=5))=true->fokC c=true->fokB c=true:=fun h1 h2=>by rw [← hW,h1,h2];rfl
 have hNo1:(decide (1<=c.kind) && decide (c.kind<=5))=false->fokB c=false:=fun h1=>by rw [← hW,h1];rfl
 have hNo2:fokC c=false->fokB c=false:=fun h1=>by rw [← hW,h1,Bool.and_false]
 have hR0:fokB c=false->rbS s c=⟨[],[]⟩/\rbK s c=4:=fun h=>by simp [rbS,rbK,rbOk,h]
 have hR1:stV s=false->rbS s c=⟨[],[]⟩/\rbK s c=4:=fun h=>by simp [rbS,rbK,rbOk,h]
 have hR2:stV s=true->fokB c=true->rbS s c=bR s c/\rbK s c=bK s c:=fun h1 h2=>by simp [rbS,rbK,rbOk,h1,h2]
 all_goals (try simp only [vcIf_iff,decide_eq_true_eq,decide_eq_false_iff_not,bne_iff_ne,ne_eq,beq_iff_eq,beq_eq_false_iff_ne,bne_eq_false_iff_eq,Bool.not_eq_true',Bool.not_eq_false',Int.ofNat_lt,Int.natCast_inj])
 all_goals (repeat' (first | apply And.intro | intro _))
 all_goals (repeat (cases ‹_/\_›))
 all_goals (first | omega | with_reducible assumption | with_reducible rfl | (exfalso;simp at *;done) | skip)
 all_goals (first | with_reducible exact (hR1 ‹_›).1.symm | with_reducible exact (hR1 ‹_›).2.symm | with_reducible exact (hR0 (hNo1 ‹_›)).1.symm | with_reducible exact (hR0 (hNo1 ‹_›)).2.symm | with_reducible exact (hR0 (hNo2 ‹_›)).1.symm | with_reducible exact (hR0 (hNo2 ‹_›)).2.symm | skip)
 all_goals (have hok:=hOk ‹_› ‹_›)
 all_goals (obtain ⟨hk,ha,hb,hpv⟩:=hF hok)
 all_goals (obtain ⟨hl1,hl2⟩:=hL ‹_›)
 all_goals (obtain ⟨hr1,hr2⟩:=hR2 ‹_› hok)
 all_goals (try rw [hr1])
 all_goals (try rw [hr2])
 all_goals (clear hOk hNo1 hNo2 hR0 hR1 hR2 hW hF hL hr1 hr2)
 all_goals (first | omega | with_reducible assumption | skip)
 all_goals (first
  | (have h1:=hA _ ‹_›;omega)
  | (simp [bR,bK,bS, *];done)
  | (have h1:=(hA _ ‹_›).2.2;simp [bR,bK,bS, *];done)
  | (simp [bR,bK,bS,qcS, *];done)
  | (simp [qcS, *];omega)
  | skip)
theorem ok_iRunBasic:FnOk Try.prog E 28 c_iRunBasic :=
 fn_okQ (l:=L_iRunBasic) (lp:=P_iRunBasic) (hp:=hp_iRunBasic) (gcs:=fun _=>none) (perm:=fun _=>[]) tabOk mix ⟨ok_iStateValid,ok_isBasic,ok_fieldsValid,ok_copyState,trivial⟩ ⟨ptok_mbasic,trivial⟩ Try.func28 rfl (by kernel_rfl) (by decide) (by kernel_rfl) (anns:=fun x _=>fun _ _=>none) (fun ⟨s,c,_⟩ k hp _=>Eq.mp (by kernel_rfl) (vcn_iRunBasic s c k hp)) tot_fn
abbrev c_l2Addr:Con:=⟨[.int],[.bool],fun _=>True,.inl fun (t,_)=>(isT t,()),fun _=>0⟩
abbrev L_l2Addr:List (FuncId × Con):=[]
abbrev P_l2Addr:List (FuncId × PT):=[]
def VC_l2Addr (t:Int) (k:Nat):Prop:=True/\True/\True/\True/\(vcIf (decide ((0:Int)<=t)) (True/\True/\True/\True/\(((decide (t<=(8:Int)),()):Bool × Unit)=(isT t,()))/\True/\True/\True/\True/\TF) (True/\True/\(((false,()):Bool × Unit)=(isT t,()))/\True/\True/\True/\True/\TF))
theorem vcn_l2Addr (t:Int) (k:Nat):VC_l2Addr t k:=by
 unfold VC_l2Addr
 simp only [cln,Nat.reduceEqDiff,Nat.reduceLeDiff,Nat.reduceAdd]
 cases h:decide (0<=t) <;> simp [vcIf,isT,h]
theorem ok_l2Addr:FnOk Try.prog E 102 c_l2Addr :=
 fn_okQ (l:=L_l2Addr) (lp:=P_l2Addr) (hp:=fun _=>false) (gcs:=fun _=>none) (perm:=fun _=>[]) tabOk mix trivial trivial Try.func102 rfl (by kernel_rfl) (by decide) (by kernel_rfl) (anns:=fun x _=>fun _ _=>none) (fun ⟨t,_⟩ k _ _=>Eq.mp (by kernel_rfl) (vcn_l2Addr t k)) tot_fn
abbrev c_sStateValid:Con:=⟨[.state],[.bool],fun (s,_)=>s.vals.length<=281474976710656/\s.heap.length<=281474976710656,.inl fun (s,_)=>(stV s,()),fun _=>0⟩
abbrev L_sStateValid:List (FuncId × Con):=[(102,c_l2Addr)]
abbrev P_sStateValid:List (FuncId × PT):=[]
def an_sStateValid (s:GState):Nat->St->Option Ann
 | 2,se=>some { α:=Nat,ok:=fun i=>i<=s.vals.length/\(s.vals.take i).all isT=true,mu:=fun i=>s.vals.length - i,i0:=fun _=>0,nx:=fun a _=>(fun i=>i+1) a,live:=[1],sets:=fun i=>[(3,sv (.int .i64 i))],mids:=[31],blks:=fun i=>[],owns:=fun i=>[],rd:=fun r _=>r,base:=100000 }
 | 7,se=>some { α:=Nat,ok:=fun i=>i<=s.heap.length/\s.vals.all isT=true/\(s.heap.take i).all hv=true,mu:=fun i=>s.heap.length - i,i0:=fun _=>0,nx:=fun a _=>(fun i=>i+1) a,live:=[1],sets:=fun i=>[(4,sv (.int .i64 i))],mids:=[31],blks:=fun i=>[],owns:=fun i=>[],rd:=fun r _=>r,base:=200000 }
 | _,_=>none
def VC_sStateValid_1 (s:GState):Prop:=TT/\(RL [.s (.c (.ptr 31 0))])/\(([.s (.c (.d (.val (.int .i64 (0:Int)))))]:List S)=[.s (.c (.d (.val (.int .i64 ((0:Nat):Int)))))])/\(RM [some (.blk [.d (.arr .int s.vals),.d (.arr .int s.heap)])])/\(RM [])/\True/\TT
def VC_sStateValid_2 (s:GState):Prop:=True/\(((false,()):Bool × Unit)=(stV s,()))/\True/\True/\True/\True/\TF
def VC_sStateValid_3 (i1:Nat) (s:GState):Prop:=TT/\(RL [.s (.c (.ptr 31 0))])/\(([.s (.c (.d (.val (.int .i64 (((i1:Nat):Int)+(1:Int))))))]:List S)=[.s (.c (.d (.val (.int .i64 (((i1+1):Nat):Int)))))])/\(RM [some (.blk [.d (.arr .int s.vals),.d (.arr .int s.heap)])])/\(RM [])/\True/\TT
def VC_sStateValid_4 (i2:Nat) (s:GState):Prop:=True/\(inK .i64 (((i2:Nat):Int)+(1:Int)))/\True/\((i2+1)<=s.heap.length/\s.vals.all isT=true/\(s.heap.take (i2+1)).all hv=true)/\(s.heap.length - (i2+1) < s.heap.length - i2)/\(VC_sStateValid_3 i2 s)
def VC_sStateValid (s:GState) (k:Nat):Prop:=TN/\True/\True/\((0<=s.vals.length/\(s.vals.take 0).all isT=true)/\(VC_sStateValid_1 s))/\(∀ i1:Nat,(i1<=s.vals.length/\(s.vals.take i1).all isT=true)->True/\True/\True/\True/\True/\(vcIf (decide (((i1:Nat):Int) < ((s.vals.length:Nat):Int))) (True/\True/\True/\(0<=((i1:Nat):Int)/\((i1:Nat):Int) < ((s.vals.length:Nat):Int))/\True/\(True/\True/\True)/\True/\(vcIf (!(isT (s.vals.getD i1 (0:Int)))) (VC_sStateValid_2 s) (True/\(inK .i64 (((i1:Nat):Int)+(1:Int)))/\True/\((i1+1)<=s.vals.length/\(s.vals.take (i1+1)).all isT=true)/\(s.vals.length - (i1+1) < s.vals.length - i1)/\(VC_sStateValid_3 i1 s)))) (True/\((0<=s.heap.length/\s.vals.all isT=true/\(s.heap.take 0).all hv=true)/\(VC_sStateValid_1 s))/\(∀ i2:Nat,(i2<=s.heap.length/\s.vals.all isT=true/\(s.heap.take i2).all hv=true)->True/\True/\True/\True/\True/\(vcIf (decide (((i2:Nat):Int) < ((s.heap.length:Nat):Int))) (True/\True/\True/\(0<=((i2:Nat):Int)/\((i2:Nat):Int) < ((s.heap.length:Nat):Int))/\True/\True/\True/\(vcIf ((s.heap.getD i2 (0:Int)) != (-1:Int)) (True/\True/\True/\(0<=((i2:Nat):Int)/\((i2:Nat):Int) < ((s.heap.length:Nat):Int))/\True/\(True/\True/\True)/\True/\True/\(vcIf (!(isT (s.heap.getD i2 (0:Int)))) (VC_sStateValid_2 s) (VC_sStateValid_4 i2 s))) (True/\(VC_sStateValid_4 i2 s)))) (True/\True/\True/\True/\True/\(vcIf (((s.vals.length:Nat):Int) == (8:Int)) (True/\True/\True/\True/\True/\True/\(((((s.heap.length:Nat):Int) == (8:Int),()):Bool × Unit)=(stV s,()))/\True/\True/\True/\True/\TF) (True/\(VC_sStateValid_2 s)))))))))
theorem vcn_sStateValid (s:GState) (k:Nat) (hp:s.vals.length<=281474976710656/\s.heap.length<=281474976710656):VC_sStateValid s k:=by
 unfold VC_sStateValid VC_sStateValid_4 VC_sStateValid_3 VC_sStateValid_2 VC_sStateValid_1
 simp only [cln,Nat.reduceEqDiff,Nat.reduceLeDiff,Nat.reduceAdd]
 all_goals (try simp only [opn])
 all_goals (repeat' (first | apply And.intro | intro _))
 all_goals (first | omega | (simp_all;done) | grind [stV,hv,take_all,all_take,take_full])
theorem ok_sStateValid:FnOk Try.prog E 62 c_sStateValid :=
 fn_okQ (l:=L_sStateValid) (lp:=P_sStateValid) (hp:=fun _=>false) (gcs:=fun _=>none) (perm:=fun _=>[]) tabOk mix ⟨ok_l2Addr,trivial⟩ trivial Try.func62 rfl (by kernel_rfl) (by decide) (by kernel_rfl) (anns:=fun x _=>an_sStateValid x.1) (fun ⟨s,_⟩ k hp _=>Eq.mp (by kernel_rfl) (vcn_sStateValid s k hp)) tot_fn
abbrev c_l8NoInv:Con:=⟨[.asn],[.bool],fun (a,_)=>a.facts.length<=281474976710656/\a.atoms.length<=281474976710656,.inl fun (a,_)=>(noA a,()),fun _=>0⟩
abbrev L_l8NoInv:List (FuncId × Con):=[]
abbrev P_l8NoInv:List (FuncId × PT):=[]
def VC_l8NoInv (a:GAsn) (k:Nat):Prop:=TN/\True/\True/\True/\True/\True/\True/\(vcIf (((a.facts.length:Nat):Int) == (0:Int)) (True/\True/\True/\True/\True/\True/\(((((a.atoms.length:Nat):Int) == (0:Int),()):Bool × Unit)=(noA a,()))/\True/\True/\True/\True/\TF) (True/\True/\(((false,()):Bool × Unit)=(noA a,()))/\True/\True/\True/\True/\TF))
theorem vcn_l8NoInv (a:GAsn) (k:Nat) (hp:a.facts.length<=281474976710656/\a.atoms.length<=281474976710656):VC_l8NoInv a k:=by
 unfold VC_l8NoInv
 simp only [cln,Nat.reduceEqDiff,Nat.reduceLeDiff,Nat.reduceAdd]
 all_goals (try simp only [vcIf_iff,decide_eq_true_eq,decide_eq_false_iff_not,bne_iff_ne,ne_eq,beq_iff_eq,beq_eq_false_iff_ne,bne_eq_false_iff_eq,Bool.not_eq_true',Bool.not_eq_false',Int.ofNat_lt,Int.natCast_inj])
 all_goals (repeat' (first | apply And.intro | intro _))
 all_goals (repeat (cases ‹_/\_›))
 all_goals (first | omega | (simp_all;done) | grind [pvV,noA,fokC,fokB,prV,cvB,cvN] | skip)
theorem ok_l8NoInv:FnOk Try.prog E 84 c_l8NoInv :=
 fn_okQ (l:=L_l8NoInv) (lp:=P_l8NoInv) (hp:=fun _=>false) (gcs:=fun _=>none) (perm:=fun _=>[]) tabOk mix trivial trivial Try.func84 rfl (by kernel_rfl) (by decide) (by kernel_rfl) (anns:=fun x _=>fun _ _=>none) (fun ⟨a,_⟩ k hp _=>Eq.mp (by kernel_rfl) (vcn_l8NoInv a k hp)) tot_fn
abbrev c_l8NoFact:Con:=⟨[.fact],[.bool],fun _=>True,.inl fun (f,_)=>(decide (f=⟨false,0,0⟩),()),fun _=>0⟩
abbrev L_l8NoFact:List (FuncId × Con):=[]
abbrev P_l8NoFact:List (FuncId × PT):=[]
def VC_l8NoFact (f:GFact) (k:Nat):Prop:=TN/\True/\True/\True/\True/\True/\((((f.eq == false) && ((f.a == (0:Int)) && ((f.b == (0:Int)) && true)),()):Bool × Unit)=(decide (f=⟨false,0,0⟩),()))/\True/\True/\True/\True/\TF
theorem vcn_l8NoFact (f:GFact) (k:Nat):VC_l8NoFact f k:=by
 unfold VC_l8NoFact
 simp only [cln,Nat.reduceEqDiff,Nat.reduceLeDiff,Nat.reduceAdd]
 exact (gf_zero' f).symm
theorem ok_l8NoFact:FnOk Try.prog E 103 c_l8NoFact :=
 fn_okQ (l:=L_l8NoFact) (lp:=P_l8NoFact) (hp:=fun _=>false) (gcs:=fun _=>none) (perm:=fun _=>[]) tabOk mix trivial trivial Try.func103 rfl (by kernel_rfl) (by decide) (by kernel_rfl) (anns:=fun x _=>fun _ _=>none) (fun ⟨f,_⟩ k _ _=>Eq.mp (by kernel_rfl) (vcn_l8NoFact f k)) tot_fn
abbrev c_l8Prog:Con:=⟨[.int],[.bool],fun _=>True,.inl fun (t,_)=>(pvV t,()),fun _=>0⟩
abbrev L_l8Prog:List (FuncId × Con):=[]
abbrev P_l8Prog:List (FuncId × PT):=[]
def VC_l8Prog (t:Int) (k:Nat):Prop:=True/\True/\True/\True/\(vcIf (decide ((1:Int)<=t)) (True/\True/\True/\True/\(((decide (t<=(4:Int)),()):Bool × Unit)=(pvV t,()))/\True/\True/\True/\True/\TF) (True/\True/\(((false,()):Bool × Unit)=(pvV t,()))/\True/\True/\True/\True/\TF))
theorem vcn_l8Prog (t:Int) (k:Nat):VC_l8Prog t k:=by
 unfold VC_l8Prog
 simp only [cln,Nat.reduceEqDiff,Nat.reduceLeDiff,Nat.reduceAdd]
 all_goals (try simp only [vcIf_iff,decide_eq_true_eq,decide_eq_false_iff_not,bne_iff_ne,ne_eq,beq_iff_eq,beq_eq_false_iff_ne,bne_eq_false_iff_eq,Bool.not_eq_true',Bool.not_eq_false',Int.ofNat_lt,Int.natCast_inj])
 all_goals (repeat' (first | apply And.intro | intro _))
 all_goals (repeat (cases ‹_/\_›))
 all_goals (first | omega | (simp_all;done) | grind [pvV,noA,fokC,fokB,prV,cvB,cvN] | skip)
theorem ok_l8Prog:FnOk Try.prog E 104 c_l8Prog :=
 fn_okQ (l:=L_l8Prog) (lp:=P_l8Prog) (hp:=fun _=>false) (gcs:=fun _=>none) (perm:=fun _=>[]) tabOk mix trivial trivial Try.func104 rfl (by kernel_rfl) (by decide) (by kernel_rfl) (anns:=fun x _=>fun _ _=>none) (fun ⟨t,_⟩ k _ _=>Eq.mp (by kernel_rfl) (vcn_l8Prog t k)) tot_fn
abbrev c_l1Is:Con:=⟨[.int],[.bool],fun _=>True,.inl fun (t,_)=>(isT t,()),fun _=>0⟩
abbrev L_l1Is:List (FuncId × Con):=[]
abbrev P_l1Is:List (FuncId × PT):=[]
def VC_l1Is (t:Int) (k:Nat):Prop:=True/\True/\True/\True/\(vcIf (decide ((0:Int)<=t)) (True/\True/\True/\True/\(((decide (t<=(8:Int)),()):Bool × Unit)=(isT t,()))/\True/\True/\True/\True/\TF) (True/\True/\(((false,()):Bool × Unit)=(isT t,()))/\True/\True/\True/\True/\TF))
theorem vcn_l1Is (t:Int) (k:Nat):VC_l1Is t k:=by
 unfold VC_l1Is
 simp only [cln,Nat.reduceEqDiff,Nat.reduceLeDiff,Nat.reduceAdd]
 cases h:decide (0<=t) <;> simp [vcIf,isT,h]
theorem ok_l1Is:FnOk Try.prog E 105 c_l1Is :=
 fn_okQ (l:=L_l1Is) (lp:=P_l1Is) (hp:=fun _=>false) (gcs:=fun _=>none) (perm:=fun _=>[]) tabOk mix trivial trivial Try.func105 rfl (by kernel_rfl) (by decide) (by kernel_rfl) (anns:=fun x _=>fun _ _=>none) (fun ⟨t,_⟩ k _ _=>Eq.mp (by kernel_rfl) (vcn_l1Is t k)) tot_fn
abbrev c_l8Basic:Con:=⟨[.cmd],[.bool],fun (c,_)=>BdC c,.inl fun (c,_)=>(fokB c,()),fun _=>0⟩
abbrev L_l8Basic:List (FuncId × Con):=[(84,c_l8NoInv),(103,c_l8NoFact),(104,c_l8Prog),(105,c_l1Is)]
abbrev P_l8Basic:List (FuncId × PT):=[]
def VC_l8Basic_1 (c:GCmd):Prop:=True/\(((false,()):Bool × Unit)=(fokB c,()))/\True/\True/\True/\True/\TF
def VC_l8Basic_2 (c:GCmd):Prop:=True/\(VC_l8Basic_1 c)
def VC_l8Basic_3 (c:GCmd):Prop:=True/\True/\(VC_l8Basic_2 c)
def VC_l8Basic_4 (c:GCmd):Prop:=True/\True/\(True/\True/\True)/\True/\True/\((((isT c.b),()):Bool × Unit)=(fokB c,()))/\True/\True/\True/\True/\TF
def VC_l8Basic_5 (c:GCmd):Prop:=True/\True/\(True/\True/\True)/\True/\(vcIf (pvV c.a) (VC_l8Basic_4 c) (VC_l8Basic_2 c))
def VC_l8Basic_6 (c:GCmd):Prop:=True/\True/\True/\True/\True/\(((c.b == (0:Int),()):Bool × Unit)=(fokB c,()))/\True/\True/\True/\True/\TF
def VC_l8Basic_7 (c:GCmd):Prop:=True/\True/\(vcIf (c.kind == (3:Int)) (True/\True/\(True/\True/\True)/\True/\(vcIf (isT c.a) (VC_l8Basic_4 c) (VC_l8Basic_2 c))) (True/\True/\(vcIf (c.kind == (4:Int)) (True/\True/\(True/\True/\True)/\True/\(vcIf (pvV c.a) (VC_l8Basic_6 c) (VC_l8Basic_2 c))) (True/\True/\(vcIf (c.kind == (5:Int)) (True/\True/\(True/\True/\True)/\True/\(vcIf (isT c.a) (VC_l8Basic_6 c) (VC_l8Basic_2 c))) (VC_l8Basic_1 c))))))
def VC_l8Basic (c:GCmd) (k:Nat):Prop:=TN/\True/\True/\True/\(True/\True/\True)/\True/\True/\(vcIf (!(decide (c.test=⟨false,0,0⟩))) (True/\True/\(VC_l8Basic_3 c)) (True/\True/\((c.inv.facts.length<=281474976710656/\c.inv.atoms.length<=281474976710656)/\True/\True)/\True/\True/\True/\(vcIf (!(noA c.inv)) (VC_l8Basic_3 c) (True/\True/\True/\True/\True/\True/\(vcIf (decide ((0:Int) < ((c.body.length:Nat):Int))) (VC_l8Basic_2 c) (True/\True/\True/\True/\True/\(vcIf (decide ((0:Int) < ((c.els.length:Nat):Int))) (VC_l8Basic_1 c) (True/\True/\True/\True/\(vcIf (c.kind == (1:Int)) (vcIf (c.kind == (1:Int)) (VC_l8Basic_5 c) (VC_l8Basic_7 c)) (True/\True/\(vcIf (c.kind == (2:Int)) (VC_l8Basic_5 c) (VC_l8Basic_7 c))))))))))))
theorem vcn_l8Basic (c:GCmd) (k:Nat) (hp:BdC c):VC_l8Basic c k:=by
 unfold VC_l8Basic VC_l8Basic_7 VC_l8Basic_6 VC_l8Basic_5 VC_l8Basic_4 VC_l8Basic_3 VC_l8Basic_2 VC_l8Basic_1
 simp only [cln,Nat.reduceEqDiff,Nat.reduceLeDiff,Nat.reduceAdd,GCmd.eta]
 have b1:=hp.f
 have b2:=hp.a
 all_goals (try simp only [vcIf_iff,decide_eq_true_eq,decide_eq_false_iff_not,bne_iff_ne,ne_eq,beq_iff_eq,beq_eq_false_iff_ne,bne_eq_false_iff_eq,Bool.not_eq_true',Bool.not_eq_false',Int.ofNat_lt,Int.natCast_inj])
 all_goals (repeat' (first | apply And.intro | intro _))
 all_goals (repeat (cases ‹_/\_›))
 all_goals (first | omega | (simp_all;done) | grind [pvV,noA,fokC,fokB,prV,cvB,cvN] | skip)
theorem ok_l8Basic:FnOk Try.prog E 63 c_l8Basic :=
 fn_okQ (l:=L_l8Basic) (lp:=P_l8Basic) (hp:=fun _=>false) (gcs:=fun _=>none) (perm:=fun _=>[]) tabOk mix ⟨ok_l8NoInv,ok_l8NoFact,ok_l8Prog,ok_l1Is,trivial⟩ trivial Try.func63 rfl (by kernel_rfl) (by decide) (by kernel_rfl) (anns:=fun x _=>fun _ _=>none) (fun ⟨c,_⟩ k hp _=>Eq.mp (by kernel_rfl) (vcn_l8Basic c k hp)) tot_fn
abbrev c_l2Copy:Con:=⟨[.state],[.state],fun (s,_)=>s.vals.length<=1048576/\s.heap.length<=1048576,.inl fun (s,_)=>(s,()),fun _=>0⟩
abbrev L_l2Copy:List (FuncId × Con):=[]
theorem vc_l2Copy (s:GState) (k:Nat) (hp:s.vals.length<=1048576/\s.heap.length<=1048576):vc tab (lookF L_l2Copy) (fun _=>none) (fun _=>[]) (bodyOf Try.f90) (entry (encs c_l2Copy.aks (s,())) (rdOf false k)) (retOk tab c_l2Copy Try.f90.results.toList (s,()) k):=by
 dsimp only [bodyOf,Try.f90,rdOf]
 simp (maxSteps:=10000000) only [c_l2Copy,L_l2Copy,SE.lookF,tab2,tab3,tab4,tab5,tab7,tab9,tab12,tab13,tab21,tab22,tab23,tab28,tab35,tab40,tab41,tab42,tab43,tab44,tab45,tab46,tab47,tab48,tab49,tab56,tab57,tab58,tab59,tab60,tab61,tab62,tab63,tab77,tab78,tab79,tab81,tab82,tab83,tab89,tab90,tab94,tab102,tab103,tab113,tab114,tab118,tab119,tab122,tab145,tab156,tab168,SE.entry,SE.envOf,SE.rdOf,Option.get_some,SE.vc,SE.vcReg,SE.vcLoop,SE.condK,SE.seqK,SE.blockK,SE.vcOps,SE.vcStep,SE.vcOp,SE.vcTr,SE.vcDet_some,SE.vcDet_none,SE.vcIf_true,SE.vcIf_false,SE.vcEach,SE.pickOps,SE.gslot,SE.trOp,SE.moveId,SE.trMove,SE.trPick,SE.trAlloc,SE.trBox,SE.trBuild,SE.trBuildSlice,SE.trLoad,SE.trStore,SE.trNilCheck,SE.trBin,SE.trUn,SE.trConvert,SE.trFieldAddr,SE.trField,SE.trIndexAddr,SE.trIndex,SE.trSlice,SE.trMakeSlice,SE.trExtract,SE.trLen,SE.trAppend,SE.trCopy,SE.trFn,SE.trCall,SE.argsS,SE.ev,SE.constS,SE.junk,SE.sv,SE.upd_app,SE.adds,SE.sets,SE.nid,SE.St.app,SE.St.put,SE.free,SE.freeL,SE.allFree,SE.rids,SE.AK.rids,SE.castL,SE.rdl,SE.AK.dec,SE.decs,SE.AK.enc,SE.encs,SE.AK.res,SE.ress,SE.pack1,SE.zcells,SE.zeroOf,SE.partCells,SE.putc,SE.fills,SE.datas,SE.ownDC,SE.wkDC,SE.wkS,SE.xfix,SE.tightM,SE.rdn,SE.rdnC,SE.elemOf,SE.elemsOf,SE.elemX,SE.zeroC,SE.notSpent,SE.cellsAt,SE.weak,SE.dcellsAt,SE.slAt,SE.rdPlus,SE.intAt,SE.updElem,SE.kill,SE.noJunk,SE.inK,SE.binI,SE.shf,SE.isShift,SE.eqCells,SE.aggS,SE.intOp,SE.nested,SE.hasRdr,SE.refsC,SE.refsCs,SE.ownsC,SE.refsAr,SE.rdFits,SE.costIf,SE.Con.post,SE.Con.det,SE.Ty.cells,SE.Ty.sz,SE.Ty.zero,SE.Ty.flat,SE.Ty.dec,SE.retOk,SE.loadsS,SE.loadS,SE.decRs,SE.decR,SE.outC,SE.rdC,SE.allDiff,SE.notIn,SE.notFrozen,SE.apartL,SE.rdEnd,SE.firstReg,SE.headC,SE.fitsC,SE.idsC,SE.keepE,SE.keepM,SE.keepB,SE.inL,SE.puts,SE.ownRes,SE.ownEnv,SE.renL,SE.srcId,SE.lookR,SE.envSame,SE.envSets,SE.memSame,SE.memBlks,SE.memOwns,SE.famsOf,SE.allIn,SE.closedE,SE.closedV,SE.closedM,SE.closedR,SE.rdLe,SE.S.refs,SE.S0.refs,SE.CV.refs,SE.refsL,SE.refsT,SE.S.ren,SE.S0.ren,SE.CV.ren,SE.Res.refs,SE.Res.ren,min_i64,max_i64,min_u16,max_u16,min_u8,max_u8,min_u64,max_u64,S.s.injEq,S0.c.injEq,CV.d.injEq,DC.val.injEq,Value.int.injEq,Value.bool.injEq,Value.string.injEq,eta_fact,eta_atom,eta_asn,eta_state,List.mem_cons,List.mem_nil_iff,or_false,false_or,or_true,true_or,List.map_cons,List.map_nil,Option.map_some,Option.map_none,Option.bind_some,Option.getD_some,Option.getD_none,Nat.reduceEqDiff,Nat.reduceAdd,Nat.reduceMul,Nat.reduceLeDiff,↓reduceIte,reduceCtorEq,true_and,and_true,and_self,forall_const,implies_true,true_implies,List.getElem?_toArray,List.getElem?_cons_succ,List.getElem?_cons_zero,List.append_nil,List.nil_append,List.cons_append,List.length_cons,List.length_nil,List.take_succ_cons,List.take_zero,List.drop_succ_cons,List.drop_zero,List.set_cons_zero,List.set_cons_succ,List.map_cons,List.map_nil,Nat.add_zero,Nat.zero_add,forall_eq,Prod.forall,Bool.not_true,Bool.not_false,Nat.lt_irrefl,Nat.zero_lt_succ,List.singleton_append,Prod.mk.injEq,Nat.zero_mul,Nat.one_mul,Nat.reducePow,Option.some.injEq,not_false_eq_true,Int.toNat_natCast,Nat.sub_zero,Nat.le_refl,Bool.or_false,Bool.false_or,Bool.or_true,Bool.true_or,Bool.and_true,Bool.true_and,Bool.and_false,Bool.false_and,Bool.or_self,Bool.and_self,List.append_eq,and_false,false_and]
 all_goals (try simp only [vcIf_iff,decide_eq_true_eq,decide_eq_false_iff_not,bne_iff_ne,ne_eq,beq_iff_eq,beq_eq_false_iff_ne,bne_eq_false_iff_eq,Bool.not_eq_true',Bool.not_eq_false',Int.ofNat_lt,Int.natCast_inj])
 all_goals (repeat' (first | apply And.intro | intro _))
 all_goals (first | omega | (simp_all;done) | grind [])
theorem ok_l2Copy:FnOk Try.prog E 90 c_l2Copy :=
 fn_ok (l:=L_l2Copy) (perm:=fun _=>[]) tabOk mix trivial Try.func90 rfl (by kernel_rfl) (by decide) (by kernel_rfl) (anns:=fun x _=>fun _=>none) (fun ⟨s,_⟩ k hp _=>vc_l2Copy s k hp) tot_fn
abbrev c_l1Value:Con:=⟨[.sl .int,.int],[.int],fun (l,t,_)=>l.length=8/\isT t=true,.inl fun (l,t,_)=>(tv l t,()),fun _=>0⟩
abbrev L_l1Value:List (FuncId × Con):=[]
abbrev P_l1Value:List (FuncId × PT):=[]
def VC_l1Value (l:List Int) (t:Int) (k:Nat):Prop:=True/\True/\True/\(vcIf (t == (0:Int)) (True/\((((0:Int),()):Int × Unit)=(tv l t,()))/\True/\True/\True/\True/\TF) (True/\True/\(inK .i64 (t - (1:Int)))/\(0<=(t - (1:Int))/\(t - (1:Int)) < ((l.length:Nat):Int))/\True/\True/\((((l.getD (t - (1:Int)).toNat (0:Int)),()):Int × Unit)=(tv l t,()))/\True/\True/\True/\True/\TF))
theorem vcn_l1Value (l:List Int) (t:Int) (k:Nat) (hp:l.length=8/\isT t=true):VC_l1Value l t k:=by
 unfold VC_l1Value
 simp only [cln,Nat.reduceEqDiff,Nat.reduceLeDiff,Nat.reduceAdd]
 have h:=isT_iff.1 hp.2
 by_cases h0:t=0 <;> simp [vcIf,tv,h0,inK_i64] <;> omega
theorem ok_l1Value:FnOk Try.prog E 106 c_l1Value :=
 fn_okQ (l:=L_l1Value) (lp:=P_l1Value) (hp:=fun _=>false) (gcs:=fun _=>none) (perm:=fun _=>[]) tabOk mix trivial trivial Try.func106 rfl (by kernel_rfl) (by decide) (by kernel_rfl) (anns:=fun x _=>fun _ _=>none) (fun ⟨l,t,_⟩ k hp _=>Eq.mp (by kernel_rfl) (vcn_l1Value l t k hp)) tot_fn
abbrev c_l2Has:Con:=⟨[.state,.int],[.bool],fun (s,n,_)=>stV s=true,.inl fun (s,n,_)=>(al s n,()),fun _=>0⟩
abbrev L_l2Has:List (FuncId × Con):=[]
abbrev P_l2Has:List (FuncId × PT):=[]
def VC_l2Has_1 (s:GState) (n:Int):Prop:=True/\True/\(((false,()):Bool × Unit)=(al s n,()))/\True/\True/\True/\True/\TF
def VC_l2Has (s:GState) (n:Int) (k:Nat):Prop:=TN/\True/\True/\True/\True/\(vcIf (decide ((1:Int)<=n)) (True/\True/\True/\True/\(vcIf (decide (n<=(8:Int))) (True/\True/\True/\(inK .i64 (n - (1:Int)))/\(0<=(n - (1:Int))/\(n - (1:Int)) < ((s.heap.length:Nat):Int))/\True/\True/\True/\True/\(((decide ((0:Int)<=(s.heap.getD (n - (1:Int)).toNat (0:Int))),()):Bool × Unit)=(al s n,()))/\True/\True/\True/\True/\TF) (VC_l2Has_1 s n))) (True/\True/\(VC_l2Has_1 s n)))
theorem vcn_l2Has (s:GState) (n:Int) (k:Nat) (hp:stV s=true):VC_l2Has s n k:=by
 unfold VC_l2Has VC_l2Has_1
 simp only [cln,Nat.reduceEqDiff,Nat.reduceLeDiff,Nat.reduceAdd]
 all_goals (try simp only [opn])
 all_goals (repeat' (first | apply And.intro | intro _))
 all_goals (repeat (cases ‹_/\_›))
 all_goals (first | omega | rfl | assumption | (simp_all;done) | skip)
 all_goals (try have h2:=stV_all hp)
 all_goals (first | omega | exact al_yes ‹_› ‹_› | exact al_no (by omega) | skip)
theorem ok_l2Has:FnOk Try.prog E 107 c_l2Has :=
 fn_okQ (l:=L_l2Has) (lp:=P_l2Has) (hp:=fun _=>false) (gcs:=fun _=>none) (perm:=fun _=>[]) tabOk mix trivial trivial Try.func107 rfl (by kernel_rfl) (by decide) (by kernel_rfl) (anns:=fun x _=>fun _ _=>none) (fun ⟨s,n,_⟩ k hp _=>Eq.mp (by kernel_rfl) (vcn_l2Has s n k hp)) tot_fn
abbrev c_sAllocCell:Con:=⟨[.state],[.state,.int,.bool],fun (s,_)=>s.vals.length<=1048576/\s.heap.length<=1048576,.inl fun (s,_)=>(qcS s,qcV s,!(qcV s == 0),()),fun _=>0⟩
abbrev L_sAllocCell:List (FuncId × Con):=[(62,c_sStateValid),(90,c_l2Copy),(107,c_l2Has)]
abbrev P_sAllocCell:List (FuncId × PT):=[]
def an_sAllocCell (s:GState):Nat->St->Option Ann
 | 2,se=>some { α:=Nat,ok:=fun i=>1<=i/\i<=9/\(i=1 ∨ stV s=true)/\qcI s (9 - i)=qcI s 8,mu:=fun i=>9 - i,i0:=fun _=>1,nx:=fun a _=>(fun i=>i+1) a,live:=[1,2],sets:=fun i=>[(5,sv (.int .i64 i))],mids:=[31,32,33,47],blks:=fun i=>[],owns:=fun i=>[],rd:=fun r _=>r,base:=100000 }
 | _,_=>none
def VC_sAllocCell_1 (s:GState):Prop:=(RM [some (.blk [.d (.arr .int s.vals),.d (.arr .int s.heap)]),some (.sl 32 .int ([]:List Int)),some (.sl 33 .int ([]:List Int)),some (.blk [.own 32,.own 33])])/\(RM [])/\True/\TT
def VC_sAllocCell_2 (s:GState):Prop:=(TN/\TN/\True)/\(TF/\TF)/\True/\True/\((((⟨([]:List Int),([]:List Int)⟩:GState),(0:Int),false,()):GState × Int × Bool × Unit)=(qcS s,qcV s,!(qcV s == 0),()))/\((((100448:Nat) ≠ 100449)/\True)/\True/\True)/\((TF/\TF)/\(TF/\TF)/\True)/\True/\(True/\True/\True)/\TF
def VC_sAllocCell (s:GState) (k:Nat):Prop:=TN/\(TN/\TN/\TN/\True)/\True/\True/\True/\((1<=1/\1<=9/\(1=1 ∨ stV s=true)/\qcI s (9 - 1)=qcI s 8)/\TT/\(RL [.s (.c (.ptr 31 0)),.s (.c (.ptr 47 0))])/\(([.s (.c (.d (.val (.int .i64 (1:Int)))))]:List S)=[.s (.c (.d (.val (.int .i64 ((1:Nat):Int)))))])/\(VC_sAllocCell_1 s))/\(∀ i1:Nat,(1<=i1/\i1<=9/\(i1=1 ∨ stV s=true)/\qcI s (9 - i1)=qcI s 8)->True/\True/\True/\(vcIf (decide (((i1:Nat):Int)<=(8:Int))) (True/\((s.vals.length<=281474976710656/\s.heap.length<=281474976710656)/\True/\True)/\True/\(vcIf (stV s) (True/\True/\((stV s=true)/\True/\True)/\True/\(vcIf (!(al s ((i1:Nat):Int))) (True/\((s.vals.length<=1048576/\s.heap.length<=1048576)/\True/\TN/\TN/\True)/\(TN/\TN/\TN/\True)/\(TF/\TF)/\True/\True/\True/\(inK .i64 (((i1:Nat):Int) - (1:Int)))/\(0<=(((i1:Nat):Int) - (1:Int))/\(((i1:Nat):Int) - (1:Int)) < ((s.heap.length:Nat):Int))/\(TF/\TF/\True/\((100321:Nat) ∉ ([]:List Nat)))/\True/\True/\(TF/\TF)/\True/\True/\((((⟨s.vals,s.heap.set (((i1:Nat):Int) - (1:Int)).toNat (0:Int)⟩:GState),((i1:Nat):Int),true,()):GState × Int × Bool × Unit)=(qcS s,qcV s,!(qcV s == 0),()))/\((((100320:Nat) ≠ 100321)/\True)/\True/\True)/\((TF/\TF)/\(TF/\TF)/\True)/\True/\(True/\True/\True)/\TF) (True/\(inK .i64 (((i1:Nat):Int)+(1:Int)))/\True/\(1<=(i1+1)/\(i1+1)<=9/\((i1+1)=1 ∨ stV s=true)/\qcI s (9 - (i1+1))=qcI s 8)/\(9 - (i1+1) < 9 - i1)/\TT/\(RL [.s (.c (.ptr 31 0)),.s (.c (.ptr 47 0))])/\(([.s (.c (.d (.val (.int .i64 (((i1:Nat):Int)+(1:Int))))))]:List S)=[.s (.c (.d (.val (.int .i64 (((i1+1):Nat):Int)))))])/\(VC_sAllocCell_1 s)))) (VC_sAllocCell_2 s))) (True/\(VC_sAllocCell_2 s))))
theorem vcn_sAllocCell (s:GState) (k:Nat) (hp:s.vals.length<=1048576/\s.heap.length<=1048576):VC_sAllocCell s k:=by
 unfold VC_sAllocCell VC_sAllocCell_2 VC_sAllocCell_1
 simp only [cln,Nat.reduceEqDiff,Nat.reduceLeDiff,Nat.reduceAdd]
 have hF:=fun (i:Nat) hs h0 h1 he h=>qcV_of (s:=s) (i:=i) hs h0 h1 he h
 have hN:=fun (i:Nat) h1 h2 he=>qcV_none (s:=s) (i:=i) h1 h2 he
 have hB:=fun h=>qcV_bad (s:=s) h
 have hS:=fun (i:Nat) h0 h1 h=>qcI_step (s:=s) (i:=i) h0 h1 h
 have hL:=fun h=>stV_lens (s:=s) h
 all_goals (try simp only [vcIf_iff,decide_eq_true_eq,decide_eq_false_iff_not,bne_iff_ne,ne_eq,beq_iff_eq,beq_eq_false_iff_ne,bne_eq_false_iff_eq,Bool.not_eq_true',Bool.not_eq_false',Int.ofNat_lt,Int.natCast_inj])
 all_goals (repeat' (first | apply And.intro | intro _))
 all_goals (repeat (cases ‹_/\_›))
 all_goals (first | omega | with_reducible assumption | with_reducible rfl | skip)
 all_goals (first | omega | (simp_all;done) | grind | skip)
theorem ok_sAllocCell:FnOk Try.prog E 108 c_sAllocCell :=
 fn_okQ (l:=L_sAllocCell) (lp:=P_sAllocCell) (hp:=fun _=>false) (gcs:=fun _=>none) (perm:=fun _=>[]) tabOk mix ⟨ok_sStateValid,ok_l2Copy,ok_l2Has,trivial⟩ trivial Try.func108 rfl (by kernel_rfl) (by decide) (by kernel_rfl) (anns:=fun x _=>an_sAllocCell x.1) (fun ⟨s,_⟩ k hp _=>Eq.mp (by kernel_rfl) (vcn_sAllocCell s k hp)) tot_fn
abbrev c_l9Basic:Con:=⟨[.state,.cmd],[.state,.int],fun (s,c,_)=>stV s=true/\fokB c=true,.inl fun (s,c,_)=>(bR s c,bK s c,()),fun _=>0⟩
abbrev L_l9Basic:List (FuncId × Con):=[(90,c_l2Copy),(106,c_l1Value),(107,c_l2Has),(108,c_sAllocCell)]
abbrev P_l9Basic:List (FuncId × PT):=[]
def VC_l9Basic_1 :Prop:=((((208:Nat) ≠ 209)/\True)/\True/\True)/\((TF/\TF)/\(TF/\TF)/\True)/\True/\(True/\True/\True)/\TF
def VC_l9Basic_2 (s:GState) (c:GCmd):Prop:=(((⟨([]:List Int),([]:List Int)⟩:GState),(1:Int),()):GState × Int × Unit)=(bR s c,bK s c,())
def VC_l9Basic_3 (s:GState) (c:GCmd):Prop:=0<=((tv s.vals c.a) - (1:Int))/\((tv s.vals c.a) - (1:Int)) < ((s.heap.length:Nat):Int)
def VC_l9Basic_4 (c:GCmd) (s:GState):Prop:=(True/\(vcIf (c.kind == (2:Int)) (True/\True/\((stV s=true)/\True/\True)/\True/\(vcIf (!(al s (tv s.vals c.b))) ((TN/\TN/\True)/\(TF/\TF)/\True/\(VC_l9Basic_2 s c)/\((((656:Nat) ≠ 657)/\True)/\True/\True)/\((TF/\TF)/\(TF/\TF)/\True)/\True/\(True/\True/\True)/\TF) (True/\True/\True/\True/\(inK .i64 (c.a - (1:Int)))/\True/\True/\True/\(inK .i64 ((tv s.vals c.b) - (1:Int)))/\(0<=((tv s.vals c.b) - (1:Int))/\((tv s.vals c.b) - (1:Int)) < ((s.heap.length:Nat):Int))/\True/\(0<=(c.a - (1:Int))/\(c.a - (1:Int)) < ((s.vals.length:Nat):Int))/\(TF/\TF/\True/\((208:Nat) ∉ ([]:List Nat)))/\True/\(TF/\TF)/\True/\((((⟨s.vals.set (c.a - (1:Int)).toNat (s.heap.getD ((tv s.vals c.b) - (1:Int)).toNat (0:Int)),s.heap⟩:GState),(0:Int),()):GState × Int × Unit)=(bR s c,bK s c,()))/\VC_l9Basic_1))) (True/\True/\(vcIf (c.kind == (3:Int)) (True/\True/\((stV s=true)/\True/\True)/\True/\(vcIf (!(al s (tv s.vals c.a))) ((TN/\TN/\True)/\(TF/\TF)/\True/\(VC_l9Basic_2 s c)/\((((960:Nat) ≠ 961)/\True)/\True/\True)/\((TF/\TF)/\(TF/\TF)/\True)/\True/\(True/\True/\True)/\TF) (True/\True/\True/\(inK .i64 ((tv s.vals c.a) - (1:Int)))/\True/\(VC_l9Basic_3 s c)/\(TF/\TF/\True/\((209:Nat) ∉ ([]:List Nat)))/\True/\(TF/\TF)/\True/\((((⟨s.vals,s.heap.set ((tv s.vals c.a) - (1:Int)).toNat (tv s.vals c.b)⟩:GState),(0:Int),()):GState × Int × Unit)=(bR s c,bK s c,()))/\VC_l9Basic_1))) (True/\True/\(vcIf (c.kind == (5:Int)) (True/\True/\((stV s=true)/\True/\True)/\True/\(vcIf (!(al s (tv s.vals c.a))) ((TN/\TN/\True)/\(TF/\TF)/\True/\(VC_l9Basic_2 s c)/\((((1168:Nat) ≠ 1169)/\True)/\True/\True)/\((TF/\TF)/\(TF/\TF)/\True)/\True/\(True/\True/\True)/\TF) (True/\True/\True/\(inK .i64 ((tv s.vals c.a) - (1:Int)))/\(VC_l9Basic_3 s c)/\(TF/\TF/\True/\((209:Nat) ∉ ([]:List Nat)))/\True/\(TF/\TF)/\True/\((((⟨s.vals,s.heap.set ((tv s.vals c.a) - (1:Int)).toNat (-1:Int)⟩:GState),(0:Int),()):GState × Int × Unit)=(bR s c,bK s c,()))/\VC_l9Basic_1))) (True/\True/\(vcIf (c.kind == (4:Int)) (True/\((s.vals.length<=1048576/\s.heap.length<=1048576)/\True/\TN/\TN/\True)/\True/\True/\True/\True/\(TN/\TN/\TN/\True)/\(TF/\TF)/\True/\True/\True/\True/\(vcIf (!(!(qcV s == 0))) ((TN/\TN/\True)/\(TF/\TF)/\True/\((((⟨([]:List Int),([]:List Int)⟩:GState),(2:Int),()):GState × Int × Unit)=(bR s c,bK s c,()))/\((((1424:Nat) ≠ 1425)/\True)/\True/\True)/\((TF/\TF)/\(TF/\TF)/\True)/\True/\(True/\True/\True)/\TF) (True/\True/\True/\True/\(inK .i64 (c.a - (1:Int)))/\True/\(0<=(c.a - (1:Int))/\(c.a - (1:Int)) < ((((qcS s).vals).length:Nat):Int))/\(TF/\TF/\True/\((1328:Nat) ∉ ([]:List Nat)))/\True/\(TF/\TF)/\True/\((((⟨((qcS s).vals).set (c.a - (1:Int)).toNat (qcV s),(qcS s).heap⟩:GState),(0:Int),()):GState × Int × Unit)=(bR s c,bK s c,()))/\((((1328:Nat) ≠ 1329)/\True)/\True/\True)/\((TF/\TF)/\(TF/\TF)/\True)/\True/\(True/\True/\True)/\TF))) (True/\(TF/\TF)/\True/\(((s,(0:Int),()):GState × Int × Unit)=(bR s c,bK s c,()))/\VC_l9Basic_1)))))))))
def VC_l9Basic (s:GState) (c:GCmd) (k:Nat):Prop:=TN/\TN/\(TN/\TN/\TN/\True)/\True/\True/\((s.vals.length<=1048576/\s.heap.length<=1048576)/\True/\TN/\TN/\True)/\(TN/\TN/\TN/\True)/\(TF/\TF)/\True/\True/\True/\True/\((s.vals.length=8/\isT c.a=true)/\True/\True)/\True/\True/\True/\True/\True/\((s.vals.length=8/\isT c.b=true)/\True/\True)/\True/\True/\True/\True/\True/\(vcIf (c.kind == (1:Int)) (True/\True/\True/\True/\(inK .i64 (c.a - (1:Int)))/\True/\(0<=(c.a - (1:Int))/\(c.a - (1:Int)) < ((s.vals.length:Nat):Int))/\(TF/\TF/\True/\((208:Nat) ∉ ([]:List Nat)))/\True/\(TF/\TF)/\True/\((((⟨s.vals.set (c.a - (1:Int)).toNat (tv s.vals c.b),s.heap⟩:GState),(0:Int),()):GState × Int × Unit)=(bR s c,bK s c,()))/\VC_l9Basic_1) (True/\(VC_l9Basic_4 c s)))
theorem vcn_l9Basic (s:GState) (c:GCmd) (k:Nat) (hp:stV s=true/\fokB c=true):VC_l9Basic s c k:=by
 unfold VC_l9Basic VC_l9Basic_4 VC_l9Basic_3 VC_l9Basic_2 VC_l9Basic_1
 simp only [cln,Nat.reduceEqDiff,Nat.reduceLeDiff,Nat.reduceAdd,GCmd.eta]
 have hL:=stV_lens hp.1
 obtain ⟨hk,ha,hb,hpv⟩:=fok_of hp.2
 have hA:=fun (n:Int) h=>al_in (s:=s) (n:=n) h
 have hV:=qcV_rng s
 all_goals (try simp only [vcIf_iff,decide_eq_true_eq,decide_eq_false_iff_not,bne_iff_ne,ne_eq,beq_iff_eq,beq_eq_false_iff_ne,bne_eq_false_iff_eq,Bool.not_eq_true',Bool.not_eq_false',Int.ofNat_lt,Int.natCast_inj])
 all_goals (repeat' (first | apply And.intro | intro _))
 all_goals (repeat (cases ‹_/\_›))
 all_goals (first | omega | with_reducible assumption | with_reducible rfl | skip)
 all_goals (first
  | (have h1:=hA _ ‹_›;omega)
  | (simp [bR,bK,bS, *];done)
  | (have h1:=(hA _ ‹_›).2.2;simp [bR,bK,bS, *];done)
  | (simp [bR,bK,bS,qcS, *];done)
  | (simp [qcS, *];omega)
  | skip)
theorem ok_l9Basic:FnOk Try.prog E 64 c_l9Basic :=
 fn_okQ (l:=L_l9Basic) (lp:=P_l9Basic) (hp:=fun _=>false) (gcs:=fun _=>none) (perm:=fun _=>[]) tabOk mix ⟨ok_l2Copy,ok_l1Value,ok_l2Has,ok_sAllocCell,trivial⟩ trivial Try.func64 rfl (by kernel_rfl) (by decide) (by kernel_rfl) (anns:=fun x _=>fun _ _=>none) (fun ⟨s,c,_⟩ k hp _=>Eq.mp (by kernel_rfl) (vcn_l9Basic s c k hp)) tot_fn
abbrev c_sRunBasic:Con:=⟨[.state,.cmd],[.state,.int],fun (s,c,_)=>s.vals.length<=1048576/\s.heap.length<=1048576/\BdC c,.inl fun (s,c,_)=>(rbS s c,rbK s c,()),fun _=>0⟩
abbrev L_sRunBasic:List (FuncId × Con):=[(62,c_sStateValid),(63,c_l8Basic),(64,c_l9Basic)]
abbrev P_sRunBasic:List (FuncId × PT):=[]
def VC_sRunBasic_1 (s:GState) (c:GCmd):Prop:=(TN/\TN/\True)/\(TF/\TF)/\True/\((((⟨([]:List Int),([]:List Int)⟩:GState),(4:Int),()):GState × Int × Unit)=(rbS s c,rbK s c,()))/\((((224:Nat) ≠ 225)/\True)/\True/\True)/\((TF/\TF)/\(TF/\TF)/\True)/\True/\(True/\True/\True)/\TF
def VC_sRunBasic (s:GState) (c:GCmd) (k:Nat):Prop:=TN/\TN/\(TN/\TN/\TN/\True)/\True/\True/\((s.vals.length<=281474976710656/\s.heap.length<=281474976710656)/\True/\True)/\True/\True/\(vcIf (!(stV s)) (True/\(VC_sRunBasic_1 s c)) (True/\((BdC (GCmd.mk c.kind c.a c.b c.test c.inv c.body c.els))/\True/\True)/\True/\True/\(vcIf (!(fokB (GCmd.mk c.kind c.a c.b c.test c.inv c.body c.els))) (VC_sRunBasic_1 s c) (True/\True/\((stV s=true/\fokB (GCmd.mk c.kind c.a c.b c.test c.inv c.body c.els)=true)/\True/\TN/\TN/\True)/\True/\True/\(TF/\TF)/\True/\((((bR s (GCmd.mk c.kind c.a c.b c.test c.inv c.body c.els)),(bK s (GCmd.mk c.kind c.a c.b c.test c.inv c.body c.els)),()):GState × Int × Unit)=(rbS s c,rbK s c,()))/\((((272:Nat) ≠ 273)/\True)/\True/\True)/\((TF/\TF)/\(TF/\TF)/\True)/\True/\(True/\True/\True)/\TF))))
theorem vcn_sRunBasic (s:GState) (c:GCmd) (k:Nat) (hp:s.vals.length<=1048576/\s.heap.length<=1048576/\BdC c):VC_sRunBasic s c k:=by
 unfold VC_sRunBasic VC_sRunBasic_1
 simp only [cln,Nat.reduceEqDiff,Nat.reduceLeDiff,Nat.reduceAdd,GCmd.eta]
 have hL:=fun h=>stV_lens (s:=s) h
 all_goals (try simp only [vcIf_iff,decide_eq_true_eq,decide_eq_false_iff_not,bne_iff_ne,ne_eq,beq_iff_eq,beq_eq_false_iff_ne,bne_eq_false_iff_eq,Bool.not_eq_true',Bool.not_eq_false',Int.ofNat_lt,Int.natCast_inj])
 all_goals (repeat' (first | apply And.intro | intro _))
 all_goals (repeat (cases ‹_/\_›))
 all_goals (first | omega | with_reducible assumption | with_reducible rfl | skip)
 all_goals (first | omega | (simp_all;done) | grind [rbS,rbK,rbOk] | skip)
theorem ok_sRunBasic:FnOk Try.prog E 29 c_sRunBasic :=
 fn_okQ (l:=L_sRunBasic) (lp:=P_sRunBasic) (hp:=fun _=>false) (gcs:=fun _=>none) (perm:=fun _=>[]) tabOk mix ⟨ok_sStateValid,ok_l8Basic,ok_l9Basic,trivial⟩ trivial Try.func29 rfl (by kernel_rfl) (by decide) (by kernel_rfl) (anns:=fun x _=>fun _ _=>none) (fun ⟨s,c,_⟩ k hp _=>Eq.mp (by kernel_rfl) (vcn_sRunBasic s c k hp)) tot_fn
abbrev c_szIntS:Con:=⟨[.sl .int,.int],[.int],fun (l,left,_)=>l.length<=281474976710656/\0<=left/\left<=1048576,.inl fun (l,left,_)=>(sz1 left l.length,()),fun _=>0⟩
abbrev L_szIntS:List (FuncId × Con):=[]
theorem vc_szIntS (l:List Int) (left:Int) (k:Nat) (hp:l.length<=281474976710656/\0<=left/\left<=1048576):vc tab (lookF L_szIntS) (fun _=>none) (fun _=>[]) (bodyOf Try.f67) (entry (encs c_szIntS.aks (l,left,())) (rdOf false k)) (retOk tab c_szIntS Try.f67.results.toList (l,left,()) k):=by
 dsimp only [bodyOf,Try.f67,rdOf]
 simp (maxSteps:=10000000) only [c_szIntS,L_szIntS,SE.lookF,tab2,tab3,tab4,tab5,tab7,tab9,tab12,tab13,tab21,tab22,tab23,tab28,tab35,tab40,tab41,tab42,tab43,tab44,tab45,tab46,tab47,tab48,tab49,tab56,tab57,tab58,tab59,tab60,tab61,tab62,tab63,tab77,tab78,tab79,tab81,tab82,tab83,tab89,tab90,tab94,tab102,tab103,tab113,tab114,tab118,tab119,tab122,tab145,tab156,tab168,SE.entry,SE.envOf,SE.rdOf,Option.get_some,SE.vc,SE.vcReg,SE.vcLoop,SE.condK,SE.seqK,SE.blockK,SE.vcOps,SE.vcStep,SE.vcOp,SE.vcTr,SE.vcDet_some,SE.vcDet_none,SE.vcIf_true,SE.vcIf_false,SE.vcEach,SE.pickOps,SE.gslot,SE.trOp,SE.moveId,SE.trMove,SE.trPick,SE.trAlloc,SE.trBox,SE.trBuild,SE.trBuildSlice,SE.trLoad,SE.trStore,SE.trNilCheck,SE.trBin,SE.trUn,SE.trConvert,SE.trFieldAddr,SE.trField,SE.trIndexAddr,SE.trIndex,SE.trSlice,SE.trMakeSlice,SE.trExtract,SE.trLen,SE.trAppend,SE.trCopy,SE.trFn,SE.trCall,SE.argsS,SE.ev,SE.constS,SE.junk,SE.sv,SE.upd_app,SE.adds,SE.sets,SE.nid,SE.St.app,SE.St.put,SE.free,SE.freeL,SE.allFree,SE.rids,SE.AK.rids,SE.castL,SE.rdl,SE.AK.dec,SE.decs,SE.AK.enc,SE.encs,SE.AK.res,SE.ress,SE.pack1,SE.zcells,SE.zeroOf,SE.partCells,SE.putc,SE.fills,SE.datas,SE.ownDC,SE.wkDC,SE.wkS,SE.xfix,SE.tightM,SE.rdn,SE.rdnC,SE.elemOf,SE.elemsOf,SE.elemX,SE.zeroC,SE.notSpent,SE.cellsAt,SE.weak,SE.dcellsAt,SE.slAt,SE.rdPlus,SE.intAt,SE.updElem,SE.kill,SE.noJunk,SE.inK,SE.binI,SE.shf,SE.isShift,SE.eqCells,SE.aggS,SE.intOp,SE.nested,SE.hasRdr,SE.refsC,SE.refsCs,SE.ownsC,SE.refsAr,SE.rdFits,SE.costIf,SE.Con.post,SE.Con.det,SE.Ty.cells,SE.Ty.sz,SE.Ty.zero,SE.Ty.flat,SE.Ty.dec,SE.retOk,SE.loadsS,SE.loadS,SE.decRs,SE.decR,SE.outC,SE.rdC,SE.allDiff,SE.notIn,SE.notFrozen,SE.apartL,SE.rdEnd,SE.firstReg,SE.headC,SE.fitsC,SE.idsC,SE.keepE,SE.keepM,SE.keepB,SE.inL,SE.puts,SE.ownRes,SE.ownEnv,SE.renL,SE.srcId,SE.lookR,SE.envSame,SE.envSets,SE.memSame,SE.memBlks,SE.memOwns,SE.famsOf,SE.allIn,SE.closedE,SE.closedV,SE.closedM,SE.closedR,SE.rdLe,SE.S.refs,SE.S0.refs,SE.CV.refs,SE.refsL,SE.refsT,SE.S.ren,SE.S0.ren,SE.CV.ren,SE.Res.refs,SE.Res.ren,min_i64,max_i64,min_u16,max_u16,min_u8,max_u8,min_u64,max_u64,S.s.injEq,S0.c.injEq,CV.d.injEq,DC.val.injEq,Value.int.injEq,Value.bool.injEq,Value.string.injEq,eta_fact,eta_atom,eta_asn,eta_state,List.mem_cons,List.mem_nil_iff,or_false,false_or,or_true,true_or,List.map_cons,List.map_nil,Option.map_some,Option.map_none,Option.bind_some,Option.getD_some,Option.getD_none,Nat.reduceEqDiff,Nat.reduceAdd,Nat.reduceMul,Nat.reduceLeDiff,↓reduceIte,reduceCtorEq,true_and,and_true,and_self,forall_const,implies_true,true_implies,List.getElem?_toArray,List.getElem?_cons_succ,List.getElem?_cons_zero,List.append_nil,List.nil_append,List.cons_append,List.length_cons,List.length_nil,List.take_succ_cons,List.take_zero,List.drop_succ_cons,List.drop_zero,List.set_cons_zero,List.set_cons_succ,List.map_cons,List.map_nil,Nat.add_zero,Nat.zero_add,forall_eq,Prod.forall,Bool.not_true,Bool.not_false,Nat.lt_irrefl,Nat.zero_lt_succ,List.singleton_append,Prod.mk.injEq,Nat.zero_mul,Nat.one_mul,Nat.reducePow,Option.some.injEq,not_false_eq_true,Int.toNat_natCast,Nat.sub_zero,Nat.le_refl,Bool.or_false,Bool.false_or,Bool.or_true,Bool.true_or,Bool.and_true,Bool.true_and,Bool.and_false,Bool.false_and,Bool.or_self,Bool.and_self,List.append_eq,and_false,false_and]
 unfold sz1
 by_cases h:left - l.length < 0 <;> simp [vcIf,h] <;> omega
theorem ok_szIntS:FnOk Try.prog E 67 c_szIntS :=
 fn_ok (l:=L_szIntS) (perm:=fun _=>[]) tabOk mix trivial Try.func67 rfl (by kernel_rfl) (by decide) (by kernel_rfl) (anns:=fun x _=>fun _=>none) (fun ⟨l,left,_⟩ k hp _=>vc_szIntS l left k hp) tot_fn
abbrev c_szState:Con:=⟨[.state,.int],[.int],fun (s,left,_)=>s.vals.length<=281474976710656/\s.heap.length<=281474976710656/\0<=left/\left<=1048576,.inl fun (s,left,_)=>(szS s left,()),fun _=>0⟩
abbrev L_szState:List (FuncId × Con):=[(67,c_szIntS)]
theorem vc_szState (s:GState) (left:Int) (k:Nat) (hp:s.vals.length<=281474976710656/\s.heap.length<=281474976710656/\0<=left/\left<=1048576):vc tab (lookF L_szState) (fun _=>none) (fun _=>[]) (bodyOf Try.f32) (entry (encs c_szState.aks (s,left,())) (rdOf false k)) (retOk tab c_szState Try.f32.results.toList (s,left,()) k):=by
 dsimp only [bodyOf,Try.f32,rdOf]
 simp (maxSteps:=10000000) only [c_szState,L_szState,SE.lookF,c_szIntS,tab2,tab3,tab4,tab5,tab7,tab9,tab12,tab13,tab21,tab22,tab23,tab28,tab35,tab40,tab41,tab42,tab43,tab44,tab45,tab46,tab47,tab48,tab49,tab56,tab57,tab58,tab59,tab60,tab61,tab62,tab63,tab77,tab78,tab79,tab81,tab82,tab83,tab89,tab90,tab94,tab102,tab103,tab113,tab114,tab118,tab119,tab122,tab145,tab156,tab168,SE.entry,SE.envOf,SE.rdOf,Option.get_some,SE.vc,SE.vcReg,SE.vcLoop,SE.condK,SE.seqK,SE.blockK,SE.vcOps,SE.vcStep,SE.vcOp,SE.vcTr,SE.vcDet_some,SE.vcDet_none,SE.vcIf_true,SE.vcIf_false,SE.vcEach,SE.pickOps,SE.gslot,SE.trOp,SE.moveId,SE.trMove,SE.trPick,SE.trAlloc,SE.trBox,SE.trBuild,SE.trBuildSlice,SE.trLoad,SE.trStore,SE.trNilCheck,SE.trBin,SE.trUn,SE.trConvert,SE.trFieldAddr,SE.trField,SE.trIndexAddr,SE.trIndex,SE.trSlice,SE.trMakeSlice,SE.trExtract,SE.trLen,SE.trAppend,SE.trCopy,SE.trFn,SE.trCall,SE.argsS,SE.ev,SE.constS,SE.junk,SE.sv,SE.upd_app,SE.adds,SE.sets,SE.nid,SE.St.app,SE.St.put,SE.free,SE.freeL,SE.allFree,SE.rids,SE.AK.rids,SE.castL,SE.rdl,SE.AK.dec,SE.decs,SE.AK.enc,SE.encs,SE.AK.res,SE.ress,SE.pack1,SE.zcells,SE.zeroOf,SE.partCells,SE.putc,SE.fills,SE.datas,SE.ownDC,SE.wkDC,SE.wkS,SE.xfix,SE.tightM,SE.rdn,SE.rdnC,SE.elemOf,SE.elemsOf,SE.elemX,SE.zeroC,SE.notSpent,SE.cellsAt,SE.weak,SE.dcellsAt,SE.slAt,SE.rdPlus,SE.intAt,SE.updElem,SE.kill,SE.noJunk,SE.inK,SE.binI,SE.shf,SE.isShift,SE.eqCells,SE.aggS,SE.intOp,SE.nested,SE.hasRdr,SE.refsC,SE.refsCs,SE.ownsC,SE.refsAr,SE.rdFits,SE.costIf,SE.Con.post,SE.Con.det,SE.Ty.cells,SE.Ty.sz,SE.Ty.zero,SE.Ty.flat,SE.Ty.dec,SE.retOk,SE.loadsS,SE.loadS,SE.decRs,SE.decR,SE.outC,SE.rdC,SE.allDiff,SE.notIn,SE.notFrozen,SE.apartL,SE.rdEnd,SE.firstReg,SE.headC,SE.fitsC,SE.idsC,SE.keepE,SE.keepM,SE.keepB,SE.inL,SE.puts,SE.ownRes,SE.ownEnv,SE.renL,SE.srcId,SE.lookR,SE.envSame,SE.envSets,SE.memSame,SE.memBlks,SE.memOwns,SE.famsOf,SE.allIn,SE.closedE,SE.closedV,SE.closedM,SE.closedR,SE.rdLe,SE.S.refs,SE.S0.refs,SE.CV.refs,SE.refsL,SE.refsT,SE.S.ren,SE.S0.ren,SE.CV.ren,SE.Res.refs,SE.Res.ren,min_i64,max_i64,min_u16,max_u16,min_u8,max_u8,min_u64,max_u64,S.s.injEq,S0.c.injEq,CV.d.injEq,DC.val.injEq,Value.int.injEq,Value.bool.injEq,Value.string.injEq,eta_fact,eta_atom,eta_asn,eta_state,List.mem_cons,List.mem_nil_iff,or_false,false_or,or_true,true_or,List.map_cons,List.map_nil,Option.map_some,Option.map_none,Option.bind_some,Option.getD_some,Option.getD_none,Nat.reduceEqDiff,Nat.reduceAdd,Nat.reduceMul,Nat.reduceLeDiff,↓reduceIte,reduceCtorEq,true_and,and_true,and_self,forall_const,implies_true,true_implies,List.getElem?_toArray,List.getElem?_cons_succ,List.getElem?_cons_zero,List.append_nil,List.nil_append,List.cons_append,List.length_cons,List.length_nil,List.take_succ_cons,List.take_zero,List.drop_succ_cons,List.drop_zero,List.set_cons_zero,List.set_cons_succ,List.map_cons,List.map_nil,Nat.add_zero,Nat.zero_add,forall_eq,Prod.forall,Bool.not_true,Bool.not_false,Nat.lt_irrefl,Nat.zero_lt_succ,List.singleton_append,Prod.mk.injEq,Nat.zero_mul,Nat.one_mul,Nat.reducePow,Option.some.injEq,not_false_eq_true,Int.toNat_natCast,Nat.sub_zero,Nat.le_refl,Bool.or_false,Bool.false_or,Bool.or_true,Bool.true_or,Bool.and_true,Bool.true_and,Bool.and_false,Bool.false_and,Bool.or_self,Bool.and_self,List.append_eq,and_false,false_and]
 simp only [vcIf_iff,szS,sz1]
 grind
theorem ok_szState:FnOk Try.prog E 32 c_szState :=
 fn_ok (l:=L_szState) (perm:=fun _=>[]) tabOk mix ⟨ok_szIntS,trivial⟩ Try.func32 rfl (by kernel_rfl) (by decide) (by kernel_rfl) (anns:=fun x _=>fun _=>none) (fun ⟨s,left,_⟩ k hp _=>vc_szState s left k hp) tot_fn
abbrev c_szFactS:Con:=⟨[.sl .lfact,.int],[.int],fun (l,left,_)=>l.length<=281474976710656/\0<=left/\left<=1048576,.inl fun (l,left,_)=>(sz1 left l.length,()),fun _=>0⟩
abbrev L_szFactS:List (FuncId × Con):=[]
abbrev P_szFactS:List (FuncId × PT):=[]
def VC_szFactS (l:List GFact) (left:Int) (k:Nat):Prop:=True/\True/\True/\True/\(inK .i64 (left - ((l.length:Nat):Int)))/\True/\True/\True/\(vcIf (decide ((left - ((l.length:Nat):Int)) < (0:Int))) (True/\((((-1:Int),()):Int × Unit)=(sz1 left l.length,()))/\True/\True/\True/\True/\TF) (True/\True/\(((left - ((l.length:Nat):Int),()):Int × Unit)=(sz1 left l.length,()))/\True/\True/\True/\True/\TF))
theorem vcn_szFactS (l:List GFact) (left:Int) (k:Nat) (hp:l.length<=281474976710656/\0<=left/\left<=1048576):VC_szFactS l left k:=by
 unfold VC_szFactS
 simp only [cln,Nat.reduceEqDiff,Nat.reduceLeDiff,Nat.reduceAdd]
 unfold sz1
 by_cases h:left - l.length < 0 <;> simp [vcIf,h] <;> omega
theorem ok_szFactS:FnOk Try.prog E 109 c_szFactS :=
 fn_okQ (l:=L_szFactS) (lp:=P_szFactS) (hp:=fun _=>false) (gcs:=fun _=>none) (perm:=fun _=>[]) tabOk mix trivial trivial Try.func109 rfl (by kernel_rfl) (by decide) (by kernel_rfl) (anns:=fun x _=>fun _ _=>none) (fun ⟨l,left,_⟩ k hp _=>Eq.mp (by kernel_rfl) (vcn_szFactS l left k hp)) tot_fn
abbrev c_szAtomS:Con:=⟨[.sl .latom,.int],[.int],fun (l,left,_)=>l.length<=281474976710656/\0<=left/\left<=1048576,.inl fun (l,left,_)=>(sz1 left l.length,()),fun _=>0⟩
abbrev L_szAtomS:List (FuncId × Con):=[]
abbrev P_szAtomS:List (FuncId × PT):=[]
def VC_szAtomS (l:List GAtom) (left:Int) (k:Nat):Prop:=True/\True/\True/\True/\(inK .i64 (left - ((l.length:Nat):Int)))/\True/\True/\True/\(vcIf (decide ((left - ((l.length:Nat):Int)) < (0:Int))) (True/\((((-1:Int),()):Int × Unit)=(sz1 left l.length,()))/\True/\True/\True/\True/\TF) (True/\True/\(((left - ((l.length:Nat):Int),()):Int × Unit)=(sz1 left l.length,()))/\True/\True/\True/\True/\TF))
theorem vcn_szAtomS (l:List GAtom) (left:Int) (k:Nat) (hp:l.length<=281474976710656/\0<=left/\left<=1048576):VC_szAtomS l left k:=by
 unfold VC_szAtomS
 simp only [cln,Nat.reduceEqDiff,Nat.reduceLeDiff,Nat.reduceAdd]
 unfold sz1
 by_cases h:left - l.length < 0 <;> simp [vcIf,h] <;> omega
theorem ok_szAtomS:FnOk Try.prog E 110 c_szAtomS :=
 fn_okQ (l:=L_szAtomS) (lp:=P_szAtomS) (hp:=fun _=>false) (gcs:=fun _=>none) (perm:=fun _=>[]) tabOk mix trivial trivial Try.func110 rfl (by kernel_rfl) (by decide) (by kernel_rfl) (anns:=fun x _=>fun _ _=>none) (fun ⟨l,left,_⟩ k hp _=>Eq.mp (by kernel_rfl) (vcn_szAtomS l left k hp)) tot_fn
abbrev c_szAssertion:Con:=⟨[.lasn,.int],[.int],fun (a,left,_)=>a.facts.length<=281474976710656/\a.atoms.length<=281474976710656/\0<=left/\left<=1048576,.inl fun (a,left,_)=>(szA a left,()),fun _=>0⟩
abbrev L_szAssertion:List (FuncId × Con):=[(109,c_szFactS),(110,c_szAtomS)]
abbrev P_szAssertion:List (FuncId × PT):=[]
def VC_szAssertion_1 (a:GAsn) (left:Int):Prop:=True/\((((-1:Int),()):Int × Unit)=(szA a left,()))/\True/\True/\True/\True/\TF
def VC_szAssertion (a:GAsn) (left:Int) (k:Nat):Prop:=TN/\True/\True/\True/\True/\((a.facts.length<=281474976710656/\0<=left/\left<=1048576)/\True/\True)/\True/\True/\True/\(vcIf (decide ((sz1 left a.facts.length) < (0:Int))) (VC_szAssertion_1 a left) (True/\True/\True/\((a.atoms.length<=281474976710656/\0<=(sz1 left a.facts.length)/\(sz1 left a.facts.length)<=1048576)/\True/\True)/\True/\True/\True/\(vcIf (decide ((sz1 (sz1 left a.facts.length) a.atoms.length) < (0:Int))) (VC_szAssertion_1 a left) (True/\True/\((((sz1 (sz1 left a.facts.length) a.atoms.length),()):Int × Unit)=(szA a left,()))/\True/\True/\True/\True/\TF))))
theorem vcn_szAssertion (a:GAsn) (left:Int) (k:Nat) (hp:a.facts.length<=281474976710656/\a.atoms.length<=281474976710656/\0<=left/\left<=1048576):VC_szAssertion a left k:=by
 unfold VC_szAssertion VC_szAssertion_1
 simp only [cln,Nat.reduceEqDiff,Nat.reduceLeDiff,Nat.reduceAdd]
 all_goals (try simp only [opn])
 all_goals (repeat' (first | apply And.intro | intro _))
 all_goals (first | omega | (simp_all;done) | grind [szA,sz1])
theorem ok_szAssertion:FnOk Try.prog E 68 c_szAssertion :=
 fn_okQ (l:=L_szAssertion) (lp:=P_szAssertion) (hp:=fun _=>false) (gcs:=fun _=>none) (perm:=fun _=>[]) tabOk mix ⟨ok_szFactS,ok_szAtomS,trivial⟩ trivial Try.func68 rfl (by kernel_rfl) (by decide) (by kernel_rfl) (anns:=fun x _=>fun _ _=>none) (fun ⟨a,left,_⟩ k hp _=>Eq.mp (by kernel_rfl) (vcn_szAssertion a left k hp)) tot_fn
end Go.Proofs.Ytkafaeeianofnaa
