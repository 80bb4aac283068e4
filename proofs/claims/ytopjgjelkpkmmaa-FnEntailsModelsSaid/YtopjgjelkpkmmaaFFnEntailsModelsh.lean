/-
  Contracts of single functions of the program, each shown by the engine: what a call returns for arguments within the contract's bounds.
-/
import Derived.Test.YtopjgjelkpkmmaaFFnEntailsModelsa
import Derived.Test.YtopjgjelkpkmmaaFFnEntailsModelsg
import Derived.Test.YtopjgjelkpkmmaaEd
import Derived.Test.YtopjgjelkpkmmaaEe
import Derived.Test.YtopjgjelkpkmmaaEf
import Derived.Test.YtopjgjelkpkmmaaFFnEntailsModelsd
import Derived.Test.YtopjgjelkpkmmaaFFnEntailsModelsf
import Derived.Test.YtopjgjelkpkmmaaFFnEntailsModelsc
set_option linter.unusedSimpArgs false
set_option linter.unusedVariables false
set_option linter.unusedSectionVars false

namespace Go.Proofs.Ytopjgjelkpkmmaa
open Go.SE Go.RowKit
set_option linter.unusedSimpArgs false
set_option linter.unusedVariables false
set_option maxHeartbeats 1000000
set_option maxRecDepth 100000
abbrev c_l4Part:Con:=⟨[.state,.asn],[.sl .bool,.bool],fun (s,a,_)=>stV s=true/\asV a=true,.inr fun (s,a,_) r=>r.2.1=poB s a/\(r.2.1=true->r.1=fl9 (fun t=>(poL s a).contains t))/\r.1.length=9,fun _=>0⟩
abbrev L_l4Part:List (FuncId × Con):=[(144,c_l1Hold),(145,c_l4Cells)]
abbrev P_l4Part:List (FuncId × PT):=[]
def an_l4Part (s:GState) (a:GAsn):Nat->St->Option Ann
 | 5,se=>some { α:=Nat,ok:=fun i=>fctB s a.facts=true/\ptI s a.atoms i,mu:=fun i=>a.atoms.length - i,i0:=fun _=>0,nx:=fun a _=>(fun i=>i+1) a,live:=[2,3],sets:=fun i=>[(7,sv (.int .i64 i))],mids:=[47,63],blks:=fun i=>[],owns:=fun i=>[⟨7,.slot 6,.bool,fl9 (fun t=>(ptL s a.atoms i).contains t)⟩],rd:=fun r _=>r,base:=100000 }
 | 11,se=>some { α:=Nat,ok:=fun j=>j<=(slAt .int se (.slot 8)).length/\nw (ptL s a.atoms (intAt se 7).toNat) (slAt .int se (.slot 8)) j,mu:=fun j=>(slAt .int se (.slot 8)).length - j,i0:=fun _=>0,nx:=fun a _=>(fun j=>j+1) a,live:=[2,3,7,8],sets:=fun j=>[(10,sv (.int .i64 j))],mids:=[47,63,100528],blks:=fun j=>[],owns:=fun j=>[⟨7,.slot 6,.bool,fl9 (fun t=>(ptL s a.atoms (intAt se 7).toNat ++ (slAt .int se (.slot 8)).take j).contains t)⟩],rd:=fun r _=>r,base:=200000 }
 | _,_=>none
def VC_l4Part_1 :Prop:=([.s (.c (.d (.val (.int .i64 (0:Int)))))]:List S)=[.s (.c (.d (.val (.int .i64 ((0:Nat):Int)))))]
def VC_l4Part_2 (s:GState) (a:GAsn):Prop:=RM [some (.blk [.d (.arr .int s.vals),.d (.arr .int s.heap)]),some (.blk [.d (.arr .fact a.facts),.d (.arr .atom a.atoms)])]
def VC_l4Part_3 (i1:Nat):Prop:=RL [.s (.c (.ptr 47 0)),.s (.c (.ptr 63 0)),.s (.c (.d (.val (.int .i64 ((i1:Nat):Int))))),.s (.c (.own 100528))]
def VC_l4Part_4 (s:GState) (a:GAsn) (i1:Nat):Prop:=RM [some (.blk [.d (.arr .int s.vals),.d (.arr .int s.heap)]),some (.blk [.d (.arr .fact a.facts),.d (.arr .atom a.atoms)]),some (.sl 100528 .int (acL s (a.atoms.getD i1 (⟨0,0,0⟩:GAtom))))]
def VC_l4Part_5 (j2:Nat) (s:GState) (a:GAsn) (i1:Nat):Prop:=0<=((j2:Nat):Int)/\((j2:Nat):Int) < (((acL s (a.atoms.getD i1 (⟨0,0,0⟩:GAtom))).length:Nat):Int)
def VC_l4Part_6 (s:GState) (a:GAsn) (i1:Nat) (j2:Nat):Prop:=0<=((acL s (a.atoms.getD i1 (⟨0,0,0⟩:GAtom))).getD j2 (0:Int))/\((acL s (a.atoms.getD i1 (⟨0,0,0⟩:GAtom))).getD j2 (0:Int)) < (((fl9 (fun t=>(ptL s a.atoms (((i1:Nat):Int)).toNat ++ ((acL s (a.atoms.getD i1 (⟨0,0,0⟩:GAtom)))).take j2).contains t)).length:Nat):Int)
def VC_l4Part_7 (j2:Nat):Prop:=([.s (.c (.d (.val (.int .i64 (((j2:Nat):Int)+(1:Int))))))]:List S)=[.s (.c (.d (.val (.int .i64 (((j2+1):Nat):Int)))))]
def VC_l4Part_8 (s:GState) (a:GAsn) (i1:Nat):Prop:=(((0<=((acL s (a.atoms.getD i1 (⟨0,0,0⟩:GAtom)))).length/\nw (ptL s a.atoms (((i1:Nat):Int)).toNat) ((acL s (a.atoms.getD i1 (⟨0,0,0⟩:GAtom)))) 0)/\TT/\(VC_l4Part_3 i1)/\VC_l4Part_1/\(VC_l4Part_4 s a i1)/\(RM [])/\(((some (fl9 (fun t=>(ptL s a.atoms i1).contains t)):Option (List Bool))=some (fl9 (fun t=>(ptL s a.atoms (((i1:Nat):Int)).toNat ++ ((acL s (a.atoms.getD i1 (⟨0,0,0⟩:GAtom)))).take 0).contains t)))/\True)/\TT)/\(∀ j2:Nat,(j2<=((acL s (a.atoms.getD i1 (⟨0,0,0⟩:GAtom)))).length/\nw (ptL s a.atoms (((i1:Nat):Int)).toNat) ((acL s (a.atoms.getD i1 (⟨0,0,0⟩:GAtom)))) j2)->True/\True/\True/\True/\(vcIf (decide (((j2:Nat):Int) < (((acL s (a.atoms.getD i1 (⟨0,0,0⟩:GAtom))).length:Nat):Int))) (True/\True/\True/\(VC_l4Part_5 j2 s a i1)/\True/\(VC_l4Part_6 s a i1 j2)/\True/\(vcIf ((fl9 (fun t=>(ptL s a.atoms (((i1:Nat):Int)).toNat ++ ((acL s (a.atoms.getD i1 (⟨0,0,0⟩:GAtom)))).take j2).contains t)).getD ((acL s (a.atoms.getD i1 (⟨0,0,0⟩:GAtom))).getD j2 (0:Int)).toNat false) (True/\True/\True/\(false=poB s a/\(false=true->(fl9 (fun t=>(ptL s a.atoms (((i1:Nat):Int)).toNat ++ ((acL s (a.atoms.getD i1 (⟨0,0,0⟩:GAtom)))).take j2).contains t))=fl9 (fun t=>(poL s a).contains t))/\(fl9 (fun t=>(ptL s a.atoms (((i1:Nat):Int)).toNat ++ ((acL s (a.atoms.getD i1 (⟨0,0,0⟩:GAtom)))).take j2).contains t)).length=9)/\(True/\True)/\((TF/\TF)/\True)/\True/\(True/\True)/\TF) (True/\True/\True/\(VC_l4Part_5 j2 s a i1)/\True/\(VC_l4Part_6 s a i1 j2)/\(TF/\TF/\True/\((7:Nat) ∉ ([]:List Nat)))/\True/\(inK .i64 (((j2:Nat):Int)+(1:Int)))/\True/\((j2+1)<=((acL s (a.atoms.getD i1 (⟨0,0,0⟩:GAtom)))).length/\nw (ptL s a.atoms (((i1:Nat):Int)).toNat) ((acL s (a.atoms.getD i1 (⟨0,0,0⟩:GAtom)))) (j2+1))/\(((acL s (a.atoms.getD i1 (⟨0,0,0⟩:GAtom)))).length - (j2+1) < ((acL s (a.atoms.getD i1 (⟨0,0,0⟩:GAtom)))).length - j2)/\TT/\(VC_l4Part_3 i1)/\(VC_l4Part_7 j2)/\(VC_l4Part_4 s a i1)/\(RM [])/\(((some ((fl9 (fun t=>(ptL s a.atoms (((i1:Nat):Int)).toNat ++ ((acL s (a.atoms.getD i1 (⟨0,0,0⟩:GAtom)))).take j2).contains t)).set ((acL s (a.atoms.getD i1 (⟨0,0,0⟩:GAtom))).getD j2 (0:Int)).toNat true):Option (List Bool))=some (fl9 (fun t=>(ptL s a.atoms (((i1:Nat):Int)).toNat ++ ((acL s (a.atoms.getD i1 (⟨0,0,0⟩:GAtom)))).take (j2+1)).contains t)))/\True)/\TT))) (True/\(inK .i64 (((i1:Nat):Int)+(1:Int)))/\True/\(fctB s a.facts=true/\ptI s a.atoms (i1+1))/\(a.atoms.length - (i1+1) < a.atoms.length - i1)/\TT/\(RL [.s (.c (.ptr 47 0)),.s (.c (.ptr 63 0))])/\(VC_l4Part_7 i1)/\(VC_l4Part_2 s a)/\(RM [])/\(((some (fl9 (fun t=>(ptL s a.atoms (((i1:Nat):Int)).toNat ++ ((acL s (a.atoms.getD i1 (⟨0,0,0⟩:GAtom)))).take j2).contains t)):Option (List Bool))=some (fl9 (fun t=>(ptL s a.atoms (i1+1)).contains t)))/\True)/\TT))))
def VC_l4Part (s:GState) (a:GAsn) (k:Nat):Prop:=TN/\TN/\TN/\True/\(TN/\(0<=(9:Int)/\(9:Int)<=(9:Int)/\(9:Int)<=4294967296))/\True/\True/\True/\True/\True/\((a.facts.length<=1048576/\s.vals.length=8/\a.facts.all fV=true)/\True/\True)/\True/\(vcIf (!(a.facts.all (holdF s.vals))) (True/\True/\True/\(false=poB s a/\(false=true->(List.replicate 9 false)=fl9 (fun t=>(poL s a).contains t))/\(List.replicate 9 false).length=9)/\(True/\True)/\((TF/\TF)/\True)/\True/\(True/\True)/\TF) (True/\((fctB s a.facts=true/\ptI s a.atoms 0)/\TT/\(RL [.s (.c (.ptr 47 0)),.s (.c (.ptr 63 0))])/\VC_l4Part_1/\(VC_l4Part_2 s a)/\(RM [])/\(((some (List.replicate 9 false):Option (List Bool))=some (fl9 (fun t=>(ptL s a.atoms 0).contains t)))/\True)/\TT)/\(∀ i1:Nat,(fctB s a.facts=true/\ptI s a.atoms i1)->True/\True/\True/\True/\True/\(vcIf (decide (((i1:Nat):Int) < ((a.atoms.length:Nat):Int))) (True/\True/\True/\True/\(0<=((i1:Nat):Int)/\((i1:Nat):Int) < ((a.atoms.length:Nat):Int))/\True/\((stV s=true/\atV (a.atoms.getD i1 (⟨0,0,0⟩:GAtom))=true)/\True/\TN/\True)/\True/\True/\True/\True/\True/\True/\True/\(vcIf (!(acB s (a.atoms.getD i1 (⟨0,0,0⟩:GAtom)))) (True/\True/\True/\(false=poB s a/\(false=true->(fl9 (fun t=>(ptL s a.atoms i1).contains t))=fl9 (fun t=>(poL s a).contains t))/\(fl9 (fun t=>(ptL s a.atoms i1).contains t)).length=9)/\(True/\True)/\((TF/\TF)/\True)/\True/\(True/\True)/\TF) (True/\(VC_l4Part_8 s a i1)))) (True/\True/\True/\(true=poB s a/\(true=true->(fl9 (fun t=>(ptL s a.atoms i1).contains t))=fl9 (fun t=>(poL s a).contains t))/\(fl9 (fun t=>(ptL s a.atoms i1).contains t)).length=9)/\(True/\True)/\((TF/\TF)/\True)/\True/\(True/\True)/\TF)))))
theorem vcn_l4Part (s:GState) (a:GAsn) (k:Nat) (hp:stV s=true/\asV a=true):VC_l4Part s a k:=by
 unfold VC_l4Part VC_l4Part_8 VC_l4Part_7 VC_l4Part_6 VC_l4Part_5 VC_l4Part_4 VC_l4Part_3 VC_l4Part_2 VC_l4Part_1
 simp only [cln,Nat.reduceEqDiff,Nat.reduceLeDiff,Nat.reduceAdd]
 all_goals (try simp only [opn])
 all_goals (repeat' (first | apply And.intro | intro _))
 all_goals (repeat (cases ‹_/\_›))
 all_goals (try have h7:=‹ptI _ _ _›)
 all_goals (first | (exfalso;contradiction) | omega | assumption | skip)
 all_goals (first
  | with_reducible exact (pa_fac ‹_›).1
  | with_reducible exact (pa_fac ‹_›).2
  | with_reducible exact (stV_all ‹_›).1
  | with_reducible exact pa_no ‹_› ‹_› ‹_›
  | with_reducible exact pa_at ‹_› ‹_›
  | with_reducible exact pa_bad ‹_› ‹_› ‹_› h7 ‹_› ‹_›
  | with_reducible exact (pa_idx2 ‹_› ‹_›).1
  | with_reducible exact (pa_idx2 ‹_› ‹_›).2
  | with_reducible exact pa_dup ‹_› ‹_› ‹_› h7 ‹_› ‹_› ‹_› ‹_›
  | with_reducible exact pa_g ‹_› ‹_›
  | with_reducible exact pa_go ‹_› ‹_› ‹_› ‹_› _ ‹_›
  | with_reducible exact pa_go ‹_› ‹_› ‹_› ‹_›
  | with_reducible exact pa_j ‹_›
  | with_reducible exact (pa_n ‹_› ‹_› h7 ‹_› ‹_› ‹_› ‹_› ‹_›).1
  | with_reducible exact (pa_n ‹_› ‹_› h7 ‹_› ‹_› ‹_› ‹_› ‹_›).2
  | with_reducible exact (pa_e ‹_› ‹_› ‹_› h7 ‹_›).1
  | with_reducible exact (pa_e ‹_› ‹_› ‹_› h7 ‹_›).2
  | with_reducible exact fk_zero
  | with_reducible exact fl9_len _
  | (rw [List.take_zero,List.append_nil];done)
  | with_reducible rfl
  | skip)
 all_goals (try have h9:=isAd_iff.1 (ac_get ‹acB s _=true› ‹_ < (acL s _).length›))
 all_goals (try have h10:=pa_i ‹asV a=true› ‹_ < a.atoms.length›)
 all_goals (try have h11:=jb ‹_ < (acL s _).length›)
 all_goals (first | omega | exact List.length_replicate | exact ptI_zero | exact pa_go ‹_› ‹_› ‹_› ‹_› _ ‹_› | skip)
theorem ok_l4Part:FnOk Try.prog E 110 c_l4Part :=
 fn_okQ (l:=L_l4Part) (lp:=P_l4Part) (hp:=fun _=>false) (gcs:=fun _=>none) (perm:=fun _=>[]) tabOk mix ⟨ok_l1Hold,ok_l4Cells,trivial⟩ trivial Try.func110 rfl (by kernel_rfl) (by decide) (by kernel_rfl) (anns:=fun x _=>an_l4Part x.1 x.2.1) (fun ⟨s,a,_⟩ k hp _=>Eq.mp (by kernel_rfl) (vcn_l4Part s a k hp)) (fun ⟨s,a,_⟩ _=>⟨(fl9 (fun t=>(poL s a).contains t),poB s a,()),rfl,fun _=>rfl,fl9_len _⟩)
abbrev c_l3List:Con:=⟨[.sl .bool],[.sl .int],fun (l,_)=>l.length<=1048576,.inl fun (l,_)=>(flL l,()),fun _=>0⟩
abbrev L_l3List:List (FuncId × Con):=[]
abbrev P_l3List:List (FuncId × PT):=[]
def an_l3List (l:List Bool):Nat->St->Option Ann
 | 3,se=>some { α:=Nat,ok:=fun i=>i<=l.length,mu:=fun i=>l.length - i,i0:=fun _=>0,nx:=fun a _=>(fun i=>i+1) a,live:=[0,2],sets:=fun i=>[(4,sv (.int .i64 i))],mids:=[32],blks:=fun i=>[],owns:=fun i=>[⟨7,.slot 3,.int,flU l i⟩],rd:=fun r _=>r,base:=100000 }
 | _,_=>none
def VC_l3List_1 (i1:Nat):Prop:=([.s (.c (.d (.val (.int .i64 (((i1:Nat):Int)+(1:Int))))))]:List S)=[.s (.c (.d (.val (.int .i64 (((i1+1):Nat):Int)))))]
def VC_l3List (l:List Bool) (k:Nat):Prop:=TN/\(TN/\True)/\True/\True/\((0<=l.length)/\TT/\(RL [.s (.c (.d (.arr .bool l))),.s (.c (.own 32))])/\(([.s (.c (.d (.val (.int .i64 (0:Int)))))]:List S)=[.s (.c (.d (.val (.int .i64 ((0:Nat):Int)))))])/\(RM [some (.sl 32 .int ([]:List Int))])/\(RM [])/\(((some ([]:List Int):Option (List Int))=some (flU l 0))/\True)/\TT)/\(∀ i1:Nat,(i1<=l.length)->True/\True/\True/\True/\(vcIf (decide (((i1:Nat):Int) < ((l.length:Nat):Int))) (True/\True/\(0<=((i1:Nat):Int)/\((i1:Nat):Int) < ((l.length:Nat):Int))/\True/\(vcIf (l.getD i1 false) (True/\True/\(TN/\True)/\(TN/\TF/\TF/\((flU l i1).length+([((i1:Nat):Int)]:List Int).length<=4294967296))/\True/\True/\(inK .i64 (((i1:Nat):Int)+(1:Int)))/\True/\((i1+1)<=l.length)/\(l.length - (i1+1) < l.length - i1)/\TT/\(RL [.s (.c (.d (.arr .bool l))),.s (.c (.own 32))])/\(VC_l3List_1 i1)/\(RM [some (.sl 32 .int ([]:List Int))])/\(RM [])/\(((some ((flU l i1) ++ ([((i1:Nat):Int)]:List Int)):Option (List Int))=some (flU l (i1+1)))/\True)/\TT) (True/\(inK .i64 (((i1:Nat):Int)+(1:Int)))/\True/\((i1+1)<=l.length)/\(l.length - (i1+1) < l.length - i1)/\TT/\(RL [.s (.c (.d (.arr .bool l))),.s (.c (.own 32))])/\(VC_l3List_1 i1)/\(RM [some (.sl 32 .int ([]:List Int))])/\(RM [])/\(((some (flU l i1):Option (List Int))=some (flU l (i1+1)))/\True)/\TT))) (True/\True/\(((flU l i1,()):(List Int) × Unit)=(flL l,()))/\(True/\True)/\((TF/\TF)/\True)/\True/\(True/\True)/\TF)))
theorem vcn_l3List (l:List Bool) (k:Nat) (hp:l.length<=1048576):VC_l3List l k:=by
 unfold VC_l3List VC_l3List_1
 simp only [cln,Nat.reduceEqDiff,Nat.reduceLeDiff,Nat.reduceAdd]
 have hs:=flU_step l
 have hl:=flU_len l
 all_goals (try simp only [opn])
 all_goals (repeat' (first | apply And.intro | intro _))
 all_goals (first | omega | (simp_all;done) | grind [flL,flU])
theorem ok_l3List:FnOk Try.prog E 111 c_l3List :=
 fn_okQ (l:=L_l3List) (lp:=P_l3List) (hp:=fun _=>false) (gcs:=fun _=>none) (perm:=fun _=>[]) tabOk mix trivial trivial Try.func111 rfl (by kernel_rfl) (by decide) (by kernel_rfl) (anns:=fun x _=>an_l3List x.1) (fun ⟨l,_⟩ k hp _=>Eq.mp (by kernel_rfl) (vcn_l3List l k hp)) tot_fn
abbrev c_l2Addr:Con:=⟨[.int],[.bool],fun _=>True,.inl fun (t,_)=>(isT t,()),fun _=>0⟩
abbrev L_l2Addr:List (FuncId × Con):=[]
abbrev P_l2Addr:List (FuncId × PT):=[]
def VC_l2Addr (t:Int) (k:Nat):Prop:=True/\True/\True/\True/\(vcIf (decide ((0:Int)<=t)) (True/\True/\True/\True/\(((decide (t<=(8:Int)),()):Bool × Unit)=(isT t,()))/\True/\True/\True/\True/\TF) (True/\True/\(((false,()):Bool × Unit)=(isT t,()))/\True/\True/\True/\True/\TF))
theorem vcn_l2Addr (t:Int) (k:Nat):VC_l2Addr t k:=by
 unfold VC_l2Addr
 simp only [cln,Nat.reduceEqDiff,Nat.reduceLeDiff,Nat.reduceAdd]
 cases h:decide (0<=t) <;> simp [vcIf,isT,h]
theorem ok_l2Addr:FnOk Try.prog E 164 c_l2Addr :=
 fn_okQ (l:=L_l2Addr) (lp:=P_l2Addr) (hp:=fun _=>false) (gcs:=fun _=>none) (perm:=fun _=>[]) tabOk mix trivial trivial Try.func164 rfl (by kernel_rfl) (by decide) (by kernel_rfl) (anns:=fun x _=>fun _ _=>none) (fun ⟨t,_⟩ k _ _=>Eq.mp (by kernel_rfl) (vcn_l2Addr t k)) tot_fn
abbrev c_sStateValid:Con:=⟨[.state],[.bool],fun (s,_)=>s.vals.length<=281474976710656/\s.heap.length<=281474976710656,.inl fun (s,_)=>(stV s,()),fun _=>0⟩
abbrev L_sStateValid:List (FuncId × Con):=[(164,c_l2Addr)]
abbrev P_sStateValid:List (FuncId × PT):=[]
def an_sStateValid (s:GState):Nat->St->Option Ann
 | 2,se=>some { α:=Nat,ok:=fun i=>i<=s.vals.length/\(s.vals.take i).all isT=true,mu:=fun i=>s.vals.length - i,i0:=fun _=>0,nx:=fun a _=>(fun i=>i+1) a,live:=[1],sets:=fun i=>[(3,sv (.int .i64 i))],mids:=[31],blks:=fun i=>[],owns:=fun i=>[],rd:=fun r _=>r,base:=100000 }
 | 7,se=>some { α:=Nat,ok:=fun i=>i<=s.heap.length/\s.vals.all isT=true/\(s.heap.take i).all hv=true,mu:=fun i=>s.heap.length - i,i0:=fun _=>0,nx:=fun a _=>(fun i=>i+1) a,live:=[1],sets:=fun i=>[(4,sv (.int .i64 i))],mids:=[31],blks:=fun i=>[],owns:=fun i=>[],rd:=fun r _=>r,base:=200000 }
 | _,_=>none
def VC_sStateValid_1 (s:GState):Prop:=TT/\(RL [.s (.c (.ptr 31 0))])/\(([.s (.c (.d (.val (.int .i64 (0:Int)))))]:List S)=[.s (.c (.d (.val (.int .i64 ((0:Nat):Int)))))])/\(RM [some (.blk [.d (.arr .int s.vals),.d (.arr .int s.heap)])])/\(RM [])/\True/\TT
def VC_sStateValid_2 (s:GState):Prop:=True/\(((false,()):Bool × Unit)=(stV s,()))/\True/\True/\True/\True/\TF
def VC_sStateValid_3 (i1:Nat) (s:GState):Prop:=TT/\(RL [.s (.c (.ptr 31 0))])/\(([.s (.c (.d (.val (.int .i64 (((i1:Nat):Int)+(1:Int))))))]:List S)=[.s (.c (.d (.val (.int .i64 (((i1+1):Nat):Int)))))])/\(RM [some (.blk [.d (.arr .int s.vals),.d (.arr .int s.heap)])])/\(RM [])/\True/\TT
def VC_sStateValid_4 (i2:Nat) (s:GState):Prop:=True/\(inK .i64 (((i2:Nat):Int)+(1:Int)))/\True/\((i2+1)<=s.heap.length/\s.vals.all isT=true/\(s.heap.take (i2+1)).all hv=true)/\(s.heap.length - (i2+1) < s.heap.length - i2)/\(VC_sStateValid_3 i2 s)
def VC_sStateValid (s:GState) (k:Nat):Prop:=TN/\True/\True/\((0<=s.vals.length/\(s.vals.take 0).all isT=true)/\(VC_sStateValid_1 s))/\(∀ i1:Nat,(i1<=s.vals.length/\(s.vals.take i1).all isT=true)->True/\True/\True/\True/\True/\(vcIf (decide (((i1:Nat):Int) < ((s.vals.length:Nat):Int))) (True/\True/\True/\(0<=((i1:Nat):Int)/\((i1:Nat):Int) < ((s.vals.length:Nat):Int))/\True/\(True/\True/\True)/\True/\(vcIf (!(isT (s.vals.getD i1 (0:Int)))) (VC_sStateValid_2 s) (True/\(inK .i64 (((i1:Nat):Int)+(1:Int)))/\True/\((i1+1)<=s.vals.length/\(s.vals.take (i1+1)).all isT=true)/\(s.vals.length - (i1+1) < s.vals.length - i1)/\(VC_sStateValid_3 i1 s)))) (True/\((0<=s.heap.length/\s.vals.all isT=true/\(s.heap.take 0).all hv=true)/\(VC_sStateValid_1 s))/\(∀ i2:Nat,(i2<=s.heap.length/\s.vals.all isT=true/\(s.heap.take i2).all hv=true)->True/\True/\True/\True/\True/\(vcIf (decide (((i2:Nat):Int) < ((s.heap.length:Nat):Int))) (True/\True/\True/\(0<=((i2:Nat):Int)/\((i2:Nat):Int) < ((s.heap.length:Nat):Int))/\True/\True/\True/\(vcIf ((s.heap.getD i2 (0:Int)) != (-1:Int)) (True/\True/\True/\(0<=((i2:Nat):Int)/\((i2:Nat):Int) < ((s.heap.length:Nat):Int))/\True/\(True/\True/\True)/\True/\True/\(vcIf (!(isT (s.heap.getD i2 (0:Int)))) (VC_sStateValid_2 s) (VC_sStateValid_4 i2 s))) (True/\(VC_sStateValid_4 i2 s)))) (True/\True/\True/\True/\True/\(vcIf (((s.vals.length:Nat):Int) == (8:Int)) (True/\True/\True/\True/\True/\True/\(((((s.heap.length:Nat):Int) == (8:Int),()):Bool × Unit)=(stV s,()))/\True/\True/\True/\True/\TF) (True/\(VC_sStateValid_2 s)))))))))
theorem vcn_sStateValid (s:GState) (k:Nat) (hp:s.vals.length<=281474976710656/\s.heap.length<=281474976710656):VC_sStateValid s k:=by
 unfold VC_sStateValid VC_sStateValid_4 VC_sStateValid_3 VC_sStateValid_2 VC_sStateValid_1
 simp only [cln,Nat.reduceEqDiff,Nat.reduceLeDiff,Nat.reduceAdd]
 all_goals (try simp only [opn])
 all_goals (repeat' (first | apply And.intro | intro _))
 all_goals (first | omega | (simp_all;done) | grind [stV,hv,take_all,all_take,take_full])
theorem ok_sStateValid:FnOk Try.prog E 146 c_sStateValid :=
 fn_okQ (l:=L_sStateValid) (lp:=P_sStateValid) (hp:=fun _=>false) (gcs:=fun _=>none) (perm:=fun _=>[]) tabOk mix ⟨ok_l2Addr,trivial⟩ trivial Try.func146 rfl (by kernel_rfl) (by decide) (by kernel_rfl) (anns:=fun x _=>an_sStateValid x.1) (fun ⟨s,_⟩ k hp _=>Eq.mp (by kernel_rfl) (vcn_sStateValid s k hp)) tot_fn
abbrev c_sUsedCells:Con:=⟨[.state],[.sl .int],fun (s,_)=>s.vals.length<=281474976710656/\s.heap.length<=281474976710656,.inl fun (s,_)=>(cond (stV s) (usL s 8) [],()),fun _=>0⟩
abbrev L_sUsedCells:List (FuncId × Con):=[(143,c_l2Has),(146,c_sStateValid)]
abbrev P_sUsedCells:List (FuncId × PT):=[]
def an_sUsedCells (s:GState):Nat->St->Option Ann
 | 3,se=>some { α:=Nat,ok:=fun i=>i<=8/\(stV s=true ∨ i=0),mu:=fun i=>8 - i,i0:=fun _=>0,nx:=fun a _=>(fun i=>i+1) a,live:=[1,2],sets:=fun i=>[(4,sv (.int .i64 ((i:Int)+1)))],mids:=[31,32],blks:=fun i=>[],owns:=fun i=>[⟨7,.slot 3,.int,usL s i⟩],rd:=fun r _=>r,base:=100000 }
 | _,_=>none
def VC_sUsedCells_1 (s:GState):Prop:=RM [some (.blk [.d (.arr .int s.vals),.d (.arr .int s.heap)]),some (.sl 32 .int ([]:List Int))]
def VC_sUsedCells_2 (i1:Nat):Prop:=([.s (.c (.d (.val (.int .i64 (((i1:Int)+1:Int)+(1:Int))))))]:List S)=[.s (.c (.d (.val (.int .i64 (((i1+1):Int)+1:Int)))))]
def VC_sUsedCells_3 (s:GState) (i1:Nat):Prop:=True/\True/\(((usL s i1,()):(List Int) × Unit)=(cond (stV s) (usL s 8) [],()))/\(True/\True)/\((TF/\TF)/\True)/\True/\(True/\True)/\TF
def VC_sUsedCells (s:GState) (k:Nat):Prop:=TN/\TN/\(TN/\True)/\True/\True/\((0<=8/\(stV s=true ∨ 0=0))/\TT/\(RL [.s (.c (.ptr 31 0)),.s (.c (.own 32))])/\(([.s (.c (.d (.val (.int .i64 (1:Int)))))]:List S)=[.s (.c (.d (.val (.int .i64 ((0:Int)+1:Int)))))])/\(VC_sUsedCells_1 s)/\(RM [])/\(((some ([]:List Int):Option (List Int))=some (usL s 0))/\True)/\TT)/\(∀ i1:Nat,(i1<=8/\(stV s=true ∨ i1=0))->True/\True/\True/\(vcIf (decide (((i1:Int)+1:Int)<=(8:Int))) (True/\((s.vals.length<=281474976710656/\s.heap.length<=281474976710656)/\True/\True)/\True/\(vcIf (stV s) (True/\True/\((stV s=true)/\True/\True)/\(vcIf (al s ((i1:Int)+1:Int)) (True/\True/\(TN/\True)/\(TN/\TF/\TF/\((usL s i1).length+([((i1:Int)+1:Int)]:List Int).length<=4294967296))/\True/\True/\(inK .i64 (((i1:Int)+1:Int)+(1:Int)))/\True/\((i1+1)<=8/\(stV s=true ∨ (i1+1)=0))/\(8 - (i1+1) < 8 - i1)/\TT/\(RL [.s (.c (.ptr 31 0)),.s (.c (.own 32))])/\(VC_sUsedCells_2 i1)/\(VC_sUsedCells_1 s)/\(RM [])/\(((some ((usL s i1) ++ ([((i1:Int)+1:Int)]:List Int)):Option (List Int))=some (usL s (i1+1)))/\True)/\TT) (True/\(inK .i64 (((i1:Int)+1:Int)+(1:Int)))/\True/\((i1+1)<=8/\(stV s=true ∨ (i1+1)=0))/\(8 - (i1+1) < 8 - i1)/\TT/\(RL [.s (.c (.ptr 31 0)),.s (.c (.own 32))])/\(VC_sUsedCells_2 i1)/\(VC_sUsedCells_1 s)/\(RM [])/\(((some (usL s i1):Option (List Int))=some (usL s (i1+1)))/\True)/\TT))) (VC_sUsedCells_3 s i1))) (True/\(VC_sUsedCells_3 s i1))))
theorem vcn_sUsedCells (s:GState) (k:Nat) (hp:s.vals.length<=281474976710656/\s.heap.length<=281474976710656):VC_sUsedCells s k:=by
 unfold VC_sUsedCells VC_sUsedCells_3 VC_sUsedCells_2 VC_sUsedCells_1
 simp only [cln,Nat.reduceEqDiff,Nat.reduceLeDiff,Nat.reduceAdd]
 all_goals (try simp only [opn])
 all_goals (repeat' (first | apply And.intro | intro _))
 all_goals (repeat (cases ‹_/\_›))
 all_goals (first | omega | rfl | assumption | (simp_all;done) | skip)
 all_goals (first | exact us_c1 ‹_› ‹_› | exact us_c2 ‹_› ‹_› | exact us_c3 ‹_› ‹_› | exact us_c4 ‹_› ‹_› ‹_› | exact Nat.le_trans (us_len _ ‹_›) (by decide) | skip)
theorem ok_sUsedCells:FnOk Try.prog E 112 c_sUsedCells :=
 fn_okQ (l:=L_sUsedCells) (lp:=P_sUsedCells) (hp:=fun _=>false) (gcs:=fun _=>none) (perm:=fun _=>[]) tabOk mix ⟨ok_l2Has,ok_sStateValid,trivial⟩ trivial Try.func112 rfl (by kernel_rfl) (by decide) (by kernel_rfl) (anns:=fun x _=>an_sUsedCells x.1) (fun ⟨s,_⟩ k hp _=>Eq.mp (by kernel_rfl) (vcn_sUsedCells s k hp)) tot_fn
abbrev c_l4Holds:Con:=⟨[.state,.asn],[.bool],fun (s,a,_)=>stV s=true/\asV a=true,.inl fun (s,a,_)=>(HOL s a,()),fun _=>0⟩
abbrev L_l4Holds:List (FuncId × Con):=[(110,c_l4Part),(111,c_l3List),(112,c_sUsedCells)]
abbrev P_l4Holds:List (FuncId × PT):=[]
def VC_l4Holds (s:GState) (a:GAsn) (k:Nat):Prop:=TN/\TN/\True/\True/\True/\((stV s=true/\asV a=true)/\True/\TN/\True)/\(∀ r1:(List Bool) × Bool × Unit,(r1.2.1=poB s a/\(r1.2.1=true->r1.1=fl9 (fun t=>(poL s a).contains t))/\r1.1.length=9)->True/\True/\True/\True/\True/\True/\True/\(vcIf r1.2.1 (True/\((r1.1.length<=1048576)/\True/\TN/\True)/\True/\True/\((s.vals.length<=281474976710656/\s.heap.length<=281474976710656)/\True/\TN/\True)/\True/\True/\True/\True/\((((((flL r1.1).length:Nat):Int) == (((cond (stV s) (usL s 8) []).length:Nat):Int),()):Bool × Unit)=(HOL s a,()))/\True/\True/\True/\True/\TF) (True/\True/\(((false,()):Bool × Unit)=(HOL s a,()))/\True/\True/\True/\True/\TF)))
theorem vcn_l4Holds (s:GState) (a:GAsn) (k:Nat) (hp:stV s=true/\asV a=true):VC_l4Holds s a k:=by
 unfold VC_l4Holds
 simp only [cln,Nat.reduceEqDiff,Nat.reduceLeDiff,Nat.reduceAdd]
 have hb:=stV_big hp.1
 have hs:=hp.1
 all_goals (try simp only [opn])
 all_goals (repeat' (first | apply And.intro | intro _))
 all_goals (repeat (cases ‹_/\_›))
 all_goals (first | omega | assumption | skip)
 all_goals (first
  | exact hol_q hs ‹_› ‹_› ‹_›
  | exact (hol_poF ((‹_=poB s a›).symm.trans ‹_›)).symm
  | skip)
theorem ok_l4Holds:FnOk Try.prog E 57 c_l4Holds :=
 fn_okQ (l:=L_l4Holds) (lp:=P_l4Holds) (hp:=fun _=>false) (gcs:=fun _=>none) (perm:=fun _=>[]) tabOk mix ⟨ok_l4Part,ok_l3List,ok_sUsedCells,trivial⟩ trivial Try.func57 rfl (by kernel_rfl) (by decide) (by kernel_rfl) (anns:=fun x _=>fun _ _=>none) (fun ⟨s,a,_⟩ k hp _=>Eq.mp (by kernel_rfl) (vcn_l4Holds s a k hp)) tot_fn
abbrev c_sCounterModel:Con:=⟨[.asn,.asn],[.state,.bool],fun (a,b,_)=>a.facts.length<=281474976710656/\a.atoms.length<=281474976710656/\b.facts.length<=281474976710656/\b.atoms.length<=281474976710656,.inl fun (a,b,_)=>(cmL a b,cmB a b,()),fun _=>0⟩
abbrev L_sCounterModel:List (FuncId × Con):=[(55,c_FailingCase),(56,c_l6Grow),(57,c_l4Holds)]
abbrev P_sCounterModel:List (FuncId × PT):=[]
def an_sCounterModel (a:GAsn) (b:GAsn):Nat->St->Option Ann
 | 3,se=>some { α:=Nat,ok:=fun i=>i<=64/\(fkB a b=true->∀ j:Nat,j < 2 * i->cmP a b (fkL a b) j=false),mu:=fun i=>64 - i,i0:=fun _=>0,nx:=fun a _=>(fun i=>i+1) a,live:=[2,3,4,6,7],sets:=fun i=>[(8,sv (.int .i64 i))],mids:=[47,63,64,65,79,240],blks:=fun i=>[],owns:=fun i=>[],rd:=fun r _=>r,base:=100000 }
 | 6,se=>some { α:=Nat,ok:=fun k=>k<=2/\0<=intAt se 8/\intAt se 8 < 64/\fkB a b=true/\∀ j:Nat,j < 2 * (intAt se 8).toNat+k->cmP a b (fkL a b) j=false,mu:=fun k=>2 - k,i0:=fun _=>0,nx:=fun a _=>(fun k=>k+1) a,live:=[2,3,4,6,7,8],sets:=fun k=>[(9,sv (.int .i64 k))],mids:=[47,63,64,65,79,240],blks:=fun k=>[],owns:=fun k=>[],rd:=fun r _=>r,base:=200000 }
 | _,_=>none
def VC_sCounterModel_1 (a:GAsn) (b:GAsn):Prop:=RL [.s (.c (.ptr 47 0)),.s (.c (.ptr 63 0)),.s (.c (.ptr 79 0)),.s (.c (.own 240)),.s (.c (.d (.val (.bool (fkB a b)))))]
def VC_sCounterModel_2 (a:GAsn) (b:GAsn):Prop:=(RM [some (.blk [.d (.arr .fact a.facts),.d (.arr .atom a.atoms)]),some (.blk [.d (.arr .fact b.facts),.d (.arr .atom b.atoms)]),some (.sl 64 .int ([]:List Int)),some (.sl 65 .int ([]:List Int)),some (.blk [.own 64,.own 65]),some (.sl 240 .int (fkL a b))])/\(RM [])/\True/\TT
def VC_sCounterModel_3 (a:GAsn) (b:GAsn):Prop:=(([.s (.c (.d (.val (.int .i64 (0:Int)))))]:List S)=[.s (.c (.d (.val (.int .i64 ((0:Nat):Int)))))])/\(VC_sCounterModel_2 a b)
def VC_sCounterModel_4 (a:GAsn) (b:GAsn) (i1:Nat):Prop:=RL [.s (.c (.ptr 47 0)),.s (.c (.ptr 63 0)),.s (.c (.ptr 79 0)),.s (.c (.own 240)),.s (.c (.d (.val (.bool (fkB a b))))),.s (.c (.d (.val (.int .i64 ((i1:Nat):Int)))))]
def VC_sCounterModel_5 (k2:Nat) (a:GAsn) (b:GAsn):Prop:=(([.s (.c (.d (.val (.int .i64 (((k2:Nat):Int)+(1:Int))))))]:List S)=[.s (.c (.d (.val (.int .i64 (((k2+1):Nat):Int)))))])/\(VC_sCounterModel_2 a b)
def VC_sCounterModel_6 (k2:Nat) (i1:Nat) (a:GAsn) (b:GAsn):Prop:=True/\(inK .i64 (((k2:Nat):Int)+(1:Int)))/\True/\((k2+1)<=2/\0<=((i1:Nat):Int)/\((i1:Nat):Int) < 64/\fkB a b=true/\∀ j:Nat,j < 2 * (((i1:Nat):Int)).toNat+(k2+1)->cmP a b (fkL a b) j=false)/\(2 - (k2+1) < 2 - k2)/\TT/\(VC_sCounterModel_4 a b i1)/\(VC_sCounterModel_5 k2 a b)
def VC_sCounterModel_7 (k2:Nat) (i1:Nat) (a:GAsn) (b:GAsn):Prop:=True/\(VC_sCounterModel_6 k2 i1 a b)
def VC_sCounterModel_8 (a:GAsn) (b:GAsn):Prop:=(TN/\TN/\True)/\(TF/\TF)/\True/\((((⟨([]:List Int),([]:List Int)⟩:GState),false,()):GState × Bool × Unit)=(cmL a b,cmB a b,()))/\((((100816:Nat) ≠ 100817)/\True)/\True/\True)/\((TF/\TF)/\(TF/\TF)/\True)/\True/\(True/\True/\True)/\TF
def VC_sCounterModel (a:GAsn) (b:GAsn) (k:Nat):Prop:=TN/\TN/\(TN/\TN/\TN/\True)/\True/\True/\True/\((a.facts.length<=281474976710656/\a.atoms.length<=281474976710656/\b.facts.length<=281474976710656/\b.atoms.length<=281474976710656)/\True/\TN/\True)/\True/\True/\True/\True/\True/\True/\((0<=64/\(fkB a b=true->∀ j:Nat,j < 2 * 0->cmP a b (fkL a b) j=false))/\TT/\(VC_sCounterModel_1 a b)/\(VC_sCounterModel_3 a b))/\(∀ i1:Nat,(i1<=64/\(fkB a b=true->∀ j:Nat,j < 2 * i1->cmP a b (fkL a b) j=false))->True/\True/\(vcIf (fkB a b) (True/\True/\True/\(vcIf (decide (((i1:Nat):Int) < (64:Int))) (True/\((0<=2/\0<=((i1:Nat):Int)/\((i1:Nat):Int) < 64/\fkB a b=true/\∀ j:Nat,j < 2 * (((i1:Nat):Int)).toNat+0->cmP a b (fkL a b) j=false)/\TT/\(VC_sCounterModel_4 a b i1)/\(VC_sCounterModel_3 a b))/\(∀ k2:Nat,(k2<=2/\0<=((i1:Nat):Int)/\((i1:Nat):Int) < 64/\fkB a b=true/\∀ j:Nat,j < 2 * (((i1:Nat):Int)).toNat+k2->cmP a b (fkL a b) j=false)->True/\True/\(vcIf (decide (((k2:Nat):Int) < (2:Int))) (True/\True/\True/\True/\True/\((asV a=true/\CaseOk a (fkL a b)/\0<=((i1:Nat):Int)/\((i1:Nat):Int) < 64)/\True/\TN/\TN/\True)/\True/\True/\True/\(TN/\TN/\TN/\True)/\(TF/\TF)/\True/\True/\True/\(vcIf (grB a (fkL a b) ((i1:Nat):Int) (((k2:Nat):Int) == (0:Int))) (True/\True/\((stV (grL a (fkL a b) ((i1:Nat):Int) (((k2:Nat):Int) == (0:Int)))=true/\asV a=true)/\True/\True)/\True/\True/\(vcIf (HOL (grL a (fkL a b) ((i1:Nat):Int) (((k2:Nat):Int) == (0:Int))) a) (True/\True/\((stV (grL a (fkL a b) ((i1:Nat):Int) (((k2:Nat):Int) == (0:Int)))=true/\asV b=true)/\True/\True)/\True/\True/\(vcIf (!(HOL (grL a (fkL a b) ((i1:Nat):Int) (((k2:Nat):Int) == (0:Int))) b)) (True/\(TF/\TF)/\True/\((((grL a (fkL a b) ((i1:Nat):Int) (((k2:Nat):Int) == (0:Int))),true,()):GState × Bool × Unit)=(cmL a b,cmB a b,()))/\((((200560:Nat) ≠ 200561)/\True)/\True/\True)/\((TF/\TF)/\(TF/\TF)/\True)/\True/\(True/\True/\True)/\TF) (VC_sCounterModel_6 k2 i1 a b))) (VC_sCounterModel_7 k2 i1 a b))) (True/\True/\(VC_sCounterModel_7 k2 i1 a b)))) (True/\(inK .i64 (((i1:Nat):Int)+(1:Int)))/\True/\((i1+1)<=64/\(fkB a b=true->∀ j:Nat,j < 2 * (i1+1)->cmP a b (fkL a b) j=false))/\(64 - (i1+1) < 64 - i1)/\TT/\(VC_sCounterModel_1 a b)/\(VC_sCounterModel_5 i1 a b))))) (VC_sCounterModel_8 a b))) (True/\(VC_sCounterModel_8 a b))))
theorem vcn_sCounterModel (a:GAsn) (b:GAsn) (k:Nat) (hp:a.facts.length<=281474976710656/\a.atoms.length<=281474976710656/\b.facts.length<=281474976710656/\b.atoms.length<=281474976710656):VC_sCounterModel a b k:=by
 unfold VC_sCounterModel VC_sCounterModel_8 VC_sCounterModel_7 VC_sCounterModel_6 VC_sCounterModel_5 VC_sCounterModel_4 VC_sCounterModel_3 VC_sCounterModel_2 VC_sCounterModel_1
 simp only [cln,Nat.reduceEqDiff,Nat.reduceLeDiff,Nat.reduceAdd]
 all_goals (try simp only [opn])
 all_goals (repeat' (first | apply And.intro | intro _))
 all_goals (repeat (cases ‹_/\_›))
 all_goals (first | with_reducible exact True.intro | (exfalso;contradiction) | omega | with_reducible assumption | with_reducible rfl | skip)
 all_goals (try (have e:=(fk_hd ‹asV a=true› ‹asV b=true› ‹(FC a b).isEmpty=false›).1;simp only [e] at *;clear e))
 all_goals (try (have e:=cm_ar ‹((_:Nat):Int) < 2›;simp only [e] at *;clear e))
 all_goals (try (have e:=cm_vr (by assumption:grB a (fkL a b) _ _=true);simp only [e] at *;clear e))
 all_goals (first
  | with_reducible exact fc_hlen ‹_›
  | with_reducible exact (cm_n1 ‹_›).1 | with_reducible exact (cm_n1 ‹_›).2 | with_reducible exact (cm_n2 ‹_›).1 | with_reducible exact (cm_n2 ‹_›).2
  | with_reducible exact (cm_n3 ‹_› ‹_› ‹_›).1 | with_reducible exact (cm_n3 ‹_› ‹_› ‹_›).2
  | with_reducible exact (cm_no ‹_›).1 | with_reducible exact (cm_no ‹_›).2
  | with_reducible exact (fk_hd ‹_› ‹_› ‹_›).2
  | with_reducible exact fk_ok ‹_› | with_reducible exact fk_ok (fk_hd ‹_› ‹_› ‹_›).2
  | with_reducible exact fk_va ‹_› | with_reducible exact fk_vb ‹_› | with_reducible exact grL_stV
  | (have h9:=(fk_ok ‹fkB a b=true›).len;omega) | (have h9:=(fk_ok (fk_hd ‹asV a=true› ‹asV b=true› ‹(FC a b).isEmpty=false›).2).len;rw [(fk_hd ‹asV a=true› ‹asV b=true› ‹(FC a b).isEmpty=false›).1];rw [List.length_replicate];exact h9)
  | (with_reducible refine Nat.le_trans (m:=200) ?_ (by decide);first | with_reducible exact gr200V | with_reducible exact gr200H)
  | with_reducible exact (cm_hit ‹_› ‹_› ‹_› ‹_› ‹_› ‹_› ‹_›).1
  | with_reducible exact (cm_hit ‹_› ‹_› ‹_› ‹_› ‹_› ‹_› ‹_›).2
  | with_reducible exact cm_st1 ‹_› ‹_› ‹_› ‹_› | with_reducible exact cm_st2 ‹_› ‹_› ‹_› ‹_› | with_reducible exact cm_st3 ‹_› ‹_› ‹_› ‹_›
  | with_reducible exact cm_nx ‹_› ‹_› ‹_› ‹_›
  | with_reducible exact (cm_end ‹_› ‹_› ‹_›).1 | with_reducible exact (cm_end ‹_› ‹_› ‹_›).2
  | with_reducible exact (cm_end ((by assumption:fkB a b=true->_) ‹_›) ‹_› ‹_›).1 | with_reducible exact (cm_end ((by assumption:fkB a b=true->_) ‹_›) ‹_› ‹_›).2
  | exact ‹∀ j:Nat,j < 2 * _->cmP a b (fkL a b) j=false› _ (by omega) | exact ‹fkB a b=true->∀ j:Nat,j < 2 * _->cmP a b (fkL a b) j=false› ‹_› _ (by omega)
  | skip)
theorem ok_sCounterModel:FnOk Try.prog E 17 c_sCounterModel :=
 fn_okQ (l:=L_sCounterModel) (lp:=P_sCounterModel) (hp:=fun _=>false) (gcs:=fun _=>none) (perm:=fun _=>[]) tabOk mix ⟨ok_FailingCase,ok_l6Grow,ok_l4Holds,trivial⟩ trivial Try.func17 rfl (by kernel_rfl) (by decide) (by kernel_rfl) (anns:=fun x _=>an_sCounterModel x.1 x.2.1) (fun ⟨a,b,_⟩ k hp _=>Eq.mp (by kernel_rfl) (vcn_sCounterModel a b k hp)) tot_fn
abbrev c_sameInts:Con:=⟨[.sl .int,.sl .int],[.bool],fun (a,b,_)=>a.length<=281474976710656/\b.length<=281474976710656,.inl fun (a,b,_)=>(decide (a=b),()),fun _=>0⟩
abbrev L_sameInts:List (FuncId × Con):=[]
abbrev P_sameInts:List (FuncId × PT):=[]
def an_sameInts (a:List Int) (b:List Int):Nat->St->Option Ann
 | 4,se=>some { α:=Nat,ok:=fun i=>i<=a.length/\a.length=b.length/\a.take i=b.take i,mu:=fun i=>a.length - i,i0:=fun _=>0,nx:=fun a _=>(fun i=>i+1) a,live:=[1,12,13],sets:=fun i=>[(14,sv (.int .i64 i))],mids:=[],blks:=fun i=>[],owns:=fun i=>[],rd:=fun r _=>r,base:=100000 }
 | _,_=>none
def VC_sameInts_1 (a:List Int) (b:List Int):Prop:=True/\(((false,()):Bool × Unit)=(decide (a=b),()))/\True/\True/\True/\True/\TF
def VC_sameInts_2 (b:List Int) (a:List Int):Prop:=RL [.s (.c (.d (.arr .int b))),.s (.c (.d (.arr .int a))),.s (.c (.d (.val (.int .i64 ((a.length:Nat):Int)))))]
def VC_sameInts (a:List Int) (b:List Int) (k:Nat):Prop:=True/\True/\True/\True/\True/\True/\(vcIf (((a.length:Nat):Int) != ((b.length:Nat):Int)) (VC_sameInts_1 a b) (True/\True/\True/\((0<=a.length/\a.length=b.length/\a.take 0=b.take 0)/\TT/\(VC_sameInts_2 b a)/\(([.s (.c (.d (.val (.int .i64 (0:Int)))))]:List S)=[.s (.c (.d (.val (.int .i64 ((0:Nat):Int)))))])/\(RM [])/\(RM [])/\True/\TT)/\(∀ i1:Nat,(i1<=a.length/\a.length=b.length/\a.take i1=b.take i1)->True/\(vcIf (decide (((i1:Nat):Int) < ((a.length:Nat):Int))) (True/\(0<=((i1:Nat):Int)/\((i1:Nat):Int) < ((a.length:Nat):Int))/\True/\True/\True/\True/\True/\True/\(0<=((i1:Nat):Int)/\((i1:Nat):Int) < ((b.length:Nat):Int))/\True/\True/\(vcIf ((a.getD i1 (0:Int)) != (b.getD i1 (0:Int))) (VC_sameInts_1 a b) ((inK .i64 (((i1:Nat):Int)+(1:Int)))/\True/\((i1+1)<=a.length/\a.length=b.length/\a.take (i1+1)=b.take (i1+1))/\(a.length - (i1+1) < a.length - i1)/\TT/\(VC_sameInts_2 b a)/\(([.s (.c (.d (.val (.int .i64 (((i1:Nat):Int)+(1:Int))))))]:List S)=[.s (.c (.d (.val (.int .i64 (((i1+1):Nat):Int)))))])/\(RM [])/\(RM [])/\True/\TT))) (True/\(((true,()):Bool × Unit)=(decide (a=b),()))/\True/\True/\True/\True/\TF)))))
theorem vcn_sameInts (a:List Int) (b:List Int) (k:Nat) (hp:a.length<=281474976710656/\b.length<=281474976710656):VC_sameInts a b k:=by
 unfold VC_sameInts VC_sameInts_2 VC_sameInts_1
 simp only [cln,Nat.reduceEqDiff,Nat.reduceLeDiff,Nat.reduceAdd]
 all_goals (try simp only [vcIf_iff,decide_eq_true_eq,decide_eq_false_iff_not,bne_iff_ne,ne_eq,beq_iff_eq,beq_eq_false_iff_ne,bne_eq_false_iff_eq,Bool.not_eq_true',Bool.not_eq_false',Int.ofNat_lt,Int.natCast_inj])
 all_goals (repeat' (first | apply And.intro | intro _))
 all_goals (first | omega | (simp_all;done) | grind [same_step,same_not,take_full])
theorem ok_sameInts:FnOk Try.prog E 58 c_sameInts :=
 fn_okQ (l:=L_sameInts) (lp:=P_sameInts) (hp:=fun _=>false) (gcs:=fun _=>none) (perm:=fun _=>[]) tabOk mix trivial trivial Try.func58 rfl (by kernel_rfl) (by decide) (by kernel_rfl) (anns:=fun x _=>an_sameInts x.1 x.2.1) (fun ⟨a,b,_⟩ k hp _=>Eq.mp (by kernel_rfl) (vcn_sameInts a b k hp)) tot_fn
abbrev c_StateSame:Con:=⟨[.state,.state],[.bool],fun (s,t,_)=>s.vals.length<=281474976710656/\s.heap.length<=281474976710656/\t.vals.length<=281474976710656/\t.heap.length<=281474976710656,.inl fun (s,t,_)=>(decide (s=t),()),fun _=>0⟩
abbrev L_StateSame:List (FuncId × Con):=[(58,c_sameInts)]
abbrev P_StateSame:List (FuncId × PT):=[]
def VC_StateSame (s:GState) (t:GState) (k:Nat):Prop:=TN/\TN/\True/\True/\True/\True/\True/\((s.vals.length<=281474976710656/\t.vals.length<=281474976710656)/\True/\True)/\True/\(vcIf (decide (s.vals=t.vals)) (True/\True/\True/\True/\((s.heap.length<=281474976710656/\t.heap.length<=281474976710656)/\True/\True)/\True/\True/\((((decide (s.heap=t.heap)),()):Bool × Unit)=(decide (s=t),()))/\True/\True/\True/\True/\TF) (True/\True/\(((false,()):Bool × Unit)=(decide (s=t),()))/\True/\True/\True/\True/\TF))
theorem vcn_StateSame (s:GState) (t:GState) (k:Nat) (hp:s.vals.length<=281474976710656/\s.heap.length<=281474976710656/\t.vals.length<=281474976710656/\t.heap.length<=281474976710656):VC_StateSame s t k:=by
 unfold VC_StateSame
 simp only [cln,Nat.reduceEqDiff,Nat.reduceLeDiff,Nat.reduceAdd]
 obtain ⟨b1,b2⟩:=t;obtain ⟨a1,a2⟩:=s
 all_goals (try simp only [vcIf_iff,decide_eq_true_eq,decide_eq_false_iff_not,bne_iff_ne,ne_eq,beq_iff_eq,beq_eq_false_iff_ne,bne_eq_false_iff_eq,Bool.not_eq_true',Bool.not_eq_false',Int.ofNat_lt,Int.natCast_inj])
 all_goals (repeat' (first | apply And.intro | intro _))
 all_goals (first | omega | (simp_all;done) | grind [])
theorem ok_StateSame:FnOk Try.prog E 18 c_StateSame :=
 fn_okQ (l:=L_StateSame) (lp:=P_StateSame) (hp:=fun _=>false) (gcs:=fun _=>none) (perm:=fun _=>[]) tabOk mix ⟨ok_sameInts,trivial⟩ trivial Try.func18 rfl (by kernel_rfl) (by decide) (by kernel_rfl) (anns:=fun x _=>fun _ _=>none) (fun ⟨s,t,_⟩ k hp _=>Eq.mp (by kernel_rfl) (vcn_StateSame s t k hp)) tot_fn
abbrev c_iEntails:Con:=⟨[.asn,.asn],[.bool],fun (a,b,_)=>a.facts.length<=281474976710656/\a.atoms.length<=281474976710656/\b.facts.length<=281474976710656/\b.atoms.length<=281474976710656,.inl fun (a,b,_)=>(ENT a b,()),fun _=>0⟩
abbrev L_iEntails:List (FuncId × Con):=[(37,c_iAssertionValid),(53,c_failingCase)]
abbrev P_iEntails:List (FuncId × PT):=[]
def VC_iEntails_1 (a:GAsn) (b:GAsn):Prop:=True/\(((false,()):Bool × Unit)=(ENT a b,()))/\True/\True/\True/\True/\TF
def VC_iEntails (a:GAsn) (b:GAsn) (k:Nat):Prop:=TN/\TN/\True/\True/\((a.facts.length<=281474976710656/\a.atoms.length<=281474976710656)/\True/\True)/\True/\True/\(vcIf (!(asV a)) (True/\(VC_iEntails_1 a b)) (True/\((b.facts.length<=281474976710656/\b.atoms.length<=281474976710656)/\True/\True)/\True/\True/\(vcIf (!(asV b)) (VC_iEntails_1 a b) (True/\True/\((asV a=true/\asV b=true)/\True/\True)/\True/\True/\True/\(TN/\True)/\((((FC a b).headD (List.replicate 9 0)).length=(List.replicate 9 (0:Int)).length)/\TF/\TF)/\True/\True/\True/\True/\(((!(!(FC a b).isEmpty),()):Bool × Unit)=(ENT a b,()))/\True/\True/\True/\True/\TF))))
theorem vcn_iEntails (a:GAsn) (b:GAsn) (k:Nat) (hp:a.facts.length<=281474976710656/\a.atoms.length<=281474976710656/\b.facts.length<=281474976710656/\b.atoms.length<=281474976710656):VC_iEntails a b k:=by
 unfold VC_iEntails VC_iEntails_1
 simp only [cln,Nat.reduceEqDiff,Nat.reduceLeDiff,Nat.reduceAdd]
 all_goals (try simp only [opn])
 all_goals (repeat' (first | apply And.intro | intro _))
 all_goals (repeat (cases ‹_/\_›))
 all_goals (first | omega | rfl | assumption | exact (ent_no1 ‹_›).symm | exact (ent_no2 ‹_›).symm | (rw [ENT_FC ‹_› ‹_›,Bool.not_not];done) | exact fc_len ‹_› ‹_› | skip)
theorem ok_iEntails:FnOk Try.prog E 20 c_iEntails :=
 fn_okQ (l:=L_iEntails) (lp:=P_iEntails) (hp:=fun _=>false) (gcs:=fun _=>none) (perm:=fun _=>[]) tabOk mix ⟨ok_iAssertionValid,ok_failingCase,trivial⟩ trivial Try.func20 rfl (by kernel_rfl) (by decide) (by kernel_rfl) (anns:=fun x _=>fun _ _=>none) (fun ⟨a,b,_⟩ k hp _=>Eq.mp (by kernel_rfl) (vcn_iEntails a b k hp)) tot_fn
abbrev c_FnEntailsModels:Con:=⟨[.sl .u8],[.bool],fun (code,_)=>code.length<=281474976710656,.inl fun (code,_)=>(true,()),fun _=>0⟩
abbrev L_FnEntailsModels:List (FuncId × Con):=[(15,c_DrawCounterModel),(16,c_iCounterModel),(17,c_sCounterModel),(18,c_StateSame),(19,c_iHolds),(20,c_iEntails)]
abbrev P_FnEntailsModels:List (FuncId × PT):=[]
def VC_FnEntailsModels_1 :Prop:=True/\(((true,()):Bool × Unit)=(true,()))/\True/\True/\True/\True/\TF
def VC_FnEntailsModels_2 (r1:GAsn × GAsn × Unit):Prop:=r1.1.facts.length<=281474976710656/\r1.1.atoms.length<=281474976710656/\r1.2.1.facts.length<=281474976710656/\r1.2.1.atoms.length<=281474976710656
def VC_FnEntailsModels_3 (r1:GAsn × GAsn × Unit):Prop:=(VC_FnEntailsModels_2 r1)/\True/\TN/\TN/\True
def VC_FnEntailsModels_4 :Prop:=True/\(((false,()):Bool × Unit)=(true,()))/\True/\True/\True/\True/\TF
def VC_FnEntailsModels_5 :Prop:=True/\VC_FnEntailsModels_4
def VC_FnEntailsModels_6 :Prop:=True/\VC_FnEntailsModels_5
def VC_FnEntailsModels (code:List UInt8) (k:Nat):Prop:=True/\True/\True/\True/\(vcIf (decide ((1048576:Int) < ((code.length:Nat):Int))) VC_FnEntailsModels_1 (True/\(True/\True/\True/\TN/\TN/\TN/\True)/\(∀ r1:GAsn × GAsn × Unit,(r1.1.facts.length<=40/\r1.1.atoms.length<=40/\r1.2.1.facts.length<=40/\r1.2.1.atoms.length<=40)->True/\True/\True/\(TN/\TN/\TN/\True)/\(TN/\TN/\TN/\True)/\(TF/\TF)/\(TF/\TF)/\True/\True/\(VC_FnEntailsModels_3 r1)/\True/\True/\True/\(TN/\TN/\TN/\True)/\(TF/\TF)/\True/\True/\True/\(VC_FnEntailsModels_3 r1)/\True/\True/\True/\(TN/\TN/\TN/\True)/\(TF/\TF)/\True/\True/\True/\True/\True/\(vcIf ((cmB r1.1 r1.2.1) != (cmB r1.1 r1.2.1)) VC_FnEntailsModels_5 (True/\True/\(((cmL r1.1 r1.2.1).vals.length<=281474976710656/\(cmL r1.1 r1.2.1).heap.length<=281474976710656/\(cmL r1.1 r1.2.1).vals.length<=281474976710656/\(cmL r1.1 r1.2.1).heap.length<=281474976710656)/\True/\True)/\True/\True/\(vcIf (!(decide ((cmL r1.1 r1.2.1)=(cmL r1.1 r1.2.1)))) VC_FnEntailsModels_4 (True/\True/\True/\(vcIf (!(cmB r1.1 r1.2.1)) (True/\VC_FnEntailsModels_1) (True/\True/\(((cmL r1.1 r1.2.1).vals.length<=281474976710656/\(cmL r1.1 r1.2.1).heap.length<=281474976710656/\r1.1.facts.length<=281474976710656/\r1.1.atoms.length<=281474976710656)/\True/\True)/\True/\(vcIf (HOL (cmL r1.1 r1.2.1) r1.1) (True/\True/\(((cmL r1.1 r1.2.1).vals.length<=281474976710656/\(cmL r1.1 r1.2.1).heap.length<=281474976710656/\r1.2.1.facts.length<=281474976710656/\r1.2.1.atoms.length<=281474976710656)/\True/\True)/\True/\True/\True/\(vcIf (!(HOL (cmL r1.1 r1.2.1) r1.2.1)) (True/\True/\((VC_FnEntailsModels_2 r1)/\True/\True)/\True/\True/\True/\True/\(((!(ENT r1.1 r1.2.1),()):Bool × Unit)=(true,()))/\True/\True/\True/\True/\TF) VC_FnEntailsModels_6)) (True/\True/\VC_FnEntailsModels_6)))))))))))
theorem vcn_FnEntailsModels (code:List UInt8) (k:Nat) (hp:code.length<=281474976710656):VC_FnEntailsModels code k:=by
 unfold VC_FnEntailsModels VC_FnEntailsModels_6 VC_FnEntailsModels_5 VC_FnEntailsModels_4 VC_FnEntailsModels_3 VC_FnEntailsModels_2 VC_FnEntailsModels_1
 simp only [cln,Nat.reduceEqDiff,Nat.reduceLeDiff,Nat.reduceAdd,bne_self_eq_false,beq_self_eq_true,decide_true,eq_self,Bool.not_true,Bool.not_false,vcIf_true,vcIf_false,Bool.false_and,Bool.true_and,Bool.or_false,Bool.or_true]
 all_goals (try simp only [opn])
 all_goals (repeat' (first | apply And.intro | intro _))
 all_goals (repeat (cases ‹_/\_›))
 all_goals (first | with_reducible exact True.intro | (exfalso;contradiction) | omega | with_reducible assumption | with_reducible rfl | skip)
 all_goals (first
  | (with_reducible refine Nat.le_trans (m:=200) ?_ (by decide);first | with_reducible exact cm200V | with_reducible exact cm200H)
  | with_reducible exact (cm_a ‹_› ‹_›).elim | with_reducible exact (cm_b ‹_› ‹_›).elim | with_reducible exact (cm_e ‹_› ‹_›).elim
  | with_reducible exact cm_f ‹_›
  | skip)
theorem ok_FnEntailsModels:FnOk Try.prog E 3 c_FnEntailsModels :=
 fn_okQ (l:=L_FnEntailsModels) (lp:=P_FnEntailsModels) (hp:=fun _=>false) (gcs:=fun _=>none) (perm:=fun _=>[]) tabOk mix ⟨ok_DrawCounterModel,ok_iCounterModel,ok_sCounterModel,ok_StateSame,ok_iHolds,ok_iEntails,trivial⟩ trivial Try.func3 rfl (by kernel_rfl) (by decide) (by kernel_rfl) (anns:=fun x _=>fun _ _=>none) (fun ⟨code,_⟩ k hp _=>Eq.mp (by kernel_rfl) (vcn_FnEntailsModels code k hp)) tot_fn
end Go.Proofs.Ytopjgjelkpkmmaa
