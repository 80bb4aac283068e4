/-
  Contracts of single functions of the program, each shown by the engine: what a call returns for arguments within the contract's bounds.
-/
import Derived.Test.YtkafaeeianofnaaDoorFFnProgramConcata
import Derived.Test.YtkafaeeianofnaaDoorFFnProgramConcatb
import Derived.Test.YtkafaeeianofnaaDoorEd
import Derived.Test.YtkafaeeianofnaaDoorEe
set_option linter.unusedSimpArgs false
set_option linter.unusedVariables false
set_option linter.unusedSectionVars false

namespace Go.Proofs.YtkafaeeianofnaaDoor
open Go.SE Go.RowKit
variable [Base]
set_option linter.unusedSectionVars false
set_option linter.unusedSimpArgs false
set_option linter.unusedVariables false
set_option maxHeartbeats 1000000
set_option maxRecDepth 100000
abbrev c_l8Mutate:Con:=⟨[.rdr,.sl .cmd],[.sl .cmd],fun (rr,l,_)=>l.length+wcL l<=100000,.inr fun (rr,l,_) r=>(0 < l.length->0 < r.1.length)/\r.1.length+wcL r.1<=l.length+wcL l+17,fun (rr,l,_)=>3⟩
abbrev c_l8MutateN:Con:=⟨[.rdr,.sl .lcmd],[.sl .cmd],fun (rr,l,_)=>l.length+wcL l<=100000,.inr fun (rr,l,_) r=>(0 < l.length->0 < r.1.length)/\r.1.length+wcL r.1<=l.length+wcL l+17,fun (rr,l,_)=>3⟩
def nr_l8Mutate:Nat->Bool
 | 16=>true
 | _=>false
abbrev L_l8Mutate:List (FuncId × Con):=[(41,c_l8Copy),(42,c_pick),(43,c_num)]
abbrev P_l8Mutate:List (FuncId × PT):=[]
def an_l8Mutate (rr:Unit) (l:List GCmd):Nat->St->Option Ann
 | 13,se=>some { α:=List GCmd,ok:=fun m=>0 < m.length/\(m.length<=l.length ∨ m.length<=17)/\wcL m<=wcL l,mu:=fun m=>17 - m.length,i0:=fun st=>slAt .cmd st (.slot 5),nx:=fun m st=>slAt .cmd st (.slot 5),live:=[4,6,18],sets:=fun m=>[],mids:=[64],blks:=fun m=>[],owns:=fun m=>[⟨7,.slot 5,.cmd,m⟩],rd:=fun r _=>r,base:=100000 }
 | _,_=>none
def VC_l8Mutate_1 (r1:Int × Unit) (r2:Int × Unit):Prop:=RL [.s (.c (.own 64)),.s (.c (.d (.val (.int .i64 r1.1)))),.s (.c (.d (.val (.int .i64 r2.1))))]
def VC_l8Mutate_2 (l:List GCmd) (m6:List GCmd) (k:Nat):Prop:=True/\True/\((0 < l.length->0 < m6.length)/\m6.length+wcL m6<=l.length+wcL l+17)/\(True/\True)/\((TF/\TF)/\True)/\True/\(True/\True)/\(k+1+1<=k+3)
def VC_l8Mutate_3 (r2:Int × Unit) (k:Nat) (r1:Int × Unit) (l:List GCmd):Prop:=(True/\(vcIf (r2.1 == (2:Int)) (True/\True/\True/\(TN/\True)/\((0 < ([(1:Int),(9:Int)]:List Int).length/\([(1:Int),(9:Int)]:List Int).length<=1000)/\(k+1+1+1<=1099511627776)/\True)/\(∀ r5:Int × Unit,(r5.1 ∈ ([(1:Int),(9:Int)]:List Int))->True/\(0<=r1.1/\r1.1 < ((l.length:Nat):Int))/\True/\(TF/\TF/\True/\((128:Nat) ∉ ([]:List Nat)))/\True/\True/\((0 < l.length->0 < (l.set r1.1.toNat (GCmd.mk ((l.getD r1.1.toNat (Ty.zero .cmd)).kind) ((l.getD r1.1.toNat (Ty.zero .cmd)).a) ((l.getD r1.1.toNat (Ty.zero .cmd)).b) (⟨false,r5.1,(2:Int)⟩:GFact) ((l.getD r1.1.toNat (Ty.zero .cmd)).inv) ((l.getD r1.1.toNat (Ty.zero .cmd)).body) ((l.getD r1.1.toNat (Ty.zero .cmd)).els))).length)/\(l.set r1.1.toNat (GCmd.mk ((l.getD r1.1.toNat (Ty.zero .cmd)).kind) ((l.getD r1.1.toNat (Ty.zero .cmd)).a) ((l.getD r1.1.toNat (Ty.zero .cmd)).b) (⟨false,r5.1,(2:Int)⟩:GFact) ((l.getD r1.1.toNat (Ty.zero .cmd)).inv) ((l.getD r1.1.toNat (Ty.zero .cmd)).body) ((l.getD r1.1.toNat (Ty.zero .cmd)).els))).length+wcL (l.set r1.1.toNat (GCmd.mk ((l.getD r1.1.toNat (Ty.zero .cmd)).kind) ((l.getD r1.1.toNat (Ty.zero .cmd)).a) ((l.getD r1.1.toNat (Ty.zero .cmd)).b) (⟨false,r5.1,(2:Int)⟩:GFact) ((l.getD r1.1.toNat (Ty.zero .cmd)).inv) ((l.getD r1.1.toNat (Ty.zero .cmd)).body) ((l.getD r1.1.toNat (Ty.zero .cmd)).els)))<=l.length+wcL l+17)/\(True/\True)/\((TF/\TF)/\True)/\True/\(True/\True)/\(k+1+1+1<=k+3))) (True/\True/\(vcIf (r2.1 == (3:Int)) (((0 < l.length/\(l.length<=l.length ∨ l.length<=17)/\wcL l<=wcL l)/\TT/\(VC_l8Mutate_1 r1 r2)/\(RL [])/\(RM [some (.sl 64 .cmd ([]:List GCmd))])/\(RM [])/\(((some l:Option (List GCmd))=some l)/\True)/\(k+1+1<=k+1+1/\k+1+1<=1099511627776))/\(∀ m6:List GCmd,(0 < m6.length/\(m6.length<=l.length ∨ m6.length<=17)/\wcL m6<=wcL l)->True/\True/\True/\(vcIf (decide (((m6.length:Nat):Int)<=(16:Int))) (True/\(TN/\TN/\TN/\TN/\True)/\(TN/\TF/\TF/\TF/\TF/\True)/\(TN/\TF/\TF/\(m6.length+([(GCmd.mk (4:Int) (1:Int) (0:Int) (⟨false,(0:Int),(0:Int)⟩:GFact) (⟨([]:List GFact),([]:List GAtom)⟩:GAsn) ([]:List GCmd) ([]:List GCmd))]:List GCmd).length<=4294967296))/\True/\(0 < (m6 ++ ([(GCmd.mk (4:Int) (1:Int) (0:Int) (⟨false,(0:Int),(0:Int)⟩:GFact) (⟨([]:List GFact),([]:List GAtom)⟩:GAsn) ([]:List GCmd) ([]:List GCmd))]:List GCmd)).length/\((m6 ++ ([(GCmd.mk (4:Int) (1:Int) (0:Int) (⟨false,(0:Int),(0:Int)⟩:GFact) (⟨([]:List GFact),([]:List GAtom)⟩:GAsn) ([]:List GCmd) ([]:List GCmd))]:List GCmd)).length<=l.length ∨ (m6 ++ ([(GCmd.mk (4:Int) (1:Int) (0:Int) (⟨false,(0:Int),(0:Int)⟩:GFact) (⟨([]:List GFact),([]:List GAtom)⟩:GAsn) ([]:List GCmd) ([]:List GCmd))]:List GCmd)).length<=17)/\wcL (m6 ++ ([(GCmd.mk (4:Int) (1:Int) (0:Int) (⟨false,(0:Int),(0:Int)⟩:GFact) (⟨([]:List GFact),([]:List GAtom)⟩:GAsn) ([]:List GCmd) ([]:List GCmd))]:List GCmd))<=wcL l)/\(17 - (m6 ++ ([(GCmd.mk (4:Int) (1:Int) (0:Int) (⟨false,(0:Int),(0:Int)⟩:GFact) (⟨([]:List GFact),([]:List GAtom)⟩:GAsn) ([]:List GCmd) ([]:List GCmd))]:List GCmd)).length < 17 - m6.length)/\TT/\(VC_l8Mutate_1 r1 r2)/\(RL [])/\(RM [some (.sl 64 .cmd ([]:List GCmd))])/\(RM [])/\(((some (m6 ++ ([(GCmd.mk (4:Int) (1:Int) (0:Int) (⟨false,(0:Int),(0:Int)⟩:GFact) (⟨([]:List GFact),([]:List GAtom)⟩:GAsn) ([]:List GCmd) ([]:List GCmd))]:List GCmd)):Option (List GCmd))=some (m6 ++ ([(GCmd.mk (4:Int) (1:Int) (0:Int) (⟨false,(0:Int),(0:Int)⟩:GFact) (⟨([]:List GFact),([]:List GAtom)⟩:GAsn) ([]:List GCmd) ([]:List GCmd))]:List GCmd)))/\True)/\(k+1+1<=k+1+1/\k+1+1<=1099511627776)) (VC_l8Mutate_2 l m6 k)))) (True/\True/\(vcIf (r2.1 == (4:Int)) ((TF/\TF)/\((0<=r1.1)/\(r1.1 < ((l.length:Nat):Int)))/\(wcL l<=1048576)/\(∀ ys7:List GCmd,(ys7.length=l.length)->(wcL ys7<=wcL l+1)->(VC_l8Mutate_2 l ys7 k))) (True/\True/\((0 < l.length->0 < l.length)/\l.length+wcL l<=l.length+wcL l+17)/\(True/\True)/\((TF/\TF)/\True)/\True/\(True/\True)/\(k+1+1<=k+3))))))))
def VC_l8Mutate_4 (r2:Int × Unit) (k:Nat) (r1:Int × Unit) (l:List GCmd):Prop:=(True/\(vcIf (r2.1 == (0:Int)) (True/\True/\True/\(TN/\True)/\((0 < ([(0:Int),(8:Int),(1:Int),(6:Int),(7:Int)]:List Int).length/\([(0:Int),(8:Int),(1:Int),(6:Int),(7:Int)]:List Int).length<=1000)/\(k+1+1+1<=1099511627776)/\True)/\(∀ r3:Int × Unit,(r3.1 ∈ ([(0:Int),(8:Int),(1:Int),(6:Int),(7:Int)]:List Int))->(0<=r1.1/\r1.1 < ((l.length:Nat):Int))/\True/\(TF/\TF/\True/\((128:Nat) ∉ ([]:List Nat)))/\True/\True/\((0 < l.length->0 < (l.set r1.1.toNat (GCmd.mk r3.1 ((l.getD r1.1.toNat (Ty.zero .cmd)).a) ((l.getD r1.1.toNat (Ty.zero .cmd)).b) ((l.getD r1.1.toNat (Ty.zero .cmd)).test) ((l.getD r1.1.toNat (Ty.zero .cmd)).inv) ((l.getD r1.1.toNat (Ty.zero .cmd)).body) ((l.getD r1.1.toNat (Ty.zero .cmd)).els))).length)/\(l.set r1.1.toNat (GCmd.mk r3.1 ((l.getD r1.1.toNat (Ty.zero .cmd)).a) ((l.getD r1.1.toNat (Ty.zero .cmd)).b) ((l.getD r1.1.toNat (Ty.zero .cmd)).test) ((l.getD r1.1.toNat (Ty.zero .cmd)).inv) ((l.getD r1.1.toNat (Ty.zero .cmd)).body) ((l.getD r1.1.toNat (Ty.zero .cmd)).els))).length+wcL (l.set r1.1.toNat (GCmd.mk r3.1 ((l.getD r1.1.toNat (Ty.zero .cmd)).a) ((l.getD r1.1.toNat (Ty.zero .cmd)).b) ((l.getD r1.1.toNat (Ty.zero .cmd)).test) ((l.getD r1.1.toNat (Ty.zero .cmd)).inv) ((l.getD r1.1.toNat (Ty.zero .cmd)).body) ((l.getD r1.1.toNat (Ty.zero .cmd)).els)))<=l.length+wcL l+17)/\(True/\True)/\((TF/\TF)/\True)/\True/\(True/\True)/\(k+1+1+1<=k+3))) (True/\True/\(vcIf (r2.1 == (1:Int)) (True/\True/\True/\(TN/\True)/\((0 < ([(0:Int),(5:Int),(9:Int),(-1:Int)]:List Int).length/\([(0:Int),(5:Int),(9:Int),(-1:Int)]:List Int).length<=1000)/\(k+1+1+1<=1099511627776)/\True)/\(∀ r4:Int × Unit,(r4.1 ∈ ([(0:Int),(5:Int),(9:Int),(-1:Int)]:List Int))->(0<=r1.1/\r1.1 < ((l.length:Nat):Int))/\True/\(TF/\TF/\True/\((128:Nat) ∉ ([]:List Nat)))/\True/\True/\((0 < l.length->0 < (l.set r1.1.toNat (GCmd.mk ((l.getD r1.1.toNat (Ty.zero .cmd)).kind) r4.1 ((l.getD r1.1.toNat (Ty.zero .cmd)).b) ((l.getD r1.1.toNat (Ty.zero .cmd)).test) ((l.getD r1.1.toNat (Ty.zero .cmd)).inv) ((l.getD r1.1.toNat (Ty.zero .cmd)).body) ((l.getD r1.1.toNat (Ty.zero .cmd)).els))).length)/\(l.set r1.1.toNat (GCmd.mk ((l.getD r1.1.toNat (Ty.zero .cmd)).kind) r4.1 ((l.getD r1.1.toNat (Ty.zero .cmd)).b) ((l.getD r1.1.toNat (Ty.zero .cmd)).test) ((l.getD r1.1.toNat (Ty.zero .cmd)).inv) ((l.getD r1.1.toNat (Ty.zero .cmd)).body) ((l.getD r1.1.toNat (Ty.zero .cmd)).els))).length+wcL (l.set r1.1.toNat (GCmd.mk ((l.getD r1.1.toNat (Ty.zero .cmd)).kind) r4.1 ((l.getD r1.1.toNat (Ty.zero .cmd)).b) ((l.getD r1.1.toNat (Ty.zero .cmd)).test) ((l.getD r1.1.toNat (Ty.zero .cmd)).inv) ((l.getD r1.1.toNat (Ty.zero .cmd)).body) ((l.getD r1.1.toNat (Ty.zero .cmd)).els)))<=l.length+wcL l+17)/\(True/\True)/\((TF/\TF)/\True)/\True/\(True/\True)/\(k+1+1+1<=k+3))) (True/\(VC_l8Mutate_3 r2 k r1 l))))))
def VC_l8Mutate (rr:Unit) (l:List GCmd) (k:Nat):Prop:=TN/\True/\((l.length+wcL l<=1048576)/\True/\True/\TN/\True)/\True/\True/\True/\True/\(vcIf (((l.length:Nat):Int) == (0:Int)) (True/\True/\((0 < l.length->0 < l.length)/\l.length+wcL l<=l.length+wcL l+17)/\(True/\True)/\((TF/\TF)/\True)/\True/\(True/\True)/\(k<=k+3)) (True/\True/\True/\(True/\(k+1<=1099511627776)/\True)/\(∀ r1:Int × Unit,(pickP ((l.length:Nat):Int) r1.1)->True/\True/\(True/\(k+1+1<=1099511627776)/\True)/\(∀ r2:Int × Unit,(pickP (50:Int) r2.1)->True/\(VC_l8Mutate_4 r2 k r1 l)))))
theorem vcn_l8Mutate (rr:Unit) (l:List GCmd) (k:Nat) (hp:l.length+wcL l<=100000) (hk:k+(3)<=1099511627776):VC_l8Mutate rr l k:=by
 unfold VC_l8Mutate VC_l8Mutate_4 VC_l8Mutate_3 VC_l8Mutate_2 VC_l8Mutate_1
 simp only [cln,Nat.reduceEqDiff,Nat.reduceLeDiff,Nat.reduceAdd,GCmd.eta]
 all_goals (try simp only [vcIf_iff,decide_eq_true_eq,decide_eq_false_iff_not,bne_iff_ne,ne_eq,beq_iff_eq,beq_eq_false_iff_ne,bne_eq_false_iff_eq,Bool.not_eq_true',Bool.not_eq_false',Int.ofNat_lt,Int.natCast_inj])
 all_goals (repeat' (first | apply And.intro | intro _))
 all_goals (repeat (cases ‹_/\_›))
 all_goals (first | omega | with_reducible assumption | with_reducible rfl | rfl | skip)
 all_goals (first
  | (rw [List.length_set];omega)
  | exact mut_le (by omega) (by rw [wtC_eq,wtC_eq];exact Nat.le_refl _)
  | (rw [List.length_append];simp only [List.length_cons,List.length_nil];omega)
  | (simp only [List.length_append,List.length_cons,List.length_nil];omega)
  | exact mut_app ‹_› rfl
  | skip)
theorem ok_l8Mutate:FnOk Tryd.prog E 26 c_l8Mutate :=
 fn_okN (l:=L_l8Mutate) (lp:=P_l8Mutate) (hp:=fun _=>false) (gcs:=fun _=>none) (perm:=fun _=>[]) (nr:=nr_l8Mutate) tabOk mix (fun B'=>⟨@ok_l8Copy B',@ok_pick B',@ok_num B',trivial⟩) (fun B'=>trivial) Tryd.func26 rfl (by kernel_rfl) (by decide) tab23 tab53 (RegsOk.of (by kernel_rfl) (by kernel_rfl) (by kernel_rfl) (by kernel_rfl) (by kernel_rfl) (by kernel_rfl)) (by kernel_rfl) (anns:=fun x _=>an_l8Mutate x.1 x.2.1) (fun ⟨rr,l,_⟩ k hp hk=>Eq.mp (by kernel_rfl) (vcn_l8Mutate rr l k hp (hk True.intro))) (fun ⟨_,l,_⟩ h=>⟨(l,()),fun h=>h,(by show l.length+wcL l<=_;omega)⟩)
abbrev c_l8Count:Con:=⟨[.sl .cmd,.int],[.int],fun (l,d,_)=>BdL l/\0<=d/\d<=4/\ndL l<=1048576,.inl fun (l,d,_)=>((cnL d l:Int),()),fun _=>0⟩
abbrev mu_l8Count:Args c_l8Count.aks->Nat:=fun (l,d,_)=>ndL l
abbrev L_l8Count (m:Nat):List (FuncId × Con):=[(19,c_l8Count.lim mu_l8Count m)]
abbrev P_l8Count:List (FuncId × PT):=[]
def an_l8Count (l:List GCmd) (d:Int):Nat->St->Option Ann
 | 3,se=>some { α:=Nat,ok:=fun i=>i<=l.length/\(i=0 ∨ 1<=d),mu:=fun i=>l.length - i,i0:=fun _=>0,nx:=fun a _=>(fun i=>i+1) a,live:=[0,1,4],sets:=fun i=>[(6,sv (.int .i64 i)),(5,sv (.int .i64 (cnL d (l.take i))))],mids:=[],blks:=fun i=>[],owns:=fun i=>[],rd:=fun r _=>r,base:=100000 }
 | _,_=>none
def VC_l8Count_1 (l:List GCmd) (d:Int):Prop:=RL [.s (.c (.d (.arr .cmd l))),.s (.c (.d (.val (.int .i64 d)))),.s (.c (.d (.val (.int .i64 (0:Int)))))]
def VC_l8Count_2 (d:Int) (l:List GCmd) (i1:Nat):Prop:=True/\True/\((((cnL d (l.take i1):Int),()):Int × Unit)=((cnL d l:Int),()))/\True/\True/\True/\True/\TF
def VC_l8Count (l:List GCmd) (d:Int) (m:Nat) (k:Nat):Prop:=True/\True/\True/\((0<=l.length/\(0=0 ∨ 1<=d))/\TT/\(VC_l8Count_1 l d)/\(([.s (.c (.d (.val (.int .i64 (0:Int))))),.s (.c (.d (.val (.int .i64 (0:Int)))))]:List S)=[.s (.c (.d (.val (.int .i64 ((0:Nat):Int))))),.s (.c (.d (.val (.int .i64 (cnL d (l.take 0):Int)))))])/\(RM [])/\(RM [])/\True/\TT)/\(∀ i1:Nat,(i1<=l.length/\(i1=0 ∨ 1<=d))->True/\True/\True/\True/\True/\(vcIf (decide (((i1:Nat):Int) < ((l.length:Nat):Int))) (True/\True/\True/\(vcIf (decide ((0:Int) < d)) (True/\(inK .i64 ((cnL d (l.take i1):Int)+(1:Int)))/\True/\True/\(0<=((i1:Nat):Int)/\((i1:Nat):Int) < ((l.length:Nat):Int))/\True/\True/\True/\(inK .i64 (d - (1:Int)))/\(((BdL ((l.getD i1 (Ty.zero .cmd)).body)/\0<=(d - (1:Int))/\(d - (1:Int))<=4/\ndL ((l.getD i1 (Ty.zero .cmd)).body)<=1048576)/\ndL ((l.getD i1 (Ty.zero .cmd)).body) < m)/\True/\True)/\(inK .i64 (((cnL d (l.take i1):Int)+(1:Int))+(cnL (d - (1:Int)) ((l.getD i1 (Ty.zero .cmd)).body):Int)))/\True/\True/\(0<=((i1:Nat):Int)/\((i1:Nat):Int) < ((l.length:Nat):Int))/\True/\True/\True/\(inK .i64 (d - (1:Int)))/\(((BdL ((l.getD i1 (Ty.zero .cmd)).els)/\0<=(d - (1:Int))/\(d - (1:Int))<=4/\ndL ((l.getD i1 (Ty.zero .cmd)).els)<=1048576)/\ndL ((l.getD i1 (Ty.zero .cmd)).els) < m)/\True/\True)/\(inK .i64 ((((cnL d (l.take i1):Int)+(1:Int))+(cnL (d - (1:Int)) ((l.getD i1 (Ty.zero .cmd)).body):Int))+(cnL (d - (1:Int)) ((l.getD i1 (Ty.zero .cmd)).els):Int)))/\True/\True/\(inK .i64 (((i1:Nat):Int)+(1:Int)))/\True/\((i1+1)<=l.length/\((i1+1)=0 ∨ 1<=d))/\(l.length - (i1+1) < l.length - i1)/\TT/\(VC_l8Count_1 l d)/\(([.s (.c (.d (.val (.int .i64 (((i1:Nat):Int)+(1:Int)))))),.s (.c (.d (.val (.int .i64 ((((cnL d (l.take i1):Int)+(1:Int))+(cnL (d - (1:Int)) ((l.getD i1 (Ty.zero .cmd)).body):Int))+(cnL (d - (1:Int)) ((l.getD i1 (Ty.zero .cmd)).els):Int))))))]:List S)=[.s (.c (.d (.val (.int .i64 (((i1+1):Nat):Int))))),.s (.c (.d (.val (.int .i64 (cnL d (l.take (i1+1)):Int)))))])/\(RM [])/\(RM [])/\True/\TT) (VC_l8Count_2 d l i1))) (True/\(VC_l8Count_2 d l i1))))
theorem vcn_l8Count (l:List GCmd) (d:Int) (m:Nat) (k:Nat) (hp:(BdL l/\0<=d/\d<=4/\ndL l<=1048576)/\ndL l < m+1):VC_l8Count l d m k:=by
 unfold VC_l8Count VC_l8Count_2 VC_l8Count_1
 simp only [cln,Nat.reduceEqDiff,Nat.reduceLeDiff,Nat.reduceAdd]
 have hl:=hp.1.1.len
 have hg:∀ i,i < l.length->ndC (l.getD i (Ty.zero .cmd))<=ndL l/\BdL (l.getD i (Ty.zero .cmd)).body/\BdL (l.getD i (Ty.zero .cmd)).els :=
  fun i hi=>⟨ndL_get hi,(hp.1.1.get hi).b,(hp.1.1.get hi).e⟩
 have hn:∀ i,ndC (l.getD i (Ty.zero .cmd))=1+ndL (l.getD i (Ty.zero .cmd)).body+ndL (l.getD i (Ty.zero .cmd)).els:=fun i=>ndC_eq _
 have hs:=fun (i:Nat) (hi:i < l.length) (h1:1<=d)=>cnL_step (d:=d) (z:=Ty.zero .cmd) h1 hi
 have hc:=fun (i:Nat)=>cnC_eq d (l.getD i (Ty.zero .cmd))
 have hz:=fun (h:¬ 1<=d)=>cnL_low h l
 have hb:=fun (i:Nat)=>cnL_le (d - 1) (l.getD i (Ty.zero .cmd)).body
 have he:=fun (i:Nat)=>cnL_le (d - 1) (l.getD i (Ty.zero .cmd)).els
 have ht:=fun (i:Nat)=>cnL_le d (l.take i)
 have hu:=fun (i:Nat)=>ndL_take_le l i
 all_goals (try simp only [vcIf_iff,decide_eq_true_eq,decide_eq_false_iff_not,bne_iff_ne,ne_eq,beq_iff_eq,beq_eq_false_iff_ne,bne_eq_false_iff_eq,Bool.not_eq_true',Bool.not_eq_false',Int.ofNat_lt,Int.natCast_inj])
 all_goals (repeat' (first | apply And.intro | intro _))
 all_goals (repeat (cases ‹_/\_›))
 all_goals (first | omega | (simp_all;done) | grind [cnL_nil,List.take_length] | skip)
theorem ok_l8Count:FnOk Tryd.prog E 19 c_l8Count :=
 fn_rec (mu:=mu_l8Count) (fun m ih=>fn_okQ (con:=c_l8Count.lim mu_l8Count (m+1)) (fn:=Tryd.f19) (l:=L_l8Count m) (lp:=P_l8Count) (hp:=fun _=>false) (gcs:=fun _=>none) (perm:=fun _=>[]) tabOk mix ⟨ih,trivial⟩ trivial Tryd.func19 rfl (by kernel_rfl) (show c_l8Count.aks.length<=Tryd.f19.ntmps by decide) (by kernel_rfl) (anns:=fun x _=>an_l8Count x.1 x.2.1) (fun ⟨l,d,_⟩ k hp _=>Eq.mp (by kernel_rfl) (vcn_l8Count l d m k hp)) tot_fn) ⟨_,_,Tryd.func19,by kernel_rfl,rfl⟩ tot_fn
abbrev c_l1Is:Con:=⟨[.int],[.bool],fun _=>True,.inl fun (t,_)=>(isT t,()),fun _=>0⟩
abbrev L_l1Is:List (FuncId × Con):=[]
abbrev P_l1Is:List (FuncId × PT):=[]
def VC_l1Is (t:Int) (k:Nat):Prop:=True/\True/\True/\True/\(vcIf (decide ((0:Int)<=t)) (True/\True/\True/\True/\(((decide (t<=(8:Int)),()):Bool × Unit)=(isT t,()))/\True/\True/\True/\True/\TF) (True/\True/\(((false,()):Bool × Unit)=(isT t,()))/\True/\True/\True/\True/\TF))
theorem vcn_l1Is (t:Int) (k:Nat):VC_l1Is t k:=by
 unfold VC_l1Is
 simp only [cln,Nat.reduceEqDiff,Nat.reduceLeDiff,Nat.reduceAdd]
 cases h:decide (0<=t) <;> simp [vcIf,isT,h]
theorem ok_l1Is:FnOk Tryd.prog E 74 c_l1Is :=
 fn_okQ (l:=L_l1Is) (lp:=P_l1Is) (hp:=fun _=>false) (gcs:=fun _=>none) (perm:=fun _=>[]) tabOk mix trivial trivial Tryd.func74 rfl (by kernel_rfl) (by decide) (by kernel_rfl) (anns:=fun x _=>fun _ _=>none) (fun ⟨t,_⟩ k _ _=>Eq.mp (by kernel_rfl) (vcn_l1Is t k)) tot_fn
abbrev c_sFactValid:Con:=⟨[.fact],[.bool],fun _=>True,.inl fun (f,_)=>(fV f,()),fun _=>0⟩
abbrev L_sFactValid:List (FuncId × Con):=[(74,c_l1Is)]
abbrev P_sFactValid:List (FuncId × PT):=[]
def VC_sFactValid (f:GFact) (k:Nat):Prop:=TN/\True/\True/\True/\(True/\True/\True)/\True/\(vcIf (isT f.a) (True/\True/\(True/\True/\True)/\True/\True/\((((isT f.b),()):Bool × Unit)=(fV f,()))/\True/\True/\True/\True/\TF) (True/\True/\(((false,()):Bool × Unit)=(fV f,()))/\True/\True/\True/\True/\TF))
theorem vcn_sFactValid (f:GFact) (k:Nat):VC_sFactValid f k:=by
 unfold VC_sFactValid
 simp only [cln,Nat.reduceEqDiff,Nat.reduceLeDiff,Nat.reduceAdd]
 cases h:isT f.a <;> simp [vcIf,fV,h]
theorem ok_sFactValid:FnOk Tryd.prog E 51 c_sFactValid :=
 fn_okQ (l:=L_sFactValid) (lp:=P_sFactValid) (hp:=fun _=>false) (gcs:=fun _=>none) (perm:=fun _=>[]) tabOk mix ⟨ok_l1Is,trivial⟩ trivial Tryd.func51 rfl (by kernel_rfl) (by decide) (by kernel_rfl) (anns:=fun x _=>fun _ _=>none) (fun ⟨f,_⟩ k _ _=>Eq.mp (by kernel_rfl) (vcn_sFactValid f k)) tot_fn
abbrev c_l8NoInv:Con:=⟨[.asn],[.bool],fun (a,_)=>a.facts.length<=281474976710656/\a.atoms.length<=281474976710656,.inl fun (a,_)=>(noA a,()),fun _=>0⟩
abbrev L_l8NoInv:List (FuncId × Con):=[]
abbrev P_l8NoInv:List (FuncId × PT):=[]
def VC_l8NoInv (a:GAsn) (k:Nat):Prop:=TN/\True/\True/\True/\True/\True/\True/\(vcIf (((a.facts.length:Nat):Int) == (0:Int)) (True/\True/\True/\True/\True/\True/\(((((a.atoms.length:Nat):Int) == (0:Int),()):Bool × Unit)=(noA a,()))/\True/\True/\True/\True/\TF) (True/\True/\(((false,()):Bool × Unit)=(noA a,()))/\True/\True/\True/\True/\TF))
theorem vcn_l8NoInv (a:GAsn) (k:Nat) (hp:a.facts.length<=281474976710656/\a.atoms.length<=281474976710656):VC_l8NoInv a k:=by
 unfold VC_l8NoInv
 simp only [cln,Nat.reduceEqDiff,Nat.reduceLeDiff,Nat.reduceAdd]
 all_goals (try simp only [vcIf_iff,decide_eq_true_eq,decide_eq_false_iff_not,bne_iff_ne,ne_eq,beq_iff_eq,beq_eq_false_iff_ne,bne_eq_false_iff_eq,Bool.not_eq_true',Bool.not_eq_false',Int.ofNat_lt,Int.natCast_inj])
 all_goals (repeat' (first | apply And.intro | intro _))
 all_goals (repeat (cases ‹_/\_›))
 all_goals (first | omega | (simp_all;done) | grind [pvV,noA,fokC,fokB,prV,cvB,cvN] | skip)
theorem ok_l8NoInv:FnOk Tryd.prog E 52 c_l8NoInv :=
 fn_okQ (l:=L_l8NoInv) (lp:=P_l8NoInv) (hp:=fun _=>false) (gcs:=fun _=>none) (perm:=fun _=>[]) tabOk mix trivial trivial Tryd.func52 rfl (by kernel_rfl) (by decide) (by kernel_rfl) (anns:=fun x _=>fun _ _=>none) (fun ⟨a,_⟩ k hp _=>Eq.mp (by kernel_rfl) (vcn_l8NoInv a k hp)) tot_fn
abbrev c_l3Atom:Con:=⟨[.atom],[.bool],fun _=>True,.inl fun (x,_)=>(atV x,()),fun _=>0⟩
abbrev L_l3Atom:List (FuncId × Con):=[(74,c_l1Is)]
abbrev P_l3Atom:List (FuncId × PT):=[]
def VC_l3Atom_1 (x:GAtom):Prop:=True/\True/\(((false,()):Bool × Unit)=(atV x,()))/\True/\True/\True/\True/\TF
def VC_l3Atom_2 (x:GAtom):Prop:=True/\True/\(True/\True/\True)/\True/\True/\(vcIf (isT x.a) (True/\True/\(True/\True/\True)/\True/\True/\((((isT x.b),()):Bool × Unit)=(atV x,()))/\True/\True/\True/\True/\TF) (VC_l3Atom_1 x))
def VC_l3Atom (x:GAtom) (k:Nat):Prop:=TN/\True/\True/\True/\True/\True/\(vcIf (x.kind == (1:Int)) (True/\True/\(VC_l3Atom_2 x)) (True/\True/\True/\True/\True/\(vcIf (x.kind == (2:Int)) (VC_l3Atom_2 x) (True/\True/\(VC_l3Atom_1 x)))))
theorem vcn_l3Atom (x:GAtom) (k:Nat):VC_l3Atom x k:=by
 unfold VC_l3Atom VC_l3Atom_2 VC_l3Atom_1
 simp only [cln,Nat.reduceEqDiff,Nat.reduceLeDiff,Nat.reduceAdd]
 all_goals (try simp only [opn])
 all_goals (repeat' (first | apply And.intro | intro _))
 all_goals (first | omega | (simp_all;done) | grind [atV])
theorem ok_l3Atom:FnOk Tryd.prog E 75 c_l3Atom :=
 fn_okQ (l:=L_l3Atom) (lp:=P_l3Atom) (hp:=fun _=>false) (gcs:=fun _=>none) (perm:=fun _=>[]) tabOk mix ⟨ok_l1Is,trivial⟩ trivial Tryd.func75 rfl (by kernel_rfl) (by decide) (by kernel_rfl) (anns:=fun x _=>fun _ _=>none) (fun ⟨x,_⟩ k _ _=>Eq.mp (by kernel_rfl) (vcn_l3Atom x k)) tot_fn
abbrev c_sFactsValid:Con:=⟨[.sl .fact],[.bool],fun (l,_)=>l.length<=281474976710656,.inl fun (l,_)=>(fsV l,()),fun _=>0⟩
abbrev L_sFactsValid:List (FuncId × Con):=[(51,c_sFactValid)]
abbrev P_sFactsValid:List (FuncId × PT):=[]
def an_sFactsValid (l:List GFact):Nat->St->Option Ann
 | 2,se=>some { α:=Nat,ok:=fun i=>i<=l.length/\(l.take i).all fV=true,mu:=fun i=>l.length - i,i0:=fun _=>0,nx:=fun a _=>(fun i=>i+1) a,live:=[0],sets:=fun i=>[(3,sv (.int .i64 i))],mids:=[],blks:=fun i=>[],owns:=fun i=>[],rd:=fun r _=>r,base:=100000 }
 | _,_=>none
def VC_sFactsValid (l:List GFact) (k:Nat):Prop:=True/\True/\((0<=l.length/\(l.take 0).all fV=true)/\TT/\(RL [.s (.c (.d (.arr .fact l)))])/\(([.s (.c (.d (.val (.int .i64 (0:Int)))))]:List S)=[.s (.c (.d (.val (.int .i64 ((0:Nat):Int)))))])/\(RM [])/\(RM [])/\True/\TT)/\(∀ i1:Nat,(i1<=l.length/\(l.take i1).all fV=true)->True/\True/\True/\True/\(vcIf (decide (((i1:Nat):Int) < ((l.length:Nat):Int))) (True/\True/\(0<=((i1:Nat):Int)/\((i1:Nat):Int) < ((l.length:Nat):Int))/\True/\(True/\True/\True)/\True/\(vcIf (!(fV (l.getD i1 (⟨false,0,0⟩:GFact)))) (True/\(((false,()):Bool × Unit)=(fsV l,()))/\True/\True/\True/\True/\TF) (True/\(inK .i64 (((i1:Nat):Int)+(1:Int)))/\True/\((i1+1)<=l.length/\(l.take (i1+1)).all fV=true)/\(l.length - (i1+1) < l.length - i1)/\TT/\(RL [.s (.c (.d (.arr .fact l)))])/\(([.s (.c (.d (.val (.int .i64 (((i1:Nat):Int)+(1:Int))))))]:List S)=[.s (.c (.d (.val (.int .i64 (((i1+1):Nat):Int)))))])/\(RM [])/\(RM [])/\True/\TT))) (True/\True/\True/\True/\(((decide (((l.length:Nat):Int)<=(12:Int)),()):Bool × Unit)=(fsV l,()))/\True/\True/\True/\True/\TF)))
theorem vcn_sFactsValid (l:List GFact) (k:Nat) (hp:l.length<=281474976710656):VC_sFactsValid l k:=by
 unfold VC_sFactsValid
 simp only [cln,Nat.reduceEqDiff,Nat.reduceLeDiff,Nat.reduceAdd]
 all_goals (try simp only [opn])
 all_goals (repeat' (first | apply And.intro | intro _))
 all_goals (first | omega | (simp_all;done) | grind [fsV,take_all,all_take,take_full,Ty.zero])
theorem ok_sFactsValid:FnOk Tryd.prog E 76 c_sFactsValid :=
 fn_okQ (l:=L_sFactsValid) (lp:=P_sFactsValid) (hp:=fun _=>false) (gcs:=fun _=>none) (perm:=fun _=>[]) tabOk mix ⟨ok_sFactValid,trivial⟩ trivial Tryd.func76 rfl (by kernel_rfl) (by decide) (by kernel_rfl) (anns:=fun x _=>an_sFactsValid x.1) (fun ⟨l,_⟩ k hp _=>Eq.mp (by kernel_rfl) (vcn_sFactsValid l k hp)) tot_fn
abbrev c_sAssertionValid:Con:=⟨[.asn],[.bool],fun (a,_)=>a.facts.length<=281474976710656/\a.atoms.length<=281474976710656,.inl fun (a,_)=>(asV a,()),fun _=>0⟩
abbrev L_sAssertionValid:List (FuncId × Con):=[(75,c_l3Atom),(76,c_sFactsValid)]
abbrev P_sAssertionValid:List (FuncId × PT):=[]
def an_sAssertionValid (a:GAsn):Nat->St->Option Ann
 | 2,se=>some { α:=Nat,ok:=fun i=>i<=a.atoms.length/\(a.atoms.take i).all atV=true,mu:=fun i=>a.atoms.length - i,i0:=fun _=>0,nx:=fun a _=>(fun i=>i+1) a,live:=[1],sets:=fun i=>[(3,sv (.int .i64 i))],mids:=[31],blks:=fun i=>[],owns:=fun i=>[],rd:=fun r _=>r,base:=100000 }
 | _,_=>none
def VC_sAssertionValid_1 (a:GAsn):Prop:=(RM [some (.blk [.d (.arr .fact a.facts),.d (.arr .atom a.atoms)])])/\(RM [])/\True/\TT
def VC_sAssertionValid_2 (a:GAsn):Prop:=True/\(((false,()):Bool × Unit)=(asV a,()))/\True/\True/\True/\True/\TF
def VC_sAssertionValid (a:GAsn) (k:Nat):Prop:=TN/\True/\True/\((0<=a.atoms.length/\(a.atoms.take 0).all atV=true)/\TT/\(RL [.s (.c (.ptr 31 0))])/\(([.s (.c (.d (.val (.int .i64 (0:Int)))))]:List S)=[.s (.c (.d (.val (.int .i64 ((0:Nat):Int)))))])/\(VC_sAssertionValid_1 a))/\(∀ i1:Nat,(i1<=a.atoms.length/\(a.atoms.take i1).all atV=true)->True/\True/\True/\True/\True/\(vcIf (decide (((i1:Nat):Int) < ((a.atoms.length:Nat):Int))) (True/\True/\True/\(0<=((i1:Nat):Int)/\((i1:Nat):Int) < ((a.atoms.length:Nat):Int))/\True/\(True/\True/\True)/\True/\(vcIf (!(atV (a.atoms.getD i1 (⟨0,0,0⟩:GAtom)))) (VC_sAssertionValid_2 a) (True/\(inK .i64 (((i1:Nat):Int)+(1:Int)))/\True/\((i1+1)<=a.atoms.length/\(a.atoms.take (i1+1)).all atV=true)/\(a.atoms.length - (i1+1) < a.atoms.length - i1)/\TT/\(RL [.s (.c (.ptr 31 0))])/\(([.s (.c (.d (.val (.int .i64 (((i1:Nat):Int)+(1:Int))))))]:List S)=[.s (.c (.d (.val (.int .i64 (((i1+1):Nat):Int)))))])/\(VC_sAssertionValid_1 a)))) (True/\True/\((a.facts.length<=281474976710656)/\True/\True)/\True/\(vcIf (fsV a.facts) (True/\True/\True/\True/\True/\True/\(((decide (((a.atoms.length:Nat):Int)<=(6:Int)),()):Bool × Unit)=(asV a,()))/\True/\True/\True/\True/\TF) (True/\(VC_sAssertionValid_2 a))))))
theorem vcn_sAssertionValid (a:GAsn) (k:Nat) (hp:a.facts.length<=281474976710656/\a.atoms.length<=281474976710656):VC_sAssertionValid a k:=by
 unfold VC_sAssertionValid VC_sAssertionValid_2 VC_sAssertionValid_1
 simp only [cln,Nat.reduceEqDiff,Nat.reduceLeDiff,Nat.reduceAdd]
 all_goals (try simp only [opn])
 all_goals (repeat' (first | apply And.intro | intro _))
 all_goals (first | omega | (simp_all;done) | grind [asV,take_all,all_take,take_full,Ty.zero])
theorem ok_sAssertionValid:FnOk Tryd.prog E 53 c_sAssertionValid :=
 fn_okQ (l:=L_sAssertionValid) (lp:=P_sAssertionValid) (hp:=fun _=>false) (gcs:=fun _=>none) (perm:=fun _=>[]) tabOk mix ⟨ok_l3Atom,ok_sFactsValid,trivial⟩ trivial Tryd.func53 rfl (by kernel_rfl) (by decide) (by kernel_rfl) (anns:=fun x _=>an_sAssertionValid x.1) (fun ⟨a,_⟩ k hp _=>Eq.mp (by kernel_rfl) (vcn_sAssertionValid a k hp)) tot_fn
abbrev c_l8NoFact:Con:=⟨[.fact],[.bool],fun _=>True,.inl fun (f,_)=>(decide (f=⟨false,0,0⟩),()),fun _=>0⟩
abbrev L_l8NoFact:List (FuncId × Con):=[]
abbrev P_l8NoFact:List (FuncId × PT):=[]
def VC_l8NoFact (f:GFact) (k:Nat):Prop:=TN/\True/\True/\True/\True/\True/\((((f.eq == false) && ((f.a == (0:Int)) && ((f.b == (0:Int)) && true)),()):Bool × Unit)=(decide (f=⟨false,0,0⟩),()))/\True/\True/\True/\True/\TF
theorem vcn_l8NoFact (f:GFact) (k:Nat):VC_l8NoFact f k:=by
 unfold VC_l8NoFact
 simp only [cln,Nat.reduceEqDiff,Nat.reduceLeDiff,Nat.reduceAdd]
 exact (gf_zero' f).symm
theorem ok_l8NoFact:FnOk Tryd.prog E 77 c_l8NoFact :=
 fn_okQ (l:=L_l8NoFact) (lp:=P_l8NoFact) (hp:=fun _=>false) (gcs:=fun _=>none) (perm:=fun _=>[]) tabOk mix trivial trivial Tryd.func77 rfl (by kernel_rfl) (by decide) (by kernel_rfl) (anns:=fun x _=>fun _ _=>none) (fun ⟨f,_⟩ k _ _=>Eq.mp (by kernel_rfl) (vcn_l8NoFact f k)) tot_fn
abbrev c_l8Prog:Con:=⟨[.int],[.bool],fun _=>True,.inl fun (t,_)=>(pvV t,()),fun _=>0⟩
abbrev L_l8Prog:List (FuncId × Con):=[]
abbrev P_l8Prog:List (FuncId × PT):=[]
def VC_l8Prog (t:Int) (k:Nat):Prop:=True/\True/\True/\True/\(vcIf (decide ((1:Int)<=t)) (True/\True/\True/\True/\(((decide (t<=(4:Int)),()):Bool × Unit)=(pvV t,()))/\True/\True/\True/\True/\TF) (True/\True/\(((false,()):Bool × Unit)=(pvV t,()))/\True/\True/\True/\True/\TF))
theorem vcn_l8Prog (t:Int) (k:Nat):VC_l8Prog t k:=by
 unfold VC_l8Prog
 simp only [cln,Nat.reduceEqDiff,Nat.reduceLeDiff,Nat.reduceAdd]
 all_goals (try simp only [vcIf_iff,decide_eq_true_eq,decide_eq_false_iff_not,bne_iff_ne,ne_eq,beq_iff_eq,beq_eq_false_iff_ne,bne_eq_false_iff_eq,Bool.not_eq_true',Bool.not_eq_false',Int.ofNat_lt,Int.natCast_inj])
 all_goals (repeat' (first | apply And.intro | intro _))
 all_goals (repeat (cases ‹_/\_›))
 all_goals (first | omega | (simp_all;done) | grind [pvV,noA,fokC,fokB,prV,cvB,cvN] | skip)
theorem ok_l8Prog:FnOk Tryd.prog E 78 c_l8Prog :=
 fn_okQ (l:=L_l8Prog) (lp:=P_l8Prog) (hp:=fun _=>false) (gcs:=fun _=>none) (perm:=fun _=>[]) tabOk mix trivial trivial Tryd.func78 rfl (by kernel_rfl) (by decide) (by kernel_rfl) (anns:=fun x _=>fun _ _=>none) (fun ⟨t,_⟩ k _ _=>Eq.mp (by kernel_rfl) (vcn_l8Prog t k)) tot_fn
abbrev c_l8Basic:Con:=⟨[.cmd],[.bool],fun (c,_)=>BdC c,.inl fun (c,_)=>(fokB c,()),fun _=>0⟩
abbrev L_l8Basic:List (FuncId × Con):=[(52,c_l8NoInv),(74,c_l1Is),(77,c_l8NoFact),(78,c_l8Prog)]
abbrev P_l8Basic:List (FuncId × PT):=[]
def VC_l8Basic_1 (c:GCmd):Prop:=True/\(((false,()):Bool × Unit)=(fokB c,()))/\True/\True/\True/\True/\TF
def VC_l8Basic_2 (c:GCmd):Prop:=True/\(VC_l8Basic_1 c)
def VC_l8Basic_3 (c:GCmd):Prop:=True/\True/\(VC_l8Basic_2 c)
def VC_l8Basic_4 (c:GCmd):Prop:=True/\True/\(True/\True/\True)/\True/\True/\((((isT c.b),()):Bool × Unit)=(fokB c,()))/\True/\True/\True/\True/\TF
def VC_l8Basic_5 (c:GCmd):Prop:=True/\True/\(True/\True/\True)/\True/\(vcIf (pvV c.a) (VC_l8Basic_4 c) (VC_l8Basic_2 c))
def VC_l8Basic_6 (c:GCmd):Prop:=True/\True/\True/\True/\True/\(((c.b == (0:Int),()):Bool × Unit)=(fokB c,()))/\True/\True/\True/\True/\TF
def VC_l8Basic_7 (c:GCmd):Prop:=True/\True/\(vcIf (c.kind == (3:Int)) (True/\True/\(True/\True/\True)/\True/\(vcIf (isT c.a) (VC_l8Basic_4 c) (VC_l8Basic_2 c))) (True/\True/\(vcIf (c.kind == (4:Int)) (True/\True/\(True/\True/\True)/\True/\(vcIf (pvV c.a) (VC_l8Basic_6 c) (VC_l8Basic_2 c))) (True/\True/\(vcIf (c.kind == (5:Int)) (True/\True/\(True/\True/\True)/\True/\(vcIf (isT c.a) (VC_l8Basic_6 c) (VC_l8Basic_2 c))) (VC_l8Basic_1 c))))))
def VC_l8Basic (c:GCmd) (k:Nat):Prop:=TN/\True/\True/\True/\(True/\True/\True)/\True/\True/\(vcIf (!(decide (c.test=⟨false,0,0⟩))) (True/\True/\(VC_l8Basic_3 c)) (True/\True/\((c.inv.facts.length<=281474976710656/\c.inv.atoms.length<=281474976710656)/\True/\True)/\True/\True/\True/\(vcIf (!(noA c.inv)) (VC_l8Basic_3 c) (True/\True/\True/\True/\True/\True/\(vcIf (decide ((0:Int) < ((c.body.length:Nat):Int))) (VC_l8Basic_2 c) (True/\True/\True/\True/\True/\(vcIf (decide ((0:Int) < ((c.els.length:Nat):Int))) (VC_l8Basic_1 c) (True/\True/\True/\True/\(vcIf (c.kind == (1:Int)) (vcIf (c.kind == (1:Int)) (VC_l8Basic_5 c) (VC_l8Basic_7 c)) (True/\True/\(vcIf (c.kind == (2:Int)) (VC_l8Basic_5 c) (VC_l8Basic_7 c))))))))))))
theorem vcn_l8Basic (c:GCmd) (k:Nat) (hp:BdC c):VC_l8Basic c k:=by
 unfold VC_l8Basic VC_l8Basic_7 VC_l8Basic_6 VC_l8Basic_5 VC_l8Basic_4 VC_l8Basic_3 VC_l8Basic_2 VC_l8Basic_1
 simp only [cln,Nat.reduceEqDiff,Nat.reduceLeDiff,Nat.reduceAdd,GCmd.eta]
 have b1:=hp.f
 have b2:=hp.a
 all_goals (try simp only [vcIf_iff,decide_eq_true_eq,decide_eq_false_iff_not,bne_iff_ne,ne_eq,beq_iff_eq,beq_eq_false_iff_ne,bne_eq_false_iff_eq,Bool.not_eq_true',Bool.not_eq_false',Int.ofNat_lt,Int.natCast_inj])
 all_goals (repeat' (first | apply And.intro | intro _))
 all_goals (repeat (cases ‹_/\_›))
 all_goals (first | omega | (simp_all;done) | grind [pvV,noA,fokC,fokB,prV,cvB,cvN] | skip)
theorem ok_l8Basic:FnOk Tryd.prog E 54 c_l8Basic :=
 fn_okQ (l:=L_l8Basic) (lp:=P_l8Basic) (hp:=fun _=>false) (gcs:=fun _=>none) (perm:=fun _=>[]) tabOk mix ⟨ok_l8NoInv,ok_l1Is,ok_l8NoFact,ok_l8Prog,trivial⟩ trivial Tryd.func54 rfl (by kernel_rfl) (by decide) (by kernel_rfl) (anns:=fun x _=>fun _ _=>none) (fun ⟨c,_⟩ k hp _=>Eq.mp (by kernel_rfl) (vcn_l8Basic c k hp)) tot_fn
abbrev c_l8Shape:Con:=⟨[.sl .cmd,.int],[.bool],fun (l,d,_)=>BdL l/\0<=d/\d<=4,.inl fun (l,d,_)=>(shL d l,()),fun _=>0⟩
abbrev mu_l8Shape:Args c_l8Shape.aks->Nat:=fun (l,d,_)=>ndL l
abbrev L_l8Shape (m:Nat):List (FuncId × Con):=[(29,c_l8Shape.lim mu_l8Shape m),(51,c_sFactValid),(52,c_l8NoInv),(53,c_sAssertionValid),(54,c_l8Basic)]
abbrev P_l8Shape:List (FuncId × PT):=[]
def an_l8Shape (l:List GCmd) (d:Int):Nat->St->Option Ann
 | 4,se=>some { α:=Nat,ok:=fun i=>i<=l.length/\(1<=d ∨ l.length=0)/\shL d (l.take i)=true,mu:=fun i=>l.length - i,i0:=fun _=>0,nx:=fun a _=>(fun i=>i+1) a,live:=[0,1],sets:=fun i=>[(5,sv (.int .i64 i))],mids:=[],blks:=fun i=>[],owns:=fun i=>[],rd:=fun r _=>r,base:=100000 }
 | _,_=>none
def VC_l8Shape_1 (d:Int) (l:List GCmd):Prop:=True/\(((false,()):Bool × Unit)=(shL d l,()))/\True/\True/\True/\True/\TF
def VC_l8Shape_2 (d:Int) (l:List GCmd):Prop:=True/\(VC_l8Shape_1 d l)
def VC_l8Shape_3 (d:Int) (l:List GCmd):Prop:=True/\True/\(VC_l8Shape_2 d l)
def VC_l8Shape_4 (d:Int) (l:List GCmd):Prop:=True/\True/\(VC_l8Shape_3 d l)
def VC_l8Shape_5 (l:List GCmd) (i1:Nat):Prop:=(((l.getD i1 (Ty.zero .cmd)).inv).facts.length<=281474976710656/\((l.getD i1 (Ty.zero .cmd)).inv).atoms.length<=281474976710656)/\True/\True
def VC_l8Shape_6 (d:Int) (l:List GCmd) (i1:Nat) (m:Nat):Prop:=True/\True/\True/\(inK .i64 (d - (1:Int)))/\(((BdL ((l.getD i1 (Ty.zero .cmd)).body)/\0<=(d - (1:Int))/\(d - (1:Int))<=4)/\ndL ((l.getD i1 (Ty.zero .cmd)).body) < m)/\True/\True)/\True/\True/\(vcIf (!(shL (d - (1:Int)) ((l.getD i1 (Ty.zero .cmd)).body))) (VC_l8Shape_2 d l) (True/\True/\True/\(inK .i64 (d - (1:Int)))/\(((BdL ((l.getD i1 (Ty.zero .cmd)).els)/\0<=(d - (1:Int))/\(d - (1:Int))<=4)/\ndL ((l.getD i1 (Ty.zero .cmd)).els) < m)/\True/\True)/\True/\True/\(vcIf (!(shL (d - (1:Int)) ((l.getD i1 (Ty.zero .cmd)).els))) (VC_l8Shape_1 d l) (True/\(inK .i64 (((i1:Nat):Int)+(1:Int)))/\True/\((i1+1)<=l.length/\(1<=d ∨ l.length=0)/\shL d (l.take (i1+1))=true)/\(l.length - (i1+1) < l.length - i1)/\TT/\(RL [.s (.c (.d (.arr .cmd l))),.s (.c (.d (.val (.int .i64 d))))])/\(([.s (.c (.d (.val (.int .i64 (((i1:Nat):Int)+(1:Int))))))]:List S)=[.s (.c (.d (.val (.int .i64 (((i1+1):Nat):Int)))))])/\(RM [])/\(RM [])/\True/\TT))))
def VC_l8Shape_7 (l:List GCmd) (d:Int) (m:Nat):Prop:=True/\((0<=l.length/\(1<=d ∨ l.length=0)/\shL d (l.take 0)=true)/\TT/\(RL [.s (.c (.d (.arr .cmd l))),.s (.c (.d (.val (.int .i64 d))))])/\(([.s (.c (.d (.val (.int .i64 (0:Int)))))]:List S)=[.s (.c (.d (.val (.int .i64 ((0:Nat):Int)))))])/\(RM [])/\(RM [])/\True/\TT)/\(∀ i1:Nat,(i1<=l.length/\(1<=d ∨ l.length=0)/\shL d (l.take i1)=true)->True/\True/\True/\True/\(vcIf (decide (((i1:Nat):Int) < ((l.length:Nat):Int))) (True/\True/\(0<=((i1:Nat):Int)/\((i1:Nat):Int) < ((l.length:Nat):Int))/\True/\(TN/\TN/\TN/\TN/\TN/\True)/\(TF/\TF)/\True/\True/\True/\True/\(vcIf (((l.getD i1 (Ty.zero .cmd)).kind) == (6:Int)) (True/\True/\True/\True/\(vcIf (((l.getD i1 (Ty.zero .cmd)).a) != (0:Int)) (VC_l8Shape_4 d l) (True/\True/\True/\True/\True/\(vcIf (((l.getD i1 (Ty.zero .cmd)).b) != (0:Int)) (VC_l8Shape_3 d l) (True/\True/\(True/\True/\True)/\True/\True/\True/\(vcIf (!(fV ((l.getD i1 (Ty.zero .cmd)).test))) (VC_l8Shape_2 d l) (True/\True/\(VC_l8Shape_5 l i1)/\True/\True/\(vcIf (!(noA ((l.getD i1 (Ty.zero .cmd)).inv))) (VC_l8Shape_1 d l) (VC_l8Shape_6 d l i1 m))))))))) (True/\True/\(vcIf (((l.getD i1 (Ty.zero .cmd)).kind) == (7:Int)) (True/\True/\True/\True/\(vcIf (((l.getD i1 (Ty.zero .cmd)).a) != (0:Int)) (True/\True/\(VC_l8Shape_4 d l)) (True/\True/\True/\True/\True/\(vcIf (((l.getD i1 (Ty.zero .cmd)).b) != (0:Int)) (VC_l8Shape_4 d l) (True/\True/\(True/\True/\True)/\True/\True/\True/\(vcIf (!(fV ((l.getD i1 (Ty.zero .cmd)).test))) (VC_l8Shape_3 d l) (True/\True/\(VC_l8Shape_5 l i1)/\True/\True/\True/\(vcIf (!(asV ((l.getD i1 (Ty.zero .cmd)).inv))) (VC_l8Shape_2 d l) (True/\True/\True/\True/\True/\(vcIf (decide ((0:Int) < ((((l.getD i1 (Ty.zero .cmd)).els).length:Nat):Int))) (VC_l8Shape_1 d l) (VC_l8Shape_6 d l i1 m))))))))))) (True/\((BdC (GCmd.mk ((l.getD i1 (Ty.zero .cmd)).kind) ((l.getD i1 (Ty.zero .cmd)).a) ((l.getD i1 (Ty.zero .cmd)).b) ((l.getD i1 (Ty.zero .cmd)).test) ((l.getD i1 (Ty.zero .cmd)).inv) ((l.getD i1 (Ty.zero .cmd)).body) ((l.getD i1 (Ty.zero .cmd)).els)))/\True/\True)/\True/\(vcIf (!(fokB (GCmd.mk ((l.getD i1 (Ty.zero .cmd)).kind) ((l.getD i1 (Ty.zero .cmd)).a) ((l.getD i1 (Ty.zero .cmd)).b) ((l.getD i1 (Ty.zero .cmd)).test) ((l.getD i1 (Ty.zero .cmd)).inv) ((l.getD i1 (Ty.zero .cmd)).body) ((l.getD i1 (Ty.zero .cmd)).els)))) (VC_l8Shape_1 d l) (VC_l8Shape_6 d l i1 m))))))) (True/\(((true,()):Bool × Unit)=(shL d l,()))/\True/\True/\True/\True/\TF)))
def VC_l8Shape (l:List GCmd) (d:Int) (m:Nat) (k:Nat):Prop:=True/\True/\True/\True/\(vcIf (decide (d < (1:Int))) (True/\True/\True/\True/\(vcIf (decide ((0:Int) < ((l.length:Nat):Int))) (VC_l8Shape_1 d l) (VC_l8Shape_7 l d m))) (True/\(VC_l8Shape_7 l d m)))
theorem vcn_l8Shape (l:List GCmd) (d:Int) (m:Nat) (k:Nat) (hp:(BdL l/\0<=d/\d<=4)/\ndL l < m+1):VC_l8Shape l d m k:=by
 unfold VC_l8Shape VC_l8Shape_7 VC_l8Shape_6 VC_l8Shape_5 VC_l8Shape_4 VC_l8Shape_3 VC_l8Shape_2 VC_l8Shape_1
 simp only [cln,Nat.reduceEqDiff,Nat.reduceLeDiff,Nat.reduceAdd,GCmd.eta]
 have hl:=hp.1.1.len
 have hg:∀ i,i < l.length->BdC (l.getD i (Ty.zero .cmd))/\ndC (l.getD i (Ty.zero .cmd))<=ndL l/\BdL (l.getD i (Ty.zero .cmd)).body/\BdL (l.getD i (Ty.zero .cmd)).els/\(l.getD i (Ty.zero .cmd)).inv.facts.length<=281474976710656/\(l.getD i (Ty.zero .cmd)).inv.atoms.length<=281474976710656 :=
  fun i hi=>⟨hp.1.1.get hi,ndL_get hi,(hp.1.1.get hi).b,(hp.1.1.get hi).e,(hp.1.1.get hi).f,(hp.1.1.get hi).a⟩
 have hn:∀ i,ndC (l.getD i (Ty.zero .cmd))=1+ndL (l.getD i (Ty.zero .cmd)).body+ndL (l.getD i (Ty.zero .cmd)).els:=fun i=>ndC_eq _
 have hs:=fun (i:Nat) (hi:i < l.length) (h1:1<=d)=>shL_step (d:=d) (z:=Ty.zero .cmd) h1 hi
 have hc:=fun (i:Nat)=>shC_eq d (l.getD i (Ty.zero .cmd))
 have hnot:=fun (i:Nat) (hi:i < l.length) (h:shC d (l.getD i (Ty.zero .cmd))=false)=>shL_not (d:=d) hi h
 have hz:=fun (h:d < 1) (h2:0 < l.length)=>shL_zero h h2
 all_goals (try simp only [vcIf_iff,decide_eq_true_eq,decide_eq_false_iff_not,bne_iff_ne,ne_eq,beq_iff_eq,beq_eq_false_iff_ne,bne_eq_false_iff_eq,Bool.not_eq_true',Bool.not_eq_false',Int.ofNat_lt,Int.natCast_inj])
 all_goals (repeat' (first | apply And.intro | intro _))
 all_goals (repeat (cases ‹_/\_›))
 all_goals (first | omega | (simp_all;done) | grind [fokC,shL_nil,List.take_length] | skip)
theorem ok_l8Shape:FnOk Tryd.prog E 29 c_l8Shape :=
 fn_rec (mu:=mu_l8Shape) (fun m ih=>fn_okQ (con:=c_l8Shape.lim mu_l8Shape (m+1)) (fn:=Tryd.f29) (l:=L_l8Shape m) (lp:=P_l8Shape) (hp:=fun _=>false) (gcs:=fun _=>none) (perm:=fun _=>[]) tabOk mix ⟨ih,ok_sFactValid,ok_l8NoInv,ok_sAssertionValid,ok_l8Basic,trivial⟩ trivial Tryd.func29 rfl (by kernel_rfl) (show c_l8Shape.aks.length<=Tryd.f29.ntmps by decide) (by kernel_rfl) (anns:=fun x _=>an_l8Shape x.1 x.2.1) (fun ⟨l,d,_⟩ k hp _=>Eq.mp (by kernel_rfl) (vcn_l8Shape l d m k hp)) tot_fn) ⟨_,_,Tryd.func29,by kernel_rfl,rfl⟩ tot_fn
abbrev c_sProgramValid:Con:=⟨[.sl .cmd],[.bool],fun (l,_)=>BdL l/\ndL l<=1048576,.inl fun (l,_)=>(prV l,()),fun _=>0⟩
abbrev L_sProgramValid:List (FuncId × Con):=[(19,c_l8Count),(29,c_l8Shape)]
abbrev P_sProgramValid:List (FuncId × PT):=[]
def VC_sProgramValid (l:List GCmd) (k:Nat):Prop:=True/\True/\((BdL l/\0<=(4:Int)/\(4:Int)<=4)/\True/\True)/\True/\(vcIf (shL (4:Int) l) (True/\((BdL l/\0<=(4:Int)/\(4:Int)<=4/\ndL l<=1048576)/\True/\True)/\True/\True/\True/\(((decide ((cnL (4:Int) l:Int)<=(16:Int)),()):Bool × Unit)=(prV l,()))/\True/\True/\True/\True/\TF) (True/\True/\(((false,()):Bool × Unit)=(prV l,()))/\True/\True/\True/\True/\TF))
theorem vcn_sProgramValid (l:List GCmd) (k:Nat) (hp:BdL l/\ndL l<=1048576):VC_sProgramValid l k:=by
 unfold VC_sProgramValid
 simp only [cln,Nat.reduceEqDiff,Nat.reduceLeDiff,Nat.reduceAdd]
 all_goals (try simp only [vcIf_iff,decide_eq_true_eq,decide_eq_false_iff_not,bne_iff_ne,ne_eq,beq_iff_eq,beq_eq_false_iff_ne,bne_eq_false_iff_eq,Bool.not_eq_true',Bool.not_eq_false',Int.ofNat_lt,Int.natCast_inj])
 all_goals (repeat' (first | apply And.intro | intro _))
 all_goals (repeat (cases ‹_/\_›))
 all_goals (first | omega | (simp_all;done) | grind [prV,cvB,cvN,cnL_sh] | skip)
theorem ok_sProgramValid:FnOk Tryd.prog E 18 c_sProgramValid :=
 fn_okQ (l:=L_sProgramValid) (lp:=P_sProgramValid) (hp:=fun _=>false) (gcs:=fun _=>none) (perm:=fun _=>[]) tabOk mix ⟨ok_l8Count,ok_l8Shape,trivial⟩ trivial Tryd.func18 rfl (by kernel_rfl) (by decide) (by kernel_rfl) (anns:=fun x _=>fun _ _=>none) (fun ⟨l,_⟩ k hp _=>Eq.mp (by kernel_rfl) (vcn_sProgramValid l k hp)) tot_fn
abbrev c_l8Simple:Con:=⟨[.rdr],[.cmd],fun _=>True,.inr fun (rr,_) r=>r.1.test=⟨false,0,0⟩/\r.1.inv=⟨[],[]⟩/\r.1.body=[]/\r.1.els=[],fun (rr,_)=>3⟩
abbrev L_l8Simple:List (FuncId × Con):=[(42,c_pick),(43,c_num)]
abbrev P_l8Simple:List (FuncId × PT):=[]
def VC_l8Simple_1 (r1:Int × Unit) (r2:Int × Unit) (k:Nat):Prop:=True/\(TF/\TF)/\True/\(TF/\TF)/\((GCmd.mk ((1:Int)+r1.1) r2.1 (0:Int) (⟨false,(0:Int),(0:Int)⟩:GFact) (⟨([]:List GFact),([]:List GAtom)⟩:GAsn) ([]:List GCmd) ([]:List GCmd)).test=⟨false,0,0⟩/\(GCmd.mk ((1:Int)+r1.1) r2.1 (0:Int) (⟨false,(0:Int),(0:Int)⟩:GFact) (⟨([]:List GFact),([]:List GAtom)⟩:GAsn) ([]:List GCmd) ([]:List GCmd)).inv=⟨[],[]⟩/\(GCmd.mk ((1:Int)+r1.1) r2.1 (0:Int) (⟨false,(0:Int),(0:Int)⟩:GFact) (⟨([]:List GFact),([]:List GAtom)⟩:GAsn) ([]:List GCmd) ([]:List GCmd)).body=[]/\(GCmd.mk ((1:Int)+r1.1) r2.1 (0:Int) (⟨false,(0:Int),(0:Int)⟩:GFact) (⟨([]:List GFact),([]:List GAtom)⟩:GAsn) ([]:List GCmd) ([]:List GCmd)).els=[])/\True/\True/\(TF/\TF/\TF/\TF/\True)/\True/\(k+1+1+1<=k+3)
def VC_l8Simple (rr:Unit) (k:Nat):Prop:=(TN/\TN/\TN/\TN/\TN/\True)/\True/\(True/\(k+1<=1099511627776)/\True)/\(∀ r1:Int × Unit,(pickP (5:Int) r1.1)->(inK .i64 ((1:Int)+r1.1))/\True/\(TN/\True)/\((0 < ([(1:Int),(2:Int),(3:Int),(1:Int),(4:Int)]:List Int).length/\([(1:Int),(2:Int),(3:Int),(1:Int),(4:Int)]:List Int).length<=1000)/\(k+1+1<=1099511627776)/\True)/\(∀ r2:Int × Unit,(r2.1 ∈ ([(1:Int),(2:Int),(3:Int),(1:Int),(4:Int)]:List Int))->True/\(TN/\True)/\((0 < ([(2:Int),(0:Int),(1:Int),(3:Int),(5:Int)]:List Int).length/\([(2:Int),(0:Int),(1:Int),(3:Int),(5:Int)]:List Int).length<=1000)/\(k+1+1+1<=1099511627776)/\True)/\(∀ r3:Int × Unit,(r3.1 ∈ ([(2:Int),(0:Int),(1:Int),(3:Int),(5:Int)]:List Int))->(TN/\TN/\TN/\TN/\True)/\(TN/\TN/\TN/\TN/\TN/\True)/\(TF/\TF)/\True/\True/\True/\True/\(vcIf (((1:Int)+r1.1) == (4:Int)) (True/\(VC_l8Simple_1 r1 r2 k)) (True/\True/\True/\True/\(vcIf (((1:Int)+r1.1) == (5:Int)) (VC_l8Simple_1 r1 r2 k) (True/\(TF/\TF)/\((GCmd.mk ((1:Int)+r1.1) r2.1 r3.1 (⟨false,(0:Int),(0:Int)⟩:GFact) (⟨([]:List GFact),([]:List GAtom)⟩:GAsn) ([]:List GCmd) ([]:List GCmd)).test=⟨false,0,0⟩/\(GCmd.mk ((1:Int)+r1.1) r2.1 r3.1 (⟨false,(0:Int),(0:Int)⟩:GFact) (⟨([]:List GFact),([]:List GAtom)⟩:GAsn) ([]:List GCmd) ([]:List GCmd)).inv=⟨[],[]⟩/\(GCmd.mk ((1:Int)+r1.1) r2.1 r3.1 (⟨false,(0:Int),(0:Int)⟩:GFact) (⟨([]:List GFact),([]:List GAtom)⟩:GAsn) ([]:List GCmd) ([]:List GCmd)).body=[]/\(GCmd.mk ((1:Int)+r1.1) r2.1 r3.1 (⟨false,(0:Int),(0:Int)⟩:GFact) (⟨([]:List GFact),([]:List GAtom)⟩:GAsn) ([]:List GCmd) ([]:List GCmd)).els=[])/\True/\True/\(TF/\TF/\TF/\TF/\True)/\True/\(k+1+1+1<=k+3))))))))
theorem vcn_l8Simple (rr:Unit) (k:Nat) (hk:k+(3)<=1099511627776):VC_l8Simple rr k:=by
 unfold VC_l8Simple VC_l8Simple_1
 simp only [cln,Nat.reduceEqDiff,Nat.reduceLeDiff,Nat.reduceAdd]
 all_goals (try simp only [vcIf_iff,decide_eq_true_eq,decide_eq_false_iff_not,bne_iff_ne,ne_eq,beq_iff_eq,beq_eq_false_iff_ne,bne_eq_false_iff_eq,Bool.not_eq_true',Bool.not_eq_false',Int.ofNat_lt,Int.natCast_inj])
 all_goals (repeat' (first | apply And.intro | intro _))
 all_goals (repeat (cases ‹_/\_›))
 all_goals (first | omega | with_reducible assumption | with_reducible rfl | rfl | skip)
 all_goals (first | omega | (simp_all;done) | grind [pickP] | skip)
theorem ok_l8Simple:FnOk Tryd.prog E 69 c_l8Simple :=
 fn_okQ (l:=L_l8Simple) (lp:=P_l8Simple) (hp:=fun _=>false) (gcs:=fun _=>none) (perm:=fun _=>[]) tabOk mix ⟨ok_pick,ok_num,trivial⟩ trivial Tryd.func69 rfl (by kernel_rfl) (by decide) (by kernel_rfl) (anns:=fun x _=>fun _ _=>none) (fun ⟨rr,_⟩ k _ hk=>Eq.mp (by kernel_rfl) (vcn_l8Simple rr k (hk rfl))) (fun _ _=>⟨(GCmd.mk 0 0 0 ⟨false,0,0⟩ ⟨[],[]⟩ [] [],()),⟨rfl,rfl,rfl,rfl⟩⟩)
abbrev c_l8Test:Con:=⟨[.rdr],[.fact],fun _=>True,.inr fun (rr,_) r=>True,fun (rr,_)=>3⟩
abbrev L_l8Test:List (FuncId × Con):=[(42,c_pick),(43,c_num)]
abbrev P_l8Test:List (FuncId × PT):=[]
def VC_l8Test (rr:Unit) (k:Nat):Prop:=(TN/\True)/\True/\(True/\(k+1<=1099511627776)/\True)/\(∀ r1:Int × Unit,(pickP (3:Int) r1.1)->True/\True/\(TN/\True)/\((0 < ([(1:Int),(2:Int),(3:Int)]:List Int).length/\([(1:Int),(2:Int),(3:Int)]:List Int).length<=1000)/\(k+1+1<=1099511627776)/\True)/\(∀ r2:Int × Unit,(r2.1 ∈ ([(1:Int),(2:Int),(3:Int)]:List Int))->True/\(TN/\True)/\((0 < ([(0:Int),(2:Int),(0:Int),(5:Int)]:List Int).length/\([(0:Int),(2:Int),(0:Int),(5:Int)]:List Int).length<=1000)/\(k+1+1+1<=1099511627776)/\True)/\(∀ r3:Int × Unit,(r3.1 ∈ ([(0:Int),(2:Int),(0:Int),(5:Int)]:List Int))->True/\(TF/\TF)/\True/\True/\True/\True/\True/\(k+1+1+1<=k+3))))
theorem vcn_l8Test (rr:Unit) (k:Nat) (hk:k+(3)<=1099511627776):VC_l8Test rr k:=by
 unfold VC_l8Test
 simp only [cln,Nat.reduceEqDiff,Nat.reduceLeDiff,Nat.reduceAdd,GCmd.eta]
 all_goals (try simp only [vcIf_iff,decide_eq_true_eq,decide_eq_false_iff_not,bne_iff_ne,ne_eq,beq_iff_eq,beq_eq_false_iff_ne,bne_eq_false_iff_eq,Bool.not_eq_true',Bool.not_eq_false',Int.ofNat_lt,Int.natCast_inj])
 all_goals (repeat' (first | apply And.intro | intro _))
 all_goals (repeat (cases ‹_/\_›))
 all_goals (first | omega | with_reducible assumption | with_reducible rfl | rfl | with_reducible exact True.intro | skip)
theorem ok_l8Test:FnOk Tryd.prog E 70 c_l8Test :=
 fn_okQ (l:=L_l8Test) (lp:=P_l8Test) (hp:=fun _=>false) (gcs:=fun _=>none) (perm:=fun _=>[]) tabOk mix ⟨ok_pick,ok_num,trivial⟩ trivial Tryd.func70 rfl (by kernel_rfl) (by decide) (by kernel_rfl) (anns:=fun x _=>fun _ _=>none) (fun ⟨rr,_⟩ k _ hk=>Eq.mp (by kernel_rfl) (vcn_l8Test rr k (hk rfl))) (fun _ _=>⟨((⟨false,0,0⟩:GFact),()),trivial⟩)
abbrev c_l3Point:Con:=⟨[.rdr],[.atom],fun _=>True,.inr fun (rr,_) r=>atV r.1=true,fun (rr,_)=>3⟩
abbrev L_l3Point:List (FuncId × Con):=[(42,c_pick),(43,c_num)]
abbrev P_l3Point:List (FuncId × PT):=[]
def VC_l3Point (rr:Unit) (k:Nat):Prop:=(TN/\True)/\True/\(TN/\True)/\((0 < ([(1:Int),(2:Int),(3:Int),(5:Int),(4:Int),(6:Int)]:List Int).length/\([(1:Int),(2:Int),(3:Int),(5:Int),(4:Int),(6:Int)]:List Int).length<=1000)/\(k+1<=1099511627776)/\True)/\(∀ r1:Int × Unit,(r1.1 ∈ ([(1:Int),(2:Int),(3:Int),(5:Int),(4:Int),(6:Int)]:List Int))->True/\(TN/\True)/\((0 < ([(2:Int),(0:Int),(3:Int),(1:Int),(5:Int),(0:Int),(6:Int)]:List Int).length/\([(2:Int),(0:Int),(3:Int),(1:Int),(5:Int),(0:Int),(6:Int)]:List Int).length<=1000)/\(k+1+1<=1099511627776)/\True)/\(∀ r2:Int × Unit,(r2.1 ∈ ([(2:Int),(0:Int),(3:Int),(1:Int),(5:Int),(0:Int),(6:Int)]:List Int))->True/\(TN/\True)/\(TF/\TF)/\True/\(True/\(k+1+1+1<=1099511627776)/\True)/\(∀ r3:Int × Unit,(pickP (2:Int) r3.1)->True/\(vcIf (r3.1 == (0:Int)) (True/\(TF/\TF)/\True/\(TF/\TF)/\(atV (⟨(2:Int),r1.1,r2.1⟩:GAtom)=true)/\True/\True/\True/\True/\(k+1+1+1<=k+3)) (True/\(TF/\TF)/\(atV (⟨(1:Int),r1.1,r2.1⟩:GAtom)=true)/\True/\True/\True/\True/\(k+1+1+1<=k+3))))))
theorem vcn_l3Point (rr:Unit) (k:Nat) (hk:k+(3)<=1099511627776):VC_l3Point rr k:=by
 unfold VC_l3Point
 simp only [cln,Nat.reduceEqDiff,Nat.reduceLeDiff,Nat.reduceAdd]
 all_goals (try simp only [opn])
 all_goals (repeat' (first | apply And.intro | intro _))
 all_goals (first | omega | grind (splits:=40) [atV,isT])
theorem ok_l3Point:FnOk Tryd.prog E 84 c_l3Point :=
 fn_okQ (l:=L_l3Point) (lp:=P_l3Point) (hp:=fun _=>false) (gcs:=fun _=>none) (perm:=fun _=>[]) tabOk mix ⟨ok_pick,ok_num,trivial⟩ trivial Tryd.func84 rfl (by kernel_rfl) (by decide) (by kernel_rfl) (anns:=fun x _=>fun _ _=>none) (fun ⟨rr,_⟩ k _ hk=>Eq.mp (by kernel_rfl) (vcn_l3Point rr k (hk rfl))) (fun _ _=>⟨((⟨1,0,0⟩:GAtom),()),rfl⟩)
end Go.Proofs.YtkafaeeianofnaaDoor
