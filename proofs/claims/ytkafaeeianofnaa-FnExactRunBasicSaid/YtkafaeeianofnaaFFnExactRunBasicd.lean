/-
  Contracts of single functions of the program, each shown by the engine: what a call returns for arguments within the contract's bounds.
-/
import Derived.Test.YtkafaeeianofnaaFFnExactRunBasica
import Derived.Test.YtkafaeeianofnaaFFnExactRunBasicc
import Derived.Test.YtkafaeeianofnaaEd
import Derived.Test.YtkafaeeianofnaaEc
import Derived.Test.YtkafaeeianofnaaEe
import Derived.Test.YtkafaeeianofnaaFFnExactRunBasicb
set_option linter.unusedSimpArgs false
set_option linter.unusedVariables false
set_option linter.unusedSectionVars false

namespace Go.Proofs.Ytkafaeeianofnaa
open Go.SE Go.RowKit
variable [Base]
set_option linter.unusedSectionVars false
set_option linter.unusedSimpArgs false
set_option linter.unusedVariables false
set_option maxHeartbeats 1000000
set_option maxRecDepth 100000
abbrev c_eqCmdS:Con:=⟨[.sl .cmd,.sl .cmd],[.bool],fun (a,b,_)=>BdL a/\BdL b,.inl fun (a,b,_)=>(decide (a=b),()),fun _=>0⟩
abbrev mu_eqCmdS:Args c_eqCmdS.aks->Nat:=fun (a,b,_)=>ndL a
abbrev c_eqCmd:Con:=⟨[.cmd,.cmd],[.bool],fun (a,b,_)=>BdC a/\BdC b,.inl fun (a,b,_)=>(decide (a=b),()),fun _=>0⟩
abbrev mu_eqCmd:Args c_eqCmd.aks->Nat:=fun (a,b,_)=>ndC a
abbrev L_eqCmd (m:Nat):List (FuncId × Con):=[(17,c_eqCmdS.lim mu_eqCmdS m),(73,c_eqFact),(74,c_eqAssertion)]
abbrev P_eqCmd:List (FuncId × PT):=[]
def VC_eqCmd_1 (a:GCmd) (b:GCmd):Prop:=True/\(((false,()):Bool × Unit)=(decide (a=b),()))/\True/\True/\True/\True/\TF
def VC_eqCmd (a:GCmd) (b:GCmd) (m:Nat) (k:Nat):Prop:=TN/\TN/\True/\True/\True/\True/\True/\True/\(vcIf (a.kind != b.kind) (VC_eqCmd_1 a b) (True/\True/\True/\True/\True/\(vcIf (a.a != b.a) (VC_eqCmd_1 a b) (True/\True/\True/\True/\True/\(vcIf (a.b != b.b) (VC_eqCmd_1 a b) (True/\True/\True/\True/\(True/\True/\True)/\True/\(vcIf (!(decide (a.test=b.test))) (VC_eqCmd_1 a b) (True/\True/\True/\True/\((a.inv.facts.length<=281474976710656/\a.inv.atoms.length<=281474976710656/\b.inv.facts.length<=281474976710656/\b.inv.atoms.length<=281474976710656)/\True/\True)/\True/\(vcIf (!(decide (a.inv=b.inv))) (VC_eqCmd_1 a b) (True/\True/\True/\True/\(((BdL a.body/\BdL b.body)/\ndL a.body < m)/\True/\True)/\True/\(vcIf (!(decide (a.body=b.body))) (VC_eqCmd_1 a b) (True/\True/\True/\True/\(((BdL a.els/\BdL b.els)/\ndL a.els < m)/\True/\True)/\True/\(vcIf (!(decide (a.els=b.els))) (VC_eqCmd_1 a b) (True/\(((true,()):Bool × Unit)=(decide (a=b),()))/\True/\True/\True/\True/\TF))))))))))))))
theorem vcn_eqCmd (a:GCmd) (b:GCmd) (m:Nat) (k:Nat) (hp:(BdC a/\BdC b)/\ndC a < m+1):VC_eqCmd a b m k:=by
 unfold VC_eqCmd VC_eqCmd_1
 simp only [cln,Nat.reduceEqDiff,Nat.reduceLeDiff,Nat.reduceAdd,GCmd.eta]
 have e1:=ndC_eq a
 have b1:=hp.1.1.b
 have b2:=hp.1.1.e
 have b3:=hp.1.1.f
 have b4:=hp.1.1.a
 have d1:=hp.1.2.b
 have d2:=hp.1.2.e
 have d3:=hp.1.2.f
 have d4:=hp.1.2.a
 all_goals (try simp only [vcIf_iff,decide_eq_true_eq,decide_eq_false_iff_not,bne_iff_ne,ne_eq,beq_iff_eq,beq_eq_false_iff_ne,bne_eq_false_iff_eq,Bool.not_eq_true',Bool.not_eq_false',Int.ofNat_lt,Int.natCast_inj])
 all_goals (repeat' (first | apply And.intro | intro _))
 all_goals (first | omega | (simp_all;done) | grind [GCmd.ext_iff])
theorem okof_eqCmd (m:Nat) (ih:FnOk Try.prog E 17 (c_eqCmdS.lim mu_eqCmdS m)):FnOk Try.prog E 37 (c_eqCmd.lim mu_eqCmd (m+1)) :=
 fn_okQ (con:=c_eqCmd.lim mu_eqCmd (m+1)) (fn:=Try.f37) (l:=L_eqCmd m) (lp:=P_eqCmd) (hp:=fun _=>false) (gcs:=fun _=>none) (perm:=fun _=>[]) tabOk mix ⟨ih,ok_eqFact,ok_eqAssertion,trivial⟩ trivial Try.func37 rfl (by kernel_rfl) (show c_eqCmd.aks.length<=Try.f37.ntmps by decide) (by kernel_rfl) (anns:=fun x _=>fun _ _=>none) (fun ⟨a,b,_⟩ k hp _=>Eq.mp (by kernel_rfl) (vcn_eqCmd a b m k hp)) tot_fn
abbrev L_eqCmdS (m:Nat):List (FuncId × Con):=[(37,c_eqCmd.lim mu_eqCmd (m+1))]
abbrev P_eqCmdS:List (FuncId × PT):=[]
def an_eqCmdS (a:List GCmd) (b:List GCmd):Nat->St->Option Ann
 | 4,se=>some { α:=Nat,ok:=fun i=>i<=a.length/\a.length=b.length/\a.take i=b.take i,mu:=fun i=>a.length - i,i0:=fun _=>0,nx:=fun a _=>(fun i=>i+1) a,live:=[0,1],sets:=fun i=>[(5,sv (.int .i64 i))],mids:=[],blks:=fun i=>[],owns:=fun i=>[],rd:=fun r _=>r,base:=100000 }
 | _,_=>none
def VC_eqCmdS_1 (a:List GCmd) (b:List GCmd):Prop:=True/\(((false,()):Bool × Unit)=(decide (a=b),()))/\True/\True/\True/\True/\TF
def VC_eqCmdS (a:List GCmd) (b:List GCmd) (m:Nat) (k:Nat):Prop:=True/\True/\True/\True/\True/\True/\(vcIf (((a.length:Nat):Int) != ((b.length:Nat):Int)) (VC_eqCmdS_1 a b) (True/\((0<=a.length/\a.length=b.length/\a.take 0=b.take 0)/\TT/\(RL [.s (.c (.d (.arr .cmd a))),.s (.c (.d (.arr .cmd b)))])/\(([.s (.c (.d (.val (.int .i64 (0:Int)))))]:List S)=[.s (.c (.d (.val (.int .i64 ((0:Nat):Int)))))])/\(RM [])/\(RM [])/\True/\TT)/\(∀ i1:Nat,(i1<=a.length/\a.length=b.length/\a.take i1=b.take i1)->True/\True/\True/\True/\(vcIf (decide (((i1:Nat):Int) < ((a.length:Nat):Int))) (True/\True/\(0<=((i1:Nat):Int)/\((i1:Nat):Int) < ((a.length:Nat):Int))/\True/\True/\True/\(0<=((i1:Nat):Int)/\((i1:Nat):Int) < ((b.length:Nat):Int))/\True/\(((BdC (GCmd.mk ((a.getD i1 (Ty.zero .cmd)).kind) ((a.getD i1 (Ty.zero .cmd)).a) ((a.getD i1 (Ty.zero .cmd)).b) ((a.getD i1 (Ty.zero .cmd)).test) ((a.getD i1 (Ty.zero .cmd)).inv) ((a.getD i1 (Ty.zero .cmd)).body) ((a.getD i1 (Ty.zero .cmd)).els))/\BdC (GCmd.mk ((b.getD i1 (Ty.zero .cmd)).kind) ((b.getD i1 (Ty.zero .cmd)).a) ((b.getD i1 (Ty.zero .cmd)).b) ((b.getD i1 (Ty.zero .cmd)).test) ((b.getD i1 (Ty.zero .cmd)).inv) ((b.getD i1 (Ty.zero .cmd)).body) ((b.getD i1 (Ty.zero .cmd)).els)))/\ndC (GCmd.mk ((a.getD i1 (Ty.zero .cmd)).kind) ((a.getD i1 (Ty.zero .cmd)).a) ((a.getD i1 (Ty.zero .cmd)).b) ((a.getD i1 (Ty.zero .cmd)).test) ((a.getD i1 (Ty.zero .cmd)).inv) ((a.getD i1 (Ty.zero .cmd)).body) ((a.getD i1 (Ty.zero .cmd)).els)) < m+1)/\True/\True)/\True/\(vcIf (!(decide ((GCmd.mk ((a.getD i1 (Ty.zero .cmd)).kind) ((a.getD i1 (Ty.zero .cmd)).a) ((a.getD i1 (Ty.zero .cmd)).b) ((a.getD i1 (Ty.zero .cmd)).test) ((a.getD i1 (Ty.zero .cmd)).inv) ((a.getD i1 (Ty.zero .cmd)).body) ((a.getD i1 (Ty.zero .cmd)).els))=(GCmd.mk ((b.getD i1 (Ty.zero .cmd)).kind) ((b.getD i1 (Ty.zero .cmd)).a) ((b.getD i1 (Ty.zero .cmd)).b) ((b.getD i1 (Ty.zero .cmd)).test) ((b.getD i1 (Ty.zero .cmd)).inv) ((b.getD i1 (Ty.zero .cmd)).body) ((b.getD i1 (Ty.zero .cmd)).els))))) (VC_eqCmdS_1 a b) (True/\(inK .i64 (((i1:Nat):Int)+(1:Int)))/\True/\((i1+1)<=a.length/\a.length=b.length/\a.take (i1+1)=b.take (i1+1))/\(a.length - (i1+1) < a.length - i1)/\TT/\(RL [.s (.c (.d (.arr .cmd a))),.s (.c (.d (.arr .cmd b)))])/\(([.s (.c (.d (.val (.int .i64 (((i1:Nat):Int)+(1:Int))))))]:List S)=[.s (.c (.d (.val (.int .i64 (((i1+1):Nat):Int)))))])/\(RM [])/\(RM [])/\True/\TT))) (True/\(((true,()):Bool × Unit)=(decide (a=b),()))/\True/\True/\True/\True/\TF)))))
theorem vcn_eqCmdS (a:List GCmd) (b:List GCmd) (m:Nat) (k:Nat) (hp:(BdL a/\BdL b)/\ndL a < m+1):VC_eqCmdS a b m k:=by
 unfold VC_eqCmdS VC_eqCmdS_1
 simp only [cln,Nat.reduceEqDiff,Nat.reduceLeDiff,Nat.reduceAdd,GCmd.eta]
 have hg:∀ i,i < a.length->a.length=b.length->BdC (a.getD i (Ty.zero .cmd))/\BdC (b.getD i (Ty.zero .cmd))/\ndC (a.getD i (Ty.zero .cmd))<=ndL a:=fun i hi he=>⟨hp.1.1.get hi,hp.1.2.get (he ▸ hi),ndL_get hi⟩
 have hl1:=hp.1.1.len
 have hl2:=hp.1.2.len
 all_goals (try simp only [vcIf_iff,decide_eq_true_eq,decide_eq_false_iff_not,bne_iff_ne,ne_eq,beq_iff_eq,beq_eq_false_iff_ne,bne_eq_false_iff_eq,Bool.not_eq_true',Bool.not_eq_false',Int.ofNat_lt,Int.natCast_inj])
 all_goals (repeat' (first | apply And.intro | intro _))
 all_goals (first | omega | (simp_all;done) | grind [same_step,same_not,take_full])
theorem ok_eqCmdS:FnOk Try.prog E 17 c_eqCmdS :=
 fn_rec (mu:=mu_eqCmdS) (fun m ih=>fn_okQ (con:=c_eqCmdS.lim mu_eqCmdS (m+1)) (fn:=Try.f17) (l:=L_eqCmdS m) (lp:=P_eqCmdS) (hp:=fun _=>false) (gcs:=fun _=>none) (perm:=fun _=>[]) tabOk mix ⟨(okof_eqCmd m ih),trivial⟩ trivial Try.func17 rfl (by kernel_rfl) (show c_eqCmdS.aks.length<=Try.f17.ntmps by decide) (by kernel_rfl) (anns:=fun x _=>an_eqCmdS x.1 x.2.1) (fun ⟨a,b,_⟩ k hp _=>Eq.mp (by kernel_rfl) (vcn_eqCmdS a b m k hp)) tot_fn) ⟨_,_,Try.func17,by kernel_rfl,rfl⟩ tot_fn
theorem ok_eqCmd:FnOk Try.prog E 37 c_eqCmd :=
 fn_lims (mu:=mu_eqCmd) (fun m=>okof_eqCmd m (lim_of ok_eqCmdS)) tot_fn
abbrev m_markIntS:MCon:=⟨[],.int,[.int],fun _ l (n,_)=>0<=n/\n<=4611686018427387904/\l.length<=281474976710656,fun _ l (n,_)=>.int .i64 (n+(l.length:Int)),fun _ l (n,_)=>mkI l n⟩
abbrev pt_markIntS:PT:=ptM m_markIntS
abbrev L_markIntS:List (FuncId × Con):=[]
abbrev P_markIntS:List (FuncId × PT):=[]
def an_markIntS (l:List Int) (n:Int):Nat->St->Option Ann
 | 2,se=>some { α:=Nat,ok:=fun i=>i<=l.length,mu:=fun i=>l.length - i,i0:=fun _=>0,nx:=fun a _=>(fun i=>i+1) a,live:=[4],sets:=fun i=>[(5,sv (.int .i64 i)),(1,sv (.int .i64 (n+(i:Int))))],mids:=[],blks:=fun i=>[],owns:=fun i=>[⟨7,.slot 0,.int,mkU (fI n) l i⟩],rd:=fun r _=>r,base:=100000 }
 | _,_=>none
def VC_markIntS (l:List Int) (n:Int) (k:Nat):Prop:=True/\True/\((0<=l.length)/\TT/\(RL [.s (.c (.d (.val (.int .i64 (0:Int)))))])/\(([.s (.c (.d (.val (.int .i64 (0:Int))))),.s (.c (.d (.val (.int .i64 n))))]:List S)=[.s (.c (.d (.val (.int .i64 ((0:Nat):Int))))),.s (.c (.d (.val (.int .i64 (n+(0:Int):Int)))))])/\(RM [])/\(RM [])/\(((some l:Option (List Int))=some (mkU (fI n) l 0))/\True)/\TT)/\(∀ i1:Nat,(i1<=l.length)->True/\True/\True/\True/\(vcIf (decide (((i1:Nat):Int) < (((mkU (fI n) l i1).length:Nat):Int))) (True/\True/\True/\(0<=((i1:Nat):Int)/\((i1:Nat):Int) < (((mkU (fI n) l i1).length:Nat):Int))/\(TF/\TF/\True/\((7:Nat) ∉ ([]:List Nat)))/\True/\(inK .i64 ((n+(i1:Int):Int)+(1:Int)))/\True/\True/\(inK .i64 (((i1:Nat):Int)+(1:Int)))/\True/\((i1+1)<=l.length)/\(l.length - (i1+1) < l.length - i1)/\TT/\(RL [.s (.c (.d (.val (.int .i64 (0:Int)))))])/\(([.s (.c (.d (.val (.int .i64 (((i1:Nat):Int)+(1:Int)))))),.s (.c (.d (.val (.int .i64 ((n+(i1:Int):Int)+(1:Int))))))]:List S)=[.s (.c (.d (.val (.int .i64 (((i1+1):Nat):Int))))),.s (.c (.d (.val (.int .i64 (n+((i1+1):Int):Int)))))])/\(RM [])/\(RM [])/\(((some ((mkU (fI n) l i1).set i1 (n+(i1:Int):Int)):Option (List Int))=some (mkU (fI n) l (i1+1)))/\True)/\TT) (True/\True/\((some [.c (.d (.val (.int .i64 (n+(i1:Int):Int))))]:Option (List S0))=some [.c (.d (.val (.int .i64 (n+(l.length:Int)))))])/\((some (mkU (fI n) l i1):Option (List Int))=some (mkI l n)))))
theorem vcn_markIntS (l:List Int) (n:Int) (k:Nat) (hp:0<=n/\n<=4611686018427387904/\l.length<=281474976710656):VC_markIntS l n k:=by
 unfold VC_markIntS
 simp only [cln,Nat.reduceEqDiff,Nat.reduceLeDiff,Nat.reduceAdd]
 all_goals (try simp only [opn])
 all_goals (repeat' (first | apply And.intro | intro _))
 all_goals (try simp (disch:=assumption) only [set3_len,mkU_sl,mkU_len] at *)
 all_goals (first | omega | (simp_all;done) | exact mkU_zero.symm | exact mkU_full ‹_› ‹_› | (rw [← mkU_set ‹_›];(try simp (disch:=assumption) only [set_twice,mkU_gs,fI]);first | done | rfl | (congr 2 <;> omega) | (congr 3 <;> omega)) | grind [mkU_zero,mkU_full])
theorem ptok_markIntS:PTOk Try.prog E 75 pt_markIntS :=
 mut_ok (l:=L_markIntS) (lp:=P_markIntS) (hp:=fun _=>false) (perm:=fun _=>[]) tabOk mix trivial trivial Try.func75 rfl (by kernel_rfl) rfl (by decide) (by kernel_rfl) (anns:=fun x l y=>an_markIntS l y.1) (fun _ l ⟨n,_⟩ hp=>Eq.mp (by kernel_rfl) (vcn_markIntS l n 0 hp))
abbrev L_markState:List (FuncId × Con):=[]
abbrev P_markState:List (FuncId × PT):=[(75,pt_markIntS)]
def hp_markState:Nat->Bool
 | 1=>true
 | 2=>true
 | _=>false
abbrev pt_markState:PT:=inl tab (lookF L_markState) (lookP P_markState) (hp_markState) (fun _ _=>none) (fun _ _ _ _=>none) (fun _=>[]) Try.f38.ntmps (bodyOf Try.f38) Try.f38.results.toList
theorem ptok_markState:PTOk Try.prog E 38 pt_markState :=
 pt_ok (l:=L_markState) (lp:=P_markState) tabOk mix trivial ⟨ptok_markIntS,trivial⟩ Try.func38 rfl (by kernel_rfl) (by kernel_rfl)
def hp_markFactS:Nat->Bool
 | 2=>true
 | 4=>true
 | 6=>true
 | 8=>true
 | _=>false
def VC_markFactS_1 (v:Value) (q1:Nat × Int):Prop:=(none:Option Nat)=none/\isBlkV v=true/\0<=(q1.1:Int)/\(q1.1:Int) < ((lenV v:Nat):Int)
def VC_markFactS (ro:Nat->Option (Array Value)) (xs:List GFact) (v:Value) (k0:Int):Prop:=TT/\True/\TT/\True/\(((0,k0).1<=xs.length/\(0,k0).2=k0+3 * (((0,k0).1:Nat):Int))/\((():Unit)=())/\TT/\(RL [.s (.c (.d (.val (v))))])/\(([.s (.c (.d (.val (.int .i64 (0:Int))))),.s (.c (.d (.val (.int .i64 k0))))]:List S)=[.s (.c (.d (.val (.int .i64 ((0,k0).1:Int))))),.s (.c (.d (.val (.int .i64 ((0,k0).2:Int)))))])/\(RM [])/\(RM [])/\True/\TT)/\(∀ q1:Nat × Int,(q1.1<=xs.length/\q1.2=k0+3 * ((q1.1:Nat):Int))->TT/\True/\True/\((none:Option Nat)=none/\isSlV v=true)/\True/\(vcIf (decide ((q1.1:Int) < ((lenV v:Nat):Int))) (TT/\True/\True/\True/\((3:Int) ≠ 0)/\True/\(VC_markFactS_1 v q1)/\((none:Option Nat)=none/\isPtrV (placeV v 3 (q1.1:Int).toNat)=true)/\((none:Option Nat)=none/\isNumV (.bool ((Int.tmod (q1.2:Int) (3:Int)) == (0:Int)))=true/\∃ u,cellR ro (addP (placeV v 3 (q1.1:Int).toNat) 0)=some u/\isSlV u=false)/\TT/\True/\(inK .i64 ((q1.2:Int)+(1:Int)))/\True/\TT/\True/\True/\True/\(VC_markFactS_1 v q1)/\((none:Option Nat)=none/\isPtrV (placeV v 3 (q1.1:Int).toNat)=true)/\((none:Option Nat)=none/\isNumV (.int .i64 ((q1.2:Int)+(1:Int)))=true/\∃ u,cellR ro (addP (placeV v 3 (q1.1:Int).toNat) 1)=some u/\isSlV u=false)/\TT/\True/\(inK .i64 (((q1.2:Int)+(1:Int))+(1:Int)))/\True/\TT/\True/\True/\True/\(VC_markFactS_1 v q1)/\((none:Option Nat)=none/\isPtrV (placeV v 3 (q1.1:Int).toNat)=true)/\((none:Option Nat)=none/\isNumV (.int .i64 (((q1.2:Int)+(1:Int))+(1:Int)))=true/\∃ u,cellR ro (addP (placeV v 3 (q1.1:Int).toNat) 2)=some u/\isSlV u=false)/\TT/\True/\(inK .i64 ((((q1.2:Int)+(1:Int))+(1:Int))+(1:Int)))/\True/\TT/\True/\(inK .i64 ((q1.1:Int)+(1:Int)))/\True/\((q1.1+1,((((q1.2:Int)+(1:Int))+(1:Int))+(1:Int))).1<=xs.length/\(q1.1+1,((((q1.2:Int)+(1:Int))+(1:Int))+(1:Int))).2=k0+3 * (((q1.1+1,((((q1.2:Int)+(1:Int))+(1:Int))+(1:Int))).1:Nat):Int))/\((():Unit)=())/\(xs.length - (q1.1+1,((((q1.2:Int)+(1:Int))+(1:Int))+(1:Int))).1 < xs.length - q1.1)/\TT/\(RL [.s (.c (.d (.val (v))))])/\(([.s (.c (.d (.val (.int .i64 ((q1.1:Int)+(1:Int)))))),.s (.c (.d (.val (.int .i64 ((((q1.2:Int)+(1:Int))+(1:Int))+(1:Int))))))]:List S)=[.s (.c (.d (.val (.int .i64 ((q1.1+1,((((q1.2:Int)+(1:Int))+(1:Int))+(1:Int))).1:Int))))),.s (.c (.d (.val (.int .i64 ((q1.1+1,((((q1.2:Int)+(1:Int))+(1:Int))+(1:Int))).2:Int)))))])/\(RM [])/\(RM [])/\True/\TT) (TT/\True/\True/\((none:Option Nat)=none)/\(k0<=(q1.2:Int)/\(q1.2:Int)<=k0+((3 * xs.length:Nat):Int)))))
theorem vcn_markFactS (ro:Nat->Option (Array Value)) (xs:List GFact) (v:Value) (k0:Int) (hd:DR ro (.arr .fact xs) v) (h0:0<=k0) (h1:k0+((3 * xs.length:Nat):Int)<=4611686018427387904):VC_markFactS ro xs v k0:=by
 unfold VC_markFactS VC_markFactS_1
 simp only [cln,Nat.reduceEqDiff,Nat.reduceLeDiff,Nat.reduceAdd]
 have hv:=lenV_DR hd
 simp only [inK_i64,isPtr_add,addP_addP,Nat.reduceAdd,hv.1,hv.2,isNumV,Int.toNat_natCast]
 all_goals (try simp only [opn])
 all_goals (repeat' (first | apply And.intro | intro _))
 all_goals (repeat (cases ‹_/\_›))
 all_goals (first | omega | exact True.intro | with_reducible rfl | with_reducible assumption | with_reducible exact (mkFt hd ‹_›).1 | with_reducible exact (mkFt hd ‹_›).2.1 | with_reducible exact (mkFt hd ‹_›).2.2 _ (by decide) | skip)
def an_markFactS (ro:Nat->Option (Array Value)) (xs:List GFact) (v:Value) (k0:Int):Nat->St->Unit->Option (AnnY Unit)
 | 2,_,_=>some ⟨{ α:=Nat × Int,ok:=fun q=>q.1<=xs.length/\q.2=k0+3 * ((q.1:Nat):Int),mu:=fun q=>xs.length - q.1,i0:=fun _=>(0,k0),nx:=fun q st=>(q.1+1,intAt st 1),live:=[0],sets:=fun q=>[(5,sv (.int .i64 q.1)),(1,sv (.int .i64 q.2))],mids:=[],blks:=fun q=>[],owns:=fun q=>[],rd:=fun r _=>r,base:=100000 },fun _=>()⟩
 | _,_,_=>none
theorem mk_markFactS:MarkOk Try.prog 115 .fact (fun x=>0) (fun x=>3 * x.length) 1 :=
 mark_sound (E:=E) (tab:=tab) (fn:=Try.f115) (hp:=hp_markFactS) (gcs:=fun _=>none) (perm:=fun _=>[]) (fs:=[]) (anns:=fun ro xs v k0=>an_markFactS ro xs v k0) tabOk mix Try.func115 rfl (by decide) (by kernel_rfl) (fun _ h=>by cases h) (fun ro xs v k0 h1 h2 h3 _=>Eq.mp (by kernel_rfl) (vcn_markFactS ro xs v k0 h1 h2 h3))
def hp_markAtomS:Nat->Bool
 | 2=>true
 | 4=>true
 | 6=>true
 | 8=>true
 | _=>false
def VC_markAtomS_1 (v:Value) (q1:Nat × Int):Prop:=(none:Option Nat)=none/\isBlkV v=true/\0<=(q1.1:Int)/\(q1.1:Int) < ((lenV v:Nat):Int)
def VC_markAtomS (ro:Nat->Option (Array Value)) (xs:List GAtom) (v:Value) (k0:Int):Prop:=TT/\True/\TT/\True/\(((0,k0).1<=xs.length/\(0,k0).2=k0+3 * (((0,k0).1:Nat):Int))/\((():Unit)=())/\TT/\(RL [.s (.c (.d (.val (v))))])/\(([.s (.c (.d (.val (.int .i64 (0:Int))))),.s (.c (.d (.val (.int .i64 k0))))]:List S)=[.s (.c (.d (.val (.int .i64 ((0,k0).1:Int))))),.s (.c (.d (.val (.int .i64 ((0,k0).2:Int)))))])/\(RM [])/\(RM [])/\True/\TT)/\(∀ q1:Nat × Int,(q1.1<=xs.length/\q1.2=k0+3 * ((q1.1:Nat):Int))->TT/\True/\True/\((none:Option Nat)=none/\isSlV v=true)/\True/\(vcIf (decide ((q1.1:Int) < ((lenV v:Nat):Int))) (TT/\True/\True/\True/\(VC_markAtomS_1 v q1)/\((none:Option Nat)=none/\isPtrV (placeV v 3 (q1.1:Int).toNat)=true)/\((none:Option Nat)=none/\isNumV (.int .i64 (q1.2:Int))=true/\∃ u,cellR ro (addP (placeV v 3 (q1.1:Int).toNat) 0)=some u/\isSlV u=false)/\TT/\True/\(inK .i64 ((q1.2:Int)+(1:Int)))/\True/\TT/\True/\True/\True/\(VC_markAtomS_1 v q1)/\((none:Option Nat)=none/\isPtrV (placeV v 3 (q1.1:Int).toNat)=true)/\((none:Option Nat)=none/\isNumV (.int .i64 ((q1.2:Int)+(1:Int)))=true/\∃ u,cellR ro (addP (placeV v 3 (q1.1:Int).toNat) 1)=some u/\isSlV u=false)/\TT/\True/\(inK .i64 (((q1.2:Int)+(1:Int))+(1:Int)))/\True/\TT/\True/\True/\True/\(VC_markAtomS_1 v q1)/\((none:Option Nat)=none/\isPtrV (placeV v 3 (q1.1:Int).toNat)=true)/\((none:Option Nat)=none/\isNumV (.int .i64 (((q1.2:Int)+(1:Int))+(1:Int)))=true/\∃ u,cellR ro (addP (placeV v 3 (q1.1:Int).toNat) 2)=some u/\isSlV u=false)/\TT/\True/\(inK .i64 ((((q1.2:Int)+(1:Int))+(1:Int))+(1:Int)))/\True/\TT/\True/\(inK .i64 ((q1.1:Int)+(1:Int)))/\True/\((q1.1+1,((((q1.2:Int)+(1:Int))+(1:Int))+(1:Int))).1<=xs.length/\(q1.1+1,((((q1.2:Int)+(1:Int))+(1:Int))+(1:Int))).2=k0+3 * (((q1.1+1,((((q1.2:Int)+(1:Int))+(1:Int))+(1:Int))).1:Nat):Int))/\((():Unit)=())/\(xs.length - (q1.1+1,((((q1.2:Int)+(1:Int))+(1:Int))+(1:Int))).1 < xs.length - q1.1)/\TT/\(RL [.s (.c (.d (.val (v))))])/\(([.s (.c (.d (.val (.int .i64 ((q1.1:Int)+(1:Int)))))),.s (.c (.d (.val (.int .i64 ((((q1.2:Int)+(1:Int))+(1:Int))+(1:Int))))))]:List S)=[.s (.c (.d (.val (.int .i64 ((q1.1+1,((((q1.2:Int)+(1:Int))+(1:Int))+(1:Int))).1:Int))))),.s (.c (.d (.val (.int .i64 ((q1.1+1,((((q1.2:Int)+(1:Int))+(1:Int))+(1:Int))).2:Int)))))])/\(RM [])/\(RM [])/\True/\TT) (TT/\True/\True/\((none:Option Nat)=none)/\(k0<=(q1.2:Int)/\(q1.2:Int)<=k0+((3 * xs.length:Nat):Int)))))
theorem vcn_markAtomS (ro:Nat->Option (Array Value)) (xs:List GAtom) (v:Value) (k0:Int) (hd:DR ro (.arr .atom xs) v) (h0:0<=k0) (h1:k0+((3 * xs.length:Nat):Int)<=4611686018427387904):VC_markAtomS ro xs v k0:=by
 unfold VC_markAtomS VC_markAtomS_1
 simp only [cln,Nat.reduceEqDiff,Nat.reduceLeDiff,Nat.reduceAdd]
 have hv:=lenV_DR hd
 simp only [inK_i64,isPtr_add,addP_addP,Nat.reduceAdd,hv.1,hv.2,isNumV,Int.toNat_natCast]
 all_goals (try simp only [opn])
 all_goals (repeat' (first | apply And.intro | intro _))
 all_goals (repeat (cases ‹_/\_›))
 all_goals (first | omega | exact True.intro | with_reducible rfl | with_reducible assumption | with_reducible exact (mkAtm hd ‹_›).1 | with_reducible exact (mkAtm hd ‹_›).2.1 | with_reducible exact (mkAtm hd ‹_›).2.2 _ (by decide) | skip)
def an_markAtomS (ro:Nat->Option (Array Value)) (xs:List GAtom) (v:Value) (k0:Int):Nat->St->Unit->Option (AnnY Unit)
 | 2,_,_=>some ⟨{ α:=Nat × Int,ok:=fun q=>q.1<=xs.length/\q.2=k0+3 * ((q.1:Nat):Int),mu:=fun q=>xs.length - q.1,i0:=fun _=>(0,k0),nx:=fun q st=>(q.1+1,intAt st 1),live:=[0],sets:=fun q=>[(5,sv (.int .i64 q.1)),(1,sv (.int .i64 q.2))],mids:=[],blks:=fun q=>[],owns:=fun q=>[],rd:=fun r _=>r,base:=100000 },fun _=>()⟩
 | _,_,_=>none
theorem mk_markAtomS:MarkOk Try.prog 116 .atom (fun x=>0) (fun x=>3 * x.length) 1 :=
 mark_sound (E:=E) (tab:=tab) (fn:=Try.f116) (hp:=hp_markAtomS) (gcs:=fun _=>none) (perm:=fun _=>[]) (fs:=[]) (anns:=fun ro xs v k0=>an_markAtomS ro xs v k0) tabOk mix Try.func116 rfl (by decide) (by kernel_rfl) (fun _ h=>by cases h) (fun ro xs v k0 h1 h2 h3 _=>Eq.mp (by kernel_rfl) (vcn_markAtomS ro xs v k0 h1 h2 h3))
def hp_markAssertion:Nat->Bool
 | 1=>true
 | 2=>true
 | _=>false
def VC_markAssertion (ro:Nat->Option (Array Value)) (xs:List GFact) (ys:List GAtom) (u v:Value) (k0:Int):Prop:=TT/\TN/\True/\TT/\True/\True/\True/\((none:Option Nat)=none/\∃ x:List GFact,DR ro (.arr .fact x) u/\0<=k0/\k0+((3 * x.length:Nat):Int)<=4611686018427387904/\(0:Nat) < 1)/\(∀ xs1:List GFact,∀ kr2:Int,(DR ro (.arr .fact xs1) u)->(k0<=kr2)->(kr2<=k0+((3 * xs1.length:Nat):Int))->True/\TT/\True/\True/\True/\((none:Option Nat)=none/\∃ x:List GAtom,DR ro (.arr .atom x) v/\0<=kr2/\kr2+((3 * x.length:Nat):Int)<=4611686018427387904/\(0:Nat) < 1)/\(∀ xs3:List GAtom,∀ kr4:Int,(DR ro (.arr .atom xs3) v)->(kr2<=kr4)->(kr4<=kr2+((3 * xs3.length:Nat):Int))->True/\TT/\True/\True/\((none:Option Nat)=none)/\(k0<=kr4/\kr4<=k0+((3 * xs.length+3 * ys.length:Nat):Int))))
theorem vcn_markAssertion (ro:Nat->Option (Array Value)) (xs:List GFact) (ys:List GAtom) (u v:Value) (k0:Int) (hd:DR ro (.arr .fact xs) u) (hd2:DR ro (.arr .atom ys) v) (h0:0<=k0) (h1:k0+((3 * xs.length+3 * ys.length:Nat):Int)<=4611686018427387904):VC_markAssertion ro xs ys u v k0:=by
 unfold VC_markAssertion
 simp only [cln,Nat.reduceEqDiff,Nat.reduceLeDiff,Nat.reduceAdd]
 all_goals (try simp only [opn])
 all_goals (repeat' (first | apply And.intro | intro _))
 all_goals (repeat (cases ‹_/\_›))
 all_goals (try have e1:=DR.fact_uniq (by with_reducible assumption) hd)
 all_goals (try have e2:=DR.atom_uniq (by with_reducible assumption) hd2)
 all_goals (try subst e1)
 all_goals (try subst e2)
 all_goals (first | omega | exact ⟨_,by with_reducible assumption,by omega,by omega,by omega⟩)
theorem mk_markAssertion:MarkA Try.prog 76 :=
 markA_sound (E:=E) (tab:=tab) (fn:=Try.f76) (hp:=hp_markAssertion) (gcs:=fun _=>none) (perm:=fun _=>[]) (fs:=[⟨115,.fact,fun x=>0,fun x=>3 * x.length,1⟩,⟨116,.atom,fun x=>0,fun x=>3 * x.length,1⟩]) tabOk mix Try.func76 rfl (by decide) (by kernel_rfl) (by intro q hq;simp only [List.mem_cons,List.mem_nil_iff,or_false] at hq;rcases hq with rfl | rfl;exact ⟨mk_markFactS,⟨Try.f115,_,Try.func115,by kernel_rfl,rfl⟩⟩;exact ⟨mk_markAtomS,⟨Try.f116,_,Try.func116,by kernel_rfl,rfl⟩⟩) (fun ro xs ys u v k0 h1 h2 h3 h4=>Eq.mp (by kernel_rfl) (vcn_markAssertion ro xs ys u v k0 h1 h2 h3 h4))
def hp_markCmdS:Nat->Bool
 | 2=>true
 | 4=>true
 | 6=>true
 | 8=>true
 | 10=>true
 | 12=>true
 | 14=>true
 | 16=>true
 | 17=>true
 | 18=>true
 | 19=>true
 | _=>false
def VC_markCmdS_1 (v:Value) (q1:Nat × Int):Prop:=(none:Option Nat)=none/\isBlkV v=true/\0<=(q1.1:Int)/\(q1.1:Int) < ((lenV v:Nat):Int)
def VC_markCmdS_2 (ro:Nat->Option (Array Value)) (v:Value) (q1:Nat × Int) (m:Nat) (xs:List GCmd) (k0:Int):Prop:=(((none:Option Nat)=none/\∃ x:List GFact,DR ro (.arr .fact x) (cellD ro (addP (addP (placeV v 10 (q1.1:Int).toNat) 6) 0))/\0<=(((((((q1.2:Int)+(1:Int))+(1:Int))+(1:Int))+(1:Int))+(1:Int))+(1:Int))/\(((((((q1.2:Int)+(1:Int))+(1:Int))+(1:Int))+(1:Int))+(1:Int))+(1:Int))+((3 * x.length:Nat):Int)<=4611686018427387904/\(0:Nat) < 1)/\(∀ xs2:List GFact,∀ kr3:Int,(DR ro (.arr .fact xs2) (cellD ro (addP (addP (placeV v 10 (q1.1:Int).toNat) 6) 0)))->((((((((q1.2:Int)+(1:Int))+(1:Int))+(1:Int))+(1:Int))+(1:Int))+(1:Int))<=kr3)->(kr3<=(((((((q1.2:Int)+(1:Int))+(1:Int))+(1:Int))+(1:Int))+(1:Int))+(1:Int))+((3 * xs2.length:Nat):Int))->True/\TT/\True/\True/\(VC_markCmdS_1 v q1)/\((none:Option Nat)=none/\isPtrV (placeV v 10 (q1.1:Int).toNat)=true)/\((none:Option Nat)=none/\isPtrV (addP (placeV v 10 (q1.1:Int).toNat) 6)=true)/\((none:Option Nat)=none/\∃ u,cellR ro (addP (addP (placeV v 10 (q1.1:Int).toNat) 6) 1)=some u/\isSlV u=true)/\True/\((none:Option Nat)=none/\∃ x:List GAtom,DR ro (.arr .atom x) (cellD ro (addP (addP (placeV v 10 (q1.1:Int).toNat) 6) 1))/\0<=kr3/\kr3+((3 * x.length:Nat):Int)<=4611686018427387904/\(0:Nat) < 1)/\(∀ xs4:List GAtom,∀ kr5:Int,(DR ro (.arr .atom xs4) (cellD ro (addP (addP (placeV v 10 (q1.1:Int).toNat) 6) 1)))->(kr3<=kr5)->(kr5<=kr3+((3 * xs4.length:Nat):Int))->True/\TT/\True/\True/\(VC_markCmdS_1 v q1)/\((none:Option Nat)=none/\isPtrV (placeV v 10 (q1.1:Int).toNat)=true)/\((none:Option Nat)=none/\∃ u,cellR ro (addP (placeV v 10 (q1.1:Int).toNat) 8)=some u/\isSlV u=true)/\True/\((none:Option Nat)=none/\∃ x:List GCmd,DR ro (.arr .cmd x) (cellD ro (addP (placeV v 10 (q1.1:Int).toNat) 8))/\0<=kr5/\kr5+((mkL x:Nat):Int)<=4611686018427387904/\(ndL x:Nat) < m)/\(∀ xs6:List GCmd,∀ kr7:Int,(DR ro (.arr .cmd xs6) (cellD ro (addP (placeV v 10 (q1.1:Int).toNat) 8)))->(kr5<=kr7)->(kr7<=kr5+((mkL xs6:Nat):Int))->True/\TT/\True/\True/\(VC_markCmdS_1 v q1)/\((none:Option Nat)=none/\isPtrV (placeV v 10 (q1.1:Int).toNat)=true)/\((none:Option Nat)=none/\∃ u,cellR ro (addP (placeV v 10 (q1.1:Int).toNat) 9)=some u/\isSlV u=true)/\True/\((none:Option Nat)=none/\∃ x:List GCmd,DR ro (.arr .cmd x) (cellD ro (addP (placeV v 10 (q1.1:Int).toNat) 9))/\0<=kr7/\kr7+((mkL x:Nat):Int)<=4611686018427387904/\(ndL x:Nat) < m)/\(∀ xs8:List GCmd,∀ kr9:Int,(DR ro (.arr .cmd xs8) (cellD ro (addP (placeV v 10 (q1.1:Int).toNat) 9)))->(kr7<=kr9)->(kr9<=kr7+((mkL xs8:Nat):Int))->True/\TT/\True/\(inK .i64 ((q1.1:Int)+(1:Int)))/\True/\((q1.1+1,kr9).1<=xs.length/\k0<=(q1.1+1,kr9).2/\(q1.1+1,kr9).2<=k0+((mkL (xs.take (q1.1+1,kr9).1):Nat):Int))/\((():Unit)=())/\(xs.length - (q1.1+1,kr9).1 < xs.length - q1.1)/\TT/\(RL [.s (.c (.d (.val (v))))])/\(([.s (.c (.d (.val (.int .i64 ((q1.1:Int)+(1:Int)))))),.s (.c (.d (.val (.int .i64 kr9))))]:List S)=[.s (.c (.d (.val (.int .i64 ((q1.1+1,kr9).1:Int))))),.s (.c (.d (.val (.int .i64 ((q1.1+1,kr9).2:Int)))))])/\(RM [])/\(RM [])/\True/\TT)))))
def VC_markCmdS_3 (q1:Nat × Int) (ro:Nat->Option (Array Value)) (v:Value) (m:Nat) (xs:List GCmd) (k0:Int):Prop:=(((none:Option Nat)=none/\isNumV (.int .i64 (q1.2:Int))=true/\∃ u,cellR ro (addP (placeV v 10 (q1.1:Int).toNat) 0)=some u/\isSlV u=false)/\TT/\True/\(inK .i64 ((q1.2:Int)+(1:Int)))/\True/\TT/\True/\True/\True/\(VC_markCmdS_1 v q1)/\((none:Option Nat)=none/\isPtrV (placeV v 10 (q1.1:Int).toNat)=true)/\((none:Option Nat)=none/\isNumV (.int .i64 ((q1.2:Int)+(1:Int)))=true/\∃ u,cellR ro (addP (placeV v 10 (q1.1:Int).toNat) 1)=some u/\isSlV u=false)/\TT/\True/\(inK .i64 (((q1.2:Int)+(1:Int))+(1:Int)))/\True/\TT/\True/\True/\True/\(VC_markCmdS_1 v q1)/\((none:Option Nat)=none/\isPtrV (placeV v 10 (q1.1:Int).toNat)=true)/\((none:Option Nat)=none/\isNumV (.int .i64 (((q1.2:Int)+(1:Int))+(1:Int)))=true/\∃ u,cellR ro (addP (placeV v 10 (q1.1:Int).toNat) 2)=some u/\isSlV u=false)/\TT/\True/\(inK .i64 ((((q1.2:Int)+(1:Int))+(1:Int))+(1:Int)))/\True/\TT/\True/\True/\True/\((3:Int) ≠ 0)/\True/\(VC_markCmdS_1 v q1)/\((none:Option Nat)=none/\isPtrV (placeV v 10 (q1.1:Int).toNat)=true)/\((none:Option Nat)=none/\isPtrV (addP (placeV v 10 (q1.1:Int).toNat) 3)=true)/\((none:Option Nat)=none/\isNumV (.bool ((Int.tmod ((((q1.2:Int)+(1:Int))+(1:Int))+(1:Int)) (3:Int)) == (0:Int)))=true/\∃ u,cellR ro (addP (addP (placeV v 10 (q1.1:Int).toNat) 3) 0)=some u/\isSlV u=false)/\TT/\True/\(inK .i64 (((((q1.2:Int)+(1:Int))+(1:Int))+(1:Int))+(1:Int)))/\True/\TT/\True/\True/\True/\(VC_markCmdS_1 v q1)/\((none:Option Nat)=none/\isPtrV (placeV v 10 (q1.1:Int).toNat)=true)/\((none:Option Nat)=none/\isPtrV (addP (placeV v 10 (q1.1:Int).toNat) 3)=true)/\((none:Option Nat)=none/\isNumV (.int .i64 (((((q1.2:Int)+(1:Int))+(1:Int))+(1:Int))+(1:Int)))=true/\∃ u,cellR ro (addP (addP (placeV v 10 (q1.1:Int).toNat) 3) 1)=some u/\isSlV u=false)/\TT/\True/\(inK .i64 ((((((q1.2:Int)+(1:Int))+(1:Int))+(1:Int))+(1:Int))+(1:Int)))/\True/\TT/\True/\True/\True/\(VC_markCmdS_1 v q1)/\((none:Option Nat)=none/\isPtrV (placeV v 10 (q1.1:Int).toNat)=true)/\((none:Option Nat)=none/\isPtrV (addP (placeV v 10 (q1.1:Int).toNat) 3)=true)/\((none:Option Nat)=none/\isNumV (.int .i64 ((((((q1.2:Int)+(1:Int))+(1:Int))+(1:Int))+(1:Int))+(1:Int)))=true/\∃ u,cellR ro (addP (addP (placeV v 10 (q1.1:Int).toNat) 3) 2)=some u/\isSlV u=false)/\TT/\True/\(inK .i64 (((((((q1.2:Int)+(1:Int))+(1:Int))+(1:Int))+(1:Int))+(1:Int))+(1:Int)))/\True/\TT/\True/\True/\(VC_markCmdS_1 v q1)/\((none:Option Nat)=none/\isPtrV (placeV v 10 (q1.1:Int).toNat)=true)/\((none:Option Nat)=none/\isPtrV (addP (placeV v 10 (q1.1:Int).toNat) 6)=true)/\((none:Option Nat)=none/\∃ u,cellR ro (addP (addP (placeV v 10 (q1.1:Int).toNat) 6) 0)=some u/\isSlV u=true)/\True/\(VC_markCmdS_2 ro v q1 m xs k0))
def VC_markCmdS (ro:Nat->Option (Array Value)) (xs:List GCmd) (v:Value) (k0:Int) (m:Nat):Prop:=TT/\True/\TT/\True/\(((0,k0).1<=xs.length/\k0<=(0,k0).2/\(0,k0).2<=k0+((mkL (xs.take (0,k0).1):Nat):Int))/\((():Unit)=())/\TT/\(RL [.s (.c (.d (.val (v))))])/\(([.s (.c (.d (.val (.int .i64 (0:Int))))),.s (.c (.d (.val (.int .i64 k0))))]:List S)=[.s (.c (.d (.val (.int .i64 ((0,k0).1:Int))))),.s (.c (.d (.val (.int .i64 ((0,k0).2:Int)))))])/\(RM [])/\(RM [])/\True/\TT)/\(∀ q1:Nat × Int,(q1.1<=xs.length/\k0<=q1.2/\q1.2<=k0+((mkL (xs.take q1.1):Nat):Int))->TT/\True/\True/\((none:Option Nat)=none/\isSlV v=true)/\True/\(vcIf (decide ((q1.1:Int) < ((lenV v:Nat):Int))) (TT/\True/\True/\True/\(VC_markCmdS_1 v q1)/\((none:Option Nat)=none/\isPtrV (placeV v 10 (q1.1:Int).toNat)=true)/\(VC_markCmdS_3 q1 ro v m xs k0)) (TT/\True/\True/\((none:Option Nat)=none)/\(k0<=(q1.2:Int)/\(q1.2:Int)<=k0+((mkL xs:Nat):Int)))))
theorem vcn_markCmdS (ro:Nat->Option (Array Value)) (xs:List GCmd) (v:Value) (k0:Int) (m:Nat) (hd:DR ro (.arr .cmd xs) v) (h0:0<=k0) (h1:k0+((mkL xs:Nat):Int)<=4611686018427387904) (hm:ndL xs < m+1):VC_markCmdS ro xs v k0 m:=by
 unfold VC_markCmdS VC_markCmdS_3 VC_markCmdS_2 VC_markCmdS_1
 simp only [cln,Nat.reduceEqDiff,Nat.reduceLeDiff,Nat.reduceAdd]
 have hv:=lenV_DR hd
 have hfull:=mkL_full xs
 have hge:=mkL_ge xs
 have hlim:∀ i,mkL (xs.take i)<=mkL xs:=fun i=>mkL_take xs i
 simp only [inK_i64,isPtr_add,addP_addP,Nat.reduceAdd,hv.1,hv.2,isNumV,Int.toNat_natCast]
 all_goals (try simp only [opn])
 all_goals (repeat' (first | apply And.intro | intro _))
 all_goals (repeat (cases ‹_/\_›))
 all_goals (first | omega | exact True.intro | with_reducible rfl | with_reducible assumption | with_reducible exact (mkCm hd ‹_›).1 | with_reducible exact (mkCm hd ‹_›).2.1 | with_reducible exact (mkCm hd ‹_›).2.2 _ (by decide) | with_reducible exact (mkC6 hd ‹_›).1 | with_reducible exact (mkC7 hd ‹_›).1 | with_reducible exact (mkC8 hd ‹_›).1 | with_reducible exact (mkC9 hd ‹_›).1 | skip)
 all_goals (try have hgi:=mkL_bd (xs:=xs) (by with_reducible assumption))
 all_goals (try have e6:=uq6 hd (by with_reducible assumption) (by with_reducible assumption))
 all_goals (try have e7:=uq7 hd (by with_reducible assumption) (by with_reducible assumption))
 all_goals (try have e8:=uq8 hd (by with_reducible assumption) (by with_reducible assumption))
 all_goals (try have e9:=uq9 hd (by with_reducible assumption) (by with_reducible assumption))
 all_goals (try subst e6)
 all_goals (try subst e7)
 all_goals (try subst e8)
 all_goals (try subst e9)
 all_goals (first | omega | exact mkEnd (by with_reducible assumption) | exact ⟨_,(mkC6 hd (by with_reducible assumption)).2,by omega,by omega,by omega⟩ | exact ⟨_,(mkC7 hd (by with_reducible assumption)).2,by omega,by omega,by omega⟩ | exact ⟨_,(mkC8 hd (by with_reducible assumption)).2,by omega,by omega,by omega⟩ | exact ⟨_,(mkC9 hd (by with_reducible assumption)).2,by omega,by omega,by omega⟩ | skip)
def an_markCmdS (ro:Nat->Option (Array Value)) (xs:List GCmd) (v:Value) (k0:Int):Nat->St->Unit->Option (AnnY Unit)
 | 2,_,_=>some ⟨{ α:=Nat × Int,ok:=fun q=>q.1<=xs.length/\k0<=q.2/\q.2<=k0+((mkL (xs.take q.1):Nat):Int),mu:=fun q=>xs.length - q.1,i0:=fun _=>(0,k0),nx:=fun q st=>(q.1+1,intAt st 1),live:=[0],sets:=fun q=>[(5,sv (.int .i64 q.1)),(1,sv (.int .i64 q.2))],mids:=[],blks:=fun q=>[],owns:=fun q=>[],rd:=fun r _=>r,base:=100000 },fun _=>()⟩
 | _,_,_=>none
theorem mfs_markCmdS (m:Nat) (ih:MarkOk Try.prog 77 .cmd ndL mkL m):∀ q ∈ ([⟨115,.fact,fun x=>0,fun x=>3 * x.length,1⟩,⟨116,.atom,fun x=>0,fun x=>3 * x.length,1⟩,⟨77,.cmd,fun x=>ndL x,fun x=>mkL x,m⟩]:List MF),MFok Try.prog q:=by
 intro q hq
 simp only [List.mem_cons,List.mem_nil_iff,or_false] at hq
 rcases hq with rfl | rfl | rfl
 ·exact ⟨mk_markFactS,⟨Try.f115,_,Try.func115,by kernel_rfl,rfl⟩⟩
 ·exact ⟨mk_markAtomS,⟨Try.f116,_,Try.func116,by kernel_rfl,rfl⟩⟩
 ·exact ⟨ih,⟨Try.f77,_,Try.func77,by kernel_rfl,rfl⟩⟩
theorem mk_markCmdS:∀ m,MarkOk Try.prog 77 .cmd ndL mkL m:=by
 intro m
 induction m with
 | zero=>intro ro xs v k w _ _ _ _ h;omega
 | succ m ih =>
  exact mark_sound (E:=E) (tab:=tab) (fn:=Try.f77) (hp:=hp_markCmdS) (gcs:=fun _=>none) (perm:=fun _=>[]) (fs:=[⟨115,.fact,fun x=>0,fun x=>3 * x.length,1⟩,⟨116,.atom,fun x=>0,fun x=>3 * x.length,1⟩,⟨77,.cmd,fun x=>ndL x,fun x=>mkL x,m⟩]) (anns:=fun ro xs v k0=>an_markCmdS ro xs v k0) tabOk mix Try.func77 rfl (by decide) (by kernel_rfl) (mfs_markCmdS m ih) (fun ro xs v k0 h1 h2 h3 h4=>Eq.mp (by kernel_rfl) (vcn_markCmdS ro xs v k0 m h1 h2 h3 h4))
def hp_markCmd:Nat->Bool
 | 1=>true
 | 2=>true
 | 3=>true
 | _=>false
def VC_markCmd_1 (ro:Nat->Option (Array Value)) (u8:Value) (kr3:Int) (m:Nat):Prop:=(none:Option Nat)=none/\∃ x:List GCmd,DR ro (.arr .cmd x) u8/\0<=kr3/\kr3+((mkL x:Nat):Int)<=4611686018427387904/\(ndL x:Nat) < m
def VC_markCmd (ro:Nat->Option (Array Value)) (c:GCmd) (u0 u1 u2 u3 u4 u5 u6 u7 u8 u9:Value) (k0:Int) (m:Nat):Prop:=TT/\TN/\True/\TT/\True/\True/\True/\((none:Option Nat)=none/\∃ (x:List GFact) (y:List GAtom),DR ro (.arr .fact x) u6/\DR ro (.arr .atom y) u7/\0<=k0/\k0+((3 * x.length+3 * y.length:Nat):Int)<=4611686018427387904)/\(∀ xs1:List GFact,∀ ys2:List GAtom,∀ kr3:Int,(DR ro (.arr .fact xs1) u6)->(DR ro (.arr .atom ys2) u7)->(k0<=kr3)->(kr3<=k0+((3 * xs1.length+3 * ys2.length:Nat):Int))->True/\TT/\True/\True/\True/\(VC_markCmd_1 ro u8 kr3 m)/\(∀ xs4:List GCmd,∀ kr5:Int,(DR ro (.arr .cmd xs4) u8)->(kr3<=kr5)->(kr5<=kr3+((mkL xs4:Nat):Int))->True/\TT/\True/\True/\True/\(VC_markCmd_1 ro u9 kr5 m)/\(∀ xs6:List GCmd,∀ kr7:Int,(DR ro (.arr .cmd xs6) u9)->(kr5<=kr7)->(kr7<=kr5+((mkL xs6:Nat):Int))->True/\TT/\True/\True/\((none:Option Nat)=none)/\(k0<=kr7/\kr7<=k0+((mkX c:Nat):Int)))))
theorem vcn_markCmd (ro:Nat->Option (Array Value)) (c:GCmd) (u0 u1 u2 u3 u4 u5 u6 u7 u8 u9:Value) (k0:Int) (m:Nat) (hd6:DR ro (.arr .fact c.inv.facts) u6) (hd7:DR ro (.arr .atom c.inv.atoms) u7) (hd8:DR ro (.arr .cmd c.body) u8) (hd9:DR ro (.arr .cmd c.els) u9) (h0:0<=k0) (h1:k0+((mkX c:Nat):Int)<=4611686018427387904) (hm8:ndL c.body < m) (hm9:ndL c.els < m):VC_markCmd ro c u0 u1 u2 u3 u4 u5 u6 u7 u8 u9 k0 m:=by
 unfold VC_markCmd VC_markCmd_1
 simp only [cln,Nat.reduceEqDiff,Nat.reduceLeDiff,Nat.reduceAdd]
 unfold mkX at *
 all_goals (try simp only [opn])
 all_goals (repeat' (first | apply And.intro | intro _))
 all_goals (repeat (cases ‹_/\_›))
 all_goals (try have e1:=congrArg List.length (DR.fact_uniq (by with_reducible assumption) hd6))
 all_goals (try have e2:=congrArg List.length (DR.atom_uniq (by with_reducible assumption) hd7))
 all_goals (try have e3:=congrArg mkL (DR.cmd_uniq (by with_reducible assumption) hd8))
 all_goals (try have e4:=congrArg mkL (DR.cmd_uniq (by with_reducible assumption) hd9))
 all_goals (first | omega | exact ⟨_,_,hd6,hd7,by omega,by omega⟩ | exact ⟨_,hd8,by omega,by omega,by omega⟩ | exact ⟨_,hd9,by omega,by omega,by omega⟩ | exact ⟨_,by with_reducible assumption,by omega,by omega,by omega⟩)
theorem vce_markCmd (ro:Nat->Option (Array Value)) (c:GCmd) (u0 u1 u2 u3 u4 u5 u6 u7 u8 u9:Value) (k0:Int) (m:Nat):VC_markCmd ro c u0 u1 u2 u3 u4 u5 u6 u7 u8 u9 k0 m=vcY tab (lookF []) (lookP []) (spL tab ro [⟨77,.cmd,fun x=>ndL x,fun x=>mkL x,m⟩] (some 76)) noSpL (fun _=>false) hp_markCmd (fun _=>none) (fun _ _ _=>none) (fun _=>[]) (bodyOf Try.f39) (entry [.agg [.d (.val u0),.d (.val u1),.d (.val u2),.d (.val u3),.d (.val u4),.d (.val u5),.d (.val u6),.d (.val u7),.d (.val u8),.d (.val u9)],.c (.d (.val (.int .i64 k0)))] none) () (retL tab Try.f39.results.toList k0 (mkX c)):=by kernel_rfl
theorem mk_markCmd:MarkC Try.prog 39:=by
 exact markC_sound (E:=E) (tab:=tab) (fn:=Try.f39) (hp:=hp_markCmd) (gcs:=fun _=>none) (perm:=fun _=>[]) (fs:=fun c=>[⟨77,.cmd,fun x=>ndL x,fun x=>mkL x,ndL c.body+ndL c.els+1⟩]) (fa:=76) tabOk mix Try.func39 rfl (by decide) (by kernel_rfl) (by intro c q hq;simp only [List.mem_cons,List.mem_nil_iff,or_false] at hq;subst hq;exact ⟨mk_markCmdS _,⟨Try.f77,_,Try.func77,by kernel_rfl,rfl⟩⟩) ⟨mk_markAssertion,⟨Try.f76,_,Try.func76,by kernel_rfl,rfl⟩⟩ (fun ro c u0 u1 u2 u3 u4 u5 u6 u7 u8 u9 k0 h6 h7 h8 h9 h0 h1=>(vce_markCmd ro c u0 u1 u2 u3 u4 u5 u6 u7 u8 u9 k0 (ndL c.body+ndL c.els+1)).mp (vcn_markCmd ro c u0 u1 u2 u3 u4 u5 u6 u7 u8 u9 k0 (ndL c.body+ndL c.els+1) h6 h7 h8 h9 h0 h1 (by omega) (by omega)))
abbrev c_heldIntS:Con:=⟨[.sl .int,.int],[.int],fun (l,n,_)=>0<=n/\n<=4611686018427387904/\l.length<=281474976710656,.inl fun (l,n,_)=>(hdI l n,()),fun _=>0⟩
abbrev L_heldIntS:List (FuncId × Con):=[]
abbrev P_heldIntS:List (FuncId × PT):=[]
def an_heldIntS (l:List Int) (n:Int):Nat->St->Option Ann
 | 2,se=>some { α:=Nat,ok:=fun i=>i<=l.length/\hdI' (fI n) l i,mu:=fun i=>l.length - i,i0:=fun _=>0,nx:=fun a _=>(fun i=>i+1) a,live:=[0],sets:=fun i=>[(5,sv (.int .i64 i)),(1,sv (.int .i64 (n+(i:Int))))],mids:=[],blks:=fun i=>[],owns:=fun i=>[],rd:=fun r _=>r,base:=100000 }
 | _,_=>none
def VC_heldIntS (l:List Int) (n:Int) (k:Nat):Prop:=True/\True/\((0<=l.length/\hdI' (fI n) l 0)/\TT/\(RL [.s (.c (.d (.arr .int l)))])/\(([.s (.c (.d (.val (.int .i64 (0:Int))))),.s (.c (.d (.val (.int .i64 n))))]:List S)=[.s (.c (.d (.val (.int .i64 ((0:Nat):Int))))),.s (.c (.d (.val (.int .i64 (n+(0:Int):Int)))))])/\(RM [])/\(RM [])/\True/\TT)/\(∀ i1:Nat,(i1<=l.length/\hdI' (fI n) l i1)->True/\True/\True/\True/\(vcIf (decide (((i1:Nat):Int) < ((l.length:Nat):Int))) (True/\True/\(0<=((i1:Nat):Int)/\((i1:Nat):Int) < ((l.length:Nat):Int))/\True/\True/\True/\(vcIf ((l.getD i1 (0:Int)) != (n+(i1:Int):Int)) (True/\((((-1:Int),()):Int × Unit)=(hdI l n,()))/\True/\True/\True/\True/\TF) (True/\(inK .i64 ((n+(i1:Int):Int)+(1:Int)))/\True/\True/\(inK .i64 (((i1:Nat):Int)+(1:Int)))/\True/\((i1+1)<=l.length/\hdI' (fI n) l (i1+1))/\(l.length - (i1+1) < l.length - i1)/\TT/\(RL [.s (.c (.d (.arr .int l)))])/\(([.s (.c (.d (.val (.int .i64 (((i1:Nat):Int)+(1:Int)))))),.s (.c (.d (.val (.int .i64 ((n+(i1:Int):Int)+(1:Int))))))]:List S)=[.s (.c (.d (.val (.int .i64 (((i1+1):Nat):Int))))),.s (.c (.d (.val (.int .i64 (n+((i1+1):Int):Int)))))])/\(RM [])/\(RM [])/\True/\TT))) (True/\True/\((((n+(i1:Int):Int),()):Int × Unit)=(hdI l n,()))/\True/\True/\True/\True/\TF)))
theorem vcn_heldIntS (l:List Int) (n:Int) (k:Nat) (hp:0<=n/\n<=4611686018427387904/\l.length<=281474976710656):VC_heldIntS l n k:=by
 unfold VC_heldIntS
 simp only [cln,Nat.reduceEqDiff,Nat.reduceLeDiff,Nat.reduceAdd]
 all_goals (try simp only [opn])
 all_goals (repeat' (first | apply And.intro | intro _))
 all_goals (repeat (cases ‹_/\_›))
 all_goals (first | omega | exact hd_zero _ _ | (simp_all;done) | skip)
 all_goals (first | (refine hd_step (d:=Ty.zero .int) ‹_› ‹_› ?_;simp only [Ty.zero,fI] at *;first | assumption | (cases h:l.getD _ _;simp_all;omega) | grind) | (have h5:=hd_full ‹_› ‹_› ‹_›;unfold hdI mkI;rw [decide_eq_true h5,cond_true];omega) | (have h5:l ≠ mkI l n:=hd_not (d:=Ty.zero .int) ‹_› (fun e=>by simp only [Ty.zero,fI] at *;first | (simp_all;done) | (simp_all;omega));unfold hdI;rw [decide_eq_false h5];rfl) | grind)
theorem ok_heldIntS:FnOk Try.prog E 78 c_heldIntS :=
 fn_okQ (l:=L_heldIntS) (lp:=P_heldIntS) (hp:=fun _=>false) (gcs:=fun _=>none) (perm:=fun _=>[]) tabOk mix trivial trivial Try.func78 rfl (by kernel_rfl) (by decide) (by kernel_rfl) (anns:=fun x _=>an_heldIntS x.1 x.2.1) (fun ⟨l,n,_⟩ k hp _=>Eq.mp (by kernel_rfl) (vcn_heldIntS l n k hp)) tot_fn
abbrev c_heldState:Con:=⟨[.state,.int],[.int],fun (s,n,_)=>s.vals.length<=281474976710656/\s.heap.length<=281474976710656/\0<=n/\n<=2305843009213693952,.inl fun (s,n,_)=>(hdS s n,()),fun _=>0⟩
abbrev L_heldState:List (FuncId × Con):=[(78,c_heldIntS)]
abbrev P_heldState:List (FuncId × PT):=[]
def VC_heldState_1 (s:GState) (n:Int):Prop:=True/\((((-1:Int),()):Int × Unit)=(hdS s n,()))/\True/\True/\True/\True/\TF
def VC_heldState (s:GState) (n:Int) (k:Nat):Prop:=TN/\True/\True/\True/\True/\((0<=n/\n<=4611686018427387904/\s.vals.length<=281474976710656)/\True/\True)/\True/\True/\True/\(vcIf (decide ((hdI s.vals n) < (0:Int))) (VC_heldState_1 s n) (True/\True/\True/\((0<=(hdI s.vals n)/\(hdI s.vals n)<=4611686018427387904/\s.heap.length<=281474976710656)/\True/\True)/\True/\True/\True/\(vcIf (decide ((hdI s.heap (hdI s.vals n)) < (0:Int))) (VC_heldState_1 s n) (True/\True/\((((hdI s.heap (hdI s.vals n)),()):Int × Unit)=(hdS s n,()))/\True/\True/\True/\True/\TF))))
theorem vcn_heldState (s:GState) (n:Int) (k:Nat) (hp:s.vals.length<=281474976710656/\s.heap.length<=281474976710656/\0<=n/\n<=2305843009213693952):VC_heldState s n k:=by
 unfold VC_heldState VC_heldState_1
 simp only [cln,Nat.reduceEqDiff,Nat.reduceLeDiff,Nat.reduceAdd]
 have h1:=hdI_le s.vals n hp.2.2.1
 all_goals (try simp only [opn])
 all_goals (repeat' (first | apply And.intro | intro _))
 all_goals (repeat (cases ‹_/\_›))
 all_goals (first | omega | rfl | assumption | (simp_all;done) | skip)
 all_goals (first | omega | (unfold hdS;rw [if_pos ‹_›];done) | (unfold hdS;rw [if_neg ‹_›,if_pos ‹_›];done) | (unfold hdS;rw [if_neg ‹_›,if_neg ‹_›];done) | skip)
theorem ok_heldState:FnOk Try.prog E 40 c_heldState :=
 fn_okQ (l:=L_heldState) (lp:=P_heldState) (hp:=fun _=>false) (gcs:=fun _=>none) (perm:=fun _=>[]) tabOk mix ⟨ok_heldIntS,trivial⟩ trivial Try.func40 rfl (by kernel_rfl) (by decide) (by kernel_rfl) (anns:=fun x _=>fun _ _=>none) (fun ⟨s,n,_⟩ k hp _=>Eq.mp (by kernel_rfl) (vcn_heldState s n k hp)) tot_fn
abbrev L_FnExactRunBasic:List (FuncId × Con):=[(28,c_iRunBasic),(29,c_sRunBasic),(32,c_szState),(33,c_szCmd),(34,c_toState),(35,c_toCmd),(36,c_eqState),(37,c_eqCmd),(40,c_heldState)]
abbrev P_FnExactRunBasic:List (FuncId × PT):=[(38,pt_markState)]
def hp_FnExactRunBasic:Nat->Bool
 | 19=>true
 | 20=>true
 | 24=>true
 | _=>false
def VC_FnExactRunBasic_1 (y:GCmd):Prop:=(wtC (GCmd.mk y.kind y.a y.b y.test y.inv y.body y.els)<=1048576)/\True/\True/\True
def VC_FnExactRunBasic_2 (x:GState) (y:GCmd):Prop:=(x.vals.length<=1048576/\x.heap.length<=1048576/\BdC (GCmd.mk y.kind y.a y.b y.test y.inv y.body y.els))/\True/\TN/\TN/\True
def VC_FnExactRunBasic_3 (x:GState) (y:GCmd):Prop:=((rbS x (GCmd.mk y.kind y.a y.b y.test y.inv y.body y.els)).vals.length<=281474976710656/\(rbS x (GCmd.mk y.kind y.a y.b y.test y.inv y.body y.els)).heap.length<=281474976710656/\(rbS x (GCmd.mk y.kind y.a y.b y.test y.inv y.body y.els)).vals.length<=281474976710656/\(rbS x (GCmd.mk y.kind y.a y.b y.test y.inv y.body y.els)).heap.length<=281474976710656)/\True/\True
def VC_FnExactRunBasic_4 (x:GState) (y:GCmd):Prop:=((⟨mkI ((rbS x (GCmd.mk y.kind y.a y.b y.test y.inv y.body y.els)).vals) (1:Int),mkI ((rbS x (GCmd.mk y.kind y.a y.b y.test y.inv y.body y.els)).heap) ((1:Int)+(((rbS x (GCmd.mk y.kind y.a y.b y.test y.inv y.body y.els)).vals).length:Int))⟩:GState).vals.length<=281474976710656/\(⟨mkI ((rbS x (GCmd.mk y.kind y.a y.b y.test y.inv y.body y.els)).vals) (1:Int),mkI ((rbS x (GCmd.mk y.kind y.a y.b y.test y.inv y.body y.els)).heap) ((1:Int)+(((rbS x (GCmd.mk y.kind y.a y.b y.test y.inv y.body y.els)).vals).length:Int))⟩:GState).heap.length<=281474976710656/\0<=(1:Int)/\(1:Int)<=2305843009213693952)/\True/\True
def VC_FnExactRunBasic_5 (x:GState) (y:GCmd):Prop:=((0<=((1:Int)+(((rbS x (GCmd.mk y.kind y.a y.b y.test y.inv y.body y.els)).vals).length:Int))/\((1:Int)+(((rbS x (GCmd.mk y.kind y.a y.b y.test y.inv y.body y.els)).vals).length:Int))<=4611686018427387904/\((rbS x (GCmd.mk y.kind y.a y.b y.test y.inv y.body y.els)).heap).length<=281474976710656)/\True/\True/\True/\True/\TT/\True/\TT/\True/\True/\(VC_FnExactRunBasic_4 x y)/\True/\TT/\True/\True/\(vcIf (decide ((hdS (⟨mkI ((rbS x (GCmd.mk y.kind y.a y.b y.test y.inv y.body y.els)).vals) (1:Int),mkI ((rbS x (GCmd.mk y.kind y.a y.b y.test y.inv y.body y.els)).heap) ((1:Int)+(((rbS x (GCmd.mk y.kind y.a y.b y.test y.inv y.body y.els)).vals).length:Int))⟩:GState) (1:Int)) < (0:Int))) (TT/\True/\((none:Option Nat)=none)/\((false:Bool)=true)) (TT/\True/\True/\True/\(vcIf ((hdS (⟨mkI ((rbS x (GCmd.mk y.kind y.a y.b y.test y.inv y.body y.els)).vals) (1:Int),mkI ((rbS x (GCmd.mk y.kind y.a y.b y.test y.inv y.body y.els)).heap) ((1:Int)+(((rbS x (GCmd.mk y.kind y.a y.b y.test y.inv y.body y.els)).vals).length:Int))⟩:GState) (1:Int)) != (((1:Int)+(((rbS x (GCmd.mk y.kind y.a y.b y.test y.inv y.body y.els)).vals).length:Int))+(((rbS x (GCmd.mk y.kind y.a y.b y.test y.inv y.body y.els)).heap).length:Int))) (TT/\True/\((none:Option Nat)=none)/\((false:Bool)=true)) (TT/\True/\((x.vals.length<=1048576/\x.heap.length<=1048576)/\True/\TN/\TN/\True)/\True/\(VC_FnExactRunBasic_1 y)/\(VC_FnExactRunBasic_2 x y)/\True/\True/\True/\(TN/\TN/\TN/\True)/\(TF/\TF)/\True/\TT/\True/\True/\(VC_FnExactRunBasic_3 x y)/\True/\True/\(vcIf (!(decide ((rbS x (GCmd.mk y.kind y.a y.b y.test y.inv y.body y.els))=(rbS x (GCmd.mk y.kind y.a y.b y.test y.inv y.body y.els))))) (True/\TT/\True/\((none:Option Nat)=none)/\((false:Bool)=true)) (True/\True/\True/\True/\(vcIf ((rbK x (GCmd.mk y.kind y.a y.b y.test y.inv y.body y.els)) != (rbK x (GCmd.mk y.kind y.a y.b y.test y.inv y.body y.els))) (TT/\True/\((none:Option Nat)=none)/\((false:Bool)=true)) (TT/\True/\TT/\True/\True/\(VC_FnExactRunBasic_4 x y)/\True/\TT/\True/\True/\(vcIf (decide ((hdS (⟨mkI ((rbS x (GCmd.mk y.kind y.a y.b y.test y.inv y.body y.els)).vals) (1:Int),mkI ((rbS x (GCmd.mk y.kind y.a y.b y.test y.inv y.body y.els)).heap) ((1:Int)+(((rbS x (GCmd.mk y.kind y.a y.b y.test y.inv y.body y.els)).vals).length:Int))⟩:GState) (1:Int)) < (0:Int))) (TT/\True/\((none:Option Nat)=none)/\((false:Bool)=true)) (TT/\True/\True/\True/\(vcIf ((hdS (⟨mkI ((rbS x (GCmd.mk y.kind y.a y.b y.test y.inv y.body y.els)).vals) (1:Int),mkI ((rbS x (GCmd.mk y.kind y.a y.b y.test y.inv y.body y.els)).heap) ((1:Int)+(((rbS x (GCmd.mk y.kind y.a y.b y.test y.inv y.body y.els)).vals).length:Int))⟩:GState) (1:Int)) != (((1:Int)+(((rbS x (GCmd.mk y.kind y.a y.b y.test y.inv y.body y.els)).vals).length:Int))+(((rbS x (GCmd.mk y.kind y.a y.b y.test y.inv y.body y.els)).heap).length:Int))) (TT/\True/\((none:Option Nat)=none)/\((false:Bool)=true)) (TT/\True/\((none:Option Nat)=none)/\((true:Bool)=true))))))))))))))
def VC_FnExactRunBasic_6 (x:GState) (y:GCmd) (W:World) (v0:Value) (v1:Value) (u6:Value) (u7:Value) (u8:Value) (u9:Value):Prop:=(((x.vals.length<=281474976710656/\x.heap.length<=281474976710656/\x.vals.length<=281474976710656/\x.heap.length<=281474976710656)/\True/\True)/\True/\(vcIf (!(decide (x=x))) (TT/\True/\((none:Option Nat)=none)/\((false:Bool)=true)) (TT/\True/\True/\(VC_FnExactRunBasic_1 y)/\((BdC (GCmd.mk y.kind y.a y.b y.test y.inv y.body y.els)/\BdC (GCmd.mk y.kind y.a y.b y.test y.inv y.body y.els))/\True/\True)/\True/\(vcIf (!(decide ((GCmd.mk y.kind y.a y.b y.test y.inv y.body y.els)=(GCmd.mk y.kind y.a y.b y.test y.inv y.body y.els)))) (TT/\True/\((none:Option Nat)=none)/\((false:Bool)=true)) (TT/\True/\TT/\True/\True/\((2:Nat)<=14)/\TN/\True/\True/\True/\True/\TF/\TF/\True/\True/\(0<=(1:Int)/\(1:Int)<=4611686018427387904/\x.vals.length<=281474976710656)/\True/\True/\True/\True/\TF/\TF/\True/\True/\(0<=((1:Int)+(x.vals.length:Int))/\((1:Int)+(x.vals.length:Int))<=4611686018427387904/\x.heap.length<=281474976710656)/\True/\True/\True/\True/\TT/\True/\True/\(((none:Option Nat)=none)/\(0<=(((1:Int)+(x.vals.length:Int))+(x.heap.length:Int)))/\((((1:Int)+(x.vals.length:Int))+(x.heap.length:Int))+((3 * y.inv.facts.length+3 * y.inv.atoms.length+mkL y.body+mkL y.els:Nat):Int)<=4611686018427387904)/\(True/\True/\True/\True/\True/\True/\True/\True)/\(((DR (roAll W) (.arr .int x.vals) v0)/\(DR (roAll W) (.arr .int x.heap) v1)/\True)/\TF/\TF)/\((True/\True/\True/\True/\True/\True/\(DR (roAll W) (.arr .lfact y.inv.facts) u6)/\(DR (roAll W) (.arr .latom y.inv.atoms) u7)/\(DR (roAll W) (.arr .lcmd y.body) u8)/\(DR (roAll W) (.arr .lcmd y.els) u9)/\True)/\TF/\TF)/\((True/\True/\True)/\TF/\TF)/\((True/\True/\True)/\TF/\TF)/\(TT/\TF/\TF)/\(TT/\TF/\TF)/\(TT/\TF/\TF)/\(TT/\TF/\TF)/\True)/\(∀ kr1:Int,((((1:Int)+(x.vals.length:Int))+(x.heap.length:Int))<=kr1)->(kr1<=(((1:Int)+(x.vals.length:Int))+(x.heap.length:Int))+((3 * y.inv.facts.length+3 * y.inv.atoms.length+mkL y.body+mkL y.els:Nat):Int))->True/\TT/\True/\True/\True/\(vcIf (decide (kr1 < (0:Int))) (True/\True/\True/\TT/\True/\((none:Option Nat)=none)/\((false:Bool)=true)) (True/\True/\(VC_FnExactRunBasic_3 x y)/\True/\True/\True/\(vcIf (!(decide ((rbS x (GCmd.mk y.kind y.a y.b y.test y.inv y.body y.els))=(rbS x (GCmd.mk y.kind y.a y.b y.test y.inv y.body y.els))))) (True/\TT/\True/\((none:Option Nat)=none)/\((false:Bool)=true)) (True/\True/\True/\True/\(vcIf ((rbK x (GCmd.mk y.kind y.a y.b y.test y.inv y.body y.els)) != (rbK x (GCmd.mk y.kind y.a y.b y.test y.inv y.body y.els))) (TT/\True/\((none:Option Nat)=none)/\((false:Bool)=true)) (TT/\True/\TT/\True/\True/\((2:Nat)<=14)/\TN/\True/\True/\True/\True/\TF/\TF/\True/\True/\(0<=(1:Int)/\(1:Int)<=4611686018427387904/\((rbS x (GCmd.mk y.kind y.a y.b y.test y.inv y.body y.els)).vals).length<=281474976710656)/\True/\True/\True/\True/\TF/\TF/\True/\True/\(VC_FnExactRunBasic_5 x y)))))))))))))
def VC_FnExactRunBasic (W:World) (x:GState) (y:GCmd) (v0 v1 u6 u7 u8 u9:Value):Prop:=TT/\TN/\TN/\True/\TT/\True/\TT/\True/\True/\((x.vals.length<=281474976710656/\x.heap.length<=281474976710656/\0<=(1048576:Int)/\(1048576:Int)<=1048576)/\True/\True)/\True/\TT/\True/\True/\(vcIf (decide ((szS x (1048576:Int)) < (0:Int))) (TT/\True/\((none:Option Nat)=none)/\((true:Bool)=true)) (TT/\True/\True/\((BdC (GCmd.mk y.kind y.a y.b y.test y.inv y.body y.els)/\0<=(szS x (1048576:Int))/\(szS x (1048576:Int))<=1048576)/\True/\True)/\True/\TT/\True/\True/\(vcIf (decide ((sz1 (szS x (1048576:Int)) (wtC (GCmd.mk y.kind y.a y.b y.test y.inv y.body y.els))) < (0:Int))) (TT/\True/\((none:Option Nat)=none)/\((true:Bool)=true)) (TT/\True/\((x.vals.length<=1048576/\x.heap.length<=1048576)/\True/\TN/\TN/\True)/\True/\(VC_FnExactRunBasic_1 y)/\(VC_FnExactRunBasic_2 x y)/\True/\True/\True/\(TN/\TN/\TN/\True)/\(TF/\TF)/\True/\TT/\True/\((x.vals.length<=1048576/\x.heap.length<=1048576)/\True/\TN/\TN/\True)/\(TN/\TN/\TN/\True)/\(TF/\TF)/\TT/\True/\(VC_FnExactRunBasic_1 y)/\(TN/\TN/\TN/\TN/\TN/\True)/\(TF/\TF)/\TT/\True/\True/\(VC_FnExactRunBasic_2 x y)/\True/\True/\True/\(TN/\TN/\TN/\True)/\(TF/\TF)/\True/\TT/\True/\True/\(VC_FnExactRunBasic_3 x y)/\True/\True/\(vcIf (!(decide ((rbS x (GCmd.mk y.kind y.a y.b y.test y.inv y.body y.els))=(rbS x (GCmd.mk y.kind y.a y.b y.test y.inv y.body y.els))))) (True/\TT/\True/\((none:Option Nat)=none)/\((false:Bool)=true)) (True/\True/\True/\True/\(vcIf ((rbK x (GCmd.mk y.kind y.a y.b y.test y.inv y.body y.els)) != (rbK x (GCmd.mk y.kind y.a y.b y.test y.inv y.body y.els))) (TT/\True/\((none:Option Nat)=none)/\((false:Bool)=true)) (TT/\True/\True/\((x.vals.length<=1048576/\x.heap.length<=1048576)/\True/\TN/\TN/\True)/\(VC_FnExactRunBasic_6 x y W v0 v1 u6 u7 u8 u9)))))))))
theorem vcn_FnExactRunBasic (W:World) (x:GState) (y:GCmd) (v0 v1 u6 u7 u8 u9:Value) (hp:x.vals.length<=281474976710656/\x.heap.length<=281474976710656/\BdC y) (hd0:DR (roAll W) (.arr .int x.vals) v0) (hd1:DR (roAll W) (.arr .int x.heap) v1) (hd6:DR (roAll W) (.arr .lfact y.inv.facts) u6) (hd7:DR (roAll W) (.arr .latom y.inv.atoms) u7) (hd8:DR (roAll W) (.arr .lcmd y.body) u8) (hd9:DR (roAll W) (.arr .lcmd y.els) u9):VC_FnExactRunBasic W x y v0 v1 u6 u7 u8 u9:=by
 unfold VC_FnExactRunBasic VC_FnExactRunBasic_6 VC_FnExactRunBasic_5 VC_FnExactRunBasic_4 VC_FnExactRunBasic_3 VC_FnExactRunBasic_2 VC_FnExactRunBasic_1
 simp only [cln,Nat.reduceEqDiff,Nat.reduceLeDiff,Nat.reduceAdd,bne_self_eq_false,beq_self_eq_true,decide_true,eq_self,Bool.not_true,Bool.not_false,vcIf_true,vcIf_false,Bool.false_and,Bool.true_and,Bool.or_false,Bool.or_true,GCmd.eta]
 have hL:=rb_len x y
 have hX:=mkX_le y
 have hm:=hdS_mk (rbS x y).vals (rbS x y).heap 1 (by omega)
 have hE:=mkI_len (rbS x y).vals 1
 have hF:=mkI_len (rbS x y).heap (1+((rbS x y).vals.length:Int))
 obtain ⟨hp1,hp2,hp3⟩:=hp
 have hz:szS x 1048576 < 0 ∨ (0<=szS x 1048576/\szS x 1048576<=1048576/\x.vals.length<=1048576/\x.heap.length<=1048576):=by
  simp only [szS,sz1];grind
 have hz2:sz1 (szS x 1048576) (wtC y) < 0 ∨ (0<=sz1 (szS x 1048576) (wtC y)/\((wtC y:Nat):Int)<=szS x 1048576):=by
  simp only [sz1];grind
 simp only [hm,hE,hF]
 all_goals (try simp only [vcIf_iff,decide_eq_true_eq,decide_eq_false_iff_not,bne_iff_ne,ne_eq,beq_iff_eq,beq_eq_false_iff_ne,bne_eq_false_iff_eq,Bool.not_eq_true',Bool.not_eq_false',Int.ofNat_lt,Int.natCast_inj,opn])
 all_goals (repeat' (first | apply And.intro | intro _))
 all_goals (first | omega | assumption | (with_reducible rfl) | trivial | (simp_all;done) | skip)
theorem lw_FnExactRunBasic (W:World) (hB:Base.n0=W.heap.size) (x:GState) (y:GCmd) (hp:x.vals.length<=281474976710656/\x.heap.length<=281474976710656/\BdC y) {vs:List Value} (hargs:ArgsR (argG (roAll W) 0) (encs [.state,.lcmd] (x,y,())) vs):Calls Try.prog 11 vs.toArray W fun e W'=>e=.returned (.bool true)/\Below W.heap.size W W' :=
 lawF (E:=E) (tab:=tab) (l:=L_FnExactRunBasic) (lp:=P_FnExactRunBasic) (hp:=hp_FnExactRunBasic) (gcs:=fun _=>none) (perm:=fun _=>[]) (ke:=[2,3,4,6,7,10,11]) (km:=[47,63,111,175,512,513,672,673]) (anns:=fun _ _ _=>none) tabOk mix ⟨ok_iRunBasic,ok_sRunBasic,ok_szState,ok_szCmd,ok_toState,ok_toCmd,ok_eqState,ok_eqCmd,ok_heldState,trivial⟩ ⟨ptok_markState,trivial⟩ Try.func11 rfl (by decide) (by kernel_rfl) mk_markCmd ⟨Try.f39,_,Try.func39,by kernel_rfl,rfl⟩ hB (fun v0 v1 u6 u7 u8 u9 d0 d1 d6 d7 d8 d9=>Eq.mp (by kernel_rfl) (vcn_FnExactRunBasic W x y v0 v1 u6 u7 u8 u9 hp d0 d1 d6 d7 d8 d9)) hargs
end Go.Proofs.Ytkafaeeianofnaa
