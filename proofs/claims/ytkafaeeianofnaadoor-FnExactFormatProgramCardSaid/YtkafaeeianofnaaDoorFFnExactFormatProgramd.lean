/-
  Contracts of single functions of the program, each shown by the engine: what a call returns for arguments within the contract's bounds.
-/
import Derived.Test.YtkafaeeianofnaaDoorFFnExactFormatPrograma
import Derived.Test.YtkafaeeianofnaaDoorEd
import Derived.Test.YtkafaeeianofnaaDoorFFnExactFormatProgramb
import Derived.Test.YtkafaeeianofnaaDoorFFnExactFormatProgramc
set_option linter.unusedSimpArgs false
set_option linter.unusedVariables false
set_option linter.unusedSectionVars false

namespace Go.Proofs.YtkafaeeianofnaaDoor
open Go.SE Go.RowKit
variable [Base]
set_option linter.unusedSectionVars false
set_option linter.unusedSimpArgs false
set_option linter.unusedVariables false
set_option maxHeartbeats 1000000
set_option maxRecDepth 100000
abbrev c_toFact:Con:=⟨[.fact],[.fact],fun _=>True,.inl fun (f,_)=>(f,()),fun _=>0⟩
abbrev L_toFact:List (FuncId × Con):=[]
abbrev P_toFact:List (FuncId × PT):=[]
def VC_toFact (f:GFact) (k:Nat):Prop:=TN/\(TN/\True)/\(TN/\True)/\True/\True/\True/\(TF/\TF)/\True/\True/\True/\(TF/\TF)/\True/\True/\True/\(TF/\TF)/\True/\(TF/\TF)/\(((f,()):GFact × Unit)=(f,()))/\True/\True/\True/\True/\TF
theorem vcn_toFact (f:GFact) (k:Nat):VC_toFact f k:=by
 unfold VC_toFact
 simp only [cln,Nat.reduceEqDiff,Nat.reduceLeDiff,Nat.reduceAdd]
 all_goals (try simp only [opn])
 all_goals (repeat' (first | apply And.intro | intro _))
 all_goals (first | omega | (simp_all;done) | grind [])
theorem ok_toFact:FnOk Tryd.prog E 37 c_toFact :=
 fn_okQ (l:=L_toFact) (lp:=P_toFact) (hp:=fun _=>false) (gcs:=fun _=>none) (perm:=fun _=>[]) tabOk mix trivial trivial Tryd.func37 rfl (by kernel_rfl) (by decide) (by kernel_rfl) (anns:=fun x _=>fun _ _=>none) (fun ⟨f,_⟩ k _ _=>Eq.mp (by kernel_rfl) (vcn_toFact f k)) tot_fn
abbrev c_toFactS:Con:=⟨[.sl .lfact],[.sl .fact],fun (l,_)=>l.length<=1048576,.inl fun (l,_)=>(l,()),fun _=>0⟩
abbrev L_toFactS:List (FuncId × Con):=[(37,c_toFact)]
abbrev P_toFactS:List (FuncId × PT):=[]
def an_toFactS (l:List GFact):Nat->St->Option Ann
 | 3,se=>some { α:=Nat,ok:=fun i=>i<=l.length,mu:=fun i=>l.length - i,i0:=fun _=>0,nx:=fun a _=>(fun i=>i+1) a,live:=[0,2],sets:=fun i=>[(4,sv (.int .i64 i))],mids:=[32],blks:=fun i=>[],owns:=fun i=>[⟨7,.slot 3,.fact,l.take i ++ List.replicate (l.length - i) (⟨false,0,0⟩:GFact)⟩],rd:=fun r _=>r,base:=100000 }
 | _,_=>none
def VC_toFactS (l:List GFact) (k:Nat):Prop:=TN/\True/\True/\(TN/\(0<=((l.length:Nat):Int)/\((l.length:Nat):Int)<=((l.length:Nat):Int)/\((l.length:Nat):Int)<=4294967296/\True))/\True/\True/\((0<=l.length)/\TT/\(RL [.s (.c (.d (.arr .lfact l))),.s (.c (.own 32))])/\(([.s (.c (.d (.val (.int .i64 (0:Int)))))]:List S)=[.s (.c (.d (.val (.int .i64 ((0:Nat):Int)))))])/\(RM [some (.sl 32 .fact ([]:List GFact))])/\(RM [])/\(((some (List.replicate l.length (⟨false,0,0⟩:GFact)):Option (List GFact))=some (l.take 0 ++ List.replicate (l.length - 0) (⟨false,0,0⟩:GFact)))/\True)/\TT)/\(∀ i1:Nat,(i1<=l.length)->True/\True/\True/\True/\(vcIf (decide (((i1:Nat):Int) < ((l.length:Nat):Int))) (True/\True/\True/\True/\(0<=((i1:Nat):Int)/\((i1:Nat):Int) < ((l.length:Nat):Int))/\True/\(True/\True/\True)/\(0<=((i1:Nat):Int)/\((i1:Nat):Int) < (((l.take i1 ++ List.replicate (l.length - i1) (⟨false,0,0⟩:GFact)).length:Nat):Int))/\(TF/\TF/\True/\((7:Nat) ∉ ([]:List Nat)))/\True/\(inK .i64 (((i1:Nat):Int)+(1:Int)))/\True/\((i1+1)<=l.length)/\(l.length - (i1+1) < l.length - i1)/\TT/\(RL [.s (.c (.d (.arr .lfact l))),.s (.c (.own 32))])/\(([.s (.c (.d (.val (.int .i64 (((i1:Nat):Int)+(1:Int))))))]:List S)=[.s (.c (.d (.val (.int .i64 (((i1+1):Nat):Int)))))])/\(RM [some (.sl 32 .fact ([]:List GFact))])/\(RM [])/\(((some ((l.take i1 ++ List.replicate (l.length - i1) (⟨false,0,0⟩:GFact)).set i1 (l.getD i1 (⟨false,0,0⟩:GFact))):Option (List GFact))=some (l.take (i1+1) ++ List.replicate (l.length - (i1+1)) (⟨false,0,0⟩:GFact)))/\True)/\TT) (True/\True/\(((l.take i1 ++ List.replicate (l.length - i1) (⟨false,0,0⟩:GFact),()):(List GFact) × Unit)=(l,()))/\(True/\True)/\((TF/\TF)/\True)/\True/\(True/\True)/\TF)))
theorem vcn_toFactS (l:List GFact) (k:Nat) (hp:l.length<=1048576):VC_toFactS l k:=by
 unfold VC_toFactS
 simp only [cln,Nat.reduceEqDiff,Nat.reduceLeDiff,Nat.reduceAdd]
 all_goals (try simp only [opn])
 all_goals (repeat' (first | apply And.intro | intro _))
 all_goals (first | omega | (simp_all;done) | grind [copy_step,take_full])
theorem ok_toFactS:FnOk Tryd.prog E 64 c_toFactS :=
 fn_okQ (l:=L_toFactS) (lp:=P_toFactS) (hp:=fun _=>false) (gcs:=fun _=>none) (perm:=fun _=>[]) tabOk mix ⟨ok_toFact,trivial⟩ trivial Tryd.func64 rfl (by kernel_rfl) (by decide) (by kernel_rfl) (anns:=fun x _=>an_toFactS x.1) (fun ⟨l,_⟩ k hp _=>Eq.mp (by kernel_rfl) (vcn_toFactS l k hp)) tot_fn
abbrev c_toAtom:Con:=⟨[.atom],[.atom],fun _=>True,.inl fun (f,_)=>(f,()),fun _=>0⟩
abbrev L_toAtom:List (FuncId × Con):=[]
abbrev P_toAtom:List (FuncId × PT):=[]
def VC_toAtom (f:GAtom) (k:Nat):Prop:=TN/\(TN/\True)/\(TN/\True)/\True/\True/\True/\(TF/\TF)/\True/\True/\True/\(TF/\TF)/\True/\True/\True/\(TF/\TF)/\True/\(TF/\TF)/\(((f,()):GAtom × Unit)=(f,()))/\True/\True/\True/\True/\TF
theorem vcn_toAtom (f:GAtom) (k:Nat):VC_toAtom f k:=by
 unfold VC_toAtom
 simp only [cln,Nat.reduceEqDiff,Nat.reduceLeDiff,Nat.reduceAdd]
 all_goals (try simp only [opn])
 all_goals (repeat' (first | apply And.intro | intro _))
 all_goals (first | omega | (simp_all;done) | grind [])
theorem ok_toAtom:FnOk Tryd.prog E 81 c_toAtom :=
 fn_okQ (l:=L_toAtom) (lp:=P_toAtom) (hp:=fun _=>false) (gcs:=fun _=>none) (perm:=fun _=>[]) tabOk mix trivial trivial Tryd.func81 rfl (by kernel_rfl) (by decide) (by kernel_rfl) (anns:=fun x _=>fun _ _=>none) (fun ⟨f,_⟩ k _ _=>Eq.mp (by kernel_rfl) (vcn_toAtom f k)) tot_fn
abbrev c_toAtomS:Con:=⟨[.sl .latom],[.sl .atom],fun (l,_)=>l.length<=1048576,.inl fun (l,_)=>(l,()),fun _=>0⟩
abbrev L_toAtomS:List (FuncId × Con):=[(81,c_toAtom)]
abbrev P_toAtomS:List (FuncId × PT):=[]
def an_toAtomS (l:List GAtom):Nat->St->Option Ann
 | 3,se=>some { α:=Nat,ok:=fun i=>i<=l.length,mu:=fun i=>l.length - i,i0:=fun _=>0,nx:=fun a _=>(fun i=>i+1) a,live:=[0,2],sets:=fun i=>[(4,sv (.int .i64 i))],mids:=[32],blks:=fun i=>[],owns:=fun i=>[⟨7,.slot 3,.atom,l.take i ++ List.replicate (l.length - i) (⟨0,0,0⟩:GAtom)⟩],rd:=fun r _=>r,base:=100000 }
 | _,_=>none
def VC_toAtomS (l:List GAtom) (k:Nat):Prop:=TN/\True/\True/\(TN/\(0<=((l.length:Nat):Int)/\((l.length:Nat):Int)<=((l.length:Nat):Int)/\((l.length:Nat):Int)<=4294967296/\True))/\True/\True/\((0<=l.length)/\TT/\(RL [.s (.c (.d (.arr .latom l))),.s (.c (.own 32))])/\(([.s (.c (.d (.val (.int .i64 (0:Int)))))]:List S)=[.s (.c (.d (.val (.int .i64 ((0:Nat):Int)))))])/\(RM [some (.sl 32 .atom ([]:List GAtom))])/\(RM [])/\(((some (List.replicate l.length (⟨0,0,0⟩:GAtom)):Option (List GAtom))=some (l.take 0 ++ List.replicate (l.length - 0) (⟨0,0,0⟩:GAtom)))/\True)/\TT)/\(∀ i1:Nat,(i1<=l.length)->True/\True/\True/\True/\(vcIf (decide (((i1:Nat):Int) < ((l.length:Nat):Int))) (True/\True/\True/\True/\(0<=((i1:Nat):Int)/\((i1:Nat):Int) < ((l.length:Nat):Int))/\True/\(True/\True/\True)/\(0<=((i1:Nat):Int)/\((i1:Nat):Int) < (((l.take i1 ++ List.replicate (l.length - i1) (⟨0,0,0⟩:GAtom)).length:Nat):Int))/\(TF/\TF/\True/\((7:Nat) ∉ ([]:List Nat)))/\True/\(inK .i64 (((i1:Nat):Int)+(1:Int)))/\True/\((i1+1)<=l.length)/\(l.length - (i1+1) < l.length - i1)/\TT/\(RL [.s (.c (.d (.arr .latom l))),.s (.c (.own 32))])/\(([.s (.c (.d (.val (.int .i64 (((i1:Nat):Int)+(1:Int))))))]:List S)=[.s (.c (.d (.val (.int .i64 (((i1+1):Nat):Int)))))])/\(RM [some (.sl 32 .atom ([]:List GAtom))])/\(RM [])/\(((some ((l.take i1 ++ List.replicate (l.length - i1) (⟨0,0,0⟩:GAtom)).set i1 (l.getD i1 (⟨0,0,0⟩:GAtom))):Option (List GAtom))=some (l.take (i1+1) ++ List.replicate (l.length - (i1+1)) (⟨0,0,0⟩:GAtom)))/\True)/\TT) (True/\True/\(((l.take i1 ++ List.replicate (l.length - i1) (⟨0,0,0⟩:GAtom),()):(List GAtom) × Unit)=(l,()))/\(True/\True)/\((TF/\TF)/\True)/\True/\(True/\True)/\TF)))
theorem vcn_toAtomS (l:List GAtom) (k:Nat) (hp:l.length<=1048576):VC_toAtomS l k:=by
 unfold VC_toAtomS
 simp only [cln,Nat.reduceEqDiff,Nat.reduceLeDiff,Nat.reduceAdd]
 all_goals (try simp only [opn])
 all_goals (repeat' (first | apply And.intro | intro _))
 all_goals (first | omega | (simp_all;done) | grind [copy_step,take_full])
theorem ok_toAtomS:FnOk Tryd.prog E 65 c_toAtomS :=
 fn_okQ (l:=L_toAtomS) (lp:=P_toAtomS) (hp:=fun _=>false) (gcs:=fun _=>none) (perm:=fun _=>[]) tabOk mix ⟨ok_toAtom,trivial⟩ trivial Tryd.func65 rfl (by kernel_rfl) (by decide) (by kernel_rfl) (anns:=fun x _=>an_toAtomS x.1) (fun ⟨l,_⟩ k hp _=>Eq.mp (by kernel_rfl) (vcn_toAtomS l k hp)) tot_fn
abbrev c_toAssertion:Con:=⟨[.lasn],[.asn],fun (a,_)=>a.facts.length<=1048576/\a.atoms.length<=1048576,.inl fun (a,_)=>(a,()),fun _=>0⟩
abbrev L_toAssertion:List (FuncId × Con):=[(64,c_toFactS),(65,c_toAtomS)]
abbrev P_toAssertion:List (FuncId × PT):=[]
def VC_toAssertion (a:GAsn) (k:Nat):Prop:=TN/\(TN/\TN/\TN/\True)/\(TN/\TN/\TN/\True)/\True/\True/\((a.facts.length<=1048576)/\True/\TN/\True)/\True/\(TF/\TF)/\True/\True/\((a.atoms.length<=1048576)/\True/\TN/\True)/\True/\(TF/\TF)/\True/\(TF/\TF)/\(((a,()):GAsn × Unit)=(a,()))/\((((96:Nat) ≠ 160)/\True)/\True/\True)/\((TF/\TF)/\(TF/\TF)/\True)/\True/\(True/\True/\True)/\TF
theorem vcn_toAssertion (a:GAsn) (k:Nat) (hp:a.facts.length<=1048576/\a.atoms.length<=1048576):VC_toAssertion a k:=by
 unfold VC_toAssertion
 simp only [cln,Nat.reduceEqDiff,Nat.reduceLeDiff,Nat.reduceAdd]
 all_goals (try simp only [opn])
 all_goals (repeat' (first | apply And.intro | intro _))
 all_goals (first | omega | (simp_all;done) | grind [])
theorem ok_toAssertion:FnOk Tryd.prog E 38 c_toAssertion :=
 fn_okQ (l:=L_toAssertion) (lp:=P_toAssertion) (hp:=fun _=>false) (gcs:=fun _=>none) (perm:=fun _=>[]) tabOk mix ⟨ok_toFactS,ok_toAtomS,trivial⟩ trivial Tryd.func38 rfl (by kernel_rfl) (by decide) (by kernel_rfl) (anns:=fun x _=>fun _ _=>none) (fun ⟨a,_⟩ k hp _=>Eq.mp (by kernel_rfl) (vcn_toAssertion a k hp)) tot_fn
abbrev c_toCmdS:Con:=⟨[.sl .lcmd],[.sl .cmd],fun (l,_)=>l.length+wcL l<=1048576,.inl fun (l,_)=>(l,()),fun _=>0⟩
abbrev mu_toCmdS:Args c_toCmdS.aks->Nat:=fun (l,_)=>ndL l
abbrev c_toCmd:Con:=⟨[.lcmd],[.cmd],fun (c,_)=>wtC c<=1048576,.inl fun (c,_)=>(c,()),fun _=>0⟩
abbrev mu_toCmd:Args c_toCmd.aks->Nat:=fun (c,_)=>ndC c
abbrev L_toCmd (m:Nat):List (FuncId × Con):=[(14,c_toCmdS.lim mu_toCmdS m),(37,c_toFact),(38,c_toAssertion)]
abbrev P_toCmd:List (FuncId × PT):=[]
def VC_toCmd (c:GCmd) (m:Nat) (k:Nat):Prop:=TN/\(TN/\TN/\TN/\TN/\TN/\True)/\(TN/\TN/\TN/\TN/\TN/\True)/\True/\True/\True/\(TF/\TF)/\True/\True/\True/\(TF/\TF)/\True/\True/\True/\(TF/\TF)/\True/\True/\(True/\True/\True)/\True/\(TF/\TF)/\True/\True/\((c.inv.facts.length<=1048576/\c.inv.atoms.length<=1048576)/\True/\TN/\TN/\True)/\True/\(TF/\TF)/\True/\True/\(((c.body.length+wcL c.body<=1048576)/\ndL c.body < m)/\True/\True/\TN/\True)/\True/\(TF/\TF)/\True/\True/\(((c.els.length+wcL c.els<=1048576)/\ndL c.els < m)/\True/\True/\TN/\True)/\True/\(TF/\TF)/\True/\(TF/\TF)/\((((GCmd.mk c.kind c.a c.b c.test c.inv c.body c.els),()):GCmd × Unit)=(c,()))/\True/\True/\(TF/\TF/\TF/\TF/\True)/\True/\TF
theorem vcn_toCmd (c:GCmd) (m:Nat) (k:Nat) (hp:(wtC c<=1048576)/\ndC c < m+1):VC_toCmd c m k:=by
 unfold VC_toCmd
 simp only [cln,Nat.reduceEqDiff,Nat.reduceLeDiff,Nat.reduceAdd,GCmd.eta]
 have e1:=ndC_eq c
 have e2:=wtC_eq c
 all_goals (try simp only [vcIf_iff,decide_eq_true_eq,decide_eq_false_iff_not,bne_iff_ne,ne_eq,beq_iff_eq,beq_eq_false_iff_ne,bne_eq_false_iff_eq,Bool.not_eq_true',Bool.not_eq_false',Int.ofNat_lt,Int.natCast_inj])
 all_goals (repeat' (first | apply And.intro | intro _))
 all_goals (first | omega | (simp_all;done) | grind [GCmd.eta])
theorem okof_toCmd (m:Nat) (ih:FnOk Tryd.prog E 14 (c_toCmdS.lim mu_toCmdS m)):FnOk Tryd.prog E 23 (c_toCmd.lim mu_toCmd (m+1)) :=
 fn_okQ (con:=c_toCmd.lim mu_toCmd (m+1)) (fn:=Tryd.f23) (l:=L_toCmd m) (lp:=P_toCmd) (hp:=fun _=>false) (gcs:=fun _=>none) (perm:=fun _=>[]) tabOk mix ⟨ih,ok_toFact,ok_toAssertion,trivial⟩ trivial Tryd.func23 rfl (by kernel_rfl) (show c_toCmd.aks.length<=Tryd.f23.ntmps by decide) (by kernel_rfl) (anns:=fun x _=>fun _ _=>none) (fun ⟨c,_⟩ k hp _=>Eq.mp (by kernel_rfl) (vcn_toCmd c m k hp)) tot_fn
abbrev L_toCmdS (m:Nat):List (FuncId × Con):=[(23,c_toCmd.lim mu_toCmd (m+1))]
abbrev P_toCmdS:List (FuncId × PT):=[]
def an_toCmdS (l:List GCmd):Nat->St->Option Ann
 | 3,se=>some { α:=Nat,ok:=fun i=>i<=l.length,mu:=fun i=>l.length - i,i0:=fun _=>0,nx:=fun a _=>(fun i=>i+1) a,live:=[0,2],sets:=fun i=>[(4,sv (.int .i64 i))],mids:=[32],blks:=fun i=>[],owns:=fun i=>[⟨7,.slot 3,.cmd,l.take i ++ List.replicate (l.length - i) (Ty.zero .cmd)⟩],rd:=fun r _=>r,base:=100000 }
 | _,_=>none
def VC_toCmdS (l:List GCmd) (m:Nat) (k:Nat):Prop:=TN/\True/\True/\(TN/\(0<=((l.length:Nat):Int)/\((l.length:Nat):Int)<=((l.length:Nat):Int)/\((l.length:Nat):Int)<=4294967296/\((l.length:Nat):Int)=((l.length:Nat):Int)))/\True/\True/\((0<=l.length)/\TT/\(RL [.s (.c (.d (.arr .lcmd l))),.s (.c (.own 32))])/\(([.s (.c (.d (.val (.int .i64 (0:Int)))))]:List S)=[.s (.c (.d (.val (.int .i64 ((0:Nat):Int)))))])/\(RM [some (.sl 32 .cmd ([]:List GCmd))])/\(RM [])/\(((some (List.replicate l.length (Ty.zero .cmd)):Option (List GCmd))=some (l.take 0 ++ List.replicate (l.length - 0) (Ty.zero .cmd)))/\True)/\TT)/\(∀ i1:Nat,(i1<=l.length)->True/\True/\True/\True/\(vcIf (decide (((i1:Nat):Int) < ((l.length:Nat):Int))) (True/\True/\True/\True/\(0<=((i1:Nat):Int)/\((i1:Nat):Int) < ((l.length:Nat):Int))/\True/\(((wtC (GCmd.mk ((l.getD i1 (Ty.zero .lcmd)).kind) ((l.getD i1 (Ty.zero .lcmd)).a) ((l.getD i1 (Ty.zero .lcmd)).b) ((l.getD i1 (Ty.zero .lcmd)).test) ((l.getD i1 (Ty.zero .lcmd)).inv) ((l.getD i1 (Ty.zero .lcmd)).body) ((l.getD i1 (Ty.zero .lcmd)).els))<=1048576)/\ndC (GCmd.mk ((l.getD i1 (Ty.zero .lcmd)).kind) ((l.getD i1 (Ty.zero .lcmd)).a) ((l.getD i1 (Ty.zero .lcmd)).b) ((l.getD i1 (Ty.zero .lcmd)).test) ((l.getD i1 (Ty.zero .lcmd)).inv) ((l.getD i1 (Ty.zero .lcmd)).body) ((l.getD i1 (Ty.zero .lcmd)).els)) < m+1)/\True/\True/\True)/\(0<=((i1:Nat):Int)/\((i1:Nat):Int) < (((l.take i1 ++ List.replicate (l.length - i1) (Ty.zero .cmd)).length:Nat):Int))/\(TF/\TF/\True/\((7:Nat) ∉ ([]:List Nat)))/\True/\(inK .i64 (((i1:Nat):Int)+(1:Int)))/\True/\((i1+1)<=l.length)/\(l.length - (i1+1) < l.length - i1)/\TT/\(RL [.s (.c (.d (.arr .lcmd l))),.s (.c (.own 32))])/\(([.s (.c (.d (.val (.int .i64 (((i1:Nat):Int)+(1:Int))))))]:List S)=[.s (.c (.d (.val (.int .i64 (((i1+1):Nat):Int)))))])/\(RM [some (.sl 32 .cmd ([]:List GCmd))])/\(RM [])/\(((some ((l.take i1 ++ List.replicate (l.length - i1) (Ty.zero .cmd)).set i1 (GCmd.mk ((l.getD i1 (Ty.zero .lcmd)).kind) ((l.getD i1 (Ty.zero .lcmd)).a) ((l.getD i1 (Ty.zero .lcmd)).b) ((l.getD i1 (Ty.zero .lcmd)).test) ((l.getD i1 (Ty.zero .lcmd)).inv) ((l.getD i1 (Ty.zero .lcmd)).body) ((l.getD i1 (Ty.zero .lcmd)).els))):Option (List GCmd))=some (l.take (i1+1) ++ List.replicate (l.length - (i1+1)) (Ty.zero .cmd)))/\True)/\TT) (True/\True/\(((l.take i1 ++ List.replicate (l.length - i1) (Ty.zero .cmd),()):(List GCmd) × Unit)=(l,()))/\(True/\True)/\((TF/\TF)/\True)/\True/\(True/\True)/\TF)))
theorem vcn_toCmdS (l:List GCmd) (m:Nat) (k:Nat) (hp:(l.length+wcL l<=1048576)/\ndL l < m+1):VC_toCmdS l m k:=by
 unfold VC_toCmdS
 simp only [cln,Nat.reduceEqDiff,Nat.reduceLeDiff,Nat.reduceAdd,GCmd.eta]
 have hg:∀ i,i < l.length->ndC (l.getD i (Ty.zero .lcmd))<=ndL l/\wtC (l.getD i (Ty.zero .lcmd))<=wcL l:=fun i hi=>⟨ndL_get hi,wcL_get hi⟩
 all_goals (try simp only [vcIf_iff,decide_eq_true_eq,decide_eq_false_iff_not,bne_iff_ne,ne_eq,beq_iff_eq,beq_eq_false_iff_ne,bne_eq_false_iff_eq,Bool.not_eq_true',Bool.not_eq_false',Int.ofNat_lt,Int.natCast_inj])
 all_goals (repeat' (first | apply And.intro | intro _))
 all_goals (first | omega | (simp_all;done) | grind [copy_step,take_full])
theorem ok_toCmdS:FnOk Tryd.prog E 14 c_toCmdS :=
 fn_rec (mu:=mu_toCmdS) (fun m ih=>fn_okQ (con:=c_toCmdS.lim mu_toCmdS (m+1)) (fn:=Tryd.f14) (l:=L_toCmdS m) (lp:=P_toCmdS) (hp:=fun _=>false) (gcs:=fun _=>none) (perm:=fun _=>[]) tabOk mix ⟨(okof_toCmd m ih),trivial⟩ trivial Tryd.func14 rfl (by kernel_rfl) (show c_toCmdS.aks.length<=Tryd.f14.ntmps by decide) (by kernel_rfl) (anns:=fun x _=>an_toCmdS x.1) (fun ⟨l,_⟩ k hp _=>Eq.mp (by kernel_rfl) (vcn_toCmdS l m k hp)) tot_fn) ⟨_,_,Tryd.func14,by kernel_rfl,rfl⟩ tot_fn
abbrev c_eqFact:Con:=⟨[.fact,.fact],[.bool],fun _=>True,.inl fun (f,g,_)=>(decide (f=g),()),fun _=>0⟩
abbrev L_eqFact:List (FuncId × Con):=[]
abbrev P_eqFact:List (FuncId × PT):=[]
def VC_eqFact_1 (f:GFact) (g:GFact):Prop:=True/\(((false,()):Bool × Unit)=(decide (f=g),()))/\True/\True/\True/\True/\TF
def VC_eqFact (f:GFact) (g:GFact) (k:Nat):Prop:=TN/\TN/\True/\True/\True/\True/\True/\True/\(vcIf (f.eq != g.eq) (VC_eqFact_1 f g) (True/\True/\True/\True/\True/\(vcIf (f.a != g.a) (VC_eqFact_1 f g) (True/\True/\True/\True/\True/\(vcIf (f.b != g.b) (VC_eqFact_1 f g) (True/\(((true,()):Bool × Unit)=(decide (f=g),()))/\True/\True/\True/\True/\TF))))))
theorem vcn_eqFact (f:GFact) (g:GFact) (k:Nat):VC_eqFact f g k:=by
 unfold VC_eqFact VC_eqFact_1
 simp only [cln,Nat.reduceEqDiff,Nat.reduceLeDiff,Nat.reduceAdd]
 obtain ⟨f1,f2,f3⟩:=f;obtain ⟨g1,g2,g3⟩:=g
 all_goals (try simp only [opn])
 all_goals (repeat' (first | apply And.intro | intro _))
 all_goals (first | omega | (simp_all;done) | grind [])
theorem ok_eqFact:FnOk Tryd.prog E 39 c_eqFact :=
 fn_okQ (l:=L_eqFact) (lp:=P_eqFact) (hp:=fun _=>false) (gcs:=fun _=>none) (perm:=fun _=>[]) tabOk mix trivial trivial Tryd.func39 rfl (by kernel_rfl) (by decide) (by kernel_rfl) (anns:=fun x _=>fun _ _=>none) (fun ⟨f,g,_⟩ k _ _=>Eq.mp (by kernel_rfl) (vcn_eqFact f g k)) tot_fn
abbrev c_eqFactS:Con:=⟨[.sl .fact,.sl .fact],[.bool],fun (a,b,_)=>a.length<=281474976710656/\b.length<=281474976710656,.inl fun (a,b,_)=>(decide (a=b),()),fun _=>0⟩
abbrev L_eqFactS:List (FuncId × Con):=[(39,c_eqFact)]
abbrev P_eqFactS:List (FuncId × PT):=[]
def an_eqFactS (a:List GFact) (b:List GFact):Nat->St->Option Ann
 | 4,se=>some { α:=Nat,ok:=fun i=>i<=a.length/\a.length=b.length/\a.take i=b.take i,mu:=fun i=>a.length - i,i0:=fun _=>0,nx:=fun a _=>(fun i=>i+1) a,live:=[0,1],sets:=fun i=>[(5,sv (.int .i64 i))],mids:=[],blks:=fun i=>[],owns:=fun i=>[],rd:=fun r _=>r,base:=100000 }
 | _,_=>none
def VC_eqFactS_1 (a:List GFact) (b:List GFact):Prop:=True/\(((false,()):Bool × Unit)=(decide (a=b),()))/\True/\True/\True/\True/\TF
def VC_eqFactS (a:List GFact) (b:List GFact) (k:Nat):Prop:=True/\True/\True/\True/\True/\True/\(vcIf (((a.length:Nat):Int) != ((b.length:Nat):Int)) (VC_eqFactS_1 a b) (True/\((0<=a.length/\a.length=b.length/\a.take 0=b.take 0)/\TT/\(RL [.s (.c (.d (.arr .fact a))),.s (.c (.d (.arr .fact b)))])/\(([.s (.c (.d (.val (.int .i64 (0:Int)))))]:List S)=[.s (.c (.d (.val (.int .i64 ((0:Nat):Int)))))])/\(RM [])/\(RM [])/\True/\TT)/\(∀ i1:Nat,(i1<=a.length/\a.length=b.length/\a.take i1=b.take i1)->True/\True/\True/\True/\(vcIf (decide (((i1:Nat):Int) < ((a.length:Nat):Int))) (True/\True/\(0<=((i1:Nat):Int)/\((i1:Nat):Int) < ((a.length:Nat):Int))/\True/\True/\True/\(0<=((i1:Nat):Int)/\((i1:Nat):Int) < ((b.length:Nat):Int))/\True/\(True/\True/\True)/\True/\(vcIf (!(decide ((a.getD i1 (⟨false,0,0⟩:GFact))=(b.getD i1 (⟨false,0,0⟩:GFact))))) (VC_eqFactS_1 a b) (True/\(inK .i64 (((i1:Nat):Int)+(1:Int)))/\True/\((i1+1)<=a.length/\a.length=b.length/\a.take (i1+1)=b.take (i1+1))/\(a.length - (i1+1) < a.length - i1)/\TT/\(RL [.s (.c (.d (.arr .fact a))),.s (.c (.d (.arr .fact b)))])/\(([.s (.c (.d (.val (.int .i64 (((i1:Nat):Int)+(1:Int))))))]:List S)=[.s (.c (.d (.val (.int .i64 (((i1+1):Nat):Int)))))])/\(RM [])/\(RM [])/\True/\TT))) (True/\(((true,()):Bool × Unit)=(decide (a=b),()))/\True/\True/\True/\True/\TF)))))
theorem vcn_eqFactS (a:List GFact) (b:List GFact) (k:Nat) (hp:a.length<=281474976710656/\b.length<=281474976710656):VC_eqFactS a b k:=by
 unfold VC_eqFactS VC_eqFactS_1
 simp only [cln,Nat.reduceEqDiff,Nat.reduceLeDiff,Nat.reduceAdd]
 all_goals (try simp only [opn])
 all_goals (repeat' (first | apply And.intro | intro _))
 all_goals (first | omega | (simp_all;done) | grind [same_step,same_not,take_full])
theorem ok_eqFactS:FnOk Tryd.prog E 66 c_eqFactS :=
 fn_okQ (l:=L_eqFactS) (lp:=P_eqFactS) (hp:=fun _=>false) (gcs:=fun _=>none) (perm:=fun _=>[]) tabOk mix ⟨ok_eqFact,trivial⟩ trivial Tryd.func66 rfl (by kernel_rfl) (by decide) (by kernel_rfl) (anns:=fun x _=>an_eqFactS x.1 x.2.1) (fun ⟨a,b,_⟩ k hp _=>Eq.mp (by kernel_rfl) (vcn_eqFactS a b k hp)) tot_fn
abbrev c_eqAtom:Con:=⟨[.atom,.atom],[.bool],fun _=>True,.inl fun (f,g,_)=>(decide (f=g),()),fun _=>0⟩
abbrev L_eqAtom:List (FuncId × Con):=[]
abbrev P_eqAtom:List (FuncId × PT):=[]
def VC_eqAtom_1 (f:GAtom) (g:GAtom):Prop:=True/\(((false,()):Bool × Unit)=(decide (f=g),()))/\True/\True/\True/\True/\TF
def VC_eqAtom (f:GAtom) (g:GAtom) (k:Nat):Prop:=TN/\TN/\True/\True/\True/\True/\True/\True/\(vcIf (f.kind != g.kind) (VC_eqAtom_1 f g) (True/\True/\True/\True/\True/\(vcIf (f.a != g.a) (VC_eqAtom_1 f g) (True/\True/\True/\True/\True/\(vcIf (f.b != g.b) (VC_eqAtom_1 f g) (True/\(((true,()):Bool × Unit)=(decide (f=g),()))/\True/\True/\True/\True/\TF))))))
theorem vcn_eqAtom (f:GAtom) (g:GAtom) (k:Nat):VC_eqAtom f g k:=by
 unfold VC_eqAtom VC_eqAtom_1
 simp only [cln,Nat.reduceEqDiff,Nat.reduceLeDiff,Nat.reduceAdd]
 obtain ⟨f1,f2,f3⟩:=f;obtain ⟨g1,g2,g3⟩:=g
 all_goals (try simp only [opn])
 all_goals (repeat' (first | apply And.intro | intro _))
 all_goals (first | omega | (simp_all;done) | grind [])
theorem ok_eqAtom:FnOk Tryd.prog E 82 c_eqAtom :=
 fn_okQ (l:=L_eqAtom) (lp:=P_eqAtom) (hp:=fun _=>false) (gcs:=fun _=>none) (perm:=fun _=>[]) tabOk mix trivial trivial Tryd.func82 rfl (by kernel_rfl) (by decide) (by kernel_rfl) (anns:=fun x _=>fun _ _=>none) (fun ⟨f,g,_⟩ k _ _=>Eq.mp (by kernel_rfl) (vcn_eqAtom f g k)) tot_fn
abbrev c_eqAtomS:Con:=⟨[.sl .atom,.sl .atom],[.bool],fun (a,b,_)=>a.length<=281474976710656/\b.length<=281474976710656,.inl fun (a,b,_)=>(decide (a=b),()),fun _=>0⟩
abbrev L_eqAtomS:List (FuncId × Con):=[(82,c_eqAtom)]
abbrev P_eqAtomS:List (FuncId × PT):=[]
def an_eqAtomS (a:List GAtom) (b:List GAtom):Nat->St->Option Ann
 | 4,se=>some { α:=Nat,ok:=fun i=>i<=a.length/\a.length=b.length/\a.take i=b.take i,mu:=fun i=>a.length - i,i0:=fun _=>0,nx:=fun a _=>(fun i=>i+1) a,live:=[0,1],sets:=fun i=>[(5,sv (.int .i64 i))],mids:=[],blks:=fun i=>[],owns:=fun i=>[],rd:=fun r _=>r,base:=100000 }
 | _,_=>none
def VC_eqAtomS_1 (a:List GAtom) (b:List GAtom):Prop:=True/\(((false,()):Bool × Unit)=(decide (a=b),()))/\True/\True/\True/\True/\TF
def VC_eqAtomS (a:List GAtom) (b:List GAtom) (k:Nat):Prop:=True/\True/\True/\True/\True/\True/\(vcIf (((a.length:Nat):Int) != ((b.length:Nat):Int)) (VC_eqAtomS_1 a b) (True/\((0<=a.length/\a.length=b.length/\a.take 0=b.take 0)/\TT/\(RL [.s (.c (.d (.arr .atom a))),.s (.c (.d (.arr .atom b)))])/\(([.s (.c (.d (.val (.int .i64 (0:Int)))))]:List S)=[.s (.c (.d (.val (.int .i64 ((0:Nat):Int)))))])/\(RM [])/\(RM [])/\True/\TT)/\(∀ i1:Nat,(i1<=a.length/\a.length=b.length/\a.take i1=b.take i1)->True/\True/\True/\True/\(vcIf (decide (((i1:Nat):Int) < ((a.length:Nat):Int))) (True/\True/\(0<=((i1:Nat):Int)/\((i1:Nat):Int) < ((a.length:Nat):Int))/\True/\True/\True/\(0<=((i1:Nat):Int)/\((i1:Nat):Int) < ((b.length:Nat):Int))/\True/\(True/\True/\True)/\True/\(vcIf (!(decide ((a.getD i1 (⟨0,0,0⟩:GAtom))=(b.getD i1 (⟨0,0,0⟩:GAtom))))) (VC_eqAtomS_1 a b) (True/\(inK .i64 (((i1:Nat):Int)+(1:Int)))/\True/\((i1+1)<=a.length/\a.length=b.length/\a.take (i1+1)=b.take (i1+1))/\(a.length - (i1+1) < a.length - i1)/\TT/\(RL [.s (.c (.d (.arr .atom a))),.s (.c (.d (.arr .atom b)))])/\(([.s (.c (.d (.val (.int .i64 (((i1:Nat):Int)+(1:Int))))))]:List S)=[.s (.c (.d (.val (.int .i64 (((i1+1):Nat):Int)))))])/\(RM [])/\(RM [])/\True/\TT))) (True/\(((true,()):Bool × Unit)=(decide (a=b),()))/\True/\True/\True/\True/\TF)))))
theorem vcn_eqAtomS (a:List GAtom) (b:List GAtom) (k:Nat) (hp:a.length<=281474976710656/\b.length<=281474976710656):VC_eqAtomS a b k:=by
 unfold VC_eqAtomS VC_eqAtomS_1
 simp only [cln,Nat.reduceEqDiff,Nat.reduceLeDiff,Nat.reduceAdd]
 all_goals (try simp only [opn])
 all_goals (repeat' (first | apply And.intro | intro _))
 all_goals (first | omega | (simp_all;done) | grind [same_step,same_not,take_full])
theorem ok_eqAtomS:FnOk Tryd.prog E 67 c_eqAtomS :=
 fn_okQ (l:=L_eqAtomS) (lp:=P_eqAtomS) (hp:=fun _=>false) (gcs:=fun _=>none) (perm:=fun _=>[]) tabOk mix ⟨ok_eqAtom,trivial⟩ trivial Tryd.func67 rfl (by kernel_rfl) (by decide) (by kernel_rfl) (anns:=fun x _=>an_eqAtomS x.1 x.2.1) (fun ⟨a,b,_⟩ k hp _=>Eq.mp (by kernel_rfl) (vcn_eqAtomS a b k hp)) tot_fn
abbrev c_eqAssertion:Con:=⟨[.asn,.asn],[.bool],fun (a,b,_)=>a.facts.length<=281474976710656/\a.atoms.length<=281474976710656/\b.facts.length<=281474976710656/\b.atoms.length<=281474976710656,.inl fun (a,b,_)=>(decide (a=b),()),fun _=>0⟩
abbrev L_eqAssertion:List (FuncId × Con):=[(66,c_eqFactS),(67,c_eqAtomS)]
abbrev P_eqAssertion:List (FuncId × PT):=[]
def VC_eqAssertion_1 (a:GAsn) (b:GAsn):Prop:=True/\(((false,()):Bool × Unit)=(decide (a=b),()))/\True/\True/\True/\True/\TF
def VC_eqAssertion (a:GAsn) (b:GAsn) (k:Nat):Prop:=TN/\TN/\True/\True/\True/\True/\True/\((a.facts.length<=281474976710656/\b.facts.length<=281474976710656)/\True/\True)/\True/\(vcIf (!(decide (a.facts=b.facts))) (VC_eqAssertion_1 a b) (True/\True/\True/\True/\((a.atoms.length<=281474976710656/\b.atoms.length<=281474976710656)/\True/\True)/\True/\(vcIf (!(decide (a.atoms=b.atoms))) (VC_eqAssertion_1 a b) (True/\(((true,()):Bool × Unit)=(decide (a=b),()))/\True/\True/\True/\True/\TF))))
theorem vcn_eqAssertion (a:GAsn) (b:GAsn) (k:Nat) (hp:a.facts.length<=281474976710656/\a.atoms.length<=281474976710656/\b.facts.length<=281474976710656/\b.atoms.length<=281474976710656):VC_eqAssertion a b k:=by
 unfold VC_eqAssertion VC_eqAssertion_1
 simp only [cln,Nat.reduceEqDiff,Nat.reduceLeDiff,Nat.reduceAdd]
 obtain ⟨a1,a2⟩:=a;obtain ⟨b1,b2⟩:=b
 all_goals (try simp only [opn])
 all_goals (repeat' (first | apply And.intro | intro _))
 all_goals (first | omega | (simp_all;done) | grind [])
theorem ok_eqAssertion:FnOk Tryd.prog E 40 c_eqAssertion :=
 fn_okQ (l:=L_eqAssertion) (lp:=P_eqAssertion) (hp:=fun _=>false) (gcs:=fun _=>none) (perm:=fun _=>[]) tabOk mix ⟨ok_eqFactS,ok_eqAtomS,trivial⟩ trivial Tryd.func40 rfl (by kernel_rfl) (by decide) (by kernel_rfl) (anns:=fun x _=>fun _ _=>none) (fun ⟨a,b,_⟩ k hp _=>Eq.mp (by kernel_rfl) (vcn_eqAssertion a b k hp)) tot_fn
abbrev c_eqCmdS:Con:=⟨[.sl .cmd,.sl .cmd],[.bool],fun (a,b,_)=>BdL a/\BdL b,.inl fun (a,b,_)=>(decide (a=b),()),fun _=>0⟩
abbrev mu_eqCmdS:Args c_eqCmdS.aks->Nat:=fun (a,b,_)=>ndL a
abbrev c_eqCmd:Con:=⟨[.cmd,.cmd],[.bool],fun (a,b,_)=>BdC a/\BdC b,.inl fun (a,b,_)=>(decide (a=b),()),fun _=>0⟩
abbrev mu_eqCmd:Args c_eqCmd.aks->Nat:=fun (a,b,_)=>ndC a
abbrev L_eqCmd (m:Nat):List (FuncId × Con):=[(15,c_eqCmdS.lim mu_eqCmdS m),(39,c_eqFact),(40,c_eqAssertion)]
abbrev P_eqCmd:List (FuncId × PT):=[]
def VC_eqCmd_1 (a:GCmd) (b:GCmd):Prop:=True/\(((false,()):Bool × Unit)=(decide (a=b),()))/\True/\True/\True/\True/\TF
def VC_eqCmd (a:GCmd) (b:GCmd) (m:Nat) (k:Nat):Prop:=TN/\TN/\True/\True/\True/\True/\True/\True/\(vcIf (a.kind != b.kind) (VC_eqCmd_1 a b) (True/\True/\True/\True/\True/\(vcIf (a.a != b.a) (VC_eqCmd_1 a b) (True/\True/\True/\True/\True/\(vcIf (a.b != b.b) (VC_eqCmd_1 a b) (True/\True/\True/\True/\(True/\True/\True)/\True/\(vcIf (!(decide (a.test=b.test))) (VC_eqCmd_1 a b) (True/\True/\True/\True/\((a.inv.facts.length<=281474976710656/\a.inv.atoms.length<=281474976710656/\b.inv.facts.length<=281474976710656/\b.inv.atoms.length<=281474976710656)/\True/\True)/\True/\(vcIf (!(decide (a.inv=b.inv))) (VC_eqCmd_1 a b) (True/\True/\True/\True/\(((BdL a.body/\BdL b.body)/\ndL a.body < m)/\True/\True)/\True/\(vcIf (!(decide (a.body=b.body))) (VC_eqCmd_1 a b) (True/\True/\True/\True/\(((BdL a.els/\BdL b.els)/\ndL a.els < m)/\True/\True)/\True/\(vcIf (!(decide (a.els=b.els))) (VC_eqCmd_1 a b) (True/\(((true,()):Bool × Unit)=(decide (a=b),()))/\True/\True/\True/\True/\TF))))))))))))))
theorem vcn_eqCmd (a:GCmd) (b:GCmd) (m:Nat) (k:Nat) (hp:(BdC a/\BdC b)/\ndC a < m+1):VC_eqCmd a b m k:=by
 unfold VC_eqCmd VC_eqCmd_1
 simp only [cln,Nat.reduceEqDiff,Nat.reduceLeDiff,Nat.reduceAdd,GCmd.eta]
 have e1:=ndC_eq a
 have b1:=hp.1.1.b
 have b2:=hp.1.1.e
 have b3:=hp.1.1.f
 have b4:=hp.1.1.a
 have d1:=hp.1.2.b
 have d2:=hp.1.2.e
 have d3:=hp.1.2.f
 have d4:=hp.1.2.a
 all_goals (try simp only [vcIf_iff,decide_eq_true_eq,decide_eq_false_iff_not,bne_iff_ne,ne_eq,beq_iff_eq,beq_eq_false_iff_ne,bne_eq_false_iff_eq,Bool.not_eq_true',Bool.not_eq_false',Int.ofNat_lt,Int.natCast_inj])
 all_goals (repeat' (first | apply And.intro | intro _))
 all_goals (first | omega | (simp_all;done) | grind [GCmd.ext_iff])
theorem okof_eqCmd (m:Nat) (ih:FnOk Tryd.prog E 15 (c_eqCmdS.lim mu_eqCmdS m)):FnOk Tryd.prog E 24 (c_eqCmd.lim mu_eqCmd (m+1)) :=
 fn_okQ (con:=c_eqCmd.lim mu_eqCmd (m+1)) (fn:=Tryd.f24) (l:=L_eqCmd m) (lp:=P_eqCmd) (hp:=fun _=>false) (gcs:=fun _=>none) (perm:=fun _=>[]) tabOk mix ⟨ih,ok_eqFact,ok_eqAssertion,trivial⟩ trivial Tryd.func24 rfl (by kernel_rfl) (show c_eqCmd.aks.length<=Tryd.f24.ntmps by decide) (by kernel_rfl) (anns:=fun x _=>fun _ _=>none) (fun ⟨a,b,_⟩ k hp _=>Eq.mp (by kernel_rfl) (vcn_eqCmd a b m k hp)) tot_fn
abbrev L_eqCmdS (m:Nat):List (FuncId × Con):=[(24,c_eqCmd.lim mu_eqCmd (m+1))]
abbrev P_eqCmdS:List (FuncId × PT):=[]
def an_eqCmdS (a:List GCmd) (b:List GCmd):Nat->St->Option Ann
 | 4,se=>some { α:=Nat,ok:=fun i=>i<=a.length/\a.length=b.length/\a.take i=b.take i,mu:=fun i=>a.length - i,i0:=fun _=>0,nx:=fun a _=>(fun i=>i+1) a,live:=[0,1],sets:=fun i=>[(5,sv (.int .i64 i))],mids:=[],blks:=fun i=>[],owns:=fun i=>[],rd:=fun r _=>r,base:=100000 }
 | _,_=>none
def VC_eqCmdS_1 (a:List GCmd) (b:List GCmd):Prop:=True/\(((false,()):Bool × Unit)=(decide (a=b),()))/\True/\True/\True/\True/\TF
def VC_eqCmdS (a:List GCmd) (b:List GCmd) (m:Nat) (k:Nat):Prop:=True/\True/\True/\True/\True/\True/\(vcIf (((a.length:Nat):Int) != ((b.length:Nat):Int)) (VC_eqCmdS_1 a b) (True/\((0<=a.length/\a.length=b.length/\a.take 0=b.take 0)/\TT/\(RL [.s (.c (.d (.arr .cmd a))),.s (.c (.d (.arr .cmd b)))])/\(([.s (.c (.d (.val (.int .i64 (0:Int)))))]:List S)=[.s (.c (.d (.val (.int .i64 ((0:Nat):Int)))))])/\(RM [])/\(RM [])/\True/\TT)/\(∀ i1:Nat,(i1<=a.length/\a.length=b.length/\a.take i1=b.take i1)->True/\True/\True/\True/\(vcIf (decide (((i1:Nat):Int) < ((a.length:Nat):Int))) (True/\True/\(0<=((i1:Nat):Int)/\((i1:Nat):Int) < ((a.length:Nat):Int))/\True/\True/\True/\(0<=((i1:Nat):Int)/\((i1:Nat):Int) < ((b.length:Nat):Int))/\True/\(((BdC (GCmd.mk ((a.getD i1 (Ty.zero .cmd)).kind) ((a.getD i1 (Ty.zero .cmd)).a) ((a.getD i1 (Ty.zero .cmd)).b) ((a.getD i1 (Ty.zero .cmd)).test) ((a.getD i1 (Ty.zero .cmd)).inv) ((a.getD i1 (Ty.zero .cmd)).body) ((a.getD i1 (Ty.zero .cmd)).els))/\BdC (GCmd.mk ((b.getD i1 (Ty.zero .cmd)).kind) ((b.getD i1 (Ty.zero .cmd)).a) ((b.getD i1 (Ty.zero .cmd)).b) ((b.getD i1 (Ty.zero .cmd)).test) ((b.getD i1 (Ty.zero .cmd)).inv) ((b.getD i1 (Ty.zero .cmd)).body) ((b.getD i1 (Ty.zero .cmd)).els)))/\ndC (GCmd.mk ((a.getD i1 (Ty.zero .cmd)).kind) ((a.getD i1 (Ty.zero .cmd)).a) ((a.getD i1 (Ty.zero .cmd)).b) ((a.getD i1 (Ty.zero .cmd)).test) ((a.getD i1 (Ty.zero .cmd)).inv) ((a.getD i1 (Ty.zero .cmd)).body) ((a.getD i1 (Ty.zero .cmd)).els)) < m+1)/\True/\True)/\True/\(vcIf (!(decide ((GCmd.mk ((a.getD i1 (Ty.zero .cmd)).kind) ((a.getD i1 (Ty.zero .cmd)).a) ((a.getD i1 (Ty.zero .cmd)).b) ((a.getD i1 (Ty.zero .cmd)).test) ((a.getD i1 (Ty.zero .cmd)).inv) ((a.getD i1 (Ty.zero .cmd)).body) ((a.getD i1 (Ty.zero .cmd)).els))=(GCmd.mk ((b.getD i1 (Ty.zero .cmd)).kind) ((b.getD i1 (Ty.zero .cmd)).a) ((b.getD i1 (Ty.zero .cmd)).b) ((b.getD i1 (Ty.zero .cmd)).test) ((b.getD i1 (Ty.zero .cmd)).inv) ((b.getD i1 (Ty.zero .cmd)).body) ((b.getD i1 (Ty.zero .cmd)).els))))) (VC_eqCmdS_1 a b) (True/\(inK .i64 (((i1:Nat):Int)+(1:Int)))/\True/\((i1+1)<=a.length/\a.length=b.length/\a.take (i1+1)=b.take (i1+1))/\(a.length - (i1+1) < a.length - i1)/\TT/\(RL [.s (.c (.d (.arr .cmd a))),.s (.c (.d (.arr .cmd b)))])/\(([.s (.c (.d (.val (.int .i64 (((i1:Nat):Int)+(1:Int))))))]:List S)=[.s (.c (.d (.val (.int .i64 (((i1+1):Nat):Int)))))])/\(RM [])/\(RM [])/\True/\TT))) (True/\(((true,()):Bool × Unit)=(decide (a=b),()))/\True/\True/\True/\True/\TF)))))
theorem vcn_eqCmdS (a:List GCmd) (b:List GCmd) (m:Nat) (k:Nat) (hp:(BdL a/\BdL b)/\ndL a < m+1):VC_eqCmdS a b m k:=by
 unfold VC_eqCmdS VC_eqCmdS_1
 simp only [cln,Nat.reduceEqDiff,Nat.reduceLeDiff,Nat.reduceAdd,GCmd.eta]
 have hg:∀ i,i < a.length->a.length=b.length->BdC (a.getD i (Ty.zero .cmd))/\BdC (b.getD i (Ty.zero .cmd))/\ndC (a.getD i (Ty.zero .cmd))<=ndL a:=fun i hi he=>⟨hp.1.1.get hi,hp.1.2.get (he ▸ hi),ndL_get hi⟩
 have hl1:=hp.1.1.len
 have hl2:=hp.1.2.len
 all_goals (try simp only [vcIf_iff,decide_eq_true_eq,decide_eq_false_iff_not,bne_iff_ne,ne_eq,beq_iff_eq,beq_eq_false_iff_ne,bne_eq_false_iff_eq,Bool.not_eq_true',Bool.not_eq_false',Int.ofNat_lt,Int.natCast_inj])
 all_goals (repeat' (first | apply And.intro | intro _))
 all_goals (first | omega | (simp_all;done) | grind [same_step,same_not,take_full])
theorem ok_eqCmdS:FnOk Tryd.prog E 15 c_eqCmdS :=
 fn_rec (mu:=mu_eqCmdS) (fun m ih=>fn_okQ (con:=c_eqCmdS.lim mu_eqCmdS (m+1)) (fn:=Tryd.f15) (l:=L_eqCmdS m) (lp:=P_eqCmdS) (hp:=fun _=>false) (gcs:=fun _=>none) (perm:=fun _=>[]) tabOk mix ⟨(okof_eqCmd m ih),trivial⟩ trivial Tryd.func15 rfl (by kernel_rfl) (show c_eqCmdS.aks.length<=Tryd.f15.ntmps by decide) (by kernel_rfl) (anns:=fun x _=>an_eqCmdS x.1 x.2.1) (fun ⟨a,b,_⟩ k hp _=>Eq.mp (by kernel_rfl) (vcn_eqCmdS a b m k hp)) tot_fn) ⟨_,_,Tryd.func15,by kernel_rfl,rfl⟩ tot_fn
end Go.Proofs.YtkafaeeianofnaaDoor

namespace Go.Proofs.YtkafaeeianofnaaDoor
open Go.SE Go.RowKit
variable [Base] [Names]
set_option linter.unusedSectionVars false
set_option linter.unusedSimpArgs false
set_option linter.unusedVariables false
set_option maxHeartbeats 1000000
set_option maxRecDepth 100000
abbrev c_FnExactFormatProgram:Con:=⟨[.sl .lcmd],[.bool],fun (l,_)=>BdL l,.inl fun (l,_)=>(true,()),fun _=>0⟩
abbrev L_FnExactFormatProgram:List (FuncId × Con):=[(10,c_iFormatProgram),(12,c_sFormatProgram),(13,c_szCmdS),(14,c_toCmdS),(15,c_eqCmdS)]
abbrev P_FnExactFormatProgram:List (FuncId × PT):=[]
def VC_FnExactFormatProgram_1 :Prop:=True/\(((true,()):Bool × Unit)=(true,()))/\True/\True/\True/\True/\TF
def VC_FnExactFormatProgram_2 :Prop:=True/\(((false,()):Bool × Unit)=(true,()))/\True/\True/\True/\True/\TF
def VC_FnExactFormatProgram (l:List GCmd) (k:Nat):Prop:=True/\True/\True/\True/\((BdL l/\0<=(1048576:Int)/\(1048576:Int)<=1048576)/\True/\True)/\True/\True/\True/\(vcIf (decide ((sz1 (1048576:Int) (l.length+wcL l)) < (0:Int))) VC_FnExactFormatProgram_1 (True/\((l.length+wcL l<=1048576)/\True/\True/\TN/\True)/\((BdL l/\ndL l<=1048576)/\True/\True)/\True/\True/\((l.length+wcL l<=1048576)/\True/\True/\TN/\True)/\True/\True/\((BdL l)/\True/\True)/\True/\True/\True/\True/\(vcIf (!((if prV l=true then cmL l else ⟨#[]⟩).toList == (if prV l=true then cmL l else ⟨#[]⟩).toList)) VC_FnExactFormatProgram_2 (True/\True/\((l.length+wcL l<=1048576)/\True/\True/\TN/\True)/\((BdL l/\BdL l)/\True/\True)/\True/\(vcIf (!(decide (l=l))) VC_FnExactFormatProgram_2 VC_FnExactFormatProgram_1)))))
theorem vcn_FnExactFormatProgram (l:List GCmd) (k:Nat) (hp:BdL l):VC_FnExactFormatProgram l k:=by
 unfold VC_FnExactFormatProgram VC_FnExactFormatProgram_2 VC_FnExactFormatProgram_1
 simp only [cln,Nat.reduceEqDiff,Nat.reduceLeDiff,Nat.reduceAdd,bne_self_eq_false,beq_self_eq_true,decide_true,eq_self,Bool.not_true,Bool.not_false,vcIf_true,vcIf_false,Bool.false_and,Bool.true_and,Bool.or_false,Bool.or_true]
 have hn:=ndL_wt l
 have hb:=fun h=>small_bdL (l:=l) h
 all_goals (try simp only [vcIf_iff,decide_eq_true_eq,decide_eq_false_iff_not,bne_iff_ne,ne_eq,beq_iff_eq,beq_eq_false_iff_ne,bne_eq_false_iff_eq,Bool.not_eq_true',Bool.not_eq_false',Int.ofNat_lt,Int.natCast_inj])
 all_goals (repeat' (first | apply And.intro | intro _))
 all_goals (repeat (cases ‹_/\_›))
 all_goals (first | omega | (simp_all;done) | grind [sz1] | skip)
theorem ok_FnExactFormatProgram:FnOk Tryd.prog E 5 c_FnExactFormatProgram :=
 fn_okQ (l:=L_FnExactFormatProgram) (lp:=P_FnExactFormatProgram) (hp:=fun _=>false) (gcs:=fun _=>none) (perm:=fun _=>[]) tabOk mix ⟨ok_iFormatProgram,ok_sFormatProgram,ok_szCmdS,ok_toCmdS,ok_eqCmdS,trivial⟩ trivial Tryd.func5 rfl (by kernel_rfl) (by decide) (by kernel_rfl) (anns:=fun x _=>fun _ _=>none) (fun ⟨l,_⟩ k hp _=>Eq.mp (by kernel_rfl) (vcn_FnExactFormatProgram l k hp)) tot_fn
end Go.Proofs.YtkafaeeianofnaaDoor
