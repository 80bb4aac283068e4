/-
  Contracts of single functions of the program, each shown by the engine: what a call returns for arguments within the contract's bounds.
-/
import Derived.Test.YtopjgjelkpkmmaaFFnMissingNonea
import Derived.Test.YtopjgjelkpkmmaaFFnMissingNoneb
import Derived.Test.YtopjgjelkpkmmaaEd
import Derived.Test.YtopjgjelkpkmmaaEe
set_option linter.unusedSimpArgs false
set_option linter.unusedVariables false
set_option linter.unusedSectionVars false

namespace Go.Proofs.Ytopjgjelkpkmmaa
open Go.SE Go.RowKit
set_option linter.unusedSimpArgs false
set_option linter.unusedVariables false
set_option maxHeartbeats 1000000
set_option maxRecDepth 100000
abbrev L_ext:List (FuncId × Con):=[(156,c_tsHas),(157,c_possible)]
def an_ext (a:GAsn) (tm:Int) (go:List Int->Bool) (T:CG) (l:Nat) (t t':Int) (en en':List Int->CG) (c:List Int) (γ:CG):Nat->St->CG->Option (AnnY CG)
 | 7,st0,GM=>some ⟨{ α:=Nat × List Int,ok:=fun p=>p.1<=t.toNat+1/\p.2.length=9/\(∀ x:Int,p.2.set t.toNat x=c.set t.toNat x)/\((List.range p.1).flatMap (brC (poss a) en t.toNat c)).all go=true,mu:=fun p=>t.toNat+1 - p.1,i0:=fun _=>(0,c),nx:=fun p st=>(p.1+1,vecAt st 95),live:=[1,3,4,5,7],sets:=fun p=>[(11,sv (.int .i64 p.1))],mids:=[127],blks:=fun p=>[(95,.vec .int p.2)],owns:=fun p=>[],rd:=fun r _=>r,base:=100000 },fun p=>GM ++ (List.range p.1).flatMap (brC (poss a) en t.toNat c)⟩
 | _,_,_=>none
def hp_ext:Nat->Bool
 | 2=>true
 | 5=>true
 | 11=>true
 | _=>false
def VC_ext_1 (t:Int) (tm:Int) (l:Nat):Prop:=RL [.s (.c (.d (.val (.int .i64 t)))),.s (.c (.d (.val (.int .u16 tm)))),.s (.c (.d (.val (yV l)))),.s (.c (.ptr 95 0)),.s (.c (.ptr 127 0))]
def VC_ext_2 (p1:Nat × List Int) (t:Int) (c:List Int) (a:GAsn) (en:List Int->CG) (go:List Int->Bool):Prop:=(p1.1+1,(p1.2.set t.toNat (p1.1:Int))).1<=t.toNat+1/\(p1.1+1,(p1.2.set t.toNat (p1.1:Int))).2.length=9/\(∀ x:Int,(p1.1+1,(p1.2.set t.toNat (p1.1:Int))).2.set t.toNat x=c.set t.toNat x)/\((List.range (p1.1+1,(p1.2.set t.toNat (p1.1:Int))).1).flatMap (brC (poss a) en t.toNat c)).all go=true
def VC_ext_3 (t:Int) (p1:Nat × List Int) (tm:Int) (l:Nat) (a:GAsn):Prop:=(t.toNat+1 - (p1.1+1,(p1.2.set t.toNat (p1.1:Int))).1 < t.toNat+1 - p1.1)/\TT/\(VC_ext_1 t tm l)/\(([.s (.c (.d (.val (.int .i64 ((p1.1:Int)+(1:Int))))))]:List S)=[.s (.c (.d (.val (.int .i64 ((p1.1+1,(p1.2.set t.toNat (p1.1:Int))).1:Int)))))])/\(RM [some (.blk [.d (.arr .fact a.facts),.d (.arr .atom a.atoms)])])/\(([some (.vec .int (p1.2.set t.toNat (p1.1:Int)))]:List (Option Res))=[some (.vec .int ((p1.1+1,(p1.2.set t.toNat (p1.1:Int))).2))])/\True/\TT
def VC_ext_4 (t:Int) (p1:Nat × List Int) (a:GAsn) (t':Int) (tm:Int) (l:Nat) (γ:CG) (en:List Int->CG) (c:List Int) (go:List Int->Bool) (T:CG) (en':List Int->CG):Prop:=TT/\True/\True/\(0<=t/\t < ((9:Nat):Int)/\p1.2.length=9)/\(TF/\TF/\True)/\TT/\True/\True/\(((p1.2.set t.toNat (p1.1:Int)).length=9/\asV a=true/\0<=t/\t<=8)/\True/\True)/\True/\(vcIf (possI a (p1.2.set t.toNat (p1.1:Int)) t) ((9=(p1.2.set t.toNat (p1.1:Int)).length * 1)/\True/\(inK .i64 (t+(1:Int)))/\True/\True/\True/\(((none:Option Nat)=none)/\((p1.2.set t.toNat (p1.1:Int)).length=9)/\((t+(1:Int))=t')/\(a.facts=a.facts)/\(a.atoms=a.atoms)/\(tm=tm)/\((yV l:Value)=yV l)/\((γ ++ (List.range p1.1).flatMap (brC (poss a) en t.toNat c)).all go=true)/\(((γ ++ (List.range p1.1).flatMap (brC (poss a) en t.toNat c)) ++ en (p1.2.set t.toNat (p1.1:Int))) <+: T))/\True/\True/\(vcIf (!((en (p1.2.set t.toNat (p1.1:Int))).all go)) (TT/\True/\((none:Option Nat)=none)/\(false=(en' c).all go)/\((γ ++ (List.range p1.1).flatMap (brC (poss a) en t.toNat c) ++ upTo go (en (p1.2.set t.toNat (p1.1:Int))):CG)=γ ++ upTo go (en' c))) (TT/\True/\(inK .i64 ((p1.1:Int)+(1:Int)))/\True/\(VC_ext_2 p1 t c a en go)/\((γ ++ (List.range (p1.1+1,(p1.2.set t.toNat (p1.1:Int))).1).flatMap (brC (poss a) en t.toNat c):CG)=γ ++ (List.range p1.1).flatMap (brC (poss a) en t.toNat c) ++ upTo go (en (p1.2.set t.toNat (p1.1:Int))))/\(VC_ext_3 t p1 tm l a)))) (True/\TT/\True/\(inK .i64 ((p1.1:Int)+(1:Int)))/\True/\(VC_ext_2 p1 t c a en go)/\((γ ++ (List.range (p1.1+1,(p1.2.set t.toNat (p1.1:Int))).1).flatMap (brC (poss a) en t.toNat c):CG)=γ ++ (List.range p1.1).flatMap (brC (poss a) en t.toNat c))/\(VC_ext_3 t p1 tm l a)))
def VC_ext_5 (t:Int) (c:List Int) (l:Nat) (γ:CG) (go:List Int->Bool) (T:CG) (en':List Int->CG) (tm:Int) (t':Int) (a:GAsn) (en:List Int->CG):Prop:=(True/\(vcIf (decide ((8:Int) < t)) (TT/\True/\(9=c.length * 1)/\(((none:Option Nat)=none)/\((.s (.c (.d (.val (yV l)))):S)=.s (.c (.d (.val (yV l)))))/\(γ.all go=true)/\((γ ++ [c]) <+: T))/\True/\((none:Option Nat)=none)/\((go c)=(en' c).all go)/\((γ ++ [c]:CG)=γ ++ upTo go (en' c))) (TT/\True/\True/\((0<=tm/\tm < 512)/\True/\True)/\True/\(vcIf (!(tsHas tm t)) (TT/\True/\(0<=t/\t < ((9:Nat):Int)/\c.length=9)/\(TF/\TF/\True)/\TT/\(9=(c.set t.toNat (-1:Int)).length * 1)/\True/\(inK .i64 (t+(1:Int)))/\True/\True/\True/\(((none:Option Nat)=none)/\((c.set t.toNat (-1:Int)).length=9)/\((t+(1:Int))=t')/\(a.facts=a.facts)/\(a.atoms=a.atoms)/\(tm=tm)/\((yV l:Value)=yV l)/\(γ.all go=true)/\((γ ++ en (c.set t.toNat (-1:Int))) <+: T))/\True/\((none:Option Nat)=none)/\(((en (c.set t.toNat (-1:Int))).all go)=(en' c).all go)/\((γ ++ upTo go (en (c.set t.toNat (-1:Int))):CG)=γ ++ upTo go (en' c))) (TT/\True/\(((0,c).1<=t.toNat+1/\(0,c).2.length=9/\(∀ x:Int,(0,c).2.set t.toNat x=c.set t.toNat x)/\((List.range (0,c).1).flatMap (brC (poss a) en t.toNat c)).all go=true)/\((γ ++ (List.range (0,c).1).flatMap (brC (poss a) en t.toNat c):CG)=γ)/\TT/\(VC_ext_1 t tm l)/\(([.s (.c (.d (.val (.int .i64 (0:Int)))))]:List S)=[.s (.c (.d (.val (.int .i64 ((0,c).1:Int)))))])/\(RM [some (.blk [.d (.arr .fact a.facts),.d (.arr .atom a.atoms)])])/\(([some (.vec .int c)]:List (Option Res))=[some (.vec .int ((0,c).2))])/\True/\TT)/\(∀ p1:Nat × List Int,(p1.1<=t.toNat+1/\p1.2.length=9/\(∀ x:Int,p1.2.set t.toNat x=c.set t.toNat x)/\((List.range p1.1).flatMap (brC (poss a) en t.toNat c)).all go=true)->TT/\True/\True/\True/\(vcIf (decide ((p1.1:Int)<=t)) (TT/\True/\True/\True/\True/\(vcIf (decide ((p1.1:Int) < t)) (True/\(0<=(p1.1:Int)/\(p1.1:Int) < ((9:Nat):Int)/\p1.2.length=9)/\True/\True/\True/\True/\(vcIf ((p1.2.getD (p1.1:Int).toNat (0:Int)) != (p1.1:Int)) (TT/\True/\(inK .i64 ((p1.1:Int)+(1:Int)))/\True/\((p1.1+1,p1.2).1<=t.toNat+1/\(p1.1+1,p1.2).2.length=9/\(∀ x:Int,(p1.1+1,p1.2).2.set t.toNat x=c.set t.toNat x)/\((List.range (p1.1+1,p1.2).1).flatMap (brC (poss a) en t.toNat c)).all go=true)/\((γ ++ (List.range (p1.1+1,p1.2).1).flatMap (brC (poss a) en t.toNat c):CG)=γ ++ (List.range p1.1).flatMap (brC (poss a) en t.toNat c))/\(t.toNat+1 - (p1.1+1,p1.2).1 < t.toNat+1 - p1.1)/\TT/\(VC_ext_1 t tm l)/\(([.s (.c (.d (.val (.int .i64 ((p1.1:Int)+(1:Int))))))]:List S)=[.s (.c (.d (.val (.int .i64 ((p1.1+1,p1.2).1:Int)))))])/\(RM [some (.blk [.d (.arr .fact a.facts),.d (.arr .atom a.atoms)])])/\(([some (.vec .int p1.2)]:List (Option Res))=[some (.vec .int ((p1.1+1,p1.2).2))])/\True/\TT) (VC_ext_4 t p1 a t' tm l γ en c go T en'))) (True/\(VC_ext_4 t p1 a t' tm l γ en c go T en')))) (TT/\True/\((none:Option Nat)=none)/\(true=(en' c).all go)/\((γ ++ (List.range p1.1).flatMap (brC (poss a) en t.toNat c):CG)=γ ++ upTo go (en' c))))))))))
def VC_ext (a:GAsn) (tm:Int) (go:List Int->Bool) (T:CG) (l:Nat) (t t':Int) (en en':List Int->CG) (c:List Int) (γ:CG):Prop:=TT/\TN/\TN/\True/\TT/\True/\(VC_ext_5 t c l γ go T en' tm t' a en)
theorem vcn_ext (a:GAsn) (tm:Int) (go:List Int->Bool) (T:CG) (l:Nat) (t t':Int) (en en':List Int->CG) (c:List Int) (γ:CG) (hp:asV a=true/\0<=tm/\tm < 512) (ht:0<=t/\t<=9) (ht':t'=t+1) (hc:c.length=9) (hgo:γ.all go=true) (hT:(γ ++ en' c) <+: T) (h9:8 < t->en' c=[c]) (h8:¬ 8 < t->en' c=cond (tsHas tm t) ((List.range (t.toNat+1)).flatMap (brC (poss a) en t.toNat c)) (en (c.set t.toNat (-1)))):VC_ext a tm go T l t t' en en' c γ:=by
 unfold VC_ext VC_ext_5 VC_ext_4 VC_ext_3 VC_ext_2 VC_ext_1
 simp only [cln,Nat.reduceEqDiff,Nat.reduceLeDiff,Nat.reduceAdd]
 obtain ⟨n,rfl⟩:∃ n:Nat,t=(n:Int):=⟨t.toNat,by omega⟩
 simp only [Int.toNat_natCast] at h8 ⊢
 all_goals (try simp only [vcIf_iff,decide_eq_true_eq,decide_eq_false_iff_not,bne_iff_ne,ne_eq,beq_iff_eq,beq_eq_false_iff_ne,bne_eq_false_iff_eq,Bool.not_eq_true',Bool.not_eq_false',Int.ofNat_lt,Int.natCast_inj])
 all_goals (repeat' (first | apply And.intro | intro _))
 all_goals (first | omega | assumption | rfl | (simp_all;done) | skip)
 ·rw [h9 ‹_›];simp only [upTo];cases go c <;> rfl
 all_goals (have hL:=h8 ‹_›;rw [(by assumption:tsHas tm (n:Int)=true),cond_true] at hL)
 all_goals (have hok:=(by assumption:_/\_/\(∀ x:Int,_)/\_);obtain ⟨k1,k2,k3,k4⟩:=hok)
 all_goals (first
  | (have e:=fl_skip (a:=a) (en:=en) k3 (by omega) ‹_›;unfold flC at e;rw [e];assumption) | (have e:=fl_skip (a:=a) (en:=en) k3 (by omega) ‹_›;unfold flC at e;rw [e];done)
  | (rw [List.all_append,hgo,k4];rfl)
  | (exact fl_pre hL k3 (.inr ‹_›) ‹_› ‹_› hT) | (exact fl_pre hL k3 (.inl (by omega)) ‹_› ‹_› hT)
  | (exact (fl_all (γ:=γ) hL k3 (.inr ‹_›) ‹_› ‹_› ‹_› k4).1) | (exact (fl_all (γ:=γ) hL k3 (.inl (by omega)) ‹_› ‹_› ‹_› k4).1)
  | (exact (fl_all hL k3 (.inr ‹_›) ‹_› ‹_› ‹_› k4).2) | (exact (fl_all hL k3 (.inl (by omega)) ‹_› ‹_› ‹_› k4).2)
  | (exact (fl_end (γ:=γ) hL k1 ‹_› k4).1) | (exact (fl_end hL k1 ‹_› k4).2)
  | (have e:=fl_no (en:=en) k3 ‹_›;unfold flC at e;rw [e];assumption) | (have e:=fl_no (en:=en) k3 ‹_›;unfold flC at e;rw [e];done)
  | (have e:=fl_yes (en:=en) k3 (.inr ‹_›) ‹_› ‹_›;unfold flC at e;rw [e,List.all_append,k4,(by assumption:List.all (en _) go=true)];rfl)
  | (have e:=fl_yes (en:=en) k3 (.inl (by omega)) ‹_› ‹_›;unfold flC at e;rw [e,List.all_append,k4,(by assumption:List.all (en _) go=true)];rfl)
  | (have e:=fl_yes (en:=en) k3 (.inr ‹_›) ‹_› ‹_›;unfold flC at e;rw [e,upTo_all ‹_›,List.append_assoc];done)
  | (have e:=fl_yes (en:=en) k3 (.inl (by omega)) ‹_› ‹_›;unfold flC at e;rw [e,upTo_all ‹_›,List.append_assoc];done)
  | skip)
def hp_pc:Nat->Bool
 | 1=>true
 | _=>false
def VC_pc (a:GAsn) (tm:Int) (go:List Int->Bool) (T:CG) (l:Nat) (en:List Int->CG) (γ1:CG):Prop:=TT/\(TN/\True)/\TT/\(9=(List.replicate 9 (0:Int)).length * 1)/\True/\True/\True/\(((none:Option Nat)=none)/\((List.replicate 9 (0:Int)).length=9)/\((0:Int)=0)/\(a.facts=a.facts)/\(a.atoms=a.atoms)/\(tm=tm)/\((yV l:Value)=yV l)/\([].all go=true)/\(([] ++ en (List.replicate 9 (0:Int))) <+: T))/\((none:Option Nat)=none)/\(([] ++ upTo go (en (List.replicate 9 (0:Int))):CG)=γ1)
theorem vcn_pc (a:GAsn) (tm:Int) (go:List Int->Bool) (T:CG) (l:Nat) (en:List Int->CG) (γ1:CG) (hT:en (List.replicate 9 0)=T) (h1:γ1=upTo go T):VC_pc a tm go T l en γ1:=by
 unfold VC_pc
 simp only [cln,Nat.reduceEqDiff,Nat.reduceLeDiff,Nat.reduceAdd]
 subst h1 hT
 simp
theorem vce_pc (a:GAsn) (tm:Int) (go:List Int->Bool) (T:CG) (l:Nat) (en:List Int->CG) (γ1:CG):VC_pc a tm go T l en γ1=vcY tab (lookF []) (lookP []) (spE 135 l go T a tm 0 en) noSpc (fun _=>false) hp_pc (fun _=>none) (fun _ _ _=>none) (fun _=>[]) (bodyOf Try.f134) (pcSt a tm l) [] (retP0 tab Try.f134.results.toList γ1):=by kernel_rfl
theorem ext_step {J:JJ CG} {a:GAsn} {tm:Int} {go:List Int->Bool} {T:CG} {l:Nat} {t t':Int} {en en':List Int->CG} (hp:asV a=true/\0<=tm/\tm < 512) (ht:0<=t/\t<=9) (ht':t'=t+1) (h9:∀ c,8 < t->en' c=[c]) (h8:∀ c,¬ 8 < t->en' c=cond (tsHas tm t) ((List.range (t.toNat+1)).flatMap (brC (poss a) en t.toNat c)) (en (c.set t.toNat (-1))))
  (hx:ExtOk Try.prog J 135 l go T a tm t' en) (hy:YOk Try.prog J l go T):ExtOk Try.prog J 135 l go T a tm t en' :=
 ext_sound (hp:=hp_ext) (gcs:=fun _=>none) (perm:=fun _=>[]) (pts:=lookP []) tabOk (kall_of (l:=L_ext) ⟨ok_tsHas,ok_possible,trivial⟩) (pall_of (l:=[]) trivial) mix Try.func135 rfl (by kernel_rfl) (by decide) (by kernel_rfl) hx hy (anns:=fun c γ=>an_ext a tm go T l t t' en en' c γ)
  fun c γ hc hgo hT=>Eq.mp (by kernel_rfl) (vcn_ext a tm go T l t t' en en' c γ hp ht ht' hc hgo hT (h9 c) (h8 c))
theorem ext_all {J:JJ CG} {a:GAsn} {tm:Int} {go:List Int->Bool} {T:CG} {l:Nat} (hp:asV a=true/\0<=tm/\tm < 512) (hy:YOk Try.prog J l go T):∀ (f t:Nat),f+t=9->ExtOk Try.prog J 135 l go T a tm (t:Int) (enumC (poss a) (hasN tm) f t):=by
 intro f
 induction f with
 | zero =>
  intro t ht
  have:t=9:=by omega
  subst this
  exact ext_step (t':=10) hp (by decide) (by decide) (fun c _=>rfl) (fun c h=>absurd h (by decide)) ext_none hy
 | succ f ih =>
  intro t ht
  refine ext_step (t':=((t+1:Nat):Int)) (en:=enumC (poss a) (hasN tm) f (t+1)) hp (by omega) (by omega) (fun c h=>by omega) (fun c _=>?_) (ih (t+1) (by omega)) hy
  simp only [Int.toNat_natCast]
  rfl
theorem it_ok:ItOk Try.prog 134 itPre itEn:=by
 intro J l go a tm hpre hy w p ro0 ρ b1 b2 vs1 ty1 ty2 hin hro h1 hc1 h2 hne hp1 hp2 hr1 hr2 hJ
 exact pc_ok (fid:=135) (T:=itEn a tm) (en:=enumC (poss a) (hasN tm) 9 0) (t:=0) (hp:=hp_pc) (gcs:=fun _=>none) (perm:=fun _=>[]) (K:=lookF []) (pts:=lookP []) (anns:=fun _ _ _=>none) tabOk (kall_of (l:=[]) trivial) (pall_of (l:=[]) trivial) mix Try.func134 rfl (by decide) Try.func135 rfl (by kernel_rfl) (by kernel_rfl) (ext_all hpre hy 9 0 rfl) hy
  ((vce_pc a tm go (itEn a tm) l (enumC (poss a) (hasN tm) 9 0) (upTo go (itEn a tm))).mp (vcn_pc a tm go (itEn a tm) l (enumC (poss a) (hasN tm) 9 0) (upTo go (itEn a tm)) rfl rfl)) hin hro h1 hc1 h2 hne hp1 hp2 hr1 hr2 hJ
theorem it_run:∀ args w,(callFunc 134 args).run Try.prog w=.ok (.enter 134 args) w:=run_callFunc Try.func134 (by kernel_rfl) rfl
abbrev L_possibleCases:List (FuncId × Con):=[(99,c_termsIn),(133,c_tsWith)]
abbrev P_possibleCases:List (FuncId × PT):=[]
abbrev pt_possibleCases:PT:=inl tab (lookF L_possibleCases) (lookP P_possibleCases) (fun _=>false) (fun _ _=>none) (fun _ _ _ _=>none) (fun _=>[]) Try.f98.ntmps (bodyOf Try.f98) Try.f98.results.toList
theorem ptok_possibleCases:PTOk Try.prog E 98 pt_possibleCases :=
 pt_ok (l:=L_possibleCases) (lp:=P_possibleCases) tabOk mix ⟨ok_termsIn,ok_tsWith,trivial⟩ trivial Try.func98 rfl (by kernel_rfl) (by kernel_rfl)
abbrev c_iFilled:Con:=⟨[.pkase,.sl .atom],[.sl .atom],fun (c,l,_)=>l.length<=1048576/\l.all atV=true/\c.length=9,.inl fun (c,l,_)=>(fL c l,()),fun _=>0⟩
abbrev L_iFilled:List (FuncId × Con):=[(139,c_isFilled)]
abbrev P_iFilled:List (FuncId × PT):=[]
def an_iFilled (c:List Int) (l:List GAtom):Nat->St->Option Ann
 | 3,se=>some { α:=Nat,ok:=fun i=>i<=l.length,mu:=fun i=>l.length - i,i0:=fun _=>0,nx:=fun a _=>(fun i=>i+1) a,live:=[0,4,8,9],sets:=fun i=>[(10,sv (.int .i64 i))],mids:=[64],blks:=fun i=>[],owns:=fun i=>[⟨7,.slot 5,.atom,fL c (l.take i)⟩],rd:=fun r _=>r,base:=100000 }
 | _,_=>none
def VC_iFilled_1 (c:List Int) (l:List GAtom):Prop:=RL [.s (.c (.rv .int c)),.s (.c (.own 64)),.s (.c (.d (.arr .atom l))),.s (.c (.d (.val (.int .i64 ((l.length:Nat):Int)))))]
def VC_iFilled_2 (i1:Nat):Prop:=([.s (.c (.d (.val (.int .i64 (((i1:Nat):Int)+(1:Int))))))]:List S)=[.s (.c (.d (.val (.int .i64 (((i1+1):Nat):Int)))))]
def VC_iFilled (c:List Int) (l:List GAtom) (k:Nat):Prop:=TN/\TN/\True/\True/\True/\((0<=l.length)/\TT/\(VC_iFilled_1 c l)/\(([.s (.c (.d (.val (.int .i64 (0:Int)))))]:List S)=[.s (.c (.d (.val (.int .i64 ((0:Nat):Int)))))])/\(RM [some (.sl 64 .atom ([]:List GAtom))])/\(RM [])/\(((some ([]:List GAtom):Option (List GAtom))=some (fL c (l.take 0)))/\True)/\TT)/\(∀ i1:Nat,(i1<=l.length)->True/\(vcIf (decide (((i1:Nat):Int) < ((l.length:Nat):Int))) ((0<=((i1:Nat):Int)/\((i1:Nat):Int) < ((l.length:Nat):Int))/\True/\(TN/\True)/\(TF/\TF)/\True/\True/\((c.length=9/\atV (l.getD i1 (⟨0,0,0⟩:GAtom))=true)/\True/\True)/\(vcIf (filB c (l.getD i1 (⟨0,0,0⟩:GAtom))) (True/\True/\True/\True/\True/\True/\True/\(0<=((l.getD i1 (⟨0,0,0⟩:GAtom)).a)/\((l.getD i1 (⟨0,0,0⟩:GAtom)).a) < ((9:Nat):Int)/\c.length=9)/\True/\True/\True/\True/\True/\(0<=((l.getD i1 (⟨0,0,0⟩:GAtom)).b)/\((l.getD i1 (⟨0,0,0⟩:GAtom)).b) < ((9:Nat):Int)/\c.length=9)/\True/\True/\(TN/\True)/\(TN/\TF/\TF/\((fL c (l.take i1)).length+([(⟨(l.getD i1 (⟨0,0,0⟩:GAtom)).kind,(c.getD ((l.getD i1 (⟨0,0,0⟩:GAtom)).a).toNat (0:Int)),(c.getD ((l.getD i1 (⟨0,0,0⟩:GAtom)).b).toNat (0:Int))⟩:GAtom)]:List GAtom).length<=4294967296))/\True/\(inK .i64 (((i1:Nat):Int)+(1:Int)))/\True/\((i1+1)<=l.length)/\(l.length - (i1+1) < l.length - i1)/\TT/\(VC_iFilled_1 c l)/\(VC_iFilled_2 i1)/\(RM [some (.sl 64 .atom ([]:List GAtom))])/\(RM [])/\(((some ((fL c (l.take i1)) ++ ([(⟨(l.getD i1 (⟨0,0,0⟩:GAtom)).kind,(c.getD ((l.getD i1 (⟨0,0,0⟩:GAtom)).a).toNat (0:Int)),(c.getD ((l.getD i1 (⟨0,0,0⟩:GAtom)).b).toNat (0:Int))⟩:GAtom)]:List GAtom)):Option (List GAtom))=some (fL c (l.take (i1+1))))/\True)/\TT) ((inK .i64 (((i1:Nat):Int)+(1:Int)))/\True/\((i1+1)<=l.length)/\(l.length - (i1+1) < l.length - i1)/\TT/\(VC_iFilled_1 c l)/\(VC_iFilled_2 i1)/\(RM [some (.sl 64 .atom ([]:List GAtom))])/\(RM [])/\(((some (fL c (l.take i1)):Option (List GAtom))=some (fL c (l.take (i1+1))))/\True)/\TT))) (True/\True/\(((fL c (l.take i1),()):(List GAtom) × Unit)=(fL c l,()))/\(True/\True)/\((TF/\TF)/\True)/\True/\(True/\True)/\TF)))
theorem vcn_iFilled (c:List Int) (l:List GAtom) (k:Nat) (hp:l.length<=1048576/\l.all atV=true/\c.length=9):VC_iFilled c l k:=by
 unfold VC_iFilled VC_iFilled_2 VC_iFilled_1
 simp only [cln,Nat.reduceEqDiff,Nat.reduceLeDiff,Nat.reduceAdd]
 have hV:=hp.2.1
 have hL:∀ i,(fL c (l.take i)).length<=1048576:=fun i=>Nat.le_trans (fL_len _ _) (by simp;omega)
 all_goals (try simp only [opn])
 all_goals (repeat' (first | apply And.intro | intro _))
 all_goals (repeat (cases ‹_/\_›))
 all_goals (first | omega | rfl | assumption | (simp_all;done) | skip)
 all_goals (first
  | (have h1:=atom_idx (l:=l) hV ‹_›;omega)
  | exact Nat.le_trans (hL _) (by decide)
  | (rw [fL_step (d:=⟨0,0,0⟩) ‹_›,(by assumption:filB c _=true)];rfl)
  | (rw [fL_step (d:=⟨0,0,0⟩) ‹_›,(by assumption:filB c _=false)];rfl)
  | (rw [take_full (l:=l) ‹_›];done) | skip)
theorem ok_iFilled:FnOk Try.prog E 102 c_iFilled :=
 fn_okQ (l:=L_iFilled) (lp:=P_iFilled) (hp:=fun _=>false) (gcs:=fun _=>none) (perm:=fun _=>[]) tabOk mix ⟨ok_isFilled,trivial⟩ trivial Try.func102 rfl (by kernel_rfl) (by decide) (by kernel_rfl) (anns:=fun x _=>an_iFilled x.1 x.2.1) (fun ⟨c,l,_⟩ k hp _=>Eq.mp (by kernel_rfl) (vcn_iFilled c l k hp)) tot_fn
abbrev c_factsHold:Con:=⟨[.pkase,.sl .fact],[.bool],fun (c,l,_)=>c.length=9/\l.all fV=true/\l.length<=1048576,.inl fun (c,l,_)=>(l.all (fh c),()),fun _=>0⟩
abbrev L_factsHold:List (FuncId × Con):=[(158,c_factHolds)]
abbrev P_factsHold:List (FuncId × PT):=[]
def an_factsHold (c:List Int) (l:List GFact):Nat->St->Option Ann
 | 2,se=>some { α:=Nat,ok:=fun i=>i<=l.length/\(l.take i).all (fh c)=true,mu:=fun i=>l.length - i,i0:=fun _=>0,nx:=fun a _=>(fun i=>i+1) a,live:=[0,7,8],sets:=fun i=>[(9,sv (.int .i64 i))],mids:=[],blks:=fun i=>[],owns:=fun i=>[],rd:=fun r _=>r,base:=100000 }
 | _,_=>none
def VC_factsHold_1 (c:List Int) (l:List GFact):Prop:=RL [.s (.c (.rv .int c)),.s (.c (.d (.arr .fact l))),.s (.c (.d (.val (.int .i64 ((l.length:Nat):Int)))))]
def VC_factsHold (c:List Int) (l:List GFact) (k:Nat):Prop:=True/\True/\True/\True/\((0<=l.length/\(l.take 0).all (fh c)=true)/\TT/\(VC_factsHold_1 c l)/\(([.s (.c (.d (.val (.int .i64 (0:Int)))))]:List S)=[.s (.c (.d (.val (.int .i64 ((0:Nat):Int)))))])/\(RM [])/\(RM [])/\True/\TT)/\(∀ i1:Nat,(i1<=l.length/\(l.take i1).all (fh c)=true)->True/\(vcIf (decide (((i1:Nat):Int) < ((l.length:Nat):Int))) ((0<=((i1:Nat):Int)/\((i1:Nat):Int) < ((l.length:Nat):Int))/\True/\(TN/\True)/\(TF/\TF)/\True/\True/\((c.length=9/\fV (l.getD i1 (⟨false,0,0⟩:GFact))=true)/\True/\True)/\True/\(vcIf (!(fh c (l.getD i1 (⟨false,0,0⟩:GFact)))) (True/\(((false,()):Bool × Unit)=(l.all (fh c),()))/\True/\True/\True/\True/\TF) ((inK .i64 (((i1:Nat):Int)+(1:Int)))/\True/\((i1+1)<=l.length/\(l.take (i1+1)).all (fh c)=true)/\(l.length - (i1+1) < l.length - i1)/\TT/\(VC_factsHold_1 c l)/\(([.s (.c (.d (.val (.int .i64 (((i1:Nat):Int)+(1:Int))))))]:List S)=[.s (.c (.d (.val (.int .i64 (((i1+1):Nat):Int)))))])/\(RM [])/\(RM [])/\True/\TT))) (True/\(((true,()):Bool × Unit)=(l.all (fh c),()))/\True/\True/\True/\True/\TF)))
theorem vcn_factsHold (c:List Int) (l:List GFact) (k:Nat) (hp:c.length=9/\l.all fV=true/\l.length<=1048576):VC_factsHold c l k:=by
 unfold VC_factsHold VC_factsHold_1
 simp only [cln,Nat.reduceEqDiff,Nat.reduceLeDiff,Nat.reduceAdd]
 have hV:=hp.2.1
 all_goals (try simp only [opn])
 all_goals (repeat' (first | apply And.intro | intro _))
 all_goals (repeat (cases ‹_/\_›))
 all_goals (first | omega | rfl | assumption | (simp_all;done) | grind [take_all,all_take,take_full,Ty.zero])
theorem ok_factsHold:FnOk Try.prog E 136 c_factsHold :=
 fn_okQ (l:=L_factsHold) (lp:=P_factsHold) (hp:=fun _=>false) (gcs:=fun _=>none) (perm:=fun _=>[]) tabOk mix ⟨ok_factHolds,trivial⟩ trivial Try.func136 rfl (by kernel_rfl) (by decide) (by kernel_rfl) (anns:=fun x _=>an_factsHold x.1 x.2.1) (fun ⟨c,l,_⟩ k hp _=>Eq.mp (by kernel_rfl) (vcn_factsHold c l k hp)) tot_fn
abbrev m_cmUnused:BCon:=⟨[.int],[.int,.bool],fun l u n (q,_)=>l.length<=6/\u.length=6/\n=cnt u,fun l u n (q,_)=>u,fun l u n (q,_)=>n,fun l u n (q,_)=>(uaI l u q,uaB l u q,())⟩
abbrev pt_cmUnused:PT:=ptB m_cmUnused
abbrev L_cmUnused:List (FuncId × Con):=[]
abbrev P_cmUnused:List (FuncId × PT):=[]
def an_cmUnused (l:List GAtom) (u:List Bool) (n:Int) (q:Int) (v:Value):Nat->St->Option Ann
 | 2,se=>some { α:=Nat,ok:=fun i=>i<=l.length/\uaN l u q i=true,mu:=fun i=>l.length - i,i0:=fun _=>0,nx:=fun a _=>(fun i=>i+1) a,live:=[0,1,11,12],sets:=fun i=>[(13,sv (.int .i64 i))],mids:=[7],blks:=fun i=>[],owns:=fun i=>[],rd:=fun r _=>r,base:=100000 }
 | _,_=>none
def hp_cmUnused:Nat->Bool
 | 4=>true
 | _=>false
def VC_cmUnused_1 (q:Int) (l:List GAtom):Prop:=RL [.s (.c (.ptr 7 0)),.s (.c (.d (.val (.int .i64 q)))),.s (.c (.d (.arr .atom l))),.s (.c (.d (.val (.int .i64 ((l.length:Nat):Int)))))]
def VC_cmUnused_2 (l:List GAtom) (v:Value) (u:List Bool) (n:Int):Prop:=(RM [some (.blk [.d (.fix .atom l v),.d (.val (.bool (u.getD 0 false))),.d (.val (.bool (u.getD 1 false))),.d (.val (.bool (u.getD 2 false))),.d (.val (.bool (u.getD 3 false))),.d (.val (.bool (u.getD 4 false))),.d (.val (.bool (u.getD 5 false))),.d (.val (.int .i64 n))])])/\(RM [])/\True/\TT
def VC_cmUnused_3 (i1:Nat) (l:List GAtom) (u:List Bool) (q:Int) (v:Value) (n:Int):Prop:=True/\True/\True/\(((((i1:Nat):Int),true,()):Int × Bool × Unit)=(uaI l u q,uaB l u q,()))/\True/\True/\True/\(TF/\TF)/\((v:Value)=v)/\(sx6 u=u)/\((n:Int)=n)
def VC_cmUnused_4 (i1:Nat) (l:List GAtom) (u:List Bool) (q:Int) (v:Value) (n:Int):Prop:=(inK .i64 (((i1:Nat):Int)+(1:Int)))/\True/\((i1+1)<=l.length/\uaN l u q (i1+1)=true)/\(l.length - (i1+1) < l.length - i1)/\TT/\(VC_cmUnused_1 q l)/\(([.s (.c (.d (.val (.int .i64 (((i1:Nat):Int)+(1:Int))))))]:List S)=[.s (.c (.d (.val (.int .i64 (((i1+1):Nat):Int)))))])/\(VC_cmUnused_2 l v u n)
def VC_cmUnused (l:List GAtom) (u:List Bool) (n:Int) (q:Int) (v:Value) (k:Nat):Prop:=True/\True/\True/\True/\True/\True/\True/\True/\((0<=l.length/\uaN l u q 0=true)/\TT/\(VC_cmUnused_1 q l)/\(([.s (.c (.d (.val (.int .i64 (0:Int)))))]:List S)=[.s (.c (.d (.val (.int .i64 ((0:Nat):Int)))))])/\(VC_cmUnused_2 l v u n))/\(∀ i1:Nat,(i1<=l.length/\uaN l u q i1=true)->True/\(vcIf (decide (((i1:Nat):Int) < ((l.length:Nat):Int))) (True/\(0<=((i1:Nat):Int)/\((i1:Nat):Int) < ((l.length:Nat):Int))/\True/\(TN/\True)/\True/\(TF/\TF)/\True/\True/\True/\True/\True/\(vcIf (((l.getD i1 (⟨0,0,0⟩:GAtom)).a) == q) (True/\True/\True/\True/\((0<=((i1:Nat):Int))/\(((i1:Nat):Int) < ((6:Nat):Int)))/\(((((True/\((((i1:Nat):Int)=((0:Nat):Int))->True/\True/\True/\True/\(vcIf (!(u.getD 0 false)) (VC_cmUnused_3 i1 l u q v n) (VC_cmUnused_4 i1 l u q v n))))/\((((i1:Nat):Int)=((1:Nat):Int))->True/\True/\True/\True/\(vcIf (!(u.getD 1 false)) (VC_cmUnused_3 i1 l u q v n) (VC_cmUnused_4 i1 l u q v n))))/\((((i1:Nat):Int)=((2:Nat):Int))->True/\True/\True/\True/\(vcIf (!(u.getD 2 false)) (VC_cmUnused_3 i1 l u q v n) (VC_cmUnused_4 i1 l u q v n))))/\((((i1:Nat):Int)=((3:Nat):Int))->True/\True/\True/\True/\(vcIf (!(u.getD 3 false)) (VC_cmUnused_3 i1 l u q v n) (VC_cmUnused_4 i1 l u q v n))))/\((((i1:Nat):Int)=((4:Nat):Int))->True/\True/\True/\True/\(vcIf (!(u.getD 4 false)) (VC_cmUnused_3 i1 l u q v n) (VC_cmUnused_4 i1 l u q v n))))/\((((i1:Nat):Int)=((5:Nat):Int))->True/\True/\True/\True/\(vcIf (!(u.getD 5 false)) (VC_cmUnused_3 i1 l u q v n) (VC_cmUnused_4 i1 l u q v n)))) (True/\(VC_cmUnused_4 i1 l u q v n)))) (True/\True/\((((0:Int),false,()):Int × Bool × Unit)=(uaI l u q,uaB l u q,()))/\True/\True/\True/\(TF/\TF)/\((v:Value)=v)/\(sx6 u=u)/\((n:Int)=n))))
theorem vcn_cmUnused (l:List GAtom) (u:List Bool) (n:Int) (q:Int) (v:Value) (k:Nat) (hp:l.length<=6/\u.length=6/\n=cnt u):VC_cmUnused l u n q v k:=by
 unfold VC_cmUnused VC_cmUnused_4 VC_cmUnused_3 VC_cmUnused_2 VC_cmUnused_1
 simp only [cln,Nat.reduceEqDiff,Nat.reduceLeDiff,Nat.reduceAdd]
 obtain ⟨hl,hu,hn⟩:=hp
 have h6:=sx6_eta hu
 all_goals (try simp only [vcIf_iff,decide_eq_true_eq,decide_eq_false_iff_not,bne_iff_ne,ne_eq,beq_iff_eq,beq_eq_false_iff_ne,bne_eq_false_iff_eq,Bool.not_eq_true',Bool.not_eq_false',Int.ofNat_lt])
 all_goals (repeat' (first | apply And.intro | intro _))
 all_goals (repeat (cases ‹_/\_›))
 all_goals (first | omega | rfl | assumption | exact h6 | (simp_all;done) | skip)
 all_goals (first
  | exact (ua_hit ‹_› ‹_› ‹_› ‹_› ‹_›).1
  | exact (ua_hit ‹_› ‹_› ‹_› ‹_› ‹_›).2
  | exact (ua_miss ‹_› ‹_› ‹_›).1
  | exact (ua_miss ‹_› ‹_› ‹_›).2
  | exact uaN_s1 ‹_› ‹_›
  | exact uaN_s2 ‹_› ‹_› ‹_›
  | skip)
theorem ptok_cmUnused:PTOk Try.prog E 159 pt_cmUnused :=
 blk_ok (c:=m_cmUnused) (fn:=Try.f159) (l:=L_cmUnused) (lp:=P_cmUnused) (hp:=hp_cmUnused) (perm:=fun _=>[]) tabOk mix trivial trivial Try.func159 rfl (by kernel_rfl) rfl (show m_cmUnused.k2.length+1<=Try.f159.ntmps by decide) (by kernel_rfl) (anns:=fun l u n y v=>an_cmUnused l u n y.1 v) (fun l u n ⟨q,_⟩ v hp=>Eq.mp (by kernel_rfl) (vcn_cmUnused l u n q v 0 hp))
abbrev m_cmTake:BCon:=⟨[.int],[],fun l u n (i,_)=>l.length<=6/\u.length=6/\n=cnt u/\0<=i/\i < 6/\u.getD i.toNat false=false,fun l u n (i,_)=>u.set i.toNat true,fun l u n (i,_)=>n+1,fun l u n (i,_)=>()⟩
abbrev pt_cmTake:PT:=ptB m_cmTake
abbrev L_cmTake:List (FuncId × Con):=[]
abbrev P_cmTake:List (FuncId × PT):=[]
def hp_cmTake:Nat->Bool
 | 0=>true
 | _=>false
def VC_cmTake (l:List GAtom) (u:List Bool) (n:Int) (i:Int) (v:Value) (k:Nat):Prop:=True/\True/\True/\True/\((0<=i)/\(i < ((6:Nat):Int)))/\(((((True/\((i=((0:Nat):Int))->True/\(TF/\TF)/\True/\True/\True/\True/\(inK .i64 (n+(1:Int)))/\True/\True/\(TF/\TF)/\((():Unit)=())/\True/\True/\True/\(TF/\TF)/\((v:Value)=v)/\(six true (u.getD 1 false) (u.getD 2 false) (u.getD 3 false) (u.getD 4 false) (u.getD 5 false)=u.set i.toNat true)/\((n+(1:Int):Int)=n+1)))/\((i=((1:Nat):Int))->True/\(TF/\TF)/\True/\True/\True/\True/\(inK .i64 (n+(1:Int)))/\True/\True/\(TF/\TF)/\((():Unit)=())/\True/\True/\True/\(TF/\TF)/\((v:Value)=v)/\(six (u.getD 0 false) true (u.getD 2 false) (u.getD 3 false) (u.getD 4 false) (u.getD 5 false)=u.set i.toNat true)/\((n+(1:Int):Int)=n+1)))/\((i=((2:Nat):Int))->True/\(TF/\TF)/\True/\True/\True/\True/\(inK .i64 (n+(1:Int)))/\True/\True/\(TF/\TF)/\((():Unit)=())/\True/\True/\True/\(TF/\TF)/\((v:Value)=v)/\(six (u.getD 0 false) (u.getD 1 false) true (u.getD 3 false) (u.getD 4 false) (u.getD 5 false)=u.set i.toNat true)/\((n+(1:Int):Int)=n+1)))/\((i=((3:Nat):Int))->True/\(TF/\TF)/\True/\True/\True/\True/\(inK .i64 (n+(1:Int)))/\True/\True/\(TF/\TF)/\((():Unit)=())/\True/\True/\True/\(TF/\TF)/\((v:Value)=v)/\(six (u.getD 0 false) (u.getD 1 false) (u.getD 2 false) true (u.getD 4 false) (u.getD 5 false)=u.set i.toNat true)/\((n+(1:Int):Int)=n+1)))/\((i=((4:Nat):Int))->True/\(TF/\TF)/\True/\True/\True/\True/\(inK .i64 (n+(1:Int)))/\True/\True/\(TF/\TF)/\((():Unit)=())/\True/\True/\True/\(TF/\TF)/\((v:Value)=v)/\(six (u.getD 0 false) (u.getD 1 false) (u.getD 2 false) (u.getD 3 false) true (u.getD 5 false)=u.set i.toNat true)/\((n+(1:Int):Int)=n+1)))/\((i=((5:Nat):Int))->True/\(TF/\TF)/\True/\True/\True/\True/\(inK .i64 (n+(1:Int)))/\True/\True/\(TF/\TF)/\((():Unit)=())/\True/\True/\True/\(TF/\TF)/\((v:Value)=v)/\(six (u.getD 0 false) (u.getD 1 false) (u.getD 2 false) (u.getD 3 false) (u.getD 4 false) true=u.set i.toNat true)/\((n+(1:Int):Int)=n+1))
theorem vcn_cmTake (l:List GAtom) (u:List Bool) (n:Int) (i:Int) (v:Value) (k:Nat) (hp:l.length<=6/\u.length=6/\n=cnt u/\0<=i/\i < 6/\u.getD i.toNat false=false):VC_cmTake l u n i v k:=by
 unfold VC_cmTake
 simp only [cln,Nat.reduceEqDiff,Nat.reduceLeDiff,Nat.reduceAdd]
 have hb:=cnt_bd u
 obtain ⟨hl,hu,hn,h0,h6,hd⟩:=hp
 obtain ⟨s0,s1,s2,s3,s4,s5⟩:=sx hu
 all_goals (repeat' (first | apply And.intro | intro _))
 all_goals (first
  | omega
  | (subst ‹i=_›;first | exact s0 | exact s1 | exact s2 | exact s3 | exact s4 | exact s5)
  | skip)
theorem ptok_cmTake:PTOk Try.prog E 160 pt_cmTake :=
 blk_ok (c:=m_cmTake) (fn:=Try.f160) (l:=L_cmTake) (lp:=P_cmTake) (hp:=hp_cmTake) (perm:=fun _=>[]) tabOk mix trivial trivial Try.func160 rfl (by kernel_rfl) rfl (show m_cmTake.k2.length+1<=Try.f160.ntmps by decide) (by kernel_rfl) (anns:=fun l u n y v=>fun _ _=>none) (fun l u n ⟨i,_⟩ v hp=>Eq.mp (by kernel_rfl) (vcn_cmTake l u n i v 0 hp))
abbrev m_cmCell:BCon:=⟨[.atom],[.sl .int,.bool],fun l u n (x,_)=>l.length<=6/\u.length=6/\n=cnt u,fun l u n (x,_)=>ucU l u x,fun l u n (x,_)=>cnt (ucU l u x),fun l u n (x,_)=>(ucL l u x,ucB l u x,())⟩
abbrev pt_cmCell:PT:=ptB m_cmCell
abbrev L_cmCell:List (FuncId × Con):=[]
abbrev P_cmCell:List (FuncId × PT):=[(159,pt_cmUnused),(160,pt_cmTake)]
def hp_cmCell:Nat->Bool
 | 1=>true
 | 4=>true
 | _=>false
def VC_cmCell_1 (l:List GAtom) (u:List Bool) (x:GAtom) (v:Value) (n:Int):Prop:=TN/\True/\(((([]:List Int),false,()):(List Int) × Bool × Unit)=(ucL l u x,ucB l u x,()))/\(True/\True)/\((TF/\TF)/\True)/\True/\(TF/\TF)/\((v:Value)=v)/\(sx6 u=ucU l u x)/\((n:Int)=cnt (ucU l u x))
def VC_cmCell (l:List GAtom) (u:List Bool) (n:Int) (x:GAtom) (v:Value) (k:Nat):Prop:=TN/\TN/\True/\True/\True/\True/\TF/\TF/\True/\True/\(l.length<=6/\(sx6 u).length=6/\n=cnt (sx6 u))/\True/\True/\True/\True/\True/\True/\True/\True/\(vcIf (!(uaB l (sx6 u) x.a)) (True/\(VC_cmCell_1 l u x v n)) (True/\True/\True/\True/\True/\(0<=(uaI l (sx6 u) x.a)/\(uaI l (sx6 u) x.a) < ((l.length:Nat):Int))/\True/\True/\True/\True/\(vcIf (!((((l.getD (uaI l (sx6 u) x.a).toNat (⟨0,0,0⟩:GAtom)).kind) == x.kind) && ((((l.getD (uaI l (sx6 u) x.a).toNat (⟨0,0,0⟩:GAtom)).a) == x.a) && ((((l.getD (uaI l (sx6 u) x.a).toNat (⟨0,0,0⟩:GAtom)).b) == x.b) && true)))) (VC_cmCell_1 l u x v n) (True/\True/\TF/\TF/\True/\True/\(l.length<=6/\(sx6 u).length=6/\n=cnt (sx6 u)/\0<=(uaI l (sx6 u) x.a)/\(uaI l (sx6 u) x.a) < 6/\(sx6 u).getD (uaI l (sx6 u) x.a).toNat false=false)/\True/\(TN/\True)/\True/\True/\(((([(uaI l (sx6 u) x.a)]:List Int),true,()):(List Int) × Bool × Unit)=(ucL l u x,ucB l u x,()))/\(True/\True)/\((TF/\TF)/\True)/\True/\(TF/\TF)/\((v:Value)=v)/\(sx6 ((sx6 u).set (uaI l (sx6 u) x.a).toNat true)=ucU l u x)/\((n+1:Int)=cnt (ucU l u x))))))
theorem vcn_cmCell (l:List GAtom) (u:List Bool) (n:Int) (x:GAtom) (v:Value) (k:Nat) (hp:l.length<=6/\u.length=6/\n=cnt u):VC_cmCell l u n x v k:=by
 unfold VC_cmCell VC_cmCell_1
 simp only [cln,Nat.reduceEqDiff,Nat.reduceLeDiff,Nat.reduceAdd]
 obtain ⟨hl,hu,hn⟩:=hp
 subst hn
 have h6:=sx6_eta hu
 simp only [h6,atom_beq]
 all_goals (try simp only [opn])
 all_goals (repeat' (first | apply And.intro | intro _))
 all_goals (repeat (cases ‹_/\_›))
 all_goals (first | omega | rfl | assumption | (simp_all;done) | skip)
 all_goals (first
  | exact (uc_no (uc_no1 ‹_›)).1.symm | exact (uc_no (uc_no1 ‹_›)).2.1.symm | exact (uc_no (uc_no1 ‹_›)).2.2.symm
  | exact (uc_no (uc_no2 ‹_› ‹_›)).1.symm | exact (uc_no (uc_no2 ‹_› ‹_›)).2.1.symm | exact (uc_no (uc_no2 ‹_› ‹_›)).2.2.symm
  | (rw [(uc_no (uc_no1 ‹_›)).2.2];done) | (rw [(uc_no (uc_no2 ‹_› ‹_›)).2.2];done)
  | exact (uc_yes ‹_› ‹_›).1.symm | exact (uc_yes ‹_› ‹_›).2.1.symm
  | (rw [sx6_eta (by rw [List.length_set];exact hu)];exact (uc_yes ‹_› ‹_›).2.2.symm)
  | (have h:=uaB_bd hl ‹_›;first | omega | exact h.2.2.2)
  | (rw [(uc_yes ‹_› ‹_›).2.2,cnt_set (by have h:=uaB_bd hl ‹_›;omega) (uaB_bd hl ‹_›).2.2.2];done)
  | skip)
theorem ptok_cmCell:PTOk Try.prog E 137 pt_cmCell :=
 blk_ok (c:=m_cmCell) (fn:=Try.f137) (l:=L_cmCell) (lp:=P_cmCell) (hp:=hp_cmCell) (perm:=fun _=>[]) tabOk mix trivial ⟨ptok_cmUnused,ptok_cmTake,trivial⟩ Try.func137 rfl (by kernel_rfl) rfl (show m_cmCell.k2.length+1<=Try.f137.ntmps by decide) (by kernel_rfl) (anns:=fun l u n y v=>fun _ _=>none) (fun l u n ⟨x,_⟩ v hp=>Eq.mp (by kernel_rfl) (vcn_cmCell l u n x v 0 hp))
abbrev c_beginsAt:Con:=⟨[.sl .atom,.int],[.bool],fun (l,c,_)=>l.length<=1048576,.inl fun (l,c,_)=>(bgn l c,()),fun _=>0⟩
abbrev L_beginsAt:List (FuncId × Con):=[]
abbrev P_beginsAt:List (FuncId × PT):=[]
def an_beginsAt (l:List GAtom) (c:Int):Nat->St->Option Ann
 | 2,se=>some { α:=Nat,ok:=fun i=>i<=l.length/\bgn (l.take i) c=false,mu:=fun i=>l.length - i,i0:=fun _=>0,nx:=fun a _=>(fun i=>i+1) a,live:=[1,7,8],sets:=fun i=>[(9,sv (.int .i64 i))],mids:=[],blks:=fun i=>[],owns:=fun i=>[],rd:=fun r _=>r,base:=100000 }
 | _,_=>none
def VC_beginsAt_1 (c:Int) (l:List GAtom):Prop:=RL [.s (.c (.d (.val (.int .i64 c)))),.s (.c (.d (.arr .atom l))),.s (.c (.d (.val (.int .i64 ((l.length:Nat):Int)))))]
def VC_beginsAt (l:List GAtom) (c:Int) (k:Nat):Prop:=True/\True/\True/\True/\((0<=l.length/\bgn (l.take 0) c=false)/\TT/\(VC_beginsAt_1 c l)/\(([.s (.c (.d (.val (.int .i64 (0:Int)))))]:List S)=[.s (.c (.d (.val (.int .i64 ((0:Nat):Int)))))])/\(RM [])/\(RM [])/\True/\TT)/\(∀ i1:Nat,(i1<=l.length/\bgn (l.take i1) c=false)->True/\(vcIf (decide (((i1:Nat):Int) < ((l.length:Nat):Int))) ((0<=((i1:Nat):Int)/\((i1:Nat):Int) < ((l.length:Nat):Int))/\True/\(TN/\True)/\(TF/\TF)/\True/\True/\True/\True/\(vcIf (((l.getD i1 (⟨0,0,0⟩:GAtom)).a) == c) (True/\(((true,()):Bool × Unit)=(bgn l c,()))/\True/\True/\True/\True/\TF) ((inK .i64 (((i1:Nat):Int)+(1:Int)))/\True/\((i1+1)<=l.length/\bgn (l.take (i1+1)) c=false)/\(l.length - (i1+1) < l.length - i1)/\TT/\(VC_beginsAt_1 c l)/\(([.s (.c (.d (.val (.int .i64 (((i1:Nat):Int)+(1:Int))))))]:List S)=[.s (.c (.d (.val (.int .i64 (((i1+1):Nat):Int)))))])/\(RM [])/\(RM [])/\True/\TT))) (True/\(((false,()):Bool × Unit)=(bgn l c,()))/\True/\True/\True/\True/\TF)))
theorem vcn_beginsAt (l:List GAtom) (c:Int) (k:Nat) (hp:l.length<=1048576):VC_beginsAt l c k:=by
 unfold VC_beginsAt VC_beginsAt_1
 simp only [cln,Nat.reduceEqDiff,Nat.reduceLeDiff,Nat.reduceAdd]
 all_goals (try simp only [opn])
 all_goals (repeat' (first | apply And.intro | intro _))
 all_goals (repeat (cases ‹_/\_›))
 all_goals (first | omega | rfl | assumption | (simp_all;done) | skip)
 all_goals (first
  | exact (bgn_yes ‹_› ‹_›).symm
  | exact bgn_step ‹_› ‹_› ‹_›
  | exact (bgn_end ‹_› ‹_›).symm
  | skip)
theorem ok_beginsAt:FnOk Try.prog E 161 c_beginsAt :=
 fn_okQ (l:=L_beginsAt) (lp:=P_beginsAt) (hp:=fun _=>false) (gcs:=fun _=>none) (perm:=fun _=>[]) tabOk mix trivial trivial Try.func161 rfl (by kernel_rfl) (by decide) (by kernel_rfl) (anns:=fun x _=>an_beginsAt x.1 x.2.1) (fun ⟨l,c,_⟩ k hp _=>Eq.mp (by kernel_rfl) (vcn_beginsAt l c k hp)) tot_fn
abbrev m_cmChain:BCon:=⟨[.atom],[.sl .int,.bool],fun l u n (x,_)=>l.length<=6/\u.length=6/\n=cnt u,fun l u n (x,_)=>chU l u x,fun l u n (x,_)=>cnt (chU l u x),fun l u n (x,_)=>(chL l u x,chB l u x,())⟩
abbrev pt_cmChain:PT:=ptB m_cmChain
abbrev L_cmChain:List (FuncId × Con):=[(161,c_beginsAt)]
abbrev P_cmChain:List (FuncId × PT):=[(159,pt_cmUnused),(160,pt_cmTake)]
def an_cmChain (l:List GAtom) (u:List Bool) (n:Int) (x:GAtom) (v:Value):Nat->St->Option Ann
 | 4,se=>some { α:=List Bool × Int × List Int,ok:=fun p=>chI l u x p.1 p.2.1 p.2.2,mu:=fun p=>6 - p.2.2.length,i0:=fun st=>(usedAt st 7,intAt st 8,slAt .int st (.slot 7)),nx:=fun p st=>(usedAt st 7,intAt st 8,slAt .int st (.slot 7)),live:=[0,3,6],sets:=fun p=>[(8,sv (.int .i64 p.2.1))],mids:=[79],blks:=fun p=>[(7,.blk [.d (.fix .atom l v),.d (.val (.bool (p.1.getD 0 false))),.d (.val (.bool (p.1.getD 1 false))),.d (.val (.bool (p.1.getD 2 false))),.d (.val (.bool (p.1.getD 3 false))),.d (.val (.bool (p.1.getD 4 false))),.d (.val (.bool (p.1.getD 5 false))),.d (.val (.int .i64 (cnt p.1)))])],owns:=fun p=>[⟨8,.slot 7,.int,p.2.2⟩],rd:=fun r _=>r,base:=100000 }
 | _,_=>none
def hp_cmChain:Nat->Bool
 | 4=>true
 | 7=>true
 | _=>false
def VC_cmChain_1 (l:List GAtom) (u:List Bool) (x:GAtom):Prop:=chI l u x ((sx6 u),x.a,([]:List Int)).1 ((sx6 u),x.a,([]:List Int)).2.1 ((sx6 u),x.a,([]:List Int)).2.2
def VC_cmChain_2 (x:GAtom):Prop:=RM [some (.blk [.d (.val (.int .i64 x.kind)),.d (.val (.int .i64 x.a)),.d (.val (.int .i64 x.b))])]
def VC_cmChain_3 (x:GAtom) (u:List Bool) (l:List GAtom) (v:Value) (n:Int):Prop:=(([.s (.c (.d (.val (.int .i64 x.a))))]:List S)=[.s (.c (.d (.val (.int .i64 (((sx6 u),x.a,([]:List Int)).2.1:Int)))))])/\(VC_cmChain_2 x)/\(([some (.blk [.d (.fix .atom l v),.d (.val (.bool (u.getD 0 false))),.d (.val (.bool (u.getD 1 false))),.d (.val (.bool (u.getD 2 false))),.d (.val (.bool (u.getD 3 false))),.d (.val (.bool (u.getD 4 false))),.d (.val (.bool (u.getD 5 false))),.d (.val (.int .i64 n))])]:List (Option Res))=[some (.blk [.d (.fix .atom l v),.d (.val (.bool (((sx6 u),x.a,([]:List Int)).1.getD 0 false))),.d (.val (.bool (((sx6 u),x.a,([]:List Int)).1.getD 1 false))),.d (.val (.bool (((sx6 u),x.a,([]:List Int)).1.getD 2 false))),.d (.val (.bool (((sx6 u),x.a,([]:List Int)).1.getD 3 false))),.d (.val (.bool (((sx6 u),x.a,([]:List Int)).1.getD 4 false))),.d (.val (.bool (((sx6 u),x.a,([]:List Int)).1.getD 5 false))),.d (.val (.int .i64 (cnt ((sx6 u),x.a,([]:List Int)).1)))])])/\(((some ([]:List Int):Option (List Int))=some (((sx6 u),x.a,([]:List Int)).2.2))/\True)/\TT
def VC_cmChain_4 (l:List GAtom) (u:List Bool) (x:GAtom) (v:Value) (p1:List Bool × Int × List Int):Prop:=TN/\True/\(((([]:List Int),false,()):(List Int) × Bool × Unit)=(chL l u x,chB l u x,()))/\(True/\True)/\((TF/\TF)/\True)/\True/\(TF/\TF)/\((v:Value)=v)/\(sx6 p1.1=chU l u x)/\(((cnt p1.1):Int)=cnt (chU l u x))
def VC_cmChain_5 (l:List GAtom) (p1:List Bool × Int × List Int):Prop:=l.length<=6/\(sx6 p1.1).length=6/\(cnt p1.1)=cnt (sx6 p1.1)/\0<=(uaI l (sx6 p1.1) (p1.2.1:Int))/\(uaI l (sx6 p1.1) (p1.2.1:Int)) < 6/\(sx6 p1.1).getD (uaI l (sx6 p1.1) (p1.2.1:Int)).toNat false=false
def VC_cmChain_6 (p1:List Bool × Int × List Int) (l:List GAtom):Prop:=TN/\TF/\TF/\(p1.2.2.length+([(uaI l (sx6 p1.1) (p1.2.1:Int))]:List Int).length<=4294967296)
def VC_cmChain_7 (l:List GAtom) (p1:List Bool × Int × List Int):Prop:=0<=(uaI l (sx6 p1.1) (p1.2.1:Int))/\(uaI l (sx6 p1.1) (p1.2.1:Int)) < ((l.length:Nat):Int)
def VC_cmChain_8 (v:Value) (p1:List Bool × Int × List Int) (l:List GAtom) (u:List Bool) (x:GAtom):Prop:=(True/\True)/\((TF/\TF)/\True)/\True/\(TF/\TF)/\((v:Value)=v)/\(sx6 ((sx6 p1.1).set (uaI l (sx6 p1.1) (p1.2.1:Int)).toNat true)=chU l u x)/\(((cnt p1.1)+1:Int)=cnt (chU l u x))
def VC_cmChain_9 (p1:List Bool × Int × List Int) (l:List GAtom) (u:List Bool) (x:GAtom) (v:Value):Prop:=True/\True/\True/\(((p1.2.2 ++ ([(uaI l (sx6 p1.1) (p1.2.1:Int))]:List Int),true,()):(List Int) × Bool × Unit)=(chL l u x,chB l u x,()))/\(VC_cmChain_8 v p1 l u x)
def VC_cmChain_10 (l:List GAtom) (u:List Bool) (x:GAtom) (p1:List Bool × Int × List Int):Prop:=chI l u x ((sx6 ((sx6 p1.1).set (uaI l (sx6 p1.1) (p1.2.1:Int)).toNat true)),((l.getD (uaI l (sx6 p1.1) (p1.2.1:Int)).toNat (⟨0,0,0⟩:GAtom)).b),(p1.2.2 ++ ([(uaI l (sx6 p1.1) (p1.2.1:Int))]:List Int))).1 ((sx6 ((sx6 p1.1).set (uaI l (sx6 p1.1) (p1.2.1:Int)).toNat true)),((l.getD (uaI l (sx6 p1.1) (p1.2.1:Int)).toNat (⟨0,0,0⟩:GAtom)).b),(p1.2.2 ++ ([(uaI l (sx6 p1.1) (p1.2.1:Int))]:List Int))).2.1 ((sx6 ((sx6 p1.1).set (uaI l (sx6 p1.1) (p1.2.1:Int)).toNat true)),((l.getD (uaI l (sx6 p1.1) (p1.2.1:Int)).toNat (⟨0,0,0⟩:GAtom)).b),(p1.2.2 ++ ([(uaI l (sx6 p1.1) (p1.2.1:Int))]:List Int))).2.2
def VC_cmChain_11 (p1:List Bool × Int × List Int) (l:List GAtom):Prop:=6 - ((sx6 ((sx6 p1.1).set (uaI l (sx6 p1.1) (p1.2.1:Int)).toNat true)),((l.getD (uaI l (sx6 p1.1) (p1.2.1:Int)).toNat (⟨0,0,0⟩:GAtom)).b),(p1.2.2 ++ ([(uaI l (sx6 p1.1) (p1.2.1:Int))]:List Int))).2.2.length < 6 - p1.2.2.length
def VC_cmChain_12 (l:List GAtom) (p1:List Bool × Int × List Int) (x:GAtom) (v:Value):Prop:=((([.s (.c (.d (.val (.int .i64 ((l.getD (uaI l (sx6 p1.1) (p1.2.1:Int)).toNat (⟨0,0,0⟩:GAtom)).b)))))]:List S)=[.s (.c (.d (.val (.int .i64 (((sx6 ((sx6 p1.1).set (uaI l (sx6 p1.1) (p1.2.1:Int)).toNat true)),((l.getD (uaI l (sx6 p1.1) (p1.2.1:Int)).toNat (⟨0,0,0⟩:GAtom)).b),(p1.2.2 ++ ([(uaI l (sx6 p1.1) (p1.2.1:Int))]:List Int))).2.1:Int)))))])/\(VC_cmChain_2 x)/\(([some (.blk [.d (.fix .atom l v),.d (.val (.bool (((sx6 p1.1).set (uaI l (sx6 p1.1) (p1.2.1:Int)).toNat true).getD 0 false))),.d (.val (.bool (((sx6 p1.1).set (uaI l (sx6 p1.1) (p1.2.1:Int)).toNat true).getD 1 false))),.d (.val (.bool (((sx6 p1.1).set (uaI l (sx6 p1.1) (p1.2.1:Int)).toNat true).getD 2 false))),.d (.val (.bool (((sx6 p1.1).set (uaI l (sx6 p1.1) (p1.2.1:Int)).toNat true).getD 3 false))),.d (.val (.bool (((sx6 p1.1).set (uaI l (sx6 p1.1) (p1.2.1:Int)).toNat true).getD 4 false))),.d (.val (.bool (((sx6 p1.1).set (uaI l (sx6 p1.1) (p1.2.1:Int)).toNat true).getD 5 false))),.d (.val (.int .i64 ((cnt p1.1)+1)))])]:List (Option Res))=[some (.blk [.d (.fix .atom l v),.d (.val (.bool (((sx6 ((sx6 p1.1).set (uaI l (sx6 p1.1) (p1.2.1:Int)).toNat true)),((l.getD (uaI l (sx6 p1.1) (p1.2.1:Int)).toNat (⟨0,0,0⟩:GAtom)).b),(p1.2.2 ++ ([(uaI l (sx6 p1.1) (p1.2.1:Int))]:List Int))).1.getD 0 false))),.d (.val (.bool (((sx6 ((sx6 p1.1).set (uaI l (sx6 p1.1) (p1.2.1:Int)).toNat true)),((l.getD (uaI l (sx6 p1.1) (p1.2.1:Int)).toNat (⟨0,0,0⟩:GAtom)).b),(p1.2.2 ++ ([(uaI l (sx6 p1.1) (p1.2.1:Int))]:List Int))).1.getD 1 false))),.d (.val (.bool (((sx6 ((sx6 p1.1).set (uaI l (sx6 p1.1) (p1.2.1:Int)).toNat true)),((l.getD (uaI l (sx6 p1.1) (p1.2.1:Int)).toNat (⟨0,0,0⟩:GAtom)).b),(p1.2.2 ++ ([(uaI l (sx6 p1.1) (p1.2.1:Int))]:List Int))).1.getD 2 false))),.d (.val (.bool (((sx6 ((sx6 p1.1).set (uaI l (sx6 p1.1) (p1.2.1:Int)).toNat true)),((l.getD (uaI l (sx6 p1.1) (p1.2.1:Int)).toNat (⟨0,0,0⟩:GAtom)).b),(p1.2.2 ++ ([(uaI l (sx6 p1.1) (p1.2.1:Int))]:List Int))).1.getD 3 false))),.d (.val (.bool (((sx6 ((sx6 p1.1).set (uaI l (sx6 p1.1) (p1.2.1:Int)).toNat true)),((l.getD (uaI l (sx6 p1.1) (p1.2.1:Int)).toNat (⟨0,0,0⟩:GAtom)).b),(p1.2.2 ++ ([(uaI l (sx6 p1.1) (p1.2.1:Int))]:List Int))).1.getD 4 false))),.d (.val (.bool (((sx6 ((sx6 p1.1).set (uaI l (sx6 p1.1) (p1.2.1:Int)).toNat true)),((l.getD (uaI l (sx6 p1.1) (p1.2.1:Int)).toNat (⟨0,0,0⟩:GAtom)).b),(p1.2.2 ++ ([(uaI l (sx6 p1.1) (p1.2.1:Int))]:List Int))).1.getD 5 false))),.d (.val (.int .i64 (cnt ((sx6 ((sx6 p1.1).set (uaI l (sx6 p1.1) (p1.2.1:Int)).toNat true)),((l.getD (uaI l (sx6 p1.1) (p1.2.1:Int)).toNat (⟨0,0,0⟩:GAtom)).b),(p1.2.2 ++ ([(uaI l (sx6 p1.1) (p1.2.1:Int))]:List Int))).1)))])])/\(((some (p1.2.2 ++ ([(uaI l (sx6 p1.1) (p1.2.1:Int))]:List Int)):Option (List Int))=some (((sx6 ((sx6 p1.1).set (uaI l (sx6 p1.1) (p1.2.1:Int)).toNat true)),((l.getD (uaI l (sx6 p1.1) (p1.2.1:Int)).toNat (⟨0,0,0⟩:GAtom)).b),(p1.2.2 ++ ([(uaI l (sx6 p1.1) (p1.2.1:Int))]:List Int))).2.2))/\True)/\TT)
def VC_cmChain_13 (l:List GAtom) (p1:List Bool × Int × List Int) (x:GAtom) (v:Value):Prop:=(VC_cmChain_12 l p1 x v)
def VC_cmChain_14 (l:List GAtom) (u:List Bool) (x:GAtom) (p1:List Bool × Int × List Int) (v:Value):Prop:=True/\(VC_cmChain_10 l u x p1)/\(VC_cmChain_11 p1 l)/\TT/\(RL [.s (.c (.ptr 7 0)),.s (.c (.ptr 79 0)),.s (.c (.d (.val (.bool true))))])/\(VC_cmChain_13 l p1 x v)
def VC_cmChain_15 (l:List GAtom) (u:List Bool) (x:GAtom) (p2:List Bool × Int × List Int) (v:Value):Prop:=(VC_cmChain_10 l u x p2)/\(VC_cmChain_11 p2 l)/\TT/\(RL [.s (.c (.ptr 7 0)),.s (.c (.ptr 79 0)),.s (.c (.d (.val (.bool (bgn l x.b)))))])/\(VC_cmChain_13 l p2 x v)
def VC_cmChain (l:List GAtom) (u:List Bool) (n:Int) (x:GAtom) (v:Value) (k:Nat):Prop:=TN/\TN/\True/\True/\True/\True/\True/\(vcIf (x.b == (0:Int)) (True/\True/\TN/\True/\True/\True/\((VC_cmChain_1 l u x)/\TT/\(RL [.s (.c (.ptr 7 0)),.s (.c (.ptr 79 0)),.s (.c (.d (.val (.bool true))))])/\(VC_cmChain_3 x u l v n))/\(∀ p1:List Bool × Int × List Int,(chI l u x p1.1 p1.2.1 p1.2.2)->True/\True/\TF/\TF/\True/\True/\(l.length<=6/\(sx6 p1.1).length=6/\(cnt p1.1)=cnt (sx6 p1.1))/\True/\True/\True/\True/\True/\True/\True/\(vcIf (!(uaB l (sx6 p1.1) (p1.2.1:Int))) (VC_cmChain_4 l u x v p1) (True/\True/\TF/\TF/\True/\True/\(VC_cmChain_5 l p1)/\True/\True/\(TN/\True)/\(VC_cmChain_6 p1 l)/\True/\True/\True/\True/\True/\True/\(VC_cmChain_7 l p1)/\True/\True/\True/\True/\True/\True/\True/\(vcIf (((l.getD (uaI l (sx6 p1.1) (p1.2.1:Int)).toNat (⟨0,0,0⟩:GAtom)).b) == x.b) (VC_cmChain_9 p1 l u x v) (True/\True/\True/\True/\True/\(VC_cmChain_7 l p1)/\True/\True/\True/\True/\(vcIf (((l.getD (uaI l (sx6 p1.1) (p1.2.1:Int)).toNat (⟨0,0,0⟩:GAtom)).kind) == (2:Int)) (True/\True/\(VC_cmChain_14 l u x p1 v)) (VC_cmChain_14 l u x p1 v)))))))) (True/\True/\True/\True/\True/\True/\((l.length<=1048576)/\True/\True)/\True/\True/\TN/\True/\True/\True/\((VC_cmChain_1 l u x)/\TT/\(RL [.s (.c (.ptr 7 0)),.s (.c (.ptr 79 0)),.s (.c (.d (.val (.bool (bgn l x.b)))))])/\(VC_cmChain_3 x u l v n))/\(∀ p2:List Bool × Int × List Int,(chI l u x p2.1 p2.2.1 p2.2.2)->True/\True/\TF/\TF/\True/\True/\(l.length<=6/\(sx6 p2.1).length=6/\(cnt p2.1)=cnt (sx6 p2.1))/\True/\True/\True/\True/\True/\True/\True/\(vcIf (!(uaB l (sx6 p2.1) (p2.2.1:Int))) (VC_cmChain_4 l u x v p2) (True/\True/\TF/\TF/\True/\True/\(VC_cmChain_5 l p2)/\True/\True/\(TN/\True)/\(VC_cmChain_6 p2 l)/\True/\True/\True/\True/\True/\True/\(VC_cmChain_7 l p2)/\True/\True/\True/\True/\True/\True/\True/\(vcIf (((l.getD (uaI l (sx6 p2.1) (p2.2.1:Int)).toNat (⟨0,0,0⟩:GAtom)).b) == x.b) (VC_cmChain_9 p2 l u x v) (True/\True/\True/\True/\True/\(VC_cmChain_7 l p2)/\True/\True/\True/\True/\(vcIf (((l.getD (uaI l (sx6 p2.1) (p2.2.1:Int)).toNat (⟨0,0,0⟩:GAtom)).kind) == (2:Int)) (True/\True/\True/\(vcIf (!(bgn l x.b)) (TN/\True/\(((([]:List Int),false,()):(List Int) × Bool × Unit)=(chL l u x,chB l u x,()))/\(VC_cmChain_8 v p2 l u x)) (VC_cmChain_15 l u x p2 v))) (True/\(VC_cmChain_15 l u x p2 v))))))))))
theorem vcn_cmChain (l:List GAtom) (u:List Bool) (n:Int) (x:GAtom) (v:Value) (k:Nat) (hp:l.length<=6/\u.length=6/\n=cnt u):VC_cmChain l u n x v k:=by
 unfold VC_cmChain VC_cmChain_15 VC_cmChain_14 VC_cmChain_13 VC_cmChain_12 VC_cmChain_11 VC_cmChain_10 VC_cmChain_9 VC_cmChain_8 VC_cmChain_7 VC_cmChain_6 VC_cmChain_5 VC_cmChain_4 VC_cmChain_3 VC_cmChain_2 VC_cmChain_1
 simp only [cln,Nat.reduceEqDiff,Nat.reduceLeDiff,Nat.reduceAdd]
 obtain ⟨hl,hu,hn⟩:=hp
 subst hn
 have h6:=sx6_eta hu
 simp only [h6]
 all_goals (try simp only [opn])
 all_goals (repeat' (first | apply And.intro | intro _))
 all_goals (first | trivial | exact chI_zero hu | omega | skip)
 all_goals (try (have h7:=‹chI _ _ _ _ _ _›;have h8:=sx6_eta h7.len;simp only [h8] at *))
 all_goals (first | trivial | exact h7.len | skip)
 all_goals (try (have hb:=‹uaB _ _ _=true›;have h9:=ch_kit h7 hb hl))
 all_goals (try simp only [h9.2.2.2.2.2.1])
 all_goals (try have h12:=h9.2.2.2.2.2.2)
 all_goals (try have h13:=h9.2.2.2.1)
 all_goals (first
  | omega | assumption | rfl
  | exact (ch_no h7 ‹_›).1.symm | exact (ch_no h7 ‹_›).2.1.symm | exact (ch_no h7 ‹_›).2.2.symm | (rw [(ch_no h7 ‹_›).1];done)
  | exact (ch_end h7 hb hl ‹_›).1.symm | exact (ch_end h7 hb hl ‹_›).2.1.symm | exact (ch_end h7 hb hl ‹_›).2.2.symm
  | (rw [(ch_end h7 hb hl ‹_›).1];symm;assumption)
  | exact ch_go h7 hb hl ‹_› (.inr (cl1 ‹_›)) | exact ch_go h7 hb hl ‹_› (.inr (cl2 ‹_›)) | exact ch_go h7 hb hl ‹_› (.inl ‹_›)
  | (rw [List.length_append,List.length_singleton];omega)
  | exact (ch_open h7 hb hl ‹_› ‹_› (cl3 ‹_› ‹_›)).1.symm | exact (ch_open h7 hb hl ‹_› ‹_› (cl3 ‹_› ‹_›)).2.1.symm | exact (ch_open h7 hb hl ‹_› ‹_› (cl3 ‹_› ‹_›)).2.2.symm
  | (rw [(ch_open h7 hb hl ‹_› ‹_› (cl3 ‹_› ‹_›)).1];symm;assumption)
  | skip)
theorem ptok_cmChain:PTOk Try.prog E 138 pt_cmChain :=
 blk_ok (c:=m_cmChain) (fn:=Try.f138) (l:=L_cmChain) (lp:=P_cmChain) (hp:=hp_cmChain) (perm:=fun _=>[]) tabOk mix ⟨ok_beginsAt,trivial⟩ ⟨ptok_cmUnused,ptok_cmTake,trivial⟩ Try.func138 rfl (by kernel_rfl) rfl (show m_cmChain.k2.length+1<=Try.f138.ntmps by decide) (by kernel_rfl) (anns:=fun l u n y v=>an_cmChain l u n y.1 v) (fun l u n ⟨x,_⟩ v hp=>Eq.mp (by kernel_rfl) (vcn_cmChain l u n x v 0 hp))
end Go.Proofs.Ytopjgjelkpkmmaa
