/-
  Parts of a symbolic engine over the program's code: how operations, regions, loops and calls are shown to keep contracts. No conditions.
-/
import Derived.Test.YtkafaeeianofnaaEd
set_option linter.unusedSimpArgs false
set_option linter.unusedVariables false
set_option linter.unusedSectionVars false

namespace Go.SE
open Go.RowKit
def imA (v:Int->Int) (x:GAtom):GAtom:=⟨x.kind,v x.a,v x.b⟩
def fv (v:Int->Int) (l:List GAtom):List GAtom:=(filt v l).map (imA v)
structure Qv (a b:GAsn) (v:Int->Int):Prop where
 facts:∀ f ∈ b.facts,(v f.a == v f.b)=f.eq
 mt:MtS (v 0) (fv v a.atoms) (fv v b.atoms)
section
variable {a b c:GAsn} {v w:Int->Int} {l m:List GAtom}
theorem fL_fv {c:List Int}:fL c l=fv (cl c) l:=by
 unfold fL fv filt
 rw [List.filter_map]
 rfl
theorem fv_app:fv v (l ++ m)=fv v l ++ fv v m:=by unfold fv filt;rw [List.filter_append,List.map_append]
theorem fv_perm (h:l.Perm m):(fv v l).Perm (fv v m):=(h.filter _).map _
theorem fv_len:(fv v l).length<=l.length:=by unfold fv filt;rw [List.length_map];exact List.length_filter_le _ _
theorem atV_kind {x:GAtom} (h:atV x=true):x.kind ≠ 1->x.kind=2:=by
 unfold atV at h
 simp only [Bool.and_eq_true,Bool.or_eq_true,beq_iff_eq] at h
 intro h1
 rcases h.1.1 with h2 | h2
 ·exact (h1 h2).elim
 ·exact h2
theorem fv_kind (h:l.all atV=true):∀ x ∈ fv v l,x.kind ≠ 1->x.kind=2:=fun x hx=>by
 obtain ⟨y,hy,rfl⟩:=List.mem_map.1 hx
 exact atV_kind (x:=y) (List.all_eq_true.1 h y (List.mem_filter.1 hy).1)
theorem fv_pos (ha:a.atoms.all atV=true) (hv:possV a v):Pos (v 0) (fv v a.atoms):=by
 refine ⟨fun x hx=>?_,?_,fv_kind ha⟩
 ·obtain ⟨y,hy,rfl⟩:=List.mem_map.1 hx
  exact hv.nil y hy
 ·unfold fv
  rw [List.pairwise_map]
  exact hv.apart
theorem pos_poss (hf:∀ f ∈ b.facts,(v f.a == v f.b)=f.eq) (h:Pos (v 0) (fv v b.atoms)):possV b v:=by
 refine ⟨hf,fun x hx=>h.nz _ (List.mem_map_of_mem hx),?_⟩
 have:=h.ap
 unfold fv at this
 rw [List.pairwise_map] at this
 exact this
theorem Qv.poss (ha:a.atoms.all atV=true) (hb:b.atoms.all atV=true) (hv:possV a v) (h:Qv a b v):possV b v:=by
 obtain ⟨f,hf⟩:=h.mt
 exact pos_poss h.facts (hf.pos (fv_pos ha hv) (fv_kind hb))
theorem Qv.trans (ha:a.atoms.all atV=true) (hb:b.atoms.all atV=true) (hv:possV a v) (h1:Qv a b v) (h2:Qv b c v):Qv a c v :=
 ⟨h2.facts,mts_trans (fv_pos ha hv) (fv_kind hb) h1.mt h2.mt⟩
theorem Qv.congr (P:Int->Prop) (h:∀ s t,P s->P t->(v s == v t)=(w s == w t)) (h0:P 0) (hf:∀ f ∈ b.facts,P f.a/\P f.b) (ha:∀ x ∈ a.atoms,P x.a/\P x.b) (hb:∀ x ∈ b.atoms,P x.a/\P x.b) (hq:Qv a b v):Qv a b w:=by
 classical
 have heq:∀ s t,P s->P t->(v s=v t ↔ w s=w t):=fun s t hs ht=>by
  have:=h s t hs ht
  rw [Bool.eq_iff_iff,beq_iff_eq,beq_iff_eq] at this
  exact this
 let n:Int->Int:=fun x=>if h:∃ t,P t/\v t=x then w h.choose else 0
 have hn:∀ t,P t->n (v t)=w t:=fun t ht=>by
  have he:∃ t',P t'/\v t'=v t:=⟨t,ht,rfl⟩
  show (if h:∃ t',P t'/\v t'=v t then w h.choose else 0)=_
  rw [dif_pos he]
  exact (heq _ _ he.choose_spec.1 ht).1 he.choose_spec.2
 have hfv:∀ l:List GAtom,(∀ x ∈ l,P x.a/\P x.b)->fv w l=(fv v l).map fun x=>⟨x.kind,n x.a,n x.b⟩:=fun l hl=>by
  have ef:filt v l=filt w l:=List.filter_congr fun x hm=>by rw [h _ _ (hl x hm).1 (hl x hm).2]
  unfold fv
  rw [List.map_map,ef]
  refine List.map_congr_left fun x hx=>?_
  have hx':=hl x (List.mem_filter.1 hx).1
  show (⟨x.kind,w x.a,w x.b⟩:GAtom)=⟨x.kind,n (v x.a),n (v x.b)⟩
  rw [hn _ hx'.1,hn _ hx'.2]
 have hV:∀ l:List GAtom,(∀ x ∈ l,P x.a/\P x.b)->∀ x ∈ fv v l,(∃ t,P t/\v t=x.a)/\∃ t,P t/\v t=x.b:=fun l hl x hx=>by
  obtain ⟨y,hy,rfl⟩:=List.mem_map.1 hx
  have hy':=hl y (List.mem_filter.1 hy).1
  exact ⟨⟨y.a,hy'.1,rfl⟩,⟨y.b,hy'.2,rfl⟩⟩
 refine ⟨fun f hf'=>by rw [← h _ _ (hf f hf').1 (hf f hf').2];exact hq.facts f hf',?_⟩
 rw [hfv _ ha,hfv _ hb,← hn 0 h0]
 refine mts_map (φ:=fun x=>⟨x.kind,n x.a,n x.b⟩) (fun _=>rfl) (fun x=>∃ t,P t/\v t=x) ?_ (hV _ ha) (hV _ hb) ⟨0,h0,rfl⟩ hq.mt
 rintro s t ⟨s',hs,rfl⟩ ⟨t',ht,rfl⟩ e
 rw [hn _ hs,hn _ ht] at e
 exact (heq _ _ hs ht).2 e
theorem hz00 {q:Int->Bool}:hz a q 0=true:=rfl
theorem hzA_fact (ha:asV a=true) {q:Int->Bool} {k:Int} (h:occ a k=true):0<=k/\k<=8/\hz a q k.toNat=true:=by
 have ht:=occ_isT ha h
 have:=isT_iff.1 ht
 refine ⟨this.1,this.2,?_⟩
 unfold hz
 rw [show ((k.toNat:Nat):Int)=k by omega,ht,h]
 simp
theorem mc_iff (ha:asV a=true) {q:Int->Bool} {c:List Int} (hc:c ∈ casesB a (hz a q)):MC a b c=true ↔ Qv a b (cl c):=by
 have hn:=hz_named ha q
 rw [casesB_eq hn] at hc
 obtain ⟨h1,h2⟩:=List.mem_filter.1 hc
 have hp:=(possI_iff hn h1 hz00).1 h2
 have hA:=asV_facts ha
 have h0:=full_val h1 (k:=0) (by decide) (by decide) hz00
 have hz0:cl c 0=0:=by omega
 have hpos:=fv_pos hA.2.2.1 hp
 rw [hz0] at hpos
 unfold MC
 rw [Bool.and_eq_true,fL_fv,fL_fv,mcM_iff hpos (Nat.le_trans fv_len hA.2.2.2),List.all_eq_true]
 constructor
 ·rintro ⟨h3,h4⟩
  exact ⟨fun f hf=>by have:=h3 f hf;unfold fh at this;simpa using this,by rw [hz0];exact h4⟩
 ·rintro ⟨h3,h4⟩
  rw [hz0] at h4
  exact ⟨fun f hf=>by unfold fh;rw [h3 f hf];simp,h4⟩
theorem ent_iff:ENT a b=true ↔ asV a=true/\asV b=true/\∀ v,possV a v->Qv a b v:=by
 classical
 unfold ENT
 rw [Bool.and_eq_true,Bool.and_eq_true]
 refine and_congr_right fun ha=>and_congr_right fun hb=>?_
 have hP:∀ k,occ a k=true ∨ occ b k=true->0<=k/\k<=8/\hz a (occB b) k.toNat=true:=fun k hk=>hk.elim (fun h=>hzA_fact ha h) fun h=>hzB_has hb h
 have key:=cases_all (hz_named ha (occB b)) hz00 (fun v=>decide (Qv a b v)) fun v w h=>by
  have h':∀ s t:Int,(0<=s/\s<=8/\hz a (occB b) s.toNat=true)->(0<=t/\t<=8/\hz a (occB b) t.toNat=true)->(v s == v t)=(w s == w t):=fun s t hs ht=>h s t hs.1 hs.2.1 hs.2.2 ht.1 ht.2.1 ht.2.2
  have f1:∀ f ∈ b.facts,(0<=f.a/\f.a<=8/\hz a (occB b) f.a.toNat=true)/\(0<=f.b/\f.b<=8/\hz a (occB b) f.b.toNat=true):=fun f hf=>⟨hP _ (.inr (occ_fact hb hf).1),hP _ (.inr (occ_fact hb hf).2)⟩
  have f2:∀ x ∈ a.atoms,(0<=x.a/\x.a<=8/\hz a (occB b) x.a.toNat=true)/\(0<=x.b/\x.b<=8/\hz a (occB b) x.b.toNat=true):=fun f hf=>⟨hP _ (.inl (occ_atom ha hf).1),hP _ (.inl (occ_atom ha hf).2)⟩
  have f3:∀ x ∈ b.atoms,(0<=x.a/\x.a<=8/\hz a (occB b) x.a.toNat=true)/\(0<=x.b/\x.b<=8/\hz a (occB b) x.b.toNat=true):=fun f hf=>⟨hP _ (.inr (occ_atom hb hf).1),hP _ (.inr (occ_atom hb hf).2)⟩
  rw [decide_eq_decide]
  exact ⟨fun hq=>hq.congr _ h' ⟨by decide,by decide,hz00⟩ f1 f2 f3,fun hq=>hq.congr _ (fun s t hs ht=>(h' s t hs ht).symm) ⟨by decide,by decide,hz00⟩ f1 f2 f3⟩
 have e:((casesB a (hz a (occB b))).all fun c=>MC a b c)=((casesB a (hz a (occB b))).all fun d=>decide (Qv a b (cl d))):=by
  rw [Bool.eq_iff_iff,List.all_eq_true,List.all_eq_true]
  exact ⟨fun h c hc=>decide_eq_true ((mc_iff ha hc).1 (h c hc)),fun h c hc=>(mc_iff ha hc).2 (of_decide_eq_true (h c hc))⟩
 rw [e,key]
 exact ⟨fun h v hv=>of_decide_eq_true (h v hv),fun h v hv=>decide_eq_true (h v hv)⟩
theorem asV_at (h:asV a=true):a.atoms.all atV=true:=(asV_facts h).2.2.1
theorem ent_v2 (h:ENT a b=true):asV b=true:=(ent_iff.1 h).2.1
theorem qv_self (hf:∀ f ∈ b.facts,(v f.a == v f.b)=f.eq) (h:(fv v b.atoms).Perm (fv v a.atoms)):Qv a b v:=⟨hf,mts_self h⟩
theorem ent_same (ha:asV a=true) (hb:asV b=true) (hf:∀ v,possV a v->∀ f ∈ b.facts,(v f.a == v f.b)=f.eq) (hp:∀ v,possV a v->(fv v b.atoms).Perm (fv v a.atoms)):ENT a b=true :=
 ent_iff.2 ⟨ha,hb,fun v hv=>qv_self (hf v hv) (hp v hv)⟩
theorem ent_sub (ha:asV a=true) (hb:asV b=true) (hf:∀ f ∈ b.facts,f ∈ a.facts) (hp:b.atoms.Perm a.atoms):ENT a b=true :=
 ent_same ha hb (fun _ hv f h=>hv.facts f (hf f h)) fun _ _=>fv_perm hp
theorem ent_refl (ha:asV a=true):ENT a a=true:=ent_sub ha ha (fun _ h=>h) (.refl _)
theorem possV_star1 (h:possV (starA a c) v):possV a v:=by
 obtain ⟨h1,h2,h3⟩:=h
 unfold starA at h1 h2 h3
 simp only at h1 h2 h3
 have e:filt v (a.atoms ++ c.atoms)=filt v a.atoms ++ filt v c.atoms:=List.filter_append ..
 rw [e] at h2 h3
 exact ⟨fun f hf=>h1 f (by simp [hf]),fun x hx=>h2 x (by simp [hx]),(List.pairwise_append.1 h3).1⟩
theorem ent_frame (h:ENT a b=true) (h1:asV (starA a c)=true) (h2:asV (starA b c)=true):ENT (starA a c) (starA b c)=true:=by
 obtain ⟨ha,hb,h⟩:=ent_iff.1 h
 refine ent_iff.2 ⟨h1,h2,fun v hv=>?_⟩
 have hq:=h v (possV_star1 hv)
 have hp:=fv_pos (asV_at h1) hv
 have e1:(starA a c).atoms=a.atoms ++ c.atoms:=rfl
 have e2:(starA b c).atoms=b.atoms ++ c.atoms:=rfl
 refine ⟨fun f hf=>?_,?_⟩
 ·rcases List.mem_append.1 hf with hf | hf
  ·exact hq.facts f hf
  ·exact hv.facts f (List.mem_append.2 (.inr hf))
 ·rw [e1,fv_app] at hp ⊢
  rw [e2,fv_app]
  exact mts_frame hp hq.mt (mts_self (.refl _))
theorem ent_none (ha:asV a=true) (hb:asV b=true) (h:(casesF a).isEmpty=true):ENT a b=true :=
 ent_iff.2 ⟨ha,hb,fun v hv=>((cons_iff ha).1 h v hv).elim⟩
theorem ent_cons (h:ENT a b=true) (hb:(casesF b).isEmpty=true):(casesF a).isEmpty=true:=by
 obtain ⟨ha,hb',h⟩:=ent_iff.1 h
 refine (cons_iff ha).2 fun v hv=>?_
 exact (cons_iff hb').1 hb v ((h v hv).poss (asV_at ha) (asV_at hb') hv)
theorem ent_fact {f:GFact} (ha:asV a=true) (hb:asV ⟨b.facts ++ [f],b.atoms⟩=true) (hb':asV b=true) (hf:fV f=true):ENT a ⟨b.facts ++ [f],b.atoms⟩=(ENT a b && IMP a f):=by
 rw [Bool.eq_iff_iff,Bool.and_eq_true,ent_iff,ent_iff,imp_iff]
 constructor
 ·rintro ⟨_,_,h⟩
  exact ⟨⟨ha,hb',fun v hv=>⟨fun g hg=>(h v hv).facts g (List.mem_append.2 (.inl hg)),(h v hv).mt⟩⟩,ha,hf,fun v hv=>(h v hv).facts f (List.mem_append.2 (.inr (by simp)))⟩
 ·rintro ⟨⟨_,_,h⟩,_,_,h2⟩
  refine ⟨ha,hb,fun v hv=>⟨fun g hg=>?_,(h v hv).mt⟩⟩
  rcases List.mem_append.1 hg with hg | hg
  ·exact (h v hv).facts g hg
  ·rw [List.mem_singleton] at hg;rw [hg];exact h2 v hv
end
end Go.SE

namespace Go.SE
open Go.RowKit
inductive Sg (s:GState) (e:Int):Int->List Int->Prop
 | nil:Sg s e e []
 | step {q:Int} {ns:List Int}:al s q=true->Sg s e (ct s q) ns->Sg s e q (q :: ns)
def acV (s:GState) (x:GAtom):Option (List Int):=if x.kind=2 then walk s x.b 8 x.a else if ct s x.a=x.b then some [x.a] else none
def ftp (s:GState) (x:GAtom):List Int:=(acV s x).getD []
section
variable {s:GState} {q e m:Int} {ns ms:List Int} {a b:GAsn} {L G:List GAtom} {p:List GAtom} {f:GAtom->List GAtom} {g:GAtom}
theorem Sg.cat (h:Sg s m q ns) (h2:Sg s e m ms):Sg s e q (ns ++ ms):=by
 induction h with
 | nil=>exact h2
 | step h1 _ ih=>exact .step h1 ih
theorem Sg.al (h:Sg s e q ns):∀ n ∈ ns,al s n=true:=by
 induction h with
 | nil=>intro n hn;cases hn
 | step h1 _ ih =>
  intro n hn
  rcases List.mem_cons.1 hn with e | hn
  ·rw [e];exact h1
  ·exact ih n hn
theorem walk_sg:∀ (k:Nat) (q:Int) (ns:List Int),walk s e k q=some ns->Sg s e q ns/\e ∉ ns:=by
 intro k
 induction k with
 | zero =>
  intro q ns h
  simp only [walk] at h
  split at h
  ·rename_i hq;injection h with h;subst h;subst hq;exact ⟨.nil,by simp⟩
  ·cases h
 | succ k ih =>
  intro q ns h
  simp only [walk] at h
  split at h
  ·rename_i hq;injection h with h;subst h;subst hq;exact ⟨.nil,by simp⟩
  ·rename_i hq
   cases ha:al s q with
   | false=>rw [ha] at h;cases h
   | true =>
    rw [ha,cond_true] at h
    cases hw:walk s e k (ct s q) with
    | none=>rw [hw] at h;cases h
    | some ms =>
     rw [hw] at h
     injection h with h
     subst h
     obtain ⟨h1,h2⟩:=ih _ _ hw
     refine ⟨.step ha h1,fun hm=>?_⟩
     rcases List.mem_cons.1 hm with e1 | hm
     ·exact hq e1.symm
     ·exact h2 hm
theorem sg_walk (h:Sg s e q ns):∀ k:Nat,e ∉ ns->ns.length<=k->walk s e k q=some ns:=by
 induction h with
 | nil=>intro k _ _;cases k <;> simp [walk]
 | @step q ns h1 h2 ih =>
  intro k hn hk
  have hne:¬ q=e:=fun hq=>hn (by rw [hq];simp)
  cases k with
  | zero=>simp at hk
  | succ k =>
   simp only [walk]
   rw [if_neg hne,h1,cond_true,ih k (fun hm=>hn (by simp [hm])) (by simpa using hk)]
   rfl
theorem acO_V {x:GAtom}:acO s x=acV s (imA (tv s.vals) x):=rfl
theorem ac_ftp {x:GAtom} (h:(acV s x).isSome=true):acV s x=some (ftp s x):=by
 obtain ⟨c,hc⟩:=Option.isSome_iff_exists.1 h
 unfold ftp;rw [hc];rfl
theorem ftp_sg {x:GAtom} (h:(acV s x).isSome=true) (hb:0<=x.b):Sg s x.b x.a (ftp s x):=by
 have h:=ac_ftp h
 unfold acV at h
 by_cases hk:x.kind=2
 ·rw [if_pos hk] at h;exact (walk_sg _ _ _ h).1
 ·rw [if_neg hk] at h
  split at h
  ·rename_i hc
   injection h with h
   rw [← h]
   refine .step (by unfold Go.SE.al;rw [hc];exact decide_eq_true hb) ?_
   rw [hc];exact .nil
  ·cases h
theorem ftp_head {x:GAtom} (h:(acV s x).isSome=true) (hne:x.kind=2->x.a ≠ x.b):x.a ∈ ftp s x:=by
 have h:=ac_ftp h
 unfold acV at h
 by_cases hk:x.kind=2
 ·rw [if_pos hk] at h;exact (walk_al _ _ _ h).2 (hne hk)
 ·rw [if_neg hk] at h
  split at h
  ·injection h with h
   rw [← h];simp
  ·cases h
theorem Pth.first {L:List GAtom} {y q:Int} {p:List GAtom} (h:Pth L y q p) {x:GAtom} (hx:x ∈ p) (e:x.a=y):q=y:=by
 induction h with
 | last h1 h2=>rw [List.mem_singleton] at hx;rw [hx] at e;exact e
 | @step x0 p h1 h2 h3 ih =>
  rcases List.mem_cons.1 hx with e2 | hx
  ·rw [e2] at e;exact e
  ·exact (h2 (ih hx)).elim
structure Hp (s:GState) (L:List GAtom):Prop where
 pos:Pos 0 L
 ne:∀ x ∈ L,x.kind=2->x.a ≠ x.b
 vb:∀ x ∈ L,0<=x.b
 ac:∀ x ∈ L,(acV s x).isSome=true
 nd:(L.flatMap (ftp s)).Nodup
theorem Hp.own (h:Hp s L) {x x':GAtom} (hx:x ∈ L) (hx':x' ∈ L) {n:Int} (h1:n ∈ ftp s x) (h2:n ∈ ftp s x'):x=x':=by
 have hd:=h.nd
 unfold List.Nodup at hd
 rw [List.pairwise_flatMap] at hd
 have key:∀ {l:List GAtom},(l.Pairwise fun x x'=>∀ n ∈ ftp s x,∀ n' ∈ ftp s x',n ≠ n')->x ∈ l->x' ∈ l->x=x':=by
  intro l hl a1 a2
  induction l with
  | nil=>cases a1
  | cons a l ih =>
   rw [List.pairwise_cons] at hl
   rcases List.mem_cons.1 a1 with e1 | a3 <;> rcases List.mem_cons.1 a2 with e2 | a4
   ·rw [e1,e2]
   ·rw [e1] at h1;exact (hl.1 _ a4 n h1 n h2 rfl).elim
   ·rw [e2] at h2;exact (hl.1 _ a3 n h2 n h1 rfl).elim
   ·exact ih hl.2 a3 a4
 exact key hd.2 hx hx'
theorem al_le8 (hd:ns.Nodup) (h:∀ n ∈ ns,al s n=true):ns.length<=8:=by
 have hp:ns.Perm (addrs.filter fun n=>decide (n ∈ ns)):=by
  rw [List.perm_ext_iff_of_nodup hd (List.Nodup.sublist List.filter_sublist (by decide))]
  intro n
  rw [List.mem_filter,decide_eq_true_eq]
  refine ⟨fun hn=>⟨?_,hn⟩,fun hn=>hn.2⟩
  have:=al_range (h n hn)
  have:n=1 ∨ n=2 ∨ n=3 ∨ n=4 ∨ n=5 ∨ n=6 ∨ n=7 ∨ n=8:=by omega
  unfold addrs
  simpa using this
 rw [hp.length_eq]
 exact List.length_filter_le _ _
theorem pth_sg (h:Hp s L) {y:Int} (hp:Pth L y q p):Sg s y q (p.flatMap (ftp s)):=by
 induction hp with
 | @last x h1 e =>
  have:=ftp_sg (h.ac x h1) (h.vb x h1)
  rw [e] at this
  simpa using this
 | @step x p h1 e h3 ih =>
  rw [List.flatMap_cons]
  exact (ftp_sg (h.ac x h1) (h.vb x h1)).cat ih
theorem pth_end (h:Hp s L) {y:Int} (hp:Pth L y q p) (hq:q ≠ y) (ho:Opn 0 L y p):y ∉ p.flatMap (ftp s):=by
 intro hm
 obtain ⟨x,hx,hy⟩:=List.mem_flatMap.1 hm
 have hxL:=hp.sub x hx
 rcases ho with ho | ⟨x',hx',e⟩ | ho
 ·have:=al_range ((ftp_sg (h.ac x hxL) (h.vb x hxL)).al y hy)
  omega
 ·have h1:=ftp_head (h.ac x' hx') (h.ne x' hx')
  rw [e] at h1
  have:=h.own hxL hx' hy h1
  subst this
  exact hq (hp.first hx e)
 ·have hac:=ac_ftp (h.ac x hxL)
  unfold acV at hac
  by_cases hk:x.kind=2
  ·rw [if_pos hk] at hac
   by_cases hb:x.b=y
   ·rw [hb] at hac;exact (walk_sg _ _ _ hac).2 hy
   ·exact ho x (hp.inner hx hb) hk
  ·rw [if_neg hk] at hac
   split at hac
   ·injection hac with hac
    rw [← hac,List.mem_singleton] at hy
    exact hq (hp.first hx hy.symm)
   ·cases hac
theorem flatMap_sub (h:Hp s L) (hp:Pth L e q p) (hd:(p.flatMap (ftp s)).Nodup):(p.flatMap (ftp s)).length<=8:=al_le8 hd (pth_sg h hp).al
theorem match_ac (h:Hp s L) (hf:MtF 0 L G f) (hne:∀ g ∈ G,g.kind=2->g.a ≠ g.b) (hk:∀ g ∈ G,g.kind ≠ 1->g.kind=2):∀ g ∈ G,acV s g=some ((f g).flatMap (ftp s)):=by
 intro g hg
 have hnd:((G.flatMap f).flatMap (ftp s)).Nodup:=((hf.all.flatMap_right (ftp s)).nodup_iff).2 h.nd
 rw [List.flatMap_assoc] at hnd
 unfold List.Nodup at hnd
 rw [List.pairwise_flatMap] at hnd
 have hd:=hnd.1 g hg
 rcases hf.ok g hg with ⟨k1,m1,e1⟩ | ⟨k1,p1,o1⟩
 ·rw [e1,ac_ftp (h.ac g m1)]
  simp
 ·have k2:=hk g hg k1
  have hq:=hne g hg k2
  unfold acV
  rw [if_pos k2]
  exact sg_walk (pth_sg h p1) 8 (pth_end h p1 hq o1) (flatMap_sub h p1 hd)
theorem match_hp (h:Hp s L) (hf:MtF 0 L G f) (hne:∀ g ∈ G,g.kind=2->g.a ≠ g.b) (hk:∀ g ∈ G,g.kind ≠ 1->g.kind=2):(∀ g ∈ G,(acV s g).isSome=true)/\(G.flatMap (ftp s)).Perm (L.flatMap (ftp s)):=by
 have ha:=match_ac h hf hne hk
 refine ⟨fun g hg=>by rw [ha g hg];rfl,?_⟩
 have e:G.flatMap (ftp s)=(G.flatMap f).flatMap (ftp s):=by
  rw [List.flatMap_assoc,List.flatMap_def,List.flatMap_def]
  congr 1
  refine List.map_congr_left fun g hg=>?_
  unfold ftp
  rw [show acV s g=_ from ha g hg]
  rfl
 rw [e]
 exact hf.all.flatMap_right _
theorem ptO_iff:∀ (l:List GAtom) (M N:List Int),M.Nodup->(ptO s M l=some N ↔ (∀ x ∈ l,(acO s x).isSome=true)/\N=M ++ l.flatMap (fun x=>ftp s (imA (tv s.vals) x))/\N.Nodup):=by
 intro l
 induction l with
 | nil =>
  intro M N hM
  simp only [ptO,List.not_mem_nil,false_imp_iff,implies_true,true_and,List.flatMap_nil,List.append_nil]
  exact ⟨fun h=>by injection h with h;rw [← h];exact ⟨rfl,hM⟩,fun h=>by rw [h.1]⟩
 | cons x l ih =>
  intro M N hM
  simp only [ptO]
  cases hx:acO s x with
  | none =>
   simp only [reduceCtorEq,false_iff,not_and]
   intro h
   have:=h x (by simp)
   rw [hx] at this;cases this
  | some c =>
   have hc:ftp s (imA (tv s.vals) x)=c:=by unfold ftp;rw [← acO_V,hx];rfl
   rw [List.flatMap_cons,hc,← List.append_assoc]
   simp only
   have hcon:(c.all (fun n=>!M.contains n) && decide c.Nodup)=true ↔ (M ++ c).Nodup:=by
    rw [Bool.and_eq_true,decide_eq_true_eq,List.nodup_append,List.all_eq_true]
    constructor
    ·rintro ⟨h1,h2⟩
     refine ⟨hM,h2,fun n hn n' hn' e=>?_⟩
     have:=h1 n' hn'
     rw [Bool.not_eq_true',con_no] at this
     exact this (by rw [← e];exact hn)
    ·rintro ⟨_,h2,h3⟩
     refine ⟨fun n hn=>?_,h2⟩
     rw [Bool.not_eq_true',con_no]
     exact fun hm=>h3 n hm n hn rfl
   cases hb:(c.all (fun n=>!M.contains n) && decide c.Nodup) with
   | false =>
    simp only [cond_false,reduceCtorEq,false_iff,not_and]
    rintro _ rfl hnd
    have:=(List.nodup_append.1 hnd).1
    rw [← hcon,hb] at this
    cases this
   | true =>
    rw [cond_true,ih (M ++ c) N (hcon.1 hb)]
    refine and_congr_left fun _=>?_
    constructor
    ·intro h y hy
     rcases List.mem_cons.1 hy with e | hy
     ·rw [e,hx];rfl
     ·exact h y hy
    ·intro h y hy;exact h y (by simp [hy])
theorem flat_filt:∀ (l:List GAtom),l.all atV=true->l.flatMap (fun x=>ftp s (imA (tv s.vals) x))=(fv (tv s.vals) l).flatMap (ftp s):=by
 intro l
 induction l with
 | nil=>intro _;rfl
 | cons x l ih =>
  intro h
  rw [List.all_cons,Bool.and_eq_true] at h
  have ih:=ih h.2
  unfold fv filt at ih ⊢
  rw [List.flatMap_cons,ih,List.filter_cons]
  split
  ·rw [List.map_cons,List.flatMap_cons]
  ·rename_i hn
   have hk:=atV_kind h.1
   simp only [Bool.or_eq_true,beq_iff_eq,Bool.not_eq_true',beq_eq_false_iff_ne,ne_eq,not_or,Decidable.not_not] at hn
   have e:ftp s (imA (tv s.vals) x)=[]:=by
    unfold ftp acV
    rw [if_pos (show (imA (tv s.vals) x).kind=2 from hk hn.1)]
    show (walk s (tv s.vals x.b) 8 (tv s.vals x.a)).getD []=[]
    rw [hn.2,walk_same];rfl
   rw [e];rfl
theorem hol_iff (hs:stV s=true) (ha:asV a=true):HOL s a=true ↔ (∀ f ∈ a.facts,(tv s.vals f.a == tv s.vals f.b)=f.eq)/\(∀ x ∈ fv (tv s.vals) a.atoms,(acV s x).isSome=true)/\((fv (tv s.vals) a.atoms).flatMap (ftp s)).Nodup /\
  ∀ n ∈ addrs,(n ∈ (fv (tv s.vals) a.atoms).flatMap (ftp s) ↔ al s n=true):=by
 have hA:=asV_at ha
 unfold HOL
 rw [hs,ha,Bool.true_and,Bool.true_and,Bool.and_eq_true]
 refine and_congr ?_ ?_
 ·unfold fctB
  rw [List.all_eq_true]
  exact ⟨fun h f hf=>by simpa using h f hf,fun h f hf=>by simpa using h f hf⟩
 ·have key:=ptO_iff (s:=s) a.atoms []
  have hsome:(∀ x ∈ a.atoms,(acO s x).isSome=true) ↔ ∀ x ∈ fv (tv s.vals) a.atoms,(acV s x).isSome=true:=by
   constructor
   ·intro h x hx
    obtain ⟨y,hy,rfl⟩:=List.mem_map.1 hx
    rw [← acO_V];exact h y (List.mem_filter.1 hy).1
   ·intro h x hx
    by_cases hf:(x.kind == 1 || !(tv s.vals x.a == tv s.vals x.b))=true
    ·rw [acO_V];exact h _ (List.mem_map_of_mem (List.mem_filter.2 ⟨hx,hf⟩))
    ·have hk:=atV_kind (List.all_eq_true.1 hA x hx)
     simp only [Bool.or_eq_true,beq_iff_eq,Bool.not_eq_true',beq_eq_false_iff_ne,ne_eq,not_or,Decidable.not_not] at hf
     unfold acO
     rw [if_pos (hk hf.1),hf.2,walk_same];rfl
  have hall:∀ N:List Int,(addrs.all fun n=>N.contains n == al s n)=true ↔ ∀ n ∈ addrs,(n ∈ N ↔ al s n=true):=fun N=>by
   rw [List.all_eq_true]
   refine forall_congr' fun n=>forall_congr' fun _=>?_
   rw [beq_iff_eq,Bool.eq_iff_iff,List.contains_iff_mem]
  constructor
  ·intro h
   cases hp:ptO s [] a.atoms with
   | none=>rw [hp] at h;cases h
   | some N =>
    rw [hp] at h
    obtain ⟨h1,h2,h3⟩:=(key N List.nodup_nil).1 hp
    rw [List.nil_append,flat_filt _ hA] at h2
    rw [h2] at h3 h
    exact ⟨hsome.1 h1,h3,(hall _).1 h⟩
  ·rintro ⟨h1,h2,h3⟩
   rw [(key ((fv (tv s.vals) a.atoms).flatMap (ftp s)) List.nodup_nil).2 ⟨hsome.2 h1,by rw [List.nil_append,flat_filt _ hA],h2⟩]
   exact (hall _).2 h3
theorem fv_ne {v:Int->Int} {l:List GAtom} (hl:l.all atV=true):∀ x ∈ fv v l,x.kind=2->x.a ≠ x.b:=fun x hx hk=>by
 obtain ⟨y,hy,rfl⟩:=List.mem_map.1 hx
 have:=(List.mem_filter.1 hy).2
 have hk:y.kind=2:=hk
 rw [hk] at this
 simpa [imA] using this
theorem ent_hol (h:ENT a b=true) (hh:HOL s a=true):HOL s b=true:=by
 obtain ⟨ha,hb,hq⟩:=ent_iff.1 h
 obtain ⟨hs,_,hv⟩:=hol_poss hh
 have hq:=hq _ hv
 obtain ⟨h1,h2,h3,h4⟩:=(hol_iff hs ha).1 hh
 have h0:tv s.vals 0=0:=rfl
 have hpos:=fv_pos (asV_at ha) hv
 have hmt:=hq.mt
 rw [h0] at hpos hmt
 obtain ⟨f,hf⟩:=hmt
 have hH:Hp s (fv (tv s.vals) a.atoms):=⟨hpos,fv_ne (asV_at ha),fun x hx=>by
  obtain ⟨y,hy,rfl⟩:=List.mem_map.1 hx
  exact (tv_isT hs (atV_isT (List.all_eq_true.1 (asV_at ha) y (List.mem_filter.1 hy).1)).2).1,h2,h3⟩
 obtain ⟨g1,g2⟩:=match_hp hH hf (fv_ne (asV_at hb)) (fv_kind (asV_at hb))
 exact (hol_iff hs hb).2 ⟨hq.facts,g1,(g2.nodup_iff).2 h3,fun n hn=>by rw [g2.mem_iff];exact h4 n hn⟩
end
end Go.SE

namespace Go.SE
open Go.RowKit
def woF (l:List GAtom) (i k:Int) (n:Nat):List GAtom:=((List.range n).filter fun (j:Nat)=>!((j:Int) == i) && !((j:Int) == k)).map fun j=>l.getD j nA
def foldA (a:GAsn) (i k:Nat):GAsn:=⟨a.facts,⟨2,(a.atoms.getD i nA).a,(a.atoms.getD k nA).b⟩ :: woF a.atoms i k a.atoms.length⟩
def fcOk (a:GAsn) (i k:Nat):Bool:=!(i == k) && (((a.atoms.getD i nA).b == (a.atoms.getD k nA).a) && ENT a (foldA a i k))
def fcR (a:GAsn) (i:Nat):Option Nat:=(List.range a.atoms.length).find? (fcOk a i)
def fcI (a:GAsn):Option Nat:=(List.range a.atoms.length).find? fun i=>(fcR a i).isSome
def fcO (a:GAsn):Option GAsn:=cond (asV a) ((fcI a).bind fun i=>(fcR a i).map fun k=>foldA a i k) none
def fcL (a:GAsn):GAsn:=(fcO a).getD ⟨[],[]⟩
def fcB (a:GAsn):Bool:=(fcO a).isSome
section
variable {a:GAsn} {l:List GAtom} {i k:Int} {n:Nat}
theorem fo_spec (h:fcB a=true):∃ i k:Nat,i < a.atoms.length/\k < a.atoms.length/\i ≠ k/\fcL a=foldA a i k/\ENT a (foldA a i k)=true:=by
 unfold fcB at h
 obtain ⟨b,hb⟩:=Option.isSome_iff_exists.1 h
 have hb':=hb
 unfold fcO at hb
 cases ha:asV a with
 | false=>rw [ha] at hb;cases hb
 | true =>
  rw [ha,cond_true] at hb
  cases hI:fcI a with
  | none=>rw [hI] at hb;cases hb
  | some i =>
   rw [hI] at hb
   have hb:(fcR a i).map (fun k=>foldA a i k)=some b:=hb
   cases hR:fcR a i with
   | none=>rw [hR] at hb;cases hb
   | some k =>
    rw [hR] at hb
    injection hb with hb
    unfold fcR at hR
    obtain ⟨h1,h2,_⟩:=List.find?_range_eq_some.1 hR
    unfold fcI at hI
    obtain ⟨_,h4,_⟩:=List.find?_range_eq_some.1 hI
    unfold fcOk at h1
    simp only [Bool.and_eq_true,Bool.not_eq_true',beq_eq_false_iff_ne,ne_eq] at h1
    refine ⟨i,k,List.mem_range.1 h4,List.mem_range.1 h2,h1.1,?_,h1.2.2⟩
    unfold fcL
    rw [hb',← hb]
    rfl
theorem filter_two:∀ (n i k:Nat),i < n->k < n->i ≠ k->((List.range n).filter fun (j:Nat)=>!((j:Int) == (i:Int)) && !((j:Int) == (k:Int))).length=n - 2:=by
 intro n i k hi hk hne
 have h1:∀ (n i:Nat),((List.range n).filter fun (j:Nat)=>!((j:Int) == (i:Int))).length=if i < n then n - 1 else n:=by
  intro n i
  induction n with
  | zero=>rfl
  | succ n ih =>
   rw [List.range_succ,List.filter_append,List.length_append,ih]
   by_cases e:n=i
   ·subst e;simp
   ·have:¬ (n:Int)=(i:Int):=by omega
    simp only [List.filter_cons,beq_eq_false_iff_ne.2 this,Bool.not_false,if_true,List.filter_nil,List.length_cons,List.length_nil]
    split <;> split <;> omega
 have h2:∀ n:Nat,((List.range n).filter fun (j:Nat)=>!((j:Int) == (i:Int)) && !((j:Int) == (k:Int))).length=if i < n then (if k < n then n - 2 else n - 1) else (if k < n then n - 1 else n):=by
  intro n
  induction n with
  | zero=>rfl
  | succ n ih =>
   rw [List.range_succ,List.filter_append,List.length_append,ih]
   by_cases e:n=i
   ·subst e
    have:(k < n+1) ↔ k < n:=by omega
    simp only [this]
    simp
    all_goals (split <;> omega)
   ·have e':¬ (n:Int)=(i:Int):=by omega
    by_cases e2:n=k
    ·subst e2
     have:(i < n+1) ↔ i < n:=by omega
     simp only [this]
     simp
     all_goals (split <;> omega)
    ·have e2':¬ (n:Int)=(k:Int):=by omega
     simp only [List.filter_cons,beq_eq_false_iff_ne.2 e',beq_eq_false_iff_ne.2 e2',Bool.not_false,Bool.and_self,if_true,List.filter_nil,List.length_cons,List.length_nil]
     split <;> split <;> split <;> split <;> omega
 rw [h2,if_pos hi,if_pos hk]
theorem fo_len (h:fcB a=true):(fcL a).atoms.length=a.atoms.length - 1:=by
 obtain ⟨i,k,h1,h2,h3,h4,_⟩:=fo_spec h
 rw [h4]
 unfold foldA woF
 simp only [List.length_cons,List.length_map]
 rw [filter_two _ _ _ h1 h2 h3]
 omega
theorem fcL_len:(fcL a).facts.length<=a.facts.length/\(fcL a).atoms.length<=a.atoms.length:=by
 cases h:fcB a with
 | true =>
  obtain ⟨i,k,h1,h2,h3,h4,_⟩:=fo_spec h
  have:=fo_len h
  have e:(fcL a).facts=a.facts:=by rw [h4];rfl
  exact ⟨by rw [e];exact Nat.le_refl _,by omega⟩
 | false =>
  unfold fcB at h
  have:fcO a=none:=by simpa using h
  unfold fcL
  rw [this]
  exact ⟨Nat.zero_le _,Nat.zero_le _⟩
end
end Go.SE

namespace Go.SE
open Go.RowKit
section
variable {a b c:GAsn} {s:GState} {f:GFact} {x y:Int}
theorem stL_of (h:starOk a b=true):starL a b=starA a b/\asV (starA a b)=true/\asV a=true/\asV b=true:=by
 have h':=h
 unfold starOk at h'
 simp only [Bool.and_eq_true] at h'
 unfold starL
 rw [h]
 exact ⟨rfl,h'.2,h'.1.1,h'.1.2⟩
theorem en_cons (h2:ENT a b=true) (h1:(asV a && !(casesF a).isEmpty)=true) (h3:(asV b && !(casesF b).isEmpty)=false):False:=by
 have hb:=ent_v2 h2
 rw [hb,Bool.true_and,Bool.not_eq_false'] at h3
 have:=ent_cons h2 h3
 rw [this] at h1
 simp at h1
theorem en_none (h2:ENT a b=false) (h1:(asV a && !(casesF a).isEmpty)=false) (ha:asV a=true) (hb:asV b=true):False:=by
 rw [ha,Bool.true_and,Bool.not_eq_false'] at h1
 rw [ent_none ha hb h1] at h2
 cases h2
theorem en_star (h:ENT a b=true) (h1:starOk a c=true) (h2:starOk b c=true):ENT (starL a c) (starL b c)=true:=by
 rw [(stL_of h1).1,(stL_of h2).1]
 exact ent_frame h (stL_of h1).2.1 (stL_of h2).2.1
theorem starL_bdF (h1:a.facts.length<=100) (h2:b.facts.length<=100):(starL a b).facts.length<=200:=Nat.le_trans (starL_lenF _ _) (by omega)
theorem starL_bdA (h1:a.atoms.length<=100) (h2:b.atoms.length<=100):(starL a b).atoms.length<=200:=Nat.le_trans (starL_lenA _ _) (by omega)
theorem starL_one (h1:a.facts.length<=100):(starL a ⟨[f],[]⟩).facts.length<=200:=starL_bdF h1 (by show 1<=100;omega)
theorem starL_oneA (h1:a.atoms.length<=100):(starL a ⟨[f],[]⟩).atoms.length<=200:=starL_bdA h1 (by show 0<=100;omega)
theorem en_fact (h:starOk b ⟨[f],[]⟩=true) (ha:asV a=true):ENT a (starL b ⟨[f],[]⟩)=(ENT a b && IMP a f):=by
 obtain ⟨h1,h2,h3,h4⟩:=st1_of h
 rw [h4]
 exact ent_fact ha h3 h1 h2
theorem en_fact1 (h:starOk b ⟨[f],[]⟩=true) (ha:asV a=true) (he:ENT a b=true):ENT a (starL b ⟨[f],[]⟩)=IMP a f:=by rw [en_fact h ha,he,Bool.true_and]
theorem en_fact0 (h:starOk b ⟨[f],[]⟩=true) (ha:asV a=true) (he:ENT a b=false):ENT a (starL b ⟨[f],[]⟩)=false:=by rw [en_fact h ha,he,Bool.false_and]
theorem v_rT {v:Int->Int} {u:Int} (e:v x=v y):v (rT u x y)=v u:=by
 unfold rT
 split
 ·rename_i h;rw [← e,h]
 ·rfl
theorem fv_sub {v:Int->Int} (e:v x=v y) (l:List GAtom):fv v (l.map (sA x y))=fv v l:=by
 unfold fv filt
 rw [List.filter_map,List.map_map]
 have e1:((fun z:GAtom=>z.kind == 1 || !(v z.a == v z.b)) ∘ sA x y)=fun z=>z.kind == 1 || !(v z.a == v z.b):=by
  funext z
  show (z.kind == 1 || !(v (rT z.a x y) == v (rT z.b x y)))=_
  rw [v_rT e,v_rT e]
 rw [e1]
 refine List.map_congr_left fun z _=>?_
 show (⟨z.kind,v (rT z.a x y),v (rT z.b x y)⟩:GAtom)=⟨z.kind,v z.a,v z.b⟩
 rw [v_rT e,v_rT e]
theorem en_sub (hi:IMP a ⟨true,x,y⟩=true) (h1:subOk a x y=true) (h2:starOk (subL a x y) ⟨[⟨true,x,y⟩],[]⟩=true) :
  (ENT a (starL (subL a x y) ⟨[⟨true,x,y⟩],[]⟩) && ENT (starL (subL a x y) ⟨[⟨true,x,y⟩],[]⟩) a)=true:=by
 obtain ⟨g1,g2,g3,g4⟩:=st1_of h2
 obtain ⟨ha,_,hv⟩:=imp_iff.1 hi
 have hs:subL a x y=subA a x y:=by unfold subL;rw [h1];rfl
 rw [g4]
 rw [hs] at g3 ⊢
 have hat:∀ v:Int->Int,v x=v y->fv v (subA a x y).atoms=fv v a.atoms:=fun v e=>fv_sub e a.atoms
 have hfc:∀ v:Int->Int,v x=v y->∀ f:GFact,(v (sF x y f).a == v (sF x y f).b)=(v f.a == v f.b):=fun v e f=>by
  show (v (rT f.a x y) == v (rT f.b x y))=_
  rw [v_rT e,v_rT e]
 rw [Bool.and_eq_true]
 constructor
 ·refine ent_same ha g3 (fun v hp f hf=>?_) fun v hp=>?_
  ·have e:v x=v y:=by simpa using hv v hp
   rcases List.mem_append.1 hf with hf | hf
   ·obtain ⟨f',hf',rfl⟩:=List.mem_map.1 hf
    rw [hfc v e]
    exact hp.facts f' hf'
   ·rw [List.mem_singleton] at hf
    rw [hf]
    show (v x == v y)=true
    rw [e];simp
  ·have e:v x=v y:=by simpa using hv v hp
   show (fv v (subA a x y).atoms).Perm _
   rw [hat v e]
 ·refine ent_same g3 ha (fun v hp f hf=>?_) fun v hp=>?_
  ·have e:v x=v y:=by
    have:=hp.facts ⟨true,x,y⟩ (List.mem_append.2 (.inr (by simp)))
    simpa using this
   have:=hp.facts (sF x y f) (List.mem_append.2 (.inl (List.mem_map_of_mem hf)))
   rw [hfc v e] at this
   exact this
  ·have e:v x=v y:=by
    have:=hp.facts ⟨true,x,y⟩ (List.mem_append.2 (.inr (by simp)))
    simpa using this
   show List.Perm _ (fv v (subA a x y).atoms)
   rw [hat v e]
theorem en_refl:ENT a a=asV a:=by
 cases h:asV a with
 | true=>exact ent_refl h
 | false=>unfold ENT;rw [h];rfl
theorem en_refl0 (h:asV a=true) (h2:ENT a a=false):False:=by rw [ent_refl h] at h2;cases h2
theorem rev_step {l:List GAtom} {i:Nat} (hi:0<=(l.length:Int) - 1 - (i:Int)):l.reverse.take i ++ [l.getD ((l.length:Int) - 1 - (i:Int)).toNat ⟨0,0,0⟩]=l.reverse.take (i+1):=by
 have h1:i < l.reverse.length:=by rw [List.length_reverse];omega
 rw [List.take_succ_eq_append_getElem h1]
 congr 2
 rw [List.getElem_reverse,List.getD_eq_getElem?_getD,List.getElem?_eq_getElem (by omega),Option.getD_some]
 congr 1
 omega
theorem rev_asV {i:Nat} (h:asV a=true) (hi:¬ 0<=(a.atoms.length:Int) - 1 - (i:Int)):(ENT a ⟨a.facts,a.atoms.reverse.take i⟩ && ENT ⟨a.facts,a.atoms.reverse.take i⟩ a)=true:=by
 have e:a.atoms.reverse.take i=a.atoms.reverse:=List.take_of_length_le (by rw [List.length_reverse];omega)
 rw [e]
 have hb:asV ⟨a.facts,a.atoms.reverse⟩=true:=by
  unfold asV at h ⊢
  rw [List.length_reverse,List.all_reverse]
  exact h
 rw [Bool.and_eq_true]
 exact ⟨ent_sub h hb (fun _ h=>h) (List.reverse_perm _),ent_sub hb h (fun _ h=>h) (List.reverse_perm _).symm⟩
theorem rev_no {i:Nat} (h:asV a=true) (hi:¬ 0<=(a.atoms.length:Int) - 1 - (i:Int)) (h2:(ENT a ⟨a.facts,a.atoms.reverse.take i⟩ && ENT ⟨a.facts,a.atoms.reverse.take i⟩ a)=false):False:=by
 rw [rev_asV h hi] at h2;cases h2
theorem rev_len {l:List GAtom} {i m:Nat} (h:l.length<=m):(l.reverse.take i).length<=m:=Nat.le_trans (List.length_take_le' ..) (by rw [List.length_reverse];exact h)
theorem en_nf (h:asV a=true):(ENT a (nfL a) && ENT (nfL a) a)=true:=by
 have e:nfL a=nf a:=by unfold nfL;rw [h];rfl
 have hv:=nf_val h
 rw [e,Bool.and_eq_true]
 have hfv:∀ v:Int->Int,fv v (nf a).atoms=fv v a.atoms:=fun v=>by
  unfold fv nf
  rw [nfA_filt]
 have hfc:∀ v:Int->Int,(∀ f ∈ (nf a).facts,(v f.a == v f.b)=f.eq) ↔ ∀ f ∈ a.facts,(v f.a == v f.b)=f.eq:=fun v=>by
  have:=nfF_v (v:=v) a.facts
  rw [Bool.eq_iff_iff,List.all_eq_true,List.all_eq_true] at this
  exact ⟨fun h f hf=>by have:=this.1 (fun f hf=>by simpa using h f hf) f hf;simpa using this,fun h f hf=>by have:=this.2 (fun f hf=>by simpa using h f hf) f hf;simpa using this⟩
 exact ⟨ent_same h hv (fun v hp=>(hfc v).2 hp.facts) fun v _=>by rw [hfv],ent_same hv h (fun v hp=>(hfc v).1 hp.facts) fun v _=>by rw [hfv]⟩
theorem sub1F (h1:a.facts.length<=100):(starL (subL a x y) ⟨[f],[]⟩).facts.length<=200:=starL_one (Nat.le_trans (subL_lenF _ _ _) h1)
theorem sub1A (h1:a.atoms.length<=100):(starL (subL a x y) ⟨[f],[]⟩).atoms.length<=200:=starL_oneA (Nat.le_trans (subL_lenA _ _ _) h1)
theorem subL200F (h1:a.facts.length<=100):(subL a x y).facts.length<=200:=Nat.le_trans (subL_lenF _ _ _) (by omega)
theorem subL200A (h1:a.atoms.length<=100):(subL a x y).atoms.length<=200:=Nat.le_trans (subL_lenA _ _ _) (by omega)
theorem nf200F (h1:a.facts.length<=100):(nfL a).facts.length<=200:=Nat.le_trans (nfL_len _).1 (by omega)
theorem nf200A (h1:a.atoms.length<=100):(nfL a).atoms.length<=200:=Nat.le_trans (nfL_len _).2 (by omega)
theorem md200V:(mdL a).vals.length<=200:=Nat.le_trans (mdL_len _).1 (by decide)
theorem md200H:(mdL a).heap.length<=200:=Nat.le_trans (mdL_len _).2 (by decide)
theorem rev200 {l:List GAtom} {i:Nat} (h:l.length<=100):(l.reverse.take i).length<=200:=rev_len (by omega)
theorem fc200F (h1:a.facts.length<=100):(fcL a).facts.length<=200:=Nat.le_trans fcL_len.1 (by omega)
theorem fc200A (h1:a.atoms.length<=100):(fcL a).atoms.length<=200:=Nat.le_trans fcL_len.2 (by omega)
theorem en_mdN (h:ENT a b=true) (h1:(asV a && !(casesF a).isEmpty)=true) (h2:HOL (mdL a) b=false):False:=by
 rw [ent_hol h (hol_mdL h1)] at h2;cases h2
end
end Go.SE

namespace Go.SE
open Go.RowKit
abbrev hn (a:GAsn):Nat->Bool:=hz a fun _=>false
end Go.SE

namespace Go.SE
open Go.RowKit
end Go.SE

namespace Go.SE
open Go.RowKit
end Go.SE
namespace Go.SE
end Go.SE
namespace Go.SE
end Go.SE
namespace Go.SE
end Go.SE
namespace Go.SE
end Go.SE

namespace Go.SE
open Go.RowKit
structure ClC where
 pre:Int->GAsn->GAsn->Prop
 acc:Int->GAsn->GAsn->Bool
def ClC.con (c:ClC):Con:=⟨[.int,.pasn,.pasn],[.bool],fun (m,a,b,_)=>c.pre m a b,.inl fun (m,a,b,_)=>(c.acc m a b,()),fun _=>0⟩
section
variable {P:Program} {E:Ty->TypeId} {w0:World} {M:MM} {n:Nat} {st:St} {w:World} {g:G}
theorem Good.same (hg:Good E w0 M g st w) (hcl:MCl st) {w':World} (hx:Ext (fun _=>False) w w'):Good E w0 M g st w':=by
 have hg0:Good E w0 M g { st with env:=fun _=>junk } w:=hg.env rfl rfl rfl rfl
 have hcl0:Cl { st with env:=fun _=>junk }:=⟨(fun x id hid=>by cases hid),hcl⟩
 have hm:∀ b,b < w.heap.size->w'.heap[b]?=w.heap[b]?:=fun b hb=>hx.block b hb fun h=>h
 have:=hg0.extend hcl0 (w':=w') (g':=g) [] (hg.ext.trans ⟨hx.os,hx.tape,hx.output,hx.size,fun b hb _=>hm b hb⟩) hm (fun _ _ h=>h) (fun _ _ h=>.inl h) (fun _ _=>⟨rfl,rfl⟩) rfl (fun p hp=>by cases hp) (fun _ _ hp=>by cases hp) (fun _ _ hp=>by cases hp) (fun _ _ _ _ hp=>by cases hp)
 exact this.env rfl rfl rfl rfl
end
end Go.SE
namespace Go.SE
open Go.RowKit
end Go.SE

namespace Go.SE
open Go.RowKit
end Go.SE
namespace Go.SE
end Go.SE
namespace Go.SE
end Go.SE

namespace Go.SE
open Go.RowKit
end Go.SE
namespace Go.SE
end Go.SE

namespace Go.SE
end Go.SE

namespace Go.SE
open Go.RowKit
def frP (s:GState) (n k:Int):Bool:=!al s k && !(k == n)
def rm (p:Int->Bool) (b:Bool):Nat->Int
 | 0=>0
 | i+1=>cond (p ((i:Int)+1) && (rm p b i == 0 || b)) ((i:Int)+1) (rm p b i)
def room (s:GState) (n:Int) (b:Bool):Int:=rm (frP s n) b 8
end Go.SE
namespace Go.SE
open Go.RowKit
end Go.SE
namespace Go.SE
end Go.SE
namespace Go.SE
end Go.SE
namespace Go.SE
open Go.RowKit
end Go.SE
namespace Go.SE
end Go.SE

namespace Go.SE
open Go.RowKit
end Go.SE
namespace Go.SE
end Go.SE
namespace Go.SE
end Go.SE
namespace Go.SE
end Go.SE
namespace Go.SE
end Go.SE

namespace Go.SE
theorem rbK_zero {s:GState} {c:GCmd} (h:rbK s c=0):stV s=true/\fokB c=true/\bK s c=0/\rbS s c=bS s c:=by
 unfold rbK at h
 split at h
 ·rename_i hok
  have hok':=hok
  simp only [rbOk,Bool.and_eq_true] at hok'
  exact ⟨hok'.1,hok'.2,h,by simp [rbS,hok,bR,h]⟩
 ·omega
theorem rbS_of {s:GState} {c:GCmd} (h:rbOk s c=true):rbS s c=bR s c:=by unfold rbS;rw [if_pos h]
theorem rbK_of {s:GState} {c:GCmd} (h:rbOk s c=true):rbK s c=bK s c:=by unfold rbK;rw [if_pos h]
theorem rbS_no {s:GState} {c:GCmd} (h:¬ rbK s c=0):rbS s c=⟨[],[]⟩:=by
 unfold rbK at h
 unfold rbS
 split
 ·rename_i hok
  rw [if_pos hok] at h
  simp [bR,h]
 ·rfl
theorem qcS_eq {s:GState} (h:¬ qcV s=0):qcS s=⟨s.vals,s.heap.set (qcV s - 1).toNat 0⟩:=by simp [qcS,h]
theorem bS_form {s:GState} {c:GCmd} (hf:fokB c=true) (h:bK s c=0) :
  ((bS s c).vals=s.vals ∨ (1<=c.a/\c.a<=4/\∃ v,(bS s c).vals=s.vals.set (c.a - 1).toNat v))/\((bS s c).heap=s.heap ∨ ∃ k v,(bS s c).heap=s.heap.set k v):=by
 obtain ⟨hk,ha,hb,hpv⟩:=fok_of hf
 rcases (show c.kind=1 ∨ c.kind=2 ∨ c.kind=3 ∨ c.kind=4 ∨ c.kind=5 by omega) with e | e | e | e | e
 ·exact ⟨.inr ⟨(hpv (.inl e)).1,(hpv (.inl e)).2,_,by simp [bS,e];rfl⟩,.inl (by simp [bS,e])⟩
 ·exact ⟨.inr ⟨(hpv (.inr (.inl e))).1,(hpv (.inr (.inl e))).2,_,by simp [bS,e];rfl⟩,.inl (by simp [bS,e])⟩
 ·exact ⟨.inl (by simp [bS,e]),.inr ⟨_,_,by simp [bS,e];rfl⟩⟩
 ·have hq:¬ qcV s=0:=by intro h0;simp [bK,e,h0] at h
  refine ⟨.inr ⟨(hpv (.inr (.inr e))).1,(hpv (.inr (.inr e))).2,qcV s,by simp [bS,e,qcS_eq hq]⟩,.inr ⟨(qcV s - 1).toNat,0,by simp [bS,e,qcS_eq hq]⟩⟩
 ·exact ⟨.inl (by simp [bS,e]),.inr ⟨_,_,by simp [bS,e];rfl⟩⟩
theorem rb_len (s:GState) (c:GCmd):(rbS s c).vals.length<=8/\(rbS s c).heap.length<=8:=by
 by_cases h:rbK s c=0
 ·obtain ⟨h1,h2,h3,h4⟩:=rbK_zero h
  obtain ⟨hl1,hl2⟩:=stV_lens h1
  rw [h4]
  obtain ⟨f1,f2⟩:=bS_form h2 h3
  constructor
  ·rcases f1 with f | ⟨_,_,v,f⟩ <;> rw [f] <;> simp [hl1]
  ·rcases f2 with f | ⟨k,v,f⟩ <;> rw [f] <;> simp [hl2]
 ·rw [rbS_no h];simp
theorem hv_isT8 {n:Int} (h:isT n=true):hv n=true:=by simp [hv,h]
theorem hv_no8:hv (-1)=true:=by decide
theorem hv_pos8 {n:Int} (h:hv n=true) (h0:0<=n):isT n=true:=by
 simp only [hv,Bool.or_eq_true,beq_iff_eq] at h
 rcases h with h | h
 ·omega
 ·exact h
theorem all_set_of8 {p:Int->Bool} {l:List Int} {k:Nat} {v:Int} (h:l.all p=true) (hv:p v=true):(l.set k v).all p=true:=by
 rw [List.all_eq_true] at h ⊢
 intro x hx
 rcases List.mem_or_eq_of_mem_set hx with h1 | h1
 ·exact h x h1
 ·rw [h1];exact hv
theorem tv_T8 {s:GState} (hs:stV s=true) (t:Int):isT (tv s.vals t)=true:=by
 obtain ⟨hl,hl2,ha,hh⟩:=stV_all hs
 unfold tv
 split
 ·rfl
 ·by_cases hk:(t - 1).toNat < s.vals.length
  ·exact all_get ha hk
  ·rw [List.getD_eq_getElem?_getD,List.getElem?_eq_none (by omega)];rfl
theorem ct_T8 {s:GState} (hs:stV s=true) {n:Int} (h:al s n=true):isT (ct s n)=true:=by
 obtain ⟨hl,hl2,ha,hh⟩:=stV_all hs
 obtain ⟨h1,h2,h3⟩:=al_in h
 have h0:0<=ct s n:=of_decide_eq_true h
 rw [h3] at h0 ⊢
 exact hv_pos8 (all_get hh (by omega)) h0
theorem stV_mk8 {v h:List Int} (h1:v.length=8) (h2:h.length=8) (h3:v.all isT=true) (h4:h.all hv=true):stV ⟨v,h⟩=true:=by simp [stV,h1,h2,h3,h4]
theorem rb_valid {s:GState} {c:GCmd} (h:rbK s c=0):stV (rbS s c)=true:=by
 obtain ⟨h1,h2,h3,h4⟩:=rbK_zero h
 obtain ⟨hl,hl2,ha,hh⟩:=stV_all h1
 obtain ⟨hk,-,hb,-⟩:=fok_of h2
 rw [h4]
 rcases (show c.kind=1 ∨ c.kind=2 ∨ c.kind=3 ∨ c.kind=4 ∨ c.kind=5 by omega) with e | e | e | e | e
 ·simp only [bS,e,if_true]
  exact stV_mk8 (by simp [hl]) hl2 (all_set_of8 ha (tv_T8 h1 _)) hh
 ·have hal:al s (tv s.vals c.b)=true:=by
   cases hc:al s (tv s.vals c.b) with
   | true=>rfl
   | false=>simp [bK,e,hc] at h3
  have:bS s c=⟨s.vals.set (c.a - 1).toNat (ct s (tv s.vals c.b)),s.heap⟩:=by simp [bS,e]
  rw [this]
  exact stV_mk8 (by simp [hl]) hl2 (all_set_of8 ha (ct_T8 h1 hal)) hh
 ·have:bS s c=⟨s.vals,s.heap.set (tv s.vals c.a - 1).toNat (tv s.vals c.b)⟩:=by simp [bS,e]
  rw [this]
  exact stV_mk8 hl (by simp [hl2]) ha (all_set_of8 hh (hv_isT8 (tv_T8 h1 _)))
 ·have hq:¬ qcV s=0:=by intro h0;simp [bK,e,h0] at h3
  have hr:=qcV_rng s
  have:bS s c=⟨s.vals.set (c.a - 1).toNat (qcV s),s.heap.set (qcV s - 1).toNat 0⟩:=by simp [bS,e,qcS_eq hq]
  rw [this]
  exact stV_mk8 (by simp [hl]) (by simp [hl2]) (all_set_of8 ha (by simp [isT];omega)) (all_set_of8 hh (by decide))
 ·have:bS s c=⟨s.vals,s.heap.set (tv s.vals c.a - 1).toNat (-1)⟩:=by simp [bS,e]
  rw [this]
  exact stV_mk8 hl (by simp [hl2]) ha (all_set_of8 hh hv_no8)
theorem lset_get8 (l:List Int) (k j:Nat) (v:Int):(l.set k v).getD j 0=if k=j/\k < l.length then v else l.getD j 0:=by
 simp only [List.getD_eq_getElem?_getD,List.getElem?_set]
 by_cases h:k=j
 ·subst h
  by_cases h2:k < l.length
  ·simp [h2]
  ·simp [h2]
 ·simp [h]
abbrev zc (k a b:Int):GCmd:=.mk k a b ⟨false,0,0⟩ ⟨[],[]⟩ [] []
theorem zc_store {a b:Int} (ha:isT a=true) (hb:isT b=true):fokB (zc 3 a b)=true:=by simp [fokB,zc,GCmd.kind,GCmd.a,GCmd.b,GCmd.test,GCmd.inv,GCmd.body,GCmd.els,noA,ha,hb]
theorem zc_set {a b:Int} (ha:1<=a/\a<=4) (hb:isT b=true):fokB (zc 1 a b)=true:=by simp [fokB,zc,GCmd.kind,GCmd.a,GCmd.b,GCmd.test,GCmd.inv,GCmd.body,GCmd.els,noA,pvV,ha.1,ha.2,hb]
theorem zc_free {a:Int} (ha:isT a=true):fokB (zc 5 a 0)=true:=by simp [fokB,zc,GCmd.kind,GCmd.a,GCmd.b,GCmd.test,GCmd.inv,GCmd.body,GCmd.els,noA,ha]
theorem BdC_zc (k a b:Int):BdC (zc k a b):=small_bdC (by rw [wtC_sim rfl rfl rfl];omega)
theorem tv_set_same8 {l:List Int} {a v:Int} (h1:1<=a) (h2:a<=l.length):tv (l.set (a - 1).toNat v) a=v:=by
 simp only [tv]
 rw [if_neg (by omega),lset_get8,if_pos ⟨rfl,by omega⟩]
theorem tv_set_ne8 {l:List Int} {a b v:Int} (h1:1<=a) (hb:isT b=true) (h:a ≠ b):tv (l.set (a - 1).toNat v) b=tv l b:=by
 have hb':=isT_iff.1 hb
 simp only [tv]
 split
 ·rfl
 ·rw [lset_get8,if_neg (by omega)]
theorem set_getD_same8 (l:List Int) (k:Nat) (h:k < l.length):l.set k (l.getD k 0)=l:=by
 apply List.ext_getElem?
 intro j
 rw [List.getElem?_set]
 by_cases e:k=j
 ·subst e
  simp [h,List.getD_eq_getElem?_getD]
 ·simp [e]
theorem self_store {s:GState} {c:GCmd} (h:rbK s c=0) (hk:c.kind=2) (hab:¬ c.a=c.b):rbK (rbS s c) (zc 3 c.b c.a)=0/\rbS (rbS s c) (zc 3 c.b c.a)=rbS s c:=by
 have hx:=rb_valid h
 obtain ⟨h1,h2,h3,h4⟩:=rbK_zero h
 obtain ⟨-,ha,hb,hpv⟩:=fok_of h2
 have hp:=hpv (.inr (.inl hk))
 obtain ⟨hl1,hl2⟩:=stV_lens h1
 have hal:al s (tv s.vals c.b)=true:=by
  cases hc:al s (tv s.vals c.b) with
  | true=>rfl
  | false=>simp [bK,hk,hc] at h3
 obtain ⟨i1,i2,i3⟩:=al_in hal
 have e:rbS s c=⟨s.vals.set (c.a - 1).toNat (ct s (tv s.vals c.b)),s.heap⟩:=by rw [h4];simp [bS,hk]
 have t1:tv (rbS s c).vals c.b=tv s.vals c.b:=by rw [e];exact tv_set_ne8 hp.1 hb hab
 have t2:tv (rbS s c).vals c.a=ct s (tv s.vals c.b):=by rw [e];exact tv_set_same8 hp.1 (by omega)
 have hal2:al (rbS s c) (tv (rbS s c).vals c.b)=true:=by
  rw [t1]
  have:ct (rbS s c) (tv s.vals c.b)=ct s (tv s.vals c.b):=by rw [e];rfl
  simpa [al,this] using hal
 have hok:rbOk (rbS s c) (zc 3 c.b c.a)=true:=by simp [rbOk,hx,zc_store hb ha]
 have hK:bK (rbS s c) (zc 3 c.b c.a)=0:=by
  have:(zc 3 c.b c.a).kind=3:=rfl
  have h5:(zc 3 c.b c.a).a=c.b:=rfl
  simp [bK,this,h5,hal2]
 refine ⟨by rw [rbK_of hok,hK],?_⟩
 have:rbS (rbS s c) (zc 3 c.b c.a)=bS (rbS s c) (zc 3 c.b c.a):=by rw [rbS_of hok,bR,if_pos hK]
 rw [this]
 have k3:(zc 3 c.b c.a).kind=3:=rfl
 have ka:(zc 3 c.b c.a).a=c.b:=rfl
 have kb:(zc 3 c.b c.a).b=c.a:=rfl
 simp only [bS,k3,ka,kb]
 simp only [show ¬ ((3:Int)=1) by omega,show ¬ ((3:Int)=2) by omega,if_false,if_true]
 rw [t1,t2,i3]
 have hh:(rbS s c).heap=s.heap:=by rw [e]
 rw [hh,set_getD_same8 _ _ (by omega)]
 rw [e]
theorem self_set {s:GState} {c:GCmd} (h:rbK s c=0) (hk:c.kind=2):rbK (rbS s c) (zc 1 c.a c.a)=0/\rbS (rbS s c) (zc 1 c.a c.a)=rbS s c:=by
 have hx:=rb_valid h
 obtain ⟨h1,h2,h3,h4⟩:=rbK_zero h
 obtain ⟨-,ha,hb,hpv⟩:=fok_of h2
 have hp:=hpv (.inr (.inl hk))
 have hl:=(stV_lens hx).1
 have hok:rbOk (rbS s c) (zc 1 c.a c.a)=true:=by simp [rbOk,hx,zc_set hp ha]
 have k3:(zc 1 c.a c.a).kind=1:=rfl
 have ka:(zc 1 c.a c.a).a=c.a:=rfl
 have kb:(zc 1 c.a c.a).b=c.a:=rfl
 have hK:bK (rbS s c) (zc 1 c.a c.a)=0:=by simp [bK,k3]
 refine ⟨by rw [rbK_of hok,hK],?_⟩
 rw [rbS_of hok,bR,if_pos hK]
 simp only [bS,k3,ka,kb,if_true]
 have:tv (rbS s c).vals c.a=(rbS s c).vals.getD (c.a - 1).toNat 0:=by simp only [tv];rw [if_neg (by omega)]
 rw [this,set_getD_same8 _ _ (by omega)]
theorem new_free {s:GState} {c:GCmd} (h:rbK s c=0) (hk:c.kind=4):rbK (rbS s c) (zc 5 c.a 0)=0/\(rbS (rbS s c) (zc 5 c.a 0)).heap=s.heap:=by
 have hx:=rb_valid h
 obtain ⟨h1,h2,h3,h4⟩:=rbK_zero h
 obtain ⟨-,ha,hb,hpv⟩:=fok_of h2
 have hp:=hpv (.inr (.inr hk))
 obtain ⟨hl1,hl2,hal,hah⟩:=stV_all h1
 have hq:¬ qcV s=0:=by intro h0;simp [bK,hk,h0] at h3
 have hr:=qcV_rng s
 have e:rbS s c=⟨s.vals.set (c.a - 1).toNat (qcV s),s.heap.set (qcV s - 1).toNat 0⟩:=by rw [h4];simp [bS,hk,qcS_eq hq]
 have t1:tv (rbS s c).vals c.a=qcV s:=by rw [e];exact tv_set_same8 hp.1 (by omega)
 have hno:al s (qcV s)=false:=by
  unfold qcV at hq ⊢
  rw [if_pos h1] at hq ⊢
  exact qcI_no s 8 (Nat.le_refl _) hq
 have hcell:s.heap.getD (qcV s - 1).toNat 0=-1:=by
  have h5:hv (s.heap.getD (qcV s - 1).toNat 0)=true:=all_get hah (by omega)
  have h6:ct s (qcV s)=s.heap.getD (qcV s - 1).toNat 0:=by simp only [ct];rw [if_pos ⟨by omega,hr.2⟩]
  have h7:¬ 0<=ct s (qcV s):=of_decide_eq_false hno
  rw [h6] at h7
  simp only [hv,Bool.or_eq_true,beq_iff_eq] at h5
  rcases h5 with h5 | h5
  ·exact h5
  ·exact (h7 (isT_iff.1 h5).1).elim
 have hal2:al (rbS s c) (tv (rbS s c).vals c.a)=true:=by
  rw [t1]
  have:ct (rbS s c) (qcV s)=0:=by
   rw [e];simp only [ct]
   rw [if_pos ⟨by omega,hr.2⟩,lset_get8,if_pos ⟨rfl,by omega⟩]
  simp [al,this]
 have hok:rbOk (rbS s c) (zc 5 c.a 0)=true:=by simp [rbOk,hx,zc_free ha]
 have k3:(zc 5 c.a 0).kind=5:=rfl
 have ka:(zc 5 c.a 0).a=c.a:=rfl
 have hK:bK (rbS s c) (zc 5 c.a 0)=0:=by simp [bK,k3,ka,hal2]
 refine ⟨by rw [rbK_of hok,hK],?_⟩
 rw [rbS_of hok,bR,if_pos hK]
 have e5:(bS (rbS s c) (zc 5 c.a 0)).heap=(rbS s c).heap.set (tv (rbS s c).vals c.a - 1).toNat (-1):=by simp [bS,k3,ka]
 rw [e5,t1,e]
 show (s.heap.set _ 0).set _ (-1)=s.heap
 rw [List.set_set,← hcell,set_getD_same8 _ _ (by omega)]
end Go.SE
