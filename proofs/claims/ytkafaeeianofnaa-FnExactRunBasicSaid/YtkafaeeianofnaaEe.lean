/-
  Parts of a symbolic engine over the program's code: how operations, regions, loops and calls are shown to keep contracts. No conditions.
-/
import Derived.Laws.StructEq
import Derived.RangeFuncRecord
import Derived.Test.YtkafaeeianofnaaEd
import Derived.Test.YtkafaeeianofnaaEa
import Derived.Test.YtkafaeeianofnaaEc
set_option linter.unusedSimpArgs false
set_option linter.unusedVariables false
set_option linter.unusedSectionVars false

namespace Go.SE
variable [Base]
open Go.RowKit
def sel:List GAtom->List Bool->List GAtom
 | x :: l,b :: u=>cond b (x :: sel l u) (sel l u)
 | _,_=>[]
def noHi (l:List GAtom) (u:List Bool):Prop:=∀ i,l.length<=i->u.getD i false=false
theorem noHi_tail {x:GAtom} {b:Bool} {l:List GAtom} {u:List Bool} (h:noHi (x :: l) (b :: u)):noHi l u:=fun i hi=>by
 have:=h (i+1) (by simp;omega)
 simpa using this
theorem noHi_set {l:List GAtom} {u:List Bool} {i:Nat} (h:noHi l u) (hi:i < l.length):noHi l (u.set i true):=fun j hj=>by
 rw [List.getD_eq_getElem?_getD,List.getElem?_set_ne (by omega),← List.getD_eq_getElem?_getD]
 exact h j hj
theorem sel_set:∀ {l:List GAtom} {u:List Bool} {i:Nat},i < l.length->i < u.length->u.getD i false=false->(sel l (u.set i true)).Perm (l.getD i nA :: sel l u):=by
 intro l
 induction l with
 | nil=>intro u i h;simp at h
 | cons x l ih =>
  intro u i h1 h2 h3
  cases u with
  | nil=>simp at h2
  | cons b u =>
   cases i with
   | zero =>
    have:b=false:=h3
    subst this
    exact .refl _
   | succ i =>
    have:=ih (u:=u) (i:=i) (by simpa using h1) (by simpa using h2) (by simpa using h3)
    cases b
    ·exact this
    ·show (x :: sel l (u.set i true)).Perm (l.getD i nA :: x :: sel l u)
     exact (this.cons x).trans (.swap _ _ _)
theorem sel_cnt:∀ {l:List GAtom} {u:List Bool},noHi l u->cnt u=((sel l u).length:Nat):=by
 intro l
 induction l with
 | nil =>
  intro u h
  have:u.filter id=[]:=by
   rw [List.filter_eq_nil_iff]
   intro b hb
   obtain ⟨i,hi,e⟩:=List.getElem_of_mem hb
   have:=h i (by simp)
   rw [List.getD_eq_getElem?_getD,List.getElem?_eq_getElem hi,Option.getD_some,e] at this
   simp [this]
  unfold cnt
  rw [this]
  cases u <;> rfl
 | cons x l ih =>
  intro u h
  cases u with
  | nil=>rfl
  | cons b u =>
   have:=ih (noHi_tail h)
   unfold cnt at this ⊢
   cases b
   ·exact this
   ·simp only [sel,cond_true,List.filter_cons,id,if_true,List.length_cons]
    omega
theorem sel_sub:∀ {l:List GAtom} {u:List Bool},(sel l u).Sublist l:=by
 intro l
 induction l with
 | nil=>intro u;cases u <;> exact .slnil
 | cons x l ih =>
  intro u
  cases u with
  | nil=>exact List.nil_sublist _
  | cons b u=>cases b
              ·exact (ih (u:=u)).cons x
              ·exact (ih (u:=u)).cons_cons x
theorem sel_zero:∀ {l:List GAtom} {u:List Bool},(∀ b ∈ u,b=false)->sel l u=[]:=by
 intro l
 induction l with
 | nil=>intro u _;cases u <;> rfl
 | cons x l ih =>
  intro u h
  cases u with
  | nil=>rfl
  | cons b u =>
   rw [h b (by simp)] at *
   exact ih fun b' hb=>h b' (by simp [hb])
theorem sel_get:∀ {l:List GAtom} {u:List Bool} {i:Nat},i < l.length->u.getD i false=true->l.getD i nA ∈ sel l u:=by
 intro l
 induction l with
 | nil=>intro u i h;simp at h
 | cons x l ih =>
  intro u i h1 h2
  cases u with
  | nil=>simp at h2
  | cons b u =>
   cases i with
   | zero =>
    have:b=true:=h2
    subst this
    simp [sel]
   | succ i =>
    have:=ih (u:=u) (i:=i) (by simpa using h1) (by simpa using h2)
    cases b
    ·exact this
    ·exact List.mem_cons_of_mem _ this
section
variable {l g:List GAtom} {u:List Bool} {q y:Int} {x:GAtom}
theorem getD_memA {i:Nat} (h:i < l.length):l.getD i nA ∈ l:=by
 rw [List.getD_eq_getElem?_getD,List.getElem?_eq_getElem h];exact List.getElem_mem h
theorem clB_iff:clB l y=true ↔ y=0 ∨ ∃ x ∈ l,x.a=y:=by
 unfold clB bgn
 rw [Bool.or_eq_true,beq_iff_eq,List.any_eq_true]
 exact or_congr_right ⟨fun ⟨x,h1,h2⟩=>⟨x,h1,by simpa using h2⟩,fun ⟨x,h1,h2⟩=>⟨x,h1,by simpa using h2⟩⟩
theorem opn_iff {p:List GAtom}:Opn 0 l y p ↔ clB l y=true ∨ ∀ x ∈ p.dropLast,x.kind ≠ 2:=by
 rw [clB_iff];unfold Opn;rw [or_assoc]
theorem chn_fwd:∀ (f:Nat) (u:List Bool) (q:Int) (us us':List Int),u.length=6->l.length<=6->noHi l u->(chn l y f u q us).2=some us' ->
  ∃ p,Pth l y q p/\Opn 0 l y p/\(sel l (chn l y f u q us).1).Perm (p ++ sel l u)/\noHi l (chn l y f u q us).1:=by
 intro f
 induction f with
 | zero=>intro u q us us' _ _ _ h;cases h
 | succ f ih =>
  intro u q us us' hu hl hh h
  simp only [chn] at h ⊢
  cases hq:uaO l u q with
  | none=>rw [hq] at h;cases h
  | some i =>
   rw [hq] at h
   obtain ⟨h1,h2,h3⟩:=uaO_spec hq
   have hm:=getD_memA h1
   have hs:=sel_set (u:=u) h1 (by omega) h3
   simp only at h ⊢
   by_cases e1:(l.getD i nA).b=y
   ·rw [if_pos e1] at h ⊢
    exact ⟨[l.getD i nA],h2 ▸ .last hm e1,opn_iff.2 (.inr fun x hx=>by cases hx),hs,noHi_set hh h1⟩
   ·rw [if_neg e1] at h ⊢
    by_cases e2:(l.getD i nA).kind=2/\clB l y=false
    ·rw [if_pos e2] at h;cases h
    ·rw [if_neg e2] at h ⊢
     obtain ⟨p,h5,h6,h7,h8⟩:=ih (u.set i true) _ _ us' (by simpa using hu) hl (noHi_set hh h1) h
     refine ⟨l.getD i nA :: p,h2 ▸ .step hm e1 h5,?_,?_,h8⟩
     ·rw [opn_iff] at h6 ⊢
      rcases h6 with h6 | h6
      ·exact .inl h6
      ·by_cases hc:clB l y=true
       ·exact .inl hc
       ·refine .inr fun x hx=>?_
        rw [List.dropLast_cons_of_ne_nil h5.ne] at hx
        rcases List.mem_cons.1 hx with rfl | hx
        ·intro hk;exact e2 ⟨hk,by simpa using hc⟩
        ·exact h6 x hx
     ·refine h7.trans ?_
      rw [List.cons_append]
      exact (hs.append_left p).trans List.perm_middle
theorem mcF_fwd:∀ (g:List GAtom) (u u':List Bool),u.length=6->l.length<=6->noHi l u->mcF l g u=some u' ->
  ∃ ps:List (List GAtom),ps.length=g.length/\(∀ t ∈ g.zip ps,OkA 0 l t.1 t.2)/\(sel l u').Perm (ps.flatten ++ sel l u)/\noHi l u':=by
 intro g
 induction g with
 | nil =>
  intro u u' _ _ hh h
  injection h with h
  subst h
  exact ⟨[],rfl,(fun t ht=>by cases ht),.refl _,hh⟩
 | cons x g ih =>
  intro u u' hu hl hh h
  simp only [mcF] at h
  cases hb:useB l u x with
  | false=>rw [hb] at h;cases h
  | true =>
   rw [hb,cond_true] at h
   have key:∃ p,OkA 0 l x p/\(sel l (useU l u x)).Perm (p ++ sel l u)/\noHi l (useU l u x):=by
    by_cases hk:x.kind=1
    ·rw [(use_cell hk).1] at hb
     rw [(use_cell hk).2]
     unfold ucB at hb
     unfold ucU
     cases hq:ucO l u x with
     | none=>rw [hq] at hb;cases hb
     | some i =>
      unfold ucO at hq
      cases hw:uaO l u x.a with
      | none=>rw [hw] at hq;cases hq
      | some j =>
       rw [hw] at hq
       have hq:cond (decide (l.getD j nA=x)) (some j) none=some i:=hq
       obtain ⟨h1,h2,h3⟩:=uaO_spec hw
       by_cases e:l.getD j nA=x
       ·rw [decide_eq_true e] at hq
        injection hq with hq
        subst hq
        have hm:=getD_memA h1
        rw [e] at hm
        refine ⟨[x],.inl ⟨hk,hm,rfl⟩,?_,noHi_set hh h1⟩
        have:=sel_set (u:=u) h1 (by omega) h3
        rw [e] at this
        exact this
       ·rw [decide_eq_false e] at hq;cases hq
    ·rw [(use_chain hk).1] at hb
     rw [(use_chain hk).2]
     unfold chB at hb
     unfold chU
     obtain ⟨us',hs⟩:=Option.isSome_iff_exists.1 hb
     obtain ⟨p,h1,h2,h3,h4⟩:=chn_fwd 7 u x.a [] us' hu hl hh hs
     exact ⟨p,.inr ⟨hk,h1,h2⟩,h3,h4⟩
   obtain ⟨p,h1,h2,h3⟩:=key
   obtain ⟨ps,h4,h5,h6,h7⟩:=ih (useU l u x) u' (useU_len.trans hu) hl h3 h
   refine ⟨p :: ps,by simp [h4],fun t ht=>?_,?_,h7⟩
   ·rw [List.zip_cons_cons] at ht
    rcases List.mem_cons.1 ht with e | ht
    ·rw [e];exact h1
    ·exact h5 t ht
   ·refine h6.trans ?_
    rw [List.flatten_cons]
    refine (h2.append_left _).trans ?_
    rw [← List.append_assoc]
    exact (List.perm_append_comm).append_right _
theorem zip_fun (hL:Pos 0 l):∀ {g:List GAtom} {ps:List (List GAtom)},ps.length=g.length->(∀ t ∈ g.zip ps,OkA 0 l t.1 t.2)->(ps.flatten.Pairwise fun x y=>x.a ≠ y.a)->∃ f:GAtom->List GAtom,(∀ x ∈ g,OkA 0 l x (f x))/\g.flatMap f=ps.flatten/\∀ x ∈ g,∃ y ∈ ps.flatten,y.a=x.a:=by
 intro g
 induction g with
 | nil =>
  intro ps h _ _
  have:ps=[]:=List.length_eq_zero_iff.1 h
  subst this
  exact ⟨fun _=>[],(fun x hx=>by cases hx),rfl,(fun x hx=>by cases hx)⟩
 | cons x g ih =>
  intro ps h1 h2 h3
  cases ps with
  | nil=>cases h1
  | cons p ps =>
   rw [List.flatten_cons,List.pairwise_append] at h3
   rw [List.zip_cons_cons] at h2
   obtain ⟨f,hf,he,hs⟩:=ih (by simpa using h1) (fun t ht=>h2 t (List.mem_cons_of_mem _ ht)) h3.2.1
   have hp:OkA 0 l x p:=h2 (x,p) (by simp)
   obtain ⟨y,p',e,ea,_⟩:=hp.pth.head
   have hy:y ∈ p:=by rw [e];simp
   have hx:x ∉ g:=fun hx=>by
    obtain ⟨y',h4,h5⟩:=hs x hx
    exact h3.2.2 y hy y' h4 (ea.trans h5.symm)
   classical
   have e1:∀ x' ∈ g,(if x'=x then p else f x')=f x':=fun x' hx'=>if_neg fun e=>hx (by rw [← e];exact hx')
   refine ⟨fun x'=>if x'=x then p else f x',fun x' hx'=>?_,?_,fun x' hx'=>?_⟩
   ·rcases List.mem_cons.1 hx' with rfl | hx'
    ·show OkA 0 l x' (if x'=x' then p else f x')
     rw [if_pos rfl];exact hp
    ·show OkA 0 l x' (if x'=x then p else f x')
     rw [e1 x' hx'];exact hf x' hx'
   ·rw [List.flatMap_cons,List.flatten_cons,if_pos rfl,← he,List.flatMap_def,List.flatMap_def,List.map_congr_left e1]
   ·rcases List.mem_cons.1 hx' with rfl | hx'
    ·exact ⟨y,by simp [hy],ea⟩
    ·obtain ⟨y',h4,h5⟩:=hs x' hx'
     exact ⟨y',by rw [List.flatten_cons];simp [h4],h5⟩
theorem u0_noHi:noHi l u0:=fun i _=>by
 match i with
 | 0=>rfl
 | 1=>rfl
 | 2=>rfl
 | 3=>rfl
 | 4=>rfl
 | 5=>rfl
 | i+6=>rfl
theorem u0_sel:sel l u0=[]:=sel_zero fun b hb=>by
 unfold u0 six at hb
 simp only [List.mem_cons,List.not_mem_nil,or_false,or_self] at hb
 exact hb
theorem mcM_fwd (hL:Pos 0 l) (hl:l.length<=6) (h:mcM l g=true):MtS 0 l g:=by
 unfold mcM at h
 cases hm:mcF l g u0 with
 | none=>rw [hm] at h;cases h
 | some u =>
  rw [hm] at h
  obtain ⟨ps,h1,h2,h3,h4⟩:=mcF_fwd g u0 u rfl hl u0_noHi hm
  rw [u0_sel,List.append_nil] at h3
  have hc:cnt u=(l.length:Nat):=by simpa using h
  rw [sel_cnt h4] at hc
  have he:sel l u=l:=sel_sub.eq_of_length (by omega)
  rw [he] at h3
  obtain ⟨f,hf,e,_⟩:=zip_fun hL h1 h2 ((pw_perm h3).1 hL.ap)
  exact ⟨f,hf,by rw [e];exact h3.symm⟩
theorem find_at (hL:Pos 0 l) {R:List GAtom} (hp:(sel l u ++ x :: R).Perm l):∃ i,uaO l u x.a=some i/\i < l.length/\l.getD i nA=x/\u.getD i false=false:=by
 have hx:x ∈ l:=hp.mem_iff.1 (by simp)
 obtain ⟨i,hi,e⟩:=List.getElem_of_mem hx
 have eD:l.getD i nA=x:=by rw [List.getD_eq_getElem?_getD,List.getElem?_eq_getElem hi,Option.getD_some,e]
 have hu:u.getD i false=false:=by
  cases hb:u.getD i false with
  | false=>rfl
  | true =>
   have hm:=sel_get hi hb
   rw [eD] at hm
   have:=(pw_perm hp).2 hL.ap
   rw [List.pairwise_append] at this
   exact (this.2.2 x hm x (by simp) rfl).elim
 refine ⟨i,?_,hi,eD,hu⟩
 unfold uaO
 rw [List.find?_range_eq_some]
 refine ⟨by unfold uaP;rw [eD,hu];simp,List.mem_range.2 hi,fun j hj=>?_⟩
 have hjl:j < l.length:=by omega
 have hne:=List.pairwise_iff_getElem.1 hL.ap j i hjl hi hj
 rw [e] at hne
 unfold uaP
 have:l.getD j nA=l[j]:=by rw [List.getD_eq_getElem?_getD,List.getElem?_eq_getElem hjl,Option.getD_some]
 rw [this,beq_eq_false_iff_ne.2 hne]
 rfl
theorem chn_bwd (hL:Pos 0 l) {p:List GAtom} (hp:Pth l y q p):∀ (f:Nat) (u:List Bool) (us:List Int) (R:List GAtom),u.length=6->l.length<=6->noHi l u->p.length<=f->Opn 0 l y p->(sel l u ++ (p ++ R)).Perm l ->
  (chn l y f u q us).2.isSome=true/\(sel l (chn l y f u q us).1).Perm (sel l u ++ p)/\noHi l (chn l y f u q us).1:=by
 induction hp with
 | @last x h1 e =>
  intro f u us R hu hl hh hf _ hr
  obtain ⟨i,h2,h3,h4,h5⟩:=find_at (x:=x) (R:=R) hL hr
  have hs:=sel_set (u:=u) h3 (by omega) h5
  cases f with
  | zero=>simp at hf
  | succ f =>
   simp only [chn]
   rw [h2]
   simp only
   rw [if_pos (by rw [h4];exact e)]
   rw [h4] at hs
   exact ⟨rfl,hs.trans (List.perm_append_singleton _ _).symm,noHi_set hh h3⟩
 | @step x p h1 e h3 ih =>
  intro f u us R hu hl hh hf ho hr
  obtain ⟨i,h2,h3',h4,h5⟩:=find_at (x:=x) (R:=p ++ R) hL (by simpa using hr)
  have hs:=sel_set (u:=u) h3' (by omega) h5
  cases f with
  | zero=>simp at hf
  | succ f =>
   simp only [chn]
   rw [h2]
   simp only
   rw [if_neg (by rw [h4];exact e)]
   rw [h4] at hs ⊢
   have ho':=opn_iff.1 ho
   rw [List.dropLast_cons_of_ne_nil h3.ne] at ho'
   rw [if_neg (fun ⟨k1,k2⟩=>ho'.elim (fun h=>by rw [k2] at h;cases h) fun h=>h x (by simp) k1)]
   have ho2:Opn 0 l y p:=opn_iff.2 (ho'.imp id fun h x' hx'=>h x' (by simp [hx']))
   have hr2:(sel l (u.set i true) ++ (p ++ R)).Perm l:=by
    refine .trans ?_ hr
    refine (hs.append_right _).trans ?_
    simp only [List.cons_append]
    exact List.perm_middle.symm
   obtain ⟨a1,a2,a3⟩:=ih f (u.set i true) (us ++ [(i:Int)]) R (by simpa using hu) hl (noHi_set hh h3') (by simpa using hf) ho2 hr2
   refine ⟨a1,a2.trans ?_,a3⟩
   refine (hs.append_right _).trans ?_
   simp only [List.cons_append]
   exact List.perm_middle.symm
theorem mcF_bwd (hL:Pos 0 l) {f:GAtom->List GAtom}:∀ (g:List GAtom) (u:List Bool),u.length=6->l.length<=6->noHi l u->(∀ x ∈ g,OkA 0 l x (f x))->(sel l u ++ g.flatMap f).Perm l ->
  ∃ u',mcF l g u=some u'/\(sel l u').Perm l/\noHi l u':=by
 intro g
 induction g with
 | nil =>
  intro u _ _ hh _ hp
  exact ⟨u,rfl,by simpa using hp,hh⟩
 | cons x g ih =>
  intro u hu hl hh hf hp
  rw [List.flatMap_cons] at hp
  have key:useB l u x=true/\(sel l (useU l u x)).Perm (sel l u ++ f x)/\noHi l (useU l u x):=by
   rcases hf x (by simp) with ⟨k1,m1,e1⟩ | ⟨k1,p1,o1⟩
   ·rw [(use_cell k1).1,(use_cell k1).2]
    rw [e1] at hp ⊢
    obtain ⟨i,h2,h3,h4,h5⟩:=find_at (x:=x) (R:=g.flatMap f) hL hp
    have hq:ucO l u x=some i:=by
     unfold ucO
     rw [h2]
     show cond (decide (l.getD i nA=x)) (some i) none=some i
     rw [decide_eq_true h4];rfl
    unfold ucB ucU
    rw [hq]
    have hs:=sel_set (u:=u) h3 (by omega) h5
    rw [h4] at hs
    exact ⟨rfl,hs.trans (List.perm_append_singleton _ _).symm,noHi_set hh h3⟩
   ·rw [(use_chain k1).1,(use_chain k1).2]
    have hlen:(f x).length<=7:=by
     have:=hp.length_eq
     simp only [List.length_append] at this
     omega
    exact chn_bwd hL p1 7 u [] (g.flatMap f) hu hl hh hlen o1 hp
  obtain ⟨h1,h2,h3⟩:=key
  obtain ⟨u',h4,h5,h6⟩:=ih (useU l u x) (useU_len.trans hu) hl h3 (fun x' hx'=>hf x' (by simp [hx'])) ((h2.append_right _).trans (by rw [List.append_assoc];exact hp))
  refine ⟨u',?_,h5,h6⟩
  simp only [mcF]
  rw [h1,cond_true,h4]
theorem mcM_bwd (hL:Pos 0 l) (hl:l.length<=6) (h:MtS 0 l g):mcM l g=true:=by
 obtain ⟨f,hf⟩:=h
 obtain ⟨u',h1,h2,h3⟩:=mcF_bwd hL g u0 rfl hl u0_noHi hf.ok (by rw [u0_sel];exact hf.all)
 unfold mcM
 rw [h1]
 have:=sel_cnt h3
 have e:=h2.length_eq
 simp only [beq_iff_eq]
 omega
theorem mcM_iff (hL:Pos 0 l) (hl:l.length<=6):mcM l g=true ↔ MtS 0 l g:=⟨mcM_fwd hL hl,mcM_bwd hL hl⟩
end
end Go.SE

namespace Go.SE
variable [Base]
open Go.RowKit
def ct (s:GState) (n:Int):Int:=if 1<=n/\n<=8 then s.heap.getD (n - 1).toNat 0 else -1
def al (s:GState) (n:Int):Bool:=decide (0<=ct s n)
def walk (s:GState) (to:Int):Nat->Int->Option (List Int)
 | 0,at'=>if at'=to then some [] else none
 | f+1,at'=>if at'=to then some [] else cond (al s at') ((walk s to f (ct s at')).map (at' :: ·)) none
def acO (s:GState) (x:GAtom):Option (List Int):=if x.kind=2 then walk s (tv s.vals x.b) 8 (tv s.vals x.a) else if ct s (tv s.vals x.a)=tv s.vals x.b then some [tv s.vals x.a] else none
def ptO (s:GState):List Int->List GAtom->Option (List Int)
 | L,[]=>some L
 | L,x :: l=>match acO s x with
  | none=>none
  | some c=>cond (c.all (fun n=>!L.contains n) && decide c.Nodup) (ptO s (L ++ c) l) none
def addrs:List Int:=[1,2,3,4,5,6,7,8]
def fctB (s:GState) (l:List GFact):Bool:=l.all fun f=>(tv s.vals f.a == tv s.vals f.b) == f.eq
def HOL (s:GState) (a:GAsn):Bool:=stV s && (asV a && (fctB s a.facts && (match ptO s [] a.atoms with
 | some L=>addrs.all fun n=>L.contains n == al s n
 | none=>false)))
theorem tv_isT {s:GState} (hs:stV s=true) {t:Int} (ht:isT t=true):0<=tv s.vals t/\tv s.vals t<=8:=by
 unfold stV at hs
 simp only [Bool.and_eq_true,decide_eq_true_eq,beq_iff_eq] at hs
 obtain ⟨t0,t8⟩:=isT_iff.1 ht
 unfold tv
 split
 ·omega
 ·have hl:s.vals.length=8:=by omega
  have hi:(t - 1).toNat < s.vals.length:=by omega
  have hall:s.vals.all isT=true:=by
   rcases hs with ⟨h1,h2⟩
   grind
  have:=List.all_eq_true.1 hall _ (List.getElem_mem hi)
  rw [List.getD_eq_getElem?_getD,List.getElem?_eq_getElem hi]
  exact isT_iff.1 this
theorem al_range {s:GState} {n:Int} (h:al s n=true):1<=n/\n<=8:=by
 unfold al ct at h
 by_cases e:1<=n/\n<=8
 ·exact e
 ·rw [if_neg e] at h;cases h
theorem walk_al {s:GState} {to:Int}:∀ (f:Nat) (x:Int) (L:List Int),walk s to f x=some L->(∀ n ∈ L,al s n=true)/\(x ≠ to->x ∈ L):=by
 intro f
 induction f with
 | zero =>
  intro x L h
  simp only [walk] at h
  split at h
  ·injection h with h;subst h;exact ⟨fun n hn=>(by cases hn),fun hne=>(hne ‹_›).elim⟩
  ·cases h
 | succ f ih =>
  intro x L h
  simp only [walk] at h
  split at h
  ·injection h with h;subst h;exact ⟨fun n hn=>(by cases hn),fun hne=>(hne ‹_›).elim⟩
  ·cases ha:al s x with
   | false=>rw [ha] at h;cases h
   | true =>
    rw [ha,cond_true] at h
    cases hw:walk s to f (ct s x) with
    | none=>rw [hw] at h;cases h
    | some M =>
     rw [hw] at h
     injection h with h
     subst h
     obtain ⟨h1,_⟩:=ih _ _ hw
     exact ⟨fun n hn=>by rcases List.mem_cons.1 hn with rfl | hn;exact ha;exact h1 n hn,fun _=>by simp⟩
theorem acO_al {s:GState} (hs:stV s=true) {x:GAtom} (hx:atV x=true) {c:List Int} (h:acO s x=some c):(∀ n ∈ c,al s n=true)/\((x.kind == 1 || !(tv s.vals x.a == tv s.vals x.b))=true->tv s.vals x.a ∈ c):=by
 unfold acO at h
 split at h
 ·rename_i hk
  obtain ⟨h1,h2⟩:=walk_al _ _ _ h
  refine ⟨h1,fun hf=>h2 fun e=>?_⟩
  rw [hk,e] at hf
  simp at hf
 ·split at h
  ·rename_i he
   injection h with h
   subst h
   refine ⟨fun n hn=>?_,fun _=>by simp⟩
   simp only [List.mem_singleton] at hn
   subst hn
   unfold al
   rw [he]
   exact decide_eq_true (tv_isT hs (atV_isT hx).2).1
  ·cases h
theorem ptO_parts {s:GState} (hs:stV s=true):∀ (l:List GAtom) (L M:List Int),l.all atV=true->ptO s L l=some M->(∀ n ∈ L,n ∈ M) /\
  (∀ x ∈ filt (tv s.vals) l,al s (tv s.vals x.a)=true/\tv s.vals x.a ∉ L)/\(filt (tv s.vals) l).Pairwise fun x y=>tv s.vals x.a ≠ tv s.vals y.a:=by
 intro l
 induction l with
 | nil=>intro L M _ h;simp only [ptO] at h;injection h with h;subst h;exact ⟨fun n hn=>hn,fun x hx=>(by cases hx),.nil⟩
 | cons x l ih =>
  intro L M hv h
  simp only [List.all_cons,Bool.and_eq_true] at hv
  simp only [ptO] at h
  cases hc:acO s x with
  | none=>rw [hc] at h;cases h
  | some c =>
   rw [hc] at h
   simp only at h
   cases hd:(c.all (fun n=>!L.contains n) && decide c.Nodup) with
   | false=>rw [hd] at h;cases h
   | true =>
    rw [hd,cond_true] at h
    rw [Bool.and_eq_true,List.all_eq_true] at hd
    obtain ⟨h1,h2,h3⟩:=ih _ _ hv.2 h
    obtain ⟨a1,a2⟩:=acO_al hs hv.1 hc
    refine ⟨fun n hn=>h1 n (by simp [hn]),?_,?_⟩
    ·intro y hy
     unfold filt at hy
     rw [List.filter_cons] at hy
     split at hy
     ·rename_i hf
      rcases List.mem_cons.1 hy with rfl | hy
      ·have hin:=a2 hf
       refine ⟨a1 _ hin,?_⟩
       have:=hd.1 _ hin
       simpa using this
      ·obtain ⟨b1,b2⟩:=h2 y hy
       exact ⟨b1,fun hm=>b2 (by simp [hm])⟩
     ·obtain ⟨b1,b2⟩:=h2 y hy
      exact ⟨b1,fun hm=>b2 (by simp [hm])⟩
    ·unfold filt
     rw [List.filter_cons]
     split
     ·rename_i hf
      refine List.pairwise_cons.2 ⟨fun y hy e=>?_,h3⟩
      have hin:=a2 hf
      exact (h2 y hy).2 (by rw [← e];simp [hin])
     ·exact h3
theorem hol_poss {s:GState} {a:GAsn} (h:HOL s a=true):stV s=true/\asV a=true/\possV a (tv s.vals):=by
 unfold HOL at h
 simp only [Bool.and_eq_true] at h
 obtain ⟨hs,ha,hf,hp⟩:=h
 refine ⟨hs,ha,?_⟩
 cases hpt:ptO s [] a.atoms with
 | none=>rw [hpt] at hp;cases hp
 | some M =>
  obtain ⟨_,h2,h3⟩:=ptO_parts hs _ _ _ (asV_facts ha).2.2.1 hpt
  refine ⟨fun f hm=>?_,fun x hx=>?_,h3⟩
  ·have:=List.all_eq_true.1 hf f hm
   simpa using this
  ·have:=al_range (h2 x hx).1
   have z:tv s.vals 0=0:=rfl
   rw [z]
   omega
end Go.SE

namespace Go.SE
variable [Base]
open Go.RowKit
end Go.SE

namespace Go.SE
variable [Base]
open Go.RowKit
end Go.SE

namespace Go.SE
variable [Base]
open Go.RowKit
def isAd (n:Int):Bool:=decide (1<=n) && decide (n<=8)
theorem isAd_iff {n:Int}:isAd n=true ↔ 1<=n/\n<=8:=by unfold isAd;simp
theorem isAd_no {n:Int}:isAd n=false ↔ ¬ (1<=n/\n<=8):=by rw [← isAd_iff];simp
section
variable {s:GState}
theorem stV_all (h:stV s=true):s.vals.length=8/\s.heap.length=8/\s.vals.all isT=true/\s.heap.all hv=true:=by
 unfold stV at h
 simp only [Bool.and_eq_true,beq_iff_eq] at h
 exact ⟨h.1.1.1,h.1.1.2,h.1.2,h.2⟩
theorem ct_no {n:Int} (h:isAd n=false):ct s n=-1:=by unfold ct;rw [if_neg (isAd_no.1 h)]
theorem ct_yes {n:Int} (h:isAd n=true):ct s n=s.heap.getD (n - 1).toNat 0:=by unfold ct;rw [if_pos (isAd_iff.1 h)]
end
end Go.SE
namespace Go.SE
open Go.RowKit
end Go.SE
namespace Go.SE
variable [Base]
open Go.RowKit
end Go.SE
namespace Go.SE
open Go.RowKit
end Go.SE
namespace Go.SE
variable [Base]
open Go.RowKit
section
variable {s:GState} {l:List GAtom} {i j:Nat}
theorem con_no {M:List Int} {y:Int}:M.contains y=false ↔ y ∉ M:=by rw [← Bool.not_eq_true,List.contains_iff_mem]
end
end Go.SE

namespace Go.SE
variable [Base]
open Go.RowKit
section
variable {s:GState} {a:GAsn} {i j:Nat}
theorem al_yes {n:Int} (h1:1<=n) (h2:n<=8):decide (0<=s.heap.getD (n - 1).toNat 0)=al s n:=by
 unfold al ct;rw [if_pos ⟨h1,h2⟩]
theorem al_no {n:Int} (h:¬ (1<=n/\n<=8)):false=al s n:=by
 unfold al ct;rw [if_neg h];rfl
end
end Go.SE

namespace Go.SE
variable [Base]
open Go.RowKit
end Go.SE

namespace Go.SE
variable [Base]
open Go.RowKit
end Go.SE

namespace Go.SE
variable [Base]
open Go.RowKit
end Go.SE

namespace Go.SE
variable [Base]
open Go.RowKit
section
variable {s:GState}
theorem walk_same (q:Int):walk s q 8 q=some []:=by simp [walk]
end
end Go.SE

namespace Go.SE
variable [Base]
open Go.RowKit
variable {a:GAsn} {s:GState}
end Go.SE
namespace Go.SE
open Go.RowKit
end Go.SE
namespace Go.SE
variable [Base]
open Go.RowKit
variable {a:GAsn} {s:GState}
end Go.SE

namespace Go.SE
variable [Base]
open Go.RowKit
def imA (v:Int->Int) (x:GAtom):GAtom:=⟨x.kind,v x.a,v x.b⟩
def fv (v:Int->Int) (l:List GAtom):List GAtom:=(filt v l).map (imA v)
end Go.SE
namespace Go.SE
open Go.RowKit
structure Qv (a b:GAsn) (v:Int->Int):Prop where
 facts:∀ f ∈ b.facts,(v f.a == v f.b)=f.eq
 mt:MtS (v 0) (fv v a.atoms) (fv v b.atoms)
end Go.SE
namespace Go.SE
variable [Base]
open Go.RowKit
section
variable {a b c:GAsn} {v w:Int->Int} {l m:List GAtom}
theorem fL_fv {c:List Int}:fL c l=fv (cl c) l:=by
 unfold fL fv filt
 rw [List.filter_map]
 rfl
theorem fv_len:(fv v l).length<=l.length:=by unfold fv filt;rw [List.length_map];exact List.length_filter_le _ _
theorem atV_kind {x:GAtom} (h:atV x=true):x.kind ≠ 1->x.kind=2:=by
 unfold atV at h
 simp only [Bool.and_eq_true,Bool.or_eq_true,beq_iff_eq] at h
 intro h1
 rcases h.1.1 with h2 | h2
 ·exact (h1 h2).elim
 ·exact h2
theorem fv_kind (h:l.all atV=true):∀ x ∈ fv v l,x.kind ≠ 1->x.kind=2:=fun x hx=>by
 obtain ⟨y,hy,rfl⟩:=List.mem_map.1 hx
 exact atV_kind (x:=y) (List.all_eq_true.1 h y (List.mem_filter.1 hy).1)
theorem fv_pos (ha:a.atoms.all atV=true) (hv:possV a v):Pos (v 0) (fv v a.atoms):=by
 refine ⟨fun x hx=>?_,?_,fv_kind ha⟩
 ·obtain ⟨y,hy,rfl⟩:=List.mem_map.1 hx
  exact hv.nil y hy
 ·unfold fv
  rw [List.pairwise_map]
  exact hv.apart
theorem pos_poss (hf:∀ f ∈ b.facts,(v f.a == v f.b)=f.eq) (h:Pos (v 0) (fv v b.atoms)):possV b v:=by
 refine ⟨hf,fun x hx=>h.nz _ (List.mem_map_of_mem hx),?_⟩
 have:=h.ap
 unfold fv at this
 rw [List.pairwise_map] at this
 exact this
theorem Qv.poss (ha:a.atoms.all atV=true) (hb:b.atoms.all atV=true) (hv:possV a v) (h:Qv a b v):possV b v:=by
 obtain ⟨f,hf⟩:=h.mt
 exact pos_poss h.facts (hf.pos (fv_pos ha hv) (fv_kind hb))
theorem Qv.trans (ha:a.atoms.all atV=true) (hb:b.atoms.all atV=true) (hv:possV a v) (h1:Qv a b v) (h2:Qv b c v):Qv a c v :=
 ⟨h2.facts,mts_trans (fv_pos ha hv) (fv_kind hb) h1.mt h2.mt⟩
theorem Qv.congr (P:Int->Prop) (h:∀ s t,P s->P t->(v s == v t)=(w s == w t)) (h0:P 0) (hf:∀ f ∈ b.facts,P f.a/\P f.b) (ha:∀ x ∈ a.atoms,P x.a/\P x.b) (hb:∀ x ∈ b.atoms,P x.a/\P x.b) (hq:Qv a b v):Qv a b w:=by
 classical
 have heq:∀ s t,P s->P t->(v s=v t ↔ w s=w t):=fun s t hs ht=>by
  have:=h s t hs ht
  rw [Bool.eq_iff_iff,beq_iff_eq,beq_iff_eq] at this
  exact this
 let n:Int->Int:=fun x=>if h:∃ t,P t/\v t=x then w h.choose else 0
 have hn:∀ t,P t->n (v t)=w t:=fun t ht=>by
  have he:∃ t',P t'/\v t'=v t:=⟨t,ht,rfl⟩
  show (if h:∃ t',P t'/\v t'=v t then w h.choose else 0)=_
  rw [dif_pos he]
  exact (heq _ _ he.choose_spec.1 ht).1 he.choose_spec.2
 have hfv:∀ l:List GAtom,(∀ x ∈ l,P x.a/\P x.b)->fv w l=(fv v l).map fun x=>⟨x.kind,n x.a,n x.b⟩:=fun l hl=>by
  have ef:filt v l=filt w l:=List.filter_congr fun x hm=>by rw [h _ _ (hl x hm).1 (hl x hm).2]
  unfold fv
  rw [List.map_map,ef]
  refine List.map_congr_left fun x hx=>?_
  have hx':=hl x (List.mem_filter.1 hx).1
  show (⟨x.kind,w x.a,w x.b⟩:GAtom)=⟨x.kind,n (v x.a),n (v x.b)⟩
  rw [hn _ hx'.1,hn _ hx'.2]
 have hV:∀ l:List GAtom,(∀ x ∈ l,P x.a/\P x.b)->∀ x ∈ fv v l,(∃ t,P t/\v t=x.a)/\∃ t,P t/\v t=x.b:=fun l hl x hx=>by
  obtain ⟨y,hy,rfl⟩:=List.mem_map.1 hx
  have hy':=hl y (List.mem_filter.1 hy).1
  exact ⟨⟨y.a,hy'.1,rfl⟩,⟨y.b,hy'.2,rfl⟩⟩
 refine ⟨fun f hf'=>by rw [← h _ _ (hf f hf').1 (hf f hf').2];exact hq.facts f hf',?_⟩
 rw [hfv _ ha,hfv _ hb,← hn 0 h0]
 refine mts_map (φ:=fun x=>⟨x.kind,n x.a,n x.b⟩) (fun _=>rfl) (fun x=>∃ t,P t/\v t=x) ?_ (hV _ ha) (hV _ hb) ⟨0,h0,rfl⟩ hq.mt
 rintro s t ⟨s',hs,rfl⟩ ⟨t',ht,rfl⟩ e
 rw [hn _ hs,hn _ ht] at e
 exact (heq _ _ hs ht).2 e
theorem hz00 {q:Int->Bool}:hz a q 0=true:=rfl
theorem hzA_fact (ha:asV a=true) {q:Int->Bool} {k:Int} (h:occ a k=true):0<=k/\k<=8/\hz a q k.toNat=true:=by
 have ht:=occ_isT ha h
 have:=isT_iff.1 ht
 refine ⟨this.1,this.2,?_⟩
 unfold hz
 rw [show ((k.toNat:Nat):Int)=k by omega,ht,h]
 simp
theorem mc_iff (ha:asV a=true) {q:Int->Bool} {c:List Int} (hc:c ∈ casesB a (hz a q)):MC a b c=true ↔ Qv a b (cl c):=by
 have hn:=hz_named ha q
 rw [casesB_eq hn] at hc
 obtain ⟨h1,h2⟩:=List.mem_filter.1 hc
 have hp:=(possI_iff hn h1 hz00).1 h2
 have hA:=asV_facts ha
 have h0:=full_val h1 (k:=0) (by decide) (by decide) hz00
 have hz0:cl c 0=0:=by omega
 have hpos:=fv_pos hA.2.2.1 hp
 rw [hz0] at hpos
 unfold MC
 rw [Bool.and_eq_true,fL_fv,fL_fv,mcM_iff hpos (Nat.le_trans fv_len hA.2.2.2),List.all_eq_true]
 constructor
 ·rintro ⟨h3,h4⟩
  exact ⟨fun f hf=>by have:=h3 f hf;unfold fh at this;simpa using this,by rw [hz0];exact h4⟩
 ·rintro ⟨h3,h4⟩
  rw [hz0] at h4
  exact ⟨fun f hf=>by unfold fh;rw [h3 f hf];simp,h4⟩
theorem ent_iff:ENT a b=true ↔ asV a=true/\asV b=true/\∀ v,possV a v->Qv a b v:=by
 classical
 unfold ENT
 rw [Bool.and_eq_true,Bool.and_eq_true]
 refine and_congr_right fun ha=>and_congr_right fun hb=>?_
 have hP:∀ k,occ a k=true ∨ occ b k=true->0<=k/\k<=8/\hz a (occB b) k.toNat=true:=fun k hk=>hk.elim (fun h=>hzA_fact ha h) fun h=>hzB_has hb h
 have key:=cases_all (hz_named ha (occB b)) hz00 (fun v=>decide (Qv a b v)) fun v w h=>by
  have h':∀ s t:Int,(0<=s/\s<=8/\hz a (occB b) s.toNat=true)->(0<=t/\t<=8/\hz a (occB b) t.toNat=true)->(v s == v t)=(w s == w t):=fun s t hs ht=>h s t hs.1 hs.2.1 hs.2.2 ht.1 ht.2.1 ht.2.2
  have f1:∀ f ∈ b.facts,(0<=f.a/\f.a<=8/\hz a (occB b) f.a.toNat=true)/\(0<=f.b/\f.b<=8/\hz a (occB b) f.b.toNat=true):=fun f hf=>⟨hP _ (.inr (occ_fact hb hf).1),hP _ (.inr (occ_fact hb hf).2)⟩
  have f2:∀ x ∈ a.atoms,(0<=x.a/\x.a<=8/\hz a (occB b) x.a.toNat=true)/\(0<=x.b/\x.b<=8/\hz a (occB b) x.b.toNat=true):=fun f hf=>⟨hP _ (.inl (occ_atom ha hf).1),hP _ (.inl (occ_atom ha hf).2)⟩
  have f3:∀ x ∈ b.atoms,(0<=x.a/\x.a<=8/\hz a (occB b) x.a.toNat=true)/\(0<=x.b/\x.b<=8/\hz a (occB b) x.b.toNat=true):=fun f hf=>⟨hP _ (.inr (occ_atom hb hf).1),hP _ (.inr (occ_atom hb hf).2)⟩
  rw [decide_eq_decide]
  exact ⟨fun hq=>hq.congr _ h' ⟨by decide,by decide,hz00⟩ f1 f2 f3,fun hq=>hq.congr _ (fun s t hs ht=>(h' s t hs ht).symm) ⟨by decide,by decide,hz00⟩ f1 f2 f3⟩
 have e:((casesB a (hz a (occB b))).all fun c=>MC a b c)=((casesB a (hz a (occB b))).all fun d=>decide (Qv a b (cl d))):=by
  rw [Bool.eq_iff_iff,List.all_eq_true,List.all_eq_true]
  exact ⟨fun h c hc=>decide_eq_true ((mc_iff ha hc).1 (h c hc)),fun h c hc=>(mc_iff ha hc).2 (of_decide_eq_true (h c hc))⟩
 rw [e,key]
 exact ⟨fun h v hv=>of_decide_eq_true (h v hv),fun h v hv=>decide_eq_true (h v hv)⟩
theorem asV_at (h:asV a=true):a.atoms.all atV=true:=(asV_facts h).2.2.1
end
end Go.SE

namespace Go.SE
variable [Base]
open Go.RowKit
end Go.SE
namespace Go.SE
open Go.RowKit
inductive Sg (s:GState) (e:Int):Int->List Int->Prop
 | nil:Sg s e e []
 | step {q:Int} {ns:List Int}:al s q=true->Sg s e (ct s q) ns->Sg s e q (q :: ns)
end Go.SE
namespace Go.SE
variable [Base]
open Go.RowKit
def acV (s:GState) (x:GAtom):Option (List Int):=if x.kind=2 then walk s x.b 8 x.a else if ct s x.a=x.b then some [x.a] else none
def ftp (s:GState) (x:GAtom):List Int:=(acV s x).getD []
variable {s:GState} {q e m:Int} {ns ms:List Int} {a b:GAsn} {L G:List GAtom} {p:List GAtom} {f:GAtom->List GAtom} {g:GAtom}
theorem Sg.cat (h:Sg s m q ns) (h2:Sg s e m ms):Sg s e q (ns ++ ms):=by
 induction h with
 | nil=>exact h2
 | step h1 _ ih=>exact .step h1 ih
theorem Sg.al (h:Sg s e q ns):∀ n ∈ ns,al s n=true:=by
 induction h with
 | nil=>intro n hn;cases hn
 | step h1 _ ih =>
  intro n hn
  rcases List.mem_cons.1 hn with e | hn
  ·rw [e];exact h1
  ·exact ih n hn
theorem walk_sg:∀ (k:Nat) (q:Int) (ns:List Int),walk s e k q=some ns->Sg s e q ns/\e ∉ ns:=by
 intro k
 induction k with
 | zero =>
  intro q ns h
  simp only [walk] at h
  split at h
  ·rename_i hq;injection h with h;subst h;subst hq;exact ⟨.nil,by simp⟩
  ·cases h
 | succ k ih =>
  intro q ns h
  simp only [walk] at h
  split at h
  ·rename_i hq;injection h with h;subst h;subst hq;exact ⟨.nil,by simp⟩
  ·rename_i hq
   cases ha:al s q with
   | false=>rw [ha] at h;cases h
   | true =>
    rw [ha,cond_true] at h
    cases hw:walk s e k (ct s q) with
    | none=>rw [hw] at h;cases h
    | some ms =>
     rw [hw] at h
     injection h with h
     subst h
     obtain ⟨h1,h2⟩:=ih _ _ hw
     refine ⟨.step ha h1,fun hm=>?_⟩
     rcases List.mem_cons.1 hm with e1 | hm
     ·exact hq e1.symm
     ·exact h2 hm
theorem sg_walk (h:Sg s e q ns):∀ k:Nat,e ∉ ns->ns.length<=k->walk s e k q=some ns:=by
 induction h with
 | nil=>intro k _ _;cases k <;> simp [walk]
 | @step q ns h1 h2 ih =>
  intro k hn hk
  have hne:¬ q=e:=fun hq=>hn (by rw [hq];simp)
  cases k with
  | zero=>simp at hk
  | succ k =>
   simp only [walk]
   rw [if_neg hne,h1,cond_true,ih k (fun hm=>hn (by simp [hm])) (by simpa using hk)]
   rfl
theorem acO_V {x:GAtom}:acO s x=acV s (imA (tv s.vals) x):=rfl
theorem ac_ftp {x:GAtom} (h:(acV s x).isSome=true):acV s x=some (ftp s x):=by
 obtain ⟨c,hc⟩:=Option.isSome_iff_exists.1 h
 unfold ftp;rw [hc];rfl
theorem ftp_sg {x:GAtom} (h:(acV s x).isSome=true) (hb:0<=x.b):Sg s x.b x.a (ftp s x):=by
 have h:=ac_ftp h
 unfold acV at h
 by_cases hk:x.kind=2
 ·rw [if_pos hk] at h;exact (walk_sg _ _ _ h).1
 ·rw [if_neg hk] at h
  split at h
  ·rename_i hc
   injection h with h
   rw [← h]
   refine .step (by unfold Go.SE.al;rw [hc];exact decide_eq_true hb) ?_
   rw [hc];exact .nil
  ·cases h
theorem ftp_head {x:GAtom} (h:(acV s x).isSome=true) (hne:x.kind=2->x.a ≠ x.b):x.a ∈ ftp s x:=by
 have h:=ac_ftp h
 unfold acV at h
 by_cases hk:x.kind=2
 ·rw [if_pos hk] at h;exact (walk_al _ _ _ h).2 (hne hk)
 ·rw [if_neg hk] at h
  split at h
  ·injection h with h
   rw [← h];simp
  ·cases h
theorem Pth.first {L:List GAtom} {y q:Int} {p:List GAtom} (h:Pth L y q p) {x:GAtom} (hx:x ∈ p) (e:x.a=y):q=y:=by
 induction h with
 | last h1 h2=>rw [List.mem_singleton] at hx;rw [hx] at e;exact e
 | @step x0 p h1 h2 h3 ih =>
  rcases List.mem_cons.1 hx with e2 | hx
  ·rw [e2] at e;exact e
  ·exact (h2 (ih hx)).elim
end Go.SE
namespace Go.SE
open Go.RowKit
structure Hp (s:GState) (L:List GAtom):Prop where
 pos:Pos 0 L
 ne:∀ x ∈ L,x.kind=2->x.a ≠ x.b
 vb:∀ x ∈ L,0<=x.b
 ac:∀ x ∈ L,(acV s x).isSome=true
 nd:(L.flatMap (ftp s)).Nodup
end Go.SE
namespace Go.SE
variable [Base]
variable {s:GState} {q e m:Int} {ns ms:List Int} {a b:GAsn} {L G:List GAtom} {p:List GAtom} {f:GAtom->List GAtom} {g:GAtom}
open Go.RowKit
theorem Hp.own (h:Hp s L) {x x':GAtom} (hx:x ∈ L) (hx':x' ∈ L) {n:Int} (h1:n ∈ ftp s x) (h2:n ∈ ftp s x'):x=x':=by
 have hd:=h.nd
 unfold List.Nodup at hd
 rw [List.pairwise_flatMap] at hd
 have key:∀ {l:List GAtom},(l.Pairwise fun x x'=>∀ n ∈ ftp s x,∀ n' ∈ ftp s x',n ≠ n')->x ∈ l->x' ∈ l->x=x':=by
  intro l hl a1 a2
  induction l with
  | nil=>cases a1
  | cons a l ih =>
   rw [List.pairwise_cons] at hl
   rcases List.mem_cons.1 a1 with e1 | a3 <;> rcases List.mem_cons.1 a2 with e2 | a4
   ·rw [e1,e2]
   ·rw [e1] at h1;exact (hl.1 _ a4 n h1 n h2 rfl).elim
   ·rw [e2] at h2;exact (hl.1 _ a3 n h2 n h1 rfl).elim
   ·exact ih hl.2 a3 a4
 exact key hd.2 hx hx'
theorem al_le8 (hd:ns.Nodup) (h:∀ n ∈ ns,al s n=true):ns.length<=8:=by
 have hp:ns.Perm (addrs.filter fun n=>decide (n ∈ ns)):=by
  rw [List.perm_ext_iff_of_nodup hd (List.Nodup.sublist List.filter_sublist (by decide))]
  intro n
  rw [List.mem_filter,decide_eq_true_eq]
  refine ⟨fun hn=>⟨?_,hn⟩,fun hn=>hn.2⟩
  have:=al_range (h n hn)
  have:n=1 ∨ n=2 ∨ n=3 ∨ n=4 ∨ n=5 ∨ n=6 ∨ n=7 ∨ n=8:=by omega
  unfold addrs
  simpa using this
 rw [hp.length_eq]
 exact List.length_filter_le _ _
theorem pth_sg (h:Hp s L) {y:Int} (hp:Pth L y q p):Sg s y q (p.flatMap (ftp s)):=by
 induction hp with
 | @last x h1 e =>
  have:=ftp_sg (h.ac x h1) (h.vb x h1)
  rw [e] at this
  simpa using this
 | @step x p h1 e h3 ih =>
  rw [List.flatMap_cons]
  exact (ftp_sg (h.ac x h1) (h.vb x h1)).cat ih
theorem pth_end (h:Hp s L) {y:Int} (hp:Pth L y q p) (hq:q ≠ y) (ho:Opn 0 L y p):y ∉ p.flatMap (ftp s):=by
 intro hm
 obtain ⟨x,hx,hy⟩:=List.mem_flatMap.1 hm
 have hxL:=hp.sub x hx
 rcases ho with ho | ⟨x',hx',e⟩ | ho
 ·have:=al_range ((ftp_sg (h.ac x hxL) (h.vb x hxL)).al y hy)
  omega
 ·have h1:=ftp_head (h.ac x' hx') (h.ne x' hx')
  rw [e] at h1
  have:=h.own hxL hx' hy h1
  subst this
  exact hq (hp.first hx e)
 ·have hac:=ac_ftp (h.ac x hxL)
  unfold acV at hac
  by_cases hk:x.kind=2
  ·rw [if_pos hk] at hac
   by_cases hb:x.b=y
   ·rw [hb] at hac;exact (walk_sg _ _ _ hac).2 hy
   ·exact ho x (hp.inner hx hb) hk
  ·rw [if_neg hk] at hac
   split at hac
   ·injection hac with hac
    rw [← hac,List.mem_singleton] at hy
    exact hq (hp.first hx hy.symm)
   ·cases hac
theorem flatMap_sub (h:Hp s L) (hp:Pth L e q p) (hd:(p.flatMap (ftp s)).Nodup):(p.flatMap (ftp s)).length<=8:=al_le8 hd (pth_sg h hp).al
theorem match_ac (h:Hp s L) (hf:MtF 0 L G f) (hne:∀ g ∈ G,g.kind=2->g.a ≠ g.b) (hk:∀ g ∈ G,g.kind ≠ 1->g.kind=2):∀ g ∈ G,acV s g=some ((f g).flatMap (ftp s)):=by
 intro g hg
 have hnd:((G.flatMap f).flatMap (ftp s)).Nodup:=((hf.all.flatMap_right (ftp s)).nodup_iff).2 h.nd
 rw [List.flatMap_assoc] at hnd
 unfold List.Nodup at hnd
 rw [List.pairwise_flatMap] at hnd
 have hd:=hnd.1 g hg
 rcases hf.ok g hg with ⟨k1,m1,e1⟩ | ⟨k1,p1,o1⟩
 ·rw [e1,ac_ftp (h.ac g m1)]
  simp
 ·have k2:=hk g hg k1
  have hq:=hne g hg k2
  unfold acV
  rw [if_pos k2]
  exact sg_walk (pth_sg h p1) 8 (pth_end h p1 hq o1) (flatMap_sub h p1 hd)
theorem match_hp (h:Hp s L) (hf:MtF 0 L G f) (hne:∀ g ∈ G,g.kind=2->g.a ≠ g.b) (hk:∀ g ∈ G,g.kind ≠ 1->g.kind=2):(∀ g ∈ G,(acV s g).isSome=true)/\(G.flatMap (ftp s)).Perm (L.flatMap (ftp s)):=by
 have ha:=match_ac h hf hne hk
 refine ⟨fun g hg=>by rw [ha g hg];rfl,?_⟩
 have e:G.flatMap (ftp s)=(G.flatMap f).flatMap (ftp s):=by
  rw [List.flatMap_assoc,List.flatMap_def,List.flatMap_def]
  congr 1
  refine List.map_congr_left fun g hg=>?_
  unfold ftp
  rw [show acV s g=_ from ha g hg]
  rfl
 rw [e]
 exact hf.all.flatMap_right _
theorem ptO_iff:∀ (l:List GAtom) (M N:List Int),M.Nodup->(ptO s M l=some N ↔ (∀ x ∈ l,(acO s x).isSome=true)/\N=M ++ l.flatMap (fun x=>ftp s (imA (tv s.vals) x))/\N.Nodup):=by
 intro l
 induction l with
 | nil =>
  intro M N hM
  simp only [ptO,List.not_mem_nil,false_imp_iff,implies_true,true_and,List.flatMap_nil,List.append_nil]
  exact ⟨fun h=>by injection h with h;rw [← h];exact ⟨rfl,hM⟩,fun h=>by rw [h.1]⟩
 | cons x l ih =>
  intro M N hM
  simp only [ptO]
  cases hx:acO s x with
  | none =>
   simp only [reduceCtorEq,false_iff,not_and]
   intro h
   have:=h x (by simp)
   rw [hx] at this;cases this
  | some c =>
   have hc:ftp s (imA (tv s.vals) x)=c:=by unfold ftp;rw [← acO_V,hx];rfl
   rw [List.flatMap_cons,hc,← List.append_assoc]
   simp only
   have hcon:(c.all (fun n=>!M.contains n) && decide c.Nodup)=true ↔ (M ++ c).Nodup:=by
    rw [Bool.and_eq_true,decide_eq_true_eq,List.nodup_append,List.all_eq_true]
    constructor
    ·rintro ⟨h1,h2⟩
     refine ⟨hM,h2,fun n hn n' hn' e=>?_⟩
     have:=h1 n' hn'
     rw [Bool.not_eq_true',con_no] at this
     exact this (by rw [← e];exact hn)
    ·rintro ⟨_,h2,h3⟩
     refine ⟨fun n hn=>?_,h2⟩
     rw [Bool.not_eq_true',con_no]
     exact fun hm=>h3 n hm n hn rfl
   cases hb:(c.all (fun n=>!M.contains n) && decide c.Nodup) with
   | false =>
    simp only [cond_false,reduceCtorEq,false_iff,not_and]
    rintro _ rfl hnd
    have:=(List.nodup_append.1 hnd).1
    rw [← hcon,hb] at this
    cases this
   | true =>
    rw [cond_true,ih (M ++ c) N (hcon.1 hb)]
    refine and_congr_left fun _=>?_
    constructor
    ·intro h y hy
     rcases List.mem_cons.1 hy with e | hy
     ·rw [e,hx];rfl
     ·exact h y hy
    ·intro h y hy;exact h y (by simp [hy])
theorem flat_filt:∀ (l:List GAtom),l.all atV=true->l.flatMap (fun x=>ftp s (imA (tv s.vals) x))=(fv (tv s.vals) l).flatMap (ftp s):=by
 intro l
 induction l with
 | nil=>intro _;rfl
 | cons x l ih =>
  intro h
  rw [List.all_cons,Bool.and_eq_true] at h
  have ih:=ih h.2
  unfold fv filt at ih ⊢
  rw [List.flatMap_cons,ih,List.filter_cons]
  split
  ·rw [List.map_cons,List.flatMap_cons]
  ·rename_i hn
   have hk:=atV_kind h.1
   simp only [Bool.or_eq_true,beq_iff_eq,Bool.not_eq_true',beq_eq_false_iff_ne,ne_eq,not_or,Decidable.not_not] at hn
   have e:ftp s (imA (tv s.vals) x)=[]:=by
    unfold ftp acV
    rw [if_pos (show (imA (tv s.vals) x).kind=2 from hk hn.1)]
    show (walk s (tv s.vals x.b) 8 (tv s.vals x.a)).getD []=[]
    rw [hn.2,walk_same];rfl
   rw [e];rfl
theorem hol_iff (hs:stV s=true) (ha:asV a=true):HOL s a=true ↔ (∀ f ∈ a.facts,(tv s.vals f.a == tv s.vals f.b)=f.eq)/\(∀ x ∈ fv (tv s.vals) a.atoms,(acV s x).isSome=true)/\((fv (tv s.vals) a.atoms).flatMap (ftp s)).Nodup /\
  ∀ n ∈ addrs,(n ∈ (fv (tv s.vals) a.atoms).flatMap (ftp s) ↔ al s n=true):=by
 have hA:=asV_at ha
 unfold HOL
 rw [hs,ha,Bool.true_and,Bool.true_and,Bool.and_eq_true]
 refine and_congr ?_ ?_
 ·unfold fctB
  rw [List.all_eq_true]
  exact ⟨fun h f hf=>by simpa using h f hf,fun h f hf=>by simpa using h f hf⟩
 ·have key:=ptO_iff (s:=s) a.atoms []
  have hsome:(∀ x ∈ a.atoms,(acO s x).isSome=true) ↔ ∀ x ∈ fv (tv s.vals) a.atoms,(acV s x).isSome=true:=by
   constructor
   ·intro h x hx
    obtain ⟨y,hy,rfl⟩:=List.mem_map.1 hx
    rw [← acO_V];exact h y (List.mem_filter.1 hy).1
   ·intro h x hx
    by_cases hf:(x.kind == 1 || !(tv s.vals x.a == tv s.vals x.b))=true
    ·rw [acO_V];exact h _ (List.mem_map_of_mem (List.mem_filter.2 ⟨hx,hf⟩))
    ·have hk:=atV_kind (List.all_eq_true.1 hA x hx)
     simp only [Bool.or_eq_true,beq_iff_eq,Bool.not_eq_true',beq_eq_false_iff_ne,ne_eq,not_or,Decidable.not_not] at hf
     unfold acO
     rw [if_pos (hk hf.1),hf.2,walk_same];rfl
  have hall:∀ N:List Int,(addrs.all fun n=>N.contains n == al s n)=true ↔ ∀ n ∈ addrs,(n ∈ N ↔ al s n=true):=fun N=>by
   rw [List.all_eq_true]
   refine forall_congr' fun n=>forall_congr' fun _=>?_
   rw [beq_iff_eq,Bool.eq_iff_iff,List.contains_iff_mem]
  constructor
  ·intro h
   cases hp:ptO s [] a.atoms with
   | none=>rw [hp] at h;cases h
   | some N =>
    rw [hp] at h
    obtain ⟨h1,h2,h3⟩:=(key N List.nodup_nil).1 hp
    rw [List.nil_append,flat_filt _ hA] at h2
    rw [h2] at h3 h
    exact ⟨hsome.1 h1,h3,(hall _).1 h⟩
  ·rintro ⟨h1,h2,h3⟩
   rw [(key ((fv (tv s.vals) a.atoms).flatMap (ftp s)) List.nodup_nil).2 ⟨hsome.2 h1,by rw [List.nil_append,flat_filt _ hA],h2⟩]
   exact (hall _).2 h3
theorem fv_ne {v:Int->Int} {l:List GAtom} (hl:l.all atV=true):∀ x ∈ fv v l,x.kind=2->x.a ≠ x.b:=fun x hx hk=>by
 obtain ⟨y,hy,rfl⟩:=List.mem_map.1 hx
 have:=(List.mem_filter.1 hy).2
 have hk:y.kind=2:=hk
 rw [hk] at this
 simpa [imA] using this
theorem ent_hol (h:ENT a b=true) (hh:HOL s a=true):HOL s b=true:=by
 obtain ⟨ha,hb,hq⟩:=ent_iff.1 h
 obtain ⟨hs,_,hv⟩:=hol_poss hh
 have hq:=hq _ hv
 obtain ⟨h1,h2,h3,h4⟩:=(hol_iff hs ha).1 hh
 have h0:tv s.vals 0=0:=rfl
 have hpos:=fv_pos (asV_at ha) hv
 have hmt:=hq.mt
 rw [h0] at hpos hmt
 obtain ⟨f,hf⟩:=hmt
 have hH:Hp s (fv (tv s.vals) a.atoms):=⟨hpos,fv_ne (asV_at ha),fun x hx=>by
  obtain ⟨y,hy,rfl⟩:=List.mem_map.1 hx
  exact (tv_isT hs (atV_isT (List.all_eq_true.1 (asV_at ha) y (List.mem_filter.1 hy).1)).2).1,h2,h3⟩
 obtain ⟨g1,g2⟩:=match_hp hH hf (fv_ne (asV_at hb)) (fv_kind (asV_at hb))
 exact (hol_iff hs hb).2 ⟨hq.facts,g1,(g2.nodup_iff).2 h3,fun n hn=>by rw [g2.mem_iff];exact h4 n hn⟩
end Go.SE

namespace Go.SE
variable [Base]
open Go.RowKit
end Go.SE

namespace Go.SE
variable [Base]
def qcI (s:GState):Nat->Int
 | 0=>0
 | n+1=>if al s (8 - n) then qcI s n else 8 - n
def qcV (s:GState):Int:=if stV s then qcI s 8 else 0
def qcS (s:GState):GState:=if qcV s=0 then ⟨[],[]⟩ else ⟨s.vals,s.heap.set (qcV s - 1).toNat 0⟩
def bK (s:GState) (c:GCmd):Int :=
 if c.kind=2 then (if al s (tv s.vals c.b) then 0 else 1)
 else if c.kind=3 ∨ c.kind=5 then (if al s (tv s.vals c.a) then 0 else 1)
 else if c.kind=4 then (if qcV s=0 then 2 else 0)
 else 0
def bS (s:GState) (c:GCmd):GState :=
 if c.kind=1 then ⟨s.vals.set (c.a - 1).toNat (tv s.vals c.b),s.heap⟩
 else if c.kind=2 then ⟨s.vals.set (c.a - 1).toNat (ct s (tv s.vals c.b)),s.heap⟩
 else if c.kind=3 then ⟨s.vals,s.heap.set (tv s.vals c.a - 1).toNat (tv s.vals c.b)⟩
 else if c.kind=4 then ⟨(qcS s).vals.set (c.a - 1).toNat (qcV s),(qcS s).heap⟩
 else if c.kind=5 then ⟨s.vals,s.heap.set (tv s.vals c.a - 1).toNat (-1)⟩
 else s
def bR (s:GState) (c:GCmd):GState:=if bK s c=0 then bS s c else ⟨[],[]⟩
def rbOk (s:GState) (c:GCmd):Bool:=stV s && fokB c
def rbK (s:GState) (c:GCmd):Int:=if rbOk s c then bK s c else 4
def rbS (s:GState) (c:GCmd):GState:=if rbOk s c then bR s c else ⟨[],[]⟩
theorem basic_iff (c:GCmd):(decide (1<=c.kind) && decide (c.kind<=5) && fokC c)=fokB c:=by
 unfold fokC
 by_cases h6:c.kind=6
 ·simp [h6,fokB]
 ·by_cases h7:c.kind=7
  ·simp [h7,fokB]
  ·simp only [h6,h7,if_false]
   unfold fokB
   by_cases h1:c.kind=1 ∨ c.kind=2
   ·have:decide (1<=c.kind)=true/\decide (c.kind<=5)=true:=by simp;omega
    simp [this.1,this.2]
   ·by_cases h3:c.kind=3
    ·simp [h3]
    ·by_cases h4:c.kind=4
     ·simp [h4]
     ·by_cases h5:c.kind=5
      ·simp [h5]
      ·simp [h1,h3,h4,h5]
theorem kind_of {c:GCmd} (h:fokB c=true):1<=c.kind/\c.kind<=5:=by
 rw [← basic_iff] at h
 simp only [Bool.and_eq_true,decide_eq_true_eq] at h
 exact h.1
theorem qcI_step {s:GState} {i:Nat} (h0:1<=i) (h1:i<=8) (h:al s i=true):qcI s (9 - i)=qcI s (9 - (i+1)):=by
 have e:9 - i=(8 - i)+1:=by omega
 have e2:9 - (i+1)=8 - i:=by omega
 have e3:(8:Int) - ((8 - i:Nat):Int)=i:=by omega
 rw [e,e2]
 show (if al s (8 - ((8 - i:Nat):Int)) then qcI s (8 - i) else 8 - ((8 - i:Nat):Int))=_
 rw [e3,if_pos h]
theorem qcI_found {s:GState} {i:Nat} (h0:1<=i) (h1:i<=8) (h:al s i=false):qcI s (9 - i)=i:=by
 have e:9 - i=(8 - i)+1:=by omega
 have e3:(8:Int) - ((8 - i:Nat):Int)=i:=by omega
 rw [e]
 show (if al s (8 - ((8 - i:Nat):Int)) then qcI s (8 - i) else 8 - ((8 - i:Nat):Int))=_
 rw [e3,h]
 rfl
theorem qcI_rng (s:GState):∀ n,n<=8->0<=qcI s n/\qcI s n<=8:=by
 intro n
 induction n with
 | zero=>intro _;simp [qcI]
 | succ n ih =>
  intro h
  have:=ih (by omega)
  unfold qcI
  split
  ·exact this
  ·omega
theorem qcV_rng (s:GState):0<=qcV s/\qcV s<=8:=by
 unfold qcV;split
 ·exact qcI_rng s 8 (Nat.le_refl _)
 ·omega
theorem al_in {s:GState} {n:Int} (h:al s n=true):1<=n/\n<=8/\ct s n=s.heap.getD (n - 1).toNat 0:=by
 have h':0<=ct s n:=of_decide_eq_true h
 by_cases hc:1<=n/\n<=8
 ·exact ⟨hc.1,hc.2,by simp [ct,hc]⟩
 ·have e:ct s n=-1:=by simp only [ct,if_neg hc]
  omega
theorem stV_lens {s:GState} (h:stV s=true):s.vals.length=8/\s.heap.length=8:=by
 simp only [stV,Bool.and_eq_true,beq_iff_eq] at h
 exact ⟨h.1.1.1,h.1.1.2⟩
theorem pvV_iff {t:Int}:pvV t=true ↔ 1<=t/\t<=4:=by simp [pvV]
theorem fok_of {c:GCmd} (h:fokB c=true):(1<=c.kind/\c.kind<=5)/\isT c.a=true/\isT c.b=true/\(c.kind=1 ∨ c.kind=2 ∨ c.kind=4->1<=c.a/\c.a<=4):=by
 have hk:=kind_of h
 refine ⟨hk,?_⟩
 have hp:pvV c.a=true->isT c.a=true:=fun h=>by rw [pvV_iff] at h;simp [isT];omega
 have hz:c.b=0->isT c.b=true:=fun h=>by simp [isT,h]
 unfold fokB at h
 rw [Bool.and_eq_true] at h
 obtain ⟨-,h⟩:=h
 split at h
 ·simp only [Bool.and_eq_true] at h
  exact ⟨hp h.1,h.2,fun _=>pvV_iff.1 h.1⟩
 ·split at h
  ·simp only [Bool.and_eq_true] at h
   exact ⟨h.1,h.2,fun h'=>by omega⟩
  ·split at h
   ·simp only [Bool.and_eq_true,beq_iff_eq] at h
    exact ⟨hp h.1,hz h.2,fun _=>pvV_iff.1 h.1⟩
   ·split at h
    ·simp only [Bool.and_eq_true,beq_iff_eq] at h
     exact ⟨h.1,hz h.2,fun h'=>by omega⟩
    ·cases h
theorem qcV_of {s:GState} {i:Nat} (hs:stV s=true) (h0:1<=i) (h1:i<=8) (he:qcI s (9 - i)=qcI s 8) (h:al s i=false):qcV s=i/\qcS s=⟨s.vals,s.heap.set ((i:Int) - 1).toNat 0⟩:=by
 have e:qcV s=i:=by rw [qcV,if_pos hs,← he,qcI_found h0 h1 h]
 exact ⟨e,by rw [qcS,if_neg (by omega),e]⟩
theorem qcV_none {s:GState} {i:Nat} (h1:¬ i<=8) (h2:i<=9) (he:qcI s (9 - i)=qcI s 8):qcV s=0/\qcS s=⟨[],[]⟩:=by
 have e:i=9:=by omega
 subst e
 have e2:qcV s=0:=by
  unfold qcV;split
  ·rw [← he];rfl
  ·rfl
 exact ⟨e2,by rw [qcS,if_pos e2]⟩
theorem qcV_bad {s:GState} (h:stV s=false):qcV s=0/\qcS s=⟨[],[]⟩:=by
 have e2:qcV s=0:=by rw [qcV,h];rfl
 exact ⟨e2,by rw [qcS,if_pos e2]⟩
end Go.SE
namespace Go.SE
structure SimL (l:List GCmd):Prop where
 pos:0 < l.length
 len:l.length<=16
 all:∀ c ∈ l,c.body=[]/\c.els=[]/\c.inv=⟨[],[]⟩
end Go.SE
namespace Go.SE
variable [Base]
theorem SimL.one {c:GCmd} (h1:c.body=[]) (h2:c.els=[]) (h3:c.inv=⟨[],[]⟩):SimL [c]:=⟨by simp,by simp,by simp [h1,h2,h3]⟩
theorem wtC_sim {c:GCmd} (h1:c.body=[]) (h2:c.els=[]) (h3:c.inv=⟨[],[]⟩):wtC c=0:=by
 rw [wtC_eq,h1,h2,h3];simp [wcL]
theorem SimL.wt {l:List GCmd} (h:∀ c ∈ l,c.body=[]/\c.els=[]/\c.inv=⟨[],[]⟩):wcL l=0:=by
 induction l with
 | nil=>exact wcL_nil
 | cons c l ih =>
  have h1:=h c (by simp)
  rw [wcL_cons,wtC_sim h1.1 h1.2.1 h1.2.2,ih fun d hd=>h d (by simp [hd])]
end Go.SE

namespace Go.SE
variable [Base]
open Go.RowKit
section
variable {P:Program}
def OkAQ (w:World) (a:Addr):Prop:=∃ vs ty,w.heap[a.block]?=some (.cells vs ty (0,0))
def kv (a b:Addr) (n:Int):Value:=.agg #[.pointer (some a),.pointer (some b),.int .i64 n]
end
end Go.SE

namespace Go.SE
open Go.RowKit
theorem getD_ext {α:Type} {xs ys:List α} (z:α) (hl:xs.length=ys.length) (h:∀ i,i < xs.length->xs.getD i z=ys.getD i z):xs=ys:=by
 apply List.ext_getElem hl
 intro i h1 h2
 have:=h i h1
 simpa [List.getD_eq_getElem?_getD,h1,h2] using this
variable [Base]
theorem DR.val_eq {ro:Nat->Option (Array Value)} {x v:Value} (h:DR ro (.val x) v):v=x:=by
 generalize hc:DC.val x=c at h
 cases h with
 | val x' h=>injection hc with hc;exact hc.symm
 | nil=>cases hc
 | emp=>cases hc
 | arr=>cases hc
 | fix=>cases hc
 | ne=>cases hc
theorem DR.fix_inv {ro:Nat->Option (Array Value)} {t:Ty} {xs:List t.den} {u v:Value} (h:DR ro (.fix t xs u) v):v=u/\DR ro (.arr t xs) v:=by
 generalize hc:DC.fix t xs u=c at h
 cases h with
 | val=>cases hc
 | nil=>cases hc
 | emp=>cases hc
 | arr=>cases hc
 | ne=>cases hc
 | fix t' xs' v' h' =>
  injection hc with h1 h2 h3
  subst h1
  cases h2
  exact ⟨h3.symm,h'⟩
theorem row_val {ro:Nat->Option (Array Value)} {ds es:List DC} {vs:Array Value} {o k:Nat} {x y:Value} (h:RowR ro ds vs o) (h':RowR ro es vs o) (hx:ds[k]?=some (.val x)) (hy:es[k]?=some (.val y)):x=y:=by
 obtain ⟨u,h1,h2⟩:=h k _ hx
 obtain ⟨u',h3,h4⟩:=h' k _ hy
 rw [h1] at h3
 injection h3 with h3
 rw [← h2.val_eq,← h4.val_eq,h3]
theorem DR.same_place {ro:Nat->Option (Array Value)} {t:Ty} {xs ys:List t.den} {v:Value} (h:DR ro (.arr t xs) v) (h':DR ro (.arr t ys) v) :
  (xs=[]/\ys=[]) ∨ ∃ vs o,xs.length=ys.length/\RowR ro (flat t xs) vs o/\RowR ro (flat t ys) vs o:=by
 rcases h.arr_inv with ⟨⟨a,h1⟩,h2⟩ | ⟨b,o,cap,vs,h1,h2,h3,h4,h5,_⟩
 ·rcases h'.arr_inv with ⟨_,h4⟩ | ⟨b',o',cap',vs',k1,_⟩
  ·exact .inl ⟨h2,h4⟩
  ·rw [h1] at k1
   injection k1 with k1 k2 k3
   exact .inl ⟨h2,List.eq_nil_of_length_eq_zero k2.symm⟩
 ·rcases h'.arr_inv with ⟨⟨a,k1⟩,k2⟩ | ⟨b',o',cap',vs',k1,k2,k3,k4,k5,_⟩
  ·rw [h1] at k1
   injection k1 with k1 k3
   exact .inl ⟨List.eq_nil_of_length_eq_zero k3,k2⟩
  ·rw [h1] at k1
   injection k1 with k1 k6 k7
   injection k1 with k1
   injection k1 with k8 k9
   subst k8 k9
   rw [h2] at k2
   injection k2 with k2
   subst k2
   exact .inr ⟨vs,o,k6,h5,k5⟩
theorem DR.fact_uniq {ro:Nat->Option (Array Value)} {xs ys:List GFact} {v:Value} (h:DR ro (.arr .fact xs) v) (h':DR ro (.arr .fact ys) v):xs=ys:=by
 rcases h.same_place h' with ⟨h1,h2⟩ | ⟨vs,o,hl,h1,h2⟩
 ·rw [h1,h2]
 ·refine getD_ext (Ty.zero .fact) hl fun i hi=>?_
  have e:∀ j,j < 3->(flat .fact xs)[i * 3+j]?=(Ty.cells .fact (xs.getD i (Ty.zero .fact)))[j]?:=fun j hj=>flat_get .fact xs i j hi hj
  have e':∀ j,j < 3->(flat .fact ys)[i * 3+j]?=(Ty.cells .fact (ys.getD i (Ty.zero .fact)))[j]?:=fun j hj=>flat_get .fact ys i j (by omega) hj
  have v0:=row_val h1 h2 ((e 0 (by omega)).trans rfl) ((e' 0 (by omega)).trans rfl)
  have v1:=row_val h1 h2 ((e 1 (by omega)).trans rfl) ((e' 1 (by omega)).trans rfl)
  have v2:=row_val h1 h2 ((e 2 (by omega)).trans rfl) ((e' 2 (by omega)).trans rfl)
  generalize xs.getD i (Ty.zero .fact)=x at v0 v1 v2
  generalize ys.getD i (Ty.zero .fact)=y at v0 v1 v2
  obtain ⟨a,b,c⟩:=x
  obtain ⟨a',b',c'⟩:=y
  simp at v0 v1 v2
  rw [v0,v1,v2]
theorem DR.atom_uniq {ro:Nat->Option (Array Value)} {xs ys:List GAtom} {v:Value} (h:DR ro (.arr .atom xs) v) (h':DR ro (.arr .atom ys) v):xs=ys:=by
 rcases h.same_place h' with ⟨h1,h2⟩ | ⟨vs,o,hl,h1,h2⟩
 ·rw [h1,h2]
 ·refine getD_ext (Ty.zero .atom) hl fun i hi=>?_
  have e:∀ j,j < 3->(flat .atom xs)[i * 3+j]?=(Ty.cells .atom (xs.getD i (Ty.zero .atom)))[j]?:=fun j hj=>flat_get .atom xs i j hi hj
  have e':∀ j,j < 3->(flat .atom ys)[i * 3+j]?=(Ty.cells .atom (ys.getD i (Ty.zero .atom)))[j]?:=fun j hj=>flat_get .atom ys i j (by omega) hj
  have v0:=row_val h1 h2 ((e 0 (by omega)).trans rfl) ((e' 0 (by omega)).trans rfl)
  have v1:=row_val h1 h2 ((e 1 (by omega)).trans rfl) ((e' 1 (by omega)).trans rfl)
  have v2:=row_val h1 h2 ((e 2 (by omega)).trans rfl) ((e' 2 (by omega)).trans rfl)
  generalize xs.getD i (Ty.zero .atom)=x at v0 v1 v2
  generalize ys.getD i (Ty.zero .atom)=y at v0 v1 v2
  obtain ⟨a,b,c⟩:=x
  obtain ⟨a',b',c'⟩:=y
  simp at v0 v1 v2
  rw [v0,v1,v2]
theorem xsize {xs:List XCmd} {i:Nat} (hi:i < xs.length):SizeOf.sizeOf (xs.getD i (Ty.zero .xcmd)).body < SizeOf.sizeOf xs/\SizeOf.sizeOf (xs.getD i (Ty.zero .xcmd)).els < SizeOf.sizeOf xs:=by
 have e:xs.getD i (Ty.zero .xcmd)=xs[i]:=by simp [List.getD_eq_getElem?_getD,hi]
 have h1:SizeOf.sizeOf xs[i] < SizeOf.sizeOf xs:=List.sizeOf_lt_of_mem (List.getElem_mem hi)
 rw [e]
 generalize xs[i]=c at h1
 obtain ⟨k,a,b,t,inv,bv,bo,lv,el⟩:=c
 simp only [XCmd.mk.sizeOf_spec] at h1
 simp only [XCmd.body,XCmd.els]
 omega
theorem DR.xuniq {ro:Nat->Option (Array Value)}:∀ (n:Nat) (xs ys:List XCmd) (v:Value),SizeOf.sizeOf xs<=n->DR ro (.arr .xcmd xs) v->DR ro (.arr .xcmd ys) v->xs=ys:=by
 intro n
 induction n with
 | zero=>intro xs ys v hn;cases xs <;> simp at hn <;> omega
 | succ n ih =>
  intro xs ys v hn h h'
  rcases h.same_place h' with ⟨h1,h2⟩ | ⟨vs,o,hl,h1,h2⟩
  ·rw [h1,h2]
  ·refine getD_ext (Ty.zero .xcmd) hl fun i hi=>?_
   have e:∀ j,j < 10->(flat .xcmd xs)[i * 10+j]?=(Ty.cells .xcmd (xs.getD i (Ty.zero .xcmd)))[j]?:=fun j hj=>flat_get .xcmd xs i j hi hj
   have e':∀ j,j < 10->(flat .xcmd ys)[i * 10+j]?=(Ty.cells .xcmd (ys.getD i (Ty.zero .xcmd)))[j]?:=fun j hj=>flat_get .xcmd ys i j (by omega) hj
   have s1:=xsize hi
   have v0:=row_val h1 h2 ((e 0 (by omega)).trans rfl) ((e' 0 (by omega)).trans rfl)
   have v1:=row_val h1 h2 ((e 1 (by omega)).trans rfl) ((e' 1 (by omega)).trans rfl)
   have v2:=row_val h1 h2 ((e 2 (by omega)).trans rfl) ((e' 2 (by omega)).trans rfl)
   have v3:=row_val h1 h2 ((e 3 (by omega)).trans rfl) ((e' 3 (by omega)).trans rfl)
   have v4:=row_val h1 h2 ((e 4 (by omega)).trans rfl) ((e' 4 (by omega)).trans rfl)
   have v5:=row_val h1 h2 ((e 5 (by omega)).trans rfl) ((e' 5 (by omega)).trans rfl)
   obtain ⟨u6,a6,d6⟩:=h1 _ _ ((e 6 (by omega)).trans rfl)
   obtain ⟨w6,b6,c6⟩:=h2 _ _ ((e' 6 (by omega)).trans rfl)
   rw [a6] at b6;injection b6 with b6;subst b6
   obtain ⟨u7,a7,d7⟩:=h1 _ _ ((e 7 (by omega)).trans rfl)
   obtain ⟨w7,b7,c7⟩:=h2 _ _ ((e' 7 (by omega)).trans rfl)
   rw [a7] at b7;injection b7 with b7;subst b7
   obtain ⟨u8,a8,d8⟩:=h1 _ _ ((e 8 (by omega)).trans rfl)
   obtain ⟨w8,b8,c8⟩:=h2 _ _ ((e' 8 (by omega)).trans rfl)
   rw [a8] at b8;injection b8 with b8;subst b8
   obtain ⟨u9,a9,d9⟩:=h1 _ _ ((e 9 (by omega)).trans rfl)
   obtain ⟨w9,b9,c9⟩:=h2 _ _ ((e' 9 (by omega)).trans rfl)
   rw [a9] at b9;injection b9 with b9;subst b9
   have e6:=d6.fact_uniq c6
   have e7:=d7.atom_uniq c7
   obtain ⟨p8,q8⟩:=d8.fix_inv
   obtain ⟨p8',q8'⟩:=c8.fix_inv
   obtain ⟨p9,q9⟩:=d9.fix_inv
   obtain ⟨p9',q9'⟩:=c9.fix_inv
   have e8:=ih _ _ _ (by omega) q8 q8'
   have e9:=ih _ _ _ (by omega) q9 q9'
   have p8:=p8.symm.trans p8'
   have p9:=p9.symm.trans p9'
   generalize xs.getD i (Ty.zero .xcmd)=x at v0 v1 v2 v3 v4 v5 e6 e7 e8 e9 p8 p9
   generalize ys.getD i (Ty.zero .xcmd)=y at v0 v1 v2 v3 v4 v5 e6 e7 e8 e9 p8 p9
   obtain ⟨k,a,b,⟨t0,t1,t2⟩,⟨i0,i1⟩,bv,bo,lv,el⟩:=x
   obtain ⟨k',a',b',⟨t0',t1',t2'⟩,⟨i0',i1'⟩,bv',bo',lv',el'⟩:=y
   simp [XCmd.kind,XCmd.a,XCmd.b,XCmd.test,XCmd.inv,XCmd.bv,XCmd.body,XCmd.lv,XCmd.els] at v0 v1 v2 v3 v4 v5 e6 e7 e8 e9 p8 p9
   rw [v0,v1,v2,v3,v4,v5,e6,e7,e8,e9,p8,p9]
theorem DR.xplace {ro:Nat->Option (Array Value)} {xs:List XCmd} {v:Value} (h:DR ro (.arr .xcmd xs) v) (h0:0 < xs.length) :
  ∃ b o cap vs,v=.slice (some ⟨b,o,none⟩) xs.length cap/\ptrAt v 0=.pointer (some ⟨b,o,none⟩)/\ro b=some vs/\Base.n0<=b/\xs.length<=cap/\cap<=maxLen/\RowR ro (flat .xcmd xs) vs o:=by
 rcases h.arr_inv with ⟨_,h2⟩ | ⟨b,o,cap,vs,h1,h2,h3,h4,h5,h6⟩
 ·subst h2;simp at h0
 ·exact ⟨b,o,cap,vs,h1,by rw [h1];simp [ptrAt],h2,h6 rfl,h3,h4,h5⟩
end Go.SE

namespace Go.SE
variable [Base]
open Go.RowKit
abbrev XP:=(List XCmd × Value) × (List XCmd × Value)
abbrev MG:=Option (Nat × List XP)
def keyOf (p:XP):Value:=.agg #[ptrAt p.1.2 0,ptrAt p.2.2 0,.int .i64 p.1.1.length]
structure PairD (ro:Nat->Option (Array Value)) (p:XP):Prop where
 a:DR ro (.arr .xcmd p.1.1) p.1.2
 b:DR ro (.arr .xcmd p.2.1) p.2.2
 n:0 < p.1.1.length
 l:p.1.1.length=p.2.1.length
structure AMap (wE w0:World) (M:MM) (mb:Nat) (S:List XP):Prop where
 ge:wE.heap.size<=mb
 no:¬ M.can mb
 ps:∀ q ∈ S,PairD M.rok q
 hp:∃ es ck,w0.heap[mb]?=some (.map es ck)/\∀ e ∈ es.toList,e.val=.int .i64 1/\∃ q ∈ S,e.key=keyOf q
def AMm (wE w0:World) (M:MM):MG->Prop
 | none=>True
 | some (mb,S)=>AMap wE w0 M mb S
def AM (wE:World) (ro0:Nat->Option (Array Value)) (ρ:Nat):MG->List Deferred->World->MM->Prop:=fun γ ds w0 M =>
 ds=[]/\(∀ id,M.pin id=none/\M.pinl id=none)/\Ext (fun _=>False) wE w0/\(∀ b,M.can b->wE.heap.size<=b)/\(∀ b vs,M.ro b=some vs->ro0 b=some vs ∨ wE.heap.size<=b)/\M.rho=ρ/\AMm wE w0 M γ
section
variable {P:Program} {E:Ty->TypeId} {n:Nat} {wE w w0 w':World} {ro0:Nat->Option (Array Value)} {ρ:Nat} {γ γ':MG} {ds:List Deferred} {M:MM} {g:G} {st:St} {a:Act}
theorem AM.oo (h:AM wE ro0 ρ γ ds w0 M):OOk (fun _=>none) M :=
 ⟨fun id r hr=>(by simp at hr),fun id h'=>by rw [(h.2.1 id).1,(h.2.1 id).2] at h';simp at h',fun id h'=>by simp at h'⟩
theorem AM.ext (h:AM wE ro0 ρ γ ds w0 M) (hg:Good E w0 M g st w):Ext (fun _=>False) wE w:=by
 obtain ⟨_,_,he,hcan,_⟩:=h
 refine ⟨hg.ext.os.trans he.os,hg.ext.tape.trans he.tape,hg.ext.output.trans he.output,Nat.le_trans he.size hg.ext.size,fun b hb _=>?_⟩
 rw [hg.ext.block b (Nat.lt_of_lt_of_le hb he.size) fun hc=>by have:=hcan b hc;omega]
 exact he.block b hb fun h=>h
theorem AM.good (h:AM wE ro0 ρ γ ds w0 M) (hg:Good E w0 M g st w) (hrd:st.rd=none) (hE:Base.n0<=wE.heap.size):Good E wE (MOf false ρ ro0) g st w:=by
 have hx:=h.ext hg
 obtain ⟨_,_,he,hcan,hro,hrho,_⟩:=h
 refine ⟨⟨hx.os,hx.tape,hx.output,hx.size,fun b hb _=>hx.block b hb fun h=>h⟩,hg.ro,hg.res,hg.sep,fun id r hm hl b hb=>?_,hg.wro,?_,?_,fun b vs hb=>?_,⟨hg.rho.1.trans hrho,hE,fun b hb=>by cases hb.1⟩,fun _ _ h=>(by cases h),fun _ _ h=>(by cases h),fun _ _ h=>(by cases h)⟩
 ·rcases hg.fresh id r hm hl b hb with h1 | h1
  ·exact .inl (Nat.le_trans he.size h1)
  ·exact .inl (hcan b h1)
 ·intro k hk;rw [hrd] at hk;cases hk
 ·intro hk;exact absurd hrd hk
 ·rcases hg.roo b vs hb with h1 | h1 | h1
  ·rcases hro b vs h1 with h2 | h2
   ·exact .inl h2
   ·exact .inr (.inl h2)
  ·exact .inr (.inl (Nat.le_trans he.size h1))
  ·exact .inr (.inl (hcan b h1))
def reK (g:G) (st:St):MM:={ can:=fun b=>∃ id r,st.mem id=some r/\r.live/\blkOf (g.κ id)=some b,ro:=g.ro,rho:=g.ρ,rok:=g.ro }
theorem Good.reK {w0:World} {M:MM} (hg:Good E w0 M g st w) (hrd:st.rd=none) (h1:∀ b,(∃ id r,st.mem id=some r/\r.live/\blkOf (g.κ id)=some b)->w'.heap[b]?=w.heap[b]?)
  (h2:∀ b vs,g.ro b=some vs->w'.heap[b]?=w.heap[b]?) (h3:w.heap.size<=w'.heap.size):Good E w' (reK g st) g st w':=by
 refine ⟨Ext.refl _ _,?_,?_,hg.sep,?_,hg.wro,?_,?_,fun b vs hb=>.inl hb,⟨rfl,Nat.le_trans hg.roin.1 h3,fun b hb=>by obtain ⟨id,r,hm,hl,hb⟩:=hb;exact hg.nb hm hl hb⟩,fun id v hv=>?_,fun id k hk=>?_,fun b vs hb=>hb⟩
 ·intro b vs hb
  exact (hg.ro b vs hb).keep fun _=>h2 b vs hb
 ·intro id r hr
  by_cases hl:r.live
  ·exact (hg.res id r hr).keep (fun b hb=>h1 b ⟨id,r,hr,hl,hb⟩) (fun _ _ h=>h) rfl ⟨rfl,rfl⟩ fun _ _=>⟨rfl,rfl⟩
  ·cases r <;> first | exact (hl trivial).elim | trivial
 ·intro id r hr hl b hb
  exact .inr ⟨id,r,hr,hl,hb⟩
 ·intro k hk;rw [hrd] at hk;cases hk
 ·intro hk;exact absurd hrd hk
 ·cases hv
 ·cases hk
theorem ResR.cells {r:Res} {id:Nat} (h:ResR E w g id r) (hl:r.live) {b:Nat} (hb:blkOf (g.κ id)=some b):∃ vs ty,w.heap[b]?=some (.cells vs ty (0,0)):=by
 cases r with
 | blk cs =>
  obtain ⟨b',vs,ty,h1,h2,_⟩:=h
  rw [h1] at hb;simp [blkOf] at hb;subst hb;exact ⟨_,_,h2⟩
 | vec t xs =>
  obtain ⟨_,b',vs,ty,h1,h2,_⟩:=h
  rw [h1] at hb;simp [blkOf] at hb;subst hb;exact ⟨_,_,h2⟩
 | sl f t xs =>
  obtain ⟨_,h⟩:=h
  rcases h with ⟨h1,_⟩ | ⟨b',_,vs,h1,h2,_⟩
  ·rw [h1] at hb;simp [blkOf] at hb
  ·rw [h1] at hb;simp [blkOf] at hb;subst hb;exact ⟨_,_,h2⟩
 | dead=>exact hl.elim
theorem AM.re (h:AM wE ro0 ρ γ a.defers w0 M) (hr:Rel E w0 M n st (bareA a) w) (hg:Good E w0 M g st w) (henv:∀ x,(st.env x).R g (a.tmps.getD x undef)) (hrd:st.rd=none)
  (hos:w'.os=w.os) (htape:w'.tape=w.tape) (hout:w'.output=w.output) (hsz:w.heap.size<=w'.heap.size)
  (hb:∀ b,b < w.heap.size->(∀ es ck,w.heap[b]? ≠ some (.map es ck))->w'.heap[b]?=w.heap[b]?) (hold:∀ b,b < wE.heap.size->w'.heap[b]?=w.heap[b]?)
  (hm:AMm wE w' (reK g st) γ') {dst:Option Tmp} {v:Value} {s:S} (hd:∀ d,dst=some d->d < n) (hs:s.R g v) (href:s.refs=[]):RelY E (AM wE ro0 ρ) n (St.put st dst s) γ' (a.put dst v) w':=by
 have hx:=h.ext hg
 obtain ⟨hds,hpin,he,hcan,hro,hrho,_⟩:=h
 have hlive:∀ b,(∃ id r,st.mem id=some r/\r.live/\blkOf (g.κ id)=some b)->w'.heap[b]?=w.heap[b]?:=fun b ⟨id,r,hm,hl,hbk⟩=>by
  obtain ⟨vs,ty,h1⟩:=(hg.res id r hm).cells hl hbk
  exact hb b (lt_of_some h1) fun es ck=>by rw [h1];simp
 have hrow:∀ b vs,g.ro b=some vs->w'.heap[b]?=w.heap[b]?:=fun b vs hbv=>by
  obtain ⟨ty,fz,h1,_⟩:=hg.ro b vs hbv
  exact hb b (lt_of_some h1) fun es ck=>by rw [h1];simp
 have hg':=hg.reK (w':=w') hrd hlive hrow hsz
 refine ⟨w',SE.reK g st,⟨by rw [put_defers];exact hds,fun _=>⟨rfl,rfl⟩,⟨hos.trans hx.os,htape.trans hx.tape,hout.trans hx.output,Nat.le_trans hx.size hsz,fun b hb' _=>?_⟩,fun b hc=>?_,fun b vs hbv=>?_,hg.rho.1.trans hrho,hm⟩,?_⟩
 ·rw [hold b hb'];exact hx.block b hb' fun h=>h
 ·obtain ⟨id,r,hm,hl,hbk⟩:=hc
  rcases hg.fresh id r hm hl b hbk with h1 | h1
  ·exact Nat.le_trans he.size h1
  ·exact hcan b h1
 ·rcases hg.roo b vs hbv with h1 | h1 | h1
  ·exact hro b vs h1
  ·exact .inr (Nat.le_trans he.size h1)
  ·exact .inr (hcan b h1)
 ·rw [bare_put]
  have hm:(St.put st dst s).mem=st.mem:=by cases dst <;> rfl
  refine ⟨⟨?_,by rw [hm];exact hr.cl.2⟩,?_,?_,g,hg'.env (by cases dst <;> rfl) (by cases dst <;> rfl) (by cases dst <;> rfl) (by cases dst <;> rfl),?_⟩
  ·intro x id hid
   rw [hm]
   cases dst with
   | none=>exact hr.cl.1 x id hid
   | some d =>
    by_cases e:x=d
    ·subst e;simp only [St.put,upd_same,href] at hid;cases hid
    ·simp only [St.put,upd_ne _ _ e] at hid;exact hr.cl.1 x id hid
  ·cases dst <;> simp [Act.put,hr.size]
  ·rw [put_defers];exact hr.defers
  ·intro x
   rw [put_get (by rw [hr.size];exact hd)]
   cases dst with
   | none=>simpa [St.put,bareA] using henv x
   | some d =>
    by_cases e:x=d
    ·subst e;simp only [St.put,upd_same];simpa using hs
    ·have:¬ (some d=some x):=fun h=>e (by injection h with h;exact h.symm)
     rw [if_neg this]
     simp only [St.put,upd_ne _ _ e]
     exact henv x
end
end Go.SE

namespace Go.SE
variable [Base]
open Go.RowKit
section
variable {P:Program} {E:Ty->TypeId} {n:Nat} {wE w w0:World} {ro0:Nat->Option (Array Value)} {ρ:Nat} {γ:MG} {M:MM} {g:G} {st:St} {a:Act}
theorem PairD.key {p:XP} (h:PairD g.ro p) (hg:Good E w0 M g st w):∃ a b,keyOf p=kv a b p.1.1.length/\OkAQ w a/\OkAQ w b/\ptrAt p.1.2 0=.pointer (some a)/\ptrAt p.2.2 0=.pointer (some b):=by
 obtain ⟨b,o,cap,vs,h1,h2,h3,h4,_⟩:=h.a.xplace h.n
 obtain ⟨b',o',cap',vs',k1,k2,k3,k4,_⟩:=h.b.xplace (by rw [← h.l];exact h.n)
 obtain ⟨ty,fz,q1,q2⟩:=hg.ro b vs h3
 obtain ⟨ty',fz',q3,q4⟩:=hg.ro b' vs' k3
 refine ⟨⟨b,o,none⟩,⟨b',o',none⟩,by rw [keyOf,h2,k2];rfl,⟨vs,ty,by rw [q1,q2 h4]⟩,⟨vs',ty',by rw [q3,q4 k4]⟩,h2,k2⟩
end
end Go.SE

namespace Go.SE
variable [Base]
open Go.RowKit
section
variable {P:Program} {E:Ty->TypeId} {tab:TypeId->Option TI} {n:Nat} {wE w w0:World} {ro0:Nat->Option (Array Value)} {ρ:Nat} {γ:MG} {M:MM} {g:G} {st:St} {a:Act}
theorem wp_value {F:Fence} {m:Nat} (hF:FW F) {o:Oper} (hnd:noDefer o=true) {v:Value} {w':World} (hrun:(execOp a.eval o).run P w=.ok (.value v) w') {next:Act->World->Prop} {Q:Exit->Act->World->Prop} (hn:next (a.put o.dst v) w'):o.wpIn F m P a w next Q:=by
 refine wp_in hF (noDefer_ok hnd) (next:=fun a' w''=>a'=(bareA a).put o.dst v/\w''=w') ?_ (fun a' w'' ⟨h,_⟩=>by rw [h,put_defers];rfl) fun a' w'' ⟨h,e⟩=>?_
 ·unfold Oper.wp
  rw [eval_bare,hrun,Oper.upon_value]
  exact ⟨rfl,rfl⟩
 ·rw [h,e,withD_put];exact hn
theorem wp_skip {F:Fence} {m:Nat} (hF:FW F) {o:Oper} (hnd:noDefer o=true) (hdst:o.dst=none) {w':World} (hrun:(execOp a.eval o).run P w=.ok .skip w') {next:Act->World->Prop} {Q:Exit->Act->World->Prop} (hn:next a w'):o.wpIn F m P a w next Q:=by
 refine wp_in hF (noDefer_ok hnd) (next:=fun a' w''=>a'=bareA a/\w''=w') ?_ (fun a' w'' ⟨h,_⟩=>by rw [h];rfl) fun a' w'' ⟨h,e⟩=>?_
 ·unfold Oper.wp
  rw [eval_bare,hrun,Oper.upon_skip,hdst]
  exact ⟨rfl,rfl⟩
 ·rw [h,e]
  have:withD (bareA a) a.defers=a:=by cases a;rfl
  rw [this];exact hn
end
end Go.SE

namespace Go.SE
open Go.RowKit
mutual
def eraC:XCmd->GCmd
 | .mk k a b t i _ bo _ el=>.mk k a b t i (eraL bo) (eraL el)
def eraL:List XCmd->List GCmd
 | []=>[]
 | c :: l=>eraC c :: eraL l
end
theorem eraL_map (l:List XCmd):eraL l=l.map eraC:=by
 induction l with
 | nil=>rfl
 | cons c l ih=>simp [eraL,ih]
theorem list_choose {α:Type} (z:α) {p:Nat->α->Prop}:∀ n,(∀ i,i < n->∃ c,p i c)->∃ l:List α,l.length=n/\∀ i,i < n->p i (l.getD i z):=by
 intro n h
 classical
 refine ⟨(List.range n).map fun i=>if hi:i < n then (h i hi).choose else z,by simp,fun i hi=>?_⟩
 have e:((List.range n).map fun i=>if hi:i < n then (h i hi).choose else z).getD i z=(h i hi).choose:=by
  simp [List.getD_eq_getElem?_getD,hi]
 rw [e]
 exact (h i hi).choose_spec
theorem gsize {xs:List GCmd} {i:Nat} (hi:i < xs.length):SizeOf.sizeOf (xs.getD i (Ty.zero .cmd)).body < SizeOf.sizeOf xs/\SizeOf.sizeOf (xs.getD i (Ty.zero .cmd)).els < SizeOf.sizeOf xs:=by
 have e:xs.getD i (Ty.zero .cmd)=xs[i]:=by simp [List.getD_eq_getElem?_getD,hi]
 have h1:SizeOf.sizeOf xs[i] < SizeOf.sizeOf xs:=List.sizeOf_lt_of_mem (List.getElem_mem hi)
 rw [e]
 generalize xs[i]=c at h1
 obtain ⟨k,a,b,t,inv,bo,el⟩:=c
 simp only [GCmd.mk.sizeOf_spec] at h1
 simp only [GCmd.body,GCmd.els]
 omega
end Go.SE
namespace Go.SE
variable [Base]
open Go.RowKit
theorem RowR.of_get {ro:Nat->Option (Array Value)} {t:Ty} {xs:List t.den} {vs:Array Value} {o:Nat} (h:∀ i,i < xs.length->∀ j c,(t.cells (xs.getD i t.zero))[j]?=some c->∃ u,vs[o+(i * t.sz+j)]?=some u/\DR ro c u):RowR ro (flat t xs) vs o:=by
 intro k c hk
 have hlt:k < xs.length * t.sz:=by rw [← flat_len];exact (List.getElem?_eq_some_iff.1 hk).1
 have hs:0 < t.sz:=by cases t <;> decide
 have h1:k / t.sz < xs.length:=(Nat.div_lt_iff_lt_mul hs).2 hlt
 have h2:k % t.sz < t.sz:=Nat.mod_lt _ hs
 have e:k / t.sz * t.sz+k % t.sz=k:=by rw [Nat.mul_comm];exact Nat.div_add_mod k t.sz
 have h3:=flat_get t xs (k / t.sz) (k % t.sz) h1 h2
 rw [e,hk] at h3
 have:=h _ h1 (k % t.sz) c h3.symm
 rwa [e] at this
theorem DR.places {ro:Nat->Option (Array Value)}:∀ (n:Nat) (xs:List GCmd) (v:Value),SizeOf.sizeOf xs<=n->DR ro (.arr .cmd xs) v->∃ ys:List XCmd,DR ro (.arr .xcmd ys) v/\eraL ys=xs:=by
 intro n
 induction n with
 | zero=>intro xs v hn;cases xs <;> simp at hn <;> omega
 | succ n ih =>
  intro xs v hn h
  rcases h.arr_inv with ⟨⟨a,rfl⟩,rfl⟩ | ⟨b,o,cap,vs,rfl,hb,hle,hcap,hrow,hpm⟩
  ·refine ⟨[],?_,rfl⟩
   cases a with
   | none=>exact .nil _
   | some a=>exact .emp _ _
  ·have key:∀ i,i < xs.length->∃ c:XCmd,eraC c=xs.getD i (Ty.zero .cmd)/\∀ j d,(Ty.cells .xcmd c)[j]?=some d->∃ u,vs[o+(i * 10+j)]?=some u/\DR ro d u:=by
    intro i hi
    have e:∀ j,j < 10->(flat .cmd xs)[i * 10+j]?=(Ty.cells .cmd (xs.getD i (Ty.zero .cmd)))[j]?:=fun j hj=>flat_get .cmd xs i j hi hj
    have s1:=gsize hi
    obtain ⟨u8,a8,d8⟩:=hrow _ _ ((e 8 (by omega)).trans rfl)
    obtain ⟨u9,a9,d9⟩:=hrow _ _ ((e 9 (by omega)).trans rfl)
    obtain ⟨bo,q8,e8⟩:=ih _ _ (by omega) d8.unne
    obtain ⟨el,q9,e9⟩:=ih _ _ (by omega) d9.unne
    have g:∀ j,j < 8->∀ d,(Ty.cells .cmd (xs.getD i (Ty.zero .cmd)))[j]?=some d->∃ u,vs[o+(i * 10+j)]?=some u/\DR ro d u:=fun j hj d hd=>hrow _ _ ((e j (by omega)).trans hd)
    generalize xs.getD i (Ty.zero .cmd)=c at e8 e9 g
    obtain ⟨k,a,b',t,inv,bo',el'⟩:=c
    simp only [GCmd.body,GCmd.els] at e8 e9
    refine ⟨.mk k a b' t inv u8 bo u9 el,by simp only [eraC,e8,e9],fun j d hd=>?_⟩
    match j,hd with
    | 0,hd=>exact g 0 (by omega) d hd
    | 1,hd=>exact g 1 (by omega) d hd
    | 2,hd=>exact g 2 (by omega) d hd
    | 3,hd=>exact g 3 (by omega) d hd
    | 4,hd=>exact g 4 (by omega) d hd
    | 5,hd=>exact g 5 (by omega) d hd
    | 6,hd=>exact g 6 (by omega) d hd
    | 7,hd=>exact g 7 (by omega) d hd
    | 8,hd=>cases hd;exact ⟨u8,a8,.fix _ _ _ q8⟩
    | 9,hd=>cases hd;exact ⟨u9,a9,.fix _ _ _ q9⟩
    | j+10,hd=>cases hd
   obtain ⟨ys,hl,hy⟩:=list_choose (Ty.zero .xcmd) _ key
   refine ⟨ys,?_,?_⟩
   ·have:=DR.of_row (t:=.xcmd) (xs:=ys) (cap:=cap) hb (fun _=>hpm rfl) (by omega) hcap (RowR.of_get (t:=.xcmd) fun i hi j c hc=>(hy i (by omega)).2 j c hc)
    rwa [hl] at this
   ·rw [eraL_map]
    refine getD_ext (Ty.zero .cmd) (by simpa using hl) fun i hi=>?_
    have hi':i < ys.length:=by simpa using hi
    have h1:=(hy i (by omega)).1
    rw [← h1]
    simp [List.getD_eq_getElem?_getD,hi']
abbrev noSpM:SpCode MG:=fun _ _ _ _ _ _=>none
section
variable {P:Program} {E:Ty->TypeId} {tab:TypeId->Option TI} {K:FuncId->Option Con} {pts:FuncId->Option PT} {hp:Nat->Bool} {gcs:Nat->Option (List Nat × List Nat)} {perm:Nat->List (List Nat)}
def retM (tab:TypeId->Option TI) (rvs:List ResultVar) (r:Bool):XK->St->MG->Prop
 | .exit _,_,_=>False
 | _,st,_=>match loadsS tab st rvs with
  | some [.c (.d (.val (.bool b)))]=>st.rd=none/\b=r
  | _=>False
theorem entry_fix {n:Nat} {w0:World} {ro0:Nat->Option (Array Value)} {ρ:Nat} {l:List S0} {vs:List Value} (hin:ROin w0 ro0) (hargs:ArgsR (argG ro0 ρ) l vs) (hr:∀ s ∈ l,s.refs=[]) (hn:vs.length<=n) :
  Rel E w0 (MOf false ρ ro0) n (entry l none) { tmps:=vs.toArray ++ Array.replicate (n - vs.toArray.size) undef,defers:=[] } w0:=by
 have hgood:Good E w0 (MOf false ρ ro0) (argG ro0 ρ) (entry l none) w0:=by
  refine ⟨Ext.refl _ _,hin.2,(fun id r hr=>by cases hr),(fun i j r s hi=>by cases hi),(fun id r hr=>by cases hr),(fun id r hr=>by cases hr),?_,?_,(fun b vs hb=>.inl hb),⟨rfl,hin.1,fun b hb=>by cases hb.1⟩,(fun id v hv=>by cases hv),⟨fun id v hv=>(by cases hv),fun b vs hv=>(by cases hv)⟩⟩
  ·intro m hm;cases hm
  ·intro h;exact absurd rfl h
 refine ⟨⟨?_,fun j r hj=>by cases hj⟩,by simp;omega,rfl,argG ro0 ρ,hgood,?_⟩
 ·intro j id hid
  exfalso
  have e:(entry l none).env j=envOf l 0 j:=rfl
  rw [e] at hid
  rcases envOf_cases l 0 j with h1 | ⟨i,s,h1,_,h3⟩
  ·rw [h1] at hid;simp [junk,S.refs,S0.refs,CV.refs] at hid
  ·rw [h3] at hid
   simp only [S.refs] at hid
   rw [hr s (List.mem_of_getElem? h1)] at hid
   cases hid
 ·intro j
  have e:(entry l none).env j=envOf l 0 j:=rfl
  rw [e]
  rcases envOf_cases l 0 j with h1 | ⟨i,s,h1,h2,h3⟩
  ·rw [h1];trivial
  ·rw [h3]
   obtain ⟨v,h4,h5⟩:=hargs.2 i s h1
   have hj:j=i:=by omega
   subst hj
   have hlt:j < vs.length:=(List.getElem?_eq_some_iff.1 h4).1
   have:(vs.toArray ++ Array.replicate (n - vs.toArray.size) undef).getD j undef=v:=by
    rw [Array.getD_eq_getD_getElem?,Array.getElem?_append_left (by simpa using hlt)]
    simp [h4]
   show S.R _ _ ((vs.toArray ++ Array.replicate (n - vs.toArray.size) undef).getD j undef)
   rw [this]
   exact h5
end
end Go.SE

namespace Go.SE
open Go.RowKit
def datE (r k:XP):Prop:=r.1.1=k.1.1/\r.2.1=k.2.1
def Cov (O S:List XP) (k:XP):Prop:=(∃ r ∈ O,datE r k) ∨ (∃ r ∈ S,datE r k) ∨ (k.1.1=[]/\k.2.1=[])
theorem Cov.mono {O O' S S':List XP} {k:XP} (h:Cov O S k) (h1:∀ r ∈ O,Cov O' S' r) (h2:∀ r ∈ S,r ∈ S'):Cov O' S' k:=by
 rcases h with ⟨r,hr,e⟩ | ⟨r,hr,e⟩ | h
 ·rcases h1 r hr with ⟨q,hq,e'⟩ | ⟨q,hq,e'⟩ | ⟨a,b⟩
  ·exact .inl ⟨q,hq,e'.1.trans e.1,e'.2.trans e.2⟩
  ·exact .inr (.inl ⟨q,hq,e'.1.trans e.1,e'.2.trans e.2⟩)
  ·exact .inr (.inr ⟨e.1 ▸ a,e.2 ▸ b⟩)
 ·exact .inr (.inl ⟨r,h2 r hr,e⟩)
 ·exact .inr (.inr h)
theorem Cov.self {O S:List XP} {r:XP} (h:r ∈ O):Cov O S r:=.inl ⟨r,h,rfl,rfl⟩
variable {p:XP} {O S:List XP}
end Go.SE

namespace Go.SE
variable [Base]
open Go.RowKit
end Go.SE

namespace Go.SE
open Go.RowKit
variable {p r:XP} {O S:List XP} {i:Nat}
end Go.SE

namespace Go.SE
open Go.RowKit
def isSlV:Value->Bool
 | .slice _ _ _=>true
 | _=>false
def isNumV:Value->Bool
 | .int _ _=>true
 | .bool _=>true
 | _=>false
def lenV:Value->Nat
 | .slice _ n _=>n
 | _=>0
def isBlkV:Value->Bool
 | .slice (some ⟨_,_,none⟩) _ _=>true
 | _=>false
def placeV (v:Value) (sz k:Nat):Value :=
 match v with
 | .slice (some ⟨b,o,_⟩) _ _=>.pointer (some ⟨b,o+k * sz,none⟩)
 | v=>v
def isPtrV:Value->Bool
 | .pointer (some ⟨_,_,none⟩)=>true
 | _=>false
def addP (p:Value) (off:Nat):Value :=
 match p with
 | .pointer (some ⟨b,o,s⟩)=>.pointer (some ⟨b,o+off,s⟩)
 | p=>p
def cellR (ro:Nat->Option (Array Value)):Value->Option Value
 | .pointer (some ⟨b,o,none⟩)=>match ro b with
  | some vs=>vs[o]?
  | none=>none
 | _=>none
def cellD (ro:Nat->Option (Array Value)) (p:Value):Value :=
 match cellR ro p with
 | some u=>u
 | none=>.slice none 0 0
structure Loose (ro:Nat->Option (Array Value)) (w:World):Prop where
 h:∀ b vs,ro b=some vs->∃ (cs:Array Value) (ty:TypeId),w.heap[b]?=some (.cells cs ty (0,0))/\cs.size=vs.size/\∀ (i:Nat) (u:Value),vs[i]?=some u->isSlV u=true->cs[i]?=some u
structure LExt (ro:Nat->Option (Array Value)) (w w':World):Prop where
 os:w'.os=w.os
 tape:w'.tape=w.tape
 output:w'.output=w.output
 size:w.heap.size<=w'.heap.size
 block:∀ b,b < w.heap.size->ro b=none->w'.heap[b]?=w.heap[b]?
end Go.SE
namespace Go.SE
variable [Base]
open Go.RowKit
def MarkOk (P:Program) (f:FuncId) (t:Ty) (n c:List t.den->Nat) (m:Nat):Prop :=
 ∀ (ro:Nat->Option (Array Value)) (xs:List t.den) (v:Value) (k:Int) (w:World),DR ro (.arr t xs) v->Loose ro w->0<=k->k+c xs<=4611686018427387904->n xs < m->Base.n0<=w.heap.size ->
  Calls P f #[v,.int .i64 k] w fun e w'=>∃ k':Int,e=.returned (.int .i64 k')/\k<=k'/\k'<=k+c xs/\Loose ro w'/\LExt ro w w'
def jL (ro:Nat->Option (Array Value)):JJ Unit where
 J:=fun _ p w=>(∀ b,p.d b ↔ ro b ≠ none)/\(∀ b,¬ p.r b)/\Loose ro w
 lt:=by
  intro γ p w b ⟨h1,h2,h3⟩ h
  rcases h with h | h
  ·have:=(h1 b).1 h
   cases hb:ro b with
   | none=>exact (this hb).elim
   | some vs =>
    obtain ⟨cs,ty,h4,_⟩:=h3.h b vs hb
    exact lt_of_some h4
  ·exact (h2 b h).elim
 frame:=by
  intro γ p w w' ⟨h1,h2,h3⟩ _ _ _ _ hb
  refine ⟨h1,h2,⟨fun b vs hv=>?_⟩⟩
  obtain ⟨cs,ty,h4,h5⟩:=h3.h b vs hv
  exact ⟨cs,ty,by rw [hb b (.inl ((h1 b).2 (by rw [hv];simp)))];exact h4,h5⟩
structure MF where
 f:FuncId
 t:Ty
 n:List t.den->Nat
 c:List t.den->Nat
 m:Nat
def callK (ro:Nat->Option (Array Value)) (q:MF) (st:St) (dst:Option Tmp):Option (List S0)->Option ((St->Unit->Prop)->Prop)
 | some [.c (.d (.val v)),.c (.d (.val (.int .i64 k)))]=>some fun K=>(st.rd=none/\∃ xs:List q.t.den,DR ro (.arr q.t xs) v/\0<=k/\k+q.c xs<=4611686018427387904/\q.n xs < q.m)/\∀ (xs:List q.t.den) (k':Int),DR ro (.arr q.t xs) v->k<=k'->k'<=k+q.c xs->K (St.put st dst (sv (.int .i64 k'))) ()
 | _=>none
def MarkA (P:Program) (f:FuncId):Prop :=
 ∀ (ro:Nat->Option (Array Value)) (xs:List GFact) (ys:List GAtom) (u v:Value) (k:Int) (w:World),DR ro (.arr .fact xs) u->DR ro (.arr .atom ys) v->Loose ro w->0<=k->k+(3 * xs.length+3 * ys.length:Nat)<=4611686018427387904->Base.n0<=w.heap.size ->
  Calls P f #[.agg #[u,v],.int .i64 k] w fun e w'=>∃ k':Int,e=.returned (.int .i64 k')/\k<=k'/\k'<=k+(3 * xs.length+3 * ys.length:Nat)/\Loose ro w'/\LExt ro w w'
def callAK (ro:Nat->Option (Array Value)) (st:St) (dst:Option Tmp):Option (List S0)->Option ((St->Unit->Prop)->Prop)
 | some [.agg [.d (.val u),.d (.val v)],.c (.d (.val (.int .i64 k)))]=>some fun K=>(st.rd=none/\∃ (xs:List GFact) (ys:List GAtom),DR ro (.arr .fact xs) u/\DR ro (.arr .atom ys) v/\0<=k/\k+(3 * xs.length+3 * ys.length:Nat)<=4611686018427387904) /\
   ∀ (xs:List GFact) (ys:List GAtom) (k':Int),DR ro (.arr .fact xs) u->DR ro (.arr .atom ys) v->k<=k'->k'<=k+(3 * xs.length+3 * ys.length:Nat)->K (St.put st dst (sv (.int .i64 k'))) ()
 | _=>none
def findMF:List MF->FuncId->Option MF
 | [],_=>none
 | q :: l,f=>if q.f=f then some q else findMF l f
def ixK (st:St) (dst:Option Tmp) (sz:Nat):S->S->Option ((St->Unit->Prop)->Prop)
 | .s (.c (.d (.val v))),.s (.c (.d (.val (.int _ k))))=>some fun K=>(st.rd=none/\isBlkV v=true/\0<=k/\k < lenV v)/\K (St.put st dst (sv (placeV v sz k.toNat))) ()
 | _,_=>none
def lenK (st:St) (dst:Option Tmp):S->Option ((St->Unit->Prop)->Prop)
 | .s (.c (.d (.val v)))=>some fun K=>(st.rd=none/\isSlV v=true)/\K (St.put st dst (sv (.int .i64 (lenV v)))) ()
 | _=>none
def faK (st:St) (dst:Option Tmp) (off:Nat):S->Option ((St->Unit->Prop)->Prop)
 | .s (.c (.d (.val p)))=>some fun K=>(st.rd=none/\isPtrV p=true)/\K (St.put st dst (sv (addP p off))) ()
 | _=>none
def ldK (ro:Nat->Option (Array Value)) (st:St) (dst:Option Tmp):S->Option ((St->Unit->Prop)->Prop)
 | .s (.c (.d (.val p)))=>some fun K=>(st.rd=none/\∃ u,cellR ro p=some u/\isSlV u=true)/\K (St.put st dst (sv (cellD ro p))) ()
 | _=>none
def stK (ro:Nat->Option (Array Value)) (st:St):S->S->Option ((St->Unit->Prop)->Prop)
 | .s (.c (.d (.val p))),.s (.c (.d (.val x)))=>some fun K=>(st.rd=none/\isNumV x=true/\∃ u,cellR ro p=some u/\isSlV u=false)/\K st ()
 | _,_=>none
def spL (tab:TypeId->Option TI) (ro:Nat->Option (Array Value)) (fs:List MF) (fa:Option FuncId:=none):SpOp Unit:=fun o st _ =>
 match o.op,o.dst with
 | .indexAddr ty x i,some d=>match tab ty with
  | some ⟨_,_,.sl _ _ t⟩=>ixK st (some d) t.sz (ev st x) (ev st i)
  | _=>none
 | .call ⟨.builtin .len,args,tys⟩,some d=>match args.toList,tys.toList with
  | [x],[ty]=>match tab ty with
   | some ⟨_,_,.sl _ _ _⟩=>lenK st (some d) (ev st x)
   | _=>none
  | _,_=>none
 | .fieldAddr ty x f,some d=>match tab ty with
  | some ⟨_,_,.st _ fs⟩=>match fs[f]? with
   | some (off,_+1,_)=>faK st (some d) off (ev st x)
   | _=>none
  | _=>none
 | .load ty x,some d=>match tab ty with
  | some ⟨_,_,.sl _ _ _⟩=>ldK ro st (some d) (ev st x)
  | _=>none
 | .store ty x v,none=>match tab ty with
  | some ⟨1,_,.sc _⟩=>stK ro st (ev st x) (ev st v)
  | _=>none
 | .call ⟨.value (.func f),args,_⟩,some d=>match findMF fs f with
  | some q=>callK ro q st (some d) (argsS st args.toList)
  | none=>match fa with
   | some f'=>if f'=f then callAK ro st (some d) (argsS st args.toList) else none
   | none=>none
 | _,_=>none
section
variable {P:Program} {E:Ty->TypeId} {tab:TypeId->Option TI} {n:Nat} {wE w:World} {ro:Nat->Option (Array Value)} {X:Nat->Prop} {DE:Fp} {st:St} {a:Act}
abbrev AnL (E:Ty->TypeId) (ro:Nat->Option (Array Value)) (wE:World) (DE:Fp) (n:Nat) (st:St) (a:Act) (w:World):Prop:=RelY E (AnE (jL ro) wE (fun _=>False) DE) n st () a w
theorem eL {a:Act} {x:Operand} {v:Value} (h:AnL E ro wE DE n st a w) (hx:ev st x=.s (.c (.d (.val v)))):a.eval x=v:=by
 obtain ⟨w0,M,_,hr⟩:=h
 obtain ⟨g,hg,he⟩:=hr.good
 have:=ev_R he x
 rw [hx] at this
 exact DR.val_eq this
theorem AnL.put (h:AnL E ro wE DE n st a w) (hrd:st.rd=none) {d:Tmp} (hd:d < n) {v:Value} (hv:v.oneCell'=true):AnL E ro wE DE n (St.put st (some d) (sv v)) (a.put (some d) v) w:=by
 obtain ⟨D,g,hJ,_,_,_,_,hstep⟩:=eff h hrd
 exact hstep () D w hJ ⟨rfl,rfl,rfl,Nat.le_refl _,fun _ _ _=>rfl,fun _ h=>.inl h,fun _ h=>.inl h⟩ (some d) v (sv v) (fun d' h=>by injection h with h;subst h;exact hd) (fun g=>R_sv hv) (by simp [refs_sv])
end
end Go.SE

namespace Go.SE
open Go.RowKit
theorem findMF_mem {l:List MF} {f:FuncId} {q:MF} (h:findMF l f=some q):q ∈ l/\q.f=f:=by
 induction l with
 | nil=>cases h
 | cons a l ih =>
  unfold findMF at h
  split at h
  ·rename_i e;injection h with h;subst h;exact ⟨List.mem_cons_self,e⟩
  ·exact ⟨List.mem_cons_of_mem _ (ih h).1,(ih h).2⟩
end Go.SE
namespace Go.SE
variable [Base]
open Go.RowKit
section
variable {P:Program} {E:Ty->TypeId} {tab:TypeId->Option TI} {n:Nat} {wE w:World} {ro:Nat->Option (Array Value)} {DE:Fp} {st:St} {a:Act}
def MFok (P : Program) (q : MF) : Prop := MarkOk P q.f q.t q.n q.c q.m /\ ∃ fn c, P.funcs[q.f]? = some fn /\ (fn.name == "runtime.NumGoroutine") = false /\ fn.body = some c
def MAok (P : Program) (f : FuncId) : Prop := MarkA P f /\ ∃ fn c, P.funcs[f]? = some fn /\ (fn.name == "runtime.NumGoroutine") = false /\ fn.body = some c
theorem AnL.loose (h:AnL E ro wE DE n st a w) (hrd:st.rd=none):∃ D:Fp,(∀ b,D.d b ↔ ro b ≠ none)/\(∀ b,¬ D.r b)/\Loose ro w/\∀ w',Loose ro w'->LExt ro w w'->∀ (dst:Option Tmp) (v:Value) (s:S),(∀ d,dst=some d->d < n)->(∀ g,s.R g v)->s.refs=[]->AnL E ro wE DE n (St.put st dst s) (a.put dst v) w':=by
 obtain ⟨D,g,⟨hJ1,hJ2,hJ3⟩,_,_,_,_,hstep⟩:=eff h hrd
 refine ⟨D,hJ1,hJ2,hJ3,fun w' hl hx dst v s hd hs href=>?_⟩
 refine hstep () D w' ⟨hJ1,hJ2,hl⟩ ⟨hx.os,hx.tape,hx.output,hx.size,fun b hb hn=>hx.block b hb ?_,fun _ h=>.inl h,fun _ h=>.inl h⟩ dst v s hd hs href
 cases hr:ro b with
 | none=>rfl
 | some vs=>exact (hn ((hJ1 b).2 (by rw [hr];simp))).elim
theorem LExt.refl:LExt ro w w:=⟨rfl,rfl,rfl,Nat.le_refl _,fun _ _ _=>rfl⟩
theorem LExt.trans {a b c:World} (h:LExt ro a b) (k:LExt ro b c):LExt ro a c :=
 ⟨k.os.trans h.os,k.tape.trans h.tape,k.output.trans h.output,Nat.le_trans h.size k.size,fun i hi hn=>(k.block i (Nat.lt_of_lt_of_le hi h.size) hn).trans (h.block i hi hn)⟩
theorem Loose.store (h:Loose ro w) {b o:Nat} {vs:Array Value} {u x:Value} (hb:ro b=some vs) (hu:vs[o]?=some u) (hn:isSlV u=false):∃ cs ty,w.heap[b]?=some (.cells cs ty (0,0))/\o < cs.size/\Loose ro (w.setRow b (over cs o [x]))/\LExt ro w (w.setRow b (over cs o [x])):=by
 obtain ⟨cs,ty,h1,h2,h3⟩:=h.h b vs hb
 have ho:o < cs.size:=by rw [h2];exact (Array.getElem?_eq_some_iff.1 hu).1
 refine ⟨cs,ty,h1,ho,⟨fun b' vs' hb'=>?_⟩,⟨rfl,rfl,rfl,by simp,fun b' hlt hn'=>setRow_other w b b' _ (fun e=>by subst e;rw [hb] at hn';cases hn')⟩⟩
 by_cases e:b'=b
 ·subst e
  rw [hb] at hb'
  injection hb' with hb'
  subst hb'
  refine ⟨_,ty,setRow_heap w b' _ _ _ _ h1,by rw [over_size (by simp;omega),h2],fun i u' hi hs=>?_⟩
  rw [over_get (by simp;omega)]
  split
  ·rename_i hr
   have:i=o:=by simp at hr;omega
   subst this
   rw [hu] at hi
   injection hi with hi
   subst hi
   rw [hn] at hs;cases hs
  ·exact h3 i u' hi hs
 ·obtain ⟨cs',ty',k1,k2⟩:=h.h b' vs' hb'
  exact ⟨cs',ty',by rw [setRow_other w b b' _ e];exact k1,k2⟩
theorem spL_ok {F:Fence} {m:Nat} (hF:FW F) (hFd:F=Fence.wide) (ht:TabOk P E tab) {fs:List MF} (hfs:∀ q ∈ fs,MFok P q) {fa:Option FuncId} (hfa:∀ f,fa=some f->MAok P f):SpOk F m P E (AnE (jL ro) wE (fun _=>False) DE) n (spL tab ro fs fa):=by
 intro o st γ fk hs hd K a w next Q h hf hk
 have hk:∀ st' a' w',AnL E ro wE DE n st' a' w'->K st' ()->next a' w':=fun st' a' w' h1 h2=>hk st' () a' w' h1 h2
 have h:AnL E ro wE DE n st a w:=h
 unfold spL at hs
 split at hs
 · -- indexAddr
  rename_i ty x i d ho hdst
  split at hs
  ·rename_i sz by_ rw_ e t hti
   unfold ixK at hs
   split at hs
   ·rename_i v kk k hx hi
    injection hs with hs
    subst hs
    obtain ⟨⟨hrd,h1,h2,h3⟩,hkk⟩:=hf
    obtain ⟨inf,dd,_,hu,_,_,⟨rfl,_⟩,ie,hie,hsz,_⟩:=ht _ _ hti
    have ex:=eL h hx
    have ei:=eL h hi
    cases v <;> try (cases h1;done)
    rename_i av len cap
    cases av <;> try (cases h1;done)
    rename_i av
    obtain ⟨b,oo,spt⟩:=av
    cases spt <;> try (cases h1;done)
    have hr:=run_indexAt_sl (w:=w) (P:=P) (b:=b) (o:=oo) (len:=len) (cap:=cap) (k:=kk) hu hie h2 h3
    refine wp_value hF (by simp [noDefer,ho]) (w':=w) (v:=placeV (.slice (some ⟨b,oo,none⟩) len cap) t.sz k.toNat) (by simp [execOp,ho,ex,ei,hr,placeV,hsz]) ?_
    rw [hdst]
    exact hk _ _ _ (h.put hrd (hd d hdst) rfl) hkk
   ·cases hs
  ·cases hs
 · -- len
  rename_i args tys d ho hdst
  split at hs
  ·rename_i x ty hargs htys
   split at hs
   ·rename_i sz by_ rw_ e t hti
    unfold lenK at hs
    split at hs
    ·rename_i v hx
     injection hs with hs
     subst hs
     obtain ⟨⟨hrd,h1⟩,hkk⟩:=hf
     obtain ⟨inf,dd,_,hu,_,_,⟨rfl,_⟩,_⟩:=ht _ _ hti
     have ex:=eL h hx
     have ea:args=#[x]:=by cases args;simp_all
     have et:tys=#[ty]:=by cases tys;simp_all
     subst ea et
     cases v <;> try (cases h1;done)
     rename_i av len cap
     refine wp_value hF (by simp [noDefer,ho]) (w':=w) (v:=.int .i64 len) (by simp [execOp,ho,resolve,invoke,builtin,Builtin.len_,run_underlying hu,ex,goInt]) ?_
     rw [hdst]
     exact hk _ _ _ (h.put hrd (hd d hdst) rfl) hkk
    ·cases hs
   ·cases hs
  ·cases hs
 · -- fieldAddr
  rename_i ty x f d ho hdst
  split at hs
  ·rename_i sz by_ cks fs' hti
   split at hs
   ·rename_i off s1 ag hfx
    unfold faK at hs
    split at hs
    ·rename_i p hx
     injection hs with hs
     subst hs
     obtain ⟨⟨hrd,h1⟩,hkk⟩:=hf
     obtain ⟨inf,dd,_,hu,_,fields,zc,rfl,_,_,_,hfl,hfo,_⟩:=ht _ _ hti
     obtain ⟨fd,fi,fd2,hf1,hf2,hf3,hf4,_⟩:=fieldsOk_get hfo hfx
     simp only [Nat.zero_add] at hf1
     have ex:=eL h hx
     cases p <;> try (cases h1;done)
     rename_i av
     cases av <;> try (cases h1;done)
     rename_i av
     obtain ⟨b,oo,spt⟩:=av
     cases spt <;> try (cases h1;done)
     have hr:=run_fieldAt (w:=w) (b:=b) (o:=oo) hu hf1 hf3 (by rw [hf4];simp)
     refine wp_value hF (by simp [noDefer,ho]) (w':=w) (v:=addP (.pointer (some ⟨b,oo,none⟩)) off) (by simp [execOp,ho,ex,hr,addP,hf2]) ?_
     rw [hdst]
     exact hk _ _ _ (h.put hrd (hd d hdst) rfl) hkk
    ·cases hs
   ·cases hs
  ·cases hs
 · -- load
  rename_i ty x d ho hdst
  split at hs
  ·rename_i sz by_ rw_ e t hti
   unfold ldK at hs
   split at hs
   ·rename_i p hx
    injection hs with hs
    subst hs
    obtain ⟨⟨hrd,u,h1,h2⟩,hkk⟩:=hf
    obtain ⟨inf,dd,_,hu,_,_,⟨rfl,_⟩,_⟩:=ht _ _ hti
    have ex:=eL h hx
    obtain ⟨D,_,_,hl,_⟩:=h.loose hrd
    have hcd:cellD ro p=u:=by unfold cellD;rw [h1]
    have hp:∃ b oo vs,p=.pointer (some ⟨b,oo,none⟩)/\ro b=some vs/\vs[oo]?=some u:=by
     unfold cellR at h1
     split at h1
     ·rename_i b oo
      split at h1
      ·rename_i vs hvs
       exact ⟨b,oo,vs,rfl,hvs,h1⟩
      ·cases h1
     ·cases h1
    obtain ⟨b,oo,vs,rfl,hb,hvu⟩:=hp
    obtain ⟨cs,cty,k1,k2,k3⟩:=hl.h b vs hb
    have hr:=run_loadAt_one (P:=P) k1 (k3 oo u hvu h2) hu rfl
    refine wp_value hF (by simp [noDefer,ho]) (w':=w) (v:=u) (by simp [execOp,ho,ex,hr]) ?_
    rw [hdst]
    rw [hcd] at hkk
    refine hk _ _ _ (h.put hrd (hd d hdst) ?_) hkk
    cases u <;> first | rfl | cases h2
   ·cases hs
  ·cases hs
 · -- store
  rename_i ty x v ho hdst
  split at hs
  ·rename_i by_ z hti
   unfold stK at hs
   split at hs
   ·rename_i p xv hx hv
    injection hs with hs
    subst hs
    obtain ⟨⟨hrd,h0,u,h1,h2⟩,hkk⟩:=hf
    obtain ⟨inf,dd,hinf,hu,hisz,_⟩:=ht _ _ hti
    have ex:=eL h hx
    have ev':=eL h hv
    obtain ⟨D,_,_,hl,hstep⟩:=h.loose hrd
    have hp:∃ b oo vs,p=.pointer (some ⟨b,oo,none⟩)/\ro b=some vs/\vs[oo]?=some u:=by
     unfold cellR at h1
     split at h1
     ·rename_i b oo
      split at h1
      ·rename_i vs hvs
       exact ⟨b,oo,vs,rfl,hvs,h1⟩
      ·cases h1
     ·cases h1
    obtain ⟨b,oo,vs,rfl,hb,hvu⟩:=hp
    obtain ⟨cs,cty,k1,k2,k3,k4⟩:=hl.store (x:=xv) hb hvu h2
    have hc:xv.cells=#[xv]/\xv.oneCell'=true:=by cases xv <;> first | exact ⟨rfl,rfl⟩ | cases h0
    have hz1:inf.size=1:=hisz
    have hr:=run_storeAt (P:=P) (ty:=ty) (v:=xv) (o:=oo) k1 hinf (by rw [hc.1,hz1];rfl) (by rw [hz1];omega) (by rw [hc.1];intro y hy;simp at hy;subst hy;exact hc.2)
    rw [hc.1] at hr
    refine wp_skip hF (by simp [noDefer,ho]) hdst (w':=w.setRow b (over cs oo [xv])) (by simp [execOp,ho,ex,ev',hr]) ?_
    have:=hstep _ k3 k4 none undef junk (fun d h=>by cases h) (fun _=>trivial) rfl
    exact hk _ _ _ this hkk
   ·cases hs
  ·cases hs
 · -- a call
  rename_i f args tys d ho hdst
  split at hs
  ·rename_i q hq
   obtain ⟨hqm,rfl⟩:=findMF_mem hq
   unfold callK at hs
   split at hs
   ·rename_i v k hargs
    injection hs with hs
    subst hs
    obtain ⟨⟨hrd,xs,h1,h2,h3,h4⟩,hkk⟩:=hf
    obtain ⟨hmk,fn,cc,hf1,hname,hbody⟩:=hfs q hqm
    obtain ⟨D,_,_,hl,hstep⟩:=h.loose hrd
    have hvals:args.toList.map a.eval=[v,.int .i64 k]:=by
     obtain ⟨w0,M,_,hr⟩:=h
     obtain ⟨g,hg,he⟩:=hr.good
     obtain ⟨hl1,hl2⟩:=argsS_R (a:=bareA a) he hargs
     obtain ⟨u0,e0,r0⟩:=hl2 0 _ rfl
     obtain ⟨u1,e1,r1⟩:=hl2 1 _ rfl
     have d0:=DR.val_eq (show DR g.ro (.val v) u0 from r0)
     have d1:=DR.val_eq (show DR g.ro (.val (.int .i64 k)) u1 from r1)
     subst d0 d1
     have hl1:(args.toList.map a.eval).length=2:=hl1
     have e0:(args.toList.map a.eval)[0]?=some u0:=e0
     have e1:(args.toList.map a.eval)[1]?=some _:=e1
     match args.toList.map a.eval,hl1,e0,e1 with
     | [p,q],_,e0,e1=>simp at e0 e1;rw [e0,e1]
    have harr:args.map a.eval=#[v,.int .i64 k]:=by apply Array.ext';simpa using hvals
    subst hFd
    refine ⟨fun _ _=>trivial,?_⟩
    rw [show Fence.wide.round=none from rfl,Oper.semAt_none,run_call hf1 hname hbody ho,Oper.uponIn_enter]
    refine ⟨fun h=>(by cases h),callsIn_wide.2 ?_⟩
    rw [harr]
    refine Calls.mono (hmk ro xs v k w h1 hl h2 h3 h4 h.nb) fun e w' he=>?_
    obtain ⟨k',rfl,h5,h6,h7,h8⟩:=he
    have:=hstep w' h7 h8 o.dst (.int .i64 k') (sv (.int .i64 k')) hd (fun g=>R_sv rfl) (by simp [refs_sv])
    rw [hdst] at this
    have hn:=hk _ _ _ this (hkk xs k' h1 h5 h6)
    rw [hdst]
    exact hn
   ·cases hs
  ·split at hs
   ·rename_i f'
    split at hs
    ·rename_i e
     subst e
     unfold callAK at hs
     split at hs
     ·rename_i u v k hargs
      injection hs with hs
      subst hs
      obtain ⟨⟨hrd,xs,ys,h1,h2,h3,h4⟩,hkk⟩:=hf
      obtain ⟨hmk,fn,cc,hf1,hname,hbody⟩:=hfa _ rfl
      obtain ⟨D,_,_,hl,hstep⟩:=h.loose hrd
      have hvals:args.toList.map a.eval=[.agg #[u,v],.int .i64 k]:=by
       obtain ⟨w0,M,_,hr⟩:=h
       obtain ⟨g,hg,he⟩:=hr.good
       obtain ⟨hl1,hl2⟩:=argsS_R (a:=bareA a) he hargs
       obtain ⟨u0,e0,r0⟩:=hl2 0 _ rfl
       obtain ⟨u1,e1,r1⟩:=hl2 1 _ rfl
       have d1:=DR.val_eq (show DR g.ro (.val (.int .i64 k)) u1 from r1)
       have d0:u0=.agg #[u,v]:=by
        obtain ⟨us,rfl,c1,c2⟩:=r0
        obtain ⟨p0,f0,q0⟩:=c2 0 _ rfl
        obtain ⟨p1,f1,q1⟩:=c2 1 _ rfl
        have x0:=DR.val_eq (show DR g.ro (.val u) p0 from q0)
        have x1:=DR.val_eq (show DR g.ro (.val v) p1 from q1)
        subst x0 x1
        obtain ⟨l⟩:=us
        match l,c1 with
        | [p,q],_=>simp at f0 f1;rw [f0,f1]
       subst d0 d1
       have hl1:(args.toList.map a.eval).length=2:=hl1
       have e0:(args.toList.map a.eval)[0]?=some _:=e0
       have e1:(args.toList.map a.eval)[1]?=some _:=e1
       match args.toList.map a.eval,hl1,e0,e1 with
       | [p,q],_,e0,e1=>simp at e0 e1;rw [e0,e1]
      have harr:args.map a.eval=#[.agg #[u,v],.int .i64 k]:=by apply Array.ext';simpa using hvals
      subst hFd
      refine ⟨fun _ _=>trivial,?_⟩
      rw [show Fence.wide.round=none from rfl,Oper.semAt_none,run_call hf1 hname hbody ho,Oper.uponIn_enter]
      refine ⟨fun h=>(by cases h),callsIn_wide.2 ?_⟩
      rw [harr]
      refine Calls.mono (hmk ro xs ys u v k w h1 h2 hl h3 h4 h.nb) fun e w' he=>?_
      obtain ⟨k',rfl,h5,h6,h7,h8⟩:=he
      have:=hstep w' h7 h8 o.dst (.int .i64 k') (sv (.int .i64 k')) hd (fun g=>R_sv rfl) (by simp [refs_sv])
      rw [hdst] at this
      have hn:=hk _ _ _ this (hkk xs ys k' h1 h2 h5 h6)
      rw [hdst]
      exact hn
     ·cases hs
    ·cases hs
   ·cases hs
 ·cases hs
end
end Go.SE

namespace Go.SE
open Go.RowKit
mutual
def mkC:GCmd->Nat
 | .mk _ _ _ _ i bo el=>6+3 * i.facts.length+3 * i.atoms.length+mkL bo+mkL el
def mkL:List GCmd->Nat
 | []=>0
 | c :: l=>mkC c+mkL l
end
theorem mkC_eq (c:GCmd):mkC c=6+3 * c.inv.facts.length+3 * c.inv.atoms.length+mkL c.body+mkL c.els:=by cases c;simp [mkC,GCmd.inv,GCmd.body,GCmd.els]
theorem mkL_append (a b:List GCmd):mkL (a ++ b)=mkL a+mkL b:=by
 induction a with
 | nil=>simp [mkL]
 | cons r a ih=>simp [mkL,ih];omega
theorem mkL_take (l:List GCmd) (i:Nat):mkL (l.take i)<=mkL l:=by
 have h:mkL (l.take i)+mkL (l.drop i)=mkL l:=by rw [← mkL_append,List.take_append_drop]
 omega
theorem mkL_step {l:List GCmd} {i:Nat} (h:i < l.length):mkL (l.take (i+1))=mkL (l.take i)+mkC (l.getD i (Ty.zero .cmd)):=by
 rw [List.take_add_one,List.getElem?_eq_getElem h,mkL_append]
 simp only [Option.toList_some,mkL,Nat.add_zero,List.getD_eq_getElem?_getD,List.getElem?_eq_getElem h,Option.getD_some]
theorem mkL_full (l:List GCmd):mkL (l.take l.length)=mkL l:=by rw [List.take_length]
theorem addP_addP (p:Value) (a b:Nat):addP (addP p a) b=addP p (a+b):=by
 cases p with
 | pointer x =>
  cases x with
  | none=>rfl
  | some x=>obtain ⟨b',o,s⟩:=x;simp [addP,Nat.add_assoc]
 | _=>rfl
theorem isPtr_add (p:Value) (a:Nat):isPtrV (addP p a)=isPtrV p:=by
 unfold addP
 split
 ·rename_i b o s;cases s <;> rfl
 ·rfl
end Go.SE
namespace Go.SE
variable [Base]
open Go.RowKit
abbrev entL (v:Value) (k:Int):St:=entry [.c (.d (.val v)),.c (.d (.val (.int .i64 k)))] none
def retL (tab:TypeId->Option TI) (rvs:List ResultVar) (k:Int) (c:Nat):XK->St->Unit->Prop
 | .exit _,_,_=>False
 | _,st,_=>match loadsS tab st rvs with
  | some [.c (.d (.val (.int .i64 k')))]=>st.rd=none/\k<=k'/\k'<=k+c
  | _=>False
abbrev noSpL:SpCode Unit:=fun _ _ _ _ _ _=>none
section
variable {P:Program} {E:Ty->TypeId} {tab:TypeId->Option TI} {hp:Nat->Bool} {gcs:Nat->Option (List Nat × List Nat)} {perm:Nat->List (List Nat)}
theorem mark_gen (ht:TabOk P E tab) (hmix:P.follows .mixedOrders=true) {f:FuncId} {fn:Func} {code:Code} (hf:P.funcs[f]?=some fn) (hb:fn.body=some code) (hok:codeOkY tab (lookF []) hp perm false fn.ntmps code=true)
  {fs:List MF} (hfs:∀ q ∈ fs,MFok P q) {fa:Option FuncId} (hfa:∀ f,fa=some f->MAok P f) {ro:Nat->Option (Array Value)} {w:World} {l:List S0} {vs:List Value} {k:Int} {c:Nat} {anns:Nat->St->Unit->Option (AnnY Unit)} (hl:Loose ro w) (hB:Base.n0<=w.heap.size)
  (hargs:ArgsR (argG (fun _=>none) 0) l vs) (href:∀ s ∈ l,s.refs=[]) (hn:vs.length<=fn.ntmps)
  (hvc:vcY tab (lookF []) (lookP []) (spL tab ro fs fa) noSpL (fun _=>false) hp gcs anns perm code (entry l none) () (retL tab fn.results.toList k c)) :
  Calls P f vs.toArray w fun e w'=>∃ k':Int,e=.returned (.int .i64 k')/\k<=k'/\k'<=k+c/\Loose ro w'/\LExt ro w w':=by
 have hKA:KAll P E (lookF []):=kall_of (l:=[]) trivial
 have hPA:PAll P E (lookP []):=pall_of (l:=[]) trivial
 let D:Fp:=⟨fun b=>ro b ≠ none,fun _=>False⟩
 have hent:Rel E w (MOf false 0 (fun _=>none)) fn.ntmps (entry l none) { tmps:=vs.toArray ++ Array.replicate (fn.ntmps - vs.toArray.size) undef,defers:=[] } w :=
  entry_fix ⟨hB,fun b vs h=>by cases h⟩ hargs href (by simpa using hn)
 refine callsIn_wide.1 (callsIn_of_wp (n:=0) hf hb trivial ?_)
 refine codeY_sound (A:=AnE (jL ro) w (fun _=>False) D) (drg:=fun _=>false) (.inl rfl) ht hKA hPA hmix (spL_ok (.inl rfl) rfl ht hfs hfa) (fun _ _ _ _ _ _ _ h=>by cases h) (dr:=false) (fun h=>by cases h) code _ () _ _
  (retL tab fn.results.toList k c) _ (.inl fun γ ds w0 M h=>h.oo) hok
  ⟨w,MOf false 0 (fun _=>none),⟨rfl,fun _=>⟨rfl,rfl⟩,D,⟨fun _=>Iff.rfl,fun _ h=>h,hl⟩,fun b _ h=>(by cases h.1),fun b _=>rfl,fun b h=>(by cases h.1),FrX.refl _ _ _⟩,hent⟩ hvc ?_
 intro xk st' γ' a' w' hr hk
 have fin:retL tab fn.results.toList k c .ret st' γ'->a'.defers=[]/\∃ v,(results fn a'.tmps).run P w'=.ok v w'/\∃ k':Int,Ending.returned v=.returned (.int .i64 k')/\k<=k'/\k'<=k+c/\Loose ro w'/\LExt ro w w':=by
  intro hk
  unfold retL at hk
  simp only at hk
  split at hk
  ·rename_i k' hss
   obtain ⟨hrd,h1,h2⟩:=hk
   obtain ⟨D',g',⟨hJ1,hJ2,hJ3⟩,hfr,_⟩:=eff hr hrd
   obtain ⟨wA,M,hA,hr⟩:=hr
   obtain ⟨g,hg,henv⟩:=hr.good
   obtain ⟨vs1,hrun,hargs1,_⟩:=loads_run (P:=P) ht hg henv hr.cl hss
   have hres:=results_run (fn:=fn) hrun
   have hv1:vs1=[.int .i64 k']:=by
    obtain ⟨h1,h2⟩:=hargs1
    obtain ⟨v,h3,h4⟩:=h2 0 _ rfl
    have:=DR.val_eq (show DR g.ro (.val _) v from h4)
    subst this
    match vs1,h1 with
    | [u],_=>simpa using h3
   subst hv1
   refine ⟨hA.1,_,hres,k',rfl,h1,h2,hJ3,⟨hfr.os,hfr.tape,hfr.output,hfr.size,fun b hb hn=>hfr.block b hb (fun h=>h hn) (fun h=>h)⟩⟩
  ·exact hk.elim
 cases xk with
 | normal=>exact fin hk
 | ret=>exact fin hk
 | exit id=>exact hk.elim
theorem args_sv {v:Value} {k:Int} (h1:v.oneCell'=true):ArgsR (argG (fun _=>none) 0) [.c (.d (.val v)),.c (.d (.val (.int .i64 k)))] [v,.int .i64 k]:=by
 refine ⟨rfl,fun j s hj=>?_⟩
 match j,hj with
 | 0,hj=>cases hj;exact ⟨v,rfl,DR.val _ h1⟩
 | 1,hj=>cases hj;exact ⟨_,rfl,DR.val _ rfl⟩
 | j+2,hj=>simp at hj
theorem args_agg {us:List Value} {k:Int} (h1:∀ u ∈ us,u.oneCell'=true):ArgsR (argG (fun _=>none) 0) [.agg (us.map fun u=>.d (.val u)),.c (.d (.val (.int .i64 k)))] [.agg us.toArray,.int .i64 k]:=by
 refine ⟨rfl,fun j s hj=>?_⟩
 match j,hj with
 | 0,hj =>
  cases hj
  refine ⟨_,rfl,us.toArray,rfl,by simp,fun j c hj=>?_⟩
  rw [List.getElem?_map,Option.map_eq_some_iff] at hj
  obtain ⟨u,hu,rfl⟩:=hj
  exact ⟨u,by simpa using hu,DR.val _ (h1 u (List.mem_of_getElem? hu))⟩
 | 1,hj=>cases hj;exact ⟨_,rfl,DR.val _ rfl⟩
 | j+2,hj=>simp at hj
theorem mark_sound (ht:TabOk P E tab) (hmix:P.follows .mixedOrders=true) {f:FuncId} {fn:Func} (hf:P.funcs[f]?=some fn) (hb:fn.body=some (bodyOf fn)) (hn:2<=fn.ntmps) (hok:codeOkY tab (lookF []) hp perm false fn.ntmps (bodyOf fn)=true)
  {fs:List MF} (hfs:∀ q ∈ fs,MFok P q) {t:Ty} {nn c:List t.den->Nat} {m:Nat} {anns:(Nat->Option (Array Value))->List t.den->Value->Int->Nat->St->Unit->Option (AnnY Unit)}
  (hvc:∀ (ro:Nat->Option (Array Value)) (xs:List t.den) (v:Value) (k:Int),DR ro (.arr t xs) v->0<=k->k+c xs<=4611686018427387904->nn xs < m->vcY tab (lookF []) (lookP []) (spL tab ro fs none) noSpL (fun _=>false) hp gcs (anns ro xs v k) perm (bodyOf fn) (entL v k) () (retL tab fn.results.toList k (c xs))):MarkOk P f t nn c m:=by
 intro ro xs v k w hdr hl hk0 hk1 hnm hB
 exact mark_gen ht hmix hf hb hok hfs (fun _ h=>by cases h) hl hB (args_sv hdr.one) (by intro s hs;simp at hs;rcases hs with rfl | rfl <;> rfl) hn (hvc ro xs v k hdr hk0 hk1 hnm)
theorem markA_sound (ht:TabOk P E tab) (hmix:P.follows .mixedOrders=true) {f:FuncId} {fn:Func} (hf:P.funcs[f]?=some fn) (hb:fn.body=some (bodyOf fn)) (hn:2<=fn.ntmps) (hok:codeOkY tab (lookF []) hp perm false fn.ntmps (bodyOf fn)=true) {fs:List MF} (hfs:∀ q ∈ fs,MFok P q)
  (hvc:∀ (ro:Nat->Option (Array Value)) (xs:List GFact) (ys:List GAtom) (u v:Value) (k:Int),DR ro (.arr .fact xs) u->DR ro (.arr .atom ys) v->0<=k->k+(3 * xs.length+3 * ys.length:Nat)<=4611686018427387904->vcY tab (lookF []) (lookP []) (spL tab ro fs none) noSpL (fun _=>false) hp gcs (fun _ _ _=>none) perm (bodyOf fn) (entry [.agg [.d (.val u),.d (.val v)],.c (.d (.val (.int .i64 k)))] none) () (retL tab fn.results.toList k (3 * xs.length+3 * ys.length))):MarkA P f:=by
 intro ro xs ys u v k w h1 h2 hl hk0 hk1 hB
 exact mark_gen ht hmix hf hb hok hfs (fun _ h=>by cases h) hl hB (args_agg (us:=[u,v]) (by intro x hx;simp at hx;rcases hx with rfl | rfl <;> first | exact h1.one | exact h2.one)) (by intro s hs;simp at hs;rcases hs with rfl | rfl <;> rfl) hn (hvc ro xs ys u v k h1 h2 hk0 hk1)
def mkX (c:GCmd):Nat:=3 * c.inv.facts.length+3 * c.inv.atoms.length+mkL c.body+mkL c.els
structure CmdV (ro:Nat->Option (Array Value)) (c:GCmd) (us:List Value):Prop where
 l:us.length=10
 o:∀ u ∈ us,u.oneCell'=true
 f:DR ro (.arr .fact c.inv.facts) (us.getD 6 undef)
 a:DR ro (.arr .atom c.inv.atoms) (us.getD 7 undef)
 b:DR ro (.arr .cmd c.body) (us.getD 8 undef)
 e:DR ro (.arr .cmd c.els) (us.getD 9 undef)
def MarkC (P:Program) (f:FuncId):Prop :=
 ∀ (ro:Nat->Option (Array Value)) (c:GCmd) (us:List Value) (k:Int) (w:World),CmdV ro c us->Loose ro w->0<=k->k+mkX c<=4611686018427387904->Base.n0<=w.heap.size ->
  Calls P f #[.agg us.toArray,.int .i64 k] w fun e w'=>∃ k':Int,e=.returned (.int .i64 k')/\k<=k'/\k'<=k+mkX c/\Loose ro w'/\LExt ro w w'
theorem markC_sound (ht:TabOk P E tab) (hmix:P.follows .mixedOrders=true) {f:FuncId} {fn:Func} (hf:P.funcs[f]?=some fn) (hb:fn.body=some (bodyOf fn)) (hn:2<=fn.ntmps) (hok:codeOkY tab (lookF []) hp perm false fn.ntmps (bodyOf fn)=true) {fs:GCmd->List MF} (hfs:∀ c,∀ q ∈ fs c,MFok P q) {fa:FuncId} (hfa:MAok P fa)
  (hvc:∀ (ro:Nat->Option (Array Value)) (c:GCmd) (u0 u1 u2 u3 u4 u5 u6 u7 u8 u9:Value) (k:Int),DR ro (.arr .fact c.inv.facts) u6->DR ro (.arr .atom c.inv.atoms) u7->DR ro (.arr .cmd c.body) u8->DR ro (.arr .cmd c.els) u9->0<=k->k+mkX c<=4611686018427387904->vcY tab (lookF []) (lookP []) (spL tab ro (fs c) (some fa)) noSpL (fun _=>false) hp gcs (fun _ _ _=>none) perm (bodyOf fn) (entry [.agg [.d (.val u0),.d (.val u1),.d (.val u2),.d (.val u3),.d (.val u4),.d (.val u5),.d (.val u6),.d (.val u7),.d (.val u8),.d (.val u9)],.c (.d (.val (.int .i64 k)))] none) () (retL tab fn.results.toList k (mkX c))):MarkC P f:=by
 intro ro c us k w hv hl hk0 hk1 hB
 obtain ⟨h1,h2,h3,h4,h5,h6⟩:=hv
 match us,h1,h2,h3,h4,h5,h6 with
 | [u0,u1,u2,u3,u4,u5,u6,u7,u8,u9],_,h2,h3,h4,h5,h6 =>
  exact mark_gen ht hmix hf hb hok (hfs c) (fun f hf=>by injection hf with hf;subst hf;exact hfa) hl hB (args_agg h2) (by intro s hs;simp at hs;rcases hs with rfl | rfl <;> rfl) hn (hvc ro c u0 u1 u2 u3 u4 u5 u6 u7 u8 u9 k h3 h4 h5 h6 hk0 hk1)
end
section
variable {ro:Nat->Option (Array Value)} {v:Value} {i:Nat}
theorem lenV_DR {t:Ty} {xs:List t.den} (h:DR ro (.arr t xs) v):isSlV v=true/\lenV v=xs.length:=by
 rcases h.arr_inv with ⟨⟨a,rfl⟩,rfl⟩ | ⟨b,o,cap,vs,rfl,_⟩
 ·exact ⟨rfl,rfl⟩
 ·exact ⟨rfl,rfl⟩
theorem mk_cell {t:Ty} {xs:List t.den} (h:DR ro (.arr t xs) v) (hi:i < xs.length):isBlkV v=true/\isPtrV (placeV v t.sz i)=true/\∀ j c,(t.cells (xs.getD i t.zero))[j]?=some c->∃ u,cellR ro (addP (placeV v t.sz i) j)=some u/\DR ro c u:=by
 rcases h.arr_inv with ⟨_,rfl⟩ | ⟨b,o,cap,vs,rfl,hb,_,_,hrow,_⟩
 ·simp at hi
 ·refine ⟨rfl,rfl,fun j c hj=>?_⟩
  obtain ⟨u,h1,h2⟩:=row_cells (g:={ ro:=ro,κ:=fun _=>undef,ln:=fun _=>0,ρ:=0 }) hrow hi j (.d c) (by rw [List.getElem?_map,hj];rfl)
  exact ⟨u,by simp only [placeV,addP,cellR,hb];exact h1,h2⟩
theorem mk_num {t:Ty} {xs:List t.den} (h:DR ro (.arr t xs) v) (hi:i < xs.length) {j:Nat} {x:Value} (hj:(t.cells (xs.getD i t.zero))[j]?=some (.val x)) (hx:isSlV x=false):∃ u,cellR ro (addP (placeV v t.sz i) j)=some u/\isSlV u=false:=by
 obtain ⟨u,h1,h2⟩:=(mk_cell h hi).2.2 j _ hj
 exact ⟨u,h1,by rw [h2.val_eq];exact hx⟩
theorem mk_sl {t t':Ty} {xs:List t.den} (h:DR ro (.arr t xs) v) (hi:i < xs.length) {j:Nat} {ys:List t'.den} (hj:(t.cells (xs.getD i t.zero))[j]?=some (.arr t' ys) ∨ (t.cells (xs.getD i t.zero))[j]?=some (.ne t' ys)) :
  (∃ u,cellR ro (addP (placeV v t.sz i) j)=some u/\isSlV u=true)/\DR ro (.arr t' ys) (cellD ro (addP (placeV v t.sz i) j)):=by
 have:∃ u,cellR ro (addP (placeV v t.sz i) j)=some u/\DR ro (.arr t' ys) u:=by
  rcases hj with hj | hj
  ·exact (mk_cell h hi).2.2 j _ hj
  ·obtain ⟨u,h1,h2⟩:=(mk_cell h hi).2.2 j _ hj
   exact ⟨u,h1,h2.unne⟩
 obtain ⟨u,h1,h2⟩:=this
 refine ⟨⟨u,h1,(lenV_DR h2).1⟩,?_⟩
 unfold cellD
 rw [h1]
 exact h2
theorem DR.cmd_uniq {xs ys:List GCmd} (h:DR ro (.arr .cmd xs) v) (h':DR ro (.arr .cmd ys) v):xs=ys:=by
 obtain ⟨a,h1,h2⟩:=DR.places _ xs v (Nat.le_refl _) h
 obtain ⟨b,h3,h4⟩:=DR.places _ ys v (Nat.le_refl _) h'
 rw [← h2,← h4,DR.xuniq _ a b v (Nat.le_refl _) h1 h3]
end
end Go.SE

namespace Go.SE
variable [Base]
open Go.RowKit
variable {ro:Nat->Option (Array Value)} {v:Value} {i:Nat}
theorem mkFt {xs:List GFact} (hd:DR ro (.arr .fact xs) v) (hi:i < xs.length):isBlkV v=true/\isPtrV (placeV v 3 i)=true/\∀ j,j < 3->∃ u,cellR ro (addP (placeV v 3 i) j)=some u/\isSlV u=false:=by
 refine ⟨(mk_cell hd hi).1,(mk_cell hd hi).2.1,fun j hj=>?_⟩
 match j,hj with
 | 0,_=>exact mk_num (t:=.fact) (j:=0) hd hi rfl rfl
 | 1,_=>exact mk_num (t:=.fact) (j:=1) hd hi rfl rfl
 | 2,_=>exact mk_num (t:=.fact) (j:=2) hd hi rfl rfl
theorem mkAtm {xs:List GAtom} (hd:DR ro (.arr .atom xs) v) (hi:i < xs.length):isBlkV v=true/\isPtrV (placeV v 3 i)=true/\∀ j,j < 3->∃ u,cellR ro (addP (placeV v 3 i) j)=some u/\isSlV u=false:=by
 refine ⟨(mk_cell hd hi).1,(mk_cell hd hi).2.1,fun j hj=>?_⟩
 match j,hj with
 | 0,_=>exact mk_num (t:=.atom) (j:=0) hd hi rfl rfl
 | 1,_=>exact mk_num (t:=.atom) (j:=1) hd hi rfl rfl
 | 2,_=>exact mk_num (t:=.atom) (j:=2) hd hi rfl rfl
theorem mkCm {xs:List GCmd} (hd:DR ro (.arr .cmd xs) v) (hi:i < xs.length):isBlkV v=true/\isPtrV (placeV v 10 i)=true/\∀ j,j < 6->∃ u,cellR ro (addP (placeV v 10 i) j)=some u/\isSlV u=false:=by
 refine ⟨(mk_cell hd hi).1,(mk_cell hd hi).2.1,fun j hj=>?_⟩
 match j,hj with
 | 0,_=>exact mk_num (t:=.cmd) (j:=0) hd hi rfl rfl
 | 1,_=>exact mk_num (t:=.cmd) (j:=1) hd hi rfl rfl
 | 2,_=>exact mk_num (t:=.cmd) (j:=2) hd hi rfl rfl
 | 3,_=>exact mk_num (t:=.cmd) (j:=3) hd hi rfl rfl
 | 4,_=>exact mk_num (t:=.cmd) (j:=4) hd hi rfl rfl
 | 5,_=>exact mk_num (t:=.cmd) (j:=5) hd hi rfl rfl
theorem mkC6 {xs:List GCmd} (hd:DR ro (.arr .cmd xs) v) (hi:i < xs.length):(∃ u,cellR ro (addP (placeV v 10 i) 6)=some u/\isSlV u=true)/\DR ro (.arr .fact (xs.getD i (Ty.zero .cmd)).inv.facts) (cellD ro (addP (placeV v 10 i) 6)):=mk_sl (t:=.cmd) (j:=6) hd hi (.inl rfl)
theorem mkC7 {xs:List GCmd} (hd:DR ro (.arr .cmd xs) v) (hi:i < xs.length):(∃ u,cellR ro (addP (placeV v 10 i) 7)=some u/\isSlV u=true)/\DR ro (.arr .atom (xs.getD i (Ty.zero .cmd)).inv.atoms) (cellD ro (addP (placeV v 10 i) 7)):=mk_sl (t:=.cmd) (j:=7) hd hi (.inl rfl)
theorem mkC8 {xs:List GCmd} (hd:DR ro (.arr .cmd xs) v) (hi:i < xs.length):(∃ u,cellR ro (addP (placeV v 10 i) 8)=some u/\isSlV u=true)/\DR ro (.arr .cmd (xs.getD i (Ty.zero .cmd)).body) (cellD ro (addP (placeV v 10 i) 8)):=mk_sl (t:=.cmd) (j:=8) hd hi (.inr rfl)
theorem mkC9 {xs:List GCmd} (hd:DR ro (.arr .cmd xs) v) (hi:i < xs.length):(∃ u,cellR ro (addP (placeV v 10 i) 9)=some u/\isSlV u=true)/\DR ro (.arr .cmd (xs.getD i (Ty.zero .cmd)).els) (cellD ro (addP (placeV v 10 i) 9)):=mk_sl (t:=.cmd) (j:=9) hd hi (.inr rfl)
theorem mkL_bd {xs:List GCmd} (hi:i < xs.length):mkL (xs.take (i+1))=mkL (xs.take i)+(6+3 * (xs.getD i (Ty.zero .cmd)).inv.facts.length+3 * (xs.getD i (Ty.zero .cmd)).inv.atoms.length+mkL (xs.getD i (Ty.zero .cmd)).body+mkL (xs.getD i (Ty.zero .cmd)).els)/\mkL (xs.take (i+1))<=mkL xs /\
  ndL (xs.getD i (Ty.zero .cmd)).body < ndL xs/\ndL (xs.getD i (Ty.zero .cmd)).els < ndL xs:=by
 rw [mkL_step hi,mkC_eq]
 have h1:=ndL_get (d:=Ty.zero .cmd) hi
 have h2:=ndC_eq (xs.getD i (Ty.zero .cmd))
 have h3:=mkL_take xs (i+1)
 rw [mkL_step hi,mkC_eq] at h3
 exact ⟨rfl,h3,by omega,by omega⟩
end Go.SE
namespace Go.SE
variable [Base]
open Go.RowKit
variable {ro:Nat->Option (Array Value)} {v:Value} {i:Nat}
theorem uq6 {xs:List GCmd} {ys:List GFact} (hd:DR ro (.arr .cmd xs) v) (h:DR ro (.arr .fact ys) (cellD ro (addP (placeV v 10 i) 6))) (hi:i < xs.length):ys=(xs.getD i (Ty.zero .cmd)).inv.facts:=h.fact_uniq (mkC6 hd hi).2
theorem uq7 {xs:List GCmd} {ys:List GAtom} (hd:DR ro (.arr .cmd xs) v) (h:DR ro (.arr .atom ys) (cellD ro (addP (placeV v 10 i) 7))) (hi:i < xs.length):ys=(xs.getD i (Ty.zero .cmd)).inv.atoms:=h.atom_uniq (mkC7 hd hi).2
theorem uq8 {xs:List GCmd} {ys:List GCmd} (hd:DR ro (.arr .cmd xs) v) (h:DR ro (.arr .cmd ys) (cellD ro (addP (placeV v 10 i) 8))) (hi:i < xs.length):ys=(xs.getD i (Ty.zero .cmd)).body:=h.cmd_uniq (mkC8 hd hi).2
theorem uq9 {xs:List GCmd} {ys:List GCmd} (hd:DR ro (.arr .cmd xs) v) (h:DR ro (.arr .cmd ys) (cellD ro (addP (placeV v 10 i) 9))) (hi:i < xs.length):ys=(xs.getD i (Ty.zero .cmd)).els:=h.cmd_uniq (mkC9 hd hi).2
theorem mkL_ge:∀ xs:List GCmd,xs.length<=mkL xs
 | []=>Nat.zero_le _
 | c :: l=>by
  have h1:=mkL_ge l
  have h2:=mkC_eq c
  simp only [mkL,List.length_cons]
  omega
theorem mkEnd {xs:List GCmd} {i:Nat} {a k:Int} (h:a<=k+((mkL (xs.take i):Nat):Int)):a<=k+((mkL xs:Nat):Int):=by
 have:=mkL_take xs i
 omega
end Go.SE

namespace Go.SE
variable [Base]
theorem rbK_zero {s:GState} {c:GCmd} (h:rbK s c=0):stV s=true/\fokB c=true/\bK s c=0/\rbS s c=bS s c:=by
 unfold rbK at h
 split at h
 ·rename_i hok
  have hok':=hok
  simp only [rbOk,Bool.and_eq_true] at hok'
  exact ⟨hok'.1,hok'.2,h,by simp [rbS,hok,bR,h]⟩
 ·omega
theorem rbS_no {s:GState} {c:GCmd} (h:¬ rbK s c=0):rbS s c=⟨[],[]⟩:=by
 unfold rbK at h
 unfold rbS
 split
 ·rename_i hok
  rw [if_pos hok] at h
  simp [bR,h]
 ·rfl
theorem qcS_eq {s:GState} (h:¬ qcV s=0):qcS s=⟨s.vals,s.heap.set (qcV s - 1).toNat 0⟩:=by simp [qcS,h]
theorem bS_form {s:GState} {c:GCmd} (hf:fokB c=true) (h:bK s c=0) :
  ((bS s c).vals=s.vals ∨ (1<=c.a/\c.a<=4/\∃ v,(bS s c).vals=s.vals.set (c.a - 1).toNat v))/\((bS s c).heap=s.heap ∨ ∃ k v,(bS s c).heap=s.heap.set k v):=by
 obtain ⟨hk,ha,hb,hpv⟩:=fok_of hf
 rcases (show c.kind=1 ∨ c.kind=2 ∨ c.kind=3 ∨ c.kind=4 ∨ c.kind=5 by omega) with e | e | e | e | e
 ·exact ⟨.inr ⟨(hpv (.inl e)).1,(hpv (.inl e)).2,_,by simp [bS,e];rfl⟩,.inl (by simp [bS,e])⟩
 ·exact ⟨.inr ⟨(hpv (.inr (.inl e))).1,(hpv (.inr (.inl e))).2,_,by simp [bS,e];rfl⟩,.inl (by simp [bS,e])⟩
 ·exact ⟨.inl (by simp [bS,e]),.inr ⟨_,_,by simp [bS,e];rfl⟩⟩
 ·have hq:¬ qcV s=0:=by intro h0;simp [bK,e,h0] at h
  refine ⟨.inr ⟨(hpv (.inr (.inr e))).1,(hpv (.inr (.inr e))).2,qcV s,by simp [bS,e,qcS_eq hq]⟩,.inr ⟨(qcV s - 1).toNat,0,by simp [bS,e,qcS_eq hq]⟩⟩
 ·exact ⟨.inl (by simp [bS,e]),.inr ⟨_,_,by simp [bS,e];rfl⟩⟩
theorem rb_len (s:GState) (c:GCmd):(rbS s c).vals.length<=8/\(rbS s c).heap.length<=8:=by
 by_cases h:rbK s c=0
 ·obtain ⟨h1,h2,h3,h4⟩:=rbK_zero h
  obtain ⟨hl1,hl2⟩:=stV_lens h1
  rw [h4]
  obtain ⟨f1,f2⟩:=bS_form h2 h3
  constructor
  ·rcases f1 with f | ⟨_,_,v,f⟩ <;> rw [f] <;> simp [hl1]
  ·rcases f2 with f | ⟨k,v,f⟩ <;> rw [f] <;> simp [hl2]
 ·rw [rbS_no h];simp
abbrev zc (k a b:Int):GCmd:=.mk k a b ⟨false,0,0⟩ ⟨[],[]⟩ [] []
end Go.SE

namespace Go.SE
open Go.RowKit
def cellF:CV->Option (List GFact)
 | .d (.arr .fact l)=>some l
 | _=>none
def cellA:CV->Option (List GAtom)
 | .d (.arr .atom l)=>some l
 | _=>none
def cellN:CV->Option (List GCmd)
 | .d (.ne .cmd l)=>some l
 | _=>none
def isD:CV->Bool
 | .d _=>true
 | _=>false
def cmdOf:List CV->Option GCmd
 | [x0,x1,x2,x3,x4,x5,f,a,b,e]=>match cellF f,cellA a,cellN b,cellN e,isD x0 && isD x1 && isD x2 && isD x3 && isD x4 && isD x5 with
  | some f,some a,some b,some e,true=>some (.mk 0 0 0 ⟨false,0,0⟩ ⟨f,a⟩ b e)
  | _,_,_,_,_=>none
 | _=>none
theorem cellF_eq {c:CV} {l:List GFact} (h:cellF c=some l):c=.d (.arr .fact l):=by
 unfold cellF at h;split at h
 ·injection h with h;subst h;rfl
 ·cases h
theorem cellA_eq {c:CV} {l:List GAtom} (h:cellA c=some l):c=.d (.arr .atom l):=by
 unfold cellA at h;split at h
 ·injection h with h;subst h;rfl
 ·cases h
theorem cellN_eq {c:CV} {l:List GCmd} (h:cellN c=some l):c=.d (.ne .cmd l):=by
 unfold cellN at h;split at h
 ·injection h with h;subst h;rfl
 ·cases h
theorem isD_eq {c:CV} (h:isD c=true):∃ x,c=.d x:=by
 unfold isD at h;split at h
 ·exact ⟨_,rfl⟩
 ·cases h
theorem cmdOf_eq {cs:List CV} {c:GCmd} (h:cmdOf cs=some c):∃ x0 x1 x2 x3 x4 x5 f a b e,cs=[.d x0,.d x1,.d x2,.d x3,.d x4,.d x5,.d (.arr .fact f),.d (.arr .atom a),.d (.ne .cmd b),.d (.ne .cmd e)]/\c=.mk 0 0 0 ⟨false,0,0⟩ ⟨f,a⟩ b e:=by
 unfold cmdOf at h
 split at h
 ·split at h
  ·rename_i x0 x1 x2 x3 x4 x5 f a b e f' a' b' e' h1 h2 h3 h4 h5
   injection h with h
   simp only [Bool.and_eq_true] at h5
   obtain ⟨⟨⟨⟨⟨y0,y1⟩,y2⟩,y3⟩,y4⟩,y5⟩:=h5
   obtain ⟨x0,rfl⟩:=isD_eq y0
   obtain ⟨x1,rfl⟩:=isD_eq y1
   obtain ⟨x2,rfl⟩:=isD_eq y2
   obtain ⟨x3,rfl⟩:=isD_eq y3
   obtain ⟨x4,rfl⟩:=isD_eq y4
   obtain ⟨x5,rfl⟩:=isD_eq y5
   rw [cellF_eq h1,cellA_eq h2,cellN_eq h3,cellN_eq h4]
   exact ⟨x0,x1,x2,x3,x4,x5,_,_,_,_,rfl,h.symm⟩
  ·cases h
 ·cases h
def inN:List Nat->Nat->Bool
 | [],_=>false
 | a :: l,x=>Nat.beq a x || inN l x
theorem inN_mem {l:List Nat} {x:Nat} (h:inN l x=true):x ∈ l:=by
 induction l with
 | nil=>cases h
 | cons a l ih =>
  simp only [inN,Bool.or_eq_true] at h
  rcases h with h | h
  ·rw [Nat.eq_of_beq_eq_true h];exact List.mem_cons_self
  ·exact List.mem_cons_of_mem _ (ih h)
def forget (ke km:List Nat) (st:St):St :=
 { st with env:=fun x=>cond (inN ke x) (st.env x) junk,mem:=fun i=>match st.mem i with
  | none=>none
  | some r=>some (cond (inN km i) r .dead) }
theorem forget_mem {ke km:List Nat} {st:St} {i:Nat} {r:Res} (h:(forget ke km st).mem i=some r) (hl:r.live):inN km i=true/\st.mem i=some r:=by
 simp only [forget] at h
 split at h
 ·cases h
 ·rename_i q hq
  injection h with h
  cases hi:inN km i with
  | false=>rw [hi] at h;subst h;exact hl.elim
  | true=>rw [hi] at h;subst h;exact ⟨rfl,hq⟩
theorem forget_some {ke km:List Nat} {st:St} {i:Nat}:((forget ke km st).mem i).isSome=(st.mem i).isSome:=by
 simp only [forget]
 cases st.mem i <;> rfl
end Go.SE
namespace Go.SE
variable [Base]
open Go.RowKit
def above (ro:Nat->Option (Array Value)):Nat->Option (Array Value):=fun b=>if Base.n0<=b then ro b else none
def pmC:DC->Prop
 | .val _=>True
 | .arr t _=>t=.fact ∨ t=.atom ∨ t=.cmd
 | .ne t _=>t=.fact ∨ t=.atom ∨ t=.cmd
 | .fix _ _ _=>False
theorem pmC_cells {t:Ty} (h:t=.fact ∨ t=.atom ∨ t=.cmd) (x:t.den):∀ c ∈ t.cells x,pmC c:=by
 rcases h with rfl | rfl | rfl <;> simp [Ty.cells,pmC]
theorem DR.above {ro:Nat->Option (Array Value)} {c:DC} {v:Value} (h:DR ro c v):pmC c->DR (above ro) c v:=by
 induction h with
 | val x h=>exact fun _=>.val x h
 | nil t=>exact fun _=>.nil t
 | emp t a=>exact fun _=>.emp t a
 | arr t xs b off cap vs g hb hpm hl hc h1 h2 ih =>
  intro hp
  have hb':Base.n0<=b:=hpm (by rcases hp with rfl | rfl | rfl <;> rfl)
  refine .arr t xs b off cap vs g (by simp [SE.above,hb',hb]) hpm hl hc h1 fun k c hk=>ih k c hk ?_
  obtain ⟨x,_,hx⟩:=List.mem_flatMap.1 (List.mem_of_getElem? hk)
  exact pmC_cells hp x c hx
 | fix=>exact fun h=>h.elim
 | ne t xs v h h0 ih=>exact fun hp=>.ne t xs v (ih hp) h0
def safeC (ro0:Nat->Option (Array Value)):CV->Prop
 | .d (.val _)=>True
 | .d (.fix t xs v)=>DR ro0 (.arr t xs) v
 | .nil=>True
 | .own _=>True
 | .ptr _ _=>True
 | .junk=>True
 | _=>False
def safeL (ro0:Nat->Option (Array Value)):List CV->Prop
 | []=>True
 | c :: l=>safeC ro0 c/\safeL ro0 l
def safeS (ro0:Nat->Option (Array Value)):S->Prop
 | .s (.c x)=>safeC ro0 x
 | .s (.agg l)=>safeL ro0 l
 | _=>False
def safeR (ro0:Nat->Option (Array Value)):Res->Prop
 | .blk cs=>safeL ro0 cs
 | .vec t _=>t.flat=true
 | .sl _ t _=>t.flat=true
 | .dead=>True
def safeE (ro0:Nat->Option (Array Value)) (st:St):List Nat->Prop
 | []=>True
 | x :: l=>safeS ro0 (st.env x)/\safeE ro0 st l
def safeI (ro0:Nat->Option (Array Value)) (st:St) (i:Nat):Option Res->Prop
 | some r=>safeR ro0 r/\st.sp i=false/\st.fr i=false
 | none=>True
def safeM (ro0:Nat->Option (Array Value)) (st:St):List Nat->Prop
 | []=>True
 | i :: l=>safeI ro0 st i (st.mem i)/\safeM ro0 st l
theorem safeE_of {ro0:Nat->Option (Array Value)} {st:St} {l:List Nat} (h:safeE ro0 st l) {x:Nat} (hx:x ∈ l):safeS ro0 (st.env x):=by
 induction l with
 | nil=>cases hx
 | cons a l ih =>
  rcases List.mem_cons.1 hx with rfl | hx
  ·exact h.1
  ·exact ih h.2 hx
theorem safeM_of {ro0:Nat->Option (Array Value)} {st:St} {l:List Nat} (h:safeM ro0 st l) {i:Nat} (hi:i ∈ l) {r:Res} (hr:st.mem i=some r):safeR ro0 r/\st.sp i=false/\st.fr i=false:=by
 induction l with
 | nil=>cases hi
 | cons a l ih =>
  rcases List.mem_cons.1 hi with rfl | hi
  ·have:=h.1;rw [hr] at this;exact this
  ·exact ih h.2 hi
theorem safeL_of {ro0:Nat->Option (Array Value)} {l:List CV} (h:safeL ro0 l) {c:CV} (hc:c ∈ l):safeC ro0 c:=by
 induction l with
 | nil=>cases hc
 | cons a l ih =>
  rcases List.mem_cons.1 hc with rfl | hc
  ·exact h.1
  ·exact ih h.2 hc
def withRo (g:G) (ro0:Nat->Option (Array Value)):G:={ g with ro:=ro0 }
theorem safeC_R {g:G} {ro0:Nat->Option (Array Value)} {c:CV} {v:Value} (h:safeC ro0 c) (hr:c.R g v):c.R (withRo g ro0) v:=by
 unfold safeC at h
 split at h
 ·have:=DR.val_eq (show DR g.ro (.val _) v from hr)
  subst this
  exact DR.val _ (DR.one (show DR g.ro (.val _) _ from hr))
 ·rename_i t xs u
  obtain ⟨e,_⟩:=DR.fix_inv (show DR g.ro (.fix t xs u) v from hr)
  subst e
  exact DR.fix _ _ _ h
 ·exact hr
 ·exact hr
 ·exact hr
 ·trivial
 ·exact h.elim
theorem safeL_R {g:G} {ro0:Nat->Option (Array Value)} {l:List CV} {vs:Array Value} (h:safeL ro0 l) (hr:Cells g l vs):Cells (withRo g ro0) l vs :=
 ⟨hr.1,fun j c hj=>let ⟨u,h1,h2⟩:=hr.2 j c hj;⟨u,h1,safeC_R (safeL_of h (List.mem_of_getElem? hj)) h2⟩⟩
theorem safeS_R {g:G} {ro0:Nat->Option (Array Value)} {s:S} {v:Value} (h:safeS ro0 s) (hr:s.R g v):s.R (withRo g ro0) v:=by
 unfold safeS at h
 split at h
 ·exact safeC_R h hr
 ·obtain ⟨vs,rfl,hc⟩:=hr
  exact ⟨vs,rfl,safeL_R h hc⟩
 ·exact h.elim
def callF (ro0:Nat->Option (Array Value)) (ke km:List Nat) (st:St) (dst:Option Tmp):Option (List S0)->Option ((St->MG->Prop)->Prop)
 | some [.agg cs,.c (.d (.val (.int .i64 k)))]=>match cmdOf cs with
  | some c=>some fun K=>(st.rd=none/\0<=k/\k+((mkX c:Nat):Int)<=4611686018427387904/\safeE ro0 st ke/\safeM ro0 st km)/\∀ k':Int,k<=k'->k'<=k+((mkX c:Nat):Int)->K (St.put (forget ke km st) dst (sv (.int .i64 k'))) none
  | none=>none
 | _=>none
def spF (ro0:Nat->Option (Array Value)) (f:FuncId) (ke km:List Nat):SpOp MG:=fun o st γ =>
 match o.op,o.dst,γ with
 | .call ⟨.value (.func f'),args,_⟩,some d,none=>if f'=f then callF ro0 ke km st (some d) (argsS st args.toList) else none
 | _,_,_=>none
section
variable {P:Program} {E:Ty->TypeId} {n:Nat} {wE w w':World} {ro0:Nat->Option (Array Value)} {ρ:Nat} {st:St} {a:Act} {M:MM} {g:G} {w0:World} {ke km:List Nat}
theorem AM.forget (h:AM wE ro0 ρ none a.defers w0 M) (hr:Rel E w0 M n st (bareA a) w) (hg:Good E w0 M g st w) (henv:∀ x,(st.env x).R g ((bareA a).tmps.getD x undef)) (hrd:st.rd=none)
  (hB:Base.n0=wE.heap.size) (hin:ROin wE ro0) (hlow:∀ b vs,ro0 b=some vs->b < wE.heap.size) (hse:safeE ro0 st ke) (hsm:safeM ro0 st km) (hx:LExt (SE.above g.ro) w w') {d:Tmp} (hd:d < n) (k:Int) :
  RelY E (AM wE ro0 ρ) n (St.put (SE.forget ke km st) (some d) (sv (.int .i64 k))) none (a.put (some d) (.int .i64 k)) w':=by
 have hext:=h.ext hg
 obtain ⟨hds,hpin,he,hcan,hro,hrho,_⟩:=h
 have hold:∀ b,b < wE.heap.size->w'.heap[b]?=wE.heap[b]?:=fun b hb=>by
  rw [hx.block b (Nat.lt_of_lt_of_le hb hext.size) (by simp [SE.above,hB];omega)]
  exact hext.block b hb fun h=>h
 -- kept resources
 have kept:∀ id r,(SE.forget ke km st).mem id=some r->r.live->st.mem id=some r/\safeR ro0 r/\st.sp id=false/\st.fr id=false:=fun id r hm hl=>by
  obtain ⟨h1,h2⟩:=forget_mem hm hl
  exact ⟨h2,safeM_of hsm (inN_mem h1) h2⟩
 have hblk:∀ id r,(SE.forget ke km st).mem id=some r->r.live->∀ b,blkOf (g.κ id)=some b->w'.heap[b]?=w.heap[b]?:=fun id r hm hl b hb=>by
  obtain ⟨h1,_,h3,h4⟩:=kept id r hm hl
  refine hx.block b ((hg.res id r h1).lt hl hb) ?_
  have:=hg.wro id r h1 hl b hb h3 h4
  simp [SE.above,this]
 let g':=withRo g ro0
 have hres:∀ id r,(SE.forget ke km st).mem id=some r->ResR E w' g' id r:=fun id r hm=>by
  by_cases hl:r.live
  ·obtain ⟨h1,h2,_,_⟩:=kept id r hm hl
   have h5:=hg.res id r h1
   have h6:=hblk id r hm hl
   cases r with
   | blk cs =>
    obtain ⟨b,vs,ty,k1,k2,k3⟩:=h5
    exact ⟨b,vs,ty,k1,by rw [h6 b (by rw [k1];rfl)];exact k2,safeL_R h2 k3⟩
   | vec t xs =>
    obtain ⟨k0,b,vs,ty,k1,k2,k3,k4⟩:=h5
    exact ⟨k0,b,vs,ty,k1,by rw [h6 b (by rw [k1];rfl)];exact k2,k3,RowR.flat_any h2 k4⟩
   | sl f t xs =>
    obtain ⟨k0,h5⟩:=h5
    refine ⟨k0,?_⟩
    rcases h5 with h5 | ⟨b,cap,cur,k1,k2,k3,k4,k5,k6⟩
    ·exact .inl h5
    ·exact .inr ⟨b,cap,cur,k1,by rw [h6 b (by rw [k1];rfl)];exact k2,k3,k4,k5,RowR.flat_any h2 k6⟩
   | dead=>trivial
  ·cases r <;> first | exact (hl trivial).elim | trivial
 have hgood:Good E w' (reM g' (SE.forget ke km st)) g' (SE.forget ke km st) w':=by
  refine ⟨Ext.refl _ _,?_,hres,?_,?_,?_,?_,?_,fun b vs hb=>.inl hb,⟨rfl,Nat.le_trans hg.roin.1 hx.size,fun b hb=>?_⟩,fun id v hv=>(by cases hv),fun id v hv=>(by cases hv),fun b vs hb=>(by cases hb)⟩
  ·intro b vs hb
   exact (hin.2 b vs hb).keep fun hlt=>hold b hlt
  ·intro i j r s hi hj hne hl hl' b hb hb'
   exact hg.sep i j r s (kept i r hi hl).1 (kept j s hj hl').1 hne hl hl' b hb hb'
  ·intro id r hr hl b hb
   exact .inr ⟨id,r,hr,hl,hb⟩
  ·intro id r hm hl b hb _ _
   have h1:=hg.nb (kept id r hm hl).1 hl hb
   show ro0 b=none
   cases hrb:ro0 b with
   | none=>rfl
   | some vs=>have:=hlow b vs hrb;omega
  ·intro k hk;rw [show (SE.forget ke km st).rd=st.rd from rfl,hrd] at hk;cases hk
  ·intro hk;exact absurd hrd hk
  ·obtain ⟨id,r,hm,hl,hb⟩:=hb
   exact hg.nb (kept id r hm hl).1 hl hb
 refine ⟨w',reM g' (SE.forget ke km st),⟨by rw [put_defers];exact hds,fun _=>⟨rfl,rfl⟩,⟨hx.os.trans hext.os,hx.tape.trans hext.tape,hx.output.trans hext.output,Nat.le_trans hext.size hx.size,fun b hb _=>hold b hb⟩,fun b hc=>?_,fun b vs hb=>.inl hb,hg.rho.1.trans hrho,trivial⟩,?_⟩
 ·obtain ⟨id,r,hm,hl,hb⟩:=hc
  have:=hg.nb (kept id r hm hl).1 hl hb
  omega
 ·rw [bare_put]
  have hcle:∀ x,∀ id ∈ ((SE.forget ke km st).env x).refs,((SE.forget ke km st).mem id).isSome=true:=fun x id hid=>by
   rw [forget_some]
   have hid:id ∈ (cond (inN ke x) (st.env x) junk).refs:=hid
   cases hx:inN ke x with
   | false=>rw [hx] at hid;simp [junk,S.refs,S0.refs,CV.refs] at hid
   | true=>rw [hx] at hid;exact hr.cl.1 x id hid
  refine ⟨⟨?_,?_⟩,?_,?_,g',hgood.env rfl rfl rfl rfl,?_⟩
  ·intro x id hid
   by_cases e:x=d
   ·subst e;simp only [St.put,upd_same] at hid;simp [refs_sv] at hid
   ·simp only [St.put,upd_ne _ _ e] at hid;exact hcle x id hid
  ·intro j r hj id hid
   rw [show (St.put (SE.forget ke km st) (some d) (sv (.int .i64 k))).mem=(SE.forget ke km st).mem from rfl] at hj ⊢
   rw [forget_some]
   by_cases hl:r.live
   ·exact hr.cl.2 j r (kept j r hj hl).1 id hid
   ·cases r <;> first | exact (hl trivial).elim | (simp [Res.refs] at hid)
  ·simp [Act.put,hr.size]
  ·rw [put_defers];exact hr.defers
  ·intro x
   rw [put_get (by rw [hr.size];intro d' h;injection h with h;subst h;exact hd)]
   by_cases e:x=d
   ·subst e;simp only [St.put,upd_same];simpa using R_sv rfl
   ·have:¬ (some d=some x):=fun h=>e (by injection h with h;exact h.symm)
    rw [if_neg this]
    simp only [St.put,upd_ne _ _ e]
    show S.R g' (cond (inN ke x) (st.env x) junk) _
    cases hx:inN ke x with
    | false=>trivial
    | true=>exact safeS_R (safeE_of hse (inN_mem hx)) (henv x)
theorem spF_ok {F : Fence} {m : Nat} (hF : FW F) (hFd : F = Fence.wide) {f : FuncId} (hmk : MarkC P f) (hfn : ∃ fn c, P.funcs[f]? = some fn /\ (fn.name == "runtime.NumGoroutine") = false /\ fn.body = some c)
  (hB:Base.n0=wE.heap.size) (hin:ROin wE ro0) (hlow:∀ b vs,ro0 b=some vs->b < wE.heap.size):SpOk F m P E (AM wE ro0 ρ) n (spF ro0 f ke km):=by
 intro o st γ fk hs hd K a w next Q h hf hk
 unfold spF at hs
 split at hs
 ·rename_i f' args tys d ho hdst
  split at hs
  ·rename_i e
   subst e
   unfold callF at hs
   split at hs
   ·rename_i cs k hargs
    split at hs
    ·rename_i c hc
     injection hs with hs
     subst hs
     obtain ⟨⟨hrd,hk0,hk1,hse,hsm⟩,hkk⟩:=hf
     obtain ⟨fn,cc,hf1,hname,hbody⟩:=hfn
     obtain ⟨w0,M,hA,hr⟩:=h
     obtain ⟨g,hg,he⟩:=hr.good
     obtain ⟨hl1,hl2⟩:=argsS_R (a:=bareA a) he hargs
     obtain ⟨u0,e0,r0⟩:=hl2 0 _ rfl
     obtain ⟨u1,e1,r1⟩:=hl2 1 _ rfl
     have d1:=DR.val_eq (show DR g.ro (.val (.int .i64 k)) u1 from r1)
     subst d1
     obtain ⟨us,rfl,c1,c2⟩:=r0
     have hl1:(args.toList.map a.eval).length=2:=hl1
     have e0:(args.toList.map a.eval)[0]?=some _:=e0
     have e1:(args.toList.map a.eval)[1]?=some _:=e1
     have hvals:args.toList.map a.eval=[.agg us,.int .i64 k]:=by
      match args.toList.map a.eval,hl1,e0,e1 with
      | [p,q],_,e0,e1=>simp at e0 e1;rw [e0,e1]
     have harr:args.map a.eval=#[.agg us.toList.toArray,.int .i64 k]:=by apply Array.ext';simpa using hvals
     obtain ⟨x0,x1,x2,x3,x4,x5,fs,as,bo,el,rfl,rfl⟩:=cmdOf_eq hc
     have hdv:∀ (j:Nat) (x:DC),([.d x0,.d x1,.d x2,.d x3,.d x4,.d x5,.d (.arr .fact fs),.d (.arr .atom as),.d (.ne .cmd bo),.d (.ne .cmd el)]:List CV)[j]?=some (.d x)->∃ u,us[j]?=some u/\DR g.ro x u:=fun j x hj=>c2 j _ hj
     have hsz:us.size=10:=c1
     have gd:∀ (j:Nat) (u:Value),us[j]?=some u->us.toList.getD j undef=u:=fun j u hu=>by
      rw [List.getD_eq_getElem?_getD,Array.getElem?_toList,hu];rfl
     have hv:CmdV (SE.above g.ro) (.mk 0 0 0 ⟨false,0,0⟩ ⟨fs,as⟩ bo el) us.toList:=by
      refine ⟨by simpa using hsz,fun u hu=>?_,?_,?_,?_,?_⟩
      ·obtain ⟨j,hj,e⟩:=List.mem_iff_getElem.1 hu
       have hj':j < 10:=by simpa [hsz] using hj
       have hu':us[j]?=some u:=by rw [← Array.getElem?_toList];rw [List.getElem?_eq_getElem hj,e]
       have:∃ x,([.d x0,.d x1,.d x2,.d x3,.d x4,.d x5,.d (.arr .fact fs),.d (.arr .atom as),.d (.ne .cmd bo),.d (.ne .cmd el)]:List CV)[j]?=some (.d x):=by
        match j,hj' with
        | 0,_=>exact ⟨_,rfl⟩
        | 1,_=>exact ⟨_,rfl⟩
        | 2,_=>exact ⟨_,rfl⟩
        | 3,_=>exact ⟨_,rfl⟩
        | 4,_=>exact ⟨_,rfl⟩
        | 5,_=>exact ⟨_,rfl⟩
        | 6,_=>exact ⟨_,rfl⟩
        | 7,_=>exact ⟨_,rfl⟩
        | 8,_=>exact ⟨_,rfl⟩
        | 9,_=>exact ⟨_,rfl⟩
       obtain ⟨x,hx⟩:=this
       obtain ⟨u',h1,h2⟩:=hdv j x hx
       rw [hu'] at h1
       injection h1 with h1
       subst h1
       exact h2.one
      ·obtain ⟨u,h1,h2⟩:=hdv 6 _ rfl
       rw [gd 6 u h1];exact DR.above h2 (.inl rfl)
      ·obtain ⟨u,h1,h2⟩:=hdv 7 _ rfl
       rw [gd 7 u h1];exact DR.above h2 (.inr (.inl rfl))
      ·obtain ⟨u,h1,h2⟩:=hdv 8 _ rfl
       rw [gd 8 u h1];exact DR.above h2.unne (.inr (.inr rfl))
      ·obtain ⟨u,h1,h2⟩:=hdv 9 _ rfl
       rw [gd 9 u h1];exact DR.above h2.unne (.inr (.inr rfl))
     have hl:Loose (SE.above g.ro) w:=⟨fun b vs hb=>by
      unfold SE.above at hb
      split at hb
      ·rename_i hnb
       obtain ⟨ty,fz,h1,h2⟩:=hg.ro b vs hb
       rw [h2 hnb] at h1
       exact ⟨vs,ty,h1,rfl,fun _ _ h _=>h⟩
      ·cases hb⟩
     subst hFd
     refine ⟨fun _ _=>trivial,?_⟩
     rw [show Fence.wide.round=none from rfl,Oper.semAt_none,run_call hf1 hname hbody ho,Oper.uponIn_enter]
     refine ⟨fun h=>(by cases h),callsIn_wide.2 ?_⟩
     rw [harr]
     refine Calls.mono (hmk _ _ us.toList k w hv hl hk0 hk1 hg.roin.1) fun e w' he'=>?_
     obtain ⟨k',rfl,h5,h6,h7,h8⟩:=he'
     have:=AM.forget hA hr hg he hrd hB hin hlow hse hsm h8 (hd d hdst) k'
     have hn:=hk _ _ _ _ this (hkk k' h5 h6)
     rw [hdst]
     exact hn
    ·cases hs
   ·cases hs
  ·cases hs
 ·cases hs
end
end Go.SE

namespace Go.SE
variable [Base]
open Go.RowKit
abbrev entF (x:GState) (y:GCmd) (v0 v1 u6 u7 u8 u9:Value):St:=entry [.agg [.d (.fix .int x.vals v0),.d (.fix .int x.heap v1)],
 .agg [.d (.val (.int .i64 y.kind)),.d (.val (.int .i64 y.a)),.d (.val (.int .i64 y.b)),.d (.val (.bool y.test.eq)),.d (.val (.int .i64 y.test.a)),.d (.val (.int .i64 y.test.b)),
  .d (.fix .lfact y.inv.facts u6),.d (.fix .latom y.inv.atoms u7),.d (.fix .lcmd y.body u8),.d (.fix .lcmd y.els u9)]] none
section
variable {P:Program} {E:Ty->TypeId} {tab:TypeId->Option TI} {hp:Nat->Bool} {gcs:Nat->Option (List Nat × List Nat)} {perm:Nat->List (List Nat)}
theorem lawF {l:List (FuncId × Con)} {lp:List (FuncId × PT)} (ht:TabOk P E tab) (hmix:P.follows .mixedOrders=true) (hl:AllOk P E l) (hlp:AllPt P E lp) {f:FuncId} {fn:Func} (hf:P.funcs[f]?=some fn) (hb:fn.body=some (bodyOf fn)) (hn:2<=fn.ntmps) (hok:codeOkY tab (lookF l) hp perm true fn.ntmps (bodyOf fn)=true)
  {fm : FuncId} (hmk : MarkC P fm) (hfn : ∃ fn c, P.funcs[fm]? = some fn /\ (fn.name == "runtime.NumGoroutine") = false /\ fn.body = some c) {ke km : List Nat} {anns : Nat -> St -> MG -> Option (AnnY MG)} {W : World} (hB : Base.n0 = W.heap.size) {x : GState} {y : GCmd}
  (hvc:∀ v0 v1 u6 u7 u8 u9:Value,DR (roAll W) (.arr .int x.vals) v0->DR (roAll W) (.arr .int x.heap) v1->DR (roAll W) (.arr .lfact y.inv.facts) u6->DR (roAll W) (.arr .latom y.inv.atoms) u7->DR (roAll W) (.arr .lcmd y.body) u8->DR (roAll W) (.arr .lcmd y.els) u9 ->
   vcY tab (lookF l) (lookP lp) (spF (roAll W) fm ke km) noSpM (fun _=>true) hp gcs anns perm (bodyOf fn) (entF x y v0 v1 u6 u7 u8 u9) none (retM tab fn.results.toList true))
  {vs:List Value} (hargs:ArgsR (argG (roAll W) 0) (encs [.state,.lcmd] (x,y,())) vs):Calls P f vs.toArray W fun e W'=>e=.returned (.bool true)/\Below W.heap.size W W':=by
 have hlen:vs.length=2:=hargs.1
 obtain ⟨va,hva,hra⟩:=hargs.2 0 _ rfl
 obtain ⟨vb,hvb,hrb⟩:=hargs.2 1 _ rfl
 obtain ⟨as,rfl,ha1,ha2⟩:=hra
 obtain ⟨bs,rfl,hb1,hb2⟩:=hrb
 obtain ⟨v0,a0,d0⟩:=ha2 0 _ rfl
 obtain ⟨v1,a1,d1⟩:=ha2 1 _ rfl
 obtain ⟨u6,b6,d6⟩:=hb2 6 _ rfl
 obtain ⟨u7,b7,d7⟩:=hb2 7 _ rfl
 obtain ⟨u8,b8,d8⟩:=hb2 8 _ rfl
 obtain ⟨u9,b9,d9⟩:=hb2 9 _ rfl
 have hin:ROin W (roAll W):=roAll_in hB
 have hlow:∀ b vs,roAll W b=some vs->b < W.heap.size:=fun b vs h=>(hin.2 b vs h).lt
 have hargs':ArgsR (argG (roAll W) 0) [.agg [.d (.fix .int x.vals v0),.d (.fix .int x.heap v1)],
   .agg [.d (.val (.int .i64 y.kind)),.d (.val (.int .i64 y.a)),.d (.val (.int .i64 y.b)),.d (.val (.bool y.test.eq)),.d (.val (.int .i64 y.test.a)),.d (.val (.int .i64 y.test.b)),
    .d (.fix .lfact y.inv.facts u6),.d (.fix .latom y.inv.atoms u7),.d (.fix .lcmd y.body u8),.d (.fix .lcmd y.els u9)]] vs:=by
  refine ⟨by rw [hlen];rfl,fun j s hj=>?_⟩
  match j,hj with
  | 0,hj =>
   cases hj
   refine ⟨_,hva,as,rfl,ha1,fun j c hj=>?_⟩
   match j,hj with
   | 0,hj=>cases hj;exact ⟨_,a0,DR.fix _ _ _ d0⟩
   | 1,hj=>cases hj;exact ⟨_,a1,DR.fix _ _ _ d1⟩
   | j+2,hj=>simp at hj
  | 1,hj =>
   cases hj
   refine ⟨_,hvb,bs,rfl,hb1,fun j c hj=>?_⟩
   match j,hj with
   | 0,hj=>exact hb2 0 c hj
   | 1,hj=>exact hb2 1 c hj
   | 2,hj=>exact hb2 2 c hj
   | 3,hj=>exact hb2 3 c hj
   | 4,hj=>exact hb2 4 c hj
   | 5,hj=>exact hb2 5 c hj
   | 6,hj=>cases hj;exact ⟨_,b6,DR.fix _ _ _ d6⟩
   | 7,hj=>cases hj;exact ⟨_,b7,DR.fix _ _ _ d7⟩
   | 8,hj=>cases hj;exact ⟨_,b8,DR.fix _ _ _ d8⟩
   | 9,hj=>cases hj;exact ⟨_,b9,DR.fix _ _ _ d9⟩
   | j+10,hj=>simp at hj
  | j+2,hj=>simp at hj
 have hent:Rel E W (MOf false 0 (roAll W)) fn.ntmps (entF x y v0 v1 u6 u7 u8 u9) { tmps:=vs.toArray ++ Array.replicate (fn.ntmps - vs.toArray.size) undef,defers:=[] } W :=
  entry_fix hin hargs' (by intro s hs;simp at hs;rcases hs with rfl | rfl <;> rfl) (by omega)
 have hdr:∀ w0 M n,DrawSound P E tab (lookF l) w0 M n:=fun _ _ _=>draw_sound ht (tab_small ht) (kall_of hl) hmix _ _ _
 refine callsIn_wide.1 (callsIn_of_wp (n:=0) hf hb trivial ?_)
 refine codeY_sound (A:=AM W (roAll W) 0) (drg:=fun _=>true) (.inl rfl) ht (kall_of hl) (pall_of hlp) hmix (spF_ok (.inl rfl) rfl hmk hfn hB hin hlow) (fun _ _ _ _ _ _ _ h=>by cases h) (dr:=true) (fun _=>⟨rfl,fun γ ds w0 M _ hA=>hA.1,fun _ _=>hdr _ _ _⟩) (bodyOf fn) _ none _ _
  (retM tab fn.results.toList true) _ (.inl fun γ ds w0 M h=>h.oo) hok
  ⟨W,MOf false 0 (roAll W),⟨rfl,fun _=>⟨rfl,rfl⟩,Ext.refl _ _,fun b h=>(by cases h.1),fun b vs h=>.inl h,rfl,trivial⟩,hent⟩ (hvc v0 v1 u6 u7 u8 u9 d0 d1 d6 d7 d8 d9) ?_
 intro xk st' γ' a' w' hr hk
 obtain ⟨wA,M,hA,hr⟩:=hr
 obtain ⟨g,hg,henv⟩:=hr.good
 have fin:retM tab fn.results.toList true .ret st' γ'->a'.defers=[]/\∃ v,(results fn a'.tmps).run P w'=.ok v w'/\(Ending.returned v=.returned (.bool true)/\Below W.heap.size W w'):=by
  intro hk
  unfold retM at hk
  simp only at hk
  split at hk
  ·rename_i b hss
   obtain ⟨hrd,rfl⟩:=hk
   obtain ⟨vs1,hrun,hargs1,_⟩:=loads_run (P:=P) ht hg henv hr.cl hss
   have hres:=results_run (fn:=fn) hrun
   have hv1:vs1=[.bool true]:=by
    obtain ⟨h1,h2⟩:=hargs1
    obtain ⟨v,h3,h4⟩:=h2 0 _ rfl
    have:=DR.val_eq (show DR g.ro (.val _) v from h4)
    subst this
    match vs1,h1 with
    | [u],_=>simpa using h3
   subst hv1
   have hE:=hA.ext hg
   exact ⟨hA.1,_,hres,rfl,hE.os,hE.tape,hE.output,hE.size,fun b hb=>hE.block b hb fun h=>h⟩
  ·exact hk.elim
 cases xk with
 | normal=>exact fin hk
 | ret=>exact fin hk
 | exit id=>exact hk.elim
end
end Go.SE

namespace Go.SE
mutual
theorem mkC_le:∀ c:GCmd,mkC c<=6+6 * wtC c
 | .mk k a b t i bo el=>by
  have h1:=mkL_le bo
  have h2:=mkL_le el
  rw [mkC_eq,wtC_eq]
  simp only [GCmd.inv,GCmd.body,GCmd.els]
  omega
theorem mkL_le:∀ l:List GCmd,mkL l<=6 * (l.length+wcL l)
 | []=>Nat.zero_le _
 | c :: l=>by
  have h1:=mkC_le c
  have h2:=mkL_le l
  simp only [mkL,wcL,List.length_cons]
  omega
end
theorem mkX_le (y:GCmd):3 * y.inv.facts.length+3 * y.inv.atoms.length+mkL y.body+mkL y.els<=6 * wtC y:=by
 have h1:=mkL_le y.body
 have h2:=mkL_le y.els
 have:=wtC_eq y
 omega
end Go.SE
