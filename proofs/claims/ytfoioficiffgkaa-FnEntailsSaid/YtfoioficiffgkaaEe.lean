/-
  Parts of a symbolic engine over the program's code: how operations, regions, loops and calls are shown to keep contracts. No conditions.
-/
import Derived.Test.YtfoioficiffgkaaEd
import Derived.Test.YtfoioficiffgkaaEc
set_option linter.unusedSimpArgs false
set_option linter.unusedVariables false
set_option linter.unusedSectionVars false

namespace Go.SE
open Go.RowKit
def hz (a:GAsn) (q:Int->Bool):Nat->Bool:=fun k=>isT (k:Int) && (((k:Int) == 0) || (occ a k || q k))
def casesF (a:GAsn):CG:=casesB a (hz a fun _=>false)
theorem tsOr {x y:Int} (hx0:0<=x) (hx:x < 512) (hy0:0<=y) (hy:y < 512):0<=bits .or .u16 x y/\bits .or .u16 x y < 512/\∀ t,tsHas (bits .or .u16 x y) t=(tsHas x t || tsHas y t):=by
 rw [u16_or _ _ hx0 (by omega) hy0 (by omega)]
 refine ⟨by omega,?_,fun t=>?_⟩
 ·have h1:x.toNat < 2 ^ 9:=by omega
  have h2:y.toNat < 2 ^ 9:=by omega
  have:=Nat.or_lt_two_pow h1 h2
  omega
 ·simp only [tsHas,Int.toNat_natCast,Nat.testBit_or]
  cases isT t <;> simp
theorem itEn_or {a:GAsn} (ha:asV a=true) {s:Int} (h0:0<=s) (h1:s < 512):itEn a (bits .or .u16 (tsWith (tsA a) 0) s)=casesB a (hz a (tsHas s))/\itPre a (bits .or .u16 (tsWith (tsA a) 0) s):=by
 have hb:=tsA_bd a
 have hw:=tsWith_bd (t:=0) hb.1 hb.2
 obtain ⟨o1,o2,o3⟩:=tsOr hw.1 hw.2 h0 h1
 refine ⟨?_,ha,o1,o2⟩
 unfold itEn
 have:hasN (bits .or .u16 (tsWith (tsA a) 0) s)=hz a (tsHas s):=by
  funext k
  unfold hasN hz
  rw [o3,tsHas_with hb.1 rfl,tsA_has ha]
  cases hk:isT (k:Int) with
  | true =>
   rw [Bool.true_and,BEq.comm]
   cases occ a (k:Int) <;> cases ((k:Int) == 0) <;> cases tsHas s (k:Int) <;> rfl
  | false =>
   have e1:occ a (k:Int)=false:=by rw [← tsA_has ha];simp [tsHas,hk]
   have e2:((0:Int) == (k:Int))=false:=by
    cases h:((0:Int) == (k:Int)) with
    | false=>rfl
    | true=>have:(0:Int)=(k:Int):=by simpa using h
            rw [← this] at hk;cases hk
   have e3:tsHas s (k:Int)=false:=by simp [tsHas,hk]
   rw [e1,e2,e3];rfl
 rw [this]
theorem hz_congr {a:GAsn} {q r:Int->Bool} (h:∀ k:Int,isT k=true->q k=r k):hz a q=hz a r:=by
 funext k
 unfold hz
 cases hk:isT (k:Int) with
 | false=>rfl
 | true=>rw [h _ hk]
theorem itEn_zero {a:GAsn} (ha:asV a=true):itEn a (bits .or .u16 (tsWith (tsA a) 0) 0)=casesF a:=by
 rw [(itEn_or ha (by decide) (by decide)).1]
 unfold casesF
 rw [hz_congr fun k _=>tsHas_zero k]
theorem asV_small {a:GAsn} (ha:asV a=true):a.facts.length<=281474976710656/\a.atoms.length<=281474976710656:=by
 have:=asV_facts ha
 omega
theorem hz_named {a:GAsn} (ha:asV a=true) (q:Int->Bool):Named a (hz a q):=by
 obtain ⟨h1,_,h2,_⟩:=asV_facts ha
 have key:∀ t:Int,isT t=true->occ a t=true->0<=t/\t<=8/\hz a q t.toNat=true:=fun t ht ho=>by
  obtain ⟨h3,h4⟩:=isT_iff.1 ht
  refine ⟨h3,h4,?_⟩
  unfold hz
  have:((t.toNat:Nat):Int)=t:=by omega
  rw [this,ht,ho]
  simp
 refine ⟨fun f hf=>?_,fun x hx=>?_⟩
 ·have hv:=fV_isT (List.all_eq_true.1 h1 f hf)
  obtain ⟨a1,a2,a3⟩:=key f.a hv.1 (by unfold occ occF;rw [List.any_eq_true.2 ⟨f,hf,by simp⟩];rfl)
  obtain ⟨b1,b2,b3⟩:=key f.b hv.2 (by unfold occ occF;rw [List.any_eq_true.2 ⟨f,hf,by simp⟩];rfl)
  exact ⟨a1,a2,b1,b2,a3,b3⟩
 ·have hv:=atV_isT (List.all_eq_true.1 h2 x hx)
  have ho:∀ t,(x.a == t || x.b == t)=true->occ a t=true:=fun t ht=>by
   unfold occ occG
   rw [List.any_eq_true.2 ⟨x,hx,ht⟩,Bool.or_true]
  obtain ⟨a1,a2,a3⟩:=key x.a hv.1 (ho _ (by simp))
  obtain ⟨b1,b2,b3⟩:=key x.b hv.2 (ho _ (by simp))
  exact ⟨a1,a2,b1,b2,a3,b3⟩
section
variable {α:Type} {L:List α} {q:α->Bool} {i:Nat} {c d:α}
theorem first_hit (h:L[i]?=some c) (ht:(L.take i).all q=true) (hq:q c=false):(L.filter fun x=>!q x).headD d=c/\(L.filter fun x=>!q x).isEmpty=false/\L.all q=false:=by
 have hi:=(List.getElem?_eq_some_iff.1 h).1
 have e:L=L.take i ++ (c :: L.drop (i+1)):=by
  have h2:L.drop i=c :: L.drop (i+1):=by
   rw [List.drop_eq_getElem_cons hi]
   rw [List.getElem?_eq_getElem hi] at h
   injection h with h
   rw [h]
  rw [← h2,List.take_append_drop]
 have hf:(L.take i).filter (fun x=>!q x)=[]:=by
  rw [List.filter_eq_nil_iff]
  intro x hx
  rw [List.all_eq_true.1 ht x hx]
  simp
 have e2:L.filter (fun x=>!q x)=c :: (L.drop (i+1)).filter fun x=>!q x:=by
  conv=>lhs;rw [e]
  rw [List.filter_append,hf,List.nil_append,List.filter_cons,hq]
  simp
 refine ⟨by rw [e2];rfl,by rw [e2];rfl,?_⟩
 rw [List.all_eq_false]
 exact ⟨c,List.mem_of_getElem? h,by rw [hq];simp⟩
theorem first_none (h:L.all q=true):(L.filter fun x=>!q x)=[]:=by
 rw [List.filter_eq_nil_iff]
 intro x hx
 rw [List.all_eq_true.1 h x hx]
 simp
theorem filter_true:(L.filter fun _=>!false)=L:=List.filter_eq_self.2 fun _ _=>rfl
theorem head_hit (h:L[i]?=some c) (ht:(L.take i).all (fun _=>false)=true):c=L.headD d/\true=!L.isEmpty:=by
 obtain ⟨h1,h2,_⟩:=first_hit (d:=d) h ht rfl
 rw [filter_true] at h1 h2
 exact ⟨h1.symm,by rw [h2];rfl⟩
theorem head_none (h:L.all (fun _=>false)=true):d=L.headD d/\false=!L.isEmpty:=by
 have h1:=first_none h
 rw [filter_true] at h1
 subst h1
 exact ⟨rfl,rfl⟩
end
theorem casesF_len (a:GAsn):(List.headD (casesF a) (List.replicate 9 0)).length=9:=by
 cases h:casesF a with
 | nil=>rfl
 | cons c l=>exact enumC_len _ _ _ c (by show c ∈ casesF a;rw [h];simp)
theorem sFit_step {c:List Int} {l:List GFact} {i:Nat} {d:GFact} (h:i < l.length) :
  sFit (l.take (i+1)) c=(sFit (l.take i) c && (!(decide (0<=cl c (l.getD i d).a) && decide (0<=cl c (l.getD i d).b)) || fh c (l.getD i d))):=by
 have e:l.take (i+1)=l.take i ++ [l.getD i d]:=by
  rw [List.take_add_one,List.getD_eq_getElem?_getD,List.getElem?_eq_getElem h];rfl
 unfold sFit
 rw [e,List.all_append]
 simp
theorem sFit_no {c:List Int} {l:List GFact} {i:Nat} {d:GFact} (h:i < l.length) (h1:0<=cl c (l.getD i d).a) (h2:0<=cl c (l.getD i d).b) (h3:fh c (l.getD i d)=false):sFit l c=false:=by
 unfold sFit
 rw [List.all_eq_false]
 refine ⟨l.getD i d,?_,?_⟩
 ·rw [List.getD_eq_getElem?_getD,List.getElem?_eq_getElem h];exact List.getElem_mem h
 ·rw [decide_eq_true h1,decide_eq_true h2,h3];simp
theorem est_step {c:List Int} {l:List GAtom} {i:Nat} {d:GAtom} (h:i < l.length) :
  est c (l.take (i+1))=cond (stE c (l.getD i d)) (est c (l.take i) ++ [cl c (l.getD i d).a]) (est c (l.take i)):=by
 have e:l.take (i+1)=l.take i ++ [l.getD i d]:=by
  rw [List.take_add_one,List.getD_eq_getElem?_getD,List.getElem?_eq_getElem h];rfl
 unfold est
 rw [e,List.filter_append,List.map_append]
 generalize l.getD i d=y
 cases hb:stE c y <;> simp [List.filter,hb]
theorem est_pre (c:List Int) (l:List GAtom) (i:Nat):∃ r,est c l=est c (l.take i) ++ r:=by
 refine ⟨est c (l.drop i),?_⟩
 unfold est
 rw [← List.map_append,← List.filter_append,List.take_append_drop]
theorem est_skip {c:List Int} {l:List GAtom} {i:Nat} {d:GAtom} (h:i < l.length) (h1:stE c (l.getD i d)=false):est c (l.take (i+1))=est c (l.take i):=by
 rw [est_step (d:=d) h,h1,cond_false]
theorem sEarly_no {c:List Int} {l:List GAtom} {i:Nat} {d:GAtom} (h:i < l.length) (h1:stE c (l.getD i d)=true) (h2:cl c (l.getD i d).a=0 ∨ (isT (cl c (l.getD i d).a)=true/\(est c (l.take i)).contains (cl c (l.getD i d).a)=true)):sEarly l c=false:=by
 unfold sEarly
 cases ho:okS [] (est c l) with
 | false=>rfl
 | true =>
  obtain ⟨r,hr⟩:=est_pre c l (i+1)
  rw [hr] at ho
  have h3:=okS_pre _ _ _ ho
  rw [est_step (d:=d) h,h1,cond_true,okS_append] at h3
  simp only [Bool.and_eq_true,Bool.not_eq_true',beq_eq_false_iff_ne] at h3
  rcases h2 with h2 | ⟨h2,h4⟩
  ·exact (h3.2.1 h2).elim
  ·have h5:=h3.2.2
   rw [h2,h4] at h5
   simp at h5
theorem sEarly_go {c:List Int} {l:List GAtom} {i:Nat} {d:GAtom} (h:i < l.length) (h0:okS [] (est c (l.take i))=true) (h1:stE c (l.getD i d)=true) (h2:cl c (l.getD i d).a ≠ 0) (h3:isT (cl c (l.getD i d).a)=true) (h4:(est c (l.take i)).contains (cl c (l.getD i d).a)=false) :
  okS [] (est c (l.take (i+1)))=true/\(fl9 fun t=>(est c (l.take i)).contains t).set (cl c (l.getD i d).a).toNat true=fl9 fun t=>(est c (l.take (i+1))).contains t:=by
 rw [est_step (d:=d) h,h1,cond_true,okS_append,h0,h4,fl9_set h3]
 refine ⟨by rw [beq_eq_false_iff_ne.2 h2];simp,fl9_congr fun t=>?_⟩
 rw [Bool.eq_iff_iff,Bool.or_eq_true,List.contains_iff_mem,List.contains_iff_mem,List.mem_append,List.mem_singleton,beq_iff_eq]
 exact ⟨fun h=>h.imp id Eq.symm,fun h=>h.imp id Eq.symm⟩
theorem sApart_step {l:List GAtom} {i:Nat} {d:GAtom} (h:i < l.length):sApart (l.take (i+1))=(sApart (l.take i) && (!((l.getD i d).a == 0) && (l.take i).all fun x=>!(x.a == (l.getD i d).a))):=by
 have e:l.take (i+1)=l.take i ++ [l.getD i d]:=by
  rw [List.take_add_one,List.getD_eq_getElem?_getD,List.getElem?_eq_getElem h];rfl
 have okN_append:∀ (x:Int) (l s:List Int),okN s (l ++ [x])=(okN s l && (!(x == 0) && !(s.contains x || l.contains x))):=by
  intro x l
  induction l with
  | nil=>intro s;simp [okN]
  | cons y l ih =>
   intro s
   simp only [List.cons_append,okN,ih,List.contains_cons]
   cases h1:(y == 0) <;> cases h2:(x == 0) <;> cases h4:(x == y) <;> cases h5:s.contains x <;> cases h6:l.contains x <;> cases h8:s.contains y <;> simp
 unfold sApart
 rw [e,List.map_append,List.map_cons,List.map_nil,okN_append]
 congr 2
 rw [List.contains_nil,Bool.false_or]
 generalize l.take i=m
 induction m with
 | nil=>rfl
 | cons y m ih =>
  simp only [List.map_cons,List.contains_cons,List.all_cons,← ih,Bool.not_or]
  congr 2
  exact BEq.comm
theorem sApart_pre {l:List GAtom} {i:Nat} (h:sApart (l.take i)=false):sApart l=false:=by
 have okN_pre:∀ (l s r:List Int),okN s (l ++ r)=true->okN s l=true:=by
  intro l
  induction l with
  | nil=>intros;rfl
  | cons y l ih =>
   intro s r h
   simp only [List.cons_append,okN,Bool.and_eq_true] at h ⊢
   exact ⟨h.1,h.2.1,ih _ _ h.2.2⟩
 cases hs:sApart l with
 | false=>rfl
 | true =>
  unfold sApart at hs h
  rw [← List.take_append_drop i l,List.map_append] at hs
  rw [okN_pre _ _ _ hs] at h
  cases h
theorem sApart_zero {l:List GAtom} {i:Nat} {d:GAtom} (h:i < l.length) (h0:(l.getD i d).a=0):sApart l=false:=by
 refine sApart_pre (i:=i+1) ?_
 rw [sApart_step (d:=d) h,h0];simp
theorem sApart_two {l:List GAtom} {i j:Nat} {d:GAtom} (h:i < l.length) (hj:j < i) (h0:(l.getD j d).a=(l.getD i d).a):sApart l=false:=by
 refine sApart_pre (i:=i+1) ?_
 rw [sApart_step (d:=d) h]
 have:((l.take i).all fun x=>!(x.a == (l.getD i d).a))=false:=by
  rw [List.all_eq_false]
  refine ⟨l.getD j d,?_,by rw [h0,beq_self_eq_true];simp⟩
  rw [List.getD_eq_getElem?_getD,List.getElem?_eq_getElem (by omega)]
  exact List.mem_take_iff_getElem.2 ⟨j,by omega,rfl⟩
 rw [this];simp
theorem apart_in {l:List GAtom} {i j:Nat} {d:GAtom} (hj:j < l.length) (h:((l.take j).all fun x=>!(x.a == (l.getD i d).a))=true) (h0:(l.getD j d).a ≠ (l.getD i d).a):((l.take (j+1)).all fun x=>!(x.a == (l.getD i d).a))=true:=by
 have e:l.take (j+1)=l.take j ++ [l.getD j d]:=by
  rw [List.take_add_one,List.getD_eq_getElem?_getD,List.getElem?_eq_getElem hj];rfl
 rw [e,List.all_append,h,List.all_cons,beq_eq_false_iff_ne.2 h0]
 rfl
theorem fL_step {c:List Int} {l:List GAtom} {i:Nat} {d:GAtom} (h:i < l.length) :
  fL c (l.take (i+1))=cond (filB c (l.getD i d)) (fL c (l.take i) ++ [⟨(l.getD i d).kind,cl c (l.getD i d).a,cl c (l.getD i d).b⟩]) (fL c (l.take i)):=by
 have e:l.take (i+1)=l.take i ++ [l.getD i d]:=by
  rw [List.take_add_one,List.getD_eq_getElem?_getD,List.getElem?_eq_getElem h];rfl
 unfold fL
 rw [e,List.map_append,List.filter_append]
 generalize l.getD i d=y
 have:filB c y=(y.kind == 1 || !(cl c y.a == cl c y.b)):=rfl
 cases hb:filB c y <;> rw [this] at hb <;> simp [List.filter,hb]
theorem fL_len (c:List Int) (l:List GAtom):(fL c l).length<=l.length:=by
 unfold fL
 exact Nat.le_trans (List.length_filter_le _ _) (by simp)
def vA (a:GAsn):Bool:=a.facts.all fV && (a.atoms.all atV && (decide (a.facts.length<=1000) && decide (a.atoms.length<=1000)))
theorem vA_iff {a:GAsn}:vA a=true ↔ a.facts.all fV=true/\a.atoms.all atV=true/\a.facts.length<=1000/\a.atoms.length<=1000:=by
 unfold vA;simp only [Bool.and_eq_true,decide_eq_true_eq]
def le8 (c:List Int):Bool:=c.all fun x=>decide (x<=8)
theorem le8_get {c:List Int} (h:le8 c=true) (t:Int):cl c t<=8:=by
 unfold cl
 rw [List.getD_eq_getElem?_getD]
 by_cases hi:t.toNat < c.length
 ·rw [List.getElem?_eq_getElem hi]
  have:=List.all_eq_true.1 h _ (List.getElem_mem hi)
  simpa using this
 ·rw [List.getElem?_eq_none (by omega)];decide
theorem le8_set {c:List Int} (h:le8 c=true) {k:Nat} {x:Int} (hx:x<=8):le8 (c.set k x)=true:=by
 unfold le8 at h ⊢
 rw [List.all_eq_true] at h ⊢
 intro y hy
 rcases List.mem_or_eq_of_mem_set hy with hy | rfl
 ·exact h y hy
 ·simpa using hx
def sQ (fin:List Int->Bool) (a:GAsn) (tm:List Bool) (c:List Int) (t:Int):CG:=sEn (sFits a) fin (fun k=>tm.getD k false) (9 - t).toNat t.toNat c
def brE (fin:List Int->Bool) (a:GAsn) (tm:List Bool) (c:List Int) (t:Int) (j:Nat):CG:=cond (decide ((j:Int)=t) || c.getD j 0 == (j:Int)) (sQ fin a tm (c.set t.toNat (j:Int)) (t+1)) []
theorem sQ_last {fin:List Int->Bool} {a:GAsn} {tm:List Bool} {c:List Int} {t:Int} (h:8 < t):sQ fin a tm c t=cond (sFits a c) (cond (fin c) [c] []) []:=by
 unfold sQ
 rw [show (9 - t).toNat=0 by omega]
 rfl
theorem sQ_bad {fin:List Int->Bool} {a:GAsn} {tm:List Bool} {c:List Int} {t:Int} (h:sFits a c=false):sQ fin a tm c t=[]:=by
 unfold sQ
 generalize (9 - t).toNat=f
 cases f <;> simp only [sEn,h,cond_false]
theorem sQ_skip {fin:List Int->Bool} {a:GAsn} {tm:List Bool} {c:List Int} {t:Int} (h:¬ 8 < t) (h0:0<=t) (hf:sFits a c=true) (ht:tm.getD t.toNat false=false):sQ fin a tm c t=sQ fin a tm c (t+1):=by
 unfold sQ
 rw [show (9 - t).toNat=(9 - (t+1)).toNat+1 by omega,show (t+1).toNat=t.toNat+1 by omega]
 simp only [sEn,hf,ht,cond_true,cond_false]
theorem sQ_all {fin:List Int->Bool} {a:GAsn} {tm:List Bool} {c:List Int} {t:Int} (h:¬ 8 < t) (h0:0<=t) (hf:sFits a c=true) (ht:tm.getD t.toNat false=true):sQ fin a tm c t=(List.range (t.toNat+1)).flatMap (brE fin a tm c t):=by
 unfold sQ
 rw [show (9 - t).toNat=(9 - (t+1)).toNat+1 by omega]
 simp only [sEn,hf,ht,cond_true]
 refine flatMap_congr' fun k hk=>?_
 unfold brE sQ
 rw [show (t+1).toNat=t.toNat+1 by omega]
 congr 2
 rw [Bool.eq_iff_iff]
 simp
 omega
theorem sQ_none {fin:List Int->Bool} {a:GAsn} {tm:List Bool} {c:List Int} {t:Int} {i:Nat} (h:¬ 8 < t) (h0:0<=t) (hf:sFits a c=true) (ht:tm.getD t.toNat false=true) (hi:∀ j,j < i->brE fin a tm c t j=[]) (he:¬ (i:Int)<=t):sQ fin a tm c t=[]:=by
 rw [sQ_all h h0 hf ht]
 exact fm_none fun j hj=>hi j (by omega)
theorem sQ_hit {fin:List Int->Bool} {a:GAsn} {tm:List Bool} {c:List Int} {t:Int} {i:Nat} (h:¬ 8 < t) (h0:0<=t) (hf:sFits a c=true) (ht:tm.getD t.toNat false=true) (hi:∀ j,j < i->brE fin a tm c t j=[]) (he:(i:Int)<=t) (hg:(i:Int)=t ∨ c.getD i 0=(i:Int)) (hb:(sQ fin a tm (c.set t.toNat (i:Int)) (t+1)).isEmpty=false) :
  (sQ fin a tm c t).headD []=(sQ fin a tm (c.set t.toNat (i:Int)) (t+1)).headD []/\(sQ fin a tm c t).isEmpty=false:=by
 have e:brE fin a tm c t i=sQ fin a tm (c.set t.toNat (i:Int)) (t+1):=by
  unfold brE
  have:(decide ((i:Int)=t) || c.getD i 0 == (i:Int))=true:=by
   rcases hg with hg | hg
   ·rw [decide_eq_true hg];rfl
   ·rw [hg];simp
  rw [this,cond_true]
 rw [sQ_all h h0 hf ht]
 have:=fm_first (g:=brE fin a tm c t) (n:=t.toNat+1) (i:=i) (by omega) hi (by rw [e];exact hb)
 rw [e] at this
 exact this
theorem brE_skip {fin:List Int->Bool} {a:GAsn} {tm:List Bool} {c:List Int} {t:Int} {i:Nat} (hi:∀ j,j < i->brE fin a tm c t j=[]) (hlt:(i:Int) < t) (hne:c.getD i 0 ≠ (i:Int)):∀ j,j < i+1->brE fin a tm c t j=[]:=fun j hj=>by
 by_cases e:j=i
 ·subst e
  unfold brE
  rw [decide_eq_false (by omega),show (c.getD j 0 == (j:Int))=false by simpa using hne]
  rfl
 ·exact hi j (by omega)
theorem brE_none {fin:List Int->Bool} {a:GAsn} {tm:List Bool} {c:List Int} {t:Int} {i:Nat} (hi:∀ j,j < i->brE fin a tm c t j=[]) (hb:(sQ fin a tm (c.set t.toNat (i:Int)) (t+1)).isEmpty=true):∀ j,j < i+1->brE fin a tm c t j=[]:=fun j hj=>by
 by_cases e:j=i
 ·subst e
  unfold brE
  rw [List.isEmpty_iff.1 hb]
  cases (decide ((j:Int)=t) || c.getD j 0 == (j:Int)) <;> rfl
 ·exact hi j (by omega)
theorem early_leaf {c:List Int} {l:List GAtom} {i:Nat} {d:GAtom} {p:Int->Bool} (h8:le8 c=true) (hk:(l.getD i d).kind=1) (h0:¬ cl c (l.getD i d).a < 0):stE c (l.getD i d)=true/\isT (cl c (l.getD i d).a)=true/\(fl9 p).getD (cl c (l.getD i d).a).toNat false=p (cl c (l.getD i d).a):=by
 have hT:isT (cl c (l.getD i d).a)=true:=isT_iff.2 ⟨by omega,le8_get h8 _⟩
 refine ⟨?_,hT,fl9_get hT⟩
 unfold stE
 rw [hk,decide_eq_true (by omega)];rfl
theorem early_no {c:List Int} {l:List GAtom} {i:Nat} {d:GAtom} (h8:le8 c=true) (h:i < l.length) (hk:(l.getD i d).kind=1) (h0:¬ cl c (l.getD i d).a < 0) (h2:cl c (l.getD i d).a=0 ∨ (fl9 fun t=>(est c (l.take i)).contains t).getD (cl c (l.getD i d).a).toNat false=true):false=sEarly l c:=by
 obtain ⟨e1,e2,e3⟩:=early_leaf (d:=d) (p:=fun t=>(est c (l.take i)).contains t) h8 hk h0
 rw [e3] at h2
 exact (sEarly_no h e1 (h2.imp id fun h=>⟨e2,h⟩)).symm
theorem early_go {c:List Int} {l:List GAtom} {i:Nat} {d:GAtom} (h8:le8 c=true) (h:i < l.length) (hk:(l.getD i d).kind=1) (h0:¬ cl c (l.getD i d).a < 0) (hs:okS [] (est c (l.take i))=true) (h2:¬ cl c (l.getD i d).a=0) (h3:(fl9 fun t=>(est c (l.take i)).contains t).getD (cl c (l.getD i d).a).toNat false=false) :
  okS [] (est c (l.take (i+1)))=true/\(fl9 fun t=>(est c (l.take i)).contains t).set (cl c (l.getD i d).a).toNat true=fl9 fun t=>(est c (l.take (i+1))).contains t:=by
 obtain ⟨e1,e2,e3⟩:=early_leaf (d:=d) (p:=fun t=>(est c (l.take i)).contains t) h8 hk h0
 rw [e3] at h3
 exact sEarly_go h hs e1 h2 e2 h3
theorem early_skip {c:List Int} {l:List GAtom} {i:Nat} {d:GAtom} (h:i < l.length) (hk:¬ (l.getD i d).kind=1 ∨ cl c (l.getD i d).a < 0):est c (l.take (i+1))=est c (l.take i):=by
 refine est_skip (d:=d) h ?_
 unfold stE
 rw [Bool.and_eq_false_iff,beq_eq_false_iff_ne,decide_eq_false_iff_not]
 exact hk.imp id fun h=>by omega
theorem fact_idx {l:List GFact} (h:l.all fV=true) {i:Nat} (hi:i < l.length):0<=(l.getD i ⟨false,0,0⟩).a/\(l.getD i ⟨false,0,0⟩).a<=8/\0<=(l.getD i ⟨false,0,0⟩).b/\(l.getD i ⟨false,0,0⟩).b<=8:=by
 have h1:=fV_isT (all_get (d:=⟨false,0,0⟩) h hi)
 have h2:=isT_iff.1 h1.1
 have h3:=isT_iff.1 h1.2
 omega
theorem atom_idx {l:List GAtom} (h:l.all atV=true) {i:Nat} (hi:i < l.length):0<=(l.getD i ⟨0,0,0⟩).a/\(l.getD i ⟨0,0,0⟩).a<=8/\0<=(l.getD i ⟨0,0,0⟩).b/\(l.getD i ⟨0,0,0⟩).b<=8:=by
 have h1:=atV_isT (all_get (d:=⟨0,0,0⟩) h hi)
 have h2:=isT_iff.1 h1.1
 have h3:=isT_iff.1 h1.2
 omega
theorem apart_fin {l:List GAtom} {i j:Nat} (h:i < l.length) (h1:sApart (l.take i)=true) (h2:¬ (l.getD i ⟨0,0,0⟩).a=0) (h3:((l.take j).all fun x=>!(x.a == (l.getD i ⟨0,0,0⟩).a))=true) (h4:¬ j < i) (h5:(j:Int)<=(i:Int)):sApart (l.take (i+1))=true:=by
 have:j=i:=by omega
 subst this
 rw [sApart_step (d:=⟨0,0,0⟩) h,h1,h3,beq_eq_false_iff_ne.2 h2]
 rfl
theorem open_lt {i:Nat} (h:(((List.replicate i (-1:Int)).length+1:Nat):Int)<=8):i<=7:=by rw [List.length_replicate] at h;omega
theorem open_end {i:Nat} (h0:i<=8) (h:¬ (((List.replicate i (-1:Int)).length+1:Nat):Int)<=8):(0:Int) :: List.replicate i (-1)=opens:=by
 rw [List.length_replicate] at h
 have:i=8:=by omega
 subst this;rfl
section
variable {fin:List Int->Bool} {a:GAsn} {tm:List Bool} {c:List Int} {t:Int} {i:Nat}
theorem fits_no1 (h:sFit a.facts c=false):sQ fin a tm c t=[]:=sQ_bad (by unfold sFits;rw [h];rfl)
theorem fits_no2 (h:sEarly a.atoms c=false):sQ fin a tm c t=[]:=sQ_bad (by unfold sFits;rw [h,Bool.and_false])
theorem fits_yes (h:sFit a.facts c=true) (h2:sEarly a.atoms c=true):sFits a c=true:=by unfold sFits;rw [h,h2];rfl
theorem last_yes (h:sFit a.facts c=true) (h2:sEarly a.atoms c=true) (ht:8 < t) (hf:fin c=true):sQ fin a tm c t=[c]:=by rw [sQ_last ht,fits_yes h h2,hf];rfl
theorem last_no (h:sFit a.facts c=true) (h2:sEarly a.atoms c=true) (ht:8 < t) (hf:fin c=false):sQ fin a tm c t=[]:=by rw [sQ_last ht,fits_yes h h2,hf];rfl
end
end Go.SE

namespace Go.SE
open Go.RowKit
theorem sEn_congr {fit fin:List Int->Bool} {has has':Nat->Bool}:∀ (f t:Nat) (c:List Int),(∀ k,t<=k->k < t+f->has k=has' k)->sEn fit fin has f t c=sEn fit fin has' f t c:=by
 intro f
 induction f with
 | zero=>intro t c _;rfl
 | succ f ih =>
  intro t c h
  have ih':=fun c=>ih (t+1) c fun k h1 h2=>h k (by omega) (by omega)
  simp only [sEn,ih',h t (Nat.le_refl _) (by omega)]
theorem sQ_cases {fin:List Int->Bool} {b:GAsn} {p:Int->Bool} {has:Nat->Bool} (h:∀ k:Nat,1<=k->k<=8->p (k:Int)=has k):sQ fin b (fl9 p) opens 1=casesS b fin has:=by
 unfold sQ casesS
 refine sEn_congr 8 1 opens fun k h1 h2=>?_
 rw [← h k h1 (by omega)]
 have:=fl9_get (p:=p) (t:=(k:Int)) (isT_iff.2 ⟨by omega,by omega⟩)
 simpa using this
theorem hz_get {a:GAsn} {q:Int->Bool} {k:Nat} (h1:1<=k) (h2:k<=8):hz a q k=(occ a k || q k):=by
 unfold hz
 rw [isT_iff.2 ⟨by omega,by omega⟩,show ((k:Int) == 0)=false by simp;omega]
 simp
def qF (f:GFact):Int->Bool:=fun t=>f.a == t || f.b == t
theorem vA_of {a:GAsn} (ha:asV a=true):vA a=true:=by
 have:=asV_facts ha
 exact vA_iff.2 ⟨this.1,this.2.2.1,by omega,by omega⟩
end Go.SE

namespace Go.SE
open Go.RowKit
def filt (v:Int->Int) (l:List GAtom):List GAtom:=l.filter fun x=>x.kind == 1 || !(v x.a == v x.b)
structure possV (a:GAsn) (v:Int->Int):Prop where
 facts:∀ f ∈ a.facts,(v f.a == v f.b)=f.eq
 nil:∀ x ∈ filt v a.atoms,v x.a ≠ v 0
 apart:(filt v a.atoms).Pairwise fun x y=>v x.a ≠ v y.a
theorem okS_iff:∀ (l s:List Int),(∀ x ∈ l,isT x=true)->(okS s l=true ↔ (∀ x ∈ l,x ≠ 0)/\(∀ x ∈ l,s.contains x=false)/\l.Pairwise (· ≠ ·)):=by
 intro l
 induction l with
 | nil=>intro s _;simp [okS]
 | cons x l ih =>
  intro s h
  have ih:=ih (x :: s) fun y hy=>h y (by simp [hy])
  simp only [okS,h x (by simp),Bool.true_and,Bool.and_eq_true,ih,Bool.not_eq_true',beq_eq_false_iff_ne,List.pairwise_cons,List.mem_cons,forall_eq_or_imp,List.contains_cons,Bool.or_eq_false_iff]
  constructor
  ·rintro ⟨h1,h2,h3,h4,h5⟩
   exact ⟨⟨h1,h3⟩,⟨h2,fun y hy=>(h4 y hy).2⟩,fun y hy e=>(h4 y hy).1 e.symm,h5⟩
  ·rintro ⟨⟨h1,h3⟩,⟨h2,h4⟩,h5,h6⟩
   exact ⟨h1,h2,h3,fun y hy=>⟨fun e=>h5 y hy e.symm,h4 y hy⟩,h6⟩
theorem possI_iff {a:GAsn} {has:Nat->Bool} (hn:Named a has) {d:List Int} (hd:d ∈ fulls has) (h0:has 0=true):possI a d 8=true ↔ possV a (cl d):=by
 obtain ⟨hl,hv⟩:=fulls_mem hd
 have hcl:∀ y:Int,0<=y->y<=8->has y.toNat=true->0<=cl d y/\cl d y<=8:=fun y h0 h8 hy=>by
  have:=hv y.toNat (by omega)
  rw [hy] at this
  simp only [cond_true,Bool.and_eq_true,decide_eq_true_eq] at this
  unfold cl
  omega
 have hz0:cl d 0=0:=by
  have:=hv 0 (by decide)
  rw [h0] at this
  simp only [cond_true,Bool.and_eq_true,decide_eq_true_eq] at this
  unfold cl
  simp only [Int.toNat_zero]
  omega
 have es:sts d 8 a.atoms=(filt (cl d) a.atoms).map fun x=>cl d x.a:=by
  unfold sts filt
  congr 1
  refine List.filter_congr fun x hx=>?_
  obtain ⟨h3,h4,h5,h6,_⟩:=hn.2 x hx
  unfold stB filB
  rw [decide_eq_true h4,decide_eq_true h6];rfl
 have hT:∀ x ∈ sts d 8 a.atoms,isT x=true:=fun x hx=>by
  simp only [sts,List.mem_map,List.mem_filter] at hx
  obtain ⟨y,⟨hy,_⟩,rfl⟩:=hx
  obtain ⟨h3,h4,h5,h6,h7,h8⟩:=hn.2 y hy
  exact isT_iff.2 (hcl _ h3 h4 h7)
 unfold possI
 rw [Bool.and_eq_true,okS_iff _ _ hT,es,List.pairwise_map]
 have ef:possF d 8 a.facts=true ↔ ∀ f ∈ a.facts,(cl d f.a == cl d f.b)=f.eq:=by
  unfold possF
  rw [List.all_eq_true]
  refine ⟨fun h f hf=>?_,fun h f hf=>?_⟩
  ·have:=h f hf
   obtain ⟨h3,h4,h5,h6,_⟩:=hn.1 f hf
   rw [decide_eq_true h4,decide_eq_true h6] at this
   unfold fh at this
   simpa using this
  ·unfold fh
   rw [h f hf];simp
 rw [ef]
 constructor
 ·rintro ⟨h1,h2,_,h3⟩
  exact ⟨h1,fun x hx=>by rw [hz0];exact h2 _ (List.mem_map.2 ⟨x,hx,rfl⟩),h3⟩
 ·rintro ⟨h1,h2,h3⟩
  refine ⟨h1,fun x hx=>?_,fun _ _=>rfl,h3⟩
  obtain ⟨y,hy,rfl⟩:=List.mem_map.1 hx
  have:=h2 y hy
  rw [hz0] at this
  exact this
def goodAt (has:Nat->Bool) (d:List Int) (j:Nat):Prop:=(has j=true/\∃ k:Nat,k<=j/\d.getD j 0=(k:Int)/\(k=j ∨ d.getD k 0=(k:Int))) ∨ (has j=false/\d.getD j 0=-1)
theorem fEn_of {has:Nat->Bool} {d:List Int} (hd:d.length=9):∀ (f t:Nat) (c:List Int),f+t=9->c.length=9->(∀ j,j < t->d.getD j 0=c.getD j 0)->(∀ j,t<=j->j < 9->goodAt has d j)->d ∈ fEn has f t c:=by
 intro f
 induction f with
 | zero =>
  intro t c ht hc hag _
  simp only [fEn,List.mem_singleton]
  apply List.ext_getElem (by omega)
  intro j h1 h2
  have:=hag j (by omega)
  rw [List.getD_eq_getElem?_getD,List.getD_eq_getElem?_getD,List.getElem?_eq_getElem h1,List.getElem?_eq_getElem h2] at this
  exact this
 | succ f ih =>
  intro t c ht hc hag hg
  have key:∀ x:Int,d.getD t 0=x->d ∈ fEn has f (t+1) (c.set t x):=fun x hx=>by
   refine ih (t+1) _ (by omega) (by simp [hc]) (fun j hj=>?_) fun j h1 h2=>hg j (by omega) h2
   by_cases e:j=t
   ·subst e;rw [getD_set_eq (by omega),hx]
   ·rw [getD_set_ne e];exact hag j (by omega)
  simp only [fEn]
  rcases hg t (Nat.le_refl _) (by omega) with ⟨hh,k,hk,hv,hk2⟩ | ⟨hh,hv⟩
  ·rw [hh,cond_true,List.mem_flatMap]
   refine ⟨k,List.mem_range.2 (by omega),?_⟩
   have:(k == t || c.getD k 0 == (k:Int))=true:=by
    rcases hk2 with rfl | hk2
    ·simp
    ·by_cases e:k=t
     ·simp [e]
     ·rw [← hag k (by omega),hk2];simp
   rw [this,cond_true]
   exact key _ hv
  ·rw [hh,cond_false]
   exact key _ hv
theorem fulls_of {has:Nat->Bool} {d:List Int} (hd:d.length=9) (hg:∀ j,j < 9->goodAt has d j):d ∈ fulls has :=
 fEn_of hd 9 0 _ rfl rfl (fun j hj=>by omega) fun j _ h=>hg j h
def repV (has:Nat->Bool) (v:Int->Int) (x:Int):Option Nat:=(List.range 9).find? fun k=>has k && v k == x
def canon (has:Nat->Bool) (v:Int->Int):List Int:=(List.range 9).map fun t=>cond (has t) (((repV has v (v t)).getD 0:Nat):Int) (-1)
theorem canon_get {has:Nat->Bool} {v:Int->Int} {t:Nat} (ht:t < 9):(canon has v).getD t 0=cond (has t) (((repV has v (v t)).getD 0:Nat):Int) (-1):=by
 unfold canon
 rw [List.getD_eq_getElem?_getD,List.getElem?_eq_getElem (by simpa using ht)]
 simp
theorem repV_spec {has:Nat->Bool} {v:Int->Int} {t:Nat} (ht:t < 9) (hh:has t=true):∃ k,repV has v (v t)=some k/\k<=t/\has k=true/\v k=v t:=by
 cases hr:repV has v (v t) with
 | none =>
  exfalso
  have:=List.find?_eq_none.1 hr t (List.mem_range.2 ht)
  simp [hh] at this
 | some k =>
  obtain ⟨h1,h2,h3⟩:=List.find?_range_eq_some.1 hr
  simp only [Bool.and_eq_true,beq_iff_eq] at h1
  refine ⟨k,rfl,?_,h1.1,h1.2⟩
  by_cases e:k<=t
  ·exact e
  ·have:=h3 t (by omega)
   simp [hh] at this
theorem canon_mem (has:Nat->Bool) (v:Int->Int):canon has v ∈ fulls has:=by
 refine fulls_of (by simp [canon]) fun j hj=>?_
 unfold goodAt
 cases hh:has j with
 | false=>right;refine ⟨rfl,?_⟩;rw [canon_get hj,hh];rfl
 | true =>
  left
  obtain ⟨k,h1,h2,h3,h4⟩:=repV_spec (v:=v) hj hh
  refine ⟨rfl,k,h2,by rw [canon_get hj,hh,h1];rfl,.inr ?_⟩
  rw [canon_get (by omega),h3,h4,h1];rfl
theorem canon_eq {has:Nat->Bool} {v:Int->Int} {s t:Int} (hs0:0<=s) (hs:s<=8) (ht0:0<=t) (ht:t<=8) (h1:has s.toNat=true) (h2:has t.toNat=true):(cl (canon has v) s == cl (canon has v) t)=(v s == v t):=by
 unfold cl
 rw [canon_get (by omega),canon_get (by omega),h1,h2]
 obtain ⟨k1,a1,a2,a3,a4⟩:=repV_spec (v:=v) (t:=s.toNat) (by omega) h1
 obtain ⟨k2,b1,b2,b3,b4⟩:=repV_spec (v:=v) (t:=t.toNat) (by omega) h2
 have es:((s.toNat:Nat):Int)=s:=by omega
 have et:((t.toNat:Nat):Int)=t:=by omega
 rw [es] at a1 a4 ⊢
 rw [et] at b1 b4 ⊢
 rw [a1,b1]
 simp only [cond_true,Option.getD_some]
 rw [Bool.eq_iff_iff,beq_iff_eq,beq_iff_eq]
 constructor
 ·intro h
  have:k1=k2:=by omega
  subst this
  rw [← a4,← b4]
 ·intro h
  rw [h,b1] at a1
  injection a1 with a1
  rw [a1]
theorem possV_congr {a:GAsn} {v w:Int->Int} (p:Int->Prop) (h:∀ s t,p s->p t->(v s == v t)=(w s == w t)) (h0:p 0) (hf:∀ f ∈ a.facts,p f.a/\p f.b) (hx:∀ x ∈ a.atoms,p x.a/\p x.b) (hv:possV a v):possV a w:=by
 have ef:filt v a.atoms=filt w a.atoms:=List.filter_congr fun x hm=>by rw [h _ _ (hx x hm).1 (hx x hm).2]
 have hne:∀ s t,p s->p t->v s ≠ v t->w s ≠ w t:=fun s t hs ht hn=>by
  have:=h s t hs ht
  rw [beq_eq_false_iff_ne.2 hn] at this
  exact beq_eq_false_iff_ne.1 this.symm
 have hm:∀ x ∈ filt w a.atoms,p x.a:=fun x hx'=>(hx x (List.mem_filter.1 hx').1).1
 obtain ⟨h1,h2,h3⟩:=hv
 rw [ef] at h2 h3
 refine ⟨fun f hf'=>by rw [← h _ _ (hf f hf').1 (hf f hf').2];exact h1 f hf',fun x hx'=>hne _ _ (hm x hx') h0 (h2 x hx'),?_⟩
 exact h3.imp_of_mem fun hx' hy' hn=>hne _ _ (hm _ hx') (hm _ hy') hn
theorem cases_all {a:GAsn} {has:Nat->Bool} (hn:Named a has) (h0:has 0=true) (Q:(Int->Int)->Bool) (hQ:∀ v w:Int->Int,(∀ s t:Int,0<=s->s<=8->has s.toNat=true->0<=t->t<=8->has t.toNat=true->(v s == v t)=(w s == w t))->Q v=Q w) :
  ((casesB a has).all fun d=>Q (cl d))=true ↔ ∀ v,possV a v->Q v=true:=by
 rw [casesB_eq hn,List.all_eq_true]
 constructor
 ·intro h v hv
  have hm:=canon_mem has v
  have hp:possV a (cl (canon has v)):=possV_congr (fun t=>0<=t/\t<=8/\has t.toNat=true) (fun s t hs ht=>(canon_eq hs.1 hs.2.1 ht.1 ht.2.1 hs.2.2 ht.2.2).symm) ⟨by decide,by decide,h0⟩
   (fun f hf=>by obtain ⟨a1,a2,a3,a4,a5,a6⟩:=hn.1 f hf;exact ⟨⟨a1,a2,a5⟩,a3,a4,a6⟩) (fun x hx=>by obtain ⟨a1,a2,a3,a4,a5,a6⟩:=hn.2 x hx;exact ⟨⟨a1,a2,a5⟩,a3,a4,a6⟩) hv
  have:=h _ (List.mem_filter.2 ⟨hm,(possI_iff hn hm h0).2 hp⟩)
  rw [hQ v (cl (canon has v)) fun s t s0 s8 hs t0 t8 ht=>(canon_eq s0 s8 t0 t8 hs ht).symm]
  exact this
 ·intro h d hd
  obtain ⟨h1,h2⟩:=List.mem_filter.1 hd
  exact h _ ((possI_iff hn h1 h0).1 h2)
def IMP (a:GAsn) (f:GFact):Bool:=asV a && (fV f && (casesB a (hz a (qF f))).all fun c=>fh c f)
theorem hz_has {a:GAsn} {q:Int->Bool} {t:Int} (h:isT t=true) (hq:q t=true):hz a q t.toNat=true:=by
 have:=isT_iff.1 h
 unfold hz
 rw [show ((t.toNat:Nat):Int)=t by omega,h,hq]
 simp
theorem imp_iff {a:GAsn} {f:GFact}:IMP a f=true ↔ asV a=true/\fV f=true/\∀ v,possV a v->(v f.a == v f.b)=f.eq:=by
 unfold IMP
 rw [Bool.and_eq_true,Bool.and_eq_true]
 refine and_congr_right fun ha=>and_congr_right fun hf=>?_
 have hv:=fV_isT hf
 have t1:=isT_iff.1 hv.1
 have t2:=isT_iff.1 hv.2
 have hq1:hz a (qF f) f.a.toNat=true:=hz_has hv.1 (by unfold qF;simp)
 have hq2:hz a (qF f) f.b.toNat=true:=hz_has hv.2 (by unfold qF;simp)
 have:=cases_all (hz_named ha (qF f)) rfl (fun v=>(v f.a == v f.b) == f.eq) fun v w h=>by
  show ((v f.a == v f.b) == f.eq)=_
  rw [h f.a f.b t1.1 t1.2 hq1 t2.1 t2.2 hq2]
 have e:((casesB a (hz a (qF f))).all fun c=>fh c f)=((casesB a (hz a (qF f))).all fun d=>((cl d f.a == cl d f.b) == f.eq)):=rfl
 rw [e,this]
 exact ⟨fun h v hv=>by simpa using h v hv,fun h v hv=>by simpa using h v hv⟩
end Go.SE

namespace Go.SE
open Go.RowKit
def ct (s:GState) (n:Int):Int:=if 1<=n/\n<=8 then s.heap.getD (n - 1).toNat 0 else -1
def al (s:GState) (n:Int):Bool:=decide (0<=ct s n)
def walk (s:GState) (to:Int):Nat->Int->Option (List Int)
 | 0,at'=>if at'=to then some [] else none
 | f+1,at'=>if at'=to then some [] else cond (al s at') ((walk s to f (ct s at')).map (at' :: ·)) none
def acO (s:GState) (x:GAtom):Option (List Int):=if x.kind=2 then walk s (tv s.vals x.b) 8 (tv s.vals x.a) else if ct s (tv s.vals x.a)=tv s.vals x.b then some [tv s.vals x.a] else none
def ptO (s:GState):List Int->List GAtom->Option (List Int)
 | L,[]=>some L
 | L,x :: l=>match acO s x with
  | none=>none
  | some c=>cond (c.all (fun n=>!L.contains n) && decide c.Nodup) (ptO s (L ++ c) l) none
def addrs:List Int:=[1,2,3,4,5,6,7,8]
def fctB (s:GState) (l:List GFact):Bool:=l.all fun f=>(tv s.vals f.a == tv s.vals f.b) == f.eq
def HOL (s:GState) (a:GAsn):Bool:=stV s && (asV a && (fctB s a.facts && (match ptO s [] a.atoms with
 | some L=>addrs.all fun n=>L.contains n == al s n
 | none=>false)))
theorem tv_isT {s:GState} (hs:stV s=true) {t:Int} (ht:isT t=true):0<=tv s.vals t/\tv s.vals t<=8:=by
 unfold stV at hs
 simp only [Bool.and_eq_true,decide_eq_true_eq,beq_iff_eq] at hs
 obtain ⟨t0,t8⟩:=isT_iff.1 ht
 unfold tv
 split
 ·omega
 ·have hl:s.vals.length=8:=by omega
  have hi:(t - 1).toNat < s.vals.length:=by omega
  have hall:s.vals.all isT=true:=by
   rcases hs with ⟨h1,h2⟩
   grind
  have:=List.all_eq_true.1 hall _ (List.getElem_mem hi)
  rw [List.getD_eq_getElem?_getD,List.getElem?_eq_getElem hi]
  exact isT_iff.1 this
theorem al_range {s:GState} {n:Int} (h:al s n=true):1<=n/\n<=8:=by
 unfold al ct at h
 by_cases e:1<=n/\n<=8
 ·exact e
 ·rw [if_neg e] at h;cases h
theorem walk_al {s:GState} {to:Int}:∀ (f:Nat) (x:Int) (L:List Int),walk s to f x=some L->(∀ n ∈ L,al s n=true)/\(x ≠ to->x ∈ L):=by
 intro f
 induction f with
 | zero =>
  intro x L h
  simp only [walk] at h
  split at h
  ·injection h with h;subst h;exact ⟨fun n hn=>(by cases hn),fun hne=>(hne ‹_›).elim⟩
  ·cases h
 | succ f ih =>
  intro x L h
  simp only [walk] at h
  split at h
  ·injection h with h;subst h;exact ⟨fun n hn=>(by cases hn),fun hne=>(hne ‹_›).elim⟩
  ·cases ha:al s x with
   | false=>rw [ha] at h;cases h
   | true =>
    rw [ha,cond_true] at h
    cases hw:walk s to f (ct s x) with
    | none=>rw [hw] at h;cases h
    | some M =>
     rw [hw] at h
     injection h with h
     subst h
     obtain ⟨h1,_⟩:=ih _ _ hw
     exact ⟨fun n hn=>by rcases List.mem_cons.1 hn with rfl | hn;exact ha;exact h1 n hn,fun _=>by simp⟩
theorem acO_al {s:GState} (hs:stV s=true) {x:GAtom} (hx:atV x=true) {c:List Int} (h:acO s x=some c):(∀ n ∈ c,al s n=true)/\((x.kind == 1 || !(tv s.vals x.a == tv s.vals x.b))=true->tv s.vals x.a ∈ c):=by
 unfold acO at h
 split at h
 ·rename_i hk
  obtain ⟨h1,h2⟩:=walk_al _ _ _ h
  refine ⟨h1,fun hf=>h2 fun e=>?_⟩
  rw [hk,e] at hf
  simp at hf
 ·split at h
  ·rename_i he
   injection h with h
   subst h
   refine ⟨fun n hn=>?_,fun _=>by simp⟩
   simp only [List.mem_singleton] at hn
   subst hn
   unfold al
   rw [he]
   exact decide_eq_true (tv_isT hs (atV_isT hx).2).1
  ·cases h
theorem ptO_parts {s:GState} (hs:stV s=true):∀ (l:List GAtom) (L M:List Int),l.all atV=true->ptO s L l=some M->(∀ n ∈ L,n ∈ M) /\
  (∀ x ∈ filt (tv s.vals) l,al s (tv s.vals x.a)=true/\tv s.vals x.a ∉ L)/\(filt (tv s.vals) l).Pairwise fun x y=>tv s.vals x.a ≠ tv s.vals y.a:=by
 intro l
 induction l with
 | nil=>intro L M _ h;simp only [ptO] at h;injection h with h;subst h;exact ⟨fun n hn=>hn,fun x hx=>(by cases hx),.nil⟩
 | cons x l ih =>
  intro L M hv h
  simp only [List.all_cons,Bool.and_eq_true] at hv
  simp only [ptO] at h
  cases hc:acO s x with
  | none=>rw [hc] at h;cases h
  | some c =>
   rw [hc] at h
   simp only at h
   cases hd:(c.all (fun n=>!L.contains n) && decide c.Nodup) with
   | false=>rw [hd] at h;cases h
   | true =>
    rw [hd,cond_true] at h
    rw [Bool.and_eq_true,List.all_eq_true] at hd
    obtain ⟨h1,h2,h3⟩:=ih _ _ hv.2 h
    obtain ⟨a1,a2⟩:=acO_al hs hv.1 hc
    refine ⟨fun n hn=>h1 n (by simp [hn]),?_,?_⟩
    ·intro y hy
     unfold filt at hy
     rw [List.filter_cons] at hy
     split at hy
     ·rename_i hf
      rcases List.mem_cons.1 hy with rfl | hy
      ·have hin:=a2 hf
       refine ⟨a1 _ hin,?_⟩
       have:=hd.1 _ hin
       simpa using this
      ·obtain ⟨b1,b2⟩:=h2 y hy
       exact ⟨b1,fun hm=>b2 (by simp [hm])⟩
     ·obtain ⟨b1,b2⟩:=h2 y hy
      exact ⟨b1,fun hm=>b2 (by simp [hm])⟩
    ·unfold filt
     rw [List.filter_cons]
     split
     ·rename_i hf
      refine List.pairwise_cons.2 ⟨fun y hy e=>?_,h3⟩
      have hin:=a2 hf
      exact (h2 y hy).2 (by rw [← e];simp [hin])
     ·exact h3
theorem hol_poss {s:GState} {a:GAsn} (h:HOL s a=true):stV s=true/\asV a=true/\possV a (tv s.vals):=by
 unfold HOL at h
 simp only [Bool.and_eq_true] at h
 obtain ⟨hs,ha,hf,hp⟩:=h
 refine ⟨hs,ha,?_⟩
 cases hpt:ptO s [] a.atoms with
 | none=>rw [hpt] at hp;cases hp
 | some M =>
  obtain ⟨_,h2,h3⟩:=ptO_parts hs _ _ _ (asV_facts ha).2.2.1 hpt
  refine ⟨fun f hm=>?_,fun x hx=>?_,h3⟩
  ·have:=List.all_eq_true.1 hf f hm
   simpa using this
  ·have:=al_range (h2 x hx).1
   have z:tv s.vals 0=0:=rfl
   rw [z]
   omega
theorem cons_iff {a:GAsn} (ha:asV a=true):(casesF a).isEmpty=true ↔ ∀ v,¬ possV a v:=by
 have:=cases_all (hz_named ha fun _=>false) rfl (fun _=>false) fun _ _ _=>rfl
 have e:((casesB a (hz a fun _=>false)).all fun _=>false)=(casesF a).isEmpty:=by
  show ((casesF a).all fun _=>false)=_
  cases casesF a <;> rfl
 rw [← e,this]
 exact ⟨fun h v hv=>(by have:=h v hv;cases this),fun h v hv=>(h v hv).elim⟩
end Go.SE

namespace Go.SE
open Go.RowKit
def isAd (n:Int):Bool:=decide (1<=n) && decide (n<=8)
theorem isAd_iff {n:Int}:isAd n=true ↔ 1<=n/\n<=8:=by unfold isAd;simp
theorem isAd_no {n:Int}:isAd n=false ↔ ¬ (1<=n/\n<=8):=by rw [← isAd_iff];simp
theorem isAd_T {n:Int} (h:isAd n=true):isT n=true:=by have:=isAd_iff.1 h;exact isT_iff.2 ⟨by omega,by omega⟩
def csHas (s n:Int):Bool:=isAd n && tsHas s n
section
variable {s:GState}
theorem stV_all (h:stV s=true):s.vals.length=8/\s.heap.length=8/\s.vals.all isT=true/\s.heap.all hv=true:=by
 unfold stV at h
 simp only [Bool.and_eq_true,beq_iff_eq] at h
 exact ⟨h.1.1.1,h.1.1.2,h.1.2,h.2⟩
theorem ct_no {n:Int} (h:isAd n=false):ct s n=-1:=by unfold ct;rw [if_neg (isAd_no.1 h)]
theorem ct_yes {n:Int} (h:isAd n=true):ct s n=s.heap.getD (n - 1).toNat 0:=by unfold ct;rw [if_pos (isAd_iff.1 h)]
theorem ct_bd (h:stV s=true) (n:Int):-1<=ct s n/\ct s n<=8:=by
 obtain ⟨_,h2,_,h4⟩:=stV_all h
 unfold ct
 split
 ·have hi:(n - 1).toNat < s.heap.length:=by omega
  have:=List.all_eq_true.1 h4 _ (List.getElem_mem hi)
  rw [List.getD_eq_getElem?_getD,List.getElem?_eq_getElem hi]
  unfold hv at this
  simp only [Bool.or_eq_true,beq_iff_eq] at this
  rcases this with this | this
  ·show -1<=s.heap[(n - 1).toNat]/\s.heap[(n - 1).toNat]<=8
   omega
  ·have:=isT_iff.1 this
   show -1<=s.heap[(n - 1).toNat]/\s.heap[(n - 1).toNat]<=8
   omega
 ·omega
theorem al_isAd {n:Int} (h:al s n=true):isAd n=true:=isAd_iff.2 (al_range h)
end
structure wkI (s:GState) (x y:Int) (w:List Int) (q:Int):Prop where
 le:w.length<=8
 bd:-1<=q/\q<=8
 eq:walk s y 8 x=(walk s y (8 - w.length) q).map (w ++ ·)
section
variable {s:GState} {x y q:Int} {w:List Int}
theorem wkI_zero (h:isT x=true):wkI s x y [] x:=⟨by simp,by have:=isT_iff.1 h;omega,by simp⟩
theorem wk_end (h:wkI s x y w q) (e:q=y):walk s y 8 x=some w:=by
 rw [h.eq]
 cases 8 - w.length <;> simp [walk,e]
theorem wk_no (h:wkI s x y w q) (e:¬ q=y) (ha:al s q=false):walk s y 8 x=none:=by
 rw [h.eq]
 cases 8 - w.length <;> simp [walk,e,ha]
theorem wk_full (h:wkI s x y w q) (e:¬ q=y) (hl:8<=w.length):walk s y 8 x=none:=by
 rw [h.eq,show 8 - w.length=0 by omega]
 simp [walk,e]
theorem wk_go (hs:stV s=true) (h:wkI s x y w q) (e:¬ q=y) (ha:al s q=true) (hl:w.length < 8):wkI s x y (w ++ [q]) (ct s q):=by
 refine ⟨by simp;omega,ct_bd hs q,?_⟩
 rw [h.eq,show 8 - w.length=(8 - (w ++ [q]).length)+1 by simp;omega,walk,if_neg e,ha,cond_true,Option.map_map]
 congr 1
 funext z
 simp
end
def wkL (s:GState) (x y:Int):List Int:=(cond (stV s && (isT x && isT y)) (walk s y 8 x) none).getD []
def wkB (s:GState) (x y:Int):Bool:=(cond (stV s && (isT x && isT y)) (walk s y 8 x) none).isSome
section
variable {s:GState} {x y q:Int} {w:List Int}
theorem wk_ok (h:stV s=true) (hx:isT x=true) (hy:isT y=true):wkL s x y=(walk s y 8 x).getD []/\wkB s x y=(walk s y 8 x).isSome:=by
 unfold wkL wkB;rw [h,hx,hy];exact ⟨rfl,rfl⟩
theorem wk_bad (h:(stV s && (isT x && isT y))=false):wkL s x y=[]/\wkB s x y=false:=by unfold wkL wkB;rw [h];exact ⟨rfl,rfl⟩
theorem wk_bad1 (h:stV s=false):wkL s x y=[]/\wkB s x y=false:=wk_bad (by rw [h];rfl)
theorem wk_bad2 (h:isT x=false):wkL s x y=[]/\wkB s x y=false:=wk_bad (by rw [h];simp)
theorem wk_bad3 (h:isT y=false):wkL s x y=[]/\wkB s x y=false:=wk_bad (by rw [h];simp)
theorem wk_some (h:walk s y 8 x=some w) (hs:stV s=true) (hx:isT x=true) (hy:isT y=true):wkL s x y=w/\wkB s x y=true:=by obtain ⟨a,b⟩:=wk_ok hs hx hy;rw [a,b,h];exact ⟨rfl,rfl⟩
theorem wk_none (h:walk s y 8 x=none) (hs:stV s=true) (hx:isT x=true) (hy:isT y=true):wkL s x y=[]/\wkB s x y=false:=by obtain ⟨a,b⟩:=wk_ok hs hx hy;rw [a,b,h];exact ⟨rfl,rfl⟩
end
def acS (s:GState) (x:GAtom):Option (List Int):=cond (stV s && atV x) (acO s x) none
def acL (s:GState) (x:GAtom):List Int:=(acS s x).getD []
def acB (s:GState) (x:GAtom):Bool:=(acS s x).isSome
section
variable {s:GState} {x:GAtom}
theorem ac_bad1 (h:stV s=false):acL s x=[]/\acB s x=false:=by unfold acL acB acS;rw [h];exact ⟨rfl,rfl⟩
theorem ac_bad2 (h:atV x=false):acL s x=[]/\acB s x=false:=by unfold acL acB acS;rw [h,Bool.and_false];exact ⟨rfl,rfl⟩
theorem ac_list (hs:stV s=true) (hx:atV x=true) (hk:x.kind=2):acL s x=wkL s (tv s.vals x.a) (tv s.vals x.b)/\acB s x=wkB s (tv s.vals x.a) (tv s.vals x.b):=by
 have h1:=isT_iff.2 (tv_isT hs (atV_isT hx).1)
 have h2:=isT_iff.2 (tv_isT hs (atV_isT hx).2)
 obtain ⟨e1,e2⟩:=wk_ok hs h1 h2
 rw [e1,e2]
 unfold acL acB acS acO
 rw [hs,hx,if_pos hk]
 exact ⟨rfl,rfl⟩
theorem ac_no (hs:stV s=true) (hx:atV x=true) (hk:¬ x.kind=2) (h:¬ ct s (tv s.vals x.a)=tv s.vals x.b):acL s x=[]/\acB s x=false:=by
 unfold acL acB acS acO
 rw [hs,hx,if_neg hk]
 simp [h]
theorem ac_yes (hs:stV s=true) (hx:atV x=true) (hk:¬ x.kind=2) (h:ct s (tv s.vals x.a)=tv s.vals x.b):acL s x=[tv s.vals x.a]/\acB s x=true:=by
 unfold acL acB acS acO
 rw [hs,hx,if_neg hk]
 simp [h]
theorem ac_al (h:acB s x=true):∀ n ∈ acL s x,al s n=true:=by
 unfold acB acS at h
 cases hc:(stV s && atV x) with
 | false=>rw [hc] at h;cases h
 | true =>
  rw [hc,cond_true] at h
  rw [Bool.and_eq_true] at hc
  obtain ⟨c,hcc⟩:=Option.isSome_iff_exists.1 h
  intro n hn
  unfold acL acS at hn
  rw [hc.1,hc.2,show (true && true)=true from rfl,cond_true,hcc] at hn
  exact (acO_al hc.1 hc.2 hcc).1 n hn
theorem ac_eq (hs:stV s=true) (hx:atV x=true):acO s x=cond (acB s x) (some (acL s x)) none:=by
 unfold acB acL acS
 rw [hs,hx]
 show _=cond (acO s x).isSome (some ((acO s x).getD [])) none
 cases acO s x <;> rfl
theorem walk_len {to:Int}:∀ (f:Nat) (q:Int) (L:List Int),walk s to f q=some L->L.length<=f:=by
 intro f
 induction f with
 | zero=>intro q L h;simp only [walk] at h;split at h <;> simp_all
 | succ f ih =>
  intro q L h
  simp only [walk] at h
  split at h
  ·injection h with h;subst h;simp
  ·cases ha:al s q with
   | false=>rw [ha] at h;cases h
   | true =>
    rw [ha,cond_true] at h
    cases hw:walk s to f (ct s q) with
    | none=>rw [hw] at h;cases h
    | some M =>
     rw [hw] at h
     injection h with h
     subst h
     have:=ih _ _ hw
     simp only [List.length_cons]
     omega
theorem acL_len:(acL s x).length<=8:=by
 unfold acL acS
 cases hc:(stV s && atV x) with
 | false=>simp
 | true =>
  rw [cond_true]
  unfold acO
  split
  ·cases hw:walk s (tv s.vals x.b) 8 (tv s.vals x.a) with
   | none=>simp
   | some L=>exact walk_len _ _ _ hw
  ·split <;> simp
end
/-- the cells of the first i atoms -/
def ptL (s:GState) (l:List GAtom) (i:Nat):List Int:=(l.take i).flatMap (acL s)
structure ptI (s:GState) (l:List GAtom) (i:Nat):Prop where
 le:i<=l.length
 eq:ptO s [] l=ptO s (ptL s l i) (l.drop i)
 al:∀ n ∈ ptL s l i,SE.al s n=true
def nw (L c:List Int) (j:Nat):Prop:=∀ k:Nat,k < j->(L ++ c.take k).contains (c.getD k 0)=false
section
variable {s:GState} {l:List GAtom} {i j:Nat}
theorem ptL_succ (hi:i < l.length):ptL s l (i+1)=ptL s l i ++ acL s (l.getD i ⟨0,0,0⟩):=by
 unfold ptL
 rw [List.take_add_one,List.getElem?_eq_getElem hi,List.flatMap_append,List.getD_eq_getElem?_getD,List.getElem?_eq_getElem hi]
 simp
theorem ptI_zero:ptI s l 0:=⟨Nat.zero_le _,rfl,fun n hn=>by cases hn⟩
theorem ptO_at {L:List Int} (hs:stV s=true) (hl:l.all atV=true) (hi:i < l.length):ptO s L (l.drop i)=cond (acB s (l.getD i ⟨0,0,0⟩)) (cond ((acL s (l.getD i ⟨0,0,0⟩)).all (fun n=>!L.contains n) && decide (acL s (l.getD i ⟨0,0,0⟩)).Nodup) (ptO s (L ++ acL s (l.getD i ⟨0,0,0⟩)) (l.drop (i+1))) none) none:=by
 have hx:atV (l.getD i ⟨0,0,0⟩)=true:=all_get (d:=(⟨0,0,0⟩:GAtom)) hl hi
 have e:l.drop i=l.getD i ⟨0,0,0⟩ :: l.drop (i+1):=by
  rw [List.drop_eq_getElem_cons hi,List.getD_eq_getElem?_getD,List.getElem?_eq_getElem hi];rfl
 rw [e,ptO,ac_eq hs hx]
 cases acB s (l.getD i ⟨0,0,0⟩) <;> rfl
theorem con_no {M:List Int} {y:Int}:M.contains y=false ↔ y ∉ M:=by rw [← Bool.not_eq_true,List.contains_iff_mem]
theorem nw_iff {L c:List Int}:(c.all (fun n=>!L.contains n) && decide c.Nodup)=true ↔ nw L c c.length:=by
 rw [Bool.and_eq_true,List.all_eq_true,decide_eq_true_eq]
 have gd:∀ (k:Nat) (hk:k < c.length),c.getD k 0=c[k]:=fun k hk=>by rw [List.getD_eq_getElem?_getD,List.getElem?_eq_getElem hk];rfl
 constructor
 ·rintro ⟨h1,h2⟩ k hk
  rw [gd k hk,con_no,List.mem_append]
  rintro (h | h)
  ·have:=h1 c[k] (List.getElem_mem hk)
   rw [Bool.not_eq_true',con_no] at this
   exact this h
  ·obtain ⟨m,hm,e⟩:=List.mem_iff_getElem.1 h
   rw [List.length_take] at hm
   rw [List.getElem_take] at e
   exact List.pairwise_iff_getElem.1 h2 m k (by omega) hk (by omega) e
 ·intro h
  refine ⟨fun n hn=>?_,List.pairwise_iff_getElem.2 fun m k hm hk hmk e=>?_⟩
  ·obtain ⟨k,hk,rfl⟩:=List.mem_iff_getElem.1 hn
   have:=h k hk
   rw [gd k hk,con_no,List.mem_append] at this
   rw [Bool.not_eq_true',con_no]
   exact fun hh=>this (.inl hh)
  ·have:=h k hk
   rw [gd k hk,con_no,List.mem_append] at this
   exact this (.inr (List.mem_iff_getElem.2 ⟨m,by rw [List.length_take];omega,by rw [List.getElem_take];exact e⟩))
theorem nw_zero {L c:List Int}:nw L c 0:=fun k hk=>by omega
theorem nw_step {L c:List Int} (h:nw L c j) (hj:(L ++ c.take j).contains (c.getD j 0)=false):nw L c (j+1):=fun k hk=>by
 by_cases e:k=j
 ·subst e;exact hj
 ·exact h k (by omega)
theorem pt_bad (hs:stV s=true) (hl:l.all atV=true) (h:ptI s l i) (hi:i < l.length) (hb:acB s (l.getD i ⟨0,0,0⟩)=false):ptO s [] l=none:=by
 rw [h.eq,ptO_at hs hl hi,hb];rfl
theorem pt_dup (hs:stV s=true) (hl:l.all atV=true) (h:ptI s l i) (hi:i < l.length) (hj:j < (acL s (l.getD i ⟨0,0,0⟩)).length) (hc:(ptL s l i ++ (acL s (l.getD i ⟨0,0,0⟩)).take j).contains ((acL s (l.getD i ⟨0,0,0⟩)).getD j 0)=true):ptO s [] l=none:=by
 rw [h.eq,ptO_at hs hl hi]
 cases hb:acB s (l.getD i ⟨0,0,0⟩) with
 | false=>rfl
 | true =>
  rw [cond_true]
  cases hq:((acL s (l.getD i ⟨0,0,0⟩)).all (fun n=>!(ptL s l i).contains n) && decide (acL s (l.getD i ⟨0,0,0⟩)).Nodup) with
  | false=>rfl
  | true =>
   have:=nw_iff.1 hq j hj
   rw [hc] at this;cases this
theorem pt_next (hs:stV s=true) (hl:l.all atV=true) (h:ptI s l i) (hi:i < l.length) (hb:acB s (l.getD i ⟨0,0,0⟩)=true) (hj:¬ j < (acL s (l.getD i ⟨0,0,0⟩)).length) (hj2:j<=(acL s (l.getD i ⟨0,0,0⟩)).length) (hn:nw (ptL s l i) (acL s (l.getD i ⟨0,0,0⟩)) j):ptI s l (i+1):=by
 have e:j=(acL s (l.getD i ⟨0,0,0⟩)).length:=by omega
 subst e
 refine ⟨hi,?_,?_⟩
 ·rw [h.eq,ptO_at hs hl hi,hb,nw_iff.2 hn,ptL_succ hi];rfl
 ·intro n hm
  rw [ptL_succ hi,List.mem_append] at hm
  rcases hm with hm | hm
  ·exact h.al n hm
  ·exact ac_al hb n hm
theorem pt_end (h:ptI s l i) (hi:¬ i < l.length):ptO s [] l=some (ptL s l i):=by
 rw [h.eq,List.drop_of_length_le (by omega),ptO]
end
theorem csHas_mask {L:List Int} {n:Int}:csHas (maskS L) n=(isAd n && L.contains n):=by
 unfold csHas
 rw [maskS_has]
 cases h:isAd n with
 | false=>rfl
 | true=>rw [isAd_T h];rfl
theorem mask_take {L c:List Int} {j:Nat} (hj:j < c.length):maskS (L ++ c.take (j+1))=tsWith (maskS (L ++ c.take j)) (c.getD j 0):=by
 rw [List.take_add_one,List.getElem?_eq_getElem hj,List.getD_eq_getElem?_getD,List.getElem?_eq_getElem hj,← List.append_assoc]
 exact maskS_app _ _
def usL (s:GState) (i:Nat):List Int:=(addrs.take i).filter (al s)
theorem usL_step {s:GState} {i:Nat} (hi:i < 8):usL s (i+1)=cond (al s ((i:Int)+1)) (usL s i ++ [(i:Int)+1]) (usL s i):=by
 unfold usL
 rw [List.take_add_one,List.filter_append]
 have e:addrs[i]?=some ((i:Int)+1):=by
  match i,hi with
  | 0,_ | 1,_ | 2,_ | 3,_ | 4,_ | 5,_ | 6,_ | 7,_=>rfl
 rw [e]
 show _ ++ List.filter _ [(i:Int)+1]=_
 cases h:al s ((i:Int)+1) <;> simp [h]
theorem mask_eq {L M:List Int} (h:∀ n,isT n=true->L.contains n=M.contains n):maskS L=maskS M:=by
 have h1:=maskS_bd L
 have h2:=maskS_bd M
 have key:(maskS L).toNat=(maskS M).toNat:=by
  apply Nat.eq_of_testBit_eq
  intro k
  by_cases hk:k < 9
  ·have a1:=maskS_has (k:Int) L
   have a2:=maskS_has (k:Int) M
   have ht:isT (k:Int)=true:=isT_iff.2 ⟨by omega,by omega⟩
   unfold tsHas at a1 a2
   rw [ht,Bool.true_and,Bool.true_and,Int.toNat_natCast] at a1 a2
   rw [a1,a2,h _ ht]
  ·rw [Nat.testBit_lt_two_pow,Nat.testBit_lt_two_pow]
   ·exact Nat.lt_of_lt_of_le (by omega) (Nat.pow_le_pow_right (by decide) (show 9<=k by omega))
   ·exact Nat.lt_of_lt_of_le (by omega) (Nat.pow_le_pow_right (by decide) (show 9<=k by omega))
 omega
theorem mask_inj {L M:List Int} (h:maskS L=maskS M) {n:Int} (hn:isT n=true):L.contains n=M.contains n:=by
 have a1:=maskS_has n L
 have a2:=maskS_has n M
 rw [h,a2,hn] at a1
 simpa using a1.symm
def poO (s:GState) (a:GAsn):Option (List Int):=cond (stV s && (asV a && fctB s a.facts)) (ptO s [] a.atoms) none
def poL (s:GState) (a:GAsn):List Int:=(poO s a).getD []
def poB (s:GState) (a:GAsn):Bool:=(poO s a).isSome
section
variable {s:GState} {a:GAsn} {i:Nat}
theorem po_bad (h:(stV s && (asV a && fctB s a.facts))=false):poL s a=[]/\poB s a=false:=by unfold poL poB poO;rw [h];exact ⟨rfl,rfl⟩
theorem po_bad1 (h:stV s=false):poL s a=[]/\poB s a=false:=po_bad (by rw [h];rfl)
theorem po_bad2 (h:asV a=false):poL s a=[]/\poB s a=false:=po_bad (by rw [h];simp)
theorem po_bad3 (h:fctB s a.facts=false):poL s a=[]/\poB s a=false:=po_bad (by rw [h];simp)
theorem po_ok (hs:stV s=true) (ha:asV a=true) (hf:fctB s a.facts=true):poO s a=ptO s [] a.atoms:=by unfold poO;rw [hs,ha,hf];rfl
theorem po_none (hs:stV s=true) (ha:asV a=true) (hf:fctB s a.facts=true) (h:ptO s [] a.atoms=none):poL s a=[]/\poB s a=false:=by
 unfold poL poB;rw [po_ok hs ha hf,h];exact ⟨rfl,rfl⟩
theorem po_some (hs:stV s=true) (ha:asV a=true) (hf:fctB s a.facts=true) {L:List Int} (h:ptO s [] a.atoms=some L):poL s a=L/\poB s a=true:=by
 unfold poL poB;rw [po_ok hs ha hf,h];exact ⟨rfl,rfl⟩
theorem hol_po (hs:stV s=true) (ha:asV a=true):HOL s a=(poB s a && addrs.all fun n=>(poL s a).contains n == al s n):=by
 unfold HOL poB poL poO
 rw [hs,ha]
 cases fctB s a.facts with
 | false=>rfl
 | true =>
  simp only [Bool.true_and,cond_true]
  cases ptO s [] a.atoms <;> rfl
theorem hol_no1 (h:stV s=false):HOL s a=false:=by unfold HOL;rw [h];rfl
theorem hol_no2 (h:asV a=false):HOL s a=false:=by unfold HOL;rw [h];simp
theorem po_v (h:poB s a=true):stV s=true/\asV a=true/\fctB s a.facts=true:=by
 unfold poB poO at h
 cases hc:(stV s && (asV a && fctB s a.facts)) with
 | false=>rw [hc] at h;cases h
 | true=>simp only [Bool.and_eq_true] at hc;exact ⟨hc.1,hc.2.1,hc.2.2⟩
theorem hol_poF (h:poB s a=false):HOL s a=false:=by
 cases hs:stV s with
 | false=>exact hol_no1 hs
 | true =>
  cases ha:asV a with
  | false=>exact hol_no2 ha
  | true=>rw [hol_po hs ha,h];rfl
theorem usL8 (n:Int):(usL s 8).contains n=al s n:=by
 rw [Bool.eq_iff_iff,List.contains_iff_mem]
 unfold usL
 rw [show addrs.take 8=addrs from rfl,List.mem_filter]
 constructor
 ·exact fun h=>h.2
 ·intro h
  refine ⟨?_,h⟩
  have:=al_range h
  unfold addrs
  simp only [List.mem_cons,List.mem_nil_iff,or_false]
  omega
theorem ptO_al (hs:stV s=true):∀ (l:List GAtom) (L M:List Int),l.all atV=true->(∀ n ∈ L,al s n=true)->ptO s L l=some M->∀ n ∈ M,al s n=true:=by
 intro l
 induction l with
 | nil=>intro L M _ hL h;simp only [ptO] at h;injection h with h;subst h;exact hL
 | cons x l ih =>
  intro L M hv hL h
  simp only [List.all_cons,Bool.and_eq_true] at hv
  simp only [ptO] at h
  cases hc:acO s x with
  | none=>rw [hc] at h;cases h
  | some c =>
   rw [hc] at h
   simp only at h
   cases hd:(c.all (fun n=>!L.contains n) && decide c.Nodup) with
   | false=>rw [hd] at h;cases h
   | true =>
    rw [hd,cond_true] at h
    refine ih _ _ hv.2 (fun n hn=>?_) h
    rcases List.mem_append.1 hn with hn | hn
    ·exact hL n hn
    ·exact (acO_al hs hv.1 hc).1 n hn
theorem po_al (h:poB s a=true):∀ n ∈ poL s a,al s n=true:=by
 obtain ⟨hs,ha,hf⟩:=po_v h
 unfold poB at h
 obtain ⟨L,hL⟩:=Option.isSome_iff_exists.1 h
 have e:poL s a=L:=by unfold poL;rw [hL];rfl
 rw [e]
 rw [po_ok hs ha hf] at hL
 exact ptO_al hs _ _ _ (asV_facts ha).2.2.1 (fun n hn=>by cases hn) hL
theorem hol_mask (h:poB s a=true):(maskS (poL s a) == maskS (usL s 8))=HOL s a:=by
 obtain ⟨hs,ha,_⟩:=po_v h
 rw [hol_po hs ha,h,Bool.true_and,Bool.eq_iff_iff,beq_iff_eq,List.all_eq_true]
 constructor
 ·intro he n hn
  have hT:isT n=true:=by
   unfold addrs at hn
   simp only [List.mem_cons,List.mem_nil_iff,or_false] at hn
   exact isT_iff.2 ⟨by omega,by omega⟩
  rw [mask_inj he hT,usL8]
  simp
 ·intro ha'
  refine mask_eq fun n hn=>?_
  rw [usL8]
  by_cases hm:n ∈ addrs
  ·simpa using ha' n hm
  ·have h2:al s n=false:=by
    cases hq:al s n with
    | false=>rfl
    | true =>
     exfalso
     have:=al_range hq
     apply hm
     unfold addrs
     simp only [List.mem_cons,List.mem_nil_iff,or_false]
     omega
   rw [h2,con_no]
   exact fun hh=>by rw [po_al h n hh] at h2;cases h2
end
theorem cs_yes {z n:Int} (h0:0<=z) (h1:z < 512) (h:isAd n=true):(bits .and .u16 (z.fdiv (2 ^ min n.toNat IntKind.u16.bits)) 1 == 1)=csHas z n:=by
 unfold csHas
 rw [tsHas_eq h0 h1 (isAd_T h),h];rfl
theorem cs_no {z n:Int} (h:isAd n=false):false=csHas z n:=by unfold csHas;rw [h];rfl
theorem or_mask {L:List Int} {n:Int} (h:isT n=true):bits .or .u16 (maskS L) (IntKind.u16.wrap (1 * 2 ^ min n.toNat IntKind.u16.bits))=maskS (L ++ [n]):=by
 rw [tsWith_eq (maskS_bd L).1 (maskS_bd L).2 h,maskS_app]
theorem us1 {s:GState} {i:Nat} (hi:(i:Int)+1<=8) (h:al s ((i:Int)+1)=true):bits .or .u16 (maskS (usL s i)) (IntKind.u16.wrap (1 * 2 ^ min ((i:Int)+1).toNat IntKind.u16.bits))=maskS (usL s (i+1)):=by
 rw [or_mask (isT_iff.2 ⟨by omega,by omega⟩),usL_step (by omega),h];rfl
theorem us2 {s:GState} {i:Nat} (hi:(i:Int)+1<=8) (h:al s ((i:Int)+1)=false):maskS (usL s i)=maskS (usL s (i+1)):=by
 rw [usL_step (by omega),h];rfl
theorem us3 {s:GState} {i:Nat} (h:i<=8) (hi:¬ (i:Int)+1<=8):maskS (usL s i)=maskS (usL s 8):=by rw [show i=8 by omega]
section
variable {l:List GFact} {v:List Int} {i:Nat}
theorem fsV_all (h:fsV l=true):l.all fV=true:=by unfold fsV at h;simp only [Bool.and_eq_true] at h;exact h.2
theorem fho_no1 (h:fsV l=false):false=(fsV l && (v.length == 8 && l.all (holdF v))):=by rw [h];rfl
theorem fho_no2 (h:¬ ((v.length:Nat):Int)=8):false=(fsV l && (v.length == 8 && l.all (holdF v))):=by rw [show (v.length == 8)=false by rw [beq_eq_false_iff_ne];omega];simp
theorem fho_no3 (hi:i < l.length) (h:¬ (tv v (l.getD i ⟨false,0,0⟩).a == tv v (l.getD i ⟨false,0,0⟩).b)=(l.getD i ⟨false,0,0⟩).eq):false=(fsV l && (v.length == 8 && l.all (holdF v))):=by
 have:l.all (holdF v)=false:=by
  rw [List.all_eq_false]
  refine ⟨l.getD i ⟨false,0,0⟩,?_,by unfold holdF;simpa using h⟩
  rw [List.getD_eq_getElem?_getD,List.getElem?_eq_getElem hi];exact List.getElem_mem hi
 rw [this];simp
theorem fho_idx (hl:fsV l=true) (hi:i < l.length):isT (l.getD i ⟨false,0,0⟩).a=true/\isT (l.getD i ⟨false,0,0⟩).b=true:=fV_isT (all_get (d:=(⟨false,0,0⟩:GFact)) (fsV_all hl) hi)
theorem fho_step (hi:i < l.length) (h0:(l.take i).all (holdF v)=true) (h:(tv v (l.getD i ⟨false,0,0⟩).a == tv v (l.getD i ⟨false,0,0⟩).b)=(l.getD i ⟨false,0,0⟩).eq):(l.take (i+1)).all (holdF v)=true:=by
 rw [List.take_add_one,List.all_append,h0,List.getElem?_eq_getElem hi]
 rw [List.getD_eq_getElem?_getD,List.getElem?_eq_getElem hi] at h
 simpa [holdF] using h
theorem fho_end (hl:fsV l=true) (hv:v.length=8) (hi:¬ i < l.length) (h0:(l.take i).all (holdF v)=true):true=(fsV l && (v.length == 8 && l.all (holdF v))):=by
 rw [List.take_of_length_le (by omega)] at h0
 rw [hl,hv,h0];rfl
end
section
variable {s:GState} {a:GAsn} {i j:Nat}
theorem fct_iff (hs:stV s=true) (ha:asV a=true):(fsV a.facts && (s.vals.length == 8 && a.facts.all (holdF s.vals)))=fctB s a.facts:=by
 have h1:=asV_facts ha
 have h2:=stV_all hs
 have e1:fsV a.facts=true:=by unfold fsV;rw [h1.1,decide_eq_true h1.2.1];rfl
 rw [e1,h2.1];rfl
theorem mz {L:List Int} {b:Bool} (h:L=[]/\b=false):0=maskS L/\false=b:=by rw [h.1,h.2];exact ⟨rfl,rfl⟩
theorem po_q1 (h:stV s=false):0=maskS (poL s a)/\false=poB s a:=mz (po_bad1 h)
theorem po_q2 (h:asV a=false):0=maskS (poL s a)/\false=poB s a:=mz (po_bad2 h)
theorem po_q3 (hs:stV s=true) (ha:asV a=true) (h:(fsV a.facts && (s.vals.length == 8 && a.facts.all (holdF s.vals)))=false):0=maskS (poL s a)/\false=poB s a:=by rw [fct_iff hs ha] at h;exact mz (po_bad3 h)
theorem po_q4 (hs:stV s=true) (ha:asV a=true) (hf:fctB s a.facts=true) (h:ptI s a.atoms i) (hi:i < a.atoms.length) (hb:acB s (a.atoms.getD i ⟨0,0,0⟩)=false):0=maskS (poL s a)/\false=poB s a:=mz (po_none hs ha hf (pt_bad hs (asV_facts ha).2.2.1 h hi hb))
theorem po_q5 (hs:stV s=true) (ha:asV a=true) (hf:fctB s a.facts=true) (h:ptI s a.atoms i) (hi:i < a.atoms.length) (hj:j < (acL s (a.atoms.getD i ⟨0,0,0⟩)).length) (hc:csHas (maskS (ptL s a.atoms i ++ (acL s (a.atoms.getD i ⟨0,0,0⟩)).take j)) ((acL s (a.atoms.getD i ⟨0,0,0⟩)).getD j 0)=true):0=maskS (poL s a)/\false=poB s a:=by
 rw [csHas_mask,Bool.and_eq_true] at hc
 exact mz (po_none hs ha hf (pt_dup hs (asV_facts ha).2.2.1 h hi hj hc.2))
theorem ac_get (hb:acB s (a.atoms.getD i ⟨0,0,0⟩)=true) (hj:j < (acL s (a.atoms.getD i ⟨0,0,0⟩)).length):isAd ((acL s (a.atoms.getD i ⟨0,0,0⟩)).getD j 0)=true:=al_isAd (ac_al hb _ (getD_mem hj))
theorem po_g1 (hb:acB s (a.atoms.getD i ⟨0,0,0⟩)=true) (hj:j < (acL s (a.atoms.getD i ⟨0,0,0⟩)).length) (hc:csHas (maskS (ptL s a.atoms i ++ (acL s (a.atoms.getD i ⟨0,0,0⟩)).take j)) ((acL s (a.atoms.getD i ⟨0,0,0⟩)).getD j 0)=false) (hn:nw (ptL s a.atoms i) (acL s (a.atoms.getD i ⟨0,0,0⟩)) j):nw (ptL s a.atoms i) (acL s (a.atoms.getD i ⟨0,0,0⟩)) (j+1):=by
 rw [csHas_mask,ac_get hb hj,Bool.true_and] at hc
 exact nw_step hn hc
theorem po_g2 (hb:acB s (a.atoms.getD i ⟨0,0,0⟩)=true) (hj:j < (acL s (a.atoms.getD i ⟨0,0,0⟩)).length):bits .or .u16 (maskS (ptL s a.atoms i ++ (acL s (a.atoms.getD i ⟨0,0,0⟩)).take j)) (IntKind.u16.wrap (1 * 2 ^ min ((acL s (a.atoms.getD i ⟨0,0,0⟩)).getD j 0).toNat IntKind.u16.bits))=maskS (ptL s a.atoms i ++ (acL s (a.atoms.getD i ⟨0,0,0⟩)).take (j+1)):=by
 rw [mask_take hj,tsWith_eq (maskS_bd _).1 (maskS_bd _).2 (isAd_T (ac_get hb hj))]
theorem po_n (hs:stV s=true) (ha:asV a=true) (h:ptI s a.atoms i) (hi:i < a.atoms.length) (hb:acB s (a.atoms.getD i ⟨0,0,0⟩)=true) (hj:¬ j < (acL s (a.atoms.getD i ⟨0,0,0⟩)).length) (hj2:j<=(acL s (a.atoms.getD i ⟨0,0,0⟩)).length) (hn:nw (ptL s a.atoms i) (acL s (a.atoms.getD i ⟨0,0,0⟩)) j):ptI s a.atoms (i+1)/\maskS (ptL s a.atoms i ++ (acL s (a.atoms.getD i ⟨0,0,0⟩)).take j)=maskS (ptL s a.atoms (i+1)):=by
 refine ⟨pt_next hs (asV_facts ha).2.2.1 h hi hb hj hj2 hn,?_⟩
 rw [ptL_succ hi,List.take_of_length_le (by omega)]
theorem po_e (hs:stV s=true) (ha:asV a=true) (hf:fctB s a.facts=true) (h:ptI s a.atoms i) (hi:¬ i < a.atoms.length):maskS (ptL s a.atoms i)=maskS (poL s a)/\true=poB s a:=by
 obtain ⟨a1,a2⟩:=po_some hs ha hf (pt_end h hi)
 rw [a1,a2];exact ⟨rfl,rfl⟩
end
theorem jb {s:GState} {x:GAtom} {j:Nat} (hj:j < (acL s x).length):(j:Int)+1<=9223372036854775807:=by
 have:=acL_len (s:=s) (x:=x)
 omega
end Go.SE

namespace Go.SE
open Go.RowKit
section
variable {s:GState} {a:GAsn} {i j:Nat}
theorem pa_at (ha:asV a=true) (hi:i < a.atoms.length):atV (a.atoms.getD i ⟨0,0,0⟩)=true:=all_get (asV_facts ha).2.2.1 hi
end
end Go.SE

namespace Go.SE
open Go.RowKit
section
variable {a:GAsn} {l:List Int} {i:Nat}
theorem tv_T (hl:l.length=8) (hall:l.all isT=true) {t:Int} (ht:isT t=true):isT (tv l t)=true:=by
 obtain ⟨t0,t8⟩:=isT_iff.1 ht
 unfold tv
 split
 ·rfl
 ·have hi:(t - 1).toNat < l.length:=by omega
  have:=List.all_eq_true.1 hall _ (List.getElem_mem hi)
  rw [List.getD_eq_getElem?_getD,List.getElem?_eq_getElem hi]
  exact this
theorem all_set (h:l.all isT=true) {n:Nat} {v:Int} (hv:isT v=true):(l.set n v).all isT=true:=by
 rw [List.all_eq_true] at h ⊢
 intro x hx
 rcases List.mem_or_eq_of_mem_set hx with hx | hx
 ·exact h x hx
 ·rw [hx];exact hv
theorem mem_T {r k n:Int} (h:r ∈ [0,n,n,1+k]) (hn:1<=n/\n<=8) (hk:1<=(5:Int)->0<=k/\k < 5):isT r=true:=by
 have hk:=hk (by omega)
 simp only [List.mem_cons,List.not_mem_nil,or_false] at h
 rw [isT_iff];omega
theorem bu_f (ha:asV a=true) (hi:i < a.facts.length):isT (a.facts.getD i ⟨false,0,0⟩).a=true/\isT (a.facts.getD i ⟨false,0,0⟩).b=true/\a.facts.length<=12:=by
 have h:=fV_isT (all_get (d:=(⟨false,0,0⟩:GFact)) (asV_facts ha).1 hi)
 exact ⟨h.1,h.2,(asV_facts ha).2.1⟩
theorem bu_a (ha:asV a=true) (hi:i < a.atoms.length):isT (a.atoms.getD i ⟨0,0,0⟩).a=true/\isT (a.atoms.getD i ⟨0,0,0⟩).b=true/\a.atoms.length<=6:=by
 have h:=atV_isT (pa_at ha hi)
 exact ⟨h.1,h.2,(asV_facts ha).2.2.2⟩
theorem bu_fa (ha:asV a=true) (hi:i < a.facts.length):(a.facts.getD i ⟨false,0,0⟩).a<=8/\a.facts.length<=12:=by
 have h:=bu_f ha hi
 exact ⟨(isT_iff.1 h.1).2,h.2.2⟩
theorem bu_v (ha:asV a=true) (hi:i < a.atoms.length) (hl:l.length=8) (hall:l.all isT=true):0<=tv l (a.atoms.getD i ⟨0,0,0⟩).a/\tv l (a.atoms.getD i ⟨0,0,0⟩).a<=8/\a.atoms.length<=6 :=
 have h:=bu_a ha hi
 ⟨(isT_iff.1 (tv_T hl hall h.1)).1,(isT_iff.1 (tv_T hl hall h.1)).2,h.2.2⟩
theorem bu_v1 (ha:asV a=true) (hi:i < a.atoms.length) (hl:l.length=8) (hall:l.all isT=true):-9223372036854775808<=tv l (a.atoms.getD i ⟨0,0,0⟩).a - 1:=by have:=bu_v ha hi hl hall;omega
theorem bu_v2 (ha:asV a=true) (hi:i < a.atoms.length) (hl:l.length=8) (hall:l.all isT=true):tv l (a.atoms.getD i ⟨0,0,0⟩).a - 1<=9223372036854775807:=by have:=bu_v ha hi hl hall;omega
theorem bu_v3 (ha:asV a=true) (hi:i < a.atoms.length) (hl:l.length=8) (hall:l.all isT=true) (h:¬ tv l (a.atoms.getD i ⟨0,0,0⟩).a=0):0<=tv l (a.atoms.getD i ⟨0,0,0⟩).a - 1:=by have:=bu_v ha hi hl hall;omega
theorem bu_v4 {m:List Int} (ha:asV a=true) (hi:i < a.atoms.length) (hl:l.length=8) (hall:l.all isT=true) (h:m.length=8):tv l (a.atoms.getD i ⟨0,0,0⟩).a - 1 < (m.length:Int):=by have:=bu_v ha hi hl hall;omega
end
end Go.SE

namespace Go.SE
open Go.RowKit
section
variable {P:Program} {E:Ty->TypeId} {tab:TypeId->Option TI} {w0:World} {M:MM} {n:Nat} {o:Oper} {st:St} {a:Act} {w:World}
def opensX (fo:Nat):List Oper->Option (Nat × Nat × List Oper)
 | ⟨some d1,.move (.tmp 0),_,_,_,none⟩ :: ⟨some d2,.call ⟨.value (.func f),args,_⟩,_,_,_,none⟩ :: l =>
  match args.toList with
  | [.tmp e1]=>if e1=d1/\f=fo then some (d1,d2,l) else none
  | _=>none
 | _=>none
theorem opensX_some {fo:Nat} {l l2:List Oper} {d1 d2:Nat} (h:opensX fo l=some (d1,d2,l2)):∃ o1 o2 args tys,l=o1 :: o2 :: l2/\o1.dst=some d1/\o1.op=.move (.tmp 0)/\o1.guard=none /\
  o2.dst=some d2/\o2.op=.call ⟨.value (.func fo),args,tys⟩/\args.toList=[.tmp d1]/\o2.guard=none:=by
 unfold opensX at h
 split at h
 ·split at h
  ·rename_i ha
   split at h
   ·rename_i e
    obtain ⟨rfl,rfl⟩:=e
    injection h with h
    injection h with h1 h
    injection h with h2 h3
    subst h1 h2 h3
    exact ⟨_,_,_,_,rfl,rfl,rfl,rfl,rfl,rfl,ha,rfl⟩
   ·cases h
  ·cases h
 ·cases h
def openSX (d1 d2:Nat) (st:St):St :=
 { st with env:=upd (upd st.env d1 (st.env 0)) d2 (.s (.c .rdr)),rd:=some 0 }
def openKX (tab:TypeId->Option TI) (K:FuncId->Option Con) (pts:FuncId->Option PT) (hp:Nat->Bool) (anns:Nat->St->Option Ann) (perm:Nat->List (List Nat)) (gl:List Nat × List Nat) (n:Nat) (ops:Array Oper) (rest:Code) (Q:XK->St->Prop) (st1:St):Option (Nat × Nat × List Oper)->Prop
 | some (d1,d2,l)=>(d1 < n/\d2 < n/\d1 ≠ 0)/\st1.rd=none/\gcB gl.1 gl.2 st1=true/\(noREB st1.env gl.1 && noRMB st1.mem gl.2)=true/\openA ((gcSt (fun _=>none) gl.1 gl.2 st1).env 0) /\
   vcOpsP tab K pts ops l (openSX d1 d2 (gcSt (fun _=>none) gl.1 gl.2 st1)) fun st'=>vcQ tab K pts hp (fun _=>none) anns perm rest st' Q
 | none=>False
def vcOpenX (tab:TypeId->Option TI) (K:FuncId->Option Con) (pts:FuncId->Option PT) (hp:Nat->Bool) (anns:Nat->St->Option Ann) (perm:Nat->List (List Nat)) (gl:List Nat × List Nat) (fo n:Nat):Code->St->(XK->St->Prop)->Prop
 | .seq c0 (.seq (.region _ ops false) rest),st,Q=>vcQ tab K pts hp (fun _=>none) anns perm c0 st (seqK (fun st1=>openKX tab K pts hp anns perm gl n ops rest Q st1 (opensX fo ops.toList)) Q)
 | _,_,_=>False
theorem draw_fnX {K:FuncId->Option Con} {pts:FuncId->Option PT} {hp:Nat->Bool} {gl:List Nat × List Nat} (ht:TabOk P E tab) (hmix:P.follows .mixedOrders=true) (hKA:KAll P E K) (hPA:PAll P E pts) {perm:Nat->List (List Nat)} {fo:FuncId} (hopen:OpenOk P fo)
  (hfo : ∃ fn c, P.funcs[fo]? = some fn /\ (fn.name == "runtime.NumGoroutine") = false /\ fn.body = some c) {f : FuncId} {fn : Func} {con : Con} (hf : P.funcs[f]? = some fn) (hb : fn.body = some (bodyOf fn))
  (hname : (fn.name == "runtime.NumGoroutine") = false) (hn : con.aks.length <= fn.ntmps) (hok : codeOkP tab K hp perm fn.ntmps (bodyOf fn) = true) (hrd : hasRdr con.aks = false) (hrk : noRk con.rks = true) {anns : Args con.aks -> Nat -> St -> Option Ann}
  (hvc:∀ x,con.pre x->vcOpenX tab K pts hp (anns x) perm gl fo fn.ntmps (bodyOf fn) (entry (encs con.aks x) none) (retOk tab con fn.results.toList x 0)) (htot:∀ x,con.pre x->∃ r,con.post x r):FnOk P E f con:=by
 refine ⟨⟨fn,_,hf,hname,hb⟩,?_,htot⟩
 intro w0 ro0 ρ k x vs id0 hpre hin _ hargs
 have hlen:vs.length=con.aks.length:=by
  rw [hargs.1]
  have:∀ (ks:List AK) (x:Args ks),(encs ks x).length=ks.length:=by
   intro ks
   induction ks with
   | nil=>intro x;rfl
   | cons k ks ih=>intro x;obtain ⟨x,xs⟩:=x;simp [encs,ih]
  exact this _ _
 refine calls_of_wp hf hb ?_
 -- the end
 have fin:∀ (ρ':Nat) (st':St) (a':Act) (w':World),Rel E w0 (MOf false ρ' ro0) fn.ntmps st' a' w'->retOk tab con fn.results.toList x 0 .ret st' ->
   a'.defers=[]/\∃ v,(results fn a'.tmps).run P w'=.ok v w'/\∃ v1 r g,Ending.returned v=.returned v1/\con.post x r/\Ext (fun b=>hasRdr con.aks=true/\b=ρ) w0 w'/\g.ρ=ρ/\ResOk E w0 w' ro0 con.rks id0 r v1 g/\(hasRdr con.aks=true->RdStep w0 w' ρ (k+con.cost x)):=by
  intro ρ' st' a' w' hr hv
  have hr':Rel E w0 (MOf (hasRdr con.aks) ρ' ro0) fn.ntmps st' a' w':=by rw [hrd];exact hr
  obtain ⟨v,h1,r,g,h2,h3,h4,h5,h6⟩:=exit_ok (k:=0) id0 ht hin (fun h=>by rw [hrd] at h;cases h) hr' hv
  refine ⟨hr.defers,v,h1,v,r,{ g with ρ:=ρ },rfl,h2,⟨h3.os,h3.tape,h3.output,h3.size,fun c hc _=>h3.block c hc fun ⟨h,_⟩=>by rw [hrd] at h;cases h⟩,rfl,⟨h5.ro,h5.ro',?_,?_,h5.new,h5.dist⟩,fun h=>by rw [hrd] at h;cases h⟩
  ·exact S.R.rho (pack1_noR (ress_noR _ _ _ hrk)) h5.val
  ·intro id q hq
   have:=h5.res id q hq
   obtain ⟨_,_,f',t,xs,e⟩:=ress_range _ _ _ _ _ hq
   subst e
   exact this
 have hv0:=hvc x hpre
 revert hok hv0
 generalize bodyOf fn=body
 intro hok hv0
 unfold vcOpenX at hv0
 split at hv0
 ·rename_i c0 rid ops rest
  simp only [codeOkP,Bool.and_eq_true] at hok
  have hrel:Rel E w0 (MOf false ρ ro0) fn.ntmps (entry (encs con.aks x) (rdOf false 0)) { tmps:=vs.toArray ++ Array.replicate (fn.ntmps - vs.toArray.size) undef,defers:=[] } w0:=entry_rel hin (fun h=>by cases h) hargs (by omega)
  refine wp_seq (codeQ_sound ht hKA hPA hmix (draw_sound ht (tab_small ht) hKA hmix _ _ _) OOk.none c0 _ _ _ _ _ hok.1 hrel hv0 ?_)
  intro xk st1 a1 w1 hr1 hk1
  cases xk with
  | exit id=>exact hk1.elim
  | ret=>exact fin ρ st1 a1 w1 hr1 hk1
  | normal =>
   have hk1:openKX tab K pts hp (anns x) perm gl fn.ntmps ops rest (retOk tab con fn.results.toList x 0) st1 (opensX fo ops.toList):=hk1
   unfold openKX at hk1
   split at hk1
   ·rename_i e1' e2' l2 hd
    obtain ⟨d,hde⟩:∃ d:Nat × Nat,d=(e1',e2'):=⟨_,rfl⟩
    have hd1':e1'=d.1:=by rw [hde]
    have hd2':e2'=d.2:=by rw [hde]
    subst hd1' hd2'
    clear hde
    obtain ⟨⟨hd1,hd2,hd0⟩,hrd1,hgc,hnr,hA,hvr⟩:=hk1
    simp only [Bool.and_eq_true] at hnr
    have hno:=noR_gc hnr.1 hnr.2
    unfold gcB at hgc
    simp only [Bool.and_eq_true] at hgc
    replace hr1:=hr1.gc (OOk.none (ρ:=ρ) (ro0:=ro0)) (live:=gl.1) (ids:=gl.2) ⟨closedEB_ok hgc.1,closedMB_ok hgc.2,fun j hj=>(by cases hj)⟩
    replace hrd1:(gcSt (fun _=>none) gl.1 gl.2 st1).rd=none:=hrd1
    generalize gcSt (fun _=>none) gl.1 gl.2 st1=st1 at hr1 hrd1 hno hA hvr
    obtain ⟨o1,o2,args,tys,hl,e1,e2,e3,e4,e5,e6,e7⟩:=opensX_some hd
    refine wp_seq (wp_region_list ?_)
    have hops:=opsOk_mem (show opsOk fn.ntmps ops.toList=true from hok.2.1.1)
    rw [hl] at hops ⊢
    -- the text
    unfold wpList
    rw [if_pos (by simp [Region.wanted,e3])]
    refine .inl ?_
    unfold Oper.wp
    rw [show (execOp a1.eval o1).run P w1=.ok (.value (a1.eval (.tmp 0))) w1 by simp [execOp,e2],Oper.upon_value,e1]
    have hS:∃ code,st1.env 0=.s (.c (.d (.arr .u8 code))):=by
     unfold openA at hA
     split at hA
     ·rename_i c hc;exact ⟨c,hc⟩
     ·exact hA.elim
    obtain ⟨code,henv0⟩:=hS
    have hev:a1.eval (.tmp 0)=a1.tmps.getD 0 undef:=rfl
    have hr2:=hr1.put1 hd1 (s:=st1.env 0) (v:=a1.eval (.tmp 0)) (fun g _ henv=>henv 0) (fun id hid=>hr1.cl.1 0 id hid)
    have hno2:NoR { st1 with env:=upd st1.env d.1 (st1.env 0) }:=⟨fun y=>by
     show noRS (upd st1.env d.1 (st1.env 0) y)=true
     by_cases e:y=d.1
     ·subst e;rw [upd_same];exact hno.1 0
     ·rw [upd_ne _ _ e];exact hno.1 y,hno.2⟩
    generalize ha2:a1.put (some d.1) (a1.eval (.tmp 0))=a2 at hr2 ⊢
    -- the call
    unfold wpList
    rw [if_pos (by simp [Region.wanted,e7])]
    refine .inl ?_
    obtain ⟨fn',c',hf',hname',hbody'⟩:=hfo
    unfold Oper.wp
    rw [run_call hf' hname' hbody' e5,Oper.upon_enter]
    obtain ⟨g,hg,henv⟩:=hr2.good
    have hargv:args.map a2.eval=#[a2.tmps.getD d.1 undef]:=by
     apply Array.ext'
     rw [Array.toList_map,e6]
     rfl
    rw [hargv]
    have hdr:DR g.ro (.arr .u8 code) (a2.tmps.getD d.1 undef):=by
     have h1:=henv d.1
     have h2:({ st1 with env:=upd st1.env d.1 (st1.env 0) }:St).env d.1=.s (.c (.d (.arr .u8 code))):=by
      show upd st1.env d.1 (st1.env 0) d.1=_
      rw [upd_same];exact henv0
     rw [h2] at h1
     exact h1
    refine Calls.mono (hopen w1 g.ro code _ hg.ro hdr) fun e w2 he=>?_
    obtain ⟨b,ro',rfl,q1,q2,q3,q4,q5⟩:=he
    have hr3:=rel_open hr2 hg henv hrd1 hno2 q1 q2 q3 q4 q5
    rw [e4]
    have hr4:=hr3.put1 hd2 (s:=.s (.c .rdr)) (v:=.pointer (some ⟨b,0,none⟩)) (fun g' hg' _=>by
     show _=_
     rw [hg'.rho];rfl) (fun id hid=>by simp [S.refs,S0.refs,CV.refs] at hid)
    refine seqP_sound ht hKA hPA (k:=fun st'=>vcQ tab K pts hp (fun _=>none) (anns x) perm rest st' (retOk tab con fn.results.toList x 0)) (fun st' a' w' hr' hk'=>?_) l2 _ _ _ (fun o ho=>hops o (by simp [ho])) hr4 hvr
    refine codeQ_sound ht hKA hPA hmix (draw_sound ht (tab_small ht) hKA hmix _ _ _) OOk.none rest _ _ _ (retOk tab con fn.results.toList x 0) _ hok.2.2 hr' hk' ?_
    intro xk st' a' w' hr hk
    cases xk with
    | normal=>exact fin b st' a' w' hr hk
    | ret=>exact fin b st' a' w' hr hk
    | exit id=>exact hk.elim
   ·exact hk1.elim
 ·exact hv0.elim
end
end Go.SE

namespace Go.SE
open Go.RowKit
def mdV (c:List Int):Nat->List Int × Int
 | 0=>(List.replicate 8 0,0)
 | i+1=>cond (cl c ((i+1:Nat):Int) == ((i+1:Nat):Int)) ((mdV c i).1.set i ((mdV c i).2+1),(mdV c i).2+1)
   (cond (decide (0 < cl c ((i+1:Nat):Int))) ((mdV c i).1.set i ((mdV c i).1.getD (cl c ((i+1:Nat):Int) - 1).toNat 0),(mdV c i).2) (mdV c i))
def mdS (vs:List Int) (h:List Int) (x:GAtom):List Int:=h.set (tv vs x.a - 1).toNat (tv vs x.b)
def mdH (vs:List Int) (l:List GAtom):List Int:=l.foldl (mdS vs) (List.replicate 8 (-1))
def md (a:GAsn) (c:List Int):GState:=⟨(mdV c 8).1,mdH (mdV c 8).1 (fL c a.atoms)⟩
theorem mdV_len (c:List Int):∀ i,(mdV c i).1.length=8:=by
 intro i
 induction i with
 | zero=>rfl
 | succ i ih =>
  simp only [mdV]
  cases (cl c ((i+1:Nat):Int) == ((i+1:Nat):Int)) <;> cases decide (0 < cl c ((i+1:Nat):Int)) <;> simp [ih]
theorem mdV_n (c:List Int):∀ i,0<=(mdV c i).2/\(mdV c i).2<=i:=by
 intro i
 induction i with
 | zero=>exact ⟨Int.le_refl _,Int.le_refl _⟩
 | succ i ih =>
  simp only [mdV]
  cases (cl c ((i+1:Nat):Int) == ((i+1:Nat):Int)) <;> cases decide (0 < cl c ((i+1:Nat):Int)) <;> simp <;> omega
theorem mdH_len (vs:List Int) (l:List GAtom):(mdH vs l).length=8:=by
 have:∀ (l:List GAtom) (h:List Int),(l.foldl (mdS vs) h).length=h.length:=by
  intro l
  induction l with
  | nil=>intro h;rfl
  | cons x l ih=>intro h;rw [List.foldl_cons,ih];simp [mdS]
 rw [mdH,this];rfl
theorem mdH_step {vs:List Int} {l:List GAtom} {i:Nat} {d:GAtom} (h:i < l.length):mdH vs (l.take (i+1))=mdS vs (mdH vs (l.take i)) (l.getD i d):=by
 have e:l.take (i+1)=l.take i ++ [l.getD i d]:=by
  rw [List.take_add_one,List.getD_eq_getElem?_getD,List.getElem?_eq_getElem h];rfl
 unfold mdH
 rw [e,List.foldl_append];rfl
theorem mdV_pos (c:List Int):∀ (i j:Nat),j < i->i<=8->cl c ((j+1:Nat):Int)=((j+1:Nat):Int)->1<=(mdV c i).1.getD j 0/\(mdV c i).1.getD j 0<=i:=by
 intro i
 induction i with
 | zero=>intro j h;omega
 | succ i ih =>
  intro j hj hi he
  have hl:=mdV_len c i
  have hn:=mdV_n c i
  simp only [mdV]
  by_cases e:j=i
  ·subst e
   rw [he,beq_self_eq_true,cond_true]
   simp only
   rw [getD_set_eq (by omega)]
   omega
  ·have:=ih j (by omega) (by omega) he
   cases (cl c ((i+1:Nat):Int) == ((i+1:Nat):Int)) with
   | true=>simp only [cond_true];rw [getD_set_ne e];omega
   | false =>
    cases decide (0 < cl c ((i+1:Nat):Int)) with
    | true=>simp only [cond_true,cond_false];rw [getD_set_ne e];omega
    | false=>simp only [cond_false];omega
structure CaseOk (a:GAsn) (c:List Int):Prop where
 len:c.length=9
 le:∀ t:Nat,t < 9->cl c t<=t
 le8:le8 c=true
 idx:∀ x ∈ fL c a.atoms,isT x.a=true/\isT x.b=true/\1<=tv (mdV c 8).1 x.a/\tv (mdV c 8).1 x.a<=8
theorem fEn_root (has:Nat->Bool):∀ (f t:Nat) (c d:List Int),f+t=c.length->d ∈ fEn has f t c->∀ j,t<=j->j < c.length->has j=true->∃ k:Nat,d.getD j 0=(k:Int)/\k<=j/\d.getD k 0=(k:Int):=by
 intro f
 induction f with
 | zero=>intro t c d hl h j h1 h2;omega
 | succ f ih =>
  intro t c d hl h j h1 h2 hj
  have later:∀ x:Int,d ∈ fEn has f (t+1) (c.set t x)->j ≠ t->∃ k:Nat,d.getD j 0=(k:Int)/\k<=j/\d.getD k 0=(k:Int):=fun x h e =>
   ih (t+1) (c.set t x) d (by simp;omega) h j (by omega) (by simpa using h2) hj
  simp only [fEn] at h
  cases ht:has t with
  | false =>
   rw [ht] at h
   exact later _ h fun e=>by rw [e,ht] at hj;cases hj
  | true =>
   rw [ht] at h
   simp only [cond_true,List.mem_flatMap,List.mem_range] at h
   obtain ⟨k,hk,h⟩:=h
   cases hg:(k == t || c.getD k 0 == (k:Int)) with
   | false=>rw [hg] at h;cases h
   | true =>
    rw [hg] at h
    by_cases e:j=t
    ·subst e
     have hag:=fEn_agree has _ _ _ _ h
     have hjv:d.getD j 0=(k:Int):=by rw [hag.2 j (by omega),getD_set_eq h2]
     refine ⟨k,hjv,by omega,?_⟩
     by_cases ek:k=j
     ·rw [ek] at hjv ⊢;exact hjv
     ·rw [hag.2 k (by omega),getD_set_ne ek]
      have:(k == j)=false:=by simpa using ek
      rw [this,Bool.false_or] at hg
      simpa using hg
    ·exact later _ h e
theorem caseOk {a:GAsn} (ha:asV a=true) {c:List Int} (hc:c ∈ casesF a):CaseOk a c:=by
 have hn:=hz_named ha fun _=>false
 unfold casesF at hc
 rw [casesB_eq hn] at hc
 obtain ⟨hm,hp⟩:=List.mem_filter.1 hc
 obtain ⟨hl,hv⟩:=fulls_mem hm
 have hle:∀ t:Nat,t < 9->c.getD t 0<=(t:Int):=fun t ht=>by
  have:=hv t ht
  cases hh:hz a (fun _=>false) t with
  | true=>rw [hh] at this;simp only [cond_true,Bool.and_eq_true,decide_eq_true_eq] at this;exact this.2
  | false=>rw [hh] at this;simp only [cond_false,beq_iff_eq] at this;omega
 have hpv:=(possI_iff hn hm rfl).1 hp
 have hz0:cl c 0=0:=by
  have:=hv 0 (by decide)
  rw [show hz a (fun _=>false) 0=true from rfl] at this
  simp only [cond_true,Bool.and_eq_true,decide_eq_true_eq] at this
  unfold cl
  simp only [Int.toNat_zero]
  omega
 refine ⟨hl,fun t ht=>by unfold cl;simpa using hle t ht,?_,fun x hx=>?_⟩
 ·unfold SE.le8
  rw [List.all_eq_true]
  intro y hy
  obtain ⟨i,hi,rfl⟩:=List.getElem_of_mem hy
  have:=hle i (by omega)
  rw [List.getD_eq_getElem?_getD,List.getElem?_eq_getElem hi] at this
  simp only [Option.getD_some] at this
  simp;omega
 ·unfold fL at hx
  rw [List.mem_filter,List.mem_map] at hx
  obtain ⟨⟨y,hy,rfl⟩,hk⟩:=hx
  obtain ⟨a1,a2,a3,a4,a5,a6⟩:=hn.2 y hy
  have root:∀ t:Int,0<=t->t<=8->hz a (fun _=>false) t.toNat=true->∃ k:Nat,cl c t=(k:Int)/\k<=8/\c.getD k 0=(k:Int):=fun t t0 t8 th=>by
   obtain ⟨k,k1,k2,k3⟩:=fEn_root _ 9 0 (List.replicate 9 0) c rfl hm t.toNat (Nat.zero_le _) (by simp;omega) th
   exact ⟨k,k1,by omega,k3⟩
  obtain ⟨k,k1,k2,k3⟩:=root y.a a1 a2 a5
  obtain ⟨m,m1,m2,_⟩:=root y.b a3 a4 a6
  have hne:cl c y.a ≠ 0:=by
   have:=hpv.nil y (List.mem_filter.2 ⟨hy,hk⟩)
   rw [hz0] at this
   exact this
  simp only
  rw [k1,m1]
  have hk0:k ≠ 0:=fun e=>by rw [k1,e] at hne;exact hne rfl
  refine ⟨isT_iff.2 ⟨by omega,by omega⟩,isT_iff.2 ⟨by omega,by omega⟩,?_⟩
  have hpos:=mdV_pos c 8 (k - 1) (by omega) (Nat.le_refl _) (by
   unfold cl
   rw [show ((k - 1+1:Nat):Int)=(k:Int) by omega]
   simpa using k3)
  unfold tv
  rw [if_neg (by omega),show ((k:Int) - 1).toNat=k - 1 by omega]
  exact ⟨hpos.1,hpos.2⟩
def mdL (a:GAsn):GState:=cond (asV a && !(casesF a).isEmpty) (md a ((casesF a).headD (List.replicate 9 0))) ⟨[],[]⟩
theorem casesF_head {a:GAsn} {d:List Int} (h:(casesF a).isEmpty=false):(casesF a).headD d ∈ casesF a:=by
 cases hc:casesF a with
 | nil=>rw [hc] at h;cases h
 | cons c l=>simp
theorem casesF_hd {a:GAsn} {d e:List Int} (h:(casesF a).isEmpty=false):(casesF a).headD d=(casesF a).headD e:=by
 cases hc:casesF a with
 | nil=>rw [hc] at h;cases h
 | cons c l=>rfl
theorem tn1 (i:Nat):((i:Int)+1).toNat=i+1:=by omega
theorem tn2 (i:Nat):((i:Int)+1 - 1).toNat=i:=by omega
theorem len8 (c:List Int) (i:Nat):(mdV c i).1.length=8:=mdV_len c i
theorem mdV_eq {c:List Int} {i:Nat} (h:c.getD (i+1) 0=(i:Int)+1):mdV c (i+1)=((mdV c i).1.set i ((mdV c i).2+1),(mdV c i).2+1):=by
 have:(cl c ((i+1:Nat):Int) == ((i+1:Nat):Int))=true:=by
  unfold cl;rw [Int.toNat_natCast,h];simp
 simp only [mdV,this,cond_true]
theorem mdV_lt {c:List Int} {i:Nat} (h:¬ c.getD (i+1) 0=(i:Int)+1) (h2:0 < c.getD (i+1) 0):mdV c (i+1)=((mdV c i).1.set i ((mdV c i).1.getD (c.getD (i+1) 0 - 1).toNat 0),(mdV c i).2):=by
 have e1:(cl c ((i+1:Nat):Int) == ((i+1:Nat):Int))=false:=by
  unfold cl;rw [Int.toNat_natCast];exact beq_eq_false_iff_ne.2 h
 have e2:decide (0 < cl c ((i+1:Nat):Int))=true:=by
  unfold cl;rw [Int.toNat_natCast];exact decide_eq_true h2
 have e3:cl c ((i+1:Nat):Int)=c.getD (i+1) 0:=by unfold cl;rw [Int.toNat_natCast]
 simp only [mdV,e1,e2,cond_true,cond_false]
 rw [e3]
theorem mdV_no {c:List Int} {i:Nat} (h:¬ c.getD (i+1) 0=(i:Int)+1) (h2:¬ 0 < c.getD (i+1) 0):mdV c (i+1)=mdV c i:=by
 have e1:(cl c ((i+1:Nat):Int) == ((i+1:Nat):Int))=false:=by
  unfold cl;rw [Int.toNat_natCast];exact beq_eq_false_iff_ne.2 h
 have e2:decide (0 < cl c ((i+1:Nat):Int))=false:=by
  unfold cl;rw [Int.toNat_natCast];exact decide_eq_false h2
 simp only [mdV,e1,e2,cond_false]
theorem rep_set {i:Nat} (h:i < 8):(List.replicate i (-1:Int) ++ List.replicate (8 - i) 0).set i (-1)=List.replicate (i+1) (-1) ++ List.replicate (8 - (i+1)) 0:=by
 match i,h with
 | 0,_ | 1,_ | 2,_ | 3,_ | 4,_ | 5,_ | 6,_ | 7,_=>rfl
theorem rep_end {i:Nat} (h:¬ i < 8) (h2:i<=8):List.replicate i (-1:Int) ++ List.replicate (8 - i) 0=List.replicate 8 (-1):=by
 have:i=8:=by omega
 subst this;rfl
theorem md_idx {a:GAsn} {c:List Int} (h:CaseOk a c) {i:Nat} (hi:i < (fL c a.atoms).length):isT ((fL c a.atoms).getD i ⟨0,0,0⟩).a=true/\isT ((fL c a.atoms).getD i ⟨0,0,0⟩).b=true/\1<=tv (mdV c 8).1 ((fL c a.atoms).getD i ⟨0,0,0⟩).a/\tv (mdV c 8).1 ((fL c a.atoms).getD i ⟨0,0,0⟩).a<=8:=by
 refine h.idx _ ?_
 rw [List.getD_eq_getElem?_getD,List.getElem?_eq_getElem hi]
 exact List.getElem_mem hi
theorem le_get {a:GAsn} {c:List Int} (h:CaseOk a c) {t:Nat} (ht:t < 9):c.getD t 0<=(t:Int):=by
 have:=h.le t ht
 unfold cl at this
 simpa using this
theorem md_n1 {c:List Int} {i:Nat} (h:i<=8):-9223372036854775808<=(mdV c i).2+1+1/\(mdV c i).2+1+1<=9223372036854775807/\-9223372036854775808<=(mdV c i).2+1/\(mdV c i).2+1<=9223372036854775807:=by
 have:=mdV_n c i
 omega
theorem md_le {a:GAsn} {c:List Int} (h:CaseOk a c) {i:Nat} (hi:(i:Int)+1<=8):c.getD (i+1) 0 - 1<=9223372036854775807/\c.getD (i+1) 0 - 1 < ((8:Nat):Int):=by
 have:=le_get h (t:=i+1) (by omega)
 omega
theorem md_end {c:List Int} {i:Nat} (h:i<=8) (h2:¬ (i:Int)+1<=8):(mdV c i).1=(mdV c 8).1:=by
 have:i=8:=by omega
 rw [this]
theorem md_a {a:GAsn} {c:List Int} (h:CaseOk a c) {i:Nat} (hi:i < (fL c a.atoms).length):(isT ((fL c a.atoms).getD i ⟨0,0,0⟩).a=true/\isT ((fL c a.atoms).getD i ⟨0,0,0⟩).b=true)/\(-9223372036854775808<=tv (mdV c 8).1 ((fL c a.atoms).getD i ⟨0,0,0⟩).a - 1/\tv (mdV c 8).1 ((fL c a.atoms).getD i ⟨0,0,0⟩).a - 1<=9223372036854775807) /\
  0<=tv (mdV c 8).1 ((fL c a.atoms).getD i ⟨0,0,0⟩).a - 1/\tv (mdV c 8).1 ((fL c a.atoms).getD i ⟨0,0,0⟩).a - 1 < ((8:Nat):Int):=by
 have:=md_idx h hi
 exact ⟨⟨this.1,this.2.1⟩,by omega,by omega,by omega⟩
theorem md_gt {a:GAsn} {c:List Int} (h:CaseOk a c) {i:Nat} (hi:(i:Int)+1<=8) (h1:¬ c.getD (i+1) 0=(i:Int)+1) (h2:¬ c.getD (i+1) 0 < (i:Int)+1):False:=by
 have:=le_get h (t:=i+1) (by omega)
 omega
theorem mdL_no1 {a:GAsn} (h:asV a=false):(⟨[],[]⟩:GState)=mdL a:=by unfold mdL;rw [h];rfl
theorem mdL_no2 {a:GAsn} (h:(casesF a).isEmpty=true):(⟨[],[]⟩:GState)=mdL a:=by unfold mdL;rw [h];simp
theorem mdL_yes {a:GAsn} (ha:asV a=true) (h:(casesF a).isEmpty=false) (d:List Int):md a ((casesF a).headD d)=mdL a:=by
 unfold mdL;rw [ha,h,casesF_hd (d:=d) (e:=List.replicate 9 0) h];rfl
theorem head_ok {a:GAsn} (ha:asV a=true) (h:(casesF a).isEmpty=false) (d:List Int):CaseOk a ((casesF a).headD d):=caseOk ha (casesF_head h)
theorem mdL_len (a:GAsn):(mdL a).vals.length<=8/\(mdL a).heap.length<=8:=by
 unfold mdL
 cases asV a && !(casesF a).isEmpty with
 | false=>exact ⟨Nat.zero_le _,Nat.zero_le _⟩
 | true=>exact ⟨Nat.le_of_eq (mdV_len _ 8),Nat.le_of_eq (mdH_len _ _)⟩
end Go.SE

namespace Go.SE
open Go.RowKit
section
variable {fin:List Int->Bool} {a:GAsn} {tm:List Bool} {c:List Int} {t:Int} {i:Nat}
end
def bgn (l:List GAtom) (c:Int):Bool:=l.any fun x=>x.a == c
theorem bgn_yes {l:List GAtom} {c:Int} {i:Nat} {d:GAtom} (hi:i < l.length) (h:(l.getD i d).a=c):bgn l c=true:=by
 unfold bgn
 rw [List.any_eq_true]
 refine ⟨l.getD i d,?_,by simpa using h⟩
 rw [List.getD_eq_getElem?_getD,List.getElem?_eq_getElem hi];exact List.getElem_mem hi
theorem bgn_step {l:List GAtom} {c:Int} {i:Nat} {d:GAtom} (hi:i < l.length) (h:bgn (l.take i) c=false) (hn:¬ (l.getD i d).a=c):bgn (l.take (i+1)) c=false:=by
 have e:l.take (i+1)=l.take i ++ [l.getD i d]:=by
  rw [List.take_add_one,List.getD_eq_getElem?_getD,List.getElem?_eq_getElem hi];rfl
 unfold bgn at h ⊢
 rw [e,List.any_append,h]
 simpa using hn
theorem bgn_end {l:List GAtom} {c:Int} {i:Nat} (hi:¬ i < l.length) (h:bgn (l.take i) c=false):bgn l c=false:=by
 rw [List.take_of_length_le (by omega)] at h;exact h
section
variable {a:GAsn} {t:Int}
end
end Go.SE

namespace Go.SE
open Go.RowKit
structure CCon where
 k1:List AK
 t:Ty
 k2:List AK
 pre:Args k1->List t.den->Args k2->Prop
 out:Args k1->List t.den->Args k2->List t.den
section
variable {P:Program} {E:Ty->TypeId} {tab:TypeId->Option TI} {K:FuncId->Option Con} {pts:FuncId->Option PT} {hp:Nat->Bool} {perm:Nat->List (List Nat)}
abbrev CCon.lim (c:CCon) (mu:Args c.k1->List c.t.den->Args c.k2->Nat) (m:Nat):CCon:={ c with pre:=fun x l y=>c.pre x l y/\mu x l y < m }
end
end Go.SE

namespace Go.SE
open Go.RowKit
def six (a b c d e f:Bool):List Bool:=[a,b,c,d,e,f]
theorem six_eta {u:List Bool} (h:u.length=6):six (u.getD 0 false) (u.getD 1 false) (u.getD 2 false) (u.getD 3 false) (u.getD 4 false) (u.getD 5 false)=u:=by
 match u,h with
 | [_,_,_,_,_,_],_=>rfl
def sx6 (u:List Bool):List Bool:=six (u.getD 0 false) (u.getD 1 false) (u.getD 2 false) (u.getD 3 false) (u.getD 4 false) (u.getD 5 false)
theorem sx6_eta {u:List Bool} (h:u.length=6):sx6 u=u:=six_eta h
def usedAt (st:St) (id:Nat):List Bool :=
 match st.mem id with
 | some (.blk [_,.d (.val (.bool b0)),.d (.val (.bool b1)),.d (.val (.bool b2)),.d (.val (.bool b3)),.d (.val (.bool b4)),.d (.val (.bool b5)),_])=>six b0 b1 b2 b3 b4 b5
 | _=>[]
def numAt (st:St) (id:Nat):Int :=
 match st.mem id with
 | some (.blk [_,_,_,_,_,_,_,.d (.val (.int .i64 n))])=>n
 | _=>0
structure BCon where
 k2:List AK
 rks:List AK
 pre:List GAtom->List Bool->Int->Args k2->Prop
 used:List GAtom->List Bool->Int->Args k2->List Bool
 num:List GAtom->List Bool->Int->Args k2->Int
 val:List GAtom->List Bool->Int->Args k2->Args rks
def bmCells (c0:CV) (u:List Bool) (n:Int):List CV :=
 [c0,.d (.val (.bool (u.getD 0 false))),.d (.val (.bool (u.getD 1 false))),.d (.val (.bool (u.getD 2 false))),.d (.val (.bool (u.getD 3 false))),.d (.val (.bool (u.getD 4 false))),.d (.val (.bool (u.getD 5 false))),.d (.val (.int .i64 n))]
def ptBk (c:BCon) (id base:Nat) (st:St) (k:S->St->Prop) (c0:CV) (l:List GAtom) (u:List Bool) (n:Int) (ids:List Nat) (x2:Args c.k2):Prop :=
 st.sp id=false/\st.fr id=false/\notSpent st ids/\freeL st (rids c.rks base)/\c.pre l u n x2 /\
  k (pack1 (ress c.rks base (c.val l u n x2)).1) { st with mem:=upd (adds st.mem (ress c.rks base (c.val l u n x2)).2) id (some (.blk (bmCells c0 (c.used l u n x2) (c.num l u n x2)))) }
def ptB3 (c:BCon) (id base:Nat) (st:St) (k:S->St->Prop) (c0:CV) (u:List Bool) (n:Int):Option (List GAtom)->Option (List Nat)->Option (Args c.k2)->Prop
 | some l,some ids,some x2=>ptBk c id base st k c0 l u n ids x2
 | _,_,_=>False
def ptB2 (c:BCon) (id base:Nat) (st:St) (k:S->St->Prop) (rest:List S0):Option Res->Prop
 | some (.blk [c0,.d (.val (.bool b0)),.d (.val (.bool b1)),.d (.val (.bool b2)),.d (.val (.bool b3)),.d (.val (.bool b4)),.d (.val (.bool b5)),.d (.val (.int .i64 n))]) =>
  ptB3 c id base st k c0 (six b0 b1 b2 b3 b4 b5) n (rdl st.mem .atom (weak c0)) (ownsC st.mem (refsC c0 ++ refsAr rest)) (decs st.mem c.k2 rest)
 | _=>False
def ptB (c:BCon):PT:=fun args base st k=>match args with
 | .c (.ptr id 0) :: rest=>ptB2 c id base st k rest (st.mem id)
 | _=>False
section
variable {P:Program} {E:Ty->TypeId} {tab:TypeId->Option TI} {K:FuncId->Option Con} {pts:FuncId->Option PT} {hp:Nat->Bool} {perm:Nat->List (List Nat)}
def isoStB (c:BCon) (l:List GAtom) (u:List Bool) (n:Int) (x2:Args c.k2) (v:Value):St :=
 { env:=envOf (.c (.ptr 7 0) :: encs c.k2 x2) 0,mem:=upd (fun _=>none) 7 (some (.blk (bmCells (.d (.fix .atom l v)) u n))),sp:=fun _=>false,fr:=fun _=>false,base:=16,rd:=none }
def isBm (v:Value) (u:List Bool) (n:Int):Option Res->Prop
 | some (.blk [.d (.fix _ _ v'),.d (.val (.bool b0)),.d (.val (.bool b1)),.d (.val (.bool b2)),.d (.val (.bool b3)),.d (.val (.bool b4)),.d (.val (.bool b5)),.d (.val (.int .i64 n'))]) =>
  v'=v/\six b0 b1 b2 b3 b4 b5=u/\n'=n
 | _=>False
def noneL:List Nat->Prop
 | []=>True
 | _=>False
def retB (tab:TypeId->Option TI) (c:BCon) (rvs:List ResultVar) (l:List GAtom) (u:List Bool) (n:Int) (x2:Args c.k2) (v:Value):XK->St->Prop
 | .exit _,_=>False
 | _,st=>match loadsS tab st rvs with
  | none=>False
  | some ss=>match decRs st.mem c.rks ss with
   | none=>False
   | some (r,out,fz)=>r=c.val l u n x2/\allDiff out/\notFrozen st out/\noneL fz/\(st.sp 7=false/\st.fr 7=false)/\isBm v (c.used l u n x2) (c.num l u n x2) (st.mem 7)
theorem dr_val' {ro:Nat->Option (Array Value)} {x v:Value} (h:DR ro (.val x) v):v=x/\x.oneCell'=true:=by
 generalize hc:DC.val x=c at h
 cases h with
 | val y hy=>injection hc with hc;subst hc;exact ⟨rfl,hy⟩
 | nil=>cases hc
 | arr=>cases hc
 | fix=>cases hc
theorem dr_fix {ro:Nat->Option (Array Value)} {t:Ty} {xs:List t.den} {u v:Value} (h:DR ro (.fix t xs u) v):v=u:=by
 generalize hc:DC.fix t xs u=c at h
 cases h with
 | val y hy=>cases hc
 | nil=>cases hc
 | arr=>cases hc
 | fix t' xs' v' h'=>injection hc with h1 h2 h3;exact h3.symm
theorem iso_callB (ht:TabOk P E tab) (hKA:KAll P E K) (hPA:PAll P E pts) (hmix:P.follows .mixedOrders=true) (hdr:∀ w0 M n,DrawSound P E tab K w0 M n) {f:FuncId} {fn:Func} (hf:P.funcs[f]?=some fn) (hb:fn.body=some (bodyOf fn)) {c:BCon} (hn:c.k2.length+1<=fn.ntmps)
  (hok:codeOkP tab K hp perm fn.ntmps (bodyOf fn)=true) {anns:List GAtom->List Bool->Int->Args c.k2->Value->Nat->St->Option Ann}
  (hvc:∀ l u n x2 v,c.pre l u n x2->vcR tab K pts hp (anns l u n x2 v) perm [7] (bodyOf fn) (isoStB c l u n x2 v) (retB tab c fn.results.toList l u n x2 v))
  {w:World} {ro:Nat->Option (Array Value)} {ρ:Nat} {l:List GAtom} {u:List Bool} {n:Int} {x2:Args c.k2} (id0:Nat) (hpre:c.pre l u n x2) {b:Nat} {vs:Array Value} {ty:TypeId} {v0:Value} {vs2:List Value} (hin:ROin w ro) (h2:ArgsR (argG ro ρ) (encs c.k2 x2) vs2)
  (hbk:w.heap[b]?=some (.cells vs ty (0,0))) (hvs:Cells (argG ro ρ) (bmCells (.d (.fix .atom l v0)) u n) vs) (hrob:ro b=none) :
  Calls P f (.pointer (some ⟨b,0,none⟩) :: vs2).toArray w fun e w'=>∃ v gc vs' ty',e=.returned v/\Ext (fun b'=>b'=b) w w'/\gc.ρ=ρ/\ResOk E w w' ro c.rks id0 (c.val l u n x2) v gc/\w'.heap[b]?=some (.cells vs' ty' (0,0)) /\
   vs'=#[v0,.bool ((c.used l u n x2).getD 0 false),.bool ((c.used l u n x2).getD 1 false),.bool ((c.used l u n x2).getD 2 false),.bool ((c.used l u n x2).getD 3 false),.bool ((c.used l u n x2).getD 4 false),.bool ((c.used l u n x2).getD 5 false),.int .i64 (c.num l u n x2)] /\
   (∀ id q,(id,q) ∈ (ress c.rks id0 (c.val l u n x2)).2->blkOf (gc.κ id) ≠ some b):=by
 let M:MM:=⟨fun b'=>b'=b,ro,ρ,fun id=>if id=7 then some (.pointer (some ⟨b,0,none⟩)) else none,fun _=>none,ro⟩
 let g:G:={ ro,κ:=fun id=>if id=7 then .pointer (some ⟨b,0,none⟩) else undef,ln:=fun _=>0,ρ }
 have one:∀ id r,(isoStB c l u n x2 v0).mem id=some r->id=7/\r=.blk (bmCells (.d (.fix .atom l v0)) u n):=by
  intro id r h
  simp only [isoStB,upd] at h
  split at h
  ·rename_i e;injection h with h;exact ⟨e,h.symm⟩
  ·cases h
 have hκ:∀ b',blkOf (g.κ 7)=some b'->b'=b:=fun b' h=>by
  have h:some b=some b':=h
  injection h with h;exact h.symm
 have norefs:refsL (bmCells (.d (.fix .atom l v0)) u n)=[]:=rfl
 have hgood:Good E w M g (isoStB c l u n x2 v0) w:=by
  refine ⟨Ext.refl _ _,hin,?_,?_,?_,?_,(fun m hm=>by cases hm),(fun h=>(h rfl).elim),(fun b vs hb=>.inl hb),rfl,?_,⟨(fun _ _ h=>by cases h),fun b vs hb=>hb⟩⟩
  ·intro id r h
   obtain ⟨rfl,rfl⟩:=one id r h
   exact ⟨b,vs,ty,rfl,hbk,hvs.mono (g:=argG ro ρ) (g':=g) (fun _ _ h=>h) rfl fun id hid=>by rw [norefs] at hid;cases hid⟩
  ·intro i j r s hi hj hij
   exact (hij ((one i r hi).1.trans (one j s hj).1.symm)).elim
  ·intro id r h _ b' hb'
   rw [(one id r h).1] at hb'
   exact .inr (hκ b' hb')
  ·intro id r h _ b' hb' _ _
   rw [(one id r h).1] at hb'
   rw [hκ b' hb']
   exact hrob
  ·intro id q hq
   simp only [M] at hq
   split at hq
   ·rename_i e;subst e;injection hq with hq;subst hq;exact ⟨rfl,rfl⟩
   ·cases hq
 have hOO:OOk (dom [7]) M:=by
  have d7:∀ j,(dom [7] j).isSome=true ↔ j=7:=fun j=>by rw [dom_some];simp [inL]
  refine ⟨fun j r hj id hid=>?_,fun id hid=>?_,fun id hid=>?_⟩
  ·unfold dom at hj
   split at hj
   ·injection hj with hj;subst hj;simp [Res.refs] at hid
   ·cases hj
  ·refine (d7 id).2 ?_
   rcases hid with hid | hid
   ·have hid:(if id=7 then some (Value.pointer (some ⟨b,0,none⟩)) else none).isSome=true:=hid
    split at hid
    ·assumption
    ·cases hid
   ·cases hid
  ·have:=(d7 id).1 hid
   subst this
   rfl
 have hargs:∀ (j:Nat) (s:S0),(S0.c (.ptr 7 0) :: encs c.k2 x2)[j]?=some s->∃ u',(.pointer (some ⟨b,0,none⟩) :: vs2)[j]?=some u'/\s.R g u'/\∀ id ∈ s.refs,id=7:=by
  intro j s hj
  cases j with
  | zero =>
   simp at hj
   subst hj
   exact ⟨_,rfl,⟨b,rfl,rfl⟩,fun id hid=>by simpa [S0.refs,CV.refs] using hid⟩
  | succ i =>
   have hj:(encs c.k2 x2)[i]?=some s:=by simpa using hj
   obtain ⟨u',hu,hr⟩:=h2.2 i s hj
   have hrf:=encs_refs c.k2 x2 i s hj
   exact ⟨u',by simpa using hu,S0.R.mono (g:=argG ro ρ) (g':=g) (fun _ _ h=>h) rfl (fun id hid=>by rw [hrf] at hid;cases hid) hr,fun id hid=>by rw [hrf] at hid;cases hid⟩
 have hvl:(Value.pointer (some ⟨b,0,none⟩) :: vs2).length=(S0.c (.ptr 7 0) :: encs c.k2 x2).length:=by simp [h2.1]
 have hel:(S0.c (.ptr 7 0) :: encs c.k2 x2).length<=fn.ntmps:=by simp [encs_len];omega
 have hrel:Rel E w M fn.ntmps (isoStB c l u n x2 v0) { tmps:=(Value.pointer (some ⟨b,0,none⟩) :: vs2).toArray ++ Array.replicate (fn.ntmps - (Value.pointer (some ⟨b,0,none⟩) :: vs2).toArray.size) undef,defers:=[] } w:=by
  refine ⟨⟨?_,?_⟩,by simp at hvl hel ⊢;omega,rfl,g,hgood,?_⟩
  ·intro j id hid
   have e:(isoStB c l u n x2 v0).env j=envOf (.c (.ptr 7 0) :: encs c.k2 x2) 0 j:=rfl
   rw [e] at hid
   rcases envOf_cases (.c (.ptr 7 0) :: encs c.k2 x2) 0 j with h3 | ⟨i,s,h3,_,h5⟩
   ·rw [h3] at hid;simp [SE.junk,S.refs,S0.refs,CV.refs] at hid
   ·rw [h5] at hid
    obtain ⟨_,_,_,h6⟩:=hargs i s h3
    have:=h6 id hid
    subst this
    rfl
  ·intro j r h id hid
   obtain ⟨rfl,rfl⟩:=one j r h
   simp only [Res.refs,norefs] at hid
   cases hid
  ·intro j
   have e:(isoStB c l u n x2 v0).env j=envOf (.c (.ptr 7 0) :: encs c.k2 x2) 0 j:=rfl
   rw [e]
   rcases envOf_cases (.c (.ptr 7 0) :: encs c.k2 x2) 0 j with h3 | ⟨i,s,h3,h4,h5⟩
   ·rw [h3];trivial
   ·rw [h5]
    obtain ⟨u',hu,hr,_⟩:=hargs i s h3
    have hj:j=i:=by omega
    subst hj
    have hlt:j < (Value.pointer (some ⟨b,0,none⟩) :: vs2).length:=(List.getElem?_eq_some_iff.1 hu).1
    have:((Value.pointer (some ⟨b,0,none⟩) :: vs2).toArray ++ Array.replicate (fn.ntmps - (Value.pointer (some ⟨b,0,none⟩) :: vs2).toArray.size) undef).getD j undef=u':=by
     rw [Array.getD_eq_getD_getElem?,Array.getElem?_append_left (by simpa using hlt),List.getElem?_toArray,hu];rfl
    show S.R _ _ (((Value.pointer (some ⟨b,0,none⟩) :: vs2).toArray ++ Array.replicate (fn.ntmps - (Value.pointer (some ⟨b,0,none⟩) :: vs2).toArray.size) undef).getD j undef)
    rw [this]
    exact hr
 refine calls_of_wp hf hb ?_
 refine codeR_sound ht hKA hPA hmix (hdr _ _ _) hOO (bodyOf fn) _ _ _ _ _ hok hrel (hvc l u n x2 v0 hpre) ?_
 intro xk st' a' w' hr hk
 have fin:retB tab c fn.results.toList l u n x2 v0 .ret st'->a'.defers=[]/\∃ q,(results fn a'.tmps).run P w'=.ok q w'/\∃ v gc vs' ty',Ending.returned q=.returned v/\Ext (fun b'=>b'=b) w w'/\gc.ρ=ρ/\ResOk E w w' ro c.rks id0 (c.val l u n x2) v gc/\w'.heap[b]?=some (.cells vs' ty' (0,0)) /\
   vs'=#[v0,.bool ((c.used l u n x2).getD 0 false),.bool ((c.used l u n x2).getD 1 false),.bool ((c.used l u n x2).getD 2 false),.bool ((c.used l u n x2).getD 3 false),.bool ((c.used l u n x2).getD 4 false),.bool ((c.used l u n x2).getD 5 false),.int .i64 (c.num l u n x2)] /\
   (∀ id q,(id,q) ∈ (ress c.rks id0 (c.val l u n x2)).2->blkOf (gc.κ id) ≠ some b):=by
  intro hk
  unfold retB at hk
  simp only at hk
  split at hk
  ·exact hk.elim
  ·rename_i ss hss
   split at hk
   ·exact hk.elim
   ·rename_i r out fz hdec
    obtain ⟨hval,hdiff,hnf,hfz,⟨hs7,hf7⟩,hbm⟩:=hk
    subst hval
    obtain ⟨ge,hge,henv⟩:=hr.good
    obtain ⟨us,hrun,hargs',_⟩:=loads_run (P:=P) ht hge henv hr.cl hss
    have hfz0:fz=[]:=by cases fz with | nil=>rfl | cons _ _=>exact hfz.elim
    subst hfz0
    have hρ:ge.ρ=ρ:=hge.rho
    -- the block
    unfold isBm at hbm
    split at hbm
    ·rename_i t7 l7 v7 b0 b1 b2 b3 b4 b5 n7 hm7
     obtain ⟨rfl,hu7,rfl⟩:=hbm
     have hp7:ge.κ 7=.pointer (some ⟨b,0,none⟩):=(hge.pin 7 _ rfl).2
     obtain ⟨bb,vs',ty',hκ7,hheap,hcells⟩:=hge.res 7 _ hm7
     rw [hp7] at hκ7
     injection hκ7 with hκ7
     injection hκ7 with hκ7
     injection hκ7 with hbb
     subst hbb
     have hblk7:blkOf (ge.κ 7)=some b:=by rw [hp7];rfl
     have hro7:ge.ro b=none:=hge.wro 7 _ hm7 trivial b hblk7 hs7 hf7
     let mp:=resMap c.rks id0 ss
     let gc:G:={ ro:=ge.ro,κ:=fun i=>match lookM mp i with | some old=>ge.κ old | none=>.slice none 0 0,ln:=fun i=>match lookM mp i with | some old=>ge.ln old | none=>0,ρ:=ge.ρ }
     have hlook:∀ i src,(i,src) ∈ mp->lookM mp i=src:=fun i src hi=>lookM_of (resMap_nodup _ _ _) hi
     obtain ⟨a1,a2,a3,_⟩:=decRs_R (g:=ge) (g':=gc) (id0:=id0) (fun b vs hb=>hb) rfl hdec hargs' (fun id hid=>by cases hid)
      (fun i src hi=>⟨fun old ho=>by simp [gc,hlook i src hi,ho],fun ho=>by simp [gc,hlook i src hi,ho]⟩)
     have hnd:(mp.filterMap (·.2)).Nodup:=by rw [← a2];exact allDiff_nodup hdiff
     have hout:∀ i old,(i,some old) ∈ mp->old ∈ out:=fun i old hi=>by rw [a2];exact List.mem_filterMap.2 ⟨(i,some old),hi,rfl⟩
     have key:∀ (l:List S0) (vs:List Value),ArgsR gc l vs->(pack1 l).R gc (match vs with | [v]=>v | vs=>.tuple vs.toArray):=by
      intro l vs h
      have:=pack1_R h
      rcases vs with _ | ⟨v,_ | ⟨u,l⟩⟩ <;> exact this
     have key2:∀ (vs:List Value),(fn.results.toList.mapM (rvRead a'.tmps)).run P w'=.ok vs w'->(results fn a'.tmps).run P w'=.ok (match vs with | [v]=>v | vs=>.tuple vs.toArray) w':=by
      intro vs h
      have:=results_run h
      rcases vs with _ | ⟨v,_ | ⟨u,l⟩⟩ <;> exact this
     have hnot7:∀ old f t xs,st'.mem old=some (.sl f t xs)->blkOf (ge.κ old) ≠ some b:=by
      intro old f t xs hm hb'
      have hne:old ≠ 7:=fun e=>by subst e;rw [hm7] at hm;cases hm
      obtain ⟨_,_,_,_,_,h,_⟩:=hge.sep old 7 _ _ hm hm7 hne trivial trivial b hb' hblk7
      cases h
     refine ⟨hr.defers,_,key2 _ hrun,_,gc,vs',ty',rfl,hge.ext,hρ,?_,hheap,?_,?_⟩
     ·refine ⟨hge.keep.2,?_,key _ _ a1,?_,?_,?_⟩
      ·intro b' vs hb'
       rcases hge.roo b' vs hb' with h1 | h1 | h1
       ·exact .inl h1
       ·exact .inr ⟨h1,hge.ro b' vs hb'⟩
       ·have h1:b'=b:=h1
        subst h1
        have hb':ge.ro b'=some vs:=hb'
        rw [hro7] at hb';cases hb'
      ·intro id q hq
       obtain ⟨src,t,xs,h1,h2,h3,h4⟩:=a3 id q hq
       subst h2
       cases src with
       | none =>
        have:=h4 rfl
        subst this
        exact ⟨by simp [gc,hlook id none h1],.inl ⟨by simp [gc,hlook id none h1],rfl⟩⟩
       | some old =>
        obtain ⟨f,hm⟩:=h3 old rfl
        obtain ⟨hl,hres⟩:=hge.res _ _ hm
        have e1:gc.κ id=ge.κ old:=by simp [gc,hlook id _ h1]
        have e2:gc.ln id=ge.ln old:=by simp [gc,hlook id _ h1]
        refine ⟨by rw [e2];exact hl,?_⟩
        rw [e1]
        exact hres
      ·intro id q hq b' hb'
       obtain ⟨src,t,xs,h1,h2,h3,h4⟩:=a3 id q hq
       cases src with
       | none =>
        have e:gc.κ id=.slice none 0 0:=by simp [gc,hlook id none h1]
        rw [e] at hb';simp [blkOf] at hb'
       | some old =>
        obtain ⟨f,hm⟩:=h3 old rfl
        have e1:gc.κ id=ge.κ old:=by simp [gc,hlook id _ h1]
        rw [e1] at hb'
        obtain ⟨s1,s2⟩:=notFrozen_mem hnf old (hout id old h1)
        refine ⟨?_,hge.wro old _ hm trivial b' hb' s1 s2⟩
        rcases hge.fresh old _ hm trivial b' hb' with h5 | h5
        ·exact h5
        ·have h5:b'=b:=h5
         subst h5
         exact (hnot7 old _ _ _ hm hb').elim
      ·intro i q j s hi hj hij b' hbi hbj
       obtain ⟨src,t,xs,h1,h2,h3,h4⟩:=a3 i q hi
       obtain ⟨src',t',xs',k1,k2,k3,k4⟩:=a3 j s hj
       cases src with
       | none =>
        have e:gc.κ i=.slice none 0 0:=by simp [gc,hlook i none h1]
        rw [e] at hbi;simp [blkOf] at hbi
       | some oi =>
        cases src' with
        | none =>
         have e:gc.κ j=.slice none 0 0:=by simp [gc,hlook j none k1]
         rw [e] at hbj;simp [blkOf] at hbj
        | some oj =>
         obtain ⟨f,hm⟩:=h3 oi rfl
         obtain ⟨f',hm'⟩:=k3 oj rfl
         have e1:gc.κ i=ge.κ oi:=by simp [gc,hlook i _ h1]
         have e2:gc.κ j=ge.κ oj:=by simp [gc,hlook j _ k1]
         rw [e1] at hbi
         rw [e2] at hbj
         have hne:oi ≠ oj:=fun e=>by
          subst e
          exact hij (resMap_diff hnd h1 k1)
         obtain ⟨_,_,_,_,_,_,h7⟩:=hge.sep oi oj _ _ hm hm' hne trivial trivial b' hbi hbj
         have h8:=(h7 (notFrozen_mem hnf oi (hout i oi h1)).1).1
         rw [(notFrozen_mem hnf oj (hout j oj k1)).1] at h8
         cases h8
     ·obtain ⟨hsz,hc⟩:=hcells
      have get:∀ (j:Nat) (x:Value),([CV.d (.fix t7 l7 v7),.d (.val (.bool b0)),.d (.val (.bool b1)),.d (.val (.bool b2)),.d (.val (.bool b3)),.d (.val (.bool b4)),.d (.val (.bool b5)),.d (.val (.int .i64 (c.num l u n x2)))]:List CV)[j]?=some (.d (.val x))->vs'[j]?=some x:=by
       intro j x hj
       obtain ⟨y,hy,hR⟩:=hc j _ hj
       rw [hy,(dr_val' hR).1]
      have e0:vs'[0]?=some v7:=by
       obtain ⟨y,hy,hR⟩:=hc 0 _ rfl
       rw [hy,dr_fix hR]
      have e1:=get 1 _ rfl
      have e2:=get 2 _ rfl
      have e3:=get 3 _ rfl
      have e4:=get 4 _ rfl
      have e5:=get 5 _ rfl
      have e6:=get 6 _ rfl
      have e7:=get 7 _ rfl
      rw [← hu7]
      have hsz8:vs'.size=8:=hsz
      apply Array.ext
      ·rw [hsz8];rfl
      ·intro i h1 h2
       have:vs'[i]?=some vs'[i]:=Array.getElem?_eq_getElem h1
       match i,h1,this with
       | 0,_,h=>rw [e0] at h;injection h with h;rw [← h];rfl
       | 1,_,h=>rw [e1] at h;injection h with h;rw [← h];rfl
       | 2,_,h=>rw [e2] at h;injection h with h;rw [← h];rfl
       | 3,_,h=>rw [e3] at h;injection h with h;rw [← h];rfl
       | 4,_,h=>rw [e4] at h;injection h with h;rw [← h];rfl
       | 5,_,h=>rw [e5] at h;injection h with h;rw [← h];rfl
       | 6,_,h=>rw [e6] at h;injection h with h;rw [← h];rfl
       | 7,_,h=>rw [e7] at h;injection h with h;rw [← h];rfl
       | i+8,h,_=>omega
     ·intro id q hq hb'
      obtain ⟨src,t,xs,h1,h2,h3,h4⟩:=a3 id q hq
      cases src with
      | none =>
       have e:gc.κ id=.slice none 0 0:=by simp [gc,hlook id none h1]
       rw [e] at hb';simp [blkOf] at hb'
      | some old =>
       obtain ⟨f,hm⟩:=h3 old rfl
       have e1:gc.κ id=ge.κ old:=by simp [gc,hlook id _ h1]
       rw [e1] at hb'
       exact hnot7 old _ _ _ hm hb'
    ·exact hbm.elim
 cases xk with
 | normal=>exact fin hk
 | ret=>exact fin hk
 | exit id=>exact hk.elim
theorem cells8 {g:G} {c0:CV} {b0 b1 b2 b3 b4 b5:Bool} {n:Int} {vs:Array Value} (h:Cells g [c0,.d (.val (.bool b0)),.d (.val (.bool b1)),.d (.val (.bool b2)),.d (.val (.bool b3)),.d (.val (.bool b4)),.d (.val (.bool b5)),.d (.val (.int .i64 n))] vs) {g':G} {c0':CV} (h0:∀ v,vs[0]?=some v->c0.R g v->c0'.R g' v) :
  Cells g' (bmCells c0' (six b0 b1 b2 b3 b4 b5) n) vs:=by
 obtain ⟨hsz,hc⟩:=h
 refine ⟨hsz,fun j c hj=>?_⟩
 have sc:∀ x:Value,([c0,.d (.val (.bool b0)),.d (.val (.bool b1)),.d (.val (.bool b2)),.d (.val (.bool b3)),.d (.val (.bool b4)),.d (.val (.bool b5)),.d (.val (.int .i64 n))]:List CV)[j]?=some (.d (.val x))->∃ u,vs[j]?=some u/\(CV.d (.val x)).R g' u:=by
  intro x hx
  obtain ⟨u,hu,hR⟩:=hc j _ hx
  obtain ⟨rfl,ho⟩:=dr_val' hR
  exact ⟨_,hu,.val _ ho⟩
 match j,hj with
 | 0,hj =>
  obtain ⟨u,hu,hR⟩:=hc 0 _ rfl
  injection hj with hj
  subst hj
  exact ⟨u,hu,h0 u hu hR⟩
 | 1,hj=>injection hj with hj;subst hj;exact sc _ rfl
 | 2,hj=>injection hj with hj;subst hj;exact sc _ rfl
 | 3,hj=>injection hj with hj;subst hj;exact sc _ rfl
 | 4,hj=>injection hj with hj;subst hj;exact sc _ rfl
 | 5,hj=>injection hj with hj;subst hj;exact sc _ rfl
 | 6,hj=>injection hj with hj;subst hj;exact sc _ rfl
 | 7,hj=>injection hj with hj;subst hj;exact sc _ rfl
 | j+8,hj=>simp [bmCells] at hj
theorem weak_refs' {c:CV} {i:Nat} (h:i ∈ (weak c).refs):i ∈ c.refs:=by
 unfold weak at h
 split at h
 ·cases h
 ·exact h
theorem ptB_ok (ht : TabOk P E tab) (hKA : KAll P E K) (hPA : PAll P E pts) (hmix : P.follows .mixedOrders = true) (hdr : ∀ w0 M n, DrawSound P E tab K w0 M n) {f : FuncId} {fn : Func} (hf : P.funcs[f]? = some fn) (hb : fn.body = some (bodyOf fn)) (hname : (fn.name == "runtime.NumGoroutine") = false) {c : BCon} (hflat : nested c.rks = false) (hn : c.k2.length + 1 <= fn.ntmps)
  (hok:codeOkP tab K hp perm fn.ntmps (bodyOf fn)=true) {anns:List GAtom->List Bool->Int->Args c.k2->Value->Nat->St->Option Ann}
  (hvc:∀ l u n x2 v,c.pre l u n x2->vcR tab K pts hp (anns l u n x2 v) perm [7] (bodyOf fn) (isoStB c l u n x2 v) (retB tab c fn.results.toList l u n x2 v)):PTOk P E f (ptB c):=by
 refine ⟨⟨fn,_,hf,hname,hb⟩,?_⟩
 intro w0 M g st w args vs base k hg hcl hrefs hargs hv
 unfold ptB at hv
 split at hv
 ·rename_i id rest
  unfold ptB2 at hv
  split at hv
  ·rename_i c0 b0 b1 b2 b3 b4 b5 n hm
   unfold ptB3 at hv
   split at hv
   ·rename_i l ids x2 hl hids hx2
    obtain ⟨hsp,hfr,hns,hfree,hpre,hk⟩:=hv
    rw [refsC_eq,refsAr_eq] at hids
    obtain ⟨rfl,hsl⟩:=ownsC_mem hids
    obtain ⟨ro',hro,hdr',hg1⟩:=hg.freeze (c0.refs ++ refsT rest) fun i hi=>⟨notSpent_mem hns i hi,hsl i hi⟩
    have hlent:∀ i ∈ c0.refs ++ refsT rest,Lent st.mem g.κ ro' i:=by
     intro i hi
     refine ⟨fun f t xs hmm=>hdr' i hi f t xs hmm,fun t xs hmm=>?_⟩
     obtain ⟨f,t',xs',hm'⟩:=hsl i hi
     rw [hmm] at hm';cases hm'
    have hidn:id ∉ c0.refs ++ refsT rest:=fun hi=>by
     obtain ⟨f,t',xs',hm'⟩:=hsl id hi
     rw [hm] at hm';cases hm'
    obtain ⟨b,cur,ty,hκ,hheap,hcells⟩:=hg.res id _ hm
    have hblk:blkOf (g.κ id)=some b:=by rw [hκ];rfl
    have hblt:b < w.heap.size:=lt_of_some hheap
    have hrob:ro' b=none:=hg1.wro id _ hm trivial b hblk hsp (by
     show sets st.fr _ id=false
     rw [sets_get,hfr]
     simp [hidn])
    have hgrob:g.ro b=none:=hg.wro id _ hm trivial b hblk hsp hfr
    -- the arguments
    obtain ⟨p0,hp0,hp0R⟩:=hargs.2 0 _ rfl
    have hvl:=hargs.1
    obtain ⟨vs2,rfl⟩:∃ vs2,vs=.pointer (some ⟨b,0,none⟩) :: vs2:=by
     cases vs with
     | nil=>simp at hp0
     | cons q vs2 =>
      simp at hp0
      subst hp0
      obtain ⟨b',h1,h2⟩:=hp0R
      rw [hκ] at h1
      injection h1 with h1;injection h1 with h1;injection h1 with h1
      subst h1
      exact ⟨vs2,by rw [h2]⟩
    have hA2:ArgsR g rest vs2:=⟨by simpa using hvl,fun j s hj=>by simpa using hargs.2 (j+1) s (by simpa using hj)⟩
    have hB2:=decs_R (ro':=ro') hro hx2 hA2 fun i hi=>hlent i (List.mem_append_right _ hi)
    obtain ⟨v0,hv0,hv0R⟩:=hcells.2 0 _ rfl
    have hd0:DR ro' (.arr .atom l) v0:=by
     refine rdl_DR hro hl (c:=weak c0) (v:=v0) ?_ fun i hi=>hlent i (List.mem_append_left _ ?_)
     ·exact weak_R hv0R
     ·exact weak_refs' hi
    have hCe:Cells (argG ro' g.ρ) (bmCells (.d (.fix .atom l v0)) (six b0 b1 b2 b3 b4 b5) n) cur :=
     cells8 hcells fun v hv _=>by
      rw [hv0] at hv
      injection hv with hv
      subst hv
      exact .fix .atom l v0 hd0
    refine Calls.mono (iso_callB ht hKA hPA hmix hdr hf hb hn hok hvc (ρ:=g.ρ) base hpre hg1.ro hB2 hheap hCe hrob) fun e w' he=>?_
    obtain ⟨v,gc,vs',ty',rfl,hext,hρc,hres,hheap',hvs',hnb⟩:=he
    obtain ⟨R,hR⟩:∃ R,R=(ress c.rks base (c.val l (six b0 b1 b2 b3 b4 b5) n x2)).2:=⟨_,rfl⟩
    rw [← hR] at hk
    have hfr0:∀ id q,(id,q) ∈ R->st.mem id=none:=fun i q hq=>by rw [hR] at hq;exact allFree_mem (freeL_ress _ _ _ hfree) (i,q) hq
    have hRres:∀ id q,(id,q) ∈ R->ResR E w' gc id q:=fun i q hq=>hres.res i q (by rw [← hR];exact hq)
    have hRnew:∀ id q,(id,q) ∈ R->∀ b',blkOf (gc.κ id)=some b'->w.heap.size<=b'/\gc.ro b'=none:=fun i q hq=>hres.new i q (by rw [← hR];exact hq)
    have hRdist:∀ i q j s,(i,q) ∈ R->(j,s) ∈ R->i ≠ j->∀ b',blkOf (gc.κ i)=some b'->blkOf (gc.κ j)=some b'->False:=fun i q j s hi hj=>hres.dist i q j s (by rw [← hR];exact hi) (by rw [← hR];exact hj)
    have hRsl:∀ id q,(id,q) ∈ R->∃ f t xs,q=.sl f t xs/\t.flat=true:=fun i q hq=>by rw [hR] at hq;exact ress_flat _ _ _ hflat i q hq
    have hidR:∀ p ∈ R,p.1 ≠ id:=fun p hp e=>by
     have:=hfr0 p.1 p.2 hp
     rw [e,hm] at this;cases this
    -- the world before the block was changed
    obtain ⟨w1,hw1⟩:∃ w1:World,w1={ w' with heap:=w'.heap.setIfInBounds b (.cells cur ty (0,0)) }:=⟨_,rfl⟩
    have hlt':b < w'.heap.size:=lt_of_some hheap'
    have hw1s:w1.heap.size=w'.heap.size:=by rw [hw1];simp
    have hw1b:w1.heap[b]?=some (.cells cur ty (0,0)):=by rw [hw1];simp [hlt']
    have hw1o:∀ b',b' ≠ b->w1.heap[b']?=w'.heap[b']?:=fun b' h=>by rw [hw1];exact Array.getElem?_setIfInBounds_ne (Ne.symm h)
    have hold:∀ b',b' < w.heap.size->w1.heap[b']?=w.heap[b']?:=fun b' hb'=>by
     by_cases e:b'=b
     ·subst e;rw [hw1b,hheap]
     ·rw [hw1o b' e];exact hext.block b' hb' e
    obtain ⟨g2,hg2⟩:∃ g2:G,g2={ ro:=g.ro,κ:=fun j=>if (st.mem j).isSome then g.κ j else gc.κ j,ln:=fun j=>if (st.mem j).isSome then g.ln j else gc.ln j,ρ:=g.ρ }:=⟨_,rfl⟩
    have κn:∀ id q,(id,q) ∈ R->g2.κ id=gc.κ id/\g2.ln id=gc.ln id:=fun i q hq=>by rw [hg2];simp [hfr0 i q hq]
    have κo:∀ id,(st.mem id).isSome=true->g2.κ id=g.κ id/\g2.ln id=g.ln id:=fun i hi=>by rw [hg2];simp [hi]
    have hro2:g2.ro=g.ro:=by rw [hg2]
    have hρ2:g2.ρ=g.ρ:=by rw [hg2]
    have hresW:∀ (w2:World) id q,(∀ b',w.heap.size<=b'->w2.heap[b']?=w'.heap[b']?)->(id,q) ∈ R->ResR E w2 g2 id q:=by
     intro w2 i q hw2 hq
     obtain ⟨f,t,xs,rfl,hflat'⟩:=hRsl i q hq
     obtain ⟨h1,h2⟩:=hRres _ _ hq
     refine ⟨by rw [(κn _ _ hq).2];exact h1,?_⟩
     rw [(κn _ _ hq).1]
     rcases h2 with h2 | ⟨b',cap,cur',h3,h4,h5,h6,h7,h8⟩
     ·exact .inl h2
     ·refine .inr ⟨b',cap,cur',h3,?_,h5,h6,h7,RowR.flat_any hflat' h8⟩
      rw [hw2 b' (hRnew _ _ hq b' (by rw [h3];rfl)).1]
      exact h4
    have hge:∀ b',w.heap.size<=b'->w1.heap[b']?=w'.heap[b']?:=fun b' hb'=>hw1o b' (by omega)
    have hGood1:Good E w0 M g2 { st with mem:=adds st.mem R } w1:=by
     have hgj:Good E w0 M g { st with env:=fun _=>SE.junk } w:=hg.env rfl rfl rfl rfl
     refine Good.env (st:={ st with env:=fun _=>SE.junk,mem:=adds st.mem R }) ?_ rfl rfl rfl rfl
     refine hgj.extend ⟨fun x id hid=>(by simp [SE.junk,S.refs,S0.refs,CV.refs] at hid),hcl⟩ R ?_ hold (fun b' vs hb'=>by rw [hro2];exact hb') (fun b' vs hb'=>.inl (by rw [hro2] at hb';exact hb')) κo hρ2 (fun p hp=>hfr0 p.1 p.2 hp) (fun i q hq=>hresW w1 i q hge hq) ?_ ?_
     ·refine ⟨?_,?_,?_,by rw [hw1s];exact Nat.le_trans hg.ext.size hext.size,fun b' hb' hM=>?_⟩
      ·rw [hw1];exact hext.os.trans hg.ext.os
      ·rw [hw1];exact hext.tape.trans hg.ext.tape
      ·rw [hw1];exact hext.output.trans hg.ext.output
      ·rw [hold b' (Nat.lt_of_lt_of_le hb' hg.ext.size)]
       exact hg.ext.block b' hb' hM
     ·intro i q hq _ b' hb'
      rw [(κn i q hq).1] at hb'
      refine ⟨(hRnew i q hq b' hb').1,?_⟩
      rw [hro2]
      cases hr:g.ro b' with
      | none=>rfl
      | some vs =>
       obtain ⟨_,_,hh⟩:=hg.ro b' vs hr
       have:=lt_of_some hh
       have:=(hRnew i q hq b' hb').1
       omega
     ·intro i q j s hi hj hij b' hbi hbj
      rw [(κn i q hi).1] at hbi
      rw [(κn j s hj).1] at hbj
      exact hRdist i q j s hi hj hij b' hbi hbj
    have hm1:adds st.mem R id=some (.blk [c0,.d (.val (.bool b0)),.d (.val (.bool b1)),.d (.val (.bool b2)),.d (.val (.bool b3)),.d (.val (.bool b4)),.d (.val (.bool b5)),.d (.val (.int .i64 n))]):=by
     rw [adds_old hidR];exact hm
    have hblk2:blkOf (g2.κ id)=some b:=by rw [(κo id (by rw [hm];rfl)).1];exact hblk
    have hGood2:Good E w0 M g2 { st with mem:=upd (adds st.mem R) id (some (.blk (bmCells c0 (c.used l (six b0 b1 b2 b3 b4 b5) n x2) (c.num l (six b0 b1 b2 b3 b4 b5) n x2)))) } w':=by
     refine Good.write' hGood1 (id:=id) (b:=b) (r':=.blk (bmCells c0 (c.used l (six b0 b1 b2 b3 b4 b5) n x2) (c.num l (six b0 b1 b2 b3 b4 b5) n x2))) hm1 trivial (.inl hblk2) ?_ ?_ (by rw [hro2];exact hgrob) (by rw [hw1]) (by rw [hw1]) (by rw [hw1]) (by rw [hw1s];exact Nat.le_refl _) (fun b' _ hne=>(hw1o b' hne).symm) ?_ fun j hj=>upd_dom hj
     ·intro j s hs
      rcases upd_cases hs with h | ⟨h1,h2⟩
      ·exact .inl h
      ·exact .inr ⟨h1,.inl h2⟩
     ·intro j s hj hs hl'
      rcases upd_cases hs with ⟨h,_⟩ | ⟨_,h2⟩
      ·exact (hj h).elim
      ·exact alone hGood1 hm1 trivial (fun _ _ _ h=>by cases h) hblk2 j s hj h2 hl'
     ·refine ⟨b,vs',ty',by rw [(κo id (by rw [hm];rfl)).1];exact hκ,hheap',?_⟩
      rw [hvs']
      refine ⟨rfl,fun j c' hj=>?_⟩
      match j,hj with
      | 0,hj =>
       injection hj with hj
       subst hj
       refine ⟨v0,rfl,CV.R.mono (g:=g) (g':=g2) (fun b' vs hb'=>by rw [hro2];exact hb') hρ2 (fun i hi=>κo i (hcl id _ hm i ?_)) hv0R⟩
       simp [Res.refs,refsL,hi]
      | 1,hj=>injection hj with hj;subst hj;exact ⟨_,rfl,.val _ rfl⟩
      | 2,hj=>injection hj with hj;subst hj;exact ⟨_,rfl,.val _ rfl⟩
      | 3,hj=>injection hj with hj;subst hj;exact ⟨_,rfl,.val _ rfl⟩
      | 4,hj=>injection hj with hj;subst hj;exact ⟨_,rfl,.val _ rfl⟩
      | 5,hj=>injection hj with hj;subst hj;exact ⟨_,rfl,.val _ rfl⟩
      | 6,hj=>injection hj with hj;subst hj;exact ⟨_,rfl,.val _ rfl⟩
      | 7,hj=>injection hj with hj;subst hj;exact ⟨_,rfl,.val _ rfl⟩
      | j+8,hj=>simp [bmCells] at hj
    refine ⟨v,_,_,g2,rfl,hk,hGood2,?_,?_,?_,fun i hi=>⟨upd_dom (adds_isSome hi),κo i hi⟩,fun b' vs hb'=>by rw [hro2];exact hb',hρ2⟩
    ·refine pack1_any (ress_any (g:=gc) (g':=g2) (by rw [hρ2,hρc]) c.rks base _ hflat fun i hi=>?_) hres.val
     obtain ⟨q,hq⟩:=ress_refs _ _ _ i hi
     exact κn i q (by rw [hR];exact hq)
    ·intro i hi
     obtain ⟨q,hq⟩:=ress_refs _ _ _ i (pack1_refs _ i hi)
     exact upd_dom (adds_new (r:=q) (by rw [hR];exact hq))
    ·intro j r hj i hi
     refine upd_dom ?_
     rcases upd_cases hj with ⟨_,h⟩ | ⟨_,h⟩
     ·subst h
      have hi:i ∈ c0.refs:=by simpa [Res.refs,bmCells,refsL,CV.refs] using hi
      exact adds_isSome (hcl id _ hm i (by simp [Res.refs,refsL,hi]))
     ·rcases adds_cases h with h | h
      ·obtain ⟨f,t,xs,rfl,_⟩:=hRsl j r h
       simp [Res.refs] at hi
      ·exact adds_isSome (hcl j r h i hi)
   ·exact hv.elim
  ·exact hv.elim
 ·exact hv.elim
theorem blk_ok {l : List (FuncId × Con)} {lp : List (FuncId × PT)} (ht : TabOk P E tab) (hmix : P.follows .mixedOrders = true) (hl : AllOk P E l) (hlp : AllPt P E lp) {f : FuncId} {fn : Func} (hf : P.funcs[f]? = some fn) (hb : fn.body = some (bodyOf fn)) (hname : (fn.name == "runtime.NumGoroutine") = false) {c : BCon} (hflat : nested c.rks = false) (hn : c.k2.length + 1 <= fn.ntmps)
  (hok:codeOkP tab (lookF l) hp perm fn.ntmps (bodyOf fn)=true) {anns:List GAtom->List Bool->Int->Args c.k2->Value->Nat->St->Option Ann}
  (hvc:∀ l' u n x2 v,c.pre l' u n x2->vcR tab (lookF l) (lookP lp) hp (anns l' u n x2 v) perm [7] (bodyOf fn) (isoStB c l' u n x2 v) (retB tab c fn.results.toList l' u n x2 v)):PTOk P E f (ptB c) :=
 ptB_ok ht (kall_of hl) (pall_of hlp) hmix (fun _ _ _=>draw_sound ht (tab_small ht) (kall_of hl) hmix _ _ _) hf hb hname hflat hn hok hvc
end
end Go.SE

namespace Go.SE
open Go.RowKit
abbrev nA:GAtom:=⟨0,0,0⟩
def cnt (u:List Bool):Int:=((u.filter id).length:Nat)
def uaP (l:List GAtom) (u:List Bool) (k:Int) (i:Nat):Bool:=(l.getD i nA).a == k && !u.getD i false
def uaO (l:List GAtom) (u:List Bool) (k:Int):Option Nat:=(List.range l.length).find? (uaP l u k)
def uaI (l:List GAtom) (u:List Bool) (k:Int):Int:=(((uaO l u k).getD 0:Nat):Int)
def uaB (l:List GAtom) (u:List Bool) (k:Int):Bool:=(uaO l u k).isSome
def uaN (l:List GAtom) (u:List Bool) (k:Int) (i:Nat):Bool:=(List.range i).all fun j=>!uaP l u k j
theorem sx {u:List Bool} (h:u.length=6):six true (u.getD 1 false) (u.getD 2 false) (u.getD 3 false) (u.getD 4 false) (u.getD 5 false)=u.set 0 true/\six (u.getD 0 false) true (u.getD 2 false) (u.getD 3 false) (u.getD 4 false) (u.getD 5 false)=u.set 1 true/\six (u.getD 0 false) (u.getD 1 false) true (u.getD 3 false) (u.getD 4 false) (u.getD 5 false)=u.set 2 true/\six (u.getD 0 false) (u.getD 1 false) (u.getD 2 false) true (u.getD 4 false) (u.getD 5 false)=u.set 3 true/\six (u.getD 0 false) (u.getD 1 false) (u.getD 2 false) (u.getD 3 false) true (u.getD 5 false)=u.set 4 true/\six (u.getD 0 false) (u.getD 1 false) (u.getD 2 false) (u.getD 3 false) (u.getD 4 false) true=u.set 5 true:=by
 match u,h with
 | [_,_,_,_,_,_],_=>exact ⟨rfl,rfl,rfl,rfl,rfl,rfl⟩
theorem cnt_bd (u:List Bool):0<=cnt u/\cnt u<=u.length:=by
 unfold cnt
 have:=List.length_filter_le id u
 omega
theorem cnt_set:∀ {u:List Bool} {i:Nat},i < u.length->u.getD i false=false->cnt (u.set i true)=cnt u+1:=by
 intro u
 induction u with
 | nil=>intro i h;simp at h
 | cons x u ih =>
  intro i h h2
  cases i with
  | zero =>
   have:x=false:=h2
   subst this
   simp [cnt]
  | succ i =>
   have:=ih (i:=i) (by simpa using h) (by simpa using h2)
   unfold cnt at this ⊢
   cases x <;> simp_all <;> omega
theorem uaN_step {l:List GAtom} {u:List Bool} {k:Int} {i:Nat} (h:uaN l u k i=true) (h2:uaP l u k i=false):uaN l u k (i+1)=true:=by
 unfold uaN at h ⊢
 rw [List.range_succ,List.all_append,h]
 simp [h2]
theorem uaN_s1 {l:List GAtom} {u:List Bool} {k:Int} {i:Nat} (h:uaN l u k i=true) (h2:¬ (l.getD i ⟨0,0,0⟩).a=k):uaN l u k (i+1)=true :=
 uaN_step h (by unfold uaP;rw [beq_eq_false_iff_ne.2 h2];rfl)
theorem uaN_s2 {l:List GAtom} {u:List Bool} {k:Int} {i j:Nat} (h:uaN l u k i=true) (hj:(i:Int)=(j:Int)) (h2:u.getD j false=true):uaN l u k (i+1)=true:=by
 have:i=j:=by omega
 subst this
 exact uaN_step h (by unfold uaP;rw [h2];simp)
theorem uaO_some {l:List GAtom} {u:List Bool} {k:Int} {i:Nat} (hi:i < l.length) (h:uaN l u k i=true) (h2:uaP l u k i=true):uaO l u k=some i:=by
 unfold uaO
 rw [List.find?_range_eq_some]
 refine ⟨h2,List.mem_range.2 hi,fun j hj=>?_⟩
 have:=List.all_eq_true.1 h j (List.mem_range.2 hj)
 simpa using this
theorem uaO_none {l:List GAtom} {u:List Bool} {k:Int} {i:Nat} (hi:¬ i < l.length) (hi2:i<=l.length) (h:uaN l u k i=true):uaO l u k=none:=by
 have:i=l.length:=by omega
 subst this
 unfold uaO
 rw [List.find?_range_eq_none]
 intro j hj
 have:=List.all_eq_true.1 h j (List.mem_range.2 hj)
 simpa using this
theorem ua_hit {l:List GAtom} {u:List Bool} {k:Int} {i j:Nat} (hi:i < l.length) (h:uaN l u k i=true) (ha:(l.getD i ⟨0,0,0⟩).a=k) (hj:(i:Int)=(j:Int)) (hu:u.getD j false=false):(i:Int)=uaI l u k/\true=uaB l u k:=by
 have:i=j:=by omega
 subst this
 have:=uaO_some hi h (by unfold uaP;rw [hu];simpa using ha)
 unfold uaI uaB
 rw [this]
 exact ⟨rfl,rfl⟩
theorem ua_miss {l:List GAtom} {u:List Bool} {k:Int} {i:Nat} (hi:¬ i < l.length) (hi2:i<=l.length) (h:uaN l u k i=true):(0:Int)=uaI l u k/\false=uaB l u k:=by
 unfold uaI uaB
 rw [uaO_none hi hi2 h]
 exact ⟨rfl,rfl⟩
theorem uaO_spec {l:List GAtom} {u:List Bool} {k:Int} {i:Nat} (h:uaO l u k=some i):i < l.length/\(l.getD i nA).a=k/\u.getD i false=false:=by
 unfold uaO at h
 obtain ⟨h1,h2,_⟩:=List.find?_range_eq_some.1 h
 unfold uaP at h1
 simp only [Bool.and_eq_true,beq_iff_eq,Bool.not_eq_true'] at h1
 exact ⟨List.mem_range.1 h2,h1.1,h1.2⟩
theorem uaB_spec {l:List GAtom} {u:List Bool} {k:Int} (h:uaB l u k=true):∃ i:Nat,uaO l u k=some i/\uaI l u k=(i:Int)/\i < l.length/\(l.getD i nA).a=k/\u.getD i false=false:=by
 unfold uaB at h
 cases hq:uaO l u k with
 | none=>rw [hq] at h;cases h
 | some i=>exact ⟨i,rfl,by unfold uaI;rw [hq];rfl,uaO_spec hq⟩
theorem uaB_bd {l:List GAtom} {u:List Bool} {k:Int} (hl:l.length<=6) (h:uaB l u k=true):0<=uaI l u k/\uaI l u k < 6/\uaI l u k < (l.length:Nat)/\u.getD (uaI l u k).toNat false=false:=by
 obtain ⟨i,_,h2,h3,_,h5⟩:=uaB_spec h
 rw [h2]
 exact ⟨by omega,by omega,by omega,by rw [Int.toNat_natCast];exact h5⟩
def ucO (l:List GAtom) (u:List Bool) (x:GAtom):Option Nat:=(uaO l u x.a).bind fun i=>cond (decide (l.getD i nA=x)) (some i) none
def ucL (l:List GAtom) (u:List Bool) (x:GAtom):List Int:=match ucO l u x with
 | some i=>[(i:Int)]
 | none=>[]
def ucB (l:List GAtom) (u:List Bool) (x:GAtom):Bool:=(ucO l u x).isSome
def ucU (l:List GAtom) (u:List Bool) (x:GAtom):List Bool:=match ucO l u x with
 | some i=>u.set i true
 | none=>u
section
variable {l:List GAtom} {u:List Bool} {x:GAtom}
theorem uc_no (h:ucO l u x=none):ucL l u x=[]/\ucB l u x=false/\ucU l u x=u:=by unfold ucL ucB ucU;rw [h];exact ⟨rfl,rfl,rfl⟩
theorem uc_no1 (h:uaB l u x.a=false):ucO l u x=none:=by
 unfold uaB at h
 unfold ucO
 cases hq:uaO l u x.a with
 | none=>rfl
 | some i=>rw [hq] at h;cases h
theorem uc_no2 (h:uaB l u x.a=true) (h2:¬ l.getD (uaI l u x.a).toNat ⟨0,0,0⟩=x):ucO l u x=none:=by
 obtain ⟨i,h3,h4,_⟩:=uaB_spec h
 rw [h4,Int.toNat_natCast] at h2
 unfold ucO
 rw [h3]
 show cond (decide _) _ _=_
 rw [decide_eq_false h2]
 rfl
theorem uc_yes (h:uaB l u x.a=true) (h2:l.getD (uaI l u x.a).toNat ⟨0,0,0⟩=x):ucL l u x=[uaI l u x.a]/\ucB l u x=true/\ucU l u x=u.set (uaI l u x.a).toNat true:=by
 obtain ⟨i,h3,h4,_⟩:=uaB_spec h
 have:ucO l u x=some i:=by
  rw [h4,Int.toNat_natCast] at h2
  unfold ucO
  rw [h3]
  show cond (decide _) _ _=_
  rw [decide_eq_true h2]
  rfl
 unfold ucL ucB ucU
 rw [this,h4]
 exact ⟨rfl,rfl,rfl⟩
end
def clB (l:List GAtom) (y:Int):Bool:=y == 0 || bgn l y
theorem cl1 {l:List GAtom} {y:Int} (h:y=0):clB l y=true:=by unfold clB;rw [h];rfl
theorem cl2 {l:List GAtom} {y:Int} (h:bgn l y=true):clB l y=true:=by unfold clB;rw [h,Bool.or_true]
theorem cl3 {l:List GAtom} {y:Int} (h:¬ y=0) (h2:bgn l y=false):clB l y=false:=by unfold clB;rw [h2,beq_eq_false_iff_ne.2 h];rfl
def chn (l:List GAtom) (y:Int):Nat->List Bool->Int->List Int->List Bool × Option (List Int)
 | 0,u,_,_=>(u,none)
 | f+1,u,q,us=>match uaO l u q with
  | none=>(u,none)
  | some i=>if (l.getD i nA).b=y then (u.set i true,some (us ++ [(i:Int)]))
   else if (l.getD i nA).kind=2/\clB l y=false then (u.set i true,none)
   else chn l y f (u.set i true) (l.getD i nA).b (us ++ [(i:Int)])
def chU (l:List GAtom) (u:List Bool) (x:GAtom):List Bool:=(chn l x.b 7 u x.a []).1
def chL (l:List GAtom) (u:List Bool) (x:GAtom):List Int:=(chn l x.b 7 u x.a []).2.getD []
def chB (l:List GAtom) (u:List Bool) (x:GAtom):Bool:=(chn l x.b 7 u x.a []).2.isSome
structure chI (l:List GAtom) (u:List Bool) (x:GAtom) (u':List Bool) (q:Int) (us:List Int):Prop where
 len:u'.length=6
 le:us.length<=6
 cn:cnt u'=cnt u+us.length
 eq:chn l x.b (7 - us.length) u' q us=chn l x.b 7 u x.a []
section
variable {l:List GAtom} {u u':List Bool} {x:GAtom} {q:Int} {us:List Int}
theorem chI_zero (h:u.length=6):chI l u x u x.a []:=⟨h,by simp,by simp,rfl⟩
theorem chI_lt (h:chI l u x u' q us) (hb:uaB l u' q=true) (hl:l.length<=6):us.length < 6:=by
 obtain ⟨i,_,_,h3,_,h5⟩:=uaB_spec hb
 have h1:=cnt_set (u:=u') (i:=i) (by rw [h.len];omega) h5
 have h2:=cnt_bd (u'.set i true)
 have h4:=cnt_bd u
 have h6:=h.cn
 have h7:=h.len
 simp only [List.length_set] at h2
 omega
theorem ch_fuel (h:us.length < 6):7 - us.length=(7 - (us ++ [q]).length)+1:=by simp;omega
theorem ch_no (h:chI l u x u' q us) (hb:uaB l u' q=false):chU l u x=u'/\chL l u x=[]/\chB l u x=false:=by
 have hq:uaO l u' q=none:=by
  unfold uaB at hb
  cases hq:uaO l u' q with
  | none=>rfl
  | some i=>rw [hq] at hb;cases hb
 obtain ⟨f,hf⟩:∃ f,7 - us.length=f+1:=⟨6 - us.length,by have:=h.le;omega⟩
 have h1:=h.eq
 rw [hf,chn,hq] at h1
 unfold chU chL chB
 rw [← h1]
 exact ⟨rfl,rfl,rfl⟩
theorem ch_end (h:chI l u x u' q us) (hb:uaB l u' q=true) (hl:l.length<=6) (hy:(l.getD (uaI l u' q).toNat ⟨0,0,0⟩).b=x.b):chU l u x=u'.set (uaI l u' q).toNat true/\chL l u x=us ++ [uaI l u' q]/\chB l u x=true:=by
 have hlt:=chI_lt h hb hl
 obtain ⟨i,h3,h4,_⟩:=uaB_spec hb
 rw [h4,Int.toNat_natCast] at hy ⊢
 have h1:=h.eq
 rw [ch_fuel (q:=0) hlt,chn,h3] at h1
 simp only [if_pos hy] at h1
 unfold chU chL chB
 rw [← h1]
 exact ⟨rfl,rfl,rfl⟩
theorem ch_open (h:chI l u x u' q us) (hb:uaB l u' q=true) (hl:l.length<=6) (hy:¬ (l.getD (uaI l u' q).toNat ⟨0,0,0⟩).b=x.b) (hk:(l.getD (uaI l u' q).toNat ⟨0,0,0⟩).kind=2) (hc:clB l x.b=false):chU l u x=u'.set (uaI l u' q).toNat true/\chL l u x=[]/\chB l u x=false:=by
 have hlt:=chI_lt h hb hl
 obtain ⟨i,h3,h4,_⟩:=uaB_spec hb
 rw [h4,Int.toNat_natCast] at hy hk ⊢
 have h1:=h.eq
 rw [ch_fuel (q:=0) hlt,chn,h3] at h1
 simp only [if_neg hy,if_pos (And.intro hk hc)] at h1
 unfold chU chL chB
 rw [← h1]
 exact ⟨rfl,rfl,rfl⟩
theorem ch_go (h:chI l u x u' q us) (hb:uaB l u' q=true) (hl:l.length<=6) (hy:¬ (l.getD (uaI l u' q).toNat ⟨0,0,0⟩).b=x.b) (hk:¬ (l.getD (uaI l u' q).toNat ⟨0,0,0⟩).kind=2 ∨ clB l x.b=true):chI l u x (u'.set (uaI l u' q).toNat true) (l.getD (uaI l u' q).toNat ⟨0,0,0⟩).b (us ++ [uaI l u' q]):=by
 have hlt:=chI_lt h hb hl
 obtain ⟨i,h3,h4,h5,_,h6⟩:=uaB_spec hb
 rw [h4,Int.toNat_natCast] at hy hk ⊢
 refine ⟨by rw [List.length_set];exact h.len,by simp;omega,?_,?_⟩
 ·rw [cnt_set (by rw [h.len];omega) h6,h.cn];simp;omega
 ·have h1:=h.eq
  have hn:¬ ((l.getD i nA).kind=2/\clB l x.b=false):=by
   rintro ⟨e1,e2⟩
   rcases hk with hk | hk
   ·exact hk e1
   ·rw [e2] at hk;cases hk
  rw [ch_fuel (q:=(i:Int)) hlt,chn,h3] at h1
  simp only [if_neg hy,if_neg hn] at h1
  exact h1
theorem ch_kit (h:chI l u x u' q us) (hb:uaB l u' q=true) (hl:l.length<=6):0<=uaI l u' q/\uaI l u' q < 6/\uaI l u' q < (l.length:Nat)/\u'.getD (uaI l u' q).toNat false=false/\us.length < 6 /\
  sx6 (u'.set (uaI l u' q).toNat true)=u'.set (uaI l u' q).toNat true /\
  cnt (u'.set (uaI l u' q).toNat true)=cnt u'+1:=by
 have h9:=uaB_bd hl hb
 exact ⟨h9.1,h9.2.1,h9.2.2.1,h9.2.2.2,chI_lt h hb hl,sx6_eta (by rw [List.length_set];exact h.len),cnt_set (by rw [h.len];omega) h9.2.2.2⟩
end
def useU (l:List GAtom) (u:List Bool) (x:GAtom):List Bool:=cond (x.kind == 1) (ucU l u x) (chU l u x)
def useB (l:List GAtom) (u:List Bool) (x:GAtom):Bool:=cond (x.kind == 1) (ucB l u x) (chB l u x)
def mcF (l:List GAtom):List GAtom->List Bool->Option (List Bool)
 | [],u=>some u
 | x :: g,u=>cond (useB l u x) (mcF l g (useU l u x)) none
def u0:List Bool:=six false false false false false false
def mcM (l g:List GAtom):Bool:=match mcF l g u0 with
 | some u=>cnt u == (l.length:Nat)
 | none=>false
def MC (a b:GAsn) (c:List Int):Bool:=b.facts.all (fh c) && mcM (fL c a.atoms) (fL c b.atoms)
theorem chn_len {l:List GAtom} {y:Int}:∀ (f:Nat) (u:List Bool) (q:Int) (us:List Int),(chn l y f u q us).1.length=u.length:=by
 intro f
 induction f with
 | zero=>intros;rfl
 | succ f ih =>
  intro u q us
  rw [chn]
  split
  ·rfl
  ·split
   ·simp
   ·split
    ·simp
    ·rw [ih];simp
theorem useU_len {l:List GAtom} {u:List Bool} {x:GAtom}:(useU l u x).length=u.length:=by
 unfold useU
 cases x.kind == 1
 ·exact chn_len _ _ _ _
 ·show (ucU l u x).length=_
  unfold ucU
  split <;> simp
structure mcI (l g:List GAtom) (i:Nat) (u:List Bool):Prop where
 len:u.length=6
 eq:mcF l (g.drop i) u=mcF l g u0
section
variable {l g:List GAtom} {i:Nat} {u:List Bool}
theorem mcI_zero:mcI l g 0 (six false false false false false false):=⟨rfl,rfl⟩
theorem mcF_at (hi:i < g.length):mcF l (g.drop i) u=cond (useB l u (g.getD i ⟨0,0,0⟩)) (mcF l (g.drop (i+1)) (useU l u (g.getD i ⟨0,0,0⟩))) none:=by
 rw [List.drop_eq_getElem_cons hi,mcF,List.getD_eq_getElem?_getD,List.getElem?_eq_getElem hi]
 rfl
theorem mcI_bad (h:mcI l g i u) (hi:i < g.length) (hb:useB l u (g.getD i ⟨0,0,0⟩)=false):mcM l g=false:=by
 have:=h.eq
 rw [mcF_at hi,hb] at this
 unfold mcM
 rw [← this]
 rfl
theorem mcI_go (h:mcI l g i u) (hi:i < g.length) (hb:useB l u (g.getD i ⟨0,0,0⟩)=true):mcI l g (i+1) (useU l u (g.getD i ⟨0,0,0⟩)):=by
 refine ⟨useU_len.trans h.len,?_⟩
 have:=h.eq
 rw [mcF_at hi,hb] at this
 exact this
theorem mcI_end (h:mcI l g i u) (hi:¬ i < g.length):mcM l g=(cnt u == (l.length:Nat)):=by
 have:=h.eq
 rw [List.drop_of_length_le (by omega),mcF] at this
 unfold mcM
 rw [← this]
theorem use_cell {x:GAtom} (hk:x.kind=1):useB l u x=ucB l u x/\useU l u x=ucU l u x:=by unfold useB useU;rw [hk];exact ⟨rfl,rfl⟩
theorem use_chain {x:GAtom} (hk:¬ x.kind=1):useB l u x=chB l u x/\useU l u x=chU l u x:=by unfold useB useU;rw [beq_eq_false_iff_ne.2 hk];exact ⟨rfl,rfl⟩
end
section
variable {a b:GAsn} {c:List Int} {l g:List GAtom} {i:Nat} {u:List Bool} {x:GAtom}
theorem ucU_len:(ucU l u x).length=u.length:=by unfold ucU;split <;> simp
theorem chU_len:(chU l u x).length=u.length:=chn_len _ _ _ _
theorem six_uc (h:u.length=6):sx6 (ucU l u x)=ucU l u x:=sx6_eta (ucU_len.trans h)
theorem six_ch (h:u.length=6):sx6 (chU l u x)=chU l u x:=sx6_eta (chU_len.trans h)
theorem mc_no (h:b.facts.all (fh c)=false):false=MC a b c:=by unfold MC;rw [h];rfl
theorem mc_bad (hf:b.facts.all (fh c)=true) (h:mcI (fL c a.atoms) (fL c b.atoms) i u) (hi:i < (fL c b.atoms).length) (hb:useB (fL c a.atoms) u ((fL c b.atoms).getD i ⟨0,0,0⟩)=false):false=MC a b c:=by
 unfold MC
 rw [hf,mcI_bad h hi hb];rfl
theorem mc_bad1 (hf:b.facts.all (fh c)=true) (h:mcI (fL c a.atoms) (fL c b.atoms) i u) (hi:i < (fL c b.atoms).length) (hk:((fL c b.atoms).getD i ⟨0,0,0⟩).kind=1) (hb:ucB (fL c a.atoms) u ((fL c b.atoms).getD i ⟨0,0,0⟩)=false):false=MC a b c :=
 mc_bad hf h hi (by rw [(use_cell hk).1];exact hb)
theorem mc_bad2 (hf:b.facts.all (fh c)=true) (h:mcI (fL c a.atoms) (fL c b.atoms) i u) (hi:i < (fL c b.atoms).length) (hk:¬ ((fL c b.atoms).getD i ⟨0,0,0⟩).kind=1) (hb:chB (fL c a.atoms) u ((fL c b.atoms).getD i ⟨0,0,0⟩)=false):false=MC a b c :=
 mc_bad hf h hi (by rw [(use_chain hk).1];exact hb)
theorem mc_go1 (h:mcI l g i u) (hi:i < g.length) (hk:(g.getD i ⟨0,0,0⟩).kind=1) (hb:ucB l u (g.getD i ⟨0,0,0⟩)=true):mcI l g (i+1) (ucU l u (g.getD i ⟨0,0,0⟩)):=by
 have:=mcI_go h hi (by rw [(use_cell hk).1];exact hb)
 rw [(use_cell hk).2] at this
 exact this
theorem mc_go2 (h:mcI l g i u) (hi:i < g.length) (hk:¬ (g.getD i ⟨0,0,0⟩).kind=1) (hb:chB l u (g.getD i ⟨0,0,0⟩)=true):mcI l g (i+1) (chU l u (g.getD i ⟨0,0,0⟩)):=by
 have:=mcI_go h hi (by rw [(use_chain hk).1];exact hb)
 rw [(use_chain hk).2] at this
 exact this
theorem mc_end1 (hf:b.facts.all (fh c)=true) (h:mcI (fL c a.atoms) (fL c b.atoms) i u) (hi:¬ i < (fL c b.atoms).length) (hc:¬ cnt u=((fL c a.atoms).length:Nat)):false=MC a b c:=by
 unfold MC
 rw [hf,mcI_end h hi,beq_eq_false_iff_ne.2 hc];rfl
theorem mc_end2 (hf:b.facts.all (fh c)=true) (h:mcI (fL c a.atoms) (fL c b.atoms) i u) (hi:¬ i < (fL c b.atoms).length) (hc:cnt u=((fL c a.atoms).length:Nat)):true=MC a b c:=by
 unfold MC
 rw [hf,mcI_end h hi,beq_iff_eq.2 hc];rfl
end
end Go.SE

namespace Go.SE
open Go.RowKit
def fdI (l:List GAtom) (u:List Bool) (k:Int):Int:=match uaO l u k with
 | some i=>(i:Int)
 | none=>-1
section
variable {l:List GAtom} {u:List Bool} {k:Int} {i:Nat}
theorem fd_hit (hi:i < l.length) (h:uaN l u k i=true) (hu:u.getD i false=false) (ha:(l.getD i ⟨0,0,0⟩).a=k):(i:Int)=fdI l u k:=by
 unfold fdI
 rw [uaO_some hi h (by unfold uaP;rw [hu];simpa using ha)]
theorem fd_miss (hi:¬ i < l.length) (hi2:i<=l.length) (h:uaN l u k i=true):(-1:Int)=fdI l u k:=by
 unfold fdI
 rw [uaO_none hi hi2 h]
theorem uaN_s3 (h:uaN l u k i=true) (h2:u.getD i false=true):uaN l u k (i+1)=true:=uaN_step h (by unfold uaP;rw [h2];simp)
theorem fd_neg (h:fdI l u k < 0):uaO l u k=none:=by
 unfold fdI at h
 split at h
 ·omega
 ·assumption
theorem fd_pos (h:¬ fdI l u k < 0):∃ i:Nat,uaO l u k=some i/\fdI l u k=(i:Int)/\i < l.length/\(l.getD i nA).a=k/\u.getD i false=false:=by
 unfold fdI at h ⊢
 split at h
 ·rename_i i hi
  rw [hi]
  exact ⟨i,rfl,rfl,uaO_spec hi⟩
 ·omega
theorem fd_bd (h:¬ fdI l u k < 0):0<=fdI l u k/\fdI l u k < (l.length:Nat)/\u.getD (fdI l u k).toNat false=false:=by
 obtain ⟨i,_,h2,h3,_,h5⟩:=fd_pos h
 rw [h2]
 exact ⟨by omega,by omega,by rw [Int.toNat_natCast];exact h5⟩
end
def rch (l:List GAtom) (y:Int):Nat->List Bool->Int->List Bool × Bool
 | 0,u,_=>(u,false)
 | f+1,u,q=>if q=y then (u,true) else match uaO l u q with
  | none=>(u,false)
  | some i=>if (l.getD i nA).kind=2/\(l.getD i nA).b ≠ y/\clB l y=false then (u,false) else rch l y f (u.set i true) (l.getD i nA).b
def rchU (l:List GAtom) (u:List Bool) (q y:Int):List Bool:=(rch l y 8 u q).1
def rchB (l:List GAtom) (u:List Bool) (q y:Int):Bool:=(rch l y 8 u q).2
structure rcI (l:List GAtom) (u:List Bool) (q y:Int) (k:Nat) (u':List Bool) (q':Int):Prop where
 len:u'.length=l.length
 cn:cnt u'=cnt u+k
 eq:rch l y (8 - k) u' q'=rch l y 8 u q
theorem rch_len {l:List GAtom} {y:Int}:∀ (f:Nat) (u:List Bool) (q:Int),(rch l y f u q).1.length=u.length:=by
 intro f
 induction f with
 | zero=>intros;rfl
 | succ f ih =>
  intro u q
  rw [rch]
  split
  ·rfl
  ·split
   ·rfl
   ·split
    ·rfl
    ·rw [ih];simp
section
variable {l:List GAtom} {u u':List Bool} {q q' y:Int} {k:Nat}
theorem rcI_zero (h:u.length=l.length):rcI l u q y 0 u q:=⟨h,by simp,rfl⟩
theorem rcI_le (h:rcI l u q y k u' q') (hl:l.length<=6):k<=6:=by
 have h1:=cnt_bd u'
 have h2:=cnt_bd u
 have:=h.cn
 have:=h.len
 omega
theorem rc_end (h:rcI l u q y k u' q') (hl:l.length<=6) (e:q'=y):rchU l u q y=u'/\rchB l u q y=true:=by
 have hk:=rcI_le h hl
 have h1:=h.eq
 rw [show 8 - k=(7 - k)+1 by omega,rch,if_pos e] at h1
 unfold rchU rchB
 rw [← h1]
 exact ⟨rfl,rfl⟩
theorem rc_no (h:rcI l u q y k u' q') (hl:l.length<=6) (e:¬ q'=y) (hn:fdI l u' q' < 0):rchU l u q y=u'/\rchB l u q y=false:=by
 have hk:=rcI_le h hl
 have h1:=h.eq
 rw [show 8 - k=(7 - k)+1 by omega,rch,if_neg e,fd_neg hn] at h1
 unfold rchU rchB
 rw [← h1]
 exact ⟨rfl,rfl⟩
theorem rc_open (h:rcI l u q y k u' q') (hl:l.length<=6) (e:¬ q'=y) (hn:¬ fdI l u' q' < 0) (hk2:(l.getD (fdI l u' q').toNat ⟨0,0,0⟩).kind=2) (hb:¬ (l.getD (fdI l u' q').toNat ⟨0,0,0⟩).b=y) (hc:clB l y=false):rchU l u q y=u'/\rchB l u q y=false:=by
 have hk:=rcI_le h hl
 have h1:=h.eq
 obtain ⟨i,h3,h4,_⟩:=fd_pos hn
 rw [h4,Int.toNat_natCast] at hk2 hb
 rw [show 8 - k=(7 - k)+1 by omega,rch,if_neg e,h3] at h1
 simp only [if_pos (And.intro hk2 (And.intro hb hc))] at h1
 unfold rchU rchB
 rw [← h1]
 exact ⟨rfl,rfl⟩
theorem rc_go (h:rcI l u q y k u' q') (hl:l.length<=6) (e:¬ q'=y) (hn:¬ fdI l u' q' < 0) (hg:¬ (l.getD (fdI l u' q').toNat ⟨0,0,0⟩).kind=2 ∨ (l.getD (fdI l u' q').toNat ⟨0,0,0⟩).b=y ∨ clB l y=true):rcI l u q y (k+1) (u'.set (fdI l u' q').toNat true) (l.getD (fdI l u' q').toNat ⟨0,0,0⟩).b/\k+1<=6:=by
 have h1:=h.eq
 obtain ⟨i,h3,h4,h5,_,h6⟩:=fd_pos hn
 rw [h4,Int.toNat_natCast] at hg ⊢
 have hcs:=cnt_set (u:=u') (i:=i) (by rw [h.len];exact h5) h6
 have hcn:=h.cn
 have hlen:(u'.set i true).length=l.length:=by rw [List.length_set];exact h.len
 have hb:=cnt_bd (u'.set i true)
 have hb0:=cnt_bd u
 have hk:k+1<=6:=by omega
 refine ⟨⟨hlen,by rw [hcs,hcn];omega,?_⟩,hk⟩
 rw [show 8 - k=(8 - (k+1))+1 by omega,rch,if_neg e,h3] at h1
 have hng:¬ ((l.getD i nA).kind=2/\(l.getD i nA).b ≠ y/\clB l y=false):=by
  rintro ⟨e1,e2,e3⟩
  rcases hg with hg | hg | hg
  ·exact hg e1
  ·exact e2 hg
  ·rw [e3] at hg;cases hg
 simp only [if_neg hng] at h1
 exact h1
end
def ruU (l:List GAtom) (u:List Bool) (x:GAtom):List Bool:=cond (x.kind == 2) (rchU l u x.a x.b) (ucU l u x)
def ruB (l:List GAtom) (u:List Bool) (x:GAtom):Bool:=cond (x.kind == 2) (rchB l u x.a x.b) (ucB l u x)
def rmF (l:List GAtom):List GAtom->List Bool->Option (List Bool)
 | [],u=>some u
 | x :: g,u=>cond (ruB l u x) (rmF l g (ruU l u x)) none
def rmM (l g:List GAtom):Bool:=match rmF l g (List.replicate l.length false) with
 | some u=>u.all id
 | none=>false
structure rmI (l g:List GAtom) (i:Nat) (u:List Bool):Prop where
 len:u.length=l.length
 eq:rmF l (g.drop i) u=rmF l g (List.replicate l.length false)
section
variable {l g:List GAtom} {i:Nat} {u:List Bool} {x:GAtom}
theorem ruU_len:(ruU l u x).length=u.length:=by
 unfold ruU
 cases x.kind == 2
 ·exact ucU_len
 ·exact rch_len _ _ _
theorem rmI_zero:rmI l g 0 (List.replicate l.length false):=⟨by simp,rfl⟩
theorem rmF_at (hi:i < g.length):rmF l (g.drop i) u=cond (ruB l u (g.getD i ⟨0,0,0⟩)) (rmF l (g.drop (i+1)) (ruU l u (g.getD i ⟨0,0,0⟩))) none:=by
 rw [List.drop_eq_getElem_cons hi,rmF,List.getD_eq_getElem?_getD,List.getElem?_eq_getElem hi]
 rfl
theorem rmI_bad (h:rmI l g i u) (hi:i < g.length) (hb:ruB l u (g.getD i ⟨0,0,0⟩)=false):false=rmM l g:=by
 have:=h.eq
 rw [rmF_at hi,hb] at this
 unfold rmM
 rw [← this]
 rfl
theorem rmI_go (h:rmI l g i u) (hi:i < g.length) (hb:ruB l u (g.getD i ⟨0,0,0⟩)=true):rmI l g (i+1) (ruU l u (g.getD i ⟨0,0,0⟩)):=by
 refine ⟨ruU_len.trans h.len,?_⟩
 have:=h.eq
 rw [rmF_at hi,hb] at this
 exact this
theorem rmI_end (h:rmI l g i u) (hi:¬ i < g.length):rmM l g=u.all id:=by
 have:=h.eq
 rw [List.drop_of_length_le (by omega),rmF] at this
 unfold rmM
 rw [← this]
theorem ru_chain (hk:x.kind=2):ruB l u x=rchB l u x.a x.b/\ruU l u x=rchU l u x.a x.b:=by unfold ruB ruU;rw [hk];exact ⟨rfl,rfl⟩
theorem ru_cell (hk:¬ x.kind=2):ruB l u x=ucB l u x/\ruU l u x=ucU l u x:=by unfold ruB ruU;rw [beq_eq_false_iff_ne.2 hk];exact ⟨rfl,rfl⟩
theorem rm_bad1 (h:rmI l g i u) (hi:i < g.length) (hk:(g.getD i ⟨0,0,0⟩).kind=2) (hb:rchB l u (g.getD i ⟨0,0,0⟩).a (g.getD i ⟨0,0,0⟩).b=false):false=rmM l g:=rmI_bad h hi (by rw [(ru_chain hk).1];exact hb)
theorem rm_go1 (h:rmI l g i u) (hi:i < g.length) (hk:(g.getD i ⟨0,0,0⟩).kind=2) (hb:rchB l u (g.getD i ⟨0,0,0⟩).a (g.getD i ⟨0,0,0⟩).b=true):rmI l g (i+1) (rchU l u (g.getD i ⟨0,0,0⟩).a (g.getD i ⟨0,0,0⟩).b):=by
 have:=rmI_go h hi (by rw [(ru_chain hk).1];exact hb)
 rw [(ru_chain hk).2] at this
 exact this
theorem rm_bad2 (h:rmI l g i u) (hi:i < g.length) (hk:¬ (g.getD i ⟨0,0,0⟩).kind=2) (hb:fdI l u (g.getD i ⟨0,0,0⟩).a < 0):false=rmM l g :=
 rmI_bad h hi (by rw [(ru_cell hk).1];exact (uc_no (by unfold ucO;rw [fd_neg hb];rfl)).2.1)
theorem fd_ua (hb:¬ fdI l u x.a < 0):uaB l u x.a=true/\uaI l u x.a=fdI l u x.a:=by
 obtain ⟨i,h1,h2,_⟩:=fd_pos hb
 unfold uaB uaI
 rw [h1,h2]
 exact ⟨rfl,rfl⟩
theorem rm_bad3 (h:rmI l g i u) (hi:i < g.length) (hk:¬ (g.getD i ⟨0,0,0⟩).kind=2) (hb:¬ fdI l u (g.getD i ⟨0,0,0⟩).a < 0) (hx:¬ l.getD (fdI l u (g.getD i ⟨0,0,0⟩).a).toNat ⟨0,0,0⟩=g.getD i ⟨0,0,0⟩):false=rmM l g :=
 rmI_bad h hi (by
  rw [(ru_cell hk).1]
  obtain ⟨h1,h2⟩:=fd_ua (x:=g.getD i ⟨0,0,0⟩) hb
  exact (uc_no (uc_no2 h1 (by rw [h2];exact hx))).2.1)
theorem rm_go2 (h:rmI l g i u) (hi:i < g.length) (hk:¬ (g.getD i ⟨0,0,0⟩).kind=2) (hb:¬ fdI l u (g.getD i ⟨0,0,0⟩).a < 0) (hx:l.getD (fdI l u (g.getD i ⟨0,0,0⟩).a).toNat ⟨0,0,0⟩=g.getD i ⟨0,0,0⟩):rmI l g (i+1) (u.set (fdI l u (g.getD i ⟨0,0,0⟩).a).toNat true):=by
 obtain ⟨h1,h2⟩:=fd_ua (x:=g.getD i ⟨0,0,0⟩) hb
 have hy:=uc_yes h1 (by rw [h2];exact hx)
 have:=rmI_go h hi (by rw [(ru_cell hk).1];exact hy.2.1)
 rw [(ru_cell hk).2,hy.2.2,h2] at this
 exact this
theorem rm_all (h:rmI l g i u) (hi:¬ i < g.length) {j:Nat} (hj:j < u.length) (hf:u.getD j false=false):false=rmM l g:=by
 rw [rmI_end h hi]
 symm
 rw [List.all_eq_false]
 refine ⟨u.getD j false,?_,by rw [hf];simp⟩
 rw [List.getD_eq_getElem?_getD,List.getElem?_eq_getElem hj];exact List.getElem_mem hj
theorem rm_yes (h:rmI l g i u) (hi:¬ i < g.length) {j:Nat} (hj:¬ j < u.length) (hf:(u.take j).all id=true):true=rmM l g:=by
 rw [rmI_end h hi]
 rw [List.take_of_length_le (by omega)] at hf
 exact hf.symm
theorem id_step {j:Nat} (hj:j < u.length) (h:(u.take j).all id=true) (hf:u.getD j false=true):(u.take (j+1)).all id=true:=by
 rw [List.take_add_one,List.all_append,h]
 rw [List.getD_eq_getElem?_getD] at hf
 rw [List.getElem?_eq_getElem hj] at hf ⊢
 simpa using hf
end
section
variable {l:List GAtom} {r:List Bool}
theorem getD_app {v:List Bool} {i:Nat} (hi:i < v.length):(v ++ r).getD i false=v.getD i false:=by
 rw [List.getD_eq_getElem?_getD,List.getD_eq_getElem?_getD,List.getElem?_append_left hi]
theorem uaO_app {v:List Bool} (hv:v.length=l.length) (k:Int):uaO l (v ++ r) k=uaO l v k:=by
 unfold uaO
 have key:∀ L:List Nat,(∀ i ∈ L,i < l.length)->L.find? (uaP l (v ++ r) k)=L.find? (uaP l v k):=by
  intro L
  induction L with
  | nil=>intro _;rfl
  | cons i L ih =>
   intro h
   have e:uaP l (v ++ r) k i=uaP l v k i:=by
    unfold uaP
    rw [getD_app (by rw [hv];exact h i (by simp))]
   rw [List.find?_cons,List.find?_cons,e,ih fun j hj=>h j (by simp [hj])]
 exact key _ fun i hi=>List.mem_range.1 hi
theorem set_app {v:List Bool} {i:Nat} (hi:i < v.length):(v ++ r).set i true=v.set i true ++ r:=by
 rw [List.set_append_left _ _ hi]
theorem uc_app {v:List Bool} (hv:v.length=l.length) (x:GAtom):ucB l (v ++ r) x=ucB l v x/\ucU l (v ++ r) x=ucU l v x ++ r:=by
 have e:ucO l (v ++ r) x=ucO l v x:=by unfold ucO;rw [uaO_app hv]
 unfold ucB ucU
 rw [e]
 refine ⟨rfl,?_⟩
 split
 ·rename_i i hi
  unfold ucO at hi
  cases hq:uaO l v x.a with
  | none=>rw [hq] at hi;cases hi
  | some j =>
   rw [hq] at hi
   have hi:cond (decide (l.getD j nA=x)) (some j) none=some i:=hi
   cases hd:decide (l.getD j nA=x) with
   | false=>rw [hd] at hi;cases hi
   | true =>
    rw [hd] at hi
    injection hi with hi
    subst hi
    exact set_app (by rw [hv];exact (uaO_spec hq).1)
 ·rfl
theorem ch_app {y:Int}:∀ (f:Nat) (v:List Bool) (q:Int) (us:List Int),v.length=l.length->q ≠ y ->
  (chn l y f (v ++ r) q us).2.isSome=(rch l y (f+1) v q).2/\((rch l y (f+1) v q).2=true->(chn l y f (v ++ r) q us).1=(rch l y (f+1) v q).1 ++ r):=by
 intro f
 induction f with
 | zero =>
  intro v q us hv hq
  have e:(rch l y (0+1) v q).2=false:=by
   rw [rch,if_neg hq]
   split
   ·rfl
   ·split <;> rfl
  rw [e]
  exact ⟨rfl,fun h=>by cases h⟩
 | succ f ih =>
  intro v q us hv hq
  rw [chn,rch,if_neg hq,uaO_app hv]
  cases ho:uaO l v q with
  | none=>exact ⟨rfl,fun h=>by cases h⟩
  | some i =>
   have hi:=(uaO_spec ho).1
   have hv':(v.set i true).length=l.length:=by rw [List.length_set];exact hv
   dsimp only
   rw [show (v ++ r).set i true=v.set i true ++ r from set_app (by rw [hv];exact hi)]
   by_cases hb:(l.getD i nA).b=y
   ·rw [if_pos hb,if_neg (fun h=>h.2.1 hb),hb,rch,if_pos rfl]
    exact ⟨rfl,fun _=>rfl⟩
   ·rw [if_neg hb]
    by_cases hk:(l.getD i nA).kind=2/\clB l y=false
    ·rw [if_pos hk,if_pos ⟨hk.1,hb,hk.2⟩]
     exact ⟨rfl,fun h=>by cases h⟩
    ·rw [if_neg hk,if_neg fun h=>hk ⟨h.1,h.2.2⟩]
     exact ih _ _ _ hv' hb
theorem mc_rm:∀ (g:List GAtom) (v:List Bool),v.length=l.length->(∀ x ∈ g,(x.kind=1 ∨ x.kind=2)/\(x.kind=2->x.a ≠ x.b)) ->
  (∃ w,w.length=l.length/\mcF l g (v ++ r)=some (w ++ r)/\rmF l g v=some w) ∨ (mcF l g (v ++ r)=none/\rmF l g v=none):=by
 intro g
 induction g with
 | nil=>intro v hv _;exact .inl ⟨v,hv,rfl,rfl⟩
 | cons x g ih =>
  intro v hv hg
  obtain ⟨hk,hne⟩:=hg x (by simp)
  have key:∀ (b1 b2:Bool) (u1 u2:List Bool),useB l (v ++ r) x=b1->ruB l v x=b2->useU l (v ++ r) x=u1->ruU l v x=u2->b1=b2->(b2=true->u1=u2 ++ r)->(∃ w,w.length=l.length/\mcF l (x :: g) (v ++ r)=some (w ++ r)/\rmF l (x :: g) v=some w) ∨ (mcF l (x :: g) (v ++ r)=none/\rmF l (x :: g) v=none):=by
   intro b1 b2 u1 u2 e1 e2 e3 e4 e5 e6
   rw [mcF,rmF,e1,e2,e3,e4]
   subst e5
   cases b1 with
   | false=>exact .inr ⟨rfl,rfl⟩
   | true =>
    rw [e6 rfl]
    exact ih u2 (by rw [← e4,ruU_len];exact hv) fun y hy=>hg y (by simp [hy])
  rcases hk with hk | hk
  ·obtain ⟨a1,a2⟩:=uc_app (r:=r) hv x
   have hk2:¬ x.kind=2:=by omega
   exact key _ _ _ _ (use_cell hk).1 (ru_cell hk2).1 (use_cell hk).2 (ru_cell hk2).2 a1 fun _=>a2
  ·obtain ⟨a1,a2⟩:=ch_app (r:=r) (y:=x.b) 7 v x.a [] hv (hne hk)
   have hk2:¬ x.kind=1:=by omega
   exact key _ _ _ _ (use_chain hk2).1 (ru_chain hk).1 (use_chain hk2).2 (ru_chain hk).2 a1 fun h=>a2 h
end
theorem cnt_app (v r:List Bool):cnt (v ++ r)=cnt v+cnt r:=by unfold cnt;rw [List.filter_append,List.length_append];omega
theorem cnt_rep (n:Nat):cnt (List.replicate n false)=0:=by unfold cnt;induction n with
 | zero=>rfl
 | succ n ih=>rw [List.replicate_succ];exact ih
theorem cnt_all:∀ v:List Bool,(cnt v == (v.length:Int))=v.all id:=by
 intro v
 induction v with
 | nil=>rfl
 | cons x v ih =>
  have hb:=cnt_bd v
  cases x with
  | false =>
   have e:cnt (false :: v)=cnt v:=rfl
   rw [e]
   simp only [List.length_cons,List.all_cons,id_eq,Bool.false_and,beq_eq_false_iff_ne]
   omega
  | true =>
   have e:cnt (true :: v)=cnt v+1:=by unfold cnt;simp
   rw [e,List.all_cons,← ih]
   simp only [List.length_cons,id_eq,Bool.true_and]
   rw [Bool.eq_iff_iff,beq_iff_eq,beq_iff_eq]
   omega
theorem mcM_rmM {l g:List GAtom} (hl:l.length<=6) (hg:∀ x ∈ g,(x.kind=1 ∨ x.kind=2)/\(x.kind=2->x.a ≠ x.b)):mcM l g=rmM l g:=by
 have e:u0=List.replicate l.length false ++ List.replicate (6 - l.length) false:=by
  rw [List.replicate_append_replicate,show l.length+(6 - l.length)=6 by omega];rfl
 unfold mcM rmM
 rw [e]
 rcases mc_rm (l:=l) (r:=List.replicate (6 - l.length) false) g (List.replicate l.length false) (by simp) hg with ⟨w,hw,h1,h2⟩ | ⟨h1,h2⟩
 ·rw [h1,h2]
  dsimp only
  rw [cnt_app,cnt_rep,Int.add_zero,← hw]
  exact cnt_all w
 ·rw [h1,h2]
theorem fL_good {c:List Int} {l:List GAtom} (h:l.all atV=true):∀ x ∈ fL c l,(x.kind=1 ∨ x.kind=2)/\(x.kind=2->x.a ≠ x.b):=by
 intro x hx
 unfold fL at hx
 obtain ⟨h1,h2⟩:=List.mem_filter.1 hx
 obtain ⟨y,hy,rfl⟩:=List.mem_map.1 h1
 have h3:=List.all_eq_true.1 h y hy
 unfold atV at h3
 simp only [Bool.and_eq_true,Bool.or_eq_true,beq_iff_eq] at h3
 refine ⟨h3.1.1,fun hk=>?_⟩
 have hk:y.kind=2:=hk
 simp only [Bool.or_eq_true,beq_iff_eq,Bool.not_eq_true',beq_eq_false_iff_ne] at h2
 rcases h2 with h2 | h2
 ·omega
 ·exact h2
def EC (a b:GAsn) (c:List Int):Bool:=sFit b.facts c && rmM (fL c a.atoms) (fL c b.atoms)
theorem both_vA {a b:GAsn} (ha:asV a=true) (hb:asV b=true):vA ⟨a.facts ++ b.facts,a.atoms ++ b.atoms⟩=true:=by
 have h1:=asV_facts ha
 have h2:=asV_facts hb
 refine vA_iff.2 ⟨?_,?_,?_,?_⟩
 ·rw [List.all_append,h1.1,h2.1];rfl
 ·rw [List.all_append,h1.2.2.1,h2.2.2.1];rfl
 ·simp only [List.length_append];omega
 ·simp only [List.length_append];omega
theorem both_fl {a b:GAsn}:fl9 (occ ⟨a.facts ++ b.facts,a.atoms ++ b.atoms⟩)=fl9 (fun t=>occ a t || occ b t):=fl9_congr fun t=>by
 simp only [occ,occF_append,occG_append]
 cases occF a.facts t <;> cases occF b.facts t <;> cases occG a.atoms t <;> rfl
end Go.SE

namespace Go.SE
open Go.RowKit
def occB (b:GAsn):Int->Bool:=fun k=>occ b k
def sFn (a b:GAsn) (c:List Int):Bool:=sFin a c && !EC a b c
def FC (a b:GAsn):CG:=(casesB a (hz a (occB b))).filter fun c=>!MC a b c
def ENT (a b:GAsn):Bool:=asV a && (asV b && (casesB a (hz a (occB b))).all fun c=>MC a b c)
section
variable {a b:GAsn} {c:List Int}
theorem occ_isT (hb:asV b=true) {k:Int} (h:occ b k=true):isT k=true:=by
 rw [← tsA_has hb] at h
 unfold tsHas at h
 rw [Bool.and_eq_true] at h
 exact h.1
theorem hzB_has (hb:asV b=true) {k:Int} (h:occ b k=true):0<=k/\k<=8/\hz a (occB b) k.toNat=true:=by
 have ht:=occ_isT hb h
 have:=isT_iff.1 ht
 exact ⟨this.1,this.2,hz_has ht h⟩
theorem occ_fact (hb:asV b=true) {f:GFact} (hf:f ∈ b.facts):occ b f.a=true/\occ b f.b=true:=by
 unfold occ occF
 constructor
 ·rw [Bool.or_eq_true,List.any_eq_true];exact .inl ⟨f,hf,by simp⟩
 ·rw [Bool.or_eq_true,List.any_eq_true];exact .inl ⟨f,hf,by simp⟩
theorem occ_atom (hb:asV b=true) {x:GAtom} (hx:x ∈ b.atoms):occ b x.a=true/\occ b x.b=true:=by
 unfold occ occG
 constructor
 ·rw [Bool.or_eq_true,List.any_eq_true];exact .inr ⟨x,hx,by simp⟩
 ·rw [Bool.or_eq_true,List.any_eq_true];exact .inr ⟨x,hx,by simp⟩
theorem full_val {has:Nat->Bool} (hc:c ∈ fulls has) {k:Int} (h0:0<=k) (h8:k<=8) (hk:has k.toNat=true):0<=cl c k/\cl c k<=k:=by
 obtain ⟨_,hv⟩:=fulls_mem hc
 have:=hv k.toNat (by omega)
 rw [hk] at this
 simp only [cond_true,Bool.and_eq_true,decide_eq_true_eq] at this
 unfold cl
 omega
theorem sFit_full {has:Nat->Bool} (hb:asV b=true) (hc:c ∈ fulls has) (hh:∀ k,occ b k=true->has k.toNat=true):sFit b.facts c=b.facts.all (fh c):=by
 unfold sFit
 rw [Bool.eq_iff_iff,List.all_eq_true,List.all_eq_true]
 have:∀ f ∈ b.facts,(!(decide (0<=cl c f.a) && decide (0<=cl c f.b)) || fh c f)=fh c f:=fun f hf=>by
  obtain ⟨o1,o2⟩:=occ_fact hb hf
  have t1:=isT_iff.1 (occ_isT hb o1)
  have t2:=isT_iff.1 (occ_isT hb o2)
  rw [decide_eq_true (full_val hc t1.1 t1.2 (hh _ o1)).1,decide_eq_true (full_val hc t2.1 t2.2 (hh _ o2)).1]
  rfl
 exact ⟨fun h f hf=>by rw [← this f hf];exact h f hf,fun h f hf=>by rw [this f hf];exact h f hf⟩
theorem ec_mc {has:Nat->Bool} (ha:asV a=true) (hb:asV b=true) (hc:c ∈ fulls has) (hh:∀ k,occ b k=true->has k.toNat=true):EC a b c=MC a b c:=by
 unfold EC MC
 rw [sFit_full hb hc hh,mcM_rmM (Nat.le_trans (fL_len c a.atoms) (asV_facts ha).2.2.2) (fL_good (asV_facts hb).2.2.1)]
theorem fc_mem (hc:c ∈ casesB a (hz a (occB b))) (ha:asV a=true):c ∈ fulls (hz a (occB b)):=by
 rw [casesB_eq (hz_named ha _)] at hc
 exact (List.mem_filter.1 hc).1
theorem sFC (ha:asV a=true) (hb:asV b=true):sQ (sFn a b) a (fl9 (fun t=>occ a t || occ b t)) opens 1=FC a b:=by
 rw [sQ_cases (has:=hz a (occB b)) fun k h1 h2=>by rw [hz_get h1 h2];rfl]
 unfold FC
 rw [show (sFn a b)=(fun c=>sFin a c && !EC a b c) from rfl,casesS_eq (hz_named ha _) rfl fun c=>!EC a b c]
 refine List.filter_congr fun c hc=>?_
 rw [ec_mc ha hb (fc_mem hc ha) fun k hk=>(hzB_has hb hk).2.2]
theorem ENT_FC (ha:asV a=true) (hb:asV b=true):ENT a b=(FC a b).isEmpty:=by
 unfold ENT FC
 rw [ha,hb,Bool.true_and,Bool.true_and,Bool.eq_iff_iff,List.isEmpty_iff,List.filter_eq_nil_iff,List.all_eq_true]
 exact ⟨fun h c hc=>by rw [h c hc];simp,fun h c hc=>by have:=h c hc;simpa using this⟩
theorem ent_no1 (h:asV a=false):ENT a b=false:=by unfold ENT;rw [h];rfl
theorem ent_no2 (h:asV b=false):ENT a b=false:=by unfold ENT;rw [h,Bool.false_and,Bool.and_false]
theorem itEn_ent (ha:asV a=true) (hb:asV b=true):itEn a (bits .or .u16 (tsWith (tsA a) 0) (tsA b))=casesB a (hz a (occB b))/\itPre a (bits .or .u16 (tsWith (tsA a) 0) (tsA b)):=by
 obtain ⟨h1,h2⟩:=tsA_bd b
 obtain ⟨e1,e2⟩:=itEn_or ha h1 h2
 refine ⟨?_,e2⟩
 rw [e1,hz_congr fun k _=>tsA_has hb k]
 rfl
theorem fc_hit (ha:asV a=true) (hb:asV b=true) {i:Nat} {d:List Int} (h:(itEn a (bits .or .u16 (tsWith (tsA a) 0) (tsA b)))[i]?=some c) (ht:((itEn a (bits .or .u16 (tsWith (tsA a) 0) (tsA b))).take i).all (fun c=>MC a b c)=true) (hm:MC a b c=false):(FC a b).headD d=c/\(FC a b).isEmpty=false:=by
 rw [(itEn_ent ha hb).1] at h ht
 have:=first_hit (d:=d) h ht hm
 exact ⟨this.1,this.2.1⟩
theorem fc_none (ha:asV a=true) (hb:asV b=true) (h:(itEn a (bits .or .u16 (tsWith (tsA a) 0) (tsA b))).all (fun c=>MC a b c)=true):FC a b=[]:=by
 rw [(itEn_ent ha hb).1] at h
 exact first_none h
theorem fc_len (ha:asV a=true) (hb:asV b=true):(List.headD (FC a b) (List.replicate 9 0)).length=9:=by
 cases h:FC a b with
 | nil=>rfl
 | cons c l =>
  have hc:c ∈ FC a b:=by rw [h];simp
  unfold FC at hc
  exact (fulls_mem (fc_mem (List.mem_filter.1 hc).1 ha)).1
variable {fin:List Int->Bool} {tm:List Bool} {t:Int}
theorem sk_last (h:sFit a.facts c=true) (h2:sEarly a.atoms c=true) (ht:8 < t) (h3:sApart (fL c a.atoms)=true) (h4:EC a b c=false):sQ (sFn a b) a tm c t=[c]:=last_yes h h2 ht (by unfold sFn sFin;rw [h3,h4];rfl)
theorem sk_no1 (h:sFit a.facts c=true) (h2:sEarly a.atoms c=true) (ht:8 < t) (h3:sApart (fL c a.atoms)=false):sQ (sFn a b) a tm c t=[]:=last_no h h2 ht (by unfold sFn sFin;rw [h3];rfl)
theorem sk_no2 (h:sFit a.facts c=true) (h2:sEarly a.atoms c=true) (ht:8 < t) (h4:EC a b c=true):sQ (sFn a b) a tm c t=[]:=last_no h h2 ht (by unfold sFn;rw [h4];simp)
end
section
variable {a:GAsn} {tm:Int} {c p:List Int} {i:Nat}
end
end Go.SE

namespace Go.SE
open Go.RowKit
inductive Pth (L:List GAtom) (y:Int):Int->List GAtom->Prop
 | last {x:GAtom}:x ∈ L->x.b=y->Pth L y x.a [x]
 | step {x:GAtom} {p:List GAtom}:x ∈ L->x.b ≠ y->Pth L y x.b p->Pth L y x.a (x :: p)
def Opn (z:Int) (L:List GAtom) (y:Int) (p:List GAtom):Prop:=y=z ∨ (∃ x ∈ L,x.a=y) ∨ ∀ x ∈ p.dropLast,x.kind ≠ 2
def OkA (z:Int) (L:List GAtom) (g:GAtom) (p:List GAtom):Prop:=(g.kind=1/\g ∈ L/\p=[g]) ∨ (g.kind ≠ 1/\Pth L g.b g.a p/\Opn z L g.b p)
structure MtF (z:Int) (L G:List GAtom) (f:GAtom->List GAtom):Prop where
 ok:∀ g ∈ G,OkA z L g (f g)
 all:(G.flatMap f).Perm L
def MtS (z:Int) (L G:List GAtom):Prop:=∃ f,MtF z L G f
structure Pos (z:Int) (L:List GAtom):Prop where
 nz:∀ x ∈ L,x.a ≠ z
 ap:L.Pairwise fun x y=>x.a ≠ y.a
 kd:∀ x ∈ L,x.kind ≠ 1->x.kind=2
section
variable {z y q:Int} {L M G H:List GAtom} {p:List GAtom} {f:GAtom->List GAtom} {g:GAtom}
theorem Pth.head (h:Pth L y q p):∃ x p',p=x :: p'/\x.a=q/\x ∈ L:=by
 cases h with
 | last h1 h2=>exact ⟨_,_,rfl,rfl,h1⟩
 | step h1 h2 h3=>exact ⟨_,_,rfl,rfl,h1⟩
theorem Pth.ne (h:Pth L y q p):p ≠ []:=by obtain ⟨x,p',rfl,_⟩:=h.head;simp
theorem Pth.sub (h:Pth L y q p):∀ x ∈ p,x ∈ L:=by
 induction h with
 | last h1 h2=>intro x hx;rw [List.mem_singleton] at hx;rw [hx];exact h1
 | step h1 h2 h3 ih =>
  intro x hx
  rcases List.mem_cons.1 hx with e | hx
  ·rw [e];exact h1
  ·exact ih x hx
theorem Pth.mono (h:Pth L y q p) (hs:∀ x ∈ L,x ∈ M):Pth M y q p:=by
 induction h with
 | last h1 h2=>exact .last (hs _ h1) h2
 | step h1 h2 h3 ih=>exact .step (hs _ h1) h2 ih
theorem Pth.fin (h:Pth L y q p):∃ i x,p=i ++ [x]/\x.b=y/\i=p.dropLast:=by
 induction h with
 | @last x h1 h2=>exact ⟨[],x,rfl,h2,rfl⟩
 | @step x p h1 h2 h3 ih =>
  obtain ⟨i,x',e,h,e2⟩:=ih
  refine ⟨x :: i,x',by rw [e];rfl,h,?_⟩
  rw [List.dropLast_cons_of_ne_nil h3.ne,e2]
theorem Pth.inner (h:Pth L y q p) {x:GAtom} (hx:x ∈ p) (hb:x.b ≠ y):x ∈ p.dropLast:=by
 obtain ⟨i,x',e,h1,e2⟩:=h.fin
 rw [← e2]
 rw [e] at hx
 rcases List.mem_append.1 hx with h | h
 ·exact h
 ·rw [List.mem_singleton] at h;rw [h] at hb;exact (hb h1).elim
theorem Pth.next (h:Pth L y q p) {x:GAtom} (hx:x ∈ p) (hb:x.b ≠ y):∃ x' ∈ p.tail,x'.a=x.b:=by
 induction h with
 | last h1 h2=>rw [List.mem_singleton] at hx;rw [hx] at hb;exact (hb h2).elim
 | @step x0 p h1 h2 h3 ih =>
  rcases List.mem_cons.1 hx with rfl | hx
  ·obtain ⟨x',p',rfl,e,_⟩:=h3.head
   exact ⟨x',by simp,e⟩
  ·obtain ⟨x',h5,h6⟩:=ih hx
   exact ⟨x',List.mem_of_mem_tail h5,h6⟩
theorem Pth.cat {p2:List GAtom} {y2:Int} (h:Pth L y2 q p) (hn:∀ x ∈ p,x.b ≠ y) (h2:Pth L y y2 p2):Pth L y q (p ++ p2):=by
 induction h with
 | last h1 e=>subst e;exact .step h1 (hn _ (by simp)) h2
 | step h1 e h3 ih=>exact .step h1 (hn _ (by simp)) (ih fun x hx=>hn x (by simp [hx]))
theorem OkA.pth (h:OkA z L g p):Pth L g.b g.a p:=by
 rcases h with ⟨_,h1,rfl⟩ | ⟨_,h1,_⟩
 ·exact .last h1 rfl
 ·exact h1
theorem OkA.mono (h:OkA z L g p) (hs:∀ x ∈ L,x ∈ M):OkA z M g p:=by
 rcases h with ⟨h0,h1,h2⟩ | ⟨h0,h1,h2⟩
 ·exact .inl ⟨h0,hs _ h1,h2⟩
 ·refine .inr ⟨h0,h1.mono hs,?_⟩
  rcases h2 with h | ⟨x,hx,e⟩ | h
  ·exact .inl h
  ·exact .inr (.inl ⟨x,hs _ hx,e⟩)
  ·exact .inr (.inr h)
theorem pw_perm {l l':List GAtom} (h:l.Perm l'):(l.Pairwise fun x y=>x.a ≠ y.a) ↔ l'.Pairwise fun x y=>x.a ≠ y.a:=h.pairwise_iff fun h e=>h e.symm
theorem mts_self (h:G.Perm L):MtS z L G:=by
 refine ⟨fun x=>[x],fun g hg=>?_,?_⟩
 ·by_cases hk:g.kind=1
  ·exact .inl ⟨hk,h.mem_iff.1 hg,rfl⟩
  ·exact .inr ⟨hk,.last (h.mem_iff.1 hg) rfl,.inr (.inr fun x hx=>by cases hx)⟩
 ·have:G.flatMap (fun x=>[x])=G:=by induction G <;> simp_all
  rw [this]
  exact h
theorem MtF.used (h:MtF z L G f) (hL:Pos z L):(G.flatMap f).Pairwise fun x y=>x.a ≠ y.a:=(pw_perm h.all).2 hL.ap
theorem MtF.parts (h:MtF z L G f) (hL:Pos z L):(∀ g ∈ G,(f g).Pairwise fun x y=>x.a ≠ y.a)/\G.Pairwise fun g g'=>∀ x ∈ f g,∀ x' ∈ f g',x.a ≠ x'.a:=by
 have:=h.used hL
 rw [List.pairwise_flatMap] at this
 exact this
theorem MtF.pos (h:MtF z L G f) (hL:Pos z L) (hk:∀ x ∈ G,x.kind ≠ 1->x.kind=2):Pos z G:=by
 obtain ⟨_,h2⟩:=h.parts hL
 refine ⟨fun g hg=>?_,h2.imp_of_mem fun {g g'} hg hg' h3=>?_,hk⟩
 ·obtain ⟨x,p',_,e,hx⟩:=(h.ok g hg).pth.head
  rw [← e];exact hL.nz x hx
 ·obtain ⟨x,p1,e1,a1,_⟩:=(h.ok g hg).pth.head
  obtain ⟨x',p2,e2,a2,_⟩:=(h.ok g' hg').pth.head
  rw [← a1,← a2]
  exact h3 x (by rw [e1];simp) x' (by rw [e2];simp)
theorem MtF.own (h:MtF z L G f) (hL:Pos z L) {g':GAtom} (hg:g ∈ G) (hg':g' ∈ G) {x x':GAtom} (hx:x ∈ f g) (hx':x' ∈ f g') (e:x.a=x'.a):g=g':=by
 obtain ⟨_,h2⟩:=h.parts hL
 have key:∀ {l:List GAtom},(l.Pairwise fun g g'=>∀ x ∈ f g,∀ x' ∈ f g',x.a ≠ x'.a)->g ∈ l->g' ∈ l->g=g':=by
  intro l hl h1 h2
  induction l with
  | nil=>cases h1
  | cons a l ih =>
   rw [List.pairwise_cons] at hl
   rcases List.mem_cons.1 h1 with e1 | h3 <;> rcases List.mem_cons.1 h2 with e2 | h4
   ·rw [e1,e2]
   ·rw [e1] at hx;exact (hl.1 _ h4 x hx x' hx' e).elim
   ·rw [e2] at hx';exact (hl.1 _ h3 x' hx' x hx e.symm).elim
   ·exact ih hl.2 h3 h4
 exact key h2 hg hg'
theorem mts_frame (hp:Pos z (L ++ M)) (h1:MtS z L G) (h2:MtS z M H):MtS z (L ++ M) (G ++ H):=by
 obtain ⟨f,hf⟩:=h1
 obtain ⟨k,hk⟩:=h2
 classical
 have hap:=List.pairwise_append.1 hp.ap
 have hd:∀ g,g ∈ G->g ∈ H->False:=fun g hg hh=>by
  obtain ⟨x,_,_,a1,m1⟩:=(hf.ok g hg).pth.head
  obtain ⟨x',_,_,a2,m2⟩:=(hk.ok g hh).pth.head
  exact hap.2.2 x m1 x' m2 (a1.trans a2.symm)
 let m:GAtom->List GAtom:=fun g=>if g ∈ G then f g else k g
 have e1:∀ g ∈ G,m g=f g:=fun g hg=>if_pos hg
 have e2:∀ g ∈ H,m g=k g:=fun g hg=>if_neg fun h=>hd g h hg
 refine ⟨m,fun g hg=>?_,?_⟩
 ·rcases List.mem_append.1 hg with h | h
  ·rw [e1 g h];exact (hf.ok g h).mono fun x hx=>by simp [hx]
  ·rw [e2 g h];exact (hk.ok g h).mono fun x hx=>by simp [hx]
 ·rw [List.flatMap_append]
  have c1:G.flatMap m=G.flatMap f:=by
   rw [List.flatMap_def,List.flatMap_def,List.map_congr_left e1]
  have c2:H.flatMap m=H.flatMap k:=by
   rw [List.flatMap_def,List.flatMap_def,List.map_congr_left e2]
  rw [c1,c2]
  exact hf.all.append hk.all
/-- no atom on a way inside ends at y,when y is where a way in G ends -/
theorem inner_ne (h:MtF z L G f) (hL:Pos z L) (hG:∀ x ∈ G,x.kind ≠ 1->x.kind=2) {p2:List GAtom} (h2:Pth G y q p2) (ho:Opn z G y p2) (hg:g ∈ p2) (hb:g.b ≠ y):∀ x ∈ f g,x.b ≠ y:=by
 intro x hx e
 have hgG:=h2.sub g hg
 have hok:=h.ok g hgG
 have hpth:=hok.pth
 obtain ⟨x',h3,h4⟩:=hpth.next hx (by rw [e];exact hb.symm)
 have hx':x' ∈ f g:=List.mem_of_mem_tail h3
 have hL':x' ∈ L:=hpth.sub x' hx'
 rcases ho with ho | ⟨g',hg',ea⟩ | ho
 ·exact hL.nz x' hL' (by rw [h4,e,ho])
 ·obtain ⟨x2,p',e2,a2,m2⟩:=(h.ok g' hg').pth.head
  have hx2:x2 ∈ f g':=by rw [e2];simp
  have ee:x'.a=x2.a:=by rw [h4,e,a2,ea]
  have:=h.own hL hgG hg' hx' hx2 ee
  subst this
  have hpw:=(h.parts hL).1 g hgG
  rw [e2,List.pairwise_cons] at hpw
  rw [e2] at h3
  exact hpw.1 x' h3 ee.symm
 ·have hk:=ho g (h2.inner hg hb)
  rcases hok with ⟨_,_,e1⟩ | ⟨hk1,_,_⟩
  ·rw [e1,List.mem_singleton] at hx
   rw [hx] at e
   exact hb e
  ·exact hk (hG g hgG hk1)
theorem pth_cat (h:MtF z L G f) {p2:List GAtom} (h2:Pth G y q p2) (hn:∀ g ∈ p2,g.b ≠ y->∀ x ∈ f g,x.b ≠ y):Pth L y q (p2.flatMap f):=by
 induction h2 with
 | @last x h1 e =>
  have:=(h.ok x h1).pth
  rw [e] at this
  simpa using this
 | @step x p h1 e h3 ih =>
  rw [List.flatMap_cons]
  exact (h.ok x h1).pth.cat (hn x (by simp) e) (ih fun g hg=>hn g (by simp [hg]))
theorem opn_cat (h:MtF z L G f) (hL:Pos z L) (hG:∀ x ∈ G,x.kind ≠ 1->x.kind=2) {p2:List GAtom} (h2:Pth G y q p2) (ho:Opn z G y p2):Opn z L y (p2.flatMap f):=by
 rcases ho with ho | ⟨g',hg',ea⟩ | ho
 ·exact .inl ho
 ·obtain ⟨x2,p',e2,a2,m2⟩:=(h.ok g' hg').pth.head
  exact .inr (.inl ⟨x2,m2,a2.trans ea⟩)
 ·obtain ⟨i,gl,e,eb,ei⟩:=h2.fin
  have hi:∀ g ∈ i,f g=[g]/\g.kind=1:=fun g hg=>by
   have hgG:g ∈ G:=h2.sub g (by rw [e];simp [hg])
   rcases h.ok g hgG with ⟨k1,_,e1⟩ | ⟨k1,_,_⟩
   ·exact ⟨e1,k1⟩
   ·exact (ho g (by rw [← ei];exact hg) (hG g hgG k1)).elim
  have hflat:i.flatMap f=i:=by
   have:∀ l:List GAtom,(∀ g ∈ l,f g=[g])->l.flatMap f=l:=by
    intro l hl
    induction l with
    | nil=>rfl
    | cons a l ih=>rw [List.flatMap_cons,hl a (by simp),ih fun g hg=>hl g (by simp [hg])];rfl
   exact this i fun g hg=>(hi g hg).1
  have hglG:gl ∈ G:=h2.sub gl (by rw [e];simp)
  have hgl:=h.ok gl hglG
  have hne:f gl ≠ []:=hgl.pth.ne
  have hdl:(p2.flatMap f).dropLast=i ++ (f gl).dropLast:=by
   rw [e,List.flatMap_append,hflat]
   simp only [List.flatMap_cons,List.flatMap_nil,List.append_nil]
   rw [List.dropLast_append_of_ne_nil hne]
  rcases hgl with ⟨_,_,e1⟩ | ⟨_,_,ho2⟩
  ·refine .inr (.inr fun x hx=>?_)
   rw [hdl,e1] at hx
   simp only [List.dropLast_singleton,List.append_nil] at hx
   rw [(hi x hx).2];decide
  ·rw [eb] at ho2
   rcases ho2 with h | h | h
   ·exact .inl h
   ·exact .inr (.inl h)
   ·refine .inr (.inr fun x hx=>?_)
    rw [hdl] at hx
    rcases List.mem_append.1 hx with hx | hx
    ·rw [(hi x hx).2];decide
    ·exact h x hx
theorem mts_trans (hL:Pos z L) (hG:∀ x ∈ G,x.kind ≠ 1->x.kind=2) (h1:MtS z L G) (h2:MtS z G H):MtS z L H:=by
 obtain ⟨f,hf⟩:=h1
 obtain ⟨k,hk⟩:=h2
 refine ⟨fun h=>(k h).flatMap f,fun h hh=>?_,?_⟩
 ·rcases hk.ok h hh with ⟨k1,m1,e1⟩ | ⟨k1,p1,o1⟩
  ·show OkA z L h ((k h).flatMap f)
   rw [e1]
   simp only [List.flatMap_cons,List.flatMap_nil,List.append_nil]
   exact hf.ok h m1
  ·exact .inr ⟨k1,pth_cat hf p1 fun g hg hb=>inner_ne hf hL hG p1 o1 hg hb,opn_cat hf hL hG p1 o1⟩
 ·show (H.flatMap fun h=>(k h).flatMap f).Perm L
  rw [← List.flatMap_assoc]
  exact (hk.all.flatMap_right f).trans hf.all
theorem Pth.map {φ:GAtom->GAtom} {n:Int->Int} (ha:∀ x ∈ L,(φ x).a=n x.a/\(φ x).b=n x.b) (hy:∀ x ∈ L,x.b ≠ y->n x.b ≠ n y) (h:Pth L y q p):Pth (L.map φ) (n y) (n q) (p.map φ):=by
 induction h with
 | @last x h1 e =>
  rw [← (ha x h1).1]
  exact .last (List.mem_map_of_mem h1) (by rw [(ha x h1).2,e])
 | @step x p h1 e h3 ih =>
  rw [← (ha x h1).1]
  rw [← (ha x h1).2] at ih
  exact .step (List.mem_map_of_mem h1) (by rw [(ha x h1).2];exact hy x h1 e) ih
theorem mts_map {φ:GAtom->GAtom} {n:Int->Int} (hφ:∀ x,φ x=⟨x.kind,n x.a,n x.b⟩) (V:Int->Prop) (hn:∀ s t,V s->V t->n s=n t->s=t) (hL:∀ x ∈ L,V x.a/\V x.b) (hG:∀ x ∈ G,V x.a/\V x.b) (hz:V z) (h:MtS z L G):MtS (n z) (L.map φ) (G.map φ):=by
 obtain ⟨f,hf⟩:=h
 classical
 have inj:∀ x ∈ G,∀ x' ∈ G,φ x=φ x'->x=x':=fun x hx x' hx' e=>by
  rw [hφ,hφ] at e
  injection e with e1 e2 e3
  have h1:=hn _ _ (hG x hx).1 (hG x' hx').1 e2
  have h2:=hn _ _ (hG x hx).2 (hG x' hx').2 e3
  cases x;cases x';simp_all
 let k:GAtom->List GAtom:=fun g=>if h:∃ x ∈ G,φ x=g then (f h.choose).map φ else []
 have hk:∀ x ∈ G,k (φ x)=(f x).map φ:=fun x hx=>by
  have he:∃ x' ∈ G,φ x'=φ x:=⟨x,hx,rfl⟩
  show (if h:∃ x' ∈ G,φ x'=φ x then (f h.choose).map φ else [])=_
  rw [dif_pos he,inj _ he.choose_spec.1 _ hx he.choose_spec.2]
 refine ⟨k,fun g hg=>?_,?_⟩
 ·obtain ⟨x,hx,rfl⟩:=List.mem_map.1 hg
  rw [hk x hx]
  rcases hf.ok x hx with ⟨k1,m1,e1⟩ | ⟨k1,p1,o1⟩
  ·exact .inl ⟨by rw [hφ];exact k1,List.mem_map_of_mem m1,by rw [e1];rfl⟩
  ·refine .inr ⟨by rw [hφ];exact k1,?_,?_⟩
   ·have:=p1.map (φ:=φ) (n:=n) (fun x _=>by rw [hφ];exact ⟨rfl,rfl⟩) fun x' hx' hb e=>hb (hn _ _ (hL x' hx').2 (hG x hx).2 e)
    rw [hφ x]
    exact this
   ·rw [hφ x]
    rcases o1 with o | ⟨x',hx',e⟩ | o
    ·exact .inl (congrArg n o)
    ·exact .inr (.inl ⟨φ x',List.mem_map_of_mem hx',by rw [hφ];exact congrArg n e⟩)
    ·refine .inr (.inr fun x' hx'=>?_)
     rw [← List.map_dropLast] at hx'
     obtain ⟨x2,hx2,rfl⟩:=List.mem_map.1 hx'
     rw [hφ];exact o x2 hx2
 ·have e:(G.map φ).flatMap k=(G.flatMap f).map φ:=by
   rw [List.flatMap_map,List.map_flatMap,List.flatMap_def,List.flatMap_def,List.map_congr_left hk]
  rw [e]
  exact hf.all.map φ
end
end Go.SE

namespace Go.SE
open Go.RowKit
def sel:List GAtom->List Bool->List GAtom
 | x :: l,b :: u=>cond b (x :: sel l u) (sel l u)
 | _,_=>[]
def noHi (l:List GAtom) (u:List Bool):Prop:=∀ i,l.length<=i->u.getD i false=false
theorem noHi_tail {x:GAtom} {b:Bool} {l:List GAtom} {u:List Bool} (h:noHi (x :: l) (b :: u)):noHi l u:=fun i hi=>by
 have:=h (i+1) (by simp;omega)
 simpa using this
theorem noHi_set {l:List GAtom} {u:List Bool} {i:Nat} (h:noHi l u) (hi:i < l.length):noHi l (u.set i true):=fun j hj=>by
 rw [List.getD_eq_getElem?_getD,List.getElem?_set_ne (by omega),← List.getD_eq_getElem?_getD]
 exact h j hj
theorem sel_set:∀ {l:List GAtom} {u:List Bool} {i:Nat},i < l.length->i < u.length->u.getD i false=false->(sel l (u.set i true)).Perm (l.getD i nA :: sel l u):=by
 intro l
 induction l with
 | nil=>intro u i h;simp at h
 | cons x l ih =>
  intro u i h1 h2 h3
  cases u with
  | nil=>simp at h2
  | cons b u =>
   cases i with
   | zero =>
    have:b=false:=h3
    subst this
    exact .refl _
   | succ i =>
    have:=ih (u:=u) (i:=i) (by simpa using h1) (by simpa using h2) (by simpa using h3)
    cases b
    ·exact this
    ·show (x :: sel l (u.set i true)).Perm (l.getD i nA :: x :: sel l u)
     exact (this.cons x).trans (.swap _ _ _)
theorem sel_cnt:∀ {l:List GAtom} {u:List Bool},noHi l u->cnt u=((sel l u).length:Nat):=by
 intro l
 induction l with
 | nil =>
  intro u h
  have:u.filter id=[]:=by
   rw [List.filter_eq_nil_iff]
   intro b hb
   obtain ⟨i,hi,e⟩:=List.getElem_of_mem hb
   have:=h i (by simp)
   rw [List.getD_eq_getElem?_getD,List.getElem?_eq_getElem hi,Option.getD_some,e] at this
   simp [this]
  unfold cnt
  rw [this]
  cases u <;> rfl
 | cons x l ih =>
  intro u h
  cases u with
  | nil=>rfl
  | cons b u =>
   have:=ih (noHi_tail h)
   unfold cnt at this ⊢
   cases b
   ·exact this
   ·simp only [sel,cond_true,List.filter_cons,id,if_true,List.length_cons]
    omega
theorem sel_sub:∀ {l:List GAtom} {u:List Bool},(sel l u).Sublist l:=by
 intro l
 induction l with
 | nil=>intro u;cases u <;> exact .slnil
 | cons x l ih =>
  intro u
  cases u with
  | nil=>exact List.nil_sublist _
  | cons b u=>cases b
              ·exact (ih (u:=u)).cons x
              ·exact (ih (u:=u)).cons_cons x
theorem sel_zero:∀ {l:List GAtom} {u:List Bool},(∀ b ∈ u,b=false)->sel l u=[]:=by
 intro l
 induction l with
 | nil=>intro u _;cases u <;> rfl
 | cons x l ih =>
  intro u h
  cases u with
  | nil=>rfl
  | cons b u =>
   rw [h b (by simp)] at *
   exact ih fun b' hb=>h b' (by simp [hb])
theorem sel_get:∀ {l:List GAtom} {u:List Bool} {i:Nat},i < l.length->u.getD i false=true->l.getD i nA ∈ sel l u:=by
 intro l
 induction l with
 | nil=>intro u i h;simp at h
 | cons x l ih =>
  intro u i h1 h2
  cases u with
  | nil=>simp at h2
  | cons b u =>
   cases i with
   | zero =>
    have:b=true:=h2
    subst this
    simp [sel]
   | succ i =>
    have:=ih (u:=u) (i:=i) (by simpa using h1) (by simpa using h2)
    cases b
    ·exact this
    ·exact List.mem_cons_of_mem _ this
section
variable {l g:List GAtom} {u:List Bool} {q y:Int} {x:GAtom}
theorem getD_memA {i:Nat} (h:i < l.length):l.getD i nA ∈ l:=by
 rw [List.getD_eq_getElem?_getD,List.getElem?_eq_getElem h];exact List.getElem_mem h
theorem clB_iff:clB l y=true ↔ y=0 ∨ ∃ x ∈ l,x.a=y:=by
 unfold clB bgn
 rw [Bool.or_eq_true,beq_iff_eq,List.any_eq_true]
 exact or_congr_right ⟨fun ⟨x,h1,h2⟩=>⟨x,h1,by simpa using h2⟩,fun ⟨x,h1,h2⟩=>⟨x,h1,by simpa using h2⟩⟩
theorem opn_iff {p:List GAtom}:Opn 0 l y p ↔ clB l y=true ∨ ∀ x ∈ p.dropLast,x.kind ≠ 2:=by
 rw [clB_iff];unfold Opn;rw [or_assoc]
theorem chn_fwd:∀ (f:Nat) (u:List Bool) (q:Int) (us us':List Int),u.length=6->l.length<=6->noHi l u->(chn l y f u q us).2=some us' ->
  ∃ p,Pth l y q p/\Opn 0 l y p/\(sel l (chn l y f u q us).1).Perm (p ++ sel l u)/\noHi l (chn l y f u q us).1:=by
 intro f
 induction f with
 | zero=>intro u q us us' _ _ _ h;cases h
 | succ f ih =>
  intro u q us us' hu hl hh h
  simp only [chn] at h ⊢
  cases hq:uaO l u q with
  | none=>rw [hq] at h;cases h
  | some i =>
   rw [hq] at h
   obtain ⟨h1,h2,h3⟩:=uaO_spec hq
   have hm:=getD_memA h1
   have hs:=sel_set (u:=u) h1 (by omega) h3
   simp only at h ⊢
   by_cases e1:(l.getD i nA).b=y
   ·rw [if_pos e1] at h ⊢
    exact ⟨[l.getD i nA],h2 ▸ .last hm e1,opn_iff.2 (.inr fun x hx=>by cases hx),hs,noHi_set hh h1⟩
   ·rw [if_neg e1] at h ⊢
    by_cases e2:(l.getD i nA).kind=2/\clB l y=false
    ·rw [if_pos e2] at h;cases h
    ·rw [if_neg e2] at h ⊢
     obtain ⟨p,h5,h6,h7,h8⟩:=ih (u.set i true) _ _ us' (by simpa using hu) hl (noHi_set hh h1) h
     refine ⟨l.getD i nA :: p,h2 ▸ .step hm e1 h5,?_,?_,h8⟩
     ·rw [opn_iff] at h6 ⊢
      rcases h6 with h6 | h6
      ·exact .inl h6
      ·by_cases hc:clB l y=true
       ·exact .inl hc
       ·refine .inr fun x hx=>?_
        rw [List.dropLast_cons_of_ne_nil h5.ne] at hx
        rcases List.mem_cons.1 hx with rfl | hx
        ·intro hk;exact e2 ⟨hk,by simpa using hc⟩
        ·exact h6 x hx
     ·refine h7.trans ?_
      rw [List.cons_append]
      exact (hs.append_left p).trans List.perm_middle
theorem mcF_fwd:∀ (g:List GAtom) (u u':List Bool),u.length=6->l.length<=6->noHi l u->mcF l g u=some u' ->
  ∃ ps:List (List GAtom),ps.length=g.length/\(∀ t ∈ g.zip ps,OkA 0 l t.1 t.2)/\(sel l u').Perm (ps.flatten ++ sel l u)/\noHi l u':=by
 intro g
 induction g with
 | nil =>
  intro u u' _ _ hh h
  injection h with h
  subst h
  exact ⟨[],rfl,(fun t ht=>by cases ht),.refl _,hh⟩
 | cons x g ih =>
  intro u u' hu hl hh h
  simp only [mcF] at h
  cases hb:useB l u x with
  | false=>rw [hb] at h;cases h
  | true =>
   rw [hb,cond_true] at h
   have key:∃ p,OkA 0 l x p/\(sel l (useU l u x)).Perm (p ++ sel l u)/\noHi l (useU l u x):=by
    by_cases hk:x.kind=1
    ·rw [(use_cell hk).1] at hb
     rw [(use_cell hk).2]
     unfold ucB at hb
     unfold ucU
     cases hq:ucO l u x with
     | none=>rw [hq] at hb;cases hb
     | some i =>
      unfold ucO at hq
      cases hw:uaO l u x.a with
      | none=>rw [hw] at hq;cases hq
      | some j =>
       rw [hw] at hq
       have hq:cond (decide (l.getD j nA=x)) (some j) none=some i:=hq
       obtain ⟨h1,h2,h3⟩:=uaO_spec hw
       by_cases e:l.getD j nA=x
       ·rw [decide_eq_true e] at hq
        injection hq with hq
        subst hq
        have hm:=getD_memA h1
        rw [e] at hm
        refine ⟨[x],.inl ⟨hk,hm,rfl⟩,?_,noHi_set hh h1⟩
        have:=sel_set (u:=u) h1 (by omega) h3
        rw [e] at this
        exact this
       ·rw [decide_eq_false e] at hq;cases hq
    ·rw [(use_chain hk).1] at hb
     rw [(use_chain hk).2]
     unfold chB at hb
     unfold chU
     obtain ⟨us',hs⟩:=Option.isSome_iff_exists.1 hb
     obtain ⟨p,h1,h2,h3,h4⟩:=chn_fwd 7 u x.a [] us' hu hl hh hs
     exact ⟨p,.inr ⟨hk,h1,h2⟩,h3,h4⟩
   obtain ⟨p,h1,h2,h3⟩:=key
   obtain ⟨ps,h4,h5,h6,h7⟩:=ih (useU l u x) u' (useU_len.trans hu) hl h3 h
   refine ⟨p :: ps,by simp [h4],fun t ht=>?_,?_,h7⟩
   ·rw [List.zip_cons_cons] at ht
    rcases List.mem_cons.1 ht with e | ht
    ·rw [e];exact h1
    ·exact h5 t ht
   ·refine h6.trans ?_
    rw [List.flatten_cons]
    refine (h2.append_left _).trans ?_
    rw [← List.append_assoc]
    exact (List.perm_append_comm).append_right _
theorem zip_fun (hL:Pos 0 l):∀ {g:List GAtom} {ps:List (List GAtom)},ps.length=g.length->(∀ t ∈ g.zip ps,OkA 0 l t.1 t.2)->(ps.flatten.Pairwise fun x y=>x.a ≠ y.a)->∃ f:GAtom->List GAtom,(∀ x ∈ g,OkA 0 l x (f x))/\g.flatMap f=ps.flatten/\∀ x ∈ g,∃ y ∈ ps.flatten,y.a=x.a:=by
 intro g
 induction g with
 | nil =>
  intro ps h _ _
  have:ps=[]:=List.length_eq_zero_iff.1 h
  subst this
  exact ⟨fun _=>[],(fun x hx=>by cases hx),rfl,(fun x hx=>by cases hx)⟩
 | cons x g ih =>
  intro ps h1 h2 h3
  cases ps with
  | nil=>cases h1
  | cons p ps =>
   rw [List.flatten_cons,List.pairwise_append] at h3
   rw [List.zip_cons_cons] at h2
   obtain ⟨f,hf,he,hs⟩:=ih (by simpa using h1) (fun t ht=>h2 t (List.mem_cons_of_mem _ ht)) h3.2.1
   have hp:OkA 0 l x p:=h2 (x,p) (by simp)
   obtain ⟨y,p',e,ea,_⟩:=hp.pth.head
   have hy:y ∈ p:=by rw [e];simp
   have hx:x ∉ g:=fun hx=>by
    obtain ⟨y',h4,h5⟩:=hs x hx
    exact h3.2.2 y hy y' h4 (ea.trans h5.symm)
   classical
   have e1:∀ x' ∈ g,(if x'=x then p else f x')=f x':=fun x' hx'=>if_neg fun e=>hx (by rw [← e];exact hx')
   refine ⟨fun x'=>if x'=x then p else f x',fun x' hx'=>?_,?_,fun x' hx'=>?_⟩
   ·rcases List.mem_cons.1 hx' with rfl | hx'
    ·show OkA 0 l x' (if x'=x' then p else f x')
     rw [if_pos rfl];exact hp
    ·show OkA 0 l x' (if x'=x then p else f x')
     rw [e1 x' hx'];exact hf x' hx'
   ·rw [List.flatMap_cons,List.flatten_cons,if_pos rfl,← he,List.flatMap_def,List.flatMap_def,List.map_congr_left e1]
   ·rcases List.mem_cons.1 hx' with rfl | hx'
    ·exact ⟨y,by simp [hy],ea⟩
    ·obtain ⟨y',h4,h5⟩:=hs x' hx'
     exact ⟨y',by rw [List.flatten_cons];simp [h4],h5⟩
theorem u0_noHi:noHi l u0:=fun i _=>by
 match i with
 | 0=>rfl
 | 1=>rfl
 | 2=>rfl
 | 3=>rfl
 | 4=>rfl
 | 5=>rfl
 | i+6=>rfl
theorem u0_sel:sel l u0=[]:=sel_zero fun b hb=>by
 unfold u0 six at hb
 simp only [List.mem_cons,List.not_mem_nil,or_false,or_self] at hb
 exact hb
theorem mcM_fwd (hL:Pos 0 l) (hl:l.length<=6) (h:mcM l g=true):MtS 0 l g:=by
 unfold mcM at h
 cases hm:mcF l g u0 with
 | none=>rw [hm] at h;cases h
 | some u =>
  rw [hm] at h
  obtain ⟨ps,h1,h2,h3,h4⟩:=mcF_fwd g u0 u rfl hl u0_noHi hm
  rw [u0_sel,List.append_nil] at h3
  have hc:cnt u=(l.length:Nat):=by simpa using h
  rw [sel_cnt h4] at hc
  have he:sel l u=l:=sel_sub.eq_of_length (by omega)
  rw [he] at h3
  obtain ⟨f,hf,e,_⟩:=zip_fun hL h1 h2 ((pw_perm h3).1 hL.ap)
  exact ⟨f,hf,by rw [e];exact h3.symm⟩
theorem find_at (hL:Pos 0 l) {R:List GAtom} (hp:(sel l u ++ x :: R).Perm l):∃ i,uaO l u x.a=some i/\i < l.length/\l.getD i nA=x/\u.getD i false=false:=by
 have hx:x ∈ l:=hp.mem_iff.1 (by simp)
 obtain ⟨i,hi,e⟩:=List.getElem_of_mem hx
 have eD:l.getD i nA=x:=by rw [List.getD_eq_getElem?_getD,List.getElem?_eq_getElem hi,Option.getD_some,e]
 have hu:u.getD i false=false:=by
  cases hb:u.getD i false with
  | false=>rfl
  | true =>
   have hm:=sel_get hi hb
   rw [eD] at hm
   have:=(pw_perm hp).2 hL.ap
   rw [List.pairwise_append] at this
   exact (this.2.2 x hm x (by simp) rfl).elim
 refine ⟨i,?_,hi,eD,hu⟩
 unfold uaO
 rw [List.find?_range_eq_some]
 refine ⟨by unfold uaP;rw [eD,hu];simp,List.mem_range.2 hi,fun j hj=>?_⟩
 have hjl:j < l.length:=by omega
 have hne:=List.pairwise_iff_getElem.1 hL.ap j i hjl hi hj
 rw [e] at hne
 unfold uaP
 have:l.getD j nA=l[j]:=by rw [List.getD_eq_getElem?_getD,List.getElem?_eq_getElem hjl,Option.getD_some]
 rw [this,beq_eq_false_iff_ne.2 hne]
 rfl
theorem chn_bwd (hL:Pos 0 l) {p:List GAtom} (hp:Pth l y q p):∀ (f:Nat) (u:List Bool) (us:List Int) (R:List GAtom),u.length=6->l.length<=6->noHi l u->p.length<=f->Opn 0 l y p->(sel l u ++ (p ++ R)).Perm l ->
  (chn l y f u q us).2.isSome=true/\(sel l (chn l y f u q us).1).Perm (sel l u ++ p)/\noHi l (chn l y f u q us).1:=by
 induction hp with
 | @last x h1 e =>
  intro f u us R hu hl hh hf _ hr
  obtain ⟨i,h2,h3,h4,h5⟩:=find_at (x:=x) (R:=R) hL hr
  have hs:=sel_set (u:=u) h3 (by omega) h5
  cases f with
  | zero=>simp at hf
  | succ f =>
   simp only [chn]
   rw [h2]
   simp only
   rw [if_pos (by rw [h4];exact e)]
   rw [h4] at hs
   exact ⟨rfl,hs.trans (List.perm_append_singleton _ _).symm,noHi_set hh h3⟩
 | @step x p h1 e h3 ih =>
  intro f u us R hu hl hh hf ho hr
  obtain ⟨i,h2,h3',h4,h5⟩:=find_at (x:=x) (R:=p ++ R) hL (by simpa using hr)
  have hs:=sel_set (u:=u) h3' (by omega) h5
  cases f with
  | zero=>simp at hf
  | succ f =>
   simp only [chn]
   rw [h2]
   simp only
   rw [if_neg (by rw [h4];exact e)]
   rw [h4] at hs ⊢
   have ho':=opn_iff.1 ho
   rw [List.dropLast_cons_of_ne_nil h3.ne] at ho'
   rw [if_neg (fun ⟨k1,k2⟩=>ho'.elim (fun h=>by rw [k2] at h;cases h) fun h=>h x (by simp) k1)]
   have ho2:Opn 0 l y p:=opn_iff.2 (ho'.imp id fun h x' hx'=>h x' (by simp [hx']))
   have hr2:(sel l (u.set i true) ++ (p ++ R)).Perm l:=by
    refine .trans ?_ hr
    refine (hs.append_right _).trans ?_
    simp only [List.cons_append]
    exact List.perm_middle.symm
   obtain ⟨a1,a2,a3⟩:=ih f (u.set i true) (us ++ [(i:Int)]) R (by simpa using hu) hl (noHi_set hh h3') (by simpa using hf) ho2 hr2
   refine ⟨a1,a2.trans ?_,a3⟩
   refine (hs.append_right _).trans ?_
   simp only [List.cons_append]
   exact List.perm_middle.symm
theorem mcF_bwd (hL:Pos 0 l) {f:GAtom->List GAtom}:∀ (g:List GAtom) (u:List Bool),u.length=6->l.length<=6->noHi l u->(∀ x ∈ g,OkA 0 l x (f x))->(sel l u ++ g.flatMap f).Perm l ->
  ∃ u',mcF l g u=some u'/\(sel l u').Perm l/\noHi l u':=by
 intro g
 induction g with
 | nil =>
  intro u _ _ hh _ hp
  exact ⟨u,rfl,by simpa using hp,hh⟩
 | cons x g ih =>
  intro u hu hl hh hf hp
  rw [List.flatMap_cons] at hp
  have key:useB l u x=true/\(sel l (useU l u x)).Perm (sel l u ++ f x)/\noHi l (useU l u x):=by
   rcases hf x (by simp) with ⟨k1,m1,e1⟩ | ⟨k1,p1,o1⟩
   ·rw [(use_cell k1).1,(use_cell k1).2]
    rw [e1] at hp ⊢
    obtain ⟨i,h2,h3,h4,h5⟩:=find_at (x:=x) (R:=g.flatMap f) hL hp
    have hq:ucO l u x=some i:=by
     unfold ucO
     rw [h2]
     show cond (decide (l.getD i nA=x)) (some i) none=some i
     rw [decide_eq_true h4];rfl
    unfold ucB ucU
    rw [hq]
    have hs:=sel_set (u:=u) h3 (by omega) h5
    rw [h4] at hs
    exact ⟨rfl,hs.trans (List.perm_append_singleton _ _).symm,noHi_set hh h3⟩
   ·rw [(use_chain k1).1,(use_chain k1).2]
    have hlen:(f x).length<=7:=by
     have:=hp.length_eq
     simp only [List.length_append] at this
     omega
    exact chn_bwd hL p1 7 u [] (g.flatMap f) hu hl hh hlen o1 hp
  obtain ⟨h1,h2,h3⟩:=key
  obtain ⟨u',h4,h5,h6⟩:=ih (useU l u x) (useU_len.trans hu) hl h3 (fun x' hx'=>hf x' (by simp [hx'])) ((h2.append_right _).trans (by rw [List.append_assoc];exact hp))
  refine ⟨u',?_,h5,h6⟩
  simp only [mcF]
  rw [h1,cond_true,h4]
theorem mcM_bwd (hL:Pos 0 l) (hl:l.length<=6) (h:MtS 0 l g):mcM l g=true:=by
 obtain ⟨f,hf⟩:=h
 obtain ⟨u',h1,h2,h3⟩:=mcF_bwd hL g u0 rfl hl u0_noHi hf.ok (by rw [u0_sel];exact hf.all)
 unfold mcM
 rw [h1]
 have:=sel_cnt h3
 have e:=h2.length_eq
 simp only [beq_iff_eq]
 omega
theorem mcM_iff (hL:Pos 0 l) (hl:l.length<=6):mcM l g=true ↔ MtS 0 l g:=⟨mcM_fwd hL hl,mcM_bwd hL hl⟩
end
end Go.SE

namespace Go.SE
open Go.RowKit
section
variable {a:GAsn} {i:Nat}
end
end Go.SE

namespace Go.SE
open Go.RowKit
section
variable {a:GAsn} {i n:Nat}
abbrev cL (a:GAsn):List (List Int):=cond (asV a) (casesF a) []
theorem cL_mem {c:List Int} (h:c ∈ cL a):asV a=true/\c ∈ casesF a:=by
 unfold cL at h
 cases ha:asV a with
 | false=>rw [ha] at h;cases h
 | true=>rw [ha] at h;exact ⟨rfl,h⟩
theorem case_r {c:List Int} (h:c ∈ cL a) {t:Nat} (ht:t < 9) (hh:hz a (fun _=>false) t=true):∃ k:Nat,c.getD t 0=(k:Int)/\k<=t/\c.getD k 0=(k:Int):=by
 obtain ⟨ha,hc⟩:=cL_mem h
 unfold casesF at hc
 rw [casesB_eq (hz_named ha _)] at hc
 exact fEn_root _ 9 0 (List.replicate 9 0) c (by simp) (List.mem_filter.1 hc).1 t (by omega) (by simpa using ht) hh
theorem case_p {c:List Int} (h:c ∈ cL a):possV a (cl c):=by
 obtain ⟨ha,hc⟩:=cL_mem h
 unfold casesF at hc
 rw [casesB_eq (hz_named ha _)] at hc
 obtain ⟨h1,h2⟩:=List.mem_filter.1 hc
 exact (possI_iff (hz_named ha _) h1 rfl).1 h2
end
end Go.SE

namespace Go.SE
open Go.RowKit
end Go.SE

namespace Go.SE
open Go.RowKit
section
variable {s:GState} {a:GAsn} {f:GFact} {x t:Int}
theorem st1_of (h:starOk a ⟨[f],[]⟩=true):asV a=true/\fV f=true/\asV ⟨a.facts ++ [f],a.atoms⟩=true/\starL a ⟨[f],[]⟩=⟨a.facts ++ [f],a.atoms⟩:=by
 have e:starL a ⟨[f],[]⟩=starA a ⟨[f],[]⟩:=by unfold starL;rw [h];rfl
 unfold starOk at h
 simp only [Bool.and_eq_true] at h
 obtain ⟨⟨h1,h2⟩,h3⟩:=h
 have e2:starA a ⟨[f],[]⟩=⟨a.facts ++ [f],a.atoms⟩:=by unfold starA;rw [List.append_nil]
 rw [e2] at h3 e
 have h4:=(asV_facts h2).1
 simp only [List.all_cons,List.all_nil,Bool.and_true] at h4
 exact ⟨h1,h4,h3,e⟩
end
end Go.SE

namespace Go.SE
open Go.RowKit
section
variable {c:List Int}
theorem mdV_bd:∀ (i:Nat),i<=8->∀ j,0<=(mdV c i).1.getD j 0/\(mdV c i).1.getD j 0<=i:=by
 intro i
 induction i with
 | zero =>
  intro _ j
  show 0<=(List.replicate 8 (0:Int)).getD j 0/\(List.replicate 8 (0:Int)).getD j 0<=0
  rw [List.getD_eq_getElem?_getD,List.getElem?_replicate]
  split <;> simp
 | succ i ih =>
  intro hi j
  have hl:=mdV_len c i
  have hn:=mdV_n c i
  have h0:=ih (by omega) j
  simp only [mdV]
  cases (cl c ((i+1:Nat):Int) == ((i+1:Nat):Int)) with
  | true =>
   simp only [cond_true]
   by_cases e:j=i
   ·subst e;rw [getD_set_eq (by omega)];omega
   ·rw [getD_set_ne e];omega
  | false =>
   cases decide (0 < cl c ((i+1:Nat):Int)) with
   | true =>
    simp only [cond_true,cond_false]
    by_cases e:j=i
    ·subst e
     rw [getD_set_eq (by omega)]
     have:=ih (by omega) (cl c ((j+1:Nat):Int) - 1).toNat
     omega
    ·rw [getD_set_ne e];omega
   | false=>simp only [cond_false];omega
theorem mdV_at {i j:Nat} (h:j < i) (hi:i<=8):(mdV c i).1.getD j 0=(mdV c (j+1)).1.getD j 0:=by
 induction i with
 | zero=>omega
 | succ i ih =>
  by_cases e:j=i
  ·subst e;rfl
  ·rw [← ih (by omega) (by omega)]
   simp only [mdV]
   cases (cl c ((i+1:Nat):Int) == ((i+1:Nat):Int)) with
   | true=>simp only [cond_true];rw [getD_set_ne e]
   | false =>
    cases decide (0 < cl c ((i+1:Nat):Int)) with
    | true=>simp only [cond_true,cond_false];rw [getD_set_ne e]
    | false=>rfl
theorem mdV_late:∀ (i j:Nat),i<=j->(mdV c i).1.getD j 0=0:=by
 intro i
 induction i with
 | zero =>
  intro j _
  show (List.replicate 8 (0:Int)).getD j 0=0
  rw [List.getD_eq_getElem?_getD,List.getElem?_replicate]
  split <;> rfl
 | succ i ih =>
  intro j hj
  have e:j ≠ i:=by omega
  have h0:=ih j (by omega)
  simp only [mdV]
  cases (cl c ((i+1:Nat):Int) == ((i+1:Nat):Int)) with
  | true=>simp only [cond_true];rw [getD_set_ne e];exact h0
  | false =>
   cases decide (0 < cl c ((i+1:Nat):Int)) with
   | true=>simp only [cond_true,cond_false];rw [getD_set_ne e];exact h0
   | false=>exact h0
theorem mdV_up:∀ (i d:Nat),(mdV c i).2<=(mdV c (i+d)).2:=by
 intro i d
 induction d with
 | zero=>exact Int.le_refl _
 | succ d ih =>
  refine Int.le_trans ih ?_
  rw [show i+(d+1)=(i+d)+1 by omega]
  simp only [mdV]
  cases (cl c ((i+d+1:Nat):Int) == ((i+d+1:Nat):Int)) with
  | true=>simp only [cond_true];omega
  | false=>cases decide (0 < cl c ((i+d+1:Nat):Int)) <;> simp
theorem mdV_root {j:Nat} (hj:j < 8) (h:c.getD (j+1) 0=(j:Int)+1):(mdV c 8).1.getD j 0=(mdV c j).2+1/\(mdV c (j+1)).2=(mdV c j).2+1:=by
 rw [mdV_at hj (by omega),mdV_eq h]
 exact ⟨getD_set_eq (by rw [mdV_len];exact hj),rfl⟩
theorem mdV_inj {j k:Nat} (hj:j < k) (hk:k < 8) (h1:c.getD (j+1) 0=(j:Int)+1) (h2:c.getD (k+1) 0=(k:Int)+1):(mdV c 8).1.getD j 0 < (mdV c 8).1.getD k 0:=by
 rw [(mdV_root (by omega) h1).1,(mdV_root hk h2).1]
 have:=mdV_up (c:=c) (j+1) (k - (j+1))
 rw [show j+1+(k - (j+1))=k by omega,(mdV_root (by omega) h1).2] at this
 omega
theorem mdV_cls {t:Nat} (ht:t < 9) (h0:c.getD 0 0=0) (hr:∃ k:Nat,c.getD t 0=(k:Int)/\k<=t/\c.getD k 0=(k:Int)):tv (mdV c 8).1 (t:Int)=tv (mdV c 8).1 (c.getD t 0):=by
 obtain ⟨k,e1,e2,e3⟩:=hr
 rw [e1]
 by_cases e:k=t
 ·rw [e]
 ·obtain ⟨j,rfl⟩:∃ j,t=j+1:=⟨t - 1,by omega⟩
  have hne:¬ c.getD (j+1) 0=(j:Int)+1:=by rw [e1];omega
  have l1:tv (mdV c 8).1 ((j+1:Nat):Int)=(mdV c 8).1.getD j 0:=by
   unfold tv;rw [if_neg (by omega),show (((j+1:Nat):Int) - 1).toNat=j by omega]
  rw [l1,mdV_at (by omega) (by omega)]
  by_cases ek:k=0
  ·subst ek
   rw [mdV_no hne (by rw [e1];omega),mdV_late j j (Nat.le_refl _)];rfl
  ·rw [mdV_lt hne (by rw [e1];omega),getD_set_eq (by rw [mdV_len];omega),e1]
   unfold tv
   rw [if_neg (by omega),show ((k:Int) - 1).toNat=k - 1 by omega,mdV_at (i:=j) (by omega) (by omega),mdV_at (i:=8) (by omega) (by omega)]
theorem mdV_eq_iff {k m:Nat} (hk:k < 9) (hm:m < 9) (h1:c.getD k 0=(k:Int)) (h2:c.getD m 0=(m:Int)):tv (mdV c 8).1 (k:Int)=tv (mdV c 8).1 (m:Int) ↔ k=m:=by
 constructor
 ·intro e
  have pos:∀ q:Nat,q ≠ 0->q < 9->c.getD q 0=(q:Int)->tv (mdV c 8).1 (q:Int)=(mdV c 8).1.getD (q - 1) 0/\1<=(mdV c 8).1.getD (q - 1) 0:=fun q q0 q9 hq=>by
   refine ⟨by unfold tv;rw [if_neg (by omega),show ((q:Int) - 1).toNat=q - 1 by omega],?_⟩
   exact (mdV_pos c 8 (q - 1) (by omega) (Nat.le_refl _) (by unfold cl;rw [show ((q - 1+1:Nat):Int)=(q:Int) by omega];simpa using hq)).1
  have z:tv (mdV c 8).1 ((0:Nat):Int)=0:=rfl
  by_cases k0:k=0
  ·by_cases m0:m=0
   ·rw [k0,m0]
   ·have:=pos m m0 hm h2
    rw [k0,z] at e;omega
  ·by_cases m0:m=0
   ·have:=pos k k0 hk h1
    rw [m0,z] at e;omega
   ·have p1:=pos k k0 hk h1
    have p2:=pos m m0 hm h2
    rw [p1.1,p2.1] at e
    rcases Nat.lt_trichotomy k m with h | h | h
    ·have:=mdV_inj (c:=c) (j:=k - 1) (k:=m - 1) (by omega) (by omega) (by rw [show k - 1+1=k by omega];omega) (by rw [show m - 1+1=m by omega];omega)
     omega
    ·exact h
    ·have:=mdV_inj (c:=c) (j:=m - 1) (k:=k - 1) (by omega) (by omega) (by rw [show m - 1+1=m by omega];omega) (by rw [show k - 1+1=k by omega];omega)
     omega
 ·intro e;rw [e]
end
section
variable {V:List Int}
theorem mdS_other {n:Int} (h1:1<=n):∀ (l:List GAtom) (h:List Int),(∀ x ∈ l,1<=tv V x.a/\tv V x.a ≠ n)->(l.foldl (mdS V) h).getD (n - 1).toNat 0=h.getD (n - 1).toNat 0:=by
 intro l
 induction l with
 | nil=>intro h _;rfl
 | cons x l ih =>
  intro h hx
  rw [List.foldl_cons,ih _ fun y hy=>hx y (by simp [hy])]
  have:=hx x (by simp)
  unfold mdS
  exact getD_set_ne (by omega)
theorem mdS_hit:∀ (l:List GAtom) (h:List Int),h.length=8->(∀ x ∈ l,1<=tv V x.a/\tv V x.a<=8)->(l.Pairwise fun x y=>tv V x.a ≠ tv V y.a)->∀ x ∈ l,(l.foldl (mdS V) h).getD (tv V x.a - 1).toNat 0=tv V x.b:=by
 intro l
 induction l with
 | nil=>intro h _ _ _ x hx;cases hx
 | cons y l ih =>
  intro h hl hb hp x hx
  obtain ⟨p1,p2⟩:=List.pairwise_cons.1 hp
  rw [List.foldl_cons]
  rcases List.mem_cons.1 hx with rfl | hx
  ·have hbx:=hb x (by simp)
   rw [mdS_other hbx.1 l _ fun z hz=>⟨(hb z (by simp [hz])).1,fun e=>p1 z hz e.symm⟩]
   unfold mdS
   exact getD_set_eq (by omega)
  ·exact ih _ (by simp [mdS,hl]) (fun z hz=>hb z (by simp [hz])) p2 x hx
end
section
variable {s:GState}
theorem walk_same (q:Int):walk s q 8 q=some []:=by simp [walk]
theorem walk_one {p q:Int} (h:¬ p=q) (hc:ct s p=q) (h0:0<=q):walk s q 8 p=some [p]:=by
 have ha:al s p=true:=by unfold al;rw [hc];exact decide_eq_true h0
 show (if p=q then some [] else cond (al s p) ((walk s q 7 (ct s p)).map (p :: ·)) none)=some [p]
 rw [if_neg h,ha,hc]
 have:walk s q 7 q=some []:=by simp [walk]
 rw [this];rfl
theorem pt_md:∀ (l:List GAtom) (L:List Int),l.all atV=true->(∀ x ∈ filt (tv s.vals) l,ct s (tv s.vals x.a)=tv s.vals x.b/\0<=tv s.vals x.b/\tv s.vals x.a ∉ L)->((filt (tv s.vals) l).Pairwise fun x y=>tv s.vals x.a ≠ tv s.vals y.a) ->
  ptO s L l=some (L ++ (filt (tv s.vals) l).map fun x=>tv s.vals x.a):=by
 intro l
 induction l with
 | nil=>intro L _ _ _;simp [ptO,filt]
 | cons x l ih =>
  intro L hv hx hp
  simp only [List.all_cons,Bool.and_eq_true] at hv
  cases hk:(x.kind == 1 || !(tv s.vals x.a == tv s.vals x.b)) with
  | false =>
   have hf:filt (tv s.vals) (x :: l)=filt (tv s.vals) l:=by unfold filt;rw [List.filter_cons,hk];rfl
   rw [hf] at hx hp ⊢
   simp only [Bool.or_eq_false_iff,Bool.not_eq_false'] at hk
   have e:acO s x=some []:=by
    unfold acO
    have k2:x.kind=2:=by
     have:=hv.1
     unfold atV at this
     simp only [Bool.and_eq_true,Bool.or_eq_true] at this
     rcases this.1.1 with q | q
     ·rw [q] at hk;cases hk.1
     ·simpa using q
    rw [if_pos k2,beq_iff_eq.1 hk.2]
    exact walk_same _
   unfold ptO
   rw [e]
   simp only [List.all_nil,List.nodup_nil,decide_true,Bool.true_and,cond_true,List.append_nil]
   exact ih L hv.2 hx hp
  | true =>
   have hf:filt (tv s.vals) (x :: l)=x :: filt (tv s.vals) l:=by unfold filt;rw [List.filter_cons,hk];rfl
   rw [hf] at hx hp ⊢
   obtain ⟨p1,p2⟩:=List.pairwise_cons.1 hp
   obtain ⟨c1,c2,c3⟩:=hx x (by simp)
   have e:acO s x=some [tv s.vals x.a]:=by
    unfold acO
    by_cases k2:x.kind=2
    ·rw [if_pos k2]
     refine walk_one (fun e=>?_) c1 c2
     rw [k2,e] at hk
     simp at hk
    ·rw [if_neg k2,if_pos c1]
   unfold ptO
   rw [e]
   have h1:([tv s.vals x.a].all (fun n=>!L.contains n) && decide [tv s.vals x.a].Nodup)=true:=by
    have:L.contains (tv s.vals x.a)=false:=con_no.2 c3
    simp [this,c3]
   simp only [h1,cond_true]
   rw [ih (L ++ [tv s.vals x.a]) hv.2 (fun y hy=>?_) p2]
   ·simp
   ·obtain ⟨d1,d2,d3⟩:=hx y (by simp [hy])
    refine ⟨d1,d2,fun hm=>?_⟩
    rcases List.mem_append.1 hm with hm | hm
    ·exact d3 hm
    ·exact p1 y hy (List.mem_singleton.1 hm).symm
end
section
variable {a:GAsn} {c:List Int}
theorem md_named (h:c ∈ cL a) {t:Int} (ht:0<=t/\t<=8/\hz a (fun _=>false) t.toNat=true):tv (mdV c 8).1 t=tv (mdV c 8).1 (cl c t)/\∃ k:Nat,k < 9/\cl c t=(k:Int)/\c.getD k 0=(k:Int):=by
 obtain ⟨h1,h2,h3⟩:=ht
 obtain ⟨k,e1,e2,e3⟩:=case_r h (t:=t.toNat) (by omega) h3
 obtain ⟨k',f1,f2,f3⟩:=case_r h (t:=0) (by omega) rfl
 have z:c.getD 0 0=0:=by rw [f1];omega
 refine ⟨?_,k,by omega,e1,e3⟩
 have:=mdV_cls (c:=c) (t:=t.toNat) (by omega) z ⟨k,e1,e2,e3⟩
 rw [show ((t.toNat:Nat):Int)=t by omega] at this
 exact this
theorem md_iff (h:c ∈ cL a) {s t:Int} (hs:0<=s/\s<=8/\hz a (fun _=>false) s.toNat=true) (ht:0<=t/\t<=8/\hz a (fun _=>false) t.toNat=true):(cl c s == cl c t)=(tv (mdV c 8).1 s == tv (mdV c 8).1 t):=by
 obtain ⟨e1,k,k9,k1,k2⟩:=md_named h hs
 obtain ⟨e2,m,m9,m1,m2⟩:=md_named h ht
 rw [e1,e2,k1,m1,Bool.eq_iff_iff,beq_iff_eq,beq_iff_eq,mdV_eq_iff k9 m9 k2 m2]
 omega
theorem md_poss (h:c ∈ cL a):possV a (tv (mdV c 8).1):=by
 have hn:=hz_named (cL_mem h).1 fun _=>false
 exact possV_congr (fun t=>0<=t/\t<=8/\hz a (fun _=>false) t.toNat=true) (fun s t hs ht=>md_iff h hs ht) ⟨by decide,by decide,rfl⟩
  (fun f hf=>by obtain ⟨a1,a2,a3,a4,a5,a6⟩:=hn.1 f hf;exact ⟨⟨a1,a2,a5⟩,a3,a4,a6⟩) (fun x hx=>by obtain ⟨a1,a2,a3,a4,a5,a6⟩:=hn.2 x hx;exact ⟨⟨a1,a2,a5⟩,a3,a4,a6⟩) (case_p h)
theorem tv_bd {V:List Int} (h:∀ j,0<=V.getD j 0/\V.getD j 0<=8) (t:Int):0<=tv V t/\tv V t<=8:=by
 unfold tv
 split
 ·omega
 ·exact h _
theorem md_bd (t:Int):0<=tv (mdV c 8).1 t/\tv (mdV c 8).1 t<=8:=tv_bd (fun j=>mdV_bd 8 (Nat.le_refl _) j) t
theorem md_heap (h:c ∈ cL a):mdH (mdV c 8).1 (fL c a.atoms)=(filt (tv (mdV c 8).1) a.atoms).foldl (mdS (mdV c 8).1) (List.replicate 8 (-1)):=by
 have hn:=hz_named (cL_mem h).1 fun _=>false
 have nm:∀ x ∈ a.atoms,(0<=x.a/\x.a<=8/\hz a (fun _=>false) x.a.toNat=true)/\(0<=x.b/\x.b<=8/\hz a (fun _=>false) x.b.toNat=true):=fun x hx=>by
  obtain ⟨a1,a2,a3,a4,a5,a6⟩:=hn.2 x hx;exact ⟨⟨a1,a2,a5⟩,a3,a4,a6⟩
 have e1:fL c a.atoms=(filt (tv (mdV c 8).1) a.atoms).map fun x=>(⟨x.kind,cl c x.a,cl c x.b⟩:GAtom):=by
  unfold fL filt
  rw [List.filter_map]
  congr 1
  refine List.filter_congr fun x hx=>?_
  simp only [Function.comp]
  rw [md_iff h (nm x hx).1 (nm x hx).2]
 unfold mdH
 rw [e1,List.foldl_map]
 have key:∀ (l:List GAtom) (h0:List Int),(∀ x ∈ l,x ∈ a.atoms)->l.foldl (fun h x=>mdS (mdV c 8).1 h ⟨x.kind,cl c x.a,cl c x.b⟩) h0=l.foldl (mdS (mdV c 8).1) h0:=by
  intro l
  induction l with
  | nil=>intro h0 _;rfl
  | cons x l ih =>
   intro h0 hl
   have e:mdS (mdV c 8).1 h0 ⟨x.kind,cl c x.a,cl c x.b⟩=mdS (mdV c 8).1 h0 x:=by
    unfold mdS
    simp only
    rw [← (md_named h (nm x (hl x (by simp))).1).1,← (md_named h (nm x (hl x (by simp))).2).1]
   rw [List.foldl_cons,List.foldl_cons,e]
   exact ih _ fun y hy=>hl y (by simp [hy])
 exact key _ _ fun x hx=>(List.mem_filter.1 hx).1
theorem md_stV (h:c ∈ cL a):stV (md a c)=true:=by
 have hp:=md_poss h
 have hl:(mdH (mdV c 8).1 (fL c a.atoms)).length=8:=mdH_len _ _
 have e1:((md a c).vals.length == 8)=true:=by show ((mdV c 8).1.length == 8)=true;rw [mdV_len];rfl
 have e2:((md a c).heap.length == 8)=true:=by show ((mdH (mdV c 8).1 (fL c a.atoms)).length == 8)=true;rw [hl];rfl
 have e3:(md a c).vals.all isT=true:=by
  show (mdV c 8).1.all isT=true
  rw [List.all_eq_true]
  intro x hx
  obtain ⟨j,hj,rfl⟩:=List.getElem_of_mem hx
  have:=mdV_bd (c:=c) 8 (Nat.le_refl _) j
  rw [List.getD_eq_getElem?_getD,List.getElem?_eq_getElem hj] at this
  exact isT_iff.2 this
 have e4:(md a c).heap.all hv=true:=by
  show (mdH (mdV c 8).1 (fL c a.atoms)).all hv=true
  rw [md_heap h]
  have key:∀ (l:List GAtom) (h0:List Int),h0.all hv=true->(l.foldl (mdS (mdV c 8).1) h0).all hv=true:=by
   intro l
   induction l with
   | nil=>intro h0 hh;exact hh
   | cons x l ih =>
    intro h0 hh
    rw [List.foldl_cons]
    refine ih _ ?_
    unfold mdS
    rw [List.all_eq_true] at hh ⊢
    intro y hy
    rcases List.mem_or_eq_of_mem_set hy with hy | hy
    ·exact hh y hy
    ·rw [hy];unfold hv;rw [isT_iff.2 (md_bd x.b)];simp
  exact key _ _ (by decide)
 unfold stV
 rw [e1,e2,e3,e4];rfl
theorem md_ct (h:c ∈ cL a) {n:Int} (h1:1<=n) (h8:n<=8):ct (md a c) n=((filt (tv (mdV c 8).1) a.atoms).foldl (mdS (mdV c 8).1) (List.replicate 8 (-1))).getD (n - 1).toNat 0:=by
 unfold ct
 rw [if_pos ⟨h1,h8⟩]
 show (mdH (mdV c 8).1 (fL c a.atoms)).getD (n - 1).toNat 0=_
 rw [md_heap h]
theorem hol_md (h:c ∈ cL a):HOL (md a c) a=true:=by
 have ha:=(cL_mem h).1
 have hp:=md_poss h
 have hs:=md_stV h
 have hb:∀ x ∈ filt (tv (mdV c 8).1) a.atoms,1<=tv (mdV c 8).1 x.a/\tv (mdV c 8).1 x.a<=8:=fun x hx=>by
  have h1:=hp.nil x hx
  have h2:=md_bd (c:=c) x.a
  have z:tv (mdV c 8).1 0=0:=rfl
  rw [z] at h1
  omega
 have hc:∀ x ∈ filt (tv (mdV c 8).1) a.atoms,ct (md a c) (tv (mdV c 8).1 x.a)=tv (mdV c 8).1 x.b:=fun x hx=>by
  rw [md_ct h (hb x hx).1 (hb x hx).2]
  exact mdS_hit _ _ (by simp) hb hp.apart x hx
 have hpt:ptO (md a c) [] a.atoms=some ([] ++ (filt (tv (mdV c 8).1) a.atoms).map fun x=>tv (mdV c 8).1 x.a) :=
  pt_md (s:=md a c) a.atoms [] (asV_facts ha).2.2.1 (fun x hx=>⟨hc x hx,(md_bd x.b).1,by simp⟩) hp.apart
 have hf:fctB (md a c) a.facts=true:=by
  unfold fctB
  rw [List.all_eq_true]
  intro f hf
  have:=hp.facts f hf
  show ((tv (mdV c 8).1 f.a == tv (mdV c 8).1 f.b) == f.eq)=true
  rw [this];simp
 unfold HOL
 rw [hs,ha,hf,hpt]
 simp only [Bool.true_and,List.nil_append,List.all_eq_true]
 intro n hn
 have hn8:1<=n/\n<=8:=by unfold addrs at hn;simp only [List.mem_cons,List.not_mem_nil,or_false] at hn;omega
 rw [beq_iff_eq,Bool.eq_iff_iff,List.contains_iff_mem,List.mem_map]
 unfold al
 rw [decide_eq_true_eq]
 constructor
 ·rintro ⟨x,hx,rfl⟩
  rw [hc x hx];exact (md_bd x.b).1
 ·intro h0
  by_cases hex:∃ x ∈ filt (tv (mdV c 8).1) a.atoms,tv (mdV c 8).1 x.a=n
  ·exact hex
  ·exfalso
   rw [md_ct h hn8.1 hn8.2,mdS_other hn8.1 _ _ fun x hx=>⟨(hb x hx).1,fun e=>hex ⟨x,hx,e⟩⟩] at h0
   rw [List.getD_eq_getElem?_getD,List.getElem?_replicate,if_pos (by omega)] at h0
   simp at h0
theorem hol_mdL (h:(asV a && !(casesF a).isEmpty)=true):HOL (mdL a) a=true:=by
 simp only [Bool.and_eq_true,Bool.not_eq_true'] at h
 rw [← mdL_yes h.1 h.2 []]
 refine hol_md ?_
 unfold cL
 rw [h.1]
 exact casesF_head h.2
end
end Go.SE

namespace Go.SE
open Go.RowKit
section
variable {a:GAsn} {s:GState}
theorem nfS_all {P:GFact->Bool} (hsw:∀ f,P (nsw f)=P f) (ht:∀ f:GFact,(f.eq && (f.a == f.b))=true->P f=true) (acc:List GFact) (f:GFact):(nfS acc f).all P=(acc.all P && P f):=by
 unfold nfS
 cases h1:(f.eq && (f.a == f.b)) with
 | true=>simp only [cond_true];rw [ht f h1,Bool.and_true]
 | false =>
  cases h2:acc.contains (nsw f) with
  | true =>
   simp only [cond_false,cond_true]
   cases h3:acc.all P with
   | false=>rfl
   | true =>
    have:=List.all_eq_true.1 h3 _ (List.contains_iff_mem.1 h2)
    rw [hsw] at this
    rw [this];rfl
  | false=>simp only [cond_false];rw [List.all_append];simp [hsw]
theorem nfF_all {P:GFact->Bool} (hsw:∀ f,P (nsw f)=P f) (ht:∀ f:GFact,(f.eq && (f.a == f.b))=true->P f=true) (l:List GFact):(nfF l).all P=l.all P:=by
 have key:∀ (l acc:List GFact),(l.foldl nfS acc).all P=(acc.all P && l.all P):=by
  intro l
  induction l with
  | nil=>intro acc;simp
  | cons f l ih=>intro acc;rw [List.foldl_cons,ih,nfS_all hsw ht,List.all_cons,Bool.and_assoc]
 have:=key l []
 unfold nfF;rw [this];rfl
theorem nsw_eqv {v:Int->Int} (f:GFact):((v (nsw f).a == v (nsw f).b) == (nsw f).eq)=((v f.a == v f.b) == f.eq):=by
 unfold nsw
 cases decide (f.b < f.a) with
 | true=>simp only [cond_true];congr 1;rw [Bool.eq_iff_iff,beq_iff_eq,beq_iff_eq];exact eq_comm
 | false=>rfl
theorem triv_eqv {v:Int->Int} (f:GFact) (h:(f.eq && (f.a == f.b))=true):((v f.a == v f.b) == f.eq)=true:=by
 simp only [Bool.and_eq_true,beq_iff_eq] at h
 rw [h.1,h.2];simp
theorem nfF_v {v:Int->Int} (l:List GFact):((nfF l).all fun f=>(v f.a == v f.b) == f.eq)=l.all fun f=>(v f.a == v f.b) == f.eq:=nfF_all nsw_eqv triv_eqv l
theorem nfA_filt {v:Int->Int} (l:List GAtom):filt v (nfA l)=filt v l:=by
 unfold filt nfA
 rw [List.filter_filter]
 refine List.filter_congr fun x _=>?_
 cases h:(x.kind == 2) with
 | false=>simp
 | true =>
  have:(x.kind == 1)=false:=by rw [beq_eq_false_iff_ne];rw [beq_iff_eq] at h;omega
  cases h2:(x.a == x.b) with
  | false=>simp
  | true=>rw [beq_iff_eq] at h2;simp [this,h2]
theorem nfF_pres {P:GFact->Prop} (hsw:∀ f,P f->P (nsw f)):∀ (l acc:List GFact),(∀ f ∈ acc,P f)->(∀ f ∈ l,P f)->∀ f ∈ l.foldl nfS acc,P f:=by
 intro l
 induction l with
 | nil=>intro acc h _;exact h
 | cons g l ih =>
  intro acc h hl
  rw [List.foldl_cons]
  refine ih _ ?_ fun f hf=>hl f (by simp [hf])
  unfold nfS
  cases (g.eq && (g.a == g.b)) with
  | true=>exact h
  | false =>
   cases acc.contains (nsw g) with
   | true=>exact h
   | false =>
    intro f hf
    simp only [cond_false] at hf
    rcases List.mem_append.1 hf with hf | hf
    ·exact h f hf
    ·rw [List.mem_singleton.1 hf];exact hsw g (hl g (by simp))
theorem nsw_fV (f:GFact) (h:fV f=true):fV (nsw f)=true:=by
 unfold nsw
 cases decide (f.b < f.a) with
 | true=>unfold fV at h ⊢;simp only [cond_true];rw [Bool.and_comm];exact h
 | false=>exact h
theorem nf_val (h:asV a=true):asV (nf a)=true:=by
 obtain ⟨h1,h2,h3,h4⟩:=asV_facts h
 have e1:(nfF a.facts).all fV=true:=by
  rw [List.all_eq_true] at h1 ⊢
  exact nfF_pres (P:=fun f=>fV f=true) nsw_fV _ _ (fun f hf=>by cases hf) h1
 have e2:(nfA a.atoms).all atV=true:=by
  rw [List.all_eq_true] at h3 ⊢
  intro x hx
  exact h3 x (List.mem_filter.1 hx).1
 have l1:=nfF_len a.facts
 have l2:=nfA_len a.atoms
 unfold asV fsV nf
 simp only [Bool.and_eq_true,decide_eq_true_eq]
 exact ⟨⟨⟨by omega,e1⟩,by omega⟩,e2⟩
end
end Go.SE
