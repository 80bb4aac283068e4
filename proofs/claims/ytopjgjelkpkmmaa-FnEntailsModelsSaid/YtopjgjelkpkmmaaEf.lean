/-
  Parts of a symbolic engine over the program's code: how operations, regions, loops and calls are shown to keep contracts. No conditions.
-/
import Derived.Test.YtopjgjelkpkmmaaEe
import Derived.Test.YtopjgjelkpkmmaaEc
set_option linter.unusedSimpArgs false
set_option linter.unusedVariables false
set_option linter.unusedSectionVars false

namespace Go.SE
open Go.RowKit
theorem caseOkQ {a:GAsn} {q:Int->Bool} (ha:asV a=true) {c:List Int} (hc:c ∈ casesB a (hz a q)):CaseOk a c:=by
 have hn:=hz_named ha q
 rw [casesB_eq hn] at hc
 obtain ⟨hm,hp⟩:=List.mem_filter.1 hc
 obtain ⟨hl,hv⟩:=fulls_mem hm
 have hle:∀ t:Nat,t < 9->c.getD t 0<=(t:Int):=fun t ht=>by
  have:=hv t ht
  cases hh:hz a q t with
  | true=>rw [hh] at this;simp only [cond_true,Bool.and_eq_true,decide_eq_true_eq] at this;exact this.2
  | false=>rw [hh] at this;simp only [cond_false,beq_iff_eq] at this;omega
 have hpv:=(possI_iff hn hm rfl).1 hp
 have hz0:cl c 0=0:=by
  have:=hv 0 (by decide)
  rw [show hz a q 0=true from rfl] at this
  simp only [cond_true,Bool.and_eq_true,decide_eq_true_eq] at this
  unfold cl
  simp only [Int.toNat_zero]
  omega
 refine ⟨hl,fun t ht=>by unfold cl;simpa using hle t ht,?_,fun x hx=>?_⟩
 ·unfold SE.le8
  rw [List.all_eq_true]
  intro y hy
  obtain ⟨i,hi,rfl⟩:=List.getElem_of_mem hy
  have:=hle i (by omega)
  rw [List.getD_eq_getElem?_getD,List.getElem?_eq_getElem hi] at this
  simp only [Option.getD_some] at this
  simp;omega
 ·unfold fL at hx
  rw [List.mem_filter,List.mem_map] at hx
  obtain ⟨⟨y,hy,rfl⟩,hk⟩:=hx
  obtain ⟨a1,a2,a3,a4,a5,a6⟩:=hn.2 y hy
  have root:∀ t:Int,0<=t->t<=8->hz a q t.toNat=true->∃ k:Nat,cl c t=(k:Int)/\k<=8/\c.getD k 0=(k:Int):=fun t t0 t8 th=>by
   obtain ⟨k,k1,k2,k3⟩:=fEn_root _ 9 0 (List.replicate 9 0) c rfl hm t.toNat (Nat.zero_le _) (by simp;omega) th
   exact ⟨k,k1,by omega,k3⟩
  obtain ⟨k,k1,k2,k3⟩:=root y.a a1 a2 a5
  obtain ⟨m,m1,m2,_⟩:=root y.b a3 a4 a6
  have hne:cl c y.a ≠ 0:=by
   have:=hpv.nil y (List.mem_filter.2 ⟨hy,hk⟩)
   rw [hz0] at this
   exact this
  simp only
  rw [k1,m1]
  have hk0:k ≠ 0:=fun e=>by rw [k1,e] at hne;exact hne rfl
  refine ⟨isT_iff.2 ⟨by omega,by omega⟩,isT_iff.2 ⟨by omega,by omega⟩,?_⟩
  have hpos:=mdV_pos c 8 (k - 1) (by omega) (Nat.le_refl _) (by
   unfold cl
   rw [show ((k - 1+1:Nat):Int)=(k:Int) by omega]
   simpa using k3)
  unfold tv
  rw [if_neg (by omega),show ((k:Int) - 1).toNat=k - 1 by omega]
  exact ⟨hpos.1,hpos.2⟩
section
variable {a b:GAsn} {c:List Int}
theorem md_stVQ:stV (md a c)=true:=by
 have hl:(mdH (mdV c 8).1 (fL c a.atoms)).length=8:=mdH_len _ _
 have e1:((md a c).vals.length == 8)=true:=by show ((mdV c 8).1.length == 8)=true;rw [mdV_len];rfl
 have e2:((md a c).heap.length == 8)=true:=by show ((mdH (mdV c 8).1 (fL c a.atoms)).length == 8)=true;rw [hl];rfl
 have e3:(md a c).vals.all isT=true:=by
  show (mdV c 8).1.all isT=true
  rw [List.all_eq_true]
  intro x hx
  obtain ⟨j,hj,rfl⟩:=List.getElem_of_mem hx
  have:=mdV_bd (c:=c) 8 (Nat.le_refl _) j
  rw [List.getD_eq_getElem?_getD,List.getElem?_eq_getElem hj] at this
  exact isT_iff.2 this
 have e4:(md a c).heap.all hv=true:=by
  show (mdH (mdV c 8).1 (fL c a.atoms)).all hv=true
  have key:∀ (l:List GAtom) (h0:List Int),h0.all hv=true->(l.foldl (mdS (mdV c 8).1) h0).all hv=true:=by
   intro l
   induction l with
   | nil=>intro h0 hh;exact hh
   | cons x l ih =>
    intro h0 hh
    rw [List.foldl_cons]
    refine ih _ ?_
    unfold mdS
    rw [List.all_eq_true] at hh ⊢
    intro y hy
    rcases List.mem_or_eq_of_mem_set hy with hy | hy
    ·exact hh y hy
    ·rw [hy];unfold hv;rw [isT_iff.2 (md_bd x.b)];simp
  exact key _ _ (by decide)
 unfold stV
 rw [e1,e2,e3,e4];rfl
end
def frP (s:GState) (n k:Int):Bool:=!al s k && !(k == n)
def rm (p:Int->Bool) (b:Bool):Nat->Int
 | 0=>0
 | i+1=>cond (p ((i:Int)+1) && (rm p b i == 0 || b)) ((i:Int)+1) (rm p b i)
def room (s:GState) (n:Int) (b:Bool):Int:=rm (frP s n) b 8
def adr (b:Bool) (k:Int):Int:=cond b (9 - k) k
section
variable {s:GState} {n m:Int} {b:Bool} {p:Int->Bool} {i j:Nat}
theorem rm_bd:∀ i,0<=rm p b i/\rm p b i<=i/\(rm p b i=0 ∨ p (rm p b i)=true):=by
 intro i
 induction i with
 | zero=>exact ⟨Int.le_refl _,Int.le_refl _,.inl rfl⟩
 | succ i ih =>
  unfold rm
  cases h:(p ((i:Int)+1) && (rm p b i == 0 || b)) with
  | true =>
   rw [Bool.and_eq_true] at h
   simp only [cond_true]
   exact ⟨by omega,by push_cast;omega,.inr h.1⟩
  | false =>
   simp only [cond_false]
   exact ⟨ih.1,by push_cast;omega,ih.2.2⟩
theorem room_bd:0<=room s n b/\room s n b<=8:=by
 have:=rm_bd (p:=frP s n) (b:=b) 8
 unfold room;omega
theorem room_ok (h:¬ room s n b=0):1<=room s n b/\room s n b<=8/\al s (room s n b)=false/\room s n b ≠ n:=by
 have h2:=room_bd (s:=s) (n:=n) (b:=b)
 have h3:=(rm_bd (p:=frP s n) (b:=b) 8).2.2
 unfold room at h h2 ⊢
 rcases h3 with h3 | h3
 ·exact absurd h3 h
 ·unfold frP at h3
  simp only [Bool.and_eq_true,Bool.not_eq_true',beq_eq_false_iff_ne] at h3
  exact ⟨by omega,by omega,h3.1,h3.2⟩
theorem adr_bd (h:i < 8):1<=adr b ((i:Int)+1)/\adr b ((i:Int)+1)<=8:=by
 unfold adr;cases b <;> simp <;> omega
theorem rmHit (hi:i < 8) (h:∀ j:Nat,j < i->p (adr b ((j:Int)+1))=false) (hp:p (adr b ((i:Int)+1))=true):rm p b 8=adr b ((i:Int)+1):=by
 have h0:=h 0;have h1:=h 1;have h2:=h 2;have h3:=h 3;have h4:=h 4;have h5:=h 5;have h6:=h 6
 have:i=0 ∨ i=1 ∨ i=2 ∨ i=3 ∨ i=4 ∨ i=5 ∨ i=6 ∨ i=7:=by omega
 cases b with
 | true =>
  simp only [adr,cond_true] at *
  rcases this with rfl | rfl | rfl | rfl | rfl | rfl | rfl | rfl <;> simp_all [rm]
 | false =>
  simp only [adr,cond_false] at *
  rcases this with rfl | rfl | rfl | rfl | rfl | rfl | rfl | rfl <;> simp_all [rm]
theorem rmNone (h:∀ j:Nat,j < 8->p (adr b ((j:Int)+1))=false):rm p b 8=0:=by
 have h0:=h 0;have h1:=h 1;have h2:=h 2;have h3:=h 3;have h4:=h 4;have h5:=h 5;have h6:=h 6;have h7:=h 7
 cases b with
 | true=>simp only [adr,cond_true] at *;simp_all [rm]
 | false=>simp only [adr,cond_false] at *;simp_all [rm]
theorem rmY (h1:al s ((i:Int)+1)=false) (h2:¬ (i:Int)+1=n) (h3:rm (frP s n) b i=0 ∨ b=true):rm (frP s n) b (i+1)=(i:Int)+1:=by
 unfold rm frP
 rw [h1,beq_eq_false_iff_ne.2 h2]
 rcases h3 with h3 | h3
 ·unfold frP at h3;rw [h3];rfl
 ·rw [h3];simp
theorem rmN1 (h1:al s ((i:Int)+1)=true):rm (frP s n) b (i+1)=rm (frP s n) b i:=by
 rw [rm];unfold frP;rw [h1];rfl
theorem rmN2 (h1:(i:Int)+1=n):rm (frP s n) b (i+1)=rm (frP s n) b i:=by
 rw [rm];unfold frP;rw [beq_iff_eq.2 h1];simp
theorem rmN3 (h1:¬ rm (frP s n) b i=0) (h2:b=false):rm (frP s n) b (i+1)=rm (frP s n) b i:=by
 rw [rm,beq_eq_false_iff_ne.2 h1,h2];simp
theorem frH (hi:i < 8) (h:∀ j:Nat,j < i->frP s n (adr b ((j:Int)+1))=false) (h1:al s (adr b ((i:Int)+1))=false) (h2:¬ adr b ((i:Int)+1)=n):adr b ((i:Int)+1)=room s n b/\true=!(room s n b == 0):=by
 have hp:frP s n (adr b ((i:Int)+1))=true:=by unfold frP;rw [h1,beq_eq_false_iff_ne.2 h2];rfl
 have e:=rmHit hi h hp
 have:=adr_bd (b:=b) hi
 unfold room
 rw [e]
 refine ⟨rfl,?_⟩
 rw [beq_eq_false_iff_ne.2 (by omega)];rfl
theorem frN0 (h:∀ j:Nat,j < 8->frP s n (adr b ((j:Int)+1))=false):0=room s n b/\false=!(room s n b == 0):=by
 unfold room
 rw [rmNone h]
 exact ⟨rfl,rfl⟩
theorem frS1 (h:∀ j:Nat,j < i->frP s n (adr b ((j:Int)+1))=false) (h1:al s (adr b ((i:Int)+1))=true):∀ j:Nat,j < i+1->frP s n (adr b ((j:Int)+1))=false:=fun j hj=>by
 by_cases e:j=i
 ·rw [e];unfold frP;rw [h1];rfl
 ·exact h j (by omega)
theorem frS2 (h:∀ j:Nat,j < i->frP s n (adr b ((j:Int)+1))=false) (h1:adr b ((i:Int)+1)=n):∀ j:Nat,j < i+1->frP s n (adr b ((j:Int)+1))=false:=fun j hj=>by
 by_cases e:j=i
 ·rw [e];unfold frP;rw [beq_iff_eq.2 h1];simp
 ·exact h j (by omega)
end
def grS (V:List Int) (m:Int) (b:Bool) (s:List Int × Nat × Bool) (x:GAtom):List Int × Nat × Bool :=
 cond (s.2.2 && x.kind == 2) (cond (mbit m s.2.1) (cond (room ⟨V,s.1⟩ (tv V x.b) b == 0) (s.1,s.2.1+1,false) ((s.1.set (tv V x.a - 1).toNat (room ⟨V,s.1⟩ (tv V x.b) b)).set (room ⟨V,s.1⟩ (tv V x.b) b - 1).toNat (tv V x.b),s.2.1+1,true)) (s.1,s.2.1+1,true)) s
def gr (a:GAsn) (c:List Int) (m:Int) (b:Bool) (l:List GAtom):List Int × Nat × Bool:=l.foldl (grS (mdV c 8).1 m b) (mdH (mdV c 8).1 (fL c a.atoms),0,true)
def grL (a:GAsn) (c:List Int) (m:Int) (b:Bool):GState:=⟨(mdV c 8).1,(gr a c m b (fL c a.atoms)).1⟩
def grB (a:GAsn) (c:List Int) (m:Int) (b:Bool):Bool:=(gr a c m b (fL c a.atoms)).2.2
def vrL (a:GAsn) (c:List Int) (m:Int) (b:Bool):GState:=cond (grB a c m b) (grL a c m b) ⟨[],[]⟩
section
variable {a:GAsn} {b:Bool} {c V:List Int} {m n:Int} {l:List GAtom} {i:Nat} {d x:GAtom}
theorem gr_step (h:i < l.length):gr a c m b (l.take (i+1))=grS (mdV c 8).1 m b (gr a c m b (l.take i)) (l.getD i d):=by
 have e:l.take (i+1)=l.take i ++ [l.getD i d]:=by
  rw [List.take_add_one,List.getD_eq_getElem?_getD,List.getElem?_eq_getElem h];rfl
 unfold gr
 rw [e,List.foldl_append];rfl
theorem gr_dead (h:(gr a c m b (l.take i)).2.2=false):(gr a c m b l).1=(gr a c m b (l.take i)).1/\(gr a c m b l).2.2=false:=by
 have key:∀ (r:List GAtom) (s:List Int × Nat × Bool),s.2.2=false->r.foldl (grS (mdV c 8).1 m b) s=s:=by
  intro r
  induction r with
  | nil=>intro s _;rfl
  | cons x r ih =>
   intro s hs
   have e:grS (mdV c 8).1 m b s x=s:=by unfold grS;rw [hs];rfl
   rw [List.foldl_cons,e];exact ih s hs
 have:gr a c m b l=gr a c m b (l.take i):=by
  unfold gr at h ⊢
  conv=>lhs;rw [← List.take_append_drop i l,List.foldl_append]
  exact key _ _ h
 rw [this]
 exact ⟨rfl,h⟩
theorem gr_stV (l:List GAtom):stV ⟨(mdV c 8).1,(gr a c m b l).1⟩=true/\(gr a c m b l).1.length=8/\(gr a c m b l).2.1<=l.length:=by
 have h0:stV ⟨(mdV c 8).1,mdH (mdV c 8).1 (fL c a.atoms)⟩=true:=md_stVQ (a:=a) (c:=c)
 have set8:∀ (h:List Int) (k:Nat) (v:Int),0<=v->v<=8->stV ⟨(mdV c 8).1,h⟩=true->stV ⟨(mdV c 8).1,h.set k v⟩=true:=by
  intro h k v v0 v8 hs
  unfold stV at hs ⊢
  simp only [Bool.and_eq_true,beq_iff_eq,List.length_set] at hs ⊢
  refine ⟨hs.1,?_⟩
  have hs2:=hs.2
  rw [List.all_eq_true] at hs2 ⊢
  intro y hy
  rcases List.mem_or_eq_of_mem_set hy with hy | hy
  ·exact hs2 y hy
  ·rw [hy];unfold hv;rw [isT_iff.2 ⟨v0,v8⟩];simp
 have stp:∀ (s:List Int × Nat × Bool) (x:GAtom),stV ⟨(mdV c 8).1,s.1⟩=true->stV ⟨(mdV c 8).1,(grS (mdV c 8).1 m b s x).1⟩=true/\(grS (mdV c 8).1 m b s x).2.1<=s.2.1+1:=by
  intro s x hs
  have hr:=room_bd (s:=⟨(mdV c 8).1,s.1⟩) (n:=tv (mdV c 8).1 x.b) (b:=b)
  have hb:=md_bd (c:=c) x.b
  unfold grS
  cases s.2.2 && x.kind == 2 with
  | false=>exact ⟨hs,by simp⟩
  | true =>
   cases mbit m s.2.1 with
   | false=>exact ⟨hs,by simp⟩
   | true =>
    cases room ⟨(mdV c 8).1,s.1⟩ (tv (mdV c 8).1 x.b) b == 0 with
    | true=>exact ⟨hs,by simp⟩
    | false=>exact ⟨set8 _ _ _ hb.1 hb.2 (set8 _ _ _ hr.1 hr.2 hs),by simp⟩
 have key:∀ (r:List GAtom) (s:List Int × Nat × Bool),stV ⟨(mdV c 8).1,s.1⟩=true->stV ⟨(mdV c 8).1,(r.foldl (grS (mdV c 8).1 m b) s).1⟩=true/\(r.foldl (grS (mdV c 8).1 m b) s).2.1<=s.2.1+r.length:=by
  intro r
  induction r with
  | nil=>intro s hs;exact ⟨hs,by simp⟩
  | cons x r ih =>
   intro s hs
   rw [List.foldl_cons]
   have h1:=stp s x hs
   have h2:=ih _ h1.1
   refine ⟨h2.1,?_⟩
   simp only [List.length_cons]
   omega
 have h:=key l (mdH (mdV c 8).1 (fL c a.atoms),0,true) h0
 refine ⟨h.1,?_,by have:=h.2;rw [Nat.zero_add] at this;exact this⟩
 have:=h.1
 unfold stV at this
 simp only [Bool.and_eq_true,beq_iff_eq] at this
 exact this.1.1.2
theorem gr_k2 (hk:¬ x.kind=2) (s:List Int × Nat × Bool):grS V m b s x=s:=by unfold grS;rw [beq_eq_false_iff_ne.2 hk,Bool.and_false];rfl
theorem gr_bit {s:List Int × Nat × Bool} (hs:s.2.2=true) (hk:x.kind=2) (hm:mbit m s.2.1=false):grS V m b s x=(s.1,s.2.1+1,true):=by
 unfold grS;rw [hs,beq_iff_eq.2 hk,hm];rfl
theorem gr_zero {s:List Int × Nat × Bool} (hs:s.2.2=true) (hk:x.kind=2) (hm:mbit m s.2.1=true) (hr:room ⟨V,s.1⟩ (tv V x.b) b=0):grS V m b s x=(s.1,s.2.1+1,false):=by
 unfold grS;rw [hs,beq_iff_eq.2 hk,hm,beq_iff_eq.2 hr];rfl
theorem gr_put {s:List Int × Nat × Bool} (hs:s.2.2=true) (hk:x.kind=2) (hm:mbit m s.2.1=true) (hr:¬ room ⟨V,s.1⟩ (tv V x.b) b=0):grS V m b s x=((s.1.set (tv V x.a - 1).toNat (room ⟨V,s.1⟩ (tv V x.b) b)).set (room ⟨V,s.1⟩ (tv V x.b) b - 1).toNat (tv V x.b),s.2.1+1,true):=by
 unfold grS;rw [hs,beq_iff_eq.2 hk,hm,beq_eq_false_iff_ne.2 hr];rfl
end
end Go.SE
namespace Go.SE
open Go.RowKit
def fkB (a b:GAsn):Bool:=asV a && (asV b && !(FC a b).isEmpty)
def fkL (a b:GAsn):List Int:=cond (asV a && asV b) ((FC a b).headD []) []
end Go.SE
namespace Go.SE
def grJ (a:GAsn) (c:List Int) (m:Int) (b:Bool) (i:Nat):Int:=((gr a c m b ((fL c a.atoms).take i)).2.1:Int)
end Go.SE
namespace Go.SE
section
variable {a b:GAsn} {s:GState} {n:Int} {i:Nat} {d:Bool}
theorem rmE (h:i<=8) (h2:¬ (i:Int)+1<=8):rm (frP s n) d i=room s n d:=by
 have:i=8:=by omega
 rw [this];rfl
theorem frE (h:∀ j:Nat,j < i->frP s n (adr d ((j:Int)+1))=false) (h2:¬ (i:Int)+1<=8):0=room s n d/\false=!(room s n d == 0):=frN0 fun j hj=>h j (by omega)
theorem fk_1 (h:asV a=false):([]:List Int)=fkL a b/\false=fkB a b:=by unfold fkL fkB;rw [h];exact ⟨rfl,rfl⟩
theorem fk_2 (h:asV b=false):([]:List Int)=fkL a b/\false=fkB a b:=by unfold fkL fkB;rw [h];simp
theorem fk_3 (ha:asV a=true) (hb:asV b=true):(FC a b).headD []=fkL a b/\(!(FC a b).isEmpty)=fkB a b:=by unfold fkL fkB;rw [ha,hb];exact ⟨rfl,rfl⟩
end
end Go.SE
namespace Go.SE
open Go.RowKit
section
variable {a:GAsn} {c:List Int} {m:Int} {b:Bool} {i:Nat}
theorem fl6 (ha:asV a=true):(fL c a.atoms).length<=6:=Nat.le_trans (fL_len c a.atoms) (asV_facts ha).2.2.2
theorem vg_j (ha:asV a=true) (hi:i<=(fL c a.atoms).length):0<=grJ a c m b i/\grJ a c m b i<=6:=by
 have h1:=(gr_stV (a:=a) (c:=c) (m:=m) (b:=b) ((fL c a.atoms).take i)).2.2
 have h2:=fl6 (c:=c) ha
 unfold grJ
 simp only [List.length_take] at h1
 omega
theorem vg_len (l:List GAtom):(gr a c m b l).1.length=8:=(gr_stV l).2.1
theorem al_set {V h:List Int} {n v:Int} {k:Nat} (hn:al ⟨V,h⟩ n=true) (hv:0<=v):al ⟨V,h.set k v⟩ n=true:=by
 unfold al ct at hn ⊢
 simp only [decide_eq_true_eq] at hn ⊢
 split at hn
 ·rename_i h1
  rw [if_pos h1]
  by_cases e:k=(n - 1).toNat
  ·by_cases hl:k < h.length
   ·rw [e] at hl ⊢;rw [getD_set_eq hl];exact hv
   ·rw [List.set_eq_of_length_le (by omega)];exact hn
  ·rw [getD_set_ne (fun h=>e h.symm)];exact hn
 ·omega
theorem vg_al (hc:CaseOk a c) {x:GAtom} (hx:x ∈ fL c a.atoms) (l:List GAtom):al ⟨(mdV c 8).1,(gr a c m b l).1⟩ (tv (mdV c 8).1 x.a)=true:=by
 have hb:=hc.idx x hx
 have h0:al ⟨(mdV c 8).1,mdH (mdV c 8).1 (fL c a.atoms)⟩ (tv (mdV c 8).1 x.a)=true:=by
  have key:∀ (l:List GAtom) (h0:List Int),h0.length=8->(x ∈ l ∨ al ⟨(mdV c 8).1,h0⟩ (tv (mdV c 8).1 x.a)=true)->al ⟨(mdV c 8).1,l.foldl (mdS (mdV c 8).1) h0⟩ (tv (mdV c 8).1 x.a)=true:=by
   intro l
   induction l with
   | nil=>intro h0 _ h;exact h.resolve_left (by simp)
   | cons y l ih =>
    intro h0 hl h
    rw [List.foldl_cons]
    have hlen:(mdS (mdV c 8).1 h0 y).length=8:=by unfold mdS;rw [List.length_set];exact hl
    refine ih _ hlen ?_
    rcases h with h | h
    ·rcases List.mem_cons.1 h with rfl | h
     ·right
      unfold mdS al ct
      simp only [decide_eq_true_eq]
      rw [if_pos ⟨hb.2.2.1,hb.2.2.2⟩,getD_set_eq (by omega)]
      exact (md_bd x.b).1
     ·exact .inl h
    ·right
     unfold mdS
     exact al_set h (md_bd y.b).1
  exact key _ _ (by simp) (.inl hx)
 have key:∀ (r:List GAtom) (s:List Int × Nat × Bool),al ⟨(mdV c 8).1,s.1⟩ (tv (mdV c 8).1 x.a)=true->al ⟨(mdV c 8).1,(r.foldl (grS (mdV c 8).1 m b) s).1⟩ (tv (mdV c 8).1 x.a)=true:=by
  intro r
  induction r with
  | nil=>intro s hs;exact hs
  | cons y r ih =>
   intro s hs
   rw [List.foldl_cons]
   refine ih _ ?_
   have hr:=room_bd (s:=⟨(mdV c 8).1,s.1⟩) (n:=tv (mdV c 8).1 y.b) (b:=b)
   have hb:=md_bd (c:=c) y.b
   unfold grS
   cases s.2.2 && y.kind == 2 with
   | false=>exact hs
   | true =>
    cases mbit m s.2.1 with
    | false=>exact hs
    | true =>
     cases room ⟨(mdV c 8).1,s.1⟩ (tv (mdV c 8).1 y.b) b == 0 with
     | true=>exact hs
     | false=>exact al_set (al_set hs hr.1) hb.1
 exact key l _ h0
theorem vg_x (hi:i < (fL c a.atoms).length):(fL c a.atoms).getD i ⟨0,0,0⟩ ∈ fL c a.atoms:=by
 rw [List.getD_eq_getElem?_getD,List.getElem?_eq_getElem hi]
 exact List.getElem_mem hi
theorem vg_k (hi:i < (fL c a.atoms).length) (hk:¬ ((fL c a.atoms).getD i ⟨0,0,0⟩).kind=2):gr a c m b ((fL c a.atoms).take (i+1))=gr a c m b ((fL c a.atoms).take i):=by
 rw [gr_step (d:=⟨0,0,0⟩) hi];exact gr_k2 hk _
theorem vgk1 (hi:i < (fL c a.atoms).length) (hk:¬ ((fL c a.atoms).getD i ⟨0,0,0⟩).kind=2) (hs:(gr a c m b ((fL c a.atoms).take i)).2.2=true):(gr a c m b ((fL c a.atoms).take (i+1))).2.2=true:=by rw [vg_k hi hk];exact hs
theorem vgk2 (hi:i < (fL c a.atoms).length) (hk:¬ ((fL c a.atoms).getD i ⟨0,0,0⟩).kind=2):grJ a c m b i=grJ a c m b (i+1):=by unfold grJ;rw [vg_k hi hk]
theorem vgk3 (hi:i < (fL c a.atoms).length) (hk:¬ ((fL c a.atoms).getD i ⟨0,0,0⟩).kind=2):(gr a c m b ((fL c a.atoms).take i)).1=(gr a c m b ((fL c a.atoms).take (i+1))).1:=by rw [vg_k hi hk]
theorem vg_b (hi:i < (fL c a.atoms).length) (hk:((fL c a.atoms).getD i ⟨0,0,0⟩).kind=2) (hs:(gr a c m b ((fL c a.atoms).take i)).2.2=true) (hm:¬ bits .and .i64 (Int.fdiv m (2 ^ (min (Int.toNat (grJ a c m b i)) (IntKind.bits .i64)))) (1:Int)=1):gr a c m b ((fL c a.atoms).take (i+1))=((gr a c m b ((fL c a.atoms).take i)).1,(gr a c m b ((fL c a.atoms).take i)).2.1+1,true):=by
 rw [gr_step (d:=⟨0,0,0⟩) hi]
 exact gr_bit hs hk (by unfold mbit;exact beq_eq_false_iff_ne.2 hm)
theorem vgb1 (hi:i < (fL c a.atoms).length) (hk:((fL c a.atoms).getD i ⟨0,0,0⟩).kind=2) (hs:(gr a c m b ((fL c a.atoms).take i)).2.2=true) (hm:¬ bits .and .i64 (Int.fdiv m (2 ^ (min (Int.toNat (grJ a c m b i)) (IntKind.bits .i64)))) (1:Int)=1):(gr a c m b ((fL c a.atoms).take (i+1))).2.2=true:=by rw [vg_b hi hk hs hm]
theorem vgb2 (hi:i < (fL c a.atoms).length) (hk:((fL c a.atoms).getD i ⟨0,0,0⟩).kind=2) (hs:(gr a c m b ((fL c a.atoms).take i)).2.2=true) (hm:¬ bits .and .i64 (Int.fdiv m (2 ^ (min (Int.toNat (grJ a c m b i)) (IntKind.bits .i64)))) (1:Int)=1):grJ a c m b i+1=grJ a c m b (i+1):=by unfold grJ;rw [vg_b hi hk hs hm];push_cast;rfl
theorem vgb3 (hi:i < (fL c a.atoms).length) (hk:((fL c a.atoms).getD i ⟨0,0,0⟩).kind=2) (hs:(gr a c m b ((fL c a.atoms).take i)).2.2=true) (hm:¬ bits .and .i64 (Int.fdiv m (2 ^ (min (Int.toNat (grJ a c m b i)) (IntKind.bits .i64)))) (1:Int)=1):(gr a c m b ((fL c a.atoms).take i)).1=(gr a c m b ((fL c a.atoms).take (i+1))).1:=by rw [vg_b hi hk hs hm]
theorem vg_z (hi:i < (fL c a.atoms).length) (hk:((fL c a.atoms).getD i ⟨0,0,0⟩).kind=2) (hs:(gr a c m b ((fL c a.atoms).take i)).2.2=true) (hm:bits .and .i64 (Int.fdiv m (2 ^ (min (Int.toNat (grJ a c m b i)) (IntKind.bits .i64)))) (1:Int)=1) (hr:room ⟨(mdV c 8).1,(gr a c m b ((fL c a.atoms).take i)).1⟩ (tv (mdV c 8).1 ((fL c a.atoms).getD i ⟨0,0,0⟩).b) b=0):(⟨(mdV c 8).1,(gr a c m b ((fL c a.atoms).take i)).1⟩:GState)=grL a c m b/\false=grB a c m b/\(⟨[],[]⟩:GState)=vrL a c m b:=by
 have e:gr a c m b ((fL c a.atoms).take (i+1))=((gr a c m b ((fL c a.atoms).take i)).1,(gr a c m b ((fL c a.atoms).take i)).2.1+1,false):=by
  rw [gr_step (d:=⟨0,0,0⟩) hi]
  exact gr_zero hs hk (by unfold mbit;exact beq_iff_eq.2 hm) hr
 obtain ⟨h1,h2⟩:=gr_dead (a:=a) (c:=c) (m:=m) (b:=b) (l:=fL c a.atoms) (i:=i+1) (by rw [e])
 rw [e] at h1
 have hB:grB a c m b=false:=h2
 refine ⟨by unfold grL;rw [h1],hB.symm,?_⟩
 unfold vrL;rw [hB];rfl
theorem vg_p (hi:i < (fL c a.atoms).length) (hk:((fL c a.atoms).getD i ⟨0,0,0⟩).kind=2) (hs:(gr a c m b ((fL c a.atoms).take i)).2.2=true) (hm:bits .and .i64 (Int.fdiv m (2 ^ (min (Int.toNat (grJ a c m b i)) (IntKind.bits .i64)))) (1:Int)=1) (hr:¬ room ⟨(mdV c 8).1,(gr a c m b ((fL c a.atoms).take i)).1⟩ (tv (mdV c 8).1 ((fL c a.atoms).getD i ⟨0,0,0⟩).b) b=0):gr a c m b ((fL c a.atoms).take (i+1))=(((gr a c m b ((fL c a.atoms).take i)).1.set (tv (mdV c 8).1 ((fL c a.atoms).getD i ⟨0,0,0⟩).a - 1).toNat (room ⟨(mdV c 8).1,(gr a c m b ((fL c a.atoms).take i)).1⟩ (tv (mdV c 8).1 ((fL c a.atoms).getD i ⟨0,0,0⟩).b) b)).set (room ⟨(mdV c 8).1,(gr a c m b ((fL c a.atoms).take i)).1⟩ (tv (mdV c 8).1 ((fL c a.atoms).getD i ⟨0,0,0⟩).b) b - 1).toNat (tv (mdV c 8).1 ((fL c a.atoms).getD i ⟨0,0,0⟩).b),(gr a c m b ((fL c a.atoms).take i)).2.1+1,true):=by
 rw [gr_step (d:=⟨0,0,0⟩) hi]
 exact gr_put hs hk (by unfold mbit;exact beq_iff_eq.2 hm) hr
theorem vgp1 (hi:i < (fL c a.atoms).length) (hk:((fL c a.atoms).getD i ⟨0,0,0⟩).kind=2) (hs:(gr a c m b ((fL c a.atoms).take i)).2.2=true) (hm:bits .and .i64 (Int.fdiv m (2 ^ (min (Int.toNat (grJ a c m b i)) (IntKind.bits .i64)))) (1:Int)=1) (hr:¬ room ⟨(mdV c 8).1,(gr a c m b ((fL c a.atoms).take i)).1⟩ (tv (mdV c 8).1 ((fL c a.atoms).getD i ⟨0,0,0⟩).b) b=0):(gr a c m b ((fL c a.atoms).take (i+1))).2.2=true:=by rw [vg_p hi hk hs hm hr]
theorem vgp2 (hi:i < (fL c a.atoms).length) (hk:((fL c a.atoms).getD i ⟨0,0,0⟩).kind=2) (hs:(gr a c m b ((fL c a.atoms).take i)).2.2=true) (hm:bits .and .i64 (Int.fdiv m (2 ^ (min (Int.toNat (grJ a c m b i)) (IntKind.bits .i64)))) (1:Int)=1) (hr:¬ room ⟨(mdV c 8).1,(gr a c m b ((fL c a.atoms).take i)).1⟩ (tv (mdV c 8).1 ((fL c a.atoms).getD i ⟨0,0,0⟩).b) b=0):grJ a c m b i+1=grJ a c m b (i+1):=by unfold grJ;rw [vg_p hi hk hs hm hr];push_cast;rfl
theorem vgp3 (hi:i < (fL c a.atoms).length) (hk:((fL c a.atoms).getD i ⟨0,0,0⟩).kind=2) (hs:(gr a c m b ((fL c a.atoms).take i)).2.2=true) (hm:bits .and .i64 (Int.fdiv m (2 ^ (min (Int.toNat (grJ a c m b i)) (IntKind.bits .i64)))) (1:Int)=1) (hr:¬ room ⟨(mdV c 8).1,(gr a c m b ((fL c a.atoms).take i)).1⟩ (tv (mdV c 8).1 ((fL c a.atoms).getD i ⟨0,0,0⟩).b) b=0):((gr a c m b ((fL c a.atoms).take i)).1.set (tv (mdV c 8).1 ((fL c a.atoms).getD i ⟨0,0,0⟩).a - 1).toNat (room ⟨(mdV c 8).1,(gr a c m b ((fL c a.atoms).take i)).1⟩ (tv (mdV c 8).1 ((fL c a.atoms).getD i ⟨0,0,0⟩).b) b)).set (room ⟨(mdV c 8).1,(gr a c m b ((fL c a.atoms).take i)).1⟩ (tv (mdV c 8).1 ((fL c a.atoms).getD i ⟨0,0,0⟩).b) b - 1).toNat (tv (mdV c 8).1 ((fL c a.atoms).getD i ⟨0,0,0⟩).b)=(gr a c m b ((fL c a.atoms).take (i+1))).1:=by rw [vg_p hi hk hs hm hr]
theorem vgp4 (hc:CaseOk a c) (hi:i < (fL c a.atoms).length) (hk:((fL c a.atoms).getD i ⟨0,0,0⟩).kind=2) (hs:(gr a c m b ((fL c a.atoms).take i)).2.2=true) (hm:bits .and .i64 (Int.fdiv m (2 ^ (min (Int.toNat (grJ a c m b i)) (IntKind.bits .i64)))) (1:Int)=1) (hr:¬ room ⟨(mdV c 8).1,(gr a c m b ((fL c a.atoms).take i)).1⟩ (tv (mdV c 8).1 ((fL c a.atoms).getD i ⟨0,0,0⟩).b) b=0):((gr a c m b ((fL c a.atoms).take i)).1.set (room ⟨(mdV c 8).1,(gr a c m b ((fL c a.atoms).take i)).1⟩ (tv (mdV c 8).1 ((fL c a.atoms).getD i ⟨0,0,0⟩).b) b - 1).toNat (tv (mdV c 8).1 ((fL c a.atoms).getD i ⟨0,0,0⟩).b)).set (tv (mdV c 8).1 ((fL c a.atoms).getD i ⟨0,0,0⟩).a - 1).toNat (room ⟨(mdV c 8).1,(gr a c m b ((fL c a.atoms).take i)).1⟩ (tv (mdV c 8).1 ((fL c a.atoms).getD i ⟨0,0,0⟩).b) b)=(gr a c m b ((fL c a.atoms).take (i+1))).1:=by
 rw [vg_p hi hk hs hm hr]
 have h1:=room_ok hr
 have h2:=vg_al (m:=m) (b:=b) hc (vg_x hi) ((fL c a.atoms).take i)
 have h3:=hc.idx _ (vg_x hi)
 have hne:tv (mdV c 8).1 ((fL c a.atoms).getD i ⟨0,0,0⟩).a ≠ room ⟨(mdV c 8).1,(gr a c m b ((fL c a.atoms).take i)).1⟩ (tv (mdV c 8).1 ((fL c a.atoms).getD i ⟨0,0,0⟩).b) b:=fun e=>by rw [← e] at h1;rw [h2] at h1;exact absurd h1.2.2.1 (by decide)
 exact List.set_comm _ _ (by omega)
theorem vg_rb:-9223372036854775808<=room ⟨(mdV c 8).1,(gr a c m b ((fL c a.atoms).take i)).1⟩ (tv (mdV c 8).1 ((fL c a.atoms).getD i ⟨0,0,0⟩).b) b - 1/\room ⟨(mdV c 8).1,(gr a c m b ((fL c a.atoms).take i)).1⟩ (tv (mdV c 8).1 ((fL c a.atoms).getD i ⟨0,0,0⟩).b) b - 1<=9223372036854775807:=by
 have:=room_bd (s:=⟨(mdV c 8).1,(gr a c m b ((fL c a.atoms).take i)).1⟩) (n:=tv (mdV c 8).1 ((fL c a.atoms).getD i ⟨0,0,0⟩).b) (b:=b)
 omega
theorem vg_ri (hr:¬ room ⟨(mdV c 8).1,(gr a c m b ((fL c a.atoms).take i)).1⟩ (tv (mdV c 8).1 ((fL c a.atoms).getD i ⟨0,0,0⟩).b) b=0):0<=room ⟨(mdV c 8).1,(gr a c m b ((fL c a.atoms).take i)).1⟩ (tv (mdV c 8).1 ((fL c a.atoms).getD i ⟨0,0,0⟩).b) b - 1/\room ⟨(mdV c 8).1,(gr a c m b ((fL c a.atoms).take i)).1⟩ (tv (mdV c 8).1 ((fL c a.atoms).getD i ⟨0,0,0⟩).b) b - 1 < (((gr a c m b ((fL c a.atoms).take i)).1.length:Nat):Int):=by
 have:=room_ok hr
 rw [vg_len]
 omega
theorem vg_ai (hc:CaseOk a c) (hi:i < (fL c a.atoms).length):0<=tv (mdV c 8).1 ((fL c a.atoms).getD i ⟨0,0,0⟩).a - 1/\tv (mdV c 8).1 ((fL c a.atoms).getD i ⟨0,0,0⟩).a - 1 < (((gr a c m b ((fL c a.atoms).take i)).1.length:Nat):Int):=by
 have:=hc.idx _ (vg_x hi)
 rw [vg_len]
 omega
theorem vg_end (hi:i<=(fL c a.atoms).length) (h2:¬ i < (fL c a.atoms).length) (hs:(gr a c m b ((fL c a.atoms).take i)).2.2=true):(⟨(mdV c 8).1,(gr a c m b ((fL c a.atoms).take i)).1⟩:GState)=grL a c m b/\true=grB a c m b/\(⟨(mdV c 8).1,(gr a c m b ((fL c a.atoms).take i)).1⟩:GState)=vrL a c m b:=by
 rw [List.take_of_length_le (by omega)] at hs ⊢
 have hB:grB a c m b=true:=hs
 refine ⟨rfl,hB.symm,?_⟩
 unfold vrL;rw [hB];rfl
theorem vg_st:stV ⟨(mdV c 8).1,(gr a c m b ((fL c a.atoms).take i)).1⟩=true:=(gr_stV _).1
end
end Go.SE
namespace Go.SE
section
variable {s:GState} {n:Int} {i:Nat}
theorem frUp (h:∀ j:Nat,j < i->frP s n (adr true ((j:Int)+1))=false) (hi:(i:Int)+1<=8) (h1:al s (9 - ((i:Int)+1))=false) (h2:¬ 9 - ((i:Int)+1)=n):9 - ((i:Int)+1)=room s n true/\true=!(room s n true == 0):=frH (b:=true) (by omega) h h1 h2
theorem frDn (h:∀ j:Nat,j < i->frP s n (adr false ((j:Int)+1))=false) (hi:(i:Int)+1<=8) (h1:al s ((i:Int)+1)=false) (h2:¬ (i:Int)+1=n):(i:Int)+1=room s n false/\true=!(room s n false == 0):=frH (b:=false) (by omega) h h1 h2
end
end Go.SE

namespace Go.SE
open Go.RowKit
def cmQ (a b:GAsn) (c:List Int) (m:Int) (d:Bool):Bool:=grB a c m d && (HOL (grL a c m d) a && !HOL (grL a c m d) b)
def cmP (a b:GAsn) (c:List Int) (n:Nat):Bool:=cmQ a b c ((n / 2:Nat):Int) (n % 2 == 0)
def cmN (a b:GAsn):Option Nat:=(List.range 128).find? (cmP a b (fkL a b))
def cmL (a b:GAsn):GState:=cond (fkB a b) (match cmN a b with | some n=>grL a (fkL a b) ((n / 2:Nat):Int) (n % 2 == 0) | none=>⟨[],[]⟩) ⟨[],[]⟩
def cmB (a b:GAsn):Bool:=fkB a b && (cmN a b).isSome
section
variable {a b:GAsn} {c:List Int} {m:Int} {d:Bool} {i j n:Nat}
theorem fk_in (h:fkB a b=true):asV a=true/\asV b=true/\fkL a b ∈ casesB a (hz a (occB b))/\CaseOk a (fkL a b)/\(FC a b).isEmpty=false:=by
 unfold fkB at h
 simp only [Bool.and_eq_true,Bool.not_eq_true'] at h
 obtain ⟨ha,hb,he⟩:=h
 have hm:fkL a b ∈ FC a b:=by
  unfold fkL
  rw [ha,hb]
  cases hc:FC a b with
  | nil=>rw [hc] at he;cases he
  | cons x l=>simp
 have h1:fkL a b ∈ casesB a (hz a (occB b)):=(List.mem_filter.1 hm).1
 exact ⟨ha,hb,h1,caseOkQ ha h1,he⟩
theorem fk_hd (ha:asV a=true) (hb:asV b=true) (he:(FC a b).isEmpty=false):(FC a b).headD (List.replicate 9 0)=fkL a b/\fkB a b=true:=by
 unfold fkL fkB
 rw [ha,hb,he]
 refine ⟨?_,rfl⟩
 cases hc:FC a b with
 | nil=>rw [hc] at he;cases he
 | cons x l=>rfl
theorem cm_no (h:fkB a b=false):(⟨[],[]⟩:GState)=cmL a b/\false=cmB a b:=by
 unfold cmL cmB;rw [h];exact ⟨rfl,rfl⟩
theorem cm_n1 (h:asV a=false):(⟨[],[]⟩:GState)=cmL a b/\false=cmB a b:=cm_no (fk_1 h).2.symm
theorem cm_n2 (h:asV b=false):(⟨[],[]⟩:GState)=cmL a b/\false=cmB a b:=cm_no (fk_2 h).2.symm
theorem cm_n3 (ha:asV a=true) (hb:asV b=true) (h:(FC a b).isEmpty=true):(⟨[],[]⟩:GState)=cmL a b/\false=cmB a b:=cm_no (by rw [← (fk_3 ha hb).2,h];rfl)
theorem cm_none (hf:fkB a b=true) (h:∀ j:Nat,j < 128->cmP a b (fkL a b) j=false):(⟨[],[]⟩:GState)=cmL a b/\false=cmB a b:=by
 have e:cmN a b=none:=by
  unfold cmN
  rw [List.find?_eq_none]
  intro x hx
  rw [h x (List.mem_range.1 hx)];simp
 unfold cmL cmB
 rw [hf,e];exact ⟨rfl,rfl⟩
theorem find_first {p:Nat->Bool}:∀ (k n:Nat),n < k->p n=true->(∀ j:Nat,j < n->p j=false)->(List.range k).find? p=some n:=by
 intro k n hn hp h
 rw [List.find?_eq_some_iff_append]
 refine ⟨hp,List.range n,(List.range' (n+1) (k - n - 1)),?_,fun x hx=>by rw [h x (List.mem_range.1 hx)];rfl⟩
 have e:k=n+(1+(k - n - 1)):=by omega
 conv=>lhs;rw [e,List.range_add]
 congr 1
 rw [Nat.add_comm 1,List.range_succ_eq_map]
 simp [List.range'_eq_map_range]
 intro a _
 omega
theorem cm_some (hf:fkB a b=true) (hn:n < 128) (h:∀ j:Nat,j < n->cmP a b (fkL a b) j=false) (hp:cmP a b (fkL a b) n=true):grL a (fkL a b) ((n / 2:Nat):Int) (n % 2 == 0)=cmL a b/\true=cmB a b:=by
 have e:cmN a b=some n:=find_first _ _ hn hp h
 unfold cmL cmB
 rw [hf,e];exact ⟨rfl,rfl⟩
theorem cm_spec (h:cmB a b=true):asV a=true/\asV b=true/\HOL (cmL a b) a=true/\HOL (cmL a b) b=false:=by
 unfold cmB at h
 rw [Bool.and_eq_true] at h
 obtain ⟨hf,h⟩:=h
 obtain ⟨n,hn⟩:=Option.isSome_iff_exists.1 h
 have hp:=List.find?_some hn
 have hi:=fk_in hf
 have e:cmL a b=grL a (fkL a b) ((n / 2:Nat):Int) (n % 2 == 0):=by unfold cmL;rw [hf,hn];rfl
 unfold cmP cmQ at hp
 simp only [Bool.and_eq_true,Bool.not_eq_true'] at hp
 rw [e]
 exact ⟨hi.1,hi.2.1,hp.2.1,hp.2.2⟩
theorem grL_len (a:GAsn) (c:List Int) (m:Int) (d:Bool):(grL a c m d).vals.length=8/\(grL a c m d).heap.length=8:=by
 unfold grL
 exact ⟨mdV_len c 8,vg_len _⟩
theorem cmL_len (a b:GAsn):(cmL a b).vals.length<=8/\(cmL a b).heap.length<=8:=by
 unfold cmL
 cases fkB a b with
 | false=>exact ⟨Nat.zero_le _,Nat.zero_le _⟩
 | true =>
  simp only [cond_true]
  split
  ·have:=grL_len a (fkL a b) (((‹Nat› / 2:Nat):Int)) (‹Nat› % 2 == 0);omega
  ·exact ⟨Nat.zero_le _,Nat.zero_le _⟩
end
end Go.SE
namespace Go.SE
section
variable {a b:GAsn} {c:List Int} {m:Int} {d:Bool} {i j k n:Nat}
theorem cm_ar (h:(k:Int) < 2):[true,false].getD k false=((k:Int) == 0):=by
 have:k=0 ∨ k=1:=by omega
 rcases this with rfl | rfl <;> rfl
theorem cm_vr (h:grB a c m d=true):vrL a c m d=grL a c m d:=by unfold vrL;rw [h];rfl
theorem cm_at (h:(k:Int) < 2):cmP a b c (2 * i+k)=cmQ a b c (i:Int) ((k:Int) == 0):=by
 unfold cmP
 have:k=0 ∨ k=1:=by omega
 rcases this with rfl | rfl
 ·rw [show (2 * i+0) / 2=i by omega,show (2 * i+0) % 2=0 by omega];rfl
 ·rw [show (2 * i+1) / 2=i by omega,show (2 * i+1) % 2=1 by omega];rfl
theorem cm_st {p:Nat->Bool} (h:∀ j:Nat,j < 2 * i+k->p j=false) (hp:p (2 * i+k)=false) (hj:j < 2 * i+(k+1)):p j=false:=by
 by_cases e:j=2 * i+k
 ·rw [e];exact hp
 ·exact h j (by omega)
theorem cm_st1 (h:∀ j:Nat,j < 2 * i+k->cmP a b c j=false) (hk:(k:Int) < 2) (h1:grB a c (i:Int) ((k:Int) == 0)=false) (hj:j < 2 * i+(k+1)):cmP a b c j=false :=
 cm_st h (by rw [cm_at hk];unfold cmQ;rw [h1];rfl) hj
theorem cm_st2 (h:∀ j:Nat,j < 2 * i+k->cmP a b c j=false) (hk:(k:Int) < 2) (h1:HOL (grL a c (i:Int) ((k:Int) == 0)) a=false) (hj:j < 2 * i+(k+1)):cmP a b c j=false :=
 cm_st h (by rw [cm_at hk];unfold cmQ;rw [h1];simp) hj
theorem cm_st3 (h:∀ j:Nat,j < 2 * i+k->cmP a b c j=false) (hk:(k:Int) < 2) (h1:HOL (grL a c (i:Int) ((k:Int) == 0)) b=true) (hj:j < 2 * i+(k+1)):cmP a b c j=false :=
 cm_st h (by rw [cm_at hk];unfold cmQ;rw [h1];simp) hj
theorem cm_nx {p:Nat->Bool} (h:∀ j:Nat,j < 2 * i+k->p j=false) (hk:¬ (k:Int) < 2) (h2:k<=2) (hj:j < 2 * (i+1)):p j=false:=h j (by omega)
theorem cm_hit (h:∀ j:Nat,j < 2 * i+k->cmP a b (fkL a b) j=false) (hk:(k:Int) < 2) (hi:(i:Int) < 64) (hf:fkB a b=true) (h1:grB a (fkL a b) (i:Int) ((k:Int) == 0)=true) (h2:HOL (grL a (fkL a b) (i:Int) ((k:Int) == 0)) a=true) (h3:HOL (grL a (fkL a b) (i:Int) ((k:Int) == 0)) b=false):grL a (fkL a b) (i:Int) ((k:Int) == 0)=cmL a b/\true=cmB a b:=by
 have hp:cmP a b (fkL a b) (2 * i+k)=true:=by rw [cm_at hk];unfold cmQ;rw [h1,h2,h3];rfl
 have:=cm_some hf (n:=2 * i+k) (by omega) h hp
 have e:((2 * i+k) / 2:Nat)=i/\((2 * i+k) % 2 == 0)=((k:Int) == 0):=by
  have:k=0 ∨ k=1:=by omega
  rcases this with rfl | rfl
  ·refine ⟨by omega,?_⟩;rw [show (2 * i+0) % 2=0 by omega];rfl
  ·refine ⟨by omega,?_⟩;rw [show (2 * i+1) % 2=1 by omega];rfl
 rw [e.1,e.2] at this
 exact this
theorem cm_end (h:∀ j:Nat,j < 2 * i->cmP a b (fkL a b) j=false) (hi:¬ (i:Int) < 64) (hf:fkB a b=true):(⟨[],[]⟩:GState)=cmL a b/\false=cmB a b:=cm_none hf fun j hj=>h j (by omega)
theorem grL_stV:stV (grL a c m d)=true:=(gr_stV (fL c a.atoms)).1
theorem fk_ok (h:fkB a b=true):CaseOk a (fkL a b):=(fk_in h).2.2.2.1
theorem fk_va (h:fkB a b=true):asV a=true:=(fk_in h).1
theorem fk_vb (h:fkB a b=true):asV b=true:=(fk_in h).2.1
theorem gr200V:(grL a c m d).vals.length<=200:=by have:=(grL_len a c m d).1;omega
theorem gr200H:(grL a c m d).heap.length<=200:=by have:=(grL_len a c m d).2;omega
end
end Go.SE
namespace Go.SE
theorem fc_hlen {a b:GAsn} (ha:asV a=true):((FC a b).headD (List.replicate 9 0)).length=(List.replicate 9 (0:Int)).length:=by
 cases hc:FC a b with
 | nil=>rfl
 | cons x l =>
  have hm:x ∈ FC a b:=by rw [hc];simp
  exact (caseOkQ ha (List.mem_filter.1 hm).1).len
end Go.SE
namespace Go.SE
section
variable {a b:GAsn}
theorem cm200V:(cmL a b).vals.length<=200:=Nat.le_trans (cmL_len a b).1 (by decide)
theorem cm200H:(cmL a b).heap.length<=200:=Nat.le_trans (cmL_len a b).2 (by decide)
theorem cm_a (h2:HOL (cmL a b) a=false) (h:cmB a b=true):False:=by rw [(cm_spec h).2.2.1] at h2;cases h2
theorem cm_b (h2:HOL (cmL a b) b=true) (h:cmB a b=true):False:=by rw [(cm_spec h).2.2.2] at h2;cases h2
theorem cm_e (h2:ENT a b=true) (h:cmB a b=true):False:=by
 have h3:=cm_spec h
 rw [ent_hol h2 h3.2.2.1] at h3
 exact absurd h3.2.2.2 (by decide)
end
end Go.SE
namespace Go.SE
theorem cm_f {a b:GAsn} (h:cmB a b=true):ENT a b=false:=by
 cases h2:ENT a b with
 | false=>rfl
 | true=>exact (cm_e h2 h).elim
end Go.SE

namespace Go.SE
open Go.RowKit
section
variable {P:Program} {E:Ty->TypeId} {tab:TypeId->Option TI} {w0:World} {M:MM} {n:Nat} {o:Oper} {st:St} {a:Act} {w:World}
end
end Go.SE
