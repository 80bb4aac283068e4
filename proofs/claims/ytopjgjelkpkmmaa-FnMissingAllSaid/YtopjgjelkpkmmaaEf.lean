/-
  Parts of a symbolic engine over the program's code: how operations, regions, loops and calls are shown to keep contracts. No conditions.
-/
import Derived.Test.YtopjgjelkpkmmaaEe
set_option linter.unusedSimpArgs false
set_option linter.unusedVariables false
set_option linter.unusedSectionVars false

namespace Go.SE
open Go.RowKit
section
variable {a b:GAsn} {m:Int} {i j:Nat}
theorem lm_get {acc:Int->Bool} {n:Int} (h:lmB acc n=true):∃ m:Nat,lmI acc n=(m:Int)/\(m:Int) < 2 ^ n.toNat/\acc (m:Int)=true:=by
 unfold lmB at h
 obtain ⟨m,hm⟩:=Option.isSome_iff_exists.1 h
 refine ⟨m,by unfold lmI;rw [hm];rfl,?_,?_⟩
 ·unfold lmO at hm
  have:=List.mem_range.1 (List.mem_of_find?_eq_some hm)
  have e:((2 ^ n.toNat:Nat):Int)=2 ^ n.toNat:=by push_cast;rfl
  omega
 ·unfold lmO at hm
  exact List.find?_some (p:=fun m:Nat=>acc (m:Int)) hm
theorem lm_ex {acc:Int->Bool} {n:Int} {m:Nat} (hm:(m:Int) < 2 ^ n.toNat) (ha:acc (m:Int)=true):lmB acc n=true:=by
 unfold lmB lmO
 rw [List.find?_isSome]
 have e:((2 ^ n.toNat:Nat):Int)=2 ^ n.toNat:=by push_cast;rfl
 exact ⟨m,List.mem_range.2 (by omega),ha⟩
theorem mi_get (h:miB a b=true):asV a=true/\asV b=true/\∃ m:Nat,(m:Int) < pkTop b/\mxB a b (m:Int)=true/\miL a b=⟨[],pkA (m:Int) b.atoms⟩/\miF a b=frmL (mxS a b (m:Int)) b:=by
 have h':=h
 unfold miB at h'
 simp only [Bool.and_eq_true] at h'
 obtain ⟨ha,hb,hl⟩:=h'
 obtain ⟨m,e,hm,hx⟩:=lm_get hl
 refine ⟨ha,hb,m,?_,hx,?_,?_⟩
 ·rw [(pkTop_eq hb).1];rw [Int.toNat_natCast] at hm;exact hm
 ·unfold miL miI;rw [h,e];rfl
 ·unfold miF miI;rw [h,e];rfl
theorem mx_get (h:mxB a b m=true):asV (mxS a b m)=true/\(casesF (mxS a b m)).isEmpty=false/\frmB (mxS a b m) b=true:=by
 unfold mxB mxC at h
 simp only [Bool.and_eq_true,Bool.not_eq_true'] at h
 exact ⟨h.1.1,h.1.2,h.2⟩
theorem mi_spec (h:miB a b=true):starOk a (miL a b)=true/\starOk b (miF a b)=true/\(asV (starL a (miL a b)) && !(casesF (starL a (miL a b))).isEmpty)=true/\ENT (starL a (miL a b)) (starL b (miF a b))=true:=by
 obtain ⟨ha,hb,m,hm,hx,e1,e2⟩:=mi_get h
 obtain ⟨hv,hc,hf⟩:=mx_get hx
 obtain ⟨_,_,hF,hS,hE⟩:=frm_spec hf
 have o1:starOk a (miL a b)=true:=by
  unfold starOk
  rw [e1,ha,pkV hb]
  exact hv
 have s1:starL a (miL a b)=mxS a b m:=by unfold starL;rw [o1,e1];rfl
 have o2:starOk b (miF a b)=true:=by
  unfold starOk
  rw [e2,hb,hF,hS];rfl
 have s2:starL b (miF a b)=starA b (frmL (mxS a b m) b):=by unfold starL;rw [o2,e2];rfl
 refine ⟨o1,o2,?_,?_⟩
 ·rw [s1,hv,hc];rfl
 ·rw [s1,s2];exact hE
theorem cv_sp:∀ i,(∀ j:Nat,j < i->mxB a b (j:Int)=true->0<=cvI a b i/\cvI a b i<=((pkA (j:Int) b.atoms).length:Int))/\(0<=cvI a b i->∃ j:Nat,j < i/\mxB a b (j:Int)=true):=by
 intro i
 induction i with
 | zero=>exact ⟨fun j hj=>absurd hj (by omega),fun h=>absurd h (show ¬ (0:Int)<=-1 by decide)⟩
 | succ i ih =>
  rw [cvI]
  by_cases hx:mxB a b (i:Int)=true
  ·by_cases hk:0<=cvI a b i/\cvI a b i<=((pkA (i:Int) b.atoms).length:Int)
   ·rw [hx,decide_eq_true hk.1,decide_eq_true hk.2]
    simp only [Bool.and_true,Bool.not_true,Bool.and_false,cond_false]
    refine ⟨fun j hj hm=>?_,fun _=>⟨i,by omega,hx⟩⟩
    by_cases e:j=i
    ·rw [e];exact hk
    ·exact ih.1 j (by omega) hm
   ·have:(decide (0<=cvI a b i) && decide (cvI a b i<=((pkA (i:Int) b.atoms).length:Int)))=false:=by
     rw [← Bool.decide_and];exact decide_eq_false hk
    rw [hx,this]
    simp only [Bool.not_false,Bool.and_true,cond_true]
    refine ⟨fun j hj hm=>⟨by omega,?_⟩,fun _=>⟨i,by omega,hx⟩⟩
    by_cases e:j=i
    ·rw [e];exact Int.le_refl _
    ·have:=ih.1 j (by omega) hm
     omega
  ·have hx:mxB a b (i:Int)=false:=by simpa using hx
   rw [hx]
   simp only [Bool.false_and,cond_false]
   refine ⟨fun j hj hm=>?_,fun h=>?_⟩
   ·by_cases e:j=i
    ·rw [e,hx] at hm;cases hm
    ·exact ih.1 j (by omega) hm
   ·obtain ⟨j,hj,hm⟩:=ih.2 h
    exact ⟨j,by omega,hm⟩
theorem cvN_i (ha:asV a=true) (hb:asV b=true):cvN a b=cvI a b (pkTop b).toNat:=by unfold cvN;rw [ha,hb];rfl
theorem cv_iff:miB a b=decide (0<=cvN a b):=by
 rw [Bool.eq_iff_iff,decide_eq_true_eq]
 constructor
 ·intro h
  obtain ⟨ha,hb,m,hm,hx,_⟩:=mi_get h
  rw [cvN_i ha hb]
  exact ((cv_sp _).1 m (by omega) hx).1
 ·intro h
  by_cases hab:asV a=true/\asV b=true
  ·rw [cvN_i hab.1 hab.2] at h
   obtain ⟨j,hj,hx⟩:=(cv_sp _).2 h
   unfold miB
   rw [hab.1,hab.2,lm_ex (m:=j) (by rw [Int.toNat_natCast,← (pkTop_eq hab.2).1];omega) hx];rfl
  ·exfalso
   unfold cvN at h
   have:(asV a && asV b)=false:=by
    cases h1:asV a <;> cases h2:asV b <;> simp_all
   rw [this] at h
   exact absurd h (show ¬ (0:Int)<=-1 by decide)
theorem cv_le (h:miB a b=true):cvN a b<=((miL a b).atoms.length:Int):=by
 obtain ⟨ha,hb,m,hm,hx,e,_⟩:=mi_get h
 rw [cvN_i ha hb,e]
 exact ((cv_sp _).1 m (by omega) hx).2
theorem pkA_zero (l:List GAtom):pkA 0 l=[]:=by
 have hb:∀ i:Nat,mbit 0 i=false:=fun i=>by
  unfold mbit
  rw [Int.zero_fdiv]
  rfl
 unfold pkA pk
 rw [List.filter_eq_nil_iff.2 fun i _=>by rw [hb i];simp];rfl
theorem mx_zero:mxS a b 0=a:=by rw [← mx_e,pkA_zero,List.append_nil]
theorem mx_none (hf:frmB a b=true) (hc:(asV a && !(casesF a).isEmpty)=true):mxB a b 0=true:=by
 unfold mxB mxC
 rw [mx_zero,hc,hf];rfl
theorem mi_none0 (hf:frmB a b=true) (hc:(asV a && !(casesF a).isEmpty)=true):miB a b=true/\(miL a b).atoms.length=0/\cvN a b=0/\asV (frmL a b)=true:=by
 obtain ⟨ha,hb,hF,_⟩:=frm_spec hf
 have ht:=pkTop_eq hb
 have hx:=mx_none hf hc
 have hi:((0:Nat):Int) < pkTop b:=by omega
 obtain ⟨e1,_,e3⟩:=mi_found (i:=0) ha hb rfl hi hx
 have hl:(miL a b).atoms.length=0:=by rw [← e1];show (pkA 0 b.atoms).length=0;rw [pkA_zero];rfl
 refine ⟨e3.symm,hl,?_,hF⟩
 have h1:=cv_le e3.symm
 have h2:=cv_iff (a:=a) (b:=b)
 rw [← e3] at h2
 have h2:=of_decide_eq_true h2.symm
 rw [hl] at h1
 omega
theorem mfull:∀ n:Nat,n<=6->∀ i:Nat,i < 6->i < n->mbit ((2 ^ n:Int) - 1) i=true:=by decide +kernel
theorem pkA_full {l:List GAtom} (hl:l.length<=6):pkA ((2 ^ l.length:Int) - 1) l=l:=by
 unfold pkA pk
 rw [List.filter_eq_self.2 fun i hi=>mfull l.length hl i (by have:=List.mem_range.1 hi;omega) (List.mem_range.1 hi)]
 apply List.ext_getElem
 ·simp
 ·intro i h1 h2
  simp only [List.getElem_map,List.getElem_range]
  rw [List.getD_eq_getElem?_getD,List.getElem?_eq_getElem h2];rfl
theorem mi_all (hc:(asV b && !(casesF b).isEmpty)=true):miB ⟨b.facts,[]⟩ b=true/\(miL ⟨b.facts,[]⟩ b).atoms.length<=b.atoms.length/\0<=cvN ⟨b.facts,[]⟩ b:=by
 have hb:asV b=true:=by rw [Bool.and_eq_true] at hc;exact hc.1
 have ht:=pkTop_eq hb
 have h6:=(fo_len6 hb).2
 have ha:asV ⟨b.facts,[]⟩=true:=by
  have:=asV_facts hb
  unfold asV fsV
  rw [this.1,decide_eq_true this.2.1];rfl
 have hx:mxB ⟨b.facts,[]⟩ b (pkTop b - 1)=true:=by
  have e:mxS ⟨b.facts,[]⟩ b (pkTop b - 1)=b:=by
   rw [← mx_e,ht.1,pkA_full h6];rfl
  unfold mxB mxC
  rw [e,hc,(frm_self hb).1];rfl
 have hB:miB ⟨b.facts,[]⟩ b=true:=by
  unfold miB
  rw [ha,hb,lm_ex (m:=(pkTop b - 1).toNat) (by rw [Int.toNat_natCast,← ht.1];omega) (by rw [show (((pkTop b - 1).toNat:Nat):Int)=pkTop b - 1 by omega];exact hx)];rfl
 refine ⟨hB,miL_len.2,?_⟩
 have h2:=cv_iff (a:=⟨b.facts,[]⟩) (b:=b)
 rw [hB] at h2
 exact of_decide_eq_true h2.symm
end
end Go.SE
namespace Go.SE
theorem mx_fr {a b:GAsn} {m:Int} (h:starOk a ⟨[],pkA m b.atoms⟩=true):frmL (starL a ⟨[],pkA m b.atoms⟩) b=frmL (mxS a b m) b:=by rw [mx_st h]
end Go.SE
namespace Go.SE
section
variable {a b:GAsn} {n:Nat}
theorem mi_lf (h:lmB (fun m=>mxB a b m) (b.atoms.length:Int)=false):(⟨[],[]⟩:GAsn)=miL a b/\(⟨[],[]⟩:GAsn)=miF a b/\false=miB a b:=by
 have e:miB a b=false:=by unfold miB;rw [h];simp
 unfold miL miF;rw [e];exact ⟨rfl,rfl,rfl⟩
theorem mi_lt (ha:asV a=true) (hb:asV b=true) (h:lmB (fun m=>mxB a b m) (b.atoms.length:Int)=true):(⟨[],pkA (lmI (fun m=>mxB a b m) (b.atoms.length:Int)) b.atoms⟩:GAsn)=miL a b/\pkA (lmI (fun m=>mxB a b m) (b.atoms.length:Int)) b.atoms=(miL a b).atoms/\frmL (mxS a b (lmI (fun m=>mxB a b m) (b.atoms.length:Int))) b=miF a b/\true=miB a b:=by
 have e:miB a b=true:=by unfold miB;rw [ha,hb,h];rfl
 unfold miL miF;rw [e];exact ⟨rfl,rfl,rfl,rfl⟩
theorem mi_pre (hb:asV b=true) {m:Int} (h:m < 2 ^ b.atoms.length):m < pkTop b:=by rw [(pkTop_eq hb).1];exact h
end
end Go.SE

namespace Go.SE
section
variable {a b:GAsn} {m:Int}
theorem ml200F:(miL a b).facts.length<=200:=by rw [miL_len.1];omega
theorem ml200A (h:b.atoms.length<=100):(miL a b).atoms.length<=200:=by have:=(miL_len (a:=a) (b:=b)).2;omega
theorem mf200F:(miF a b).facts.length<=200:=by rw [miF_len.1];omega
theorem mf200A (ha:a.atoms.length<=100) (hb:b.atoms.length<=100):(miF a b).atoms.length<=200:=by have:=(miF_len (a:=a) (b:=b)).2;omega
theorem msl200F (h:a.facts.length<=100):(starL a (miL a b)).facts.length<=200:=starL_bdF h (by rw [miL_len.1];omega)
theorem msl200A (h:a.atoms.length<=100) (hb:b.atoms.length<=100):(starL a (miL a b)).atoms.length<=200:=starL_bdA h (Nat.le_trans miL_len.2 hb)
theorem msf200F (h:b.facts.length<=100):(starL b (miF a b)).facts.length<=200:=starL_bdF h (by rw [miF_len.1];omega)
theorem msf200A (ha:a.atoms.length<=50) (hb:b.atoms.length<=50):(starL b (miF a b)).atoms.length<=200:=starL_bdA (by omega) (by have:=(miF_len (a:=a) (b:=b)).2;omega)
theorem ms_1 (h2:starOk a (miL a b)=false) (h:miB a b=true):False:=by rw [(mi_spec h).1] at h2;cases h2
theorem ms_2 (h2:starOk b (miF a b)=false) (h:miB a b=true):False:=by rw [(mi_spec h).2.1] at h2;cases h2
theorem ms_3 (h2:(asV (starL a (miL a b)) && !(casesF (starL a (miL a b))).isEmpty)=false) (h:miB a b=true):False:=by rw [(mi_spec h).2.2.1] at h2;cases h2
theorem ms_4 (h:miB a b=true):ENT (starL a (miL a b)) (starL b (miF a b))=true:=(mi_spec h).2.2.2
theorem ma_1 (h2:miB ⟨b.facts,[]⟩ b=false) (h:(asV b && !(casesF b).isEmpty)=true):False:=by rw [(mi_all h).1] at h2;cases h2
theorem ma_2 (h2:¬ ((miL ⟨b.facts,[]⟩ b).atoms.length:Int)<=(b.atoms.length:Int)) (h:(asV b && !(casesF b).isEmpty)=true):False:=h2 (by have:=(mi_all h).2.1;omega)
theorem ma_3 (h:(asV b && !(casesF b).isEmpty)=true):0<=cvN ⟨b.facts,[]⟩ b:=(mi_all h).2.2
theorem mn_1 (h2:miB a b=false) (hf:frmB a b=true) (h:(asV a && !(casesF a).isEmpty)=true):False:=by rw [(mi_none0 hf h).1] at h2;cases h2
theorem mn_2 (h2:¬ ((miL a b).atoms.length:Int)=0) (hf:frmB a b=true) (h:(asV a && !(casesF a).isEmpty)=true):False:=h2 (by rw [(mi_none0 hf h).2.1];rfl)
theorem mn_3 (h2:¬ cvN a b=0) (hf:frmB a b=true) (h:(asV a && !(casesF a).isEmpty)=true):False:=h2 (mi_none0 hf h).2.2.1
theorem mn_4 (hf:frmB a b=true) (h:(asV a && !(casesF a).isEmpty)=true):asV (frmL a b)=true:=(mi_none0 hf h).2.2.2
theorem mn_5 (h2:¬ miB a b=decide (0<=cvN a b)):False:=h2 cv_iff
end
end Go.SE
namespace Go.SE
theorem mfb200 {a:GAsn} (h:a.atoms.length<=100):(miF ⟨a.facts,[]⟩ a).atoms.length<=200:=mf200A (Nat.zero_le _) h
end Go.SE
