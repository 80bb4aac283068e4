/-
  Parts of a symbolic engine over the program's code: how operations, regions, loops and calls are shown to keep contracts. No conditions.
-/
import Derived.Laws.StructEq
import Derived.RangeFuncRecord
import Derived.RangeFuncCalls
import Derived.OrdersIn
import Derived.Test.YtkafaeeianofnaaEc
import Derived.Test.YtkafaeeianofnaaEa
set_option linter.unusedSimpArgs false
set_option linter.unusedVariables false
set_option linter.unusedSectionVars false

namespace Go.SE
variable [Base]
open Go.RowKit
abbrev TT:Prop:=true=true
abbrev TF:Prop:=false=false
abbrev TN:Prop:=(none:Option Res)=none
abbrev RL (l:List S):Prop:=l=l
abbrev RM (l:List (Option Res)):Prop:=l=l
def allInB (ids:List Nat):List Nat->Bool
 | []=>true
 | x :: l=>inL ids x && allInB ids l
def closedEB (e:Nat->S) (ids:List Nat):List Nat->Bool
 | []=>true
 | j :: l=>allInB ids (e j).refs && closedEB e ids l
def closedMB (m:Nat->Option Res) (ids:List Nat):List Nat->Bool
 | []=>true
 | j :: l=>(match m j with
   | some r=>allInB ids r.refs
   | none=>true) && closedMB m ids l
def closedVB (ids:List Nat):List (Nat × S)->Bool
 | []=>true
 | (_,v) :: l=>allInB ids v.refs && closedVB ids l
def closedRB (ids:List Nat):List (Nat × Res)->Bool
 | []=>true
 | (_,r) :: l=>allInB ids r.refs && closedRB ids l
def notInB (x:Nat):List Nat->Bool
 | []=>true
 | y :: l=>!(x == y) && notInB x l
def allDiffB:List Nat->Bool
 | []=>true
 | x :: l=>notInB x l && allDiffB l
theorem allInB_ok {O:Nat->Option Res} {ids:List Nat}:∀ {l:List Nat},allInB ids l=true->allInO O ids l:=by
 intro l
 induction l with
 | nil=>intro _;trivial
 | cons x l ih=>intro h;simp only [allInB,Bool.and_eq_true] at h;exact ⟨by simp [h.1],ih h.2⟩
theorem closedEB_ok {O:Nat->Option Res} {e:Nat->S} {ids:List Nat}:∀ {l:List Nat},closedEB e ids l=true->closedEO O e ids l:=by
 intro l
 induction l with
 | nil=>intro _;trivial
 | cons x l ih=>intro h;simp only [closedEB,Bool.and_eq_true] at h;exact ⟨allInB_ok h.1,ih h.2⟩
theorem closedMB_ok {O m:Nat->Option Res} {ids:List Nat}:∀ {l:List Nat},closedMB m ids l=true->closedMO O m ids l:=by
 intro l
 induction l with
 | nil=>intro _;trivial
 | cons x l ih =>
  intro h
  simp only [closedMB,Bool.and_eq_true] at h
  refine ⟨?_,ih h.2⟩
  have h1:=h.1
  cases hm:m x with
  | none=>trivial
  | some r=>rw [hm] at h1;exact allInB_ok h1
theorem closedVB_ok {O:Nat->Option Res} {ids:List Nat}:∀ {l:List (Nat × S)},closedVB ids l=true->closedVO O ids l:=by
 intro l
 induction l with
 | nil=>intro _;trivial
 | cons x l ih=>intro h;obtain ⟨j,v⟩:=x;simp only [closedVB,Bool.and_eq_true] at h;exact ⟨allInB_ok h.1,ih h.2⟩
theorem closedRB_ok {O:Nat->Option Res} {ids:List Nat}:∀ {l:List (Nat × Res)},closedRB ids l=true->closedRO O ids l:=by
 intro l
 induction l with
 | nil=>intro _;trivial
 | cons x l ih=>intro h;obtain ⟨j,v⟩:=x;simp only [closedRB,Bool.and_eq_true] at h;exact ⟨allInB_ok h.1,ih h.2⟩
theorem notInB_ok {x:Nat}:∀ {l:List Nat},notInB x l=true->notIn x l:=by
 intro l
 induction l with
 | nil=>intro _;trivial
 | cons y l ih=>intro h;simp only [notInB,Bool.and_eq_true,Bool.not_eq_true',beq_eq_false_iff_ne] at h;exact ⟨h.1,ih h.2⟩
theorem allDiffB_ok:∀ {l:List Nat},allDiffB l=true->allDiff l:=by
 intro l
 induction l with
 | nil=>intro _;trivial
 | cons y l ih=>intro h;simp only [allDiffB,Bool.and_eq_true] at h;exact ⟨notInB_ok h.1,ih h.2⟩
def gcB (live ids:List Nat) (st:St):Bool:=closedEB st.env ids live && closedMB st.mem ids ids
def gcQ (st:St) (k:St->Prop):Option (List Nat × List Nat)->Prop
 | none=>k st
 | some (live,ids)=>gcB live ids st=true/\k (gcSt (fun _=>none) live ids st)
theorem gcQ_ok {st:St} {k k':St->Prop} (hk:∀ s,k s->k' s):∀ {g:Option (List Nat × List Nat)},gcQ st k g->gcK (fun _=>none) st k' g:=by
 intro g
 cases g with
 | none=>exact hk st
 | some p =>
  obtain ⟨live,ids⟩:=p
  intro h
  have h1:=h.1
  unfold gcB at h1
  simp only [Bool.and_eq_true] at h1
  exact ⟨⟨closedEB_ok h1.1,closedMB_ok h1.2,fun j hj=>(by cases hj)⟩,hk _ h.2⟩
def eqB (a b:Bool):Bool:=match a,b with
 | true,true=>true
 | false,false=>true
 | _,_=>false
theorem eqB_ok {a b:Bool} (h:eqB a b=true):a=b:=by cases a <;> cases b <;> first | rfl | cases h
def memSpB (st st':St):List Nat->Bool
 | []=>true
 | j :: l=>((st.mem j).isSome && eqB (st'.sp j) (st.sp j) && eqB (st'.fr j) (st.fr j)) && memSpB st st' l
def blkSpB (st:St):List (Nat × Res)->Bool
 | []=>true
 | (j,r) :: l=>(!(st.sp j) && !(st.fr j) && match r with
   | .blk _=>true
   | .vec _ _=>true
   | _=>false) && blkSpB st l
def ownSpB (st:St) (ρ:Nat->Nat):List Own->Bool
 | []=>true
 | o :: l=>(!(st.sp (ρ o.id)) && !(st.fr (ρ o.id))) && ownSpB st ρ l
def ownEq (st:St) (ρ:Nat->Nat):List Own->Prop
 | []=>True
 | o :: l=>(match st.mem (ρ o.id) with
   | some (.sl _ t xs)=>castL o.t t xs=some o.xs
   | _=>False)/\ownEq st ρ l
def rdQ:Option Nat->Option Nat->Prop
 | none,none=>TT
 | some n,some m=>n<=m/\m<=1099511627776
 | _,_=>False
def fitsB (live:List Nat) (sets:List (Nat × S)) (mids:List Nat) (blks:List (Nat × Res)) (owns:List Own) (st st':St) (m:List (Nat × Nat)):Bool :=
 allDiffB (idsC mids blks owns) && (allDiffB ((idsC mids blks owns).map (lookR m)) && (allDiffB (famsOf st' ((idsC mids blks owns).map (lookR m))) &&
  (closedEB st.env (mids ++ blks.map (·.1)) live && (closedVB (idsC mids blks owns) sets && (closedMB st.mem (mids ++ blks.map (·.1)) mids && (closedRB (idsC mids blks owns) blks &&
  (memSpB st st' mids && (blkSpB st' blks && ownSpB st' (lookR m) owns))))))))
def fitsQ1 (live:List Nat) (sets:List (Nat × S)) (mids:List Nat) (blks:List (Nat × Res)) (owns:List Own) (rd:Option Nat) (st st':St):Option (List (Nat × Nat))->Prop
 | none=>False
 | some m=>fitsB live sets mids blks owns st st' m=true/\live.map st'.env=live.map st.env/\sets.map (fun p=>st'.env p.1)=sets.map (fun p=>p.2.ren (lookR m)) /\
   mids.map st'.mem=mids.map st.mem/\blks.map (fun p=>st'.mem p.1)=blks.map (fun p=>some (p.2.ren (lookR m)))/\ownEq st' (lookR m) owns/\rdQ st'.rd rd
def fitsQ (live:List Nat) (sets:List (Nat × S)) (mids:List Nat) (blks:List (Nat × Res)) (owns:List Own) (rd:Option Nat) (st st':St):Prop :=
 fitsQ1 live sets mids blks owns rd st st' (renL st' owns)
theorem envSame_of {e e':Nat->S}:∀ {l:List Nat},l.map e=l.map e'->envSame e e' l:=by
 intro l
 induction l with
 | nil=>intro _;trivial
 | cons x l ih=>intro h;simp only [List.map_cons,List.cons.injEq] at h;exact ⟨h.1,ih h.2⟩
theorem envSets_of {e:Nat->S} {ρ:Nat->Nat}:∀ {l:List (Nat × S)},l.map (fun p=>e p.1)=l.map (fun p=>p.2.ren ρ)->envSets e ρ l:=by
 intro l
 induction l with
 | nil=>intro _;trivial
 | cons x l ih=>intro h;obtain ⟨j,v⟩:=x;simp only [List.map_cons,List.cons.injEq] at h;exact ⟨h.1,ih h.2⟩
theorem memSame_of {st st':St}:∀ {l:List Nat},memSpB st st' l=true->l.map st'.mem=l.map st.mem->memSame st st' l:=by
 intro l
 induction l with
 | nil=>intro _ _;trivial
 | cons x l ih =>
  intro hb h
  simp only [List.map_cons,List.cons.injEq] at h
  simp only [memSpB,Bool.and_eq_true] at hb
  exact ⟨⟨hb.1.1.1,h.1,eqB_ok hb.1.1.2,eqB_ok hb.1.2⟩,ih hb.2 h.2⟩
theorem memBlks_of {st:St} {ρ:Nat->Nat}:∀ {l:List (Nat × Res)},blkSpB st l=true->l.map (fun p=>st.mem p.1)=l.map (fun p=>some (p.2.ren ρ))->memBlks st ρ l:=by
 intro l
 induction l with
 | nil=>intro _ _;trivial
 | cons x l ih =>
  intro hb h
  obtain ⟨j,r⟩:=x
  simp only [List.map_cons,List.cons.injEq] at h
  simp only [blkSpB,Bool.and_eq_true,Bool.not_eq_true'] at hb
  refine ⟨⟨h.1,hb.1.1.1,hb.1.1.2,?_⟩,ih hb.2 h.2⟩
  cases r <;> first | trivial | (have:=hb.1.2;cases this)
theorem memOwns_of {st:St} {ρ:Nat->Nat}:∀ {l:List Own},ownSpB st ρ l=true->ownEq st ρ l->memOwns st ρ l:=by
 intro l
 induction l with
 | nil=>intro _ _;trivial
 | cons x l ih =>
  intro hb h
  simp only [ownSpB,Bool.and_eq_true,Bool.not_eq_true'] at hb
  exact ⟨⟨hb.1.1,hb.1.2,h.1⟩,ih hb.2 h.2⟩
theorem okO_none {ρ:Nat->Nat}:∀ l:List Nat,okO (fun _=>none) ρ l:=by
 intro l
 induction l with
 | nil=>trivial
 | cons x l ih=>exact ⟨rfl,ih⟩
theorem fitsQ_ok {live:List Nat} {sets:List (Nat × S)} {mids:List Nat} {blks:List (Nat × Res)} {owns:List Own} {rd:Option Nat} {st st':St} (h:fitsQ live sets mids blks owns rd st st'):fitsP (fun _=>none) live sets mids blks owns rd st st':=by
 unfold fitsQ at h
 unfold fitsP
 cases hm:renL st' owns with
 | none=>rw [hm] at h;exact h.elim
 | some m =>
  rw [hm] at h
  obtain ⟨hb,h1,h2,h3,h4,h5,h6⟩:=h
  unfold fitsB at hb
  simp only [Bool.and_eq_true] at hb
  obtain ⟨b1,b2,b3,b4,b5,b6,b7,b8,b9,b10⟩:=hb
  refine ⟨envSame_of h1,envSets_of h2,memSame_of b8 h3,memBlks_of b9 h4,memOwns_of b10 h5,allDiffB_ok b1,allDiffB_ok b2,allDiffB_ok b3,closedEB_ok b4,closedVB_ok b5,closedMB_ok b6,closedRB_ok b7,okO_none _,fun j hj=>(by cases hj),fun j f t xs hj=>(by cases hj),?_⟩
  cases h7:st'.rd <;> cases rd <;> rw [h7] at h6
  ·trivial
  ·exact h6.elim
  ·exact h6.elim
  ·exact h6
def vcLoopQ (body:St->(XK->St->Prop)->Prop) (st:St) (Q:XK->St->Prop):Option Ann->Prop
 | none=>False
 | some ⟨α,ok,mu,i0,nx,live,sets,mids,blks,owns,rd,base⟩=>(ok (i0 st)/\fitsQ live (sets (i0 st)) mids (blks (i0 st)) (owns (i0 st)) (rd st.rd (i0 st)) st st) /\
   ∀ a:α,ok a->body (headP (fun _=>none) live (sets a) mids (blks a) (owns a) base (rd st.rd a) st) (seqK (fun st'=>ok (nx a st')/\mu (nx a st') < mu a/\fitsQ live (sets (nx a st')) mids (blks (nx a st')) (owns (nx a st')) (rd st.rd (nx a st')) st st') Q)
section
variable (tab:TypeId->Option TI) (K:FuncId->Option Con) (pts:FuncId->Option PT) (hp:Nat->Bool) (gcs:Nat->Option (List Nat × List Nat)) (anns:Nat->St->Option Ann) (perm:Nat->List (List Nat))
def vcQ:Code->St->(XK->St->Prop)->Prop
 | .skip,st,Q=>Q .normal st
 | .region id ops _,st,Q=>vcRegP tab K pts ops st (Q .normal) (hp id) (perm id)
 | .seq a b,st,Q=>vcQ a st (seqK (fun st'=>gcQ st' (fun s=>vcQ b s Q) (gcs (firstReg b))) Q)
 | .cond c a b,st,Q=>condK (vcQ a st Q) (vcQ b st Q) (ev st c)
 | .block id c,st,Q=>vcQ c st (blockK id Q)
 | .loop c,st,Q=>vcLoopQ (fun st' Q'=>vcQ c st' Q') st Q (anns (firstReg c) st)
 | .exit id,st,Q=>Q (.exit id) st
 | .ret,st,Q=>Q .ret st
 | _,_,_=>False
end
section
variable {P:Program} {E:Ty->TypeId} {tab:TypeId->Option TI} {K:FuncId->Option Con} {pts:FuncId->Option PT} {hp:Nat->Bool} {gcs:Nat->Option (List Nat × List Nat)} {anns:Nat->St->Option Ann} {perm:Nat->List (List Nat)} {w0:World} {M:MM} {n:Nat}
open Classical in
theorem codeQ_sound (ht:TabOk P E tab) (hKA:KAll P E K) (hPA:PAll P E pts) (hmix:P.follows .mixedOrders=true) (hdr:DrawSound P E tab K w0 M n) (hOO:OOk (fun _=>none) M):∀ (c:Code) (st:St) (a:Act) (w:World) (Qs:XK->St->Prop) (Q:Exit->Act->World->Prop),codeOkP tab K hp perm n c=true->Rel E w0 M n st a w->vcQ tab K pts hp gcs anns perm c st Qs ->
  (∀ x st' a' w',Rel E w0 M n st' a' w'->Qs x st'->Q x.exit' a' w')->c.wp P Q a w:=by
 have hO:=hOO
 intro c
 induction c with
 | skip=>intro st a w Qs Q _ h hv hQ;exact wp_skip (hQ .normal st a w h hv)
 | region id ops draw =>
  intro st a w Qs Q hok h hv hQ
  simp only [codeOkP,Bool.and_eq_true] at hok
  obtain ⟨hok1,hok2⟩:=hok
  simp only [vcQ] at hv
  cases hh:hp id with
  | false =>
   rw [hh] at hv hok2
   cases hpm:perm id with
   | nil =>
    rw [hpm] at hv hok2
    simp only [vcRegP,vcReg] at hv
    simp only at hok2
    cases draw with
    | false=>exact wp_region_list (seq_sound ht hKA (fun st' a' w' hr hk=>hQ .normal st' a' w' hr hk) ops.toList st a w (opsOk_mem hok1) h hv)
    | true=>exact hdr id ops st a w _ Q (by simpa using hok2) hok1 h hv fun st' a' w' hr hk=>hQ .normal st' a' w' hr hk
   | cons l ls =>
    rw [hpm] at hv hok2
    simp only [vcRegP,vcReg] at hv
    simp only [Bool.and_eq_true,permOk,List.all_eq_true] at hok2
    obtain ⟨hd,hp1,hp2⟩:=hok2
    subst hd
    refine wp_region_any hmix (any_sound ht hKA hok1 (fun st' a' w' hr hk=>hQ .normal st' a' w' hr hk) _ _ st a _ hp1 h.drawn fun x hx=>vcEach_mem hv x ?_)
    have:=hp2 x hx
    simpa using this
  | true =>
   rw [hh] at hv hok2
   cases hpm:perm id with
   | nil =>
    rw [hpm] at hv hok2
    simp only [vcRegP] at hv
    simp only [Bool.not_eq_true'] at hok2
    subst hok2
    exact wp_region_list (seqP_sound ht hKA hPA (fun st' a' w' hr hk=>hQ .normal st' a' w' hr hk) ops.toList st a w (opsOk_mem hok1) h hv)
   | cons l ls =>
    rw [hpm] at hv hok2
    cases ls with
    | cons l' ls =>
     rcases l with _ | ⟨i0,l⟩
     ·rcases l' with _ | ⟨s1,_ | ⟨s2,_ | ⟨_,_⟩⟩⟩
      ·cases hok2
      ·cases hok2
      ·rcases ls with _ | ⟨_,_⟩
       ·simp only [vcRegP] at hv
        simp only [Bool.and_eq_true] at hok2
        obtain ⟨hd,hdl⟩:=hok2
        subst hd
        exact draw_swap (pts:=pts) ht (tab_small ht) hKA hmix hdl hok1 h hv fun st' a' w' hr hk=>hQ .normal st' a' w' hr hk
       ·cases hok2
      ·cases hok2
     ·cases hok2
    | nil =>
    cases l with
    | nil =>
     simp only [vcRegP] at hv
     simp only [Bool.and_eq_true] at hok2
     obtain ⟨hd,hdl⟩:=hok2
     subst hd
     exact draw_last ht (tab_small ht) hKA hPA hmix hdl hok1 h hv fun st' a' w' hr hk=>hQ .normal st' a' w' hr hk
    | cons i0 l =>
     simp only [vcRegP] at hv
     simp only [Bool.and_eq_true,permOk,List.all_eq_true] at hok2
     obtain ⟨hd,hp1,hp2⟩:=hok2
     subst hd
     refine wp_region_any hmix (one_sound ht hKA hPA hok1 (fun st' a' w' hr hk=>hQ .normal st' a' w' hr hk) _ (i0 :: l) _ st a _ hp1 (fun x hx=>?_) h.drawn hv)
     have:=hp2 x hx
     simpa using this
 | seq x y ihx ihy =>
  intro st a w Qs Q hok h hv hQ
  simp only [codeOkP,Bool.and_eq_true] at hok
  refine wp_seq (ihx st a w _ _ hok.1 h hv fun k st' a' w' hr hk=>?_)
  cases k with
  | normal =>
   simp only [seqK] at hk
   have hk2:=gcQ_ok (k':=fun s=>vcQ tab K pts hp gcs anns perm y s Qs) (fun _ h=>h) hk
   unfold gcK at hk2
   split at hk2
   ·exact ihy st' a' w' Qs Q hok.2 hr hk2 hQ
   ·exact ihy _ a' w' Qs Q hok.2 (hr.gc hO hk2.1) hk2.2 hQ
  | exit id=>exact hQ (.exit id) st' a' w' hr hk
  | ret=>exact hQ .ret st' a' w' hr hk
 | cond cnd x y ihx ihy =>
  intro st a w Qs Q hok h hv hQ
  simp only [codeOkP,Bool.and_eq_true] at hok
  simp only [vcQ] at hv
  unfold condK at hv
  split at hv
  ·rename_i t he
   have hval:=(ev_val h he).1
   cases t with
   | true=>exact wp_cond_true hval (ihx st a w Qs Q hok.1 h (vcIf_t hv) hQ)
   | false=>exact wp_cond_false hval (ihy st a w Qs Q hok.2 h (vcIf_f hv) hQ)
  ·exact hv.elim
 | block id x ih =>
  intro st a w Qs Q hok h hv hQ
  refine wp_block (ih st a w _ _ hok h hv fun k st' a' w' hr hk=>?_)
  cases k with
  | normal=>exact hQ .normal st' a' w' hr hk
  | exit id' =>
   simp only [XK.exit',Exit.inBlock]
   simp only [blockK] at hk
   split
   ·rename_i e;rw [if_pos e] at hk;exact hQ .normal st' a' w' hr hk
   ·rename_i e;rw [if_neg e] at hk;exact hQ (.exit id') st' a' w' hr hk
  | ret=>exact hQ .ret st' a' w' hr hk
 | loop x ih =>
  intro st a w Qs Q hok h hv hQ
  simp only [vcQ] at hv
  unfold vcLoopQ at hv
  split at hv
  ·exact hv.elim
  ·rename_i α ok mu i0 nx live sets mids blks owns rd base hA
   obtain ⟨⟨ho0,hf0⟩,hround⟩:=hv
   let α0:α:=i0 st
   let hd:α->St:=fun α=>SE.headP (fun _=>none) live (sets α) mids (blks α) (owns α) base (rd st.rd α) st
   have hex:∀ (a:Act) (w:World),(∃ α,ok α/\Rel E w0 M n (hd α) a w)->∃ m,∃ α,ok α/\Rel E w0 M n (hd α) a w/\mu α=m :=
    fun a w ⟨α,h1,h2⟩=>⟨_,α,h1,h2,rfl⟩
   let μ:Act->World->Nat:=fun a w=>if hh:∃ m,∃ α,ok α/\Rel E w0 M n (hd α) a w/\mu α=m then Classical.choose (least hh) else 0
   refine wp_loop (fun a w=>∃ α,ok α/\Rel E w0 M n (hd α) a w) μ ⟨α0,ho0,h.headP hO (fitsQ_ok hf0)⟩ ?_
   intro a w hI
   have hh:=hex a w hI
   obtain ⟨α,h1,h2,h3⟩:=(Classical.choose_spec (least hh)).1
   have hμ:μ a w=mu α:=by simp only [μ,dif_pos hh];exact h3.symm
   refine ih _ a w _ _ hok h2 (hround α h1) fun k st' a' w' hr hk=>?_
   cases k with
   | normal =>
    obtain ⟨g1,g2,g3⟩:=hk
    have hrel:Rel E w0 M n (hd (nx α st')) a' w':=hr.headP hO (fitsQ_ok g3)
    refine ⟨⟨nx α st',g1,hrel⟩,?_⟩
    have hh':∃ m,∃ α,ok α/\Rel E w0 M n (hd α) a' w'/\mu α=m:=⟨_,nx α st',g1,hrel,rfl⟩
    have:μ a' w'<=mu (nx α st'):=by simp only [μ,dif_pos hh'];exact (Classical.choose_spec (least hh')).2 _ ⟨nx α st',g1,hrel,rfl⟩
    omega
   | exit id=>exact hQ (.exit id) st' a' w' hr hk
   | ret=>exact hQ .ret st' a' w' hr hk
 | exit id=>intro st a w Qs Q _ h hv hQ;exact wp_exit (hQ (.exit id) st a w h hv)
 | ret=>intro st a w Qs Q _ h hv hQ;exact wp_ret (hQ .ret st a w h hv)
 | _=>intro st a w Qs Q _ h hv hQ;exact hv.elim
theorem fnQ_sound (ht:TabOk P E tab) (hKA:KAll P E K) (hPA:PAll P E pts) (hmix:P.follows .mixedOrders=true) (hdr:∀ w0 M n,DrawSound P E tab K w0 M n) {f:FuncId} {fn:Func} {c:Code} {con:Con} (hf:P.funcs[f]?=some fn) (hb:fn.body=some c) (hn:con.aks.length<=fn.ntmps) (hok:codeOkP tab K hp perm fn.ntmps c=true)
  {anns:Args con.aks->Nat->Nat->St->Option Ann} (hvc:∀ x k,con.pre x->(hasRdr con.aks=true->k+con.cost x<=rdLimit)->vcQ tab K pts hp gcs (anns x k) perm c (entry (encs con.aks x) (rdOf (hasRdr con.aks) k)) (retOk tab con fn.results.toList x k)):CallOk P E f con:=by
 intro w0 ro0 ρ k x vs id0 hpre hin hrd hargs
 have hlen:vs.length=con.aks.length:=by
  rw [hargs.1]
  have:∀ (ks:List AK) (x:Args ks),(encs ks x).length=ks.length:=by
   intro ks
   induction ks with
   | nil=>intro x;rfl
   | cons k ks ih=>intro x;obtain ⟨x,xs⟩:=x;simp [encs,ih]
  exact this _ _
 have hrd1:hasRdr con.aks=true->RdOk w0 ro0 ρ k:=fun h=>(hrd h).1
 refine calls_of_wp hf hb ?_
 refine codeQ_sound ht hKA hPA hmix (hdr _ _ _) OOk.none c _ _ _ (retOk tab con fn.results.toList x k) _ hok (entry_rel hin hrd1 hargs (by omega)) (hvc x k hpre fun h=>(hrd h).2) ?_
 intro xk st' a' w' hr hk
 have fin:retOk tab con fn.results.toList x k .ret st'->a'.defers=[]/\∃ v,(results fn a'.tmps).run P w'=.ok v w'/\∃ v1 r g,Ending.returned v=.returned v1/\con.post x r/\Ext (fun b=>hasRdr con.aks=true/\b=ρ) w0 w'/\g.ρ=ρ/\ResOk E w0 w' ro0 con.rks id0 r v1 g/\(hasRdr con.aks=true->RdStep w0 w' ρ (k+con.cost x)):=by
  intro hv
  obtain ⟨v,h1,r,g,h2,h3,h4,h5,h6⟩:=exit_ok id0 ht hin hrd1 hr hv
  exact ⟨hr.defers,v,h1,v,r,g,rfl,h2,h3,h4,h5,h6⟩
 cases xk with
 | normal=>exact fin hk
 | ret=>exact fin hk
 | exit id=>exact hk.elim
theorem fn_okQ {l:List (FuncId × Con)} {lp:List (FuncId × PT)} (ht:TabOk P E tab) (hmix:P.follows .mixedOrders=true) (hl:AllOk P E l) (hlp:AllPt P E lp) {f:FuncId} {fn:Func} {con:Con} (hf:P.funcs[f]?=some fn)
  (hb : fn.body = some (bodyOf fn)) (hname : (fn.name == "runtime.NumGoroutine") = false) (hn : con.aks.length <= fn.ntmps) (hok : codeOkP tab (lookF l) hp perm fn.ntmps (bodyOf fn) = true) {anns : Args con.aks -> Nat -> Nat -> St -> Option Ann}
  (hvc:∀ x k,con.pre x->(hasRdr con.aks=true->k+con.cost x<=rdLimit)->vcQ tab (lookF l) (lookP lp) hp gcs (anns x k) perm (bodyOf fn) (entry (encs con.aks x) (rdOf (hasRdr con.aks) k)) (retOk tab con fn.results.toList x k))
  (htot:∀ x,con.pre x->∃ r,con.post x r):FnOk P E f con :=
 ⟨⟨fn,_,hf,hname,hb⟩,fnQ_sound ht (kall_of hl) (pall_of hlp) hmix (fun _ _ _=>draw_sound ht (tab_small ht) (kall_of hl) hmix _ _ _) hf hb hn hok hvc,htot⟩
end
end Go.SE

namespace Go.SE
variable [Base]
open Go.RowKit
end Go.SE

namespace Go.SE
variable [Base]
open Go.RowKit
section
variable {P:Program} {E:Ty->TypeId} {tab:TypeId->Option TI} {K:FuncId->Option Con} {pts:FuncId->Option PT} {hp:Nat->Bool} {anns:Nat->St->Option Ann} {perm:Nat->List (List Nat)} {w0:World} {M:MM} {n:Nat} {st:St} {a:Act} {w:World}
def dom (x:List Nat):Nat->Option Res:=fun j=>match inL x j with
 | true=>some .dead
 | false=>none
end
end Go.SE

namespace Go.SE
open Go.RowKit
variable [Base]
theorem cln:(TT=True)/\(TF=True)/\(TN=True)/\(∀ l,RL l=True)/\(∀ l,RM l=True)/\(∀ p:Prop,(True/\p)=p)/\(∀ p:Prop,(p/\True)=p)/\(∀ (α:Type) (a:α),(a=a)=True)/\(∀ p:Prop,(p->True)=True)/\(∀ α:Type,(α->True)=True) /\
  (∀ (α:Type) [Nonempty α] (b:Prop),(α->b)=b)/\(∀ (α:Type) (a b:α) (l m:List α),(a :: l=b :: m)=(a=b/\l=m))/\(∀ x y,(S.s x=S.s y)=(x=y))/\(∀ x y,(S0.c x=S0.c y)=(x=y))/\(∀ x y,(S0.agg x=S0.agg y)=(x=y))/\(∀ x y,(CV.d x=CV.d y)=(x=y)) /\
  (∀ x y,(CV.own x=CV.own y)=(x=y))/\(∀ x o y q,(CV.ptr x o=CV.ptr y q)=(x=y/\o=q))/\(∀ x y,(DC.val x=DC.val y)=(x=y))/\(∀ k x j y,(Value.int k x=Value.int j y)=(k=j/\x=y))/\(∀ x y,(Value.bool x=Value.bool y)=(x=y))/\(∀ (α:Type) (x y:α),(some x=some y)=(x=y)) /\
  (∀ x y,(Res.blk x=Res.blk y)=(x=y))/\(∀ (α β:Type) (a c:α) (b d:β),((a,b)=(c,d))=(a=c/\b=d))/\(∀ (a b:Prop),vcIf true a b=a)/\(∀ (a b:Prop),vcIf false a b=b)/\(∀ (α:Type) (a:α),(a ∈ ([]:List α))=False)/\((¬ False)=True)/\(∀ (α:Type) (a b:α),(a ≠ b)=¬ a=b) /\
  (∀ b:Bool,(b && true)=b)/\(∀ n:Nat,n+0=n)/\(∀ (α:Type) (l:List α),l ++ []=l)/\(∀ (α:Type) (l:List α),[] ++ l=l)/\(∀ α:Type,([]:List α).length=0)/\(∀ (α:Type) (a:α) (l:List α),(a :: l).length=l.length+1)/\(∀ n:Nat,0+n=n)/\(∀ n:Nat,((n:Int)).toNat=n)/\(∀ n:Nat,n - 0=n) /\
  (∀ (α:Type) (l:List α),l.drop 0=l)/\(∀ (α β:Type) (f:α->β),[].map f=[])/\(∀ (α:Type) (l:List α),l.take 0=[])/\(∀ (α:Type) (p:α->Prop) (b:α),(∀ a,b=a->p a)=p b) /\
  (∀ n,inK .i64 n=(-9223372036854775808<=n/\n<=9223372036854775807))/\(∀ n,inK .u64 n=(0<=n/\n<=18446744073709551615))/\(∀ n,inK .u16 n=(0<=n/\n<=65535))/\(∀ n,inK .u8 n=(0<=n/\n<=255)):=by
 refine ⟨?_,?_,?_,?_,?_,?_,?_,?_,?_,?_,?_,?_,?_,?_,?_,?_,?_,?_,?_,?_,?_,?_,?_,?_,?_,?_,?_,?_,?_,?_,?_,?_,?_,?_,?_,?_,?_,?_,?_,?_,?_,?_,?_,?_,?_,?_⟩ <;> intros <;> first | (simp;done) | rfl | exact vcIf_true | exact vcIf_false
theorem opn:(∀ (t:Bool) (a b:Prop),vcIf t a b=((t=true->a)/\(t=false->b)))/\(∀ (p:Prop) [Decidable p],(decide p=true)=p)/\(∀ (p:Prop) [Decidable p],(decide p=false)=¬ p)/\(∀ (α:Type) [BEq α] [LawfulBEq α] (a b:α),((a != b)=true)=¬ a=b) /\
  (∀ (α:Type) (a b:α),(a ≠ b)=¬ a=b)/\(∀ (α:Type) [BEq α] [LawfulBEq α] (a b:α),((a == b)=true)=(a=b))/\(∀ (α:Type) [BEq α] [LawfulBEq α] (a b:α),((a == b)=false)=¬ a=b)/\(∀ (α:Type) [BEq α] [LawfulBEq α] (a b:α),((a != b)=false)=(a=b)) /\
  (∀ b:Bool,((!b)=true)=(b=false))/\(∀ b:Bool,((!b)=false)=(b=true))/\(∀ n m:Nat,((n:Int) < (m:Int))=(n < m))/\(∀ n m:Nat,((n:Int)=(m:Int))=(n=m)):=by
 refine ⟨?_,?_,?_,?_,?_,?_,?_,?_,?_,?_,?_,?_⟩ <;> intros <;> first | exact propext vcIf_iff | rfl | (simp;done) | exact propext Int.natCast_inj
end Go.SE

namespace Go.SE
open Go.RowKit
theorem GCmd.eta (c:GCmd):GCmd.mk c.kind c.a c.b c.test c.inv c.body c.els=c:=by cases c;rfl
mutual
def ndC:GCmd->Nat
 | .mk _ _ _ _ _ bo el=>1+ndL bo+ndL el
def ndL:List GCmd->Nat
 | []=>0
 | c :: l=>ndC c+ndL l
end
mutual
def wtC:GCmd->Nat
 | .mk _ _ _ _ i bo el=>i.facts.length+i.atoms.length+(bo.length+wcL bo)+(el.length+wcL el)
def wcL:List GCmd->Nat
 | []=>0
 | c :: l=>wtC c+wcL l
end
mutual
def bdC:GCmd->Prop
 | .mk _ _ _ _ i bo el=>i.facts.length<=281474976710656/\i.atoms.length<=281474976710656/\(bo.length<=281474976710656/\bcL bo)/\(el.length<=281474976710656/\bcL el)
def bcL:List GCmd->Prop
 | []=>True
 | c :: l=>bdC c/\bcL l
end
structure BdL (l:List GCmd):Prop where
 len:l.length<=281474976710656
 all:bcL l
theorem GCmd.ext_iff {a b:GCmd}:a=b ↔ a.kind=b.kind/\a.a=b.a/\a.b=b.b/\a.test=b.test/\a.inv=b.inv/\a.body=b.body/\a.els=b.els:=by
 cases a;cases b;simp only [GCmd.mk.injEq,GCmd.kind,GCmd.a,GCmd.b,GCmd.test,GCmd.inv,GCmd.body,GCmd.els]
mutual
def eqCB:GCmd->GCmd->Bool
 | .mk k a b t i bo el,d=>k == d.kind && (a == d.a && (b == d.b && (t == d.test && (i == d.inv && (eqLB bo d.body && eqLB el d.els)))))
def eqLB:List GCmd->List GCmd->Bool
 | [],[]=>true
 | c :: l,d :: m=>eqCB c d && eqLB l m
 | _,_=>false
end
theorem eqLB_of {n:Nat} (ih:∀ a b:GCmd,ndC a<=n->(eqCB a b=true ↔ a=b)):∀ l m:List GCmd,ndL l<=n->(eqLB l m=true ↔ l=m):=by
 intro l
 induction l with
 | nil=>intro m _;cases m <;> simp [eqLB]
 | cons c l ihl =>
  intro m hn
  cases m with
  | nil=>simp [eqLB]
  | cons d m =>
   simp only [ndL] at hn
   simp only [eqLB,Bool.and_eq_true,ih c d (by omega),ihl m (by omega),List.cons.injEq]
theorem eqCB_iff':∀ n:Nat,∀ a b:GCmd,ndC a<=n->(eqCB a b=true ↔ a=b):=by
 intro n
 induction n with
 | zero=>intro a b h;cases a;simp only [ndC] at h;omega
 | succ n ih =>
  intro a b h
  obtain ⟨k,x,y,t,i,bo,el⟩:=a
  obtain ⟨k',x',y',t',i',bo',el'⟩:=b
  simp only [ndC] at h
  simp only [eqCB,GCmd.kind,GCmd.a,GCmd.b,GCmd.test,GCmd.inv,GCmd.body,GCmd.els,Bool.and_eq_true,beq_iff_eq,eqLB_of ih bo bo' (by omega),eqLB_of ih el el' (by omega),GCmd.mk.injEq]
theorem eqCB_iff (a b:GCmd):eqCB a b=true ↔ a=b:=eqCB_iff' _ a b (Nat.le_refl _)
instance:DecidableEq GCmd:=fun a b=>decidable_of_iff _ (eqCB_iff a b)
theorem ndC_eq (c:GCmd):ndC c=1+ndL c.body+ndL c.els:=by cases c;simp [ndC,GCmd.body,GCmd.els]
theorem wtC_eq (c:GCmd):wtC c=c.inv.facts.length+c.inv.atoms.length+(c.body.length+wcL c.body)+(c.els.length+wcL c.els):=by
 cases c;simp [wtC,GCmd.body,GCmd.els,GCmd.inv]
structure BdC (c:GCmd):Prop where
 f:c.inv.facts.length<=281474976710656
 a:c.inv.atoms.length<=281474976710656
 b:BdL c.body
 e:BdL c.els
theorem bdC_iff (c:GCmd):bdC c ↔ BdC c:=by
 cases c
 simp only [bdC]
 exact ⟨fun ⟨a,b,c,d⟩=>⟨a,b,⟨c.1,c.2⟩,⟨d.1,d.2⟩⟩,fun h=>⟨h.f,h.a,⟨h.b.len,h.b.all⟩,⟨h.e.len,h.e.all⟩⟩⟩
theorem ndL_nil:ndL []=0:=by simp [ndL]
theorem ndL_cons (c:GCmd) (l):ndL (c :: l)=ndC c+ndL l:=by simp [ndL]
theorem wcL_nil:wcL []=0:=by simp [wcL]
theorem wcL_cons (c:GCmd) (l):wcL (c :: l)=wtC c+wcL l:=by simp [wcL]
theorem ndL_append (a b:List GCmd):ndL (a ++ b)=ndL a+ndL b:=by
 induction a with
 | nil=>simp [ndL]
 | cons c a ih=>simp only [List.cons_append,ndL_cons,ih];omega
theorem wcL_append (a b:List GCmd):wcL (a ++ b)=wcL a+wcL b:=by
 induction a with
 | nil=>simp [wcL]
 | cons c a ih=>simp only [List.cons_append,wcL_cons,ih];omega
theorem bcL_iff (l:List GCmd):bcL l ↔ ∀ c ∈ l,BdC c:=by
 induction l with
 | nil=>simp [bcL]
 | cons c l ih=>simp [bcL,ih,bdC_iff]
theorem getD_mem' {α:Type} {l:List α} {i:Nat} {d:α} (h:i < l.length):l.getD i d ∈ l:=by
 rw [List.getD_eq_getElem?_getD,List.getElem?_eq_getElem h];exact List.getElem_mem h
theorem take_step {α:Type} {l:List α} {i:Nat} {d:α} (h:i < l.length):l.take (i+1)=l.take i ++ [l.getD i d]:=by
 rw [List.take_add_one,List.getD_eq_getElem?_getD,List.getElem?_eq_getElem h];rfl
theorem ndL_step {l:List GCmd} {i:Nat} {d:GCmd} (h:i < l.length):ndL (l.take (i+1))=ndL (l.take i)+ndC (l.getD i d):=by
 rw [take_step (d:=d) h,ndL_append,ndL_cons,ndL_nil];omega
theorem wcL_step {l:List GCmd} {i:Nat} {d:GCmd} (h:i < l.length):wcL (l.take (i+1))=wcL (l.take i)+wtC (l.getD i d):=by
 rw [take_step (d:=d) h,wcL_append,wcL_cons,wcL_nil];omega
theorem ndL_take_le (l:List GCmd) (i:Nat):ndL (l.take i)<=ndL l:=by
 conv=>rhs;rw [← List.take_append_drop i l,ndL_append]
 omega
theorem wcL_take_le (l:List GCmd) (i:Nat):wcL (l.take i)<=wcL l:=by
 conv=>rhs;rw [← List.take_append_drop i l,wcL_append]
 omega
theorem ndL_get {l:List GCmd} {i:Nat} {d:GCmd} (h:i < l.length):ndC (l.getD i d)<=ndL l:=by
 have:=ndL_step (d:=d) h;have:=ndL_take_le l (i+1);omega
theorem wcL_get {l:List GCmd} {i:Nat} {d:GCmd} (h:i < l.length):wtC (l.getD i d)<=wcL l:=by
 have:=wcL_step (d:=d) h;have:=wcL_take_le l (i+1);omega
theorem BdL.get {l:List GCmd} (hl:BdL l) {i:Nat} {d:GCmd} (h:i < l.length):BdC (l.getD i d) :=
 (bcL_iff l).1 hl.all _ (getD_mem' h)
theorem ndC_pos (c:GCmd):0 < ndC c:=by rw [ndC_eq];omega
theorem small_bd:∀ n:Nat,∀ c:GCmd,ndC c<=n->wtC c<=281474976710656->BdC c:=by
 intro n
 induction n with
 | zero=>intro c h;have:=ndC_pos c;omega
 | succ n ih =>
  intro c h hw
  rw [ndC_eq] at h
  rw [wtC_eq] at hw
  have key:∀ l:List GCmd,ndL l<=n->l.length+wcL l<=281474976710656->BdL l:=by
   intro l hn hl
   refine ⟨by omega,(bcL_iff l).2 fun c hc=>?_⟩
   obtain ⟨i,hi,rfl⟩:=List.getElem_of_mem hc
   have e:l[i]=l.getD i c:=by rw [List.getD_eq_getElem?_getD,List.getElem?_eq_getElem hi];rfl
   have h1:=ndL_get (d:=c) hi;have h2:=wcL_get (d:=c) hi
   rw [e]
   exact ih _ (by omega) (by omega)
  exact ⟨by omega,by omega,key _ (by omega) (by omega),key _ (by omega) (by omega)⟩
theorem small_bdC {c:GCmd} (h:wtC c<=281474976710656):BdC c:=small_bd _ c (Nat.le_refl _) h
theorem small_bdL {l:List GCmd} (h:l.length+wcL l<=281474976710656):BdL l:=by
 refine ⟨by omega,(bcL_iff l).2 fun c hc=>?_⟩
 obtain ⟨i,hi,rfl⟩:=List.getElem_of_mem hc
 have e:l[i]=l.getD i (Ty.zero .cmd):=by rw [List.getD_eq_getElem?_getD,List.getElem?_eq_getElem hi];rfl
 have h2:=wcL_get (d:=Ty.zero .cmd) hi
 rw [e]
 exact small_bdC (by omega)
theorem nd_wt:∀ n:Nat,∀ c:GCmd,ndC c<=n->ndC c<=1+wtC c:=by
 intro n
 induction n with
 | zero=>intro c h;have:=ndC_pos c;omega
 | succ n ih =>
  intro c h
  have key:∀ l:List GCmd,ndL l<=n->ndL l<=l.length+wcL l:=by
   intro l
   induction l with
   | nil=>intro _;simp [ndL]
   | cons c l ihl =>
    intro hl
    rw [ndL_cons] at hl ⊢
    rw [wcL_cons,List.length_cons]
    have:=ih c (by omega);have:=ihl (by omega);omega
  rw [ndC_eq] at h ⊢
  rw [wtC_eq]
  have:=key c.body (by omega);have:=key c.els (by omega);omega
theorem ndC_wt (c:GCmd):ndC c<=1+wtC c:=nd_wt _ c (Nat.le_refl _)
theorem ndL_wt (l:List GCmd):ndL l<=l.length+wcL l:=by
 induction l with
 | nil=>simp [ndL]
 | cons c l ih=>rw [ndL_cons,wcL_cons,List.length_cons];have:=ndC_wt c;omega
end Go.SE

namespace Go.SE
variable [Base]
open Go.RowKit
section
variable {H:Type} {enc:TypeId × Value->H} {P:Program} {W:World}
theorem cells?_at {a:Addr} {n:Nat} {cs:List Value} (hn:0 < n) (h:W.cells? 0 a n=some cs):a=⟨a.block,a.off,none⟩/\∃ vs ty fz,W.heap[a.block]?=some (.cells vs ty fz):=by
 obtain ⟨hl,hg⟩:=cells?_get h
 have h0:0 < cs.length:=by omega
 have h1:=hg 0 cs[0] (List.getElem?_eq_getElem h0)
 rw [show a.add 0=a by simp [Addr.add]] at h1
 unfold World.cell? at h1
 split at h1
 ·rename_i c _ _ hb
  split at h1
  ·cases h1
  ·rename_i hs
   obtain ⟨ab,ao,asp⟩:=a
   cases asp with
   | none=>exact ⟨rfl,_,_,_,hb⟩
   | some s=>simp at hs
 ·cases h1
theorem slice_B {t:Ty} {e ty:TypeId} {B:t.den->Prop} (hu:P.underlying ty=some (.slice e)) (hc:P.cellsOf e=t.sz) (hby:0 < P.bytesOf e) {n:Nat} {v:Value} {x:DataW H × List MemPlace} (h:DataW.trod enc P W 0 (fun _=>true) true n ty [v]=some x)
  (hw:∀ k ∈ x.1.weights P ty,k<=reachBytes)
  (hB:∀ m cs (x:DataW H × List MemPlace),m < n->DataW.trod enc P W 0 (fun _=>true) true m e cs=some x->(∀ k ∈ x.1.weights P e,k<=reachBytes) ->
   ∃ y:t.den,cs.length=t.sz/\(∀ (k:Nat) (c:DC),(t.cells y)[k]?=some c->∃ u,cs[k]?=some u/\DR (roAll W) c u)/\B y)
  (hpm:t.pm=false:=by rfl):∃ xs:List t.den,xs.length<=reachBytes/\(∀ y ∈ xs,B y)/\DR (roAll W) (.arr t xs) v:=by
 rcases DataW.trod_slice hu h with ⟨hv,-⟩ | ⟨a,len,cap,elems,rest,m,hm,hv,rfl,-,hlc,hcm,hel,hget,hrest,-⟩
 ·cases hv
  exact ⟨[],Nat.zero_le _,by simp,.nil t⟩
 ·cases hv
  obtain ⟨hrl,hrest⟩:=hrest rfl
  have hwe:∀ d ∈ elems,∀ k ∈ d.1.weights P e,k<=reachBytes:=by
   intro d hd k hk
   refine hw k ?_
   simp only [DataW.weights,hu]
   refine List.mem_cons_of_mem _ (List.mem_append_left _ ?_)
   clear hget hw h hrest hel hrl
   induction elems with
   | nil=>cases hd
   | cons d0 l ih =>
    simp only [List.map_cons,DataW.weightsAll,List.mem_append]
    rcases List.mem_cons.1 hd with rfl | hd
    ·exact .inl hk
    ·exact .inr (ih hd)
  by_cases hcap:cap=0
  ·subst hcap
   have:len=0:=by omega
   subst this
   exact ⟨[],Nat.zero_le _,by simp,.emp t a⟩
  ·have h0:∃ cs,W.cells? 0 a (P.cellsOf e)=some cs:=by
    have ea:a.add (0 * P.cellsOf e)=a:=by simp [Addr.add]
    by_cases hl0:len=0
    ·have h1:=hrest 0 (by omega)
     rw [hl0] at h1
     have hlt:0 < rest.length:=by omega
     rw [List.getElem?_eq_getElem hlt,Option.bind_eq_some_iff] at h1
     obtain ⟨cs,hcs,-⟩:=h1
     rw [Nat.zero_add,ea] at hcs
     exact ⟨cs,hcs⟩
    ·have h1:=hget 0 (by omega)
     have hlt:0 < elems.length:=by omega
     rw [List.getElem?_eq_getElem hlt,Option.bind_eq_some_iff] at h1
     obtain ⟨cs,hcs,-⟩:=h1
     rw [ea] at hcs
     exact ⟨cs,hcs⟩
   obtain ⟨cs0,hcs0⟩:=h0
   obtain ⟨hspot,vs,ty',fz,hb⟩:=cells?_at (by rw [hc];exact sz_pos t) hcs0
   obtain ⟨ab,ao,asp⟩:=a
   simp only [Addr.mk.injEq,true_and] at hspot
   subst hspot
   simp only at hb
   have key:∀ m',m'<=len->∃ xs:List t.den,xs.length=m'/\(∀ y ∈ xs,B y)/\RowR (roAll W) (flat t xs) vs ao:=by
    intro m'
    induction m' with
    | zero=>exact fun _=>⟨[],rfl,by simp,by simp only [flat,List.flatMap_nil];exact RowR.nil⟩
    | succ m' ih =>
     intro hm'
     obtain ⟨xs,hxl,hxb,hxs⟩:=ih (by omega)
     have h1:=hget m' (by omega)
     have hlt:m' < elems.length:=by omega
     rw [List.getElem?_eq_getElem hlt,Option.bind_eq_some_iff] at h1
     obtain ⟨cs,hcs,htr⟩:=h1
     obtain ⟨y,hyl,hy,hyb⟩:=hB m cs elems[m'] (by omega) htr (hwe _ (List.getElem_mem hlt))
     obtain ⟨hcl,hcg⟩:=cells?_get hcs
     refine ⟨xs ++ [y],by simp [hxl],?_,?_⟩
     ·intro z hz
      rcases List.mem_append.1 hz with hz | hz
      ·exact hxb z hz
      ·rw [List.mem_singleton.1 hz];exact hyb
     rw [flat_append]
     refine RowR.append hxs ?_
     have hf:flat t [y]=t.cells y:=by simp [flat]
     rw [hf,flat_len,hxl]
     intro k c hcc
     obtain ⟨u',hu',hd⟩:=hy k c hcc
     refine ⟨u',?_,hd⟩
     have h2:=hcg k u' hu'
     rw [hc] at h2
     have h3:(⟨ab,ao,none⟩:Addr).add (m' * t.sz)=⟨ab,ao+m' * t.sz,none⟩:=by
      unfold Addr.add;split <;> simp_all
     have h4:(⟨ab,ao+m' * t.sz,none⟩:Addr).add k=⟨ab,ao+m' * t.sz+k,none⟩:=by
      unfold Addr.add;split <;> simp_all
     rw [h3,h4] at h2
     simpa [World.cell?,hb] using h2
   obtain ⟨xs,hxl,hxb,hxs⟩:=key len (Nat.le_refl _)
   have hb1:=hw ((elems.length+rest.length) * P.bytesOf e) (by simp only [DataW.weights,hu];simp)
   have hb3:(elems.length+rest.length) * 1<=(elems.length+rest.length) * P.bytesOf e:=Nat.mul_le_mul_left _ hby
   refine ⟨xs,by omega,hxb,?_⟩
   rw [← hxl]
   exact DR.of_row (roAll_of hb) (fun h=>by rw [hpm] at h;cases h) (by omega) hcm hxs
def elCmd (P:Program) (ty:TypeId):Bool :=
 match P.underlying ty with
 | some (.struct fs)=>(match fs.toList with
  | [f0,f1,f2,f3,f4,f5,f6]=>(f0.offset == 0 && isI64 P f0.type && P.cellsOf f0.type == 1) && (f1.offset == 1 && isI64 P f1.type && P.cellsOf f1.type == 1) && (f2.offset == 2 && isI64 P f2.type && P.cellsOf f2.type == 1) &&
   (f3.offset == 3 && elFact P f3.type) && (f4.offset == 6 && fldsOk P f4.type [slOf P (elFact P),slOf P (elAtom P)] && P.cellsOf f4.type == 2) &&
   (f5.offset == 8 && slOf P (· == ty) f5.type && P.cellsOf f5.type == 1) && (f6.offset == 9 && slOf P (· == ty) f6.type && P.cellsOf f6.type == 1)
  | _=>false) && P.cellsOf ty == 10 && decide (0 < P.bytesOf ty)
 | _=>false
theorem opensBB {t:Ty} {e:TypeId} (he:Opens P e t) (m:Nat) (cs:List Value) (x:DataW H × List MemPlace) (h:DataW.trod enc P W 0 (fun _=>true) true m e cs=some x) :
  ∃ y:t.den,cs.length=t.sz/\(∀ (k:Nat) (c:DC),(t.cells y)[k]?=some c->∃ u,cs[k]?=some u/\DR (roAll W) c u)/\True:=by
 obtain ⟨y,h1,h2⟩:=he.2.2 _ _ _ _ _ _ _ h
 exact ⟨y,h1,h2,trivial⟩
theorem asn_B {ty:TypeId} (h:fldsOk P ty [slOf P (elFact P),slOf P (elAtom P)]=true) {n:Nat} {cs:List Value} {x:DataW H × List MemPlace} (hx:DataW.trod enc P W 0 (fun _=>true) true n ty cs=some x) (hw:∀ k ∈ x.1.weights P ty,k<=reachBytes) :
  ∃ (y:GAsn) (u0 u1:Value),cs=[u0,u1]/\y.facts.length<=reachBytes/\y.atoms.length<=reachBytes/\DR (roAll W) (.arr .fact y.facts) u0/\DR (roAll W) (.arr .atom y.atoms) u1:=by
 obtain ⟨_,hl,hk⟩:=fields_trod h hx
 obtain ⟨u0,f0,n0,x0,hu0,p0,tr0,w0⟩:=hk 0 _ rfl
 obtain ⟨u1,f1,n1,x1,hu1,p1,tr1,w1⟩:=hk 1 _ rfl
 obtain ⟨e0,he0,qe0⟩:=slOf_eq p0
 obtain ⟨e1,he1,qe1⟩:=slOf_eq p1
 have o0:=opens_fact qe0
 have o1:=opens_atom qe1
 obtain ⟨xs,hxl,-,hxs⟩:=slice_B (t:=.fact) he0 o0.1 o0.2.1 tr0 (fun k hk=>hw k (w0 k hk)) (fun m cs x _ h _=>opensBB o0 m cs x h)
 obtain ⟨ys,hyl,-,hys⟩:=slice_B (t:=.atom) he1 o1.1 o1.2.1 tr1 (fun k hk=>hw k (w1 k hk)) (fun m cs x _ h _=>opensBB o1 m cs x h)
 refine ⟨⟨xs,ys⟩,u0,u1,?_,hxl,hyl,hxs,hys⟩
 match cs,hl with
 | [a,b],_=>cases hu0;cases hu1;rfl
theorem get10 {cs:List Value} (h:cs.length=10):∃ a b c d e f g i j k,cs=[a,b,c,d,e,f,g,i,j,k]:=by
 match cs,h with
 | [a,b,c,d,e,f,g,i,j,k],_=>exact ⟨a,b,c,d,e,f,g,i,j,k,rfl⟩
theorem cmd_B {ty:TypeId} (h:elCmd P ty=true):∀ (n:Nat) (cs:List Value) (x:DataW H × List MemPlace),DataW.trod enc P W 0 (fun _=>true) true n ty cs=some x->(∀ k ∈ x.1.weights P ty,k<=reachBytes) ->
  ∃ y:GCmd,cs.length=Ty.lcmd.sz/\(∀ (k:Nat) (c:DC),(Ty.lcmd.cells y)[k]?=some c->∃ u,cs[k]?=some u/\DR (roAll W) c u)/\BdC y:=by
 intro n
 induction n using Nat.strongRecOn with
 | ind n ih =>
  intro cs x hx hw
  have h':=h
  unfold elCmd at h'
  split at h'
  ·rename_i fs hu
   simp only [Bool.and_eq_true,beq_iff_eq,decide_eq_true_eq] at h'
   obtain ⟨⟨h1,h2⟩,h3⟩:=h'
   split at h1
   ·rename_i f0 f1 f2 f3 f4 f5 f6 hfs
    simp only [Bool.and_eq_true,beq_iff_eq] at h1
    obtain ⟨⟨⟨⟨⟨⟨⟨⟨a0,b0⟩,c0⟩,⟨a1,b1⟩,c1⟩,⟨a2,b2⟩,c2⟩,a3,b3⟩,⟨a4,b4⟩,c4⟩,⟨a5,b5⟩,c5⟩,⟨a6,b6⟩,c6⟩:=h1
    obtain ⟨xs,m,rfl,rfl,hl,hlen,hf⟩:=DataW.trod_struct hu hx
    rw [h2] at hl
    obtain ⟨v0,v1,v2,v3,v4,v5,v6,v7,v8,v9,rfl⟩:=get10 hl
    have hs:fs.size=7:=by rw [← Array.length_toList,hfs];rfl
    have gf:∀ i,fs[i]?=[f0,f1,f2,f3,f4,f5,f6][i]?:=fun i=>by rw [← hfs,Array.getElem?_toList]
    have wt:∀ (i:Nat) (f:Field) (hi:i < xs.length),fs[i]?=some f->∀ k ∈ (xs[i]).1.weights P f.type,k<=reachBytes:=by
     intro i f hi hfi k hk
     refine hw k ?_
     simp only [DataW.weights,hu]
     exact DataW.weights_mem_each (j:=i) (by simp [hfi]) (by simp [hi]) k hk
    have get:∀ (i:Nat) (hi:i < xs.length) (f:Field),fs[i]?=some f->DataW.trod enc P W 0 (fun _=>true) true m f.type (([v0,v1,v2,v3,v4,v5,v6,v7,v8,v9].drop f.offset).take (P.cellsOf f.type))=some xs[i]:=by
     intro i hi f hfi
     rw [hf i f hfi,List.getElem?_eq_getElem hi]
    have t0:=get 0 (by omega) f0 (gf 0)
    have t1:=get 1 (by omega) f1 (gf 1)
    have t2:=get 2 (by omega) f2 (gf 2)
    have t3:=get 3 (by omega) f3 (gf 3)
    have t4:=get 4 (by omega) f4 (gf 4)
    have t5:=get 5 (by omega) f5 (gf 5)
    have t6:=get 6 (by omega) f6 (gf 6)
    have w4:=wt 4 f4 (by omega) (gf 4)
    have w5:=wt 5 f5 (by omega) (gf 5)
    have w6:=wt 6 f6 (by omega) (gf 6)
    simp only [elFact,Bool.and_eq_true,beq_iff_eq,decide_eq_true_eq] at b3
    rw [a0,c0] at t0;rw [a1,c1] at t1;rw [a2,c2] at t2;rw [a3,b3.1.2] at t3;rw [a4,c4] at t4;rw [a5,c5] at t5;rw [a6,c6] at t6
    simp only [List.drop_succ_cons,List.drop_zero,List.take_succ_cons,List.take_zero] at t0 t1 t2 t3 t4 t5 t6
    obtain ⟨k0,hk0,-,-⟩:=DataW.trod_int (isI64_eq b0) t0
    obtain ⟨k1,hk1,-,-⟩:=DataW.trod_int (isI64_eq b1) t1
    obtain ⟨k2,hk2,-,-⟩:=DataW.trod_int (isI64_eq b2) t2
    obtain ⟨ft,hft⟩:=fact_row b3.1.1 t3
    obtain ⟨an,u0,u1,hu01,l0,l1,d0,d1⟩:=asn_B b4 t4 w4
    obtain ⟨e5,he5,q5⟩:=slOf_eq b5
    obtain ⟨e6,he6,q6⟩:=slOf_eq b6
    simp only [beq_iff_eq] at q5 q6
    subst q5
    subst q6
    obtain ⟨bo,hbl,hbb,hbd⟩:=slice_B (t:=.lcmd) (B:=BdC) he5 h2 h3 t5 w5 (fun k cs x hk hx hw=>ih k (by omega) cs x hx hw)
    obtain ⟨el,hel,heb,hed⟩:=slice_B (t:=.lcmd) (B:=BdC) he6 h2 h3 t6 w6 (fun k cs x hk hx hw=>ih k (by omega) cs x hx hw)
    have R:reachBytes<=281474976710656:=by decide
    refine ⟨.mk k0 k1 k2 ft an bo el,rfl,?_,⟨Nat.le_trans l0 R,Nat.le_trans l1 R,⟨Nat.le_trans hbl R,(bcL_iff _).2 hbb⟩,⟨Nat.le_trans hel R,(bcL_iff _).2 heb⟩⟩⟩
    cases hk0;cases hk1;cases hk2;cases hft;cases hu01
    intro k c hc
    match k,hc with
    | 0,hc=>cases hc;exact ⟨_,rfl,.val _ rfl⟩
    | 1,hc=>cases hc;exact ⟨_,rfl,.val _ rfl⟩
    | 2,hc=>cases hc;exact ⟨_,rfl,.val _ rfl⟩
    | 3,hc=>cases hc;exact ⟨_,rfl,.val _ rfl⟩
    | 4,hc=>cases hc;exact ⟨_,rfl,.val _ rfl⟩
    | 5,hc=>cases hc;exact ⟨_,rfl,.val _ rfl⟩
    | 6,hc=>cases hc;exact ⟨_,rfl,d0⟩
    | 7,hc=>cases hc;exact ⟨_,rfl,d1⟩
    | 8,hc=>cases hc;exact ⟨_,rfl,hbd⟩
    | 9,hc=>cases hc;exact ⟨_,rfl,hed⟩
    | k+10,hc=>cases hc
   ·cases h1
  ·cases h'
theorem par_cmds {ty:TypeId} (h:slOf P (elCmd P) ty=true) {base:Nat} {v:Value} {d:DataW H} {ps:List MemPlace} (hd:DataW.Trod enc P W 0 (fun _=>true) true ty v d ps) (hok:Value.okWide P W .any base ty v)
  (hw:∀ k ∈ d.weights P ty,k<=reachBytes):∃ x:List GCmd,BdL x/\Par W (.sl .lcmd) x v:=by
 obtain ⟨e,he,qe⟩:=slOf_eq h
 obtain ⟨n,hn⟩:=hd
 have hok':Cell.okWide P W .any base ty v:=by simpa only [Value.okWide,he] using hok
 have hv:v.cells.toList=[v]:=by
  cases v <;> first | rfl | (simp [Cell.okWide,he,Cell.ok] at hok')
 rw [hv] at hn
 have hc:P.cellsOf e=10/\0 < P.bytesOf e:=by
  have h':=qe
  unfold elCmd at h'
  split at h'
  ·simp only [Bool.and_eq_true,beq_iff_eq,decide_eq_true_eq] at h'
   exact ⟨h'.1.2,h'.2⟩
  ·cases h'
 obtain ⟨xs,h1,h2,h3⟩:=slice_B (t:=.lcmd) (B:=BdC) he hc.1 hc.2 hn hw (fun m cs x _ hx hw=>cmd_B qe m cs x hx hw)
 exact ⟨xs,⟨Nat.le_trans h1 (by decide),(bcL_iff _).2 h2⟩,h3⟩
end
end Go.SE

namespace Go.SE
variable [Base]
def szA (a:GAsn) (left:Int):Int:=if sz1 left a.facts.length < 0 then -1 else sz1 (sz1 left a.facts.length) a.atoms.length
end Go.SE

namespace Go.SE
variable [Base]
open Go.RowKit
section
variable {P:Program}
def ptrB (P:Program) (t:TypeId):Bool :=
 match P.underlying t with
 | some (.pointer e)=>match P.info? e with
  | some i=>i.size != 0
  | none=>false
 | _=>false
def intB (P:Program) (t:TypeId):Bool :=
 match P.underlying t with
 | some (.int _)=>true
 | _=>false
def keyB (P:Program) (kt:TypeId):Bool :=
 match P.underlying kt with
 | some (.struct fs)=>(match fs.toList with
  | [a, b, c] => a.name != "_" && b.name != "_" && c.name != "_" && a.offset == 0 && b.offset == 1 && c.offset == 2 && ptrB P a.type && ptrB P b.type && intB P c.type
  | _=>false) && !P.stoodInHeld kt
 | _=>false
def mapB (P:Program) (t:TypeId):Bool :=
 match P.underlying t with
 | some (.map k e)=>keyB P k && (match P.info? e with
  | some i=>(match i.zero with
   | some (.int .i64 0)=>true
   | _=>false)
  | none=>false)
 | _=>false
theorem ptrB_eq {t:TypeId} (h:ptrB P t=true):∃ e i,P.underlying t=some (.pointer e)/\P.info? e=some i/\i.size ≠ 0:=by
 unfold ptrB at h
 split at h
 ·rename_i e he
  split at h
  ·rename_i i hi
   exact ⟨e,i,he,hi,by simpa using h⟩
  ·cases h
 ·cases h
theorem intB_eq {t:TypeId} (h:intB P t=true):∃ k,P.underlying t=some (.int k):=by
 unfold intB at h
 split at h
 ·exact ⟨_,by assumption⟩
 ·cases h
structure KeyT (P:Program) (kt:TypeId) (fs:Array Field) (a b c:Field):Prop where
 u:P.underlying kt=some (.struct fs)
 l:fs.toList=[a,b,c]
 h:P.stoodInHeld kt=false
 n0 : a.name ≠ "_"
 n1 : b.name ≠ "_"
 n2 : c.name ≠ "_"
 o0:a.offset=0
 o1:b.offset=1
 o2:c.offset=2
 p0:ptrB P a.type=true
 p1:ptrB P b.type=true
 p2:intB P c.type=true
theorem keyB_eq {kt:TypeId} (h:keyB P kt=true):∃ fs a b c,KeyT P kt fs a b c:=by
 unfold keyB at h
 split at h
 ·rename_i fs hu
  simp only [Bool.and_eq_true,Bool.not_eq_true'] at h
  obtain ⟨h1,h2⟩:=h
  split at h1
  ·rename_i a b c hl
   simp only [Bool.and_eq_true,bne_iff_ne,ne_eq,beq_iff_eq] at h1
   obtain ⟨⟨⟨⟨⟨⟨⟨⟨n0,n1⟩,n2⟩,o0⟩,o1⟩,o2⟩,p0⟩,p1⟩,p2⟩:=h1
   exact ⟨fs,a,b,c,hu,hl,h2,n0,n1,n2,o0,o1,o2,p0,p1,p2⟩
  ·cases h1
 ·cases h
def OkA (w:World) (a:Addr):Prop:=∃ vs ty,w.heap[a.block]?=some (.cells vs ty (0,0))
def kv (a b:Addr) (n:Int):Value:=.agg #[.pointer (some a),.pointer (some b),.int .i64 n]
theorem run_sameAddr {w:World} {a b:Addr} (ha:OkA w a) (hb:OkA w b):(sameAddr a b).run P w=.ok (a == b) w:=by
 obtain ⟨va,ta,h1⟩:=ha
 obtain ⟨vb,tb,h2⟩:=hb
 have fa:∀ o,w.frozen? ⟨a.block,o,none⟩=false:=fun o=>by simp [World.frozen?,h1]
 have fb:∀ o,w.frozen? ⟨b.block,o,none⟩=false:=fun o=>by simp [World.frozen?,h2]
 have fa':w.frozen? a=false:=by simp [World.frozen?,h1]
 have fb':w.frozen? b=false:=by simp [World.frozen?,h2]
 have sa:w.shape? a.block=some (ta,va.size):=by simp [World.shape?,h1]
 have sb:w.shape? b.block=some (tb,vb.size):=by simp [World.shape?,h2]
 by_cases e:a.block=b.block
 ·simp [sameAddr,e]
 ·have hne:(a == b)=false:=by
   rw [beq_eq_false_iff_ne]
   intro h;exact e (by rw [h])
  have e':(a.block == b.block)=false:=by simpa using e
  simp [sameAddr,e',noView,viewAt,mayBeOne,stringish,shape,Sem.run,fa,fb,fa',fb',sa,sb,hne]
theorem run_eq_ptr {w:World} {t:TypeId} (ht:ptrB P t=true) {a b:Addr} (ha:OkA w a) (hb:OkA w b) (d:Nat):(Op.equalIn (d+1) t (.pointer (some a)) (.pointer (some b))).run P w=.ok (a == b) w:=by
 obtain ⟨e,i,h1,h2,h3⟩:=ptrB_eq ht
 simp [Op.equalIn,run_underlying h1,run_sizeOf h2,h3,run_sameAddr ha hb]
theorem run_part1 {t:TypeId} {d:TypeDesc} (hu:P.underlying t=some d) (hd:aggD d=false) {vs:Array Value} {o:Nat} {v:Value} (h:vs[o]?=some v) (w:World):(part t vs o).run P w=.ok v w:=by
 simp [part,run_isAgg hu,hd,h]
theorem run_equal_key {w:World} {kt:TypeId} (hk:keyB P kt=true) {a b a' b':Addr} {n n':Int} (ha:OkA w a) (hb:OkA w b) (ha':OkA w a') (hb':OkA w b') :
  (Op.equal kt (kv a b n) (kv a' b' n')).run P w=.ok (a == a' && (b == b' && n == n')) w:=by
 obtain ⟨fs,f0,f1,f2,K⟩:=keyB_eq hk
 obtain ⟨e0,i0,u0,_⟩:=ptrB_eq K.p0
 obtain ⟨e1,i1,u1,_⟩:=ptrB_eq K.p1
 obtain ⟨k2,u2⟩:=intB_eq K.p2
 have hfo:P.fieldsOf kt=fs:=by simp [Program.fieldsOf,K.u]
 have h:=run_equalIn_struct (P:=P) w 9999 kt #[.pointer (some a),.pointer (some b),.int .i64 n] #[.pointer (some a'),.pointer (some b'),.int .i64 n'] (by rw [hfo];exact K.u) K.h
 rw [hfo,K.l] at h
 have h':(Op.equal kt (kv a b n) (kv a' b' n')).run P w=_:=h
 rw [h']
 have r0:=run_eq_ptr (P:=P) K.p0 ha ha' 9998
 have r1:=run_eq_ptr (P:=P) K.p1 hb hb' 9998
 have r2:=run_equalIn_int (P:=P) w 9998 f2.type .i64 k2 n n' u2
 have P0:∀ x y z:Value,(part f0.type #[x,y,z] 0).run P w=.ok x w:=fun x y z=>run_part1 u0 rfl rfl w
 have P1:∀ x y z:Value,(part f1.type #[x,y,z] 1).run P w=.ok y w:=fun x y z=>run_part1 u1 rfl rfl w
 have P2:∀ x y z:Value,(part f2.type #[x,y,z] 2).run P w=.ok z w:=fun x y z=>run_part1 u2 rfl rfl w
 simp only [Op.eqFields,K.n0,K.n1,K.n2,ne_eq,not_false_eq_true,if_true,K.o0,K.o1,K.o2,Sem.run_bind,P0,P1,P2,Result.andThen_ok,r0]
 cases (a == a')
 ·rfl
 simp only [Bool.not_true,Bool.false_eq_true,if_false,Sem.run_bind,P1,Result.andThen_ok,r1]
 cases (b == b')
 ·rfl
 simp only [Bool.not_true,Bool.false_eq_true,if_false,Sem.run_bind,P2,Result.andThen_ok,r2]
 cases (n == n') <;> rfl
def EntOk (w:World) (e:MapEntry):Prop:=∃ a b n,e.key=kv a b n/\OkA w a/\OkA w b
theorem run_findAsking {w:World} {kt:TypeId} (hk:keyB P kt=true) {a b:Addr} {n:Int} (ha:OkA w a) (hb:OkA w b):∀ (es:List MapEntry) (i:Nat),(∀ e ∈ es,EntOk w e) ->
  ∃ r,(Instr.findAsking kt (kv a b n) es i).run P w=.ok r w/\∀ j v,r=some (j,v)->i<=j/\∃ e,es[j - i]?=some e/\e.key=kv a b n/\e.val=v:=by
 intro es
 induction es with
 | nil=>intro i _;exact ⟨none,by simp [Instr.findAsking],fun _ _ h=>by cases h⟩
 | cons e es ih =>
  intro i hes
  obtain ⟨a',b',n',hkey,ha',hb'⟩:=hes e (by simp)
  have h1:=run_equal_key (P:=P) (n:=n) (n':=n') hk ha hb ha' hb'
  rw [← hkey] at h1
  by_cases hc:(a == a' && (b == b' && n == n'))=true
  ·refine ⟨some (i,e.val),by simp [Instr.findAsking,h1,hc],fun j v h=>?_⟩
   injection h with h;injection h with h2 h3
   subst h2 h3
   refine ⟨Nat.le_refl _,e,by simp,?_,rfl⟩
   simp only [Bool.and_eq_true,beq_iff_eq] at hc
   rw [hkey,hc.1,hc.2.1,hc.2.2]
  ·have hc':(a == a' && (b == b' && n == n'))=false:=by simpa using hc
   obtain ⟨r,h2,h3⟩:=ih (i+1) fun e' he=>hes e' (by simp [he])
   refine ⟨r,by simp only [Instr.findAsking,Sem.run_bind,h1,hc',Result.andThen_ok];exact h2,fun j v h=>?_⟩
   obtain ⟨h4,e',h5,h6⟩:=h3 j v h
   refine ⟨by omega,e',?_,h6⟩
   rw [show j - i=(j - (i+1))+1 from by omega]
   simpa using h5
theorem run_findKey_key {w:World} {kt:TypeId} (hk:keyB P kt=true) {a b:Addr} {n:Int} (ha:OkA w a) (hb:OkA w b) (es:List MapEntry) (hes:∀ e ∈ es,EntOk w e) :
  ∃ r,(Instr.findKey kt (kv a b n) es).run P w=.ok r w/\∀ j v,r=some (j,v)->∃ e,es[j]?=some e/\e.key=kv a b n/\e.val=v:=by
 obtain ⟨fs,f0,f1,f2,K⟩:=keyB_eq hk
 cases es with
 | nil=>exact ⟨none,by simp [Instr.findKey,run_underlying K.u,Instr.findNow],fun _ _ h=>by cases h⟩
 | cons e es =>
  obtain ⟨r,h1,h2⟩:=run_findAsking (P:=P) (n:=n) hk ha hb (e :: es) 0 hes
  refine ⟨r,?_,fun j v h=>?_⟩
  ·have:Instr.findNow (.struct fs) (kv a b n) (e :: es) 0=none:=by
    simp [Instr.findNow,Instr.sameNow]
   simp only [Instr.findKey,Sem.run_bind,run_underlying K.u,Result.andThen_ok,this]
   exact h1
  ·obtain ⟨_,e',h3,h4⟩:=h2 j v h
   exact ⟨e',by simpa using h3,h4⟩
theorem ck_leaf {w:World} {t:TypeId} (em:Bool) (m:Nat) (v:Value) (ht:ptrB P t=true ∨ intB P t=true):(Instr.checkKey em (m+1) t v).run P w=.ok () w:=by
 rcases ht with ht | ht
 ·obtain ⟨e,i,u,_⟩:=ptrB_eq ht
  simp [Instr.checkKey,run_underlying u]
 ·obtain ⟨k,u⟩:=intB_eq ht
  simp [Instr.checkKey,run_underlying u]
theorem ck_key {w:World} {kt:TypeId} (hk:keyB P kt=true) {a b:Addr} {n:Int} (em:Bool) (m:Nat):(Instr.checkKey em (m+1+1) kt (kv a b n)).run P w=.ok () w:=by
 obtain ⟨fs,f0,f1,f2,K⟩:=keyB_eq hk
 obtain ⟨e0,i0,u0,_⟩:=ptrB_eq K.p0
 obtain ⟨e1,i1,u1,_⟩:=ptrB_eq K.p1
 obtain ⟨k2,u2⟩:=intB_eq K.p2
 have c0:=fun v=>ck_leaf (P:=P) (w:=w) em m v (.inl K.p0)
 have c1:=fun v=>ck_leaf (P:=P) (w:=w) em m v (.inl K.p1)
 have c2:=fun v=>ck_leaf (P:=P) (w:=w) em m v (.inr K.p2)
 have P0:∀ x y z:Value,(part f0.type #[x,y,z] 0).run P w=.ok x w:=fun x y z=>run_part1 u0 rfl rfl w
 have P1:∀ x y z:Value,(part f1.type #[x,y,z] 1).run P w=.ok y w:=fun x y z=>run_part1 u1 rfl rfl w
 have P2:∀ x y z:Value,(part f2.type #[x,y,z] 2).run P w=.ok z w:=fun x y z=>run_part1 u2 rfl rfl w
 rw [kv,Instr.checkKey]
 simp only [Sem.run_bind,run_underlying K.u,Result.andThen_ok]
 rw [← Array.forIn_toList,K.l]
 simp [K.n0,K.n1,K.n2,K.o0,K.o1,K.o2,P0,P1,P2,c0,c1,c2]
theorem run_checkKey_key {w:World} {kt:TypeId} (hk:keyB P kt=true) {a b:Addr} {n:Int} (em:Bool):(Instr.checkKey em 10000 kt (kv a b n)).run P w=.ok () w:=ck_key hk em 9998
theorem run_lookup_key {w:World} {t:TypeId} (ht:mapB P t=true) {mb:Nat} {es:Array MapEntry} {ck:Nat} (hm:w.heap[mb]?=some (.map es ck)) {a b:Addr} {n:Int} (ha:OkA w a) (hb:OkA w b) (hes:∀ e ∈ es.toList,EntOk w e) :
  ∃ v,(Instr.lookup t (.map (some mb)) (kv a b n) false).run P w=.ok v w/\(v=.int .i64 0 ∨ ∃ e ∈ es.toList,e.key=kv a b n/\e.val=v):=by
 unfold mapB at ht
 split at ht
 ·rename_i k e hu
  simp only [Bool.and_eq_true] at ht
  obtain ⟨hk,hz⟩:=ht
  split at hz
  ·rename_i i hi
   split at hz
   ·rename_i hz0
    obtain ⟨r,h1,h2⟩:=run_findKey_key (P:=P) (n:=n) hk ha hb es.toList hes
    have hg:(getObj mb).run P w=.ok (.map es ck) w:=by simp [getObj,Sem.run,hm]
    cases r with
    | none =>
     refine ⟨.int .i64 0,?_,.inl rfl⟩
     simp [Instr.lookup,run_underlying hu,hg,run_checkKey_key hk,h1,run_zeroValue hi hz0]
    | some q =>
     obtain ⟨j,v⟩:=q
     obtain ⟨e',h3,h4,h5⟩:=h2 j v rfl
     refine ⟨v,?_,.inr ⟨e',List.mem_of_getElem? h3,h4,h5⟩⟩
     simp [Instr.lookup,run_underlying hu,hg,run_checkKey_key hk,h1]
   ·cases hz
  ·cases hz
 ·cases ht
theorem run_mapUpdate_key {w:World} {t:TypeId} (ht:mapB P t=true) {mb:Nat} {es:Array MapEntry} {ck:Nat} (hm:w.heap[mb]?=some (.map es ck)) {a b:Addr} {n:Int} (ha:OkA w a) (hb:OkA w b) (hes:∀ e ∈ es.toList,EntOk w e) (v:Value) :
  ∃ es' ck',(Instr.mapUpdate t (.map (some mb)) (kv a b n) v).run P w=.ok () (w.putObj mb (.map es' ck'))/\∀ e ∈ es'.toList,(e.key=kv a b n/\e.val=v) ∨ e ∈ es.toList:=by
 unfold mapB at ht
 split at ht
 ·rename_i k e hu
  simp only [Bool.and_eq_true] at ht
  obtain ⟨hk,-⟩:=ht
  obtain ⟨r,h1,h2⟩:=run_findKey_key (P:=P) (n:=n) hk ha hb es.toList hes
  have hg:(getObj mb).run P w=.ok (.map es ck) w:=by simp [getObj,Sem.run,hm]
  have hs:∀ o,(setObj mb o).run P w=.ok () (w.putObj mb o):=fun o=>by simp [setObj,Sem.run,hm,World.putObj]
  cases r with
  | none =>
   refine ⟨es.push { key:=kv a b n,val:=v,born:=ck },ck+1,?_,fun e he=>?_⟩
   ·simp [Instr.mapUpdate,run_underlying hu,hg,run_checkKey_key hk,h1,hs]
   ·simp at he
    rcases he with he | he
    ·exact .inr (by simpa using he)
    ·subst he;exact .inl ⟨rfl,rfl⟩
  | some q =>
   obtain ⟨j,v0⟩:=q
   obtain ⟨e',h3,h4,h5⟩:=h2 j v0 rfl
   have h3':es[j]?=some e':=by simpa using h3
   have hst:(Instr.keyThatStays (((es[j]?).map (·.key)).getD (kv a b n)) (kv a b n)).run P w=.ok (kv a b n) w:=by
    have:(((es[j]?).map (·.key)).getD (kv a b n))=kv a b n:=by rw [h3'];simpa using h4
    rw [this]
    simp [Instr.keyThatStays,kv,Instr.sameBits]
   refine ⟨es.modify j fun e=>{ e with key:=kv a b n,val:=v },ck,?_,fun e he=>?_⟩
   ·simp only [Instr.mapUpdate,Sem.run_bind,run_underlying hu,hg,run_checkKey_key hk,h1,hst,Result.andThen_ok,hs]
   ·obtain ⟨i,hi⟩:=List.getElem?_of_mem he
    simp only [Array.getElem?_toList,Array.getElem?_modify] at hi
    split at hi
    ·simp only [Option.map_eq_some_iff] at hi
     obtain ⟨e0,_,rfl⟩:=hi
     exact .inl ⟨rfl,rfl⟩
    ·exact .inr (List.mem_of_getElem? (by simpa using hi))
 ·cases ht
end
end Go.SE

namespace Go.SE
open Go.RowKit
theorem getD_ext {α:Type} {xs ys:List α} (z:α) (hl:xs.length=ys.length) (h:∀ i,i < xs.length->xs.getD i z=ys.getD i z):xs=ys:=by
 apply List.ext_getElem hl
 intro i h1 h2
 have:=h i h1
 simpa [List.getD_eq_getElem?_getD,h1,h2] using this
variable [Base]
theorem DR.val_eq {ro:Nat->Option (Array Value)} {x v:Value} (h:DR ro (.val x) v):v=x:=by
 generalize hc:DC.val x=c at h
 cases h with
 | val x' h=>injection hc with hc;exact hc.symm
 | nil=>cases hc
 | emp=>cases hc
 | arr=>cases hc
 | fix=>cases hc
 | ne=>cases hc
theorem DR.fix_inv {ro:Nat->Option (Array Value)} {t:Ty} {xs:List t.den} {u v:Value} (h:DR ro (.fix t xs u) v):v=u/\DR ro (.arr t xs) v:=by
 generalize hc:DC.fix t xs u=c at h
 cases h with
 | val=>cases hc
 | nil=>cases hc
 | emp=>cases hc
 | arr=>cases hc
 | ne=>cases hc
 | fix t' xs' v' h' =>
  injection hc with h1 h2 h3
  subst h1
  cases h2
  exact ⟨h3.symm,h'⟩
theorem row_val {ro:Nat->Option (Array Value)} {ds es:List DC} {vs:Array Value} {o k:Nat} {x y:Value} (h:RowR ro ds vs o) (h':RowR ro es vs o) (hx:ds[k]?=some (.val x)) (hy:es[k]?=some (.val y)):x=y:=by
 obtain ⟨u,h1,h2⟩:=h k _ hx
 obtain ⟨u',h3,h4⟩:=h' k _ hy
 rw [h1] at h3
 injection h3 with h3
 rw [← h2.val_eq,← h4.val_eq,h3]
theorem DR.same_place {ro:Nat->Option (Array Value)} {t:Ty} {xs ys:List t.den} {v:Value} (h:DR ro (.arr t xs) v) (h':DR ro (.arr t ys) v) :
  (xs=[]/\ys=[]) ∨ ∃ vs o,xs.length=ys.length/\RowR ro (flat t xs) vs o/\RowR ro (flat t ys) vs o:=by
 rcases h.arr_inv with ⟨⟨a,h1⟩,h2⟩ | ⟨b,o,cap,vs,h1,h2,h3,h4,h5,_⟩
 ·rcases h'.arr_inv with ⟨_,h4⟩ | ⟨b',o',cap',vs',k1,_⟩
  ·exact .inl ⟨h2,h4⟩
  ·rw [h1] at k1
   injection k1 with k1 k2 k3
   exact .inl ⟨h2,List.eq_nil_of_length_eq_zero k2.symm⟩
 ·rcases h'.arr_inv with ⟨⟨a,k1⟩,k2⟩ | ⟨b',o',cap',vs',k1,k2,k3,k4,k5,_⟩
  ·rw [h1] at k1
   injection k1 with k1 k3
   exact .inl ⟨List.eq_nil_of_length_eq_zero k3,k2⟩
  ·rw [h1] at k1
   injection k1 with k1 k6 k7
   injection k1 with k1
   injection k1 with k8 k9
   subst k8 k9
   rw [h2] at k2
   injection k2 with k2
   subst k2
   exact .inr ⟨vs,o,k6,h5,k5⟩
theorem DR.fact_uniq {ro:Nat->Option (Array Value)} {xs ys:List GFact} {v:Value} (h:DR ro (.arr .fact xs) v) (h':DR ro (.arr .fact ys) v):xs=ys:=by
 rcases h.same_place h' with ⟨h1,h2⟩ | ⟨vs,o,hl,h1,h2⟩
 ·rw [h1,h2]
 ·refine getD_ext (Ty.zero .fact) hl fun i hi=>?_
  have e:∀ j,j < 3->(flat .fact xs)[i * 3+j]?=(Ty.cells .fact (xs.getD i (Ty.zero .fact)))[j]?:=fun j hj=>flat_get .fact xs i j hi hj
  have e':∀ j,j < 3->(flat .fact ys)[i * 3+j]?=(Ty.cells .fact (ys.getD i (Ty.zero .fact)))[j]?:=fun j hj=>flat_get .fact ys i j (by omega) hj
  have v0:=row_val h1 h2 ((e 0 (by omega)).trans rfl) ((e' 0 (by omega)).trans rfl)
  have v1:=row_val h1 h2 ((e 1 (by omega)).trans rfl) ((e' 1 (by omega)).trans rfl)
  have v2:=row_val h1 h2 ((e 2 (by omega)).trans rfl) ((e' 2 (by omega)).trans rfl)
  generalize xs.getD i (Ty.zero .fact)=x at v0 v1 v2
  generalize ys.getD i (Ty.zero .fact)=y at v0 v1 v2
  obtain ⟨a,b,c⟩:=x
  obtain ⟨a',b',c'⟩:=y
  simp at v0 v1 v2
  rw [v0,v1,v2]
theorem DR.atom_uniq {ro:Nat->Option (Array Value)} {xs ys:List GAtom} {v:Value} (h:DR ro (.arr .atom xs) v) (h':DR ro (.arr .atom ys) v):xs=ys:=by
 rcases h.same_place h' with ⟨h1,h2⟩ | ⟨vs,o,hl,h1,h2⟩
 ·rw [h1,h2]
 ·refine getD_ext (Ty.zero .atom) hl fun i hi=>?_
  have e:∀ j,j < 3->(flat .atom xs)[i * 3+j]?=(Ty.cells .atom (xs.getD i (Ty.zero .atom)))[j]?:=fun j hj=>flat_get .atom xs i j hi hj
  have e':∀ j,j < 3->(flat .atom ys)[i * 3+j]?=(Ty.cells .atom (ys.getD i (Ty.zero .atom)))[j]?:=fun j hj=>flat_get .atom ys i j (by omega) hj
  have v0:=row_val h1 h2 ((e 0 (by omega)).trans rfl) ((e' 0 (by omega)).trans rfl)
  have v1:=row_val h1 h2 ((e 1 (by omega)).trans rfl) ((e' 1 (by omega)).trans rfl)
  have v2:=row_val h1 h2 ((e 2 (by omega)).trans rfl) ((e' 2 (by omega)).trans rfl)
  generalize xs.getD i (Ty.zero .atom)=x at v0 v1 v2
  generalize ys.getD i (Ty.zero .atom)=y at v0 v1 v2
  obtain ⟨a,b,c⟩:=x
  obtain ⟨a',b',c'⟩:=y
  simp at v0 v1 v2
  rw [v0,v1,v2]
theorem xsize {xs:List XCmd} {i:Nat} (hi:i < xs.length):SizeOf.sizeOf (xs.getD i (Ty.zero .xcmd)).body < SizeOf.sizeOf xs/\SizeOf.sizeOf (xs.getD i (Ty.zero .xcmd)).els < SizeOf.sizeOf xs:=by
 have e:xs.getD i (Ty.zero .xcmd)=xs[i]:=by simp [List.getD_eq_getElem?_getD,hi]
 have h1:SizeOf.sizeOf xs[i] < SizeOf.sizeOf xs:=List.sizeOf_lt_of_mem (List.getElem_mem hi)
 rw [e]
 generalize xs[i]=c at h1
 obtain ⟨k,a,b,t,inv,bv,bo,lv,el⟩:=c
 simp only [XCmd.mk.sizeOf_spec] at h1
 simp only [XCmd.body,XCmd.els]
 omega
theorem DR.xuniq {ro:Nat->Option (Array Value)}:∀ (n:Nat) (xs ys:List XCmd) (v:Value),SizeOf.sizeOf xs<=n->DR ro (.arr .xcmd xs) v->DR ro (.arr .xcmd ys) v->xs=ys:=by
 intro n
 induction n with
 | zero=>intro xs ys v hn;cases xs <;> simp at hn <;> omega
 | succ n ih =>
  intro xs ys v hn h h'
  rcases h.same_place h' with ⟨h1,h2⟩ | ⟨vs,o,hl,h1,h2⟩
  ·rw [h1,h2]
  ·refine getD_ext (Ty.zero .xcmd) hl fun i hi=>?_
   have e:∀ j,j < 10->(flat .xcmd xs)[i * 10+j]?=(Ty.cells .xcmd (xs.getD i (Ty.zero .xcmd)))[j]?:=fun j hj=>flat_get .xcmd xs i j hi hj
   have e':∀ j,j < 10->(flat .xcmd ys)[i * 10+j]?=(Ty.cells .xcmd (ys.getD i (Ty.zero .xcmd)))[j]?:=fun j hj=>flat_get .xcmd ys i j (by omega) hj
   have s1:=xsize hi
   have v0:=row_val h1 h2 ((e 0 (by omega)).trans rfl) ((e' 0 (by omega)).trans rfl)
   have v1:=row_val h1 h2 ((e 1 (by omega)).trans rfl) ((e' 1 (by omega)).trans rfl)
   have v2:=row_val h1 h2 ((e 2 (by omega)).trans rfl) ((e' 2 (by omega)).trans rfl)
   have v3:=row_val h1 h2 ((e 3 (by omega)).trans rfl) ((e' 3 (by omega)).trans rfl)
   have v4:=row_val h1 h2 ((e 4 (by omega)).trans rfl) ((e' 4 (by omega)).trans rfl)
   have v5:=row_val h1 h2 ((e 5 (by omega)).trans rfl) ((e' 5 (by omega)).trans rfl)
   obtain ⟨u6,a6,d6⟩:=h1 _ _ ((e 6 (by omega)).trans rfl)
   obtain ⟨w6,b6,c6⟩:=h2 _ _ ((e' 6 (by omega)).trans rfl)
   rw [a6] at b6;injection b6 with b6;subst b6
   obtain ⟨u7,a7,d7⟩:=h1 _ _ ((e 7 (by omega)).trans rfl)
   obtain ⟨w7,b7,c7⟩:=h2 _ _ ((e' 7 (by omega)).trans rfl)
   rw [a7] at b7;injection b7 with b7;subst b7
   obtain ⟨u8,a8,d8⟩:=h1 _ _ ((e 8 (by omega)).trans rfl)
   obtain ⟨w8,b8,c8⟩:=h2 _ _ ((e' 8 (by omega)).trans rfl)
   rw [a8] at b8;injection b8 with b8;subst b8
   obtain ⟨u9,a9,d9⟩:=h1 _ _ ((e 9 (by omega)).trans rfl)
   obtain ⟨w9,b9,c9⟩:=h2 _ _ ((e' 9 (by omega)).trans rfl)
   rw [a9] at b9;injection b9 with b9;subst b9
   have e6:=d6.fact_uniq c6
   have e7:=d7.atom_uniq c7
   obtain ⟨p8,q8⟩:=d8.fix_inv
   obtain ⟨p8',q8'⟩:=c8.fix_inv
   obtain ⟨p9,q9⟩:=d9.fix_inv
   obtain ⟨p9',q9'⟩:=c9.fix_inv
   have e8:=ih _ _ _ (by omega) q8 q8'
   have e9:=ih _ _ _ (by omega) q9 q9'
   have p8:=p8.symm.trans p8'
   have p9:=p9.symm.trans p9'
   generalize xs.getD i (Ty.zero .xcmd)=x at v0 v1 v2 v3 v4 v5 e6 e7 e8 e9 p8 p9
   generalize ys.getD i (Ty.zero .xcmd)=y at v0 v1 v2 v3 v4 v5 e6 e7 e8 e9 p8 p9
   obtain ⟨k,a,b,⟨t0,t1,t2⟩,⟨i0,i1⟩,bv,bo,lv,el⟩:=x
   obtain ⟨k',a',b',⟨t0',t1',t2'⟩,⟨i0',i1'⟩,bv',bo',lv',el'⟩:=y
   simp [XCmd.kind,XCmd.a,XCmd.b,XCmd.test,XCmd.inv,XCmd.bv,XCmd.body,XCmd.lv,XCmd.els] at v0 v1 v2 v3 v4 v5 e6 e7 e8 e9 p8 p9
   rw [v0,v1,v2,v3,v4,v5,e6,e7,e8,e9,p8,p9]
theorem DR.xplace {ro:Nat->Option (Array Value)} {xs:List XCmd} {v:Value} (h:DR ro (.arr .xcmd xs) v) (h0:0 < xs.length) :
  ∃ b o cap vs,v=.slice (some ⟨b,o,none⟩) xs.length cap/\ptrAt v 0=.pointer (some ⟨b,o,none⟩)/\ro b=some vs/\Base.n0<=b/\xs.length<=cap/\cap<=maxLen/\RowR ro (flat .xcmd xs) vs o:=by
 rcases h.arr_inv with ⟨_,h2⟩ | ⟨b,o,cap,vs,h1,h2,h3,h4,h5,h6⟩
 ·subst h2;simp at h0
 ·exact ⟨b,o,cap,vs,h1,by rw [h1];simp [ptrAt],h2,h6 rfl,h3,h4,h5⟩
theorem DR.xptr {ro:Nat->Option (Array Value)} {xs ys:List XCmd} {v v':Value} (h:DR ro (.arr .xcmd xs) v) (h':DR ro (.arr .xcmd ys) v') (h0:0 < xs.length) (hl:xs.length=ys.length) (hp:ptrAt v 0=ptrAt v' 0):xs=ys:=by
 obtain ⟨b,o,cap,vs,h1,h2,h3,h4,h5,h6,h7⟩:=h.xplace h0
 obtain ⟨b',o',cap',vs',k1,k2,k3,k4,k5,k6,k7⟩:=h'.xplace (by omega)
 rw [h2,k2] at hp
 injection hp with hp
 injection hp with hp
 injection hp with hp hp'
 subst hp hp'
 rw [h3] at k3
 injection k3 with k3
 subst k3
 have:=DR.of_row (t:=.xcmd) (cap:=cap) h3 (fun _=>h4) (by rw [← hl];exact h5) h6 k7
 rw [← hl] at this
 rw [h1] at h
 exact DR.xuniq _ _ _ _ (Nat.le_refl _) h this
end Go.SE

namespace Go.SE
variable [Base]
open Go.RowKit
def bareA (a:Act):Act:={ a with defers:=[] }
def withD (a:Act) (ds:List Deferred):Act:={ a with defers:=ds }
theorem eval_bare (a:Act):(bareA a).eval=a.eval:=rfl
theorem bare_withD (a:Act) (ds:List Deferred) (h:a.defers=[]):bareA (withD a ds)=a:=by
 cases a;simp only at h;subst h;rfl
theorem withD_put (a:Act) (dst:Option Tmp) (v:Value):withD ((bareA a).put dst v) a.defers=a.put dst v:=by
 cases dst <;> rfl
theorem bare_put (a:Act) (dst:Option Tmp) (v:Value):bareA (a.put dst v)=(bareA a).put dst v:=by
 cases dst <;> rfl
theorem put_defers (a:Act) (dst:Option Tmp) (v:Value):(a.put dst v).defers=a.defers:=by
 cases dst <;> rfl
def FW (F:Fence):Prop:=F=Fence.wide ∨ ∃ l,F=Fence.wide.inRound l
theorem FW.fn {F:Fence} (h:FW F) (f:FuncId):F.fn f:=by rcases h with rfl | ⟨l,rfl⟩ <;> exact trivial
theorem FW.depth {F:Fence} (h:FW F):F.depth=none:=by rcases h with rfl | ⟨l,rfl⟩ <;> rfl
theorem FW.calls {F:Fence} (h:FW F) {n:Nat} {P:Program} {f:FuncId} {args:Array Value} {w:World} {R:Ending->World->Prop} (hc:Calls P f args w R):CallsIn F n P f args w R:=by
 rcases h with rfl | ⟨l,rfl⟩
 ·exact callsIn_wide.2 hc
 ·exact CallsIn.inRound l (callsIn_wide.2 hc)
theorem FW.rows {F:Fence} (h:FW F) {n:Nat} {P:Program} {row:String} {args:Array Value} {w:World} {R:Value->World->Prop} (hc:Rows P row args w R):RowsIn F n P row args w R:=by
 have:RowsIn Fence.wide n P row args w R:=fun c cs _=>let ⟨v,w',r,s⟩:=hc c cs;⟨v,w',r,stepsIn_wide.2 s⟩
 rcases h with rfl | ⟨l,rfl⟩
 ·exact this
 ·exact this
section
variable {F:Fence} {m:Nat} {P:Program} {E:Ty->TypeId} {tab:TypeId->Option TI} {K:FuncId->Option Con} {pts:FuncId->Option PT} {w0:World} {M:MM} {n:Nat}
abbrev QF:Exit->Act->World->Prop:=fun _ _ _=>False
theorem notOut:¬ LetsOut QF:=fun ⟨_,_,h⟩=>h
theorem wp_in (hF:FW F) {o:Oper} (hd:∀ c,o.op ≠ .defer c) {a:Act} {w:World} {next next':Act->World->Prop} {Q:Exit->Act->World->Prop}
  (h:o.wp P (bareA a) w next QF) (h0:∀ a' w',next a' w'->a'.defers=[]) (hn:∀ a' w',next a' w'->next' (withD a' a.defers) w'):o.wpIn F m P a w next' Q:=by
 refine ⟨fun f _=>hF.fn f,?_⟩
 rw [Oper.semAt_eq _ _ _ hd]
 unfold Oper.wp at h
 rw [eval_bare] at h
 have hput:∀ v w',next ((bareA a).put o.dst v) w'->next' (a.put o.dst v) w':=fun v w' h=>by
  have:=hn _ _ h
  rwa [withD_put] at this
 have hdep:F.depth.isSome=true->1<=m:=fun h=>by rw [hF.depth] at h;cases h
 generalize (execOp a.eval o).run P w=r at h ⊢
 cases r with
 | ok x w' =>
  cases x <;> simp only [Oper.upon] at h <;> simp only [Oper.uponIn]
  case value v=>exact hput v w' h
  case skip=>exact hput undef w' h
  case defer d =>
   have:=h0 _ _ h
   rw [put_defers] at this
   cases this
  case enter f args =>
   refine ⟨hdep,hF.calls (Calls.mono h fun e w'' he=>?_)⟩
   cases e with
   | returned v=>exact hput v w'' he
   | panicked c=>exact he.elim
   | outgrown=>exact (notOut he).elim
  case row row args=>exact ⟨hdep,hF.rows (Rows.mono h fun v w'' he=>hput v w'' he)⟩
 | halt x w' =>
  cases x <;> simp only [Oper.upon] at h
  exact h.elim
def noDefer (o:Oper):Bool:=match o.op with
 | .defer _=>false
 | _=>true
theorem noDefer_ok {o:Oper} (h:noDefer o=true):∀ c,o.op ≠ .defer c:=by
 intro c e
 unfold noDefer at h
 rw [e] at h
 cases h
def RunsIn (F:Fence) (m:Nat) (P:Program) (ops:Array Oper) (o:Oper) (next:Act->World->Prop) (Q:Exit->Act->World->Prop) (a:Act) (w:World):Prop :=
 if Region.wanted o (yielded ops a.tmps) then o.wpIn F m P a w next Q else (∀ f,o.about P w a.eval=some f->F.fn f)/\next (a.put o.dst undef) w
theorem runs_in (hF:FW F) {ops:Array Oper} {o:Oper} (hd:noDefer o=true) {a:Act} {w:World} {next next':Act->World->Prop} {Q:Exit->Act->World->Prop}
  (h:RunsOp P ops o next QF (bareA a) w) (h0:∀ a' w',next a' w'->a'.defers=[]) (hn:∀ a' w',next a' w'->next' (withD a' a.defers) w'):RunsIn F m P ops o next' Q a w:=by
 unfold RunsOp at h
 unfold RunsIn
 have e:(bareA a).tmps=a.tmps:=rfl
 rw [e] at h
 split
 ·rename_i hw
  rw [if_pos hw] at h
  rcases h with h | ⟨_,h⟩
  ·exact wp_in hF (noDefer_ok hd) h h0 hn
  ·exact (notOut h).elim
 ·rename_i hw
  rw [if_neg hw] at h
  refine ⟨fun f _=>hF.fn f,?_⟩
  have:=hn _ _ h
  rwa [withD_put] at this
def RelD (E:Ty->TypeId) (A:World->MM->Prop) (ds:List Deferred) (n:Nat) (st:St) (a:Act) (w:World):Prop :=
 a.defers=ds/\∃ w0 M,A w0 M/\Rel E w0 M n st (bareA a) w
variable {A:World->MM->Prop} {ds:List Deferred}
theorem RelD.size {st:St} {a:Act} {w:World} (h:RelD E A ds n st a w):a.tmps.size=n:=by
 obtain ⟨_,_,_,_,h⟩:=h
 exact h.size
theorem stepI (hF:FW F) (ht:TabOk P E tab) (hKA:KAll P E K) (hPA:PAll P E pts) {ops:Array Oper} {o:Oper} (hok:opOk o=true) (hnd:noDefer o=true) (hd:∀ d,o.dst=some d->d < n) {st:St} {a:Act} {w:World} (h:RelD E A ds n st a w) {k:St->Prop} (hv:vcStepP tab K pts ops o st k)
  {next:Act->World->Prop} {Q:Exit->Act->World->Prop} (hk:∀ st' a' w',RelD E A ds n st' a' w'->k st'->next a' w'):RunsIn F m P ops o next Q a w:=by
 obtain ⟨hds,w0,M,hA,hr⟩:=h
 refine runs_in hF hnd (next:=fun a' w'=>∃ st',Rel E w0 M n st' a' w'/\k st') (stepP_sound ht hKA hPA hok hd hr hv fun st' a' w' h1 h2=>⟨st',h1,h2⟩) (fun a' w' ⟨_,h1,_⟩=>h1.defers) fun a' w' ⟨st',h1,h2⟩=>?_
 refine hk st' _ w' ⟨hds,w0,M,hA,?_⟩ h2
 rw [bare_withD _ _ h1.defers]
 exact h1
theorem stepI0 (hF:FW F) (ht:TabOk P E tab) (hKA:KAll P E K) {ops:Array Oper} {o:Oper} (hok:opOk o=true) (hnd:noDefer o=true) (hd:∀ d,o.dst=some d->d < n) {st:St} {a:Act} {w:World} (h:RelD E A ds n st a w) {k:St->Prop} (hv:vcStep tab K ops o st k)
  {next:Act->World->Prop} {Q:Exit->Act->World->Prop} (hk:∀ st' a' w',RelD E A ds n st' a' w'->k st'->next a' w'):RunsIn F m P ops o next Q a w:=by
 obtain ⟨hds,w0,M,hA,hr⟩:=h
 refine runs_in hF hnd (next:=fun a' w'=>∃ st',Rel E w0 M n st' a' w'/\k st') (step_sound ht hKA hok hd hr hv fun st' a' w' h1 h2=>⟨st',h1,h2⟩) (fun a' w' ⟨_,h1,_⟩=>h1.defers) fun a' w' ⟨st',h1,h2⟩=>?_
 refine hk st' _ w' ⟨hds,w0,M,hA,?_⟩ h2
 rw [bare_withD _ _ h1.defers]
 exact h1
def wpListIn' (F:Fence) (m:Nat) (P:Program) (ops:Array Oper) (Q:Exit->Act->World->Prop):List Oper->Act->World->Prop
 | [],a,w=>Q .normal a w
 | o :: rest,a,w=>RunsIn F m P ops o (wpListIn' F m P ops Q rest) Q a w
theorem wpOpsIn_list {ops:Array Oper} {Q:Exit->Act->World->Prop} (l:List Oper):∀ k,(∀ j,l[j]?=ops[k+j]?)->wpOpsIn F m P ops Q (List.range' k l.length)=wpListIn' F m P ops Q l:=by
 induction l with
 | nil=>intro k _;funext a w;simp [wpOpsIn,wpListIn']
 | cons o l ih =>
  intro k h
  have h0:ops[k]?=some o:=by simpa using (h 0).symm
  have ih':=ih (k+1) (fun j=>by have:=h (j+1);simpa [Nat.add_assoc,Nat.add_comm 1 j] using this)
  funext a w
  simp only [List.length_cons,List.range'_succ,wpOpsIn,h0,wpListIn',RunsIn,ih']
theorem wpIn_region_list' {id:Nat} {ops:Array Oper} {Q:Exit->Act->World->Prop} {a:Act} {w:World} (h:wpListIn' F m P ops Q ops.toList a w):(Code.region id ops false).wpIn F m P Q a w :=
 wpIn_region (by rw [List.range_eq_range',← Array.length_toList,wpOpsIn_list ops.toList 0 (by simp)];exact h)
theorem seqI0 (hF:FW F) (ht:TabOk P E tab) (hKA:KAll P E K) {ops:Array Oper} {k:St->Prop} {Q:Exit->Act->World->Prop} (hk:∀ st' a' w',RelD E A ds n st' a' w'->k st'->Q .normal a' w') :
  ∀ (l:List Oper) (st:St) (a:Act) (w:World),(∀ o ∈ l,(opOk o=true/\∀ d,o.dst=some d->d < n)/\noDefer o=true)->RelD E A ds n st a w->vcOps tab K ops l st k->wpListIn' F m P ops Q l a w:=by
 intro l
 induction l with
 | nil=>intro st a w _ h hv;exact hk st a w h hv
 | cons o rest ih =>
  intro st a w hl h hv
  obtain ⟨⟨hok,hd⟩,hnd⟩:=hl o (by simp)
  have hl':∀ o ∈ rest,(opOk o=true/\∀ d,o.dst=some d->d < n)/\noDefer o=true:=fun o ho=>hl o (by simp [ho])
  unfold wpListIn'
  exact stepI0 hF ht hKA hok hnd hd h hv fun st' a' w' hr hv'=>ih st' a' w' hl' hr hv'
theorem RelD.drawn {st:St} {a:Act} {w:World} (h:RelD E A ds n st a w):RelD E A ds n st a { w with drawn:=w.drawn+1 } :=
 let ⟨h1,w0,M,hA,hr⟩:=h
 ⟨h1,w0,M,hA,hr.drawn⟩
theorem anyI (hF:FW F) (ht:TabOk P E tab) (hKA:KAll P E K) {ops:Array Oper} (hok:opsOk n ops.toList=true) (hnd:ops.toList.all noDefer=true) {k:St->Prop} {Q:Exit->Act->World->Prop} (hQ:∀ st' a' w',RelD E A ds n st' a' w'->k st'->Q .normal a' w') :
  ∀ (fuel:Nat) (listed:Array Bool) (st:St) (a:Act) (w:World),linDone ops fuel listed=true->RelD E A ds n st a w->(∀ l ∈ linExts ops fuel listed,vcOps tab K ops (pickOps ops l) st k)->wpAnyIn F m P .any ops Q fuel listed a w:=by
 intro fuel
 induction fuel with
 | zero =>
  intro listed st a w hd h hv
  simp only [linDone,List.isEmpty_iff] at hd
  exact ⟨hd,hQ st a w h (hv [] (by simp [linExts]))⟩
 | succ fuel ih =>
  intro listed st a w hd h hv
  simp only [linDone,List.all_eq_true] at hd
  refine ⟨fun he=>hQ st a w h (hv [] (by simp [linExts,he])),fun i hi=>?_⟩
  have hmem:∀ l ∈ linExts ops fuel (listed.setIfInBounds i true),(i :: l) ∈ linExts ops (fuel+1) listed:=by
   intro l hl
   simp only [linExts]
   split
   ·rename_i he;rw [he] at hi;cases hi
   ·rename_i x xs he
    rw [he] at hi
    exact List.mem_flatMap.2 ⟨i,hi,List.mem_map.2 ⟨l,hl,rfl⟩⟩
  unfold wpOpIn
  cases ho:ops[i]? with
  | none =>
   exact ih _ st a w (hd i hi) h fun l hl=>by
    have:=hv _ (hmem l hl)
    simpa [pickOps,ho] using this
  | some o =>
   have ho':o ∈ ops.toList:=by
    have:=Array.mem_of_getElem? ho
    simpa using this
   obtain ⟨h1,h2⟩:=opsOk_mem hok o ho'
   obtain ⟨l0,hl0⟩:=linExts_ex ops fuel (listed.setIfInBounds i true)
   have hall:∀ l,l ∈ linExts ops fuel (listed.setIfInBounds i true)->vcStep tab K ops o st (fun s=>vcOps tab K ops (pickOps ops l) s k):=by
    intro l hl
    have:=hv _ (hmem l hl)
    simpa only [pickOps,ho,vcOps] using this
   exact stepI0 hF ht hKA h1 (List.all_eq_true.1 hnd o ho') h2 h (vcStep_all l0 hl0 hall) fun st' a' w' hr hk=>ih _ st' a' w' (hd i hi) hr fun l hl=>hk l hl
theorem oneI (hF:FW F) (ht:TabOk P E tab) (hKA:KAll P E K) (hPA:PAll P E pts) {ops:Array Oper} (hok:opsOk n ops.toList=true) (hnd:ops.toList.all noDefer=true) {k:St->Prop} {Q:Exit->Act->World->Prop} (hQ:∀ st' a' w',RelD E A ds n st' a' w'->k st'->Q .normal a' w') :
  ∀ (fuel:Nat) (l0:List Nat) (listed:Array Bool) (st:St) (a:Act) (w:World),linDone ops fuel listed=true->(∀ l ∈ linExts ops fuel listed,l=l0)->RelD E A ds n st a w->vcOpsP tab K pts ops (pickOps ops l0) st k->wpAnyIn F m P .any ops Q fuel listed a w:=by
 intro fuel
 induction fuel with
 | zero =>
  intro l0 listed st a w hd hone h hv
  simp only [linDone,List.isEmpty_iff] at hd
  have:([]:List Nat)=l0:=hone [] (by simp [linExts])
  subst this
  exact ⟨hd,hQ st a w h hv⟩
 | succ fuel ih =>
  intro l0 listed st a w hd hone h hv
  simp only [linDone,List.all_eq_true] at hd
  refine ⟨fun he=>?_,fun i hi=>?_⟩
  ·have:([]:List Nat)=l0:=hone [] (by simp [linExts,he])
   subst this
   exact hQ st a w h hv
  have hmem:∀ l ∈ linExts ops fuel (listed.setIfInBounds i true),(i :: l) ∈ linExts ops (fuel+1) listed:=by
   intro l hl
   simp only [linExts]
   split
   ·rename_i he;rw [he] at hi;cases hi
   ·rename_i x xs he
    rw [he] at hi
    exact List.mem_flatMap.2 ⟨i,hi,List.mem_map.2 ⟨l,hl,rfl⟩⟩
  obtain ⟨l1,hl1⟩:=linExts_ex ops fuel (listed.setIfInBounds i true)
  have e0:l0=i :: l1:=(hone _ (hmem l1 hl1)).symm
  have hone':∀ l ∈ linExts ops fuel (listed.setIfInBounds i true),l=l1:=by
   intro l hl
   have:=hone _ (hmem l hl)
   rw [e0] at this
   injection this
  subst e0
  unfold wpOpIn
  cases ho:ops[i]? with
  | none =>
   have e1:pickOps ops (i :: l1)=pickOps ops l1:=by simp only [pickOps,ho]
   rw [e1] at hv
   exact ih l1 _ st a w (hd i hi) hone' h hv
  | some o =>
   have ho':o ∈ ops.toList:=by
    have:=Array.mem_of_getElem? ho
    simpa using this
   obtain ⟨h1,h2⟩:=opsOk_mem hok o ho'
   have e1:pickOps ops (i :: l1)=o :: pickOps ops l1:=by simp only [pickOps,ho]
   rw [e1] at hv
   exact stepI hF ht hKA hPA h1 (List.all_eq_true.1 hnd o ho') h2 h hv fun st' a' w' hr hk=>ih l1 _ st' a' w' (hd i hi) hone' hr hk
end
end Go.SE



namespace Go.SE
variable [Base]
open Go.RowKit
section
variable (Γ:Type)
abbrev SpOp:=Oper->St->Γ->Option ((St->Γ->Prop)->Prop)
abbrev SpCode:=Operand->Array Tmp->Code->Code->St->Γ->Option ((XK->St->Γ->Prop)->Prop)
end
section
variable {Γ:Type} (tab:TypeId->Option TI) (K:FuncId->Option Con) (pts:FuncId->Option PT) (sp:SpOp Γ)
def spK (o:Oper) (st:St) (γ:Γ) (k:St->Γ->Prop):Option ((St->Γ->Prop)->Prop)->Prop
 | some f=>f k
 | none=>vcOpP tab K pts o st fun st'=>k st' γ
def vcOpY (o:Oper) (st:St) (γ:Γ) (k:St->Γ->Prop):Prop:=spK tab K pts o st γ k (sp o st γ)
def vcStepY (ops:Array Oper) (o:Oper) (st:St) (γ:Γ) (k:St->Γ->Prop):Prop :=
 match o.guard with
 | none=>vcOpY tab K pts sp o st γ k
 | some (j,want)=>match gslot ops j with
  | none=>False
  | some g=>match st.env g with
   | .s (.c (.d (.val (.bool b)))) =>
    match want with
    | true=>vcIf b (vcOpY tab K pts sp o { st with env:=upd st.env g (sv (.bool true)) } γ k) (k (St.put { st with env:=upd st.env g (sv (.bool false)) } o.dst junk) γ)
    | false=>vcIf b (k (St.put { st with env:=upd st.env g (sv (.bool true)) } o.dst junk) γ) (vcOpY tab K pts sp o { st with env:=upd st.env g (sv (.bool false)) } γ k)
   | _=>False
def vcOpsY (ops:Array Oper):List Oper->St->Γ->(St->Γ->Prop)->Prop
 | [],st,γ,k=>k st γ
 | o :: rest,st,γ,k=>vcStepY tab K pts sp ops o st γ fun st' γ'=>vcOpsY ops rest st' γ' k
def vcRegY (ops:Array Oper) (st:St) (γ:Γ) (k:St->Γ->Prop):Bool->Bool->List (List Nat)->Prop
 | false,_,p=>vcReg tab K ops st (fun st'=>k st' γ) p
 | true,false,[]=>vcOpsY tab K pts sp ops ops.toList st γ k
 | true,true,[]=>vcLast tab K pts ops st fun st'=>k st' γ
 | true,_,l :: _=>vcOpsP tab K pts ops (pickOps ops l) st fun st'=>k st' γ
structure AnnY (Γ:Type) where
 ann:Ann
 gh:ann.α->Γ
def seqY (f:St->Γ->Prop) (Q:XK->St->Γ->Prop):XK->St->Γ->Prop
 | .normal,st,γ=>f st γ
 | x,st,γ=>Q x st γ
def blockY (id:Nat) (Q:XK->St->Γ->Prop):XK->St->Γ->Prop
 | .exit id',st,γ=>if id'=id then Q .normal st γ else Q (.exit id') st γ
 | x,st,γ=>Q x st γ
def vcLoopY (body:St->Γ->(XK->St->Γ->Prop)->Prop) (st:St) (γ:Γ) (Q:XK->St->Γ->Prop):Option (AnnY Γ)->Prop
 | none=>False
 | some ⟨⟨α,ok,mu,i0,nx,live,sets,mids,blks,owns,rd,base⟩,gh⟩=>(ok (i0 st)/\gh (i0 st)=γ/\fitsQ live (sets (i0 st)) mids (blks (i0 st)) (owns (i0 st)) (rd st.rd (i0 st)) st st) /\
   ∀ a:α,ok a->body (headP (fun _=>none) live (sets a) mids (blks a) (owns a) base (rd st.rd a) st) (gh a)
    (seqY (fun st' γ'=>ok (nx a st')/\gh (nx a st')=γ'/\mu (nx a st') < mu a/\fitsQ live (sets (nx a st')) mids (blks (nx a st')) (owns (nx a st')) (rd st.rd (nx a st')) st st') Q)
def spcK (Q:XK->St->Γ->Prop):Option ((XK->St->Γ->Prop)->Prop)->Prop
 | some f=>f Q
 | none=>False
end
section
variable {Γ:Type} (tab:TypeId->Option TI) (K:FuncId->Option Con) (pts:FuncId->Option PT) (sp:SpOp Γ) (spc:SpCode Γ) (drg:Γ->Bool) (hp:Nat->Bool) (gcs:Nat->Option (List Nat × List Nat)) (anns:Nat->St->Γ->Option (AnnY Γ)) (perm:Nat->List (List Nat))
def dOk (b draw:Bool):List (List Nat)->Prop
 | []=>(!draw || b)=true
 | _=>True
def vcY:Code->St->Γ->(XK->St->Γ->Prop)->Prop
 | .skip,st,γ,Q=>Q .normal st γ
 | .region id ops draw,st,γ,Q=>dOk (drg γ) draw (perm id)/\vcRegY tab K pts sp ops st γ (Q .normal) (hp id) draw (perm id)
 | .seq a b,st,γ,Q=>vcY a st γ (seqY (fun st' γ'=>gcQ st' (fun s=>vcY b s γ' Q) (gcs (firstReg b))) Q)
 | .cond c a b,st,γ,Q=>condK (vcY a st γ Q) (vcY b st γ Q) (ev st c)
 | .block id c,st,γ,Q=>vcY c st γ (blockY id Q)
 | .loop c,st,γ,Q=>vcLoopY (fun st' γ' Q'=>vcY c st' γ' Q') st γ Q (anns (firstReg c) st γ)
 | .rangeFunc f ps x c,st,γ,Q=>spcK Q (spc f ps x c st γ)
 | .exit id,st,γ,Q=>Q (.exit id) st γ
 | .ret,st,γ,Q=>Q .ret st γ
 | _,_,_,_=>False
def codeOkY (dr:Bool) (n:Nat):Code->Bool
 | .region id ops draw=>opsOk n ops.toList && ops.toList.all noDefer && (match hp id with
  | false=>(match perm id with
   | []=>!draw || (dr && drawOk K tab ops)
   | l :: ls=>draw && permOk ops (l :: ls))
  | true=>(match perm id with
   | []=>!draw || (dr && drawLast K tab ops)
   | [l]=>draw && permOk ops [l]
   | _=>false))
 | .seq a b=>codeOkY dr n a && codeOkY dr n b
 | .block _ c=>codeOkY dr n c
 | .loop c=>codeOkY dr n c
 | .cond _ a b=>codeOkY dr n a && codeOkY dr n b
 | _=>true
end
def noOO (gcs:Nat->Option (List Nat × List Nat)):Code->Bool
 | .seq a b=>noOO gcs a && noOO gcs b && (gcs (firstReg b)).isNone
 | .block _ c=>noOO gcs c
 | .loop _=>false
 | .cond _ a b=>noOO gcs a && noOO gcs b
 | _=>true
section
variable {Γ:Type} {F:Fence} {m:Nat} {P:Program} {E:Ty->TypeId} {tab:TypeId->Option TI} {K:FuncId->Option Con} {pts:FuncId->Option PT} {sp:SpOp Γ} {spc:SpCode Γ} {drg:Γ->Bool} {hp:Nat->Bool} {gcs:Nat->Option (List Nat × List Nat)} {anns:Nat->St->Γ->Option (AnnY Γ)} {perm:Nat->List (List Nat)} {n:Nat}
 {A:Γ->List Deferred->World->MM->Prop}
def RelY (E:Ty->TypeId) (A:Γ->List Deferred->World->MM->Prop) (n:Nat) (st:St) (γ:Γ) (a:Act) (w:World):Prop :=
 ∃ w0 M,A γ a.defers w0 M/\Rel E w0 M n st (bareA a) w
theorem RelY.nb {st:St} {γ:Γ} {a:Act} {w:World} (h:RelY E A n st γ a w):Base.n0<=w.heap.size :=
 let ⟨_,_,_,hr⟩:=h
 let ⟨_,hg,_⟩:=hr.good
 hg.roin.1
theorem RelY.d {st:St} {γ:Γ} {a:Act} {w:World} (h:RelY E A n st γ a w):RelD E (A γ a.defers) a.defers n st a w :=
 let ⟨w0,M,hA,hr⟩:=h
 ⟨rfl,w0,M,hA,hr⟩
theorem RelD.y {st:St} {γ:Γ} {ds:List Deferred} {a:Act} {w:World} (h:RelD E (A γ ds) ds n st a w):RelY E A n st γ a w:=by
 obtain ⟨rfl,w0,M,hA,hr⟩:=h
 exact ⟨w0,M,hA,hr⟩
def SpOk (F:Fence) (m:Nat) (P:Program) (E:Ty->TypeId) (A:Γ->List Deferred->World->MM->Prop) (n:Nat) (sp:SpOp Γ):Prop :=
 ∀ o st γ f,sp o st γ=some f->(∀ d,o.dst=some d->d < n)->∀ (k:St->Γ->Prop) (a:Act) (w:World) (next:Act->World->Prop) (Q:Exit->Act->World->Prop),RelY E A n st γ a w->f k ->
  (∀ st' γ' a' w',RelY E A n st' γ' a' w'->k st' γ'->next a' w')->o.wpIn F m P a w next Q
def SpcOk (F:Fence) (m:Nat) (P:Program) (E:Ty->TypeId) (A:Γ->List Deferred->World->MM->Prop) (n:Nat) (spc:SpCode Γ):Prop :=
 ∀ f ps x c st γ g,spc f ps x c st γ=some g->∀ (Qs:XK->St->Γ->Prop) (a:Act) (w:World) (Q:Exit->Act->World->Prop),RelY E A n st γ a w->g Qs ->
  (∀ x st' γ' a' w',RelY E A n st' γ' a' w'->Qs x st' γ'->Q x.exit' a' w')->(Code.rangeFunc f ps x c).wpIn F m P Q a w
theorem vcOpY_sound (hF:FW F) (ht:TabOk P E tab) (hKA:KAll P E K) (hPA:PAll P E pts) (hsp:SpOk F m P E A n sp) {o:Oper} (hok:opOk o=true) (hnd:noDefer o=true) (hd:∀ d,o.dst=some d->d < n) {st:St} {γ:Γ} {a:Act} {w:World} (h:RelY E A n st γ a w)
  {k:St->Γ->Prop} (hv:vcOpY tab K pts sp o st γ k) {next:Act->World->Prop} {Q:Exit->Act->World->Prop} (hk:∀ st' γ' a' w',RelY E A n st' γ' a' w'->k st' γ'->next a' w'):o.wpIn F m P a w next Q:=by
 unfold vcOpY at hv
 cases hs:sp o st γ with
 | some f =>
  rw [hs] at hv
  exact hsp o st γ f hs hd k a w next Q h hv hk
 | none =>
  rw [hs] at hv
  obtain ⟨w0,M,hA,hr⟩:=h
  have hop:=vcOpP_sound hr ht hKA hPA hd hok hv (next:=fun a' w'=>∃ st',Rel E w0 M n st' a' w'/\k st' γ) (Q:=QF) fun st' a' w' h1 h2=>⟨st',h1,h2⟩
  refine wp_in hF (noDefer_ok hnd) hop (fun a' w' ⟨_,h1,_⟩=>h1.defers) fun a' w' ⟨st',h1,h2⟩=>?_
  refine hk st' γ _ w' ⟨w0,M,hA,?_⟩ h2
  rw [bare_withD _ _ h1.defers]
  exact h1
theorem stepY (hF:FW F) (ht:TabOk P E tab) (hKA:KAll P E K) (hPA:PAll P E pts) (hsp:SpOk F m P E A n sp) {ops:Array Oper} {o:Oper} (hok:opOk o=true) (hnd:noDefer o=true) (hd:∀ d,o.dst=some d->d < n) {st:St} {γ:Γ} {a:Act} {w:World} (h:RelY E A n st γ a w)
  {k:St->Γ->Prop} (hv:vcStepY tab K pts sp ops o st γ k) {next:Act->World->Prop} {Q:Exit->Act->World->Prop} (hk:∀ st' γ' a' w',RelY E A n st' γ' a' w'->k st' γ'->next a' w'):RunsIn F m P ops o next Q a w:=by
 unfold vcStepY at hv
 unfold RunsIn
 have hjunk:RelY E A n (St.put st o.dst junk) γ (a.put o.dst undef) w:=by
  obtain ⟨w0,M,hA,hr⟩:=h
  refine ⟨w0,M,by rw [put_defers];exact hA,?_⟩
  rw [bare_put]
  exact hr.junk hd undef
 cases hg:o.guard with
 | none =>
  rw [hg] at hv
  rw [if_pos (by simp [Region.wanted,hg])]
  exact vcOpY_sound hF ht hKA hPA hsp hok hnd hd h hv hk
 | some gw =>
  obtain ⟨j,want⟩:=gw
  rw [hg] at hv
  simp only at hv
  split at hv
  ·exact hv.elim
  ·rename_i g hgs
   split at hv
   ·rename_i b he
    have hy:yielded ops a.tmps j=some b:=by
     obtain ⟨w0,M,hA,hr⟩:=h
     exact yields hr hgs he
    have hwant:Region.wanted o (yielded ops a.tmps)=(b == want):=by simp [Region.wanted,hg,hy]
    rw [hwant]
    have hself:∀ c:Bool,b=c->({ st with env:=upd st.env g (sv (.bool c)) }:St)=st:=by
     intro c hc
     subst hc
     have:=upd_self st.env g (sv (.bool b)) he
     rw [this]
    cases want <;> cases b <;> simp only at hv
    ·have hv:=vcIf_f hv
     rw [hself false rfl] at hv
     exact vcOpY_sound hF ht hKA hPA hsp hok hnd hd h hv hk
    ·have hv:=vcIf_t hv
     rw [hself true rfl] at hv
     exact ⟨fun f _=>hF.fn f,hk _ _ _ w hjunk hv⟩
    ·have hv:=vcIf_f hv
     rw [hself false rfl] at hv
     exact ⟨fun f _=>hF.fn f,hk _ _ _ w hjunk hv⟩
    ·have hv:=vcIf_t hv
     rw [hself true rfl] at hv
     exact vcOpY_sound hF ht hKA hPA hsp hok hnd hd h hv hk
   ·exact hv.elim
theorem seqYs (hF:FW F) (ht:TabOk P E tab) (hKA:KAll P E K) (hPA:PAll P E pts) (hsp:SpOk F m P E A n sp) {ops:Array Oper} {k:St->Γ->Prop} {Q:Exit->Act->World->Prop} (hk:∀ st' γ' a' w',RelY E A n st' γ' a' w'->k st' γ'->Q .normal a' w') :
  ∀ (l:List Oper) (st:St) (γ:Γ) (a:Act) (w:World),(∀ o ∈ l,(opOk o=true/\∀ d,o.dst=some d->d < n)/\noDefer o=true)->RelY E A n st γ a w->vcOpsY tab K pts sp ops l st γ k->wpListIn' F m P ops Q l a w:=by
 intro l
 induction l with
 | nil=>intro st γ a w _ h hv;exact hk st γ a w h hv
 | cons o rest ih =>
  intro st γ a w hl h hv
  obtain ⟨⟨hok,hd⟩,hnd⟩:=hl o (by simp)
  have hl':∀ o ∈ rest,(opOk o=true/\∀ d,o.dst=some d->d < n)/\noDefer o=true:=fun o ho=>hl o (by simp [ho])
  unfold wpListIn'
  exact stepY hF ht hKA hPA hsp hok hnd hd h hv fun st' γ' a' w' hr hv'=>ih st' γ' a' w' hl' hr hv'
open Classical in
theorem codeY_sound (hF:FW F) (ht:TabOk P E tab) (hKA:KAll P E K) (hPA:PAll P E pts) (hmix:P.follows .mixedOrders=true) (hsp:SpOk F m P E A n sp) (hspc:SpcOk F m P E A n spc)
  {dr:Bool} (hdr:dr=true->F=Fence.wide/\(∀ γ ds w0 M,drg γ=true->A γ ds w0 M->ds=[])/\∀ w0 M,DrawSound P E tab K w0 M n) :
  ∀ (c:Code) (st:St) (γ:Γ) (a:Act) (w:World) (Qs:XK->St->Γ->Prop) (Q:Exit->Act->World->Prop),((∀ γ ds w0 M,A γ ds w0 M->OOk (fun _=>none) M) ∨ noOO gcs c=true)->codeOkY tab K hp perm dr n c=true->RelY E A n st γ a w->vcY tab K pts sp spc drg hp gcs anns perm c st γ Qs ->
  (∀ x st' γ' a' w',RelY E A n st' γ' a' w'->Qs x st' γ'->Q x.exit' a' w')->c.wpIn F m P Q a w:=by
 intro c
 induction c with
 | skip=>intro st γ a w Qs Q _ _ h hv hQ;exact wpIn_skip (hQ .normal st γ a w h hv)
 | region id ops draw =>
  intro st γ a w Qs Q hoo hok h hv hQ
  simp only [codeOkY,Bool.and_eq_true] at hok
  obtain ⟨⟨hok1,hnd⟩,hok2⟩:=hok
  have hall:∀ o ∈ ops.toList,(opOk o=true/\∀ d,o.dst=some d->d < n)/\noDefer o=true:=fun o ho=>⟨opsOk_mem hok1 o ho,List.all_eq_true.1 hnd o ho⟩
  simp only [vcY] at hv
  obtain ⟨hdo,hv⟩:=hv
  cases hh:hp id with
  | false =>
   rw [hh] at hv hok2
   cases hpm:perm id with
   | nil =>
    rw [hpm] at hv hok2
    simp only [vcRegY,vcReg] at hv
    simp only at hok2
    cases draw with
    | false=>exact wpIn_region_list' (seqI0 hF ht hKA (fun st' a' w' hr hk=>hQ .normal st' γ a' w' hr.y hk) ops.toList st a w hall h.d hv)
    | true =>
     simp only [Bool.not_true,Bool.false_or,Bool.and_eq_true] at hok2
     obtain ⟨hF',hA',hds⟩:=hdr hok2.1
     obtain ⟨w0,M,hA,hr⟩:=h
     have hgd:drg γ=true:=by rw [hpm] at hdo;simpa [dOk] using hdo
     have e0:a.defers=[]:=hA' _ _ _ _ hgd hA
     have e1:bareA a=a:=by cases a;simp only at e0;subst e0;rfl
     subst hF'
     refine wpIn_wide.2 (hds w0 M id ops st a w _ Q hok2.2 hok1 (by rw [← e1];exact hr) hv fun st' a' w' hr' hk=>?_)
     have e2:a'.defers=[]:=hr'.defers
     have e3:bareA a'=a':=by cases a';simp only at e2;subst e2;rfl
     exact hQ .normal st' γ a' w' ⟨w0,M,by rw [e2,← e0];exact hA,by rw [e3];exact hr'⟩ hk
   | cons l ls =>
    rw [hpm] at hv hok2
    simp only [vcRegY,vcReg] at hv
    simp only [Bool.and_eq_true,permOk,List.all_eq_true] at hok2
    obtain ⟨hd,hp1,hp2⟩:=hok2
    subst hd
    refine wpIn_region_any hmix (anyI hF ht hKA hok1 hnd (fun st' a' w' hr hk=>hQ .normal st' γ a' w' hr.y hk) _ _ st a _ hp1 h.d.drawn fun x hx=>vcEach_mem hv x ?_)
    have:=hp2 x hx
    simpa using this
  | true =>
   rw [hh] at hv hok2
   cases hpm:perm id with
   | nil =>
    rw [hpm] at hv hok2
    simp only at hok2
    cases draw with
    | true =>
     simp only [vcRegY] at hv
     simp only [Bool.not_true,Bool.false_or,Bool.and_eq_true] at hok2
     obtain ⟨hF',hA',hds⟩:=hdr hok2.1
     obtain ⟨w0,M,hA,hr⟩:=h
     have hgd:drg γ=true:=by rw [hpm] at hdo;simpa [dOk] using hdo
     have e0:a.defers=[]:=hA' _ _ _ _ hgd hA
     have e1:bareA a=a:=by cases a;simp only at e0;subst e0;rfl
     subst hF'
     refine wpIn_wide.2 (draw_last ht (tab_small ht) hKA hPA hmix hok2.2 hok1 (by rw [← e1];exact hr) hv fun st' a' w' hr' hk=>?_)
     have e2:a'.defers=[]:=hr'.defers
     have e3:bareA a'=a':=by cases a';simp only at e2;subst e2;rfl
     exact hQ .normal st' γ a' w' ⟨w0,M,by rw [e2,← e0];exact hA,by rw [e3];exact hr'⟩ hk
    | false =>
    simp only [vcRegY] at hv
    exact wpIn_region_list' (seqYs hF ht hKA hPA hsp (fun st' γ' a' w' hr hk=>hQ .normal st' γ' a' w' hr hk) ops.toList st γ a w hall h hv)
   | cons l ls =>
    rw [hpm] at hv hok2
    simp only [vcRegY] at hv
    cases ls with
    | cons l' ls=>cases hok2
    | nil =>
     simp only [Bool.and_eq_true,permOk,List.all_eq_true] at hok2
     obtain ⟨hd,hp1,hp2⟩:=hok2
     subst hd
     refine wpIn_region_any hmix (oneI hF ht hKA hPA hok1 hnd (fun st' a' w' hr hk=>hQ .normal st' γ a' w' hr.y hk) _ l _ st a _ hp1 (fun x hx=>?_) h.d.drawn hv)
     have:=hp2 x hx
     simpa using this
 | seq x y ihx ihy =>
  intro st γ a w Qs Q hoo hok h hv hQ
  simp only [codeOkY,Bool.and_eq_true] at hok
  have hx:(∀ γ ds w0 M,A γ ds w0 M->OOk (fun _=>none) M) ∨ noOO gcs x=true:=hoo.imp id fun h=>by simp only [noOO,Bool.and_eq_true] at h;exact h.1.1
  have hy:(∀ γ ds w0 M,A γ ds w0 M->OOk (fun _=>none) M) ∨ noOO gcs y=true:=hoo.imp id fun h=>by simp only [noOO,Bool.and_eq_true] at h;exact h.1.2
  refine wpIn_seq (ihx st γ a w _ _ hx hok.1 h hv fun k st' γ' a' w' hr hk=>?_)
  cases k with
  | normal =>
   simp only [seqY] at hk
   have hk2:=gcQ_ok (k':=fun s=>vcY tab K pts sp spc drg hp gcs anns perm y s γ' Qs) (fun _ h=>h) hk
   cases hgc:gcs (firstReg y) with
   | none=>rw [hgc] at hk2;exact ihy st' γ' a' w' Qs Q hy hok.2 hr hk2 hQ
   | some lv =>
    rw [hgc] at hk2
    obtain ⟨live,ids⟩:=lv
    obtain ⟨w0,M,hA,hr⟩:=hr
    rcases hoo with hOO | hn
    ·exact ihy _ γ' a' w' Qs Q hy hok.2 ⟨w0,M,hA,hr.gc (hOO _ _ _ _ hA) hk2.1⟩ hk2.2 hQ
    ·simp only [noOO,hgc,Option.isNone_some,Bool.and_false] at hn
     cases hn
  | exit id=>exact hQ (.exit id) st' γ' a' w' hr hk
  | ret=>exact hQ .ret st' γ' a' w' hr hk
 | cond cnd x y ihx ihy =>
  intro st γ a w Qs Q hoo hok h hv hQ
  simp only [codeOkY,Bool.and_eq_true] at hok
  simp only [vcY] at hv
  unfold condK at hv
  split at hv
  ·rename_i t he
   have hval:a.eval cnd=.bool t:=by
    obtain ⟨w0,M,hA,hr⟩:=h
    exact (ev_val hr he).1
   cases t with
   | true=>exact wpIn_cond_true hval (ihx st γ a w Qs Q (hoo.imp id fun h=>by simp only [noOO,Bool.and_eq_true] at h;exact h.1) hok.1 h (vcIf_t hv) hQ)
   | false=>exact wpIn_cond_false hval (ihy st γ a w Qs Q (hoo.imp id fun h=>by simp only [noOO,Bool.and_eq_true] at h;exact h.2) hok.2 h (vcIf_f hv) hQ)
  ·exact hv.elim
 | block id x ih =>
  intro st γ a w Qs Q hoo hok h hv hQ
  refine wpIn_block (ih st γ a w _ _ hoo hok h hv fun k st' γ' a' w' hr hk=>?_)
  cases k with
  | normal=>exact hQ .normal st' γ' a' w' hr hk
  | exit id' =>
   simp only [XK.exit',Exit.inBlock]
   simp only [blockY] at hk
   split
   ·rename_i e;rw [if_pos e] at hk;exact hQ .normal st' γ' a' w' hr hk
   ·rename_i e;rw [if_neg e] at hk;exact hQ (.exit id') st' γ' a' w' hr hk
  | ret=>exact hQ .ret st' γ' a' w' hr hk
 | loop x ih =>
  intro st γ a w Qs Q hoo hok h hv hQ
  simp only [vcY] at hv
  have hOO:∀ γ ds w0 M,A γ ds w0 M->OOk (fun _=>none) M:=hoo.resolve_right (by simp [noOO])
  unfold vcLoopY at hv
  split at hv
  ·exact hv.elim
  ·rename_i α ok mu i0 nx live sets mids blks owns rd base gh hA
   obtain ⟨⟨ho0,hg0,hf0⟩,hround⟩:=hv
   let α0:α:=i0 st
   let hd:α->St:=fun α=>SE.headP (fun _=>none) live (sets α) mids (blks α) (owns α) base (rd st.rd α) st
   have toHead:∀ {st':St} {γ':Γ} {a:Act} {w:World} (β:α),gh β=γ'->RelY E A n st' γ' a w->fitsQ live (sets β) mids (blks β) (owns β) (rd st.rd β) st st'->RelY E A n (hd β) (gh β) a w:=by
    intro st' γ' a w β hg hr hf
    subst hg
    obtain ⟨w0,M,hA,hr⟩:=hr
    exact ⟨w0,M,hA,hr.headP (hOO _ _ _ _ hA) (fitsQ_ok hf)⟩
   have hex:∀ (a:Act) (w:World),(∃ α,ok α/\RelY E A n (hd α) (gh α) a w)->∃ m,∃ α,ok α/\RelY E A n (hd α) (gh α) a w/\mu α=m :=
    fun a w ⟨α,h1,h2⟩=>⟨_,α,h1,h2,rfl⟩
   let μ:Act->World->Nat:=fun a w=>if hh:∃ m,∃ α,ok α/\RelY E A n (hd α) (gh α) a w/\mu α=m then Classical.choose (least hh) else 0
   refine wpIn_loop (fun a w=>∃ α,ok α/\RelY E A n (hd α) (gh α) a w) μ ⟨α0,ho0,toHead α0 hg0 h hf0⟩ ?_
   intro a w hI
   have hh:=hex a w hI
   obtain ⟨α,h1,h2,h3⟩:=(Classical.choose_spec (least hh)).1
   have hμ:μ a w=mu α:=by simp only [μ,dif_pos hh];exact h3.symm
   refine ih _ _ a w _ _ (.inl hOO) hok h2 (hround α h1) fun k st' γ' a' w' hr hk=>?_
   cases k with
   | normal =>
    obtain ⟨g1,g0,g2,g3⟩:=hk
    have hrel:RelY E A n (hd (nx α st')) (gh (nx α st')) a' w':=toHead _ g0 hr g3
    refine ⟨⟨nx α st',g1,hrel⟩,?_⟩
    have hh':∃ m,∃ α,ok α/\RelY E A n (hd α) (gh α) a' w'/\mu α=m:=⟨_,nx α st',g1,hrel,rfl⟩
    have:μ a' w'<=mu (nx α st'):=by simp only [μ,dif_pos hh'];exact (Classical.choose_spec (least hh')).2 _ ⟨nx α st',g1,hrel,rfl⟩
    omega
   | exit id=>exact hQ (.exit id) st' γ' a' w' hr hk
   | ret=>exact hQ .ret st' γ' a' w' hr hk
 | rangeFunc f ps x c ihx ihc =>
  intro st γ a w Qs Q hoo hok h hv hQ
  simp only [vcY] at hv
  cases hs:spc f ps x c st γ with
  | none=>rw [hs] at hv;exact hv.elim
  | some g =>
   rw [hs] at hv
   exact hspc f ps x c st γ g hs Qs a w Q h hv hQ
 | exit id=>intro st γ a w Qs Q _ _ h hv hQ;exact wpIn_exit (hQ (.exit id) st γ a w h hv)
 | ret=>intro st γ a w Qs Q _ _ h hv hQ;exact wpIn_ret (hQ .ret st γ a w h hv)
 | _=>intro st γ a w Qs Q _ _ h hv hQ;exact hv.elim
end
end Go.SE

namespace Go.SE
variable [Base]
open Go.RowKit
structure Fp where
 d:Nat->Prop
 r:Nat->Prop
structure Fr (p p':Fp) (w w':World):Prop where
 os:w'.os=w.os
 tape:w'.tape=w.tape
 output:w'.output=w.output
 size:w.heap.size<=w'.heap.size
 block:∀ b,b < w.heap.size->¬ p.d b->w'.heap[b]?=w.heap[b]?
 sub:∀ b,p'.d b->p.d b ∨ w.heap.size<=b
 subr:∀ b,p'.r b->p.r b ∨ p.d b ∨ w.heap.size<=b
theorem Fr.refl (p:Fp) (w:World):Fr p p w w:=⟨rfl,rfl,rfl,Nat.le_refl _,fun _ _ _=>rfl,fun _ h=>.inl h,fun _ h=>.inl h⟩
theorem Fr.trans {p p' p'':Fp} {a b c:World} (h:Fr p p' a b) (k:Fr p' p'' b c):Fr p p'' a c :=
 ⟨k.os.trans h.os,k.tape.trans h.tape,k.output.trans h.output,Nat.le_trans h.size k.size,
  fun i hi hd=>(k.block i (Nat.lt_of_lt_of_le hi h.size) fun hd'=>by rcases h.sub i hd' with h1 | h1;exact hd h1;omega).trans (h.block i hi hd),
  fun i hd=>by
   rcases k.sub i hd with h1 | h1
   ·exact h.sub i h1
   ·exact .inr (Nat.le_trans h.size h1),
  fun i hd=>by
   rcases k.subr i hd with h1 | h1 | h1
   ·exact h.subr i h1
   ·exact (h.sub i h1).elim (fun h=>.inr (.inl h)) fun h=>.inr (.inr h)
   ·exact .inr (.inr (Nat.le_trans h.size h1))⟩
structure JJ (Γ:Type) where
 J:Γ->Fp->World->Prop
 lt:∀ {γ p w b},J γ p w->p.d b ∨ p.r b->b < w.heap.size
 frame:∀ {γ p w w'},J γ p w->w'.os=w.os->w'.tape=w.tape->w'.output=w.output->w.heap.size<=w'.heap.size->(∀ b,p.d b ∨ p.r b->w'.heap[b]?=w.heap[b]?)->J γ p w'
section
variable {Γ:Type} {E:Ty->TypeId} {n:Nat}
structure FrX (X:Nat->Prop) (p p':Fp) (w w':World):Prop where
 os:w'.os=w.os
 tape:w'.tape=w.tape
 output:w'.output=w.output
 size:w.heap.size<=w'.heap.size
 block:∀ b,b < w.heap.size->¬ p.d b->¬ X b->w'.heap[b]?=w.heap[b]?
 sub:∀ b,p'.d b->p.d b ∨ w.heap.size<=b
 subr:∀ b,p'.r b->p.r b ∨ p.d b ∨ w.heap.size<=b
theorem FrX.refl (X:Nat->Prop) (p:Fp) (w:World):FrX X p p w w:=⟨rfl,rfl,rfl,Nat.le_refl _,fun _ _ _ _=>rfl,fun _ h=>.inl h,fun _ h=>.inl h⟩
theorem FrX.fr {X:Nat->Prop} {p p':Fp} {w w':World} (h:FrX X p p' w w') (hX:∀ b,¬ X b):Fr p p' w w':=⟨h.os,h.tape,h.output,h.size,fun b h1 h2=>h.block b h1 h2 (hX b),h.sub,h.subr⟩
theorem FrX.trans {X:Nat->Prop} {p p' p'':Fp} {a b c:World} (h:FrX X p p' a b) (k:Fr p' p'' b c):FrX X p p'' a c :=
 ⟨k.os.trans h.os,k.tape.trans h.tape,k.output.trans h.output,Nat.le_trans h.size k.size,
  fun i hi hd hx=>(k.block i (Nat.lt_of_lt_of_le hi h.size) fun hd'=>by rcases h.sub i hd' with h1 | h1;exact hd h1;omega).trans (h.block i hi hd hx),
  fun i hd=>by
   rcases k.sub i hd with h1 | h1
   ·exact h.sub i h1
   ·exact .inr (Nat.le_trans h.size h1),
  fun i hd=>by
   rcases k.subr i hd with h1 | h1 | h1
   ·exact h.subr i h1
   ·exact (h.sub i h1).elim (fun h=>.inr (.inl h)) fun h=>.inr (.inr h)
   ·exact .inr (.inr (Nat.le_trans h.size h1))⟩
def AnE (J:JJ Γ) (wE:World) (X:Nat->Prop) (DE:Fp):Γ->List Deferred->World->MM->Prop:=fun γ ds w0 M =>
 ds=[]/\(∀ id,M.pin id=none/\M.pinl id=none)/\∃ D:Fp,J.J γ D w0/\(∀ b,D.d b ∨ D.r b->¬ M.can b)/\(∀ b,D.d b->M.ro b=none)/\(∀ b,M.can b->X b ∨ wE.heap.size<=b)/\FrX X DE D wE w0
theorem AnE.oo {J:JJ Γ} {wE:World} {X:Nat->Prop} {DE:Fp} {γ:Γ} {ds:List Deferred} {w0:World} {M:MM} (h:AnE J wE X DE γ ds w0 M):OOk (fun _=>none) M :=
 ⟨fun id r hr=>(by simp at hr),fun id h'=>by rw [(h.2.1 id).1,(h.2.1 id).2] at h';simp at h',fun id h'=>by simp at h'⟩
def reM (g:G) (st:St):MM:={ can:=fun b=>∃ id r,st.mem id=some r/\r.live/\blkOf (g.κ id)=some b,ro:=g.ro,rho:=g.ρ }
theorem Rel.re {w0:World} {M:MM} {st:St} {a:Act} {w w':World} {g:G} (h:Rel E w0 M n st a w) (hg:Good E w0 M g st w) (henv:∀ x,(st.env x).R g (a.tmps.getD x undef)) (hrd:st.rd=none)
  (h1:∀ b,(∃ id r,st.mem id=some r/\r.live/\blkOf (g.κ id)=some b)->w'.heap[b]?=w.heap[b]?) (h2:∀ b vs,g.ro b=some vs->w'.heap[b]?=w.heap[b]?) (h3:w.heap.size<=w'.heap.size):Rel E w' (reM g st) n st a w':=by
 refine ⟨h.cl,h.size,h.defers,g,⟨Ext.refl _ _,?_,?_,hg.sep,?_,hg.wro,?_,?_,fun b vs hb=>.inl hb,⟨rfl,Nat.le_trans hg.roin.1 h3,fun b hb=>by obtain ⟨id,r,hm,hl,hb⟩:=hb;exact hg.nb hm hl hb⟩,fun id v hv=>?_,fun id k hk=>?_,fun b vs hb=>?_⟩,henv⟩
 ·intro b vs hb
  obtain ⟨ty,fz,h3,hq_⟩:=hg.ro b vs hb
  exact ⟨ty,fz,by rw [h2 b vs hb];exact h3,hq_⟩
 ·intro id r hr
  by_cases hl:r.live
  ·exact (hg.res id r hr).keep (fun b hb=>h1 b ⟨id,r,hr,hl,hb⟩) (fun _ _ h=>h) rfl ⟨rfl,rfl⟩ fun _ _=>⟨rfl,rfl⟩
  ·cases r <;> first | exact (hl trivial).elim | trivial
 ·intro id r hr hl b hb
  exact .inr ⟨id,r,hr,hl,hb⟩
 ·intro k hk;rw [hrd] at hk;cases hk
 ·intro hk;exact absurd hrd hk
 ·cases hv
 ·cases hk
 ·cases hb
end
end Go.SE

namespace Go.SE
variable [Base]
open Go.RowKit
abbrev XP:=(List XCmd × Value) × (List XCmd × Value)
abbrev MG:=Option (Nat × List XP)
def keyOf (p:XP):Value:=.agg #[ptrAt p.1.2 0,ptrAt p.2.2 0,.int .i64 p.1.1.length]
structure PairD (ro:Nat->Option (Array Value)) (p:XP):Prop where
 a:DR ro (.arr .xcmd p.1.1) p.1.2
 b:DR ro (.arr .xcmd p.2.1) p.2.2
 n:0 < p.1.1.length
 l:p.1.1.length=p.2.1.length
structure AMap (wE w0:World) (M:MM) (mb:Nat) (S:List XP):Prop where
 ge:wE.heap.size<=mb
 no:¬ M.can mb
 ps:∀ q ∈ S,PairD M.rok q
 hp:∃ es ck,w0.heap[mb]?=some (.map es ck)/\∀ e ∈ es.toList,e.val=.int .i64 1/\∃ q ∈ S,e.key=keyOf q
def AMm (wE w0:World) (M:MM):MG->Prop
 | none=>True
 | some (mb,S)=>AMap wE w0 M mb S
def AM (wE:World) (ro0:Nat->Option (Array Value)) (ρ:Nat):MG->List Deferred->World->MM->Prop:=fun γ ds w0 M =>
 ds=[]/\(∀ id,M.pin id=none/\M.pinl id=none)/\Ext (fun _=>False) wE w0/\(∀ b,M.can b->wE.heap.size<=b)/\(∀ b vs,M.ro b=some vs->ro0 b=some vs ∨ wE.heap.size<=b)/\M.rho=ρ/\AMm wE w0 M γ
section
variable {P:Program} {E:Ty->TypeId} {n:Nat} {wE w w0 w':World} {ro0:Nat->Option (Array Value)} {ρ:Nat} {γ γ':MG} {ds:List Deferred} {M:MM} {g:G} {st:St} {a:Act}
theorem AM.oo (h:AM wE ro0 ρ γ ds w0 M):OOk (fun _=>none) M :=
 ⟨fun id r hr=>(by simp at hr),fun id h'=>by rw [(h.2.1 id).1,(h.2.1 id).2] at h';simp at h',fun id h'=>by simp at h'⟩
theorem AM.ext (h:AM wE ro0 ρ γ ds w0 M) (hg:Good E w0 M g st w):Ext (fun _=>False) wE w:=by
 obtain ⟨_,_,he,hcan,_⟩:=h
 refine ⟨hg.ext.os.trans he.os,hg.ext.tape.trans he.tape,hg.ext.output.trans he.output,Nat.le_trans he.size hg.ext.size,fun b hb _=>?_⟩
 rw [hg.ext.block b (Nat.lt_of_lt_of_le hb he.size) fun hc=>by have:=hcan b hc;omega]
 exact he.block b hb fun h=>h
theorem AM.good (h:AM wE ro0 ρ γ ds w0 M) (hg:Good E w0 M g st w) (hrd:st.rd=none) (hE:Base.n0<=wE.heap.size):Good E wE (MOf false ρ ro0) g st w:=by
 have hx:=h.ext hg
 obtain ⟨_,_,he,hcan,hro,hrho,_⟩:=h
 refine ⟨⟨hx.os,hx.tape,hx.output,hx.size,fun b hb _=>hx.block b hb fun h=>h⟩,hg.ro,hg.res,hg.sep,fun id r hm hl b hb=>?_,hg.wro,?_,?_,fun b vs hb=>?_,⟨hg.rho.1.trans hrho,hE,fun b hb=>by cases hb.1⟩,fun _ _ h=>(by cases h),fun _ _ h=>(by cases h),fun _ _ h=>(by cases h)⟩
 ·rcases hg.fresh id r hm hl b hb with h1 | h1
  ·exact .inl (Nat.le_trans he.size h1)
  ·exact .inl (hcan b h1)
 ·intro k hk;rw [hrd] at hk;cases hk
 ·intro hk;exact absurd hrd hk
 ·rcases hg.roo b vs hb with h1 | h1 | h1
  ·rcases hro b vs h1 with h2 | h2
   ·exact .inl h2
   ·exact .inr (.inl h2)
  ·exact .inr (.inl (Nat.le_trans he.size h1))
  ·exact .inr (.inl (hcan b h1))
def reK (g:G) (st:St):MM:={ can:=fun b=>∃ id r,st.mem id=some r/\r.live/\blkOf (g.κ id)=some b,ro:=g.ro,rho:=g.ρ,rok:=g.ro }
theorem Good.reK {w0:World} {M:MM} (hg:Good E w0 M g st w) (hrd:st.rd=none) (h1:∀ b,(∃ id r,st.mem id=some r/\r.live/\blkOf (g.κ id)=some b)->w'.heap[b]?=w.heap[b]?)
  (h2:∀ b vs,g.ro b=some vs->w'.heap[b]?=w.heap[b]?) (h3:w.heap.size<=w'.heap.size):Good E w' (reK g st) g st w':=by
 refine ⟨Ext.refl _ _,?_,?_,hg.sep,?_,hg.wro,?_,?_,fun b vs hb=>.inl hb,⟨rfl,Nat.le_trans hg.roin.1 h3,fun b hb=>by obtain ⟨id,r,hm,hl,hb⟩:=hb;exact hg.nb hm hl hb⟩,fun id v hv=>?_,fun id k hk=>?_,fun b vs hb=>hb⟩
 ·intro b vs hb
  exact (hg.ro b vs hb).keep fun _=>h2 b vs hb
 ·intro id r hr
  by_cases hl:r.live
  ·exact (hg.res id r hr).keep (fun b hb=>h1 b ⟨id,r,hr,hl,hb⟩) (fun _ _ h=>h) rfl ⟨rfl,rfl⟩ fun _ _=>⟨rfl,rfl⟩
  ·cases r <;> first | exact (hl trivial).elim | trivial
 ·intro id r hr hl b hb
  exact .inr ⟨id,r,hr,hl,hb⟩
 ·intro k hk;rw [hrd] at hk;cases hk
 ·intro hk;exact absurd hrd hk
 ·cases hv
 ·cases hk
theorem ResR.cells {r:Res} {id:Nat} (h:ResR E w g id r) (hl:r.live) {b:Nat} (hb:blkOf (g.κ id)=some b):∃ vs ty,w.heap[b]?=some (.cells vs ty (0,0)):=by
 cases r with
 | blk cs =>
  obtain ⟨b',vs,ty,h1,h2,_⟩:=h
  rw [h1] at hb;simp [blkOf] at hb;subst hb;exact ⟨_,_,h2⟩
 | vec t xs =>
  obtain ⟨_,b',vs,ty,h1,h2,_⟩:=h
  rw [h1] at hb;simp [blkOf] at hb;subst hb;exact ⟨_,_,h2⟩
 | sl f t xs =>
  obtain ⟨_,h⟩:=h
  rcases h with ⟨h1,_⟩ | ⟨b',_,vs,h1,h2,_⟩
  ·rw [h1] at hb;simp [blkOf] at hb
  ·rw [h1] at hb;simp [blkOf] at hb;subst hb;exact ⟨_,_,h2⟩
 | dead=>exact hl.elim
theorem AMap.now {mb:Nat} {S:List XP} (h:AMap wE w0 M mb S) (hg:Good E w0 M g st w):∃ es ck,w.heap[mb]?=some (.map es ck)/\(∀ e ∈ es.toList,e.val=.int .i64 1/\∃ q ∈ S,e.key=keyOf q)/\∀ q ∈ S,PairD g.ro q:=by
 obtain ⟨es,ck,h1,h2⟩:=h.hp
 refine ⟨es,ck,?_,h2,fun q hq=>?_⟩
 ·rw [hg.ext.block mb (lt_of_some h1) h.no];exact h1
 ·have:=h.ps q hq
  exact ⟨this.a.mono hg.keep.2,this.b.mono hg.keep.2,this.n,this.l⟩
theorem AM.re (h:AM wE ro0 ρ γ a.defers w0 M) (hr:Rel E w0 M n st (bareA a) w) (hg:Good E w0 M g st w) (henv:∀ x,(st.env x).R g (a.tmps.getD x undef)) (hrd:st.rd=none)
  (hos:w'.os=w.os) (htape:w'.tape=w.tape) (hout:w'.output=w.output) (hsz:w.heap.size<=w'.heap.size)
  (hb:∀ b,b < w.heap.size->(∀ es ck,w.heap[b]? ≠ some (.map es ck))->w'.heap[b]?=w.heap[b]?) (hold:∀ b,b < wE.heap.size->w'.heap[b]?=w.heap[b]?)
  (hm:AMm wE w' (reK g st) γ') {dst:Option Tmp} {v:Value} {s:S} (hd:∀ d,dst=some d->d < n) (hs:s.R g v) (href:s.refs=[]):RelY E (AM wE ro0 ρ) n (St.put st dst s) γ' (a.put dst v) w':=by
 have hx:=h.ext hg
 obtain ⟨hds,hpin,he,hcan,hro,hrho,_⟩:=h
 have hlive:∀ b,(∃ id r,st.mem id=some r/\r.live/\blkOf (g.κ id)=some b)->w'.heap[b]?=w.heap[b]?:=fun b ⟨id,r,hm,hl,hbk⟩=>by
  obtain ⟨vs,ty,h1⟩:=(hg.res id r hm).cells hl hbk
  exact hb b (lt_of_some h1) fun es ck=>by rw [h1];simp
 have hrow:∀ b vs,g.ro b=some vs->w'.heap[b]?=w.heap[b]?:=fun b vs hbv=>by
  obtain ⟨ty,fz,h1,_⟩:=hg.ro b vs hbv
  exact hb b (lt_of_some h1) fun es ck=>by rw [h1];simp
 have hg':=hg.reK (w':=w') hrd hlive hrow hsz
 refine ⟨w',SE.reK g st,⟨by rw [put_defers];exact hds,fun _=>⟨rfl,rfl⟩,⟨hos.trans hx.os,htape.trans hx.tape,hout.trans hx.output,Nat.le_trans hx.size hsz,fun b hb' _=>?_⟩,fun b hc=>?_,fun b vs hbv=>?_,hg.rho.1.trans hrho,hm⟩,?_⟩
 ·rw [hold b hb'];exact hx.block b hb' fun h=>h
 ·obtain ⟨id,r,hm,hl,hbk⟩:=hc
  rcases hg.fresh id r hm hl b hbk with h1 | h1
  ·exact Nat.le_trans he.size h1
  ·exact hcan b h1
 ·rcases hg.roo b vs hbv with h1 | h1 | h1
  ·exact hro b vs h1
  ·exact .inr (Nat.le_trans he.size h1)
  ·exact .inr (hcan b h1)
 ·rw [bare_put]
  have hm:(St.put st dst s).mem=st.mem:=by cases dst <;> rfl
  refine ⟨⟨?_,by rw [hm];exact hr.cl.2⟩,?_,?_,g,hg'.env (by cases dst <;> rfl) (by cases dst <;> rfl) (by cases dst <;> rfl) (by cases dst <;> rfl),?_⟩
  ·intro x id hid
   rw [hm]
   cases dst with
   | none=>exact hr.cl.1 x id hid
   | some d =>
    by_cases e:x=d
    ·subst e;simp only [St.put,upd_same,href] at hid;cases hid
    ·simp only [St.put,upd_ne _ _ e] at hid;exact hr.cl.1 x id hid
  ·cases dst <;> simp [Act.put,hr.size]
  ·rw [put_defers];exact hr.defers
  ·intro x
   rw [put_get (by rw [hr.size];exact hd)]
   cases dst with
   | none=>simpa [St.put,bareA] using henv x
   | some d =>
    by_cases e:x=d
    ·subst e;simp only [St.put,upd_same];simpa using hs
    ·have:¬ (some d=some x):=fun h=>e (by injection h with h;exact h.symm)
     rw [if_neg this]
     simp only [St.put,upd_ne _ _ e]
     exact henv x
end
end Go.SE

namespace Go.SE
variable [Base]
open Go.RowKit
def pairOf (st:St) (t:Nat):Option XP :=
 match st.env t with
 | .s (.c (.ptr id 0))=>match st.mem id with
  | some (.blk [.d (.fix .xcmd xs va),.d (.fix .xcmd ys vb)])=>some ((xs,va),(ys,vb))
  | _=>none
 | _=>none
def keyK (mb:Nat) (p:XP) (v a b n:Value) (rd:Option Nat):Prop :=
 rd=none/\v=.map (some mb)/\a=ptrAt p.1.2 0/\b=ptrAt p.2.2 0/\n=.int .i64 p.1.1.length/\0 < p.1.1.length/\p.1.1.length=p.2.1.length
def inS (qs:List XP) (p:XP):Prop:=∃ q ∈ qs,q.1.1=p.1.1/\q.2.1=p.2.1
def lookK (mb:Nat) (qs:List XP) (st:St) (dst:Option Tmp):S->S->Option XP->Option ((St->MG->Prop)->Prop)
 | .s (.c (.d (.val v))),.s (.agg [.d (.val a),.d (.val b),.d (.val n)]),some p=>some fun k=>keyK mb p v a b n st.rd /\
   (inS qs p->k (St.put st dst (sv (.int .i64 1))) (some (mb,qs)))/\k (St.put st dst (sv (.int .i64 0))) (some (mb,qs))
 | _,_,_=>none
def updK (mb:Nat) (qs:List XP) (st:St):S->S->S->Option XP->Option ((St->MG->Prop)->Prop)
 | .s (.c (.d (.val v))),.s (.agg [.d (.val a),.d (.val b),.d (.val n)]),.s (.c (.d (.val x))),some p=>some fun k=>keyK mb p v a b n st.rd/\x=.int .i64 1/\k st (some (mb,p :: qs))
 | _,_,_,_=>none
def gM:MG->Nat
 | some (m,_)=>m
 | none=>0
def gS:MG->List XP
 | some (_,l)=>l
 | none=>[]
def lastP (l:List XP):XP:=l.getD ((l.length:Int) - (1:Int)).toNat (Ty.zero .cpair)
def expS:S->List XP × List XP->List XP
 | .s (.c (.d (.val (.int _ _)))),q=>lastP q.1 :: q.2
 | _,q=>q.2
def prAt (st:St):XP :=
 match pairOf st 7 with
 | some p=>p
 | none=>Ty.zero .cpair
def cutSt (st:St) (d fam id:Nat) (xs:List XP) (k:Nat):St :=
 { st with mem:=upd (upd (kill fam id st.mem) id (some .dead)) (nid st.base d 0) (some (.sl (nid st.base d 0) .cpair (xs.take k))),env:=upd st.env d (.s (.c (.own (nid st.base d 0)))) }
def cutK (γ:MG) (st:St) (d:Nat):S->S->Option ((St->MG->Prop)->Prop)
 | .s (.c (.own id)),.s (.c (.d (.val (.int _ h))))=>match st.mem id with
  | some (.sl fam .cpair xs)=>some fun k=>st.rd=none/\st.sp id=false/\st.fr id=false/\st.mem (nid st.base d 0)=none/\(0<=h/\h < xs.length)/\k (cutSt st d fam id xs h.toNat) γ
  | _=>none
 | _,_=>none
def spM (mt ct t:Nat):SpOp MG:=fun o st γ =>
 match o.op,γ,o.dst with
 | .makeMap ty none,none,dst=>if ty=mt then some fun k=>st.rd=none/\∀ mb:Nat,k (St.put st dst (sv (.map (some mb)))) (some (mb,[])) else none
 | .lookup ty m key false,some (mb,qs),dst=>if ty=mt then lookK mb qs st dst (ev st m) (ev st key) (pairOf st t) else none
 | .mapUpdate ty m key x,some (mb,qs),none=>if ty=mt then updK mb qs st (ev st m) (ev st key) (ev st x) (pairOf st t) else none
 | .slice ty x none (some h) none,γ,some d=>if ty=ct then cutK γ st d (ev st x) (ev st h) else none
 | _,_,_=>none
section
variable {P:Program} {E:Ty->TypeId} {n:Nat} {wE w w0:World} {ro0:Nat->Option (Array Value)} {ρ:Nat} {γ:MG} {M:MM} {g:G} {st:St} {a:Act}
theorem pairOf_D {E:Ty->TypeId} (hg:Good E w0 M g st w) {t:Nat} {p:XP} (h:pairOf st t=some p):DR g.ro (.arr .xcmd p.1.1) p.1.2/\DR g.ro (.arr .xcmd p.2.1) p.2.2:=by
 unfold pairOf at h
 split at h
 ·rename_i id _
  split at h
  ·rename_i xs va ys vb hm
   injection h with h
   subst h
   obtain ⟨b,vs,ty,h1,h2,h3⟩:=hg.res _ _ hm
   obtain ⟨u,hu,hr⟩:=h3.2 0 _ rfl
   obtain ⟨u',hu',hr'⟩:=h3.2 1 _ rfl
   obtain ⟨e1,d1⟩:=DR.fix_inv (show DR g.ro (.fix .xcmd xs va) u from hr)
   obtain ⟨e2,d2⟩:=DR.fix_inv (show DR g.ro (.fix .xcmd ys vb) u' from hr')
   exact ⟨e1 ▸ d1,e2 ▸ d2⟩
  ·cases h
 ·cases h
theorem PairD.key {p:XP} (h:PairD g.ro p) (hg:Good E w0 M g st w):∃ a b,keyOf p=kv a b p.1.1.length/\OkA w a/\OkA w b/\ptrAt p.1.2 0=.pointer (some a)/\ptrAt p.2.2 0=.pointer (some b):=by
 obtain ⟨b,o,cap,vs,h1,h2,h3,h4,_⟩:=h.a.xplace h.n
 obtain ⟨b',o',cap',vs',k1,k2,k3,k4,_⟩:=h.b.xplace (by rw [← h.l];exact h.n)
 obtain ⟨ty,fz,q1,q2⟩:=hg.ro b vs h3
 obtain ⟨ty',fz',q3,q4⟩:=hg.ro b' vs' k3
 refine ⟨⟨b,o,none⟩,⟨b',o',none⟩,by rw [keyOf,h2,k2];rfl,⟨vs,ty,by rw [q1,q2 h4]⟩,⟨vs',ty',by rw [q3,q4 k4]⟩,h2,k2⟩
theorem PairD.uniq {ro:Nat->Option (Array Value)} {p q:XP} (hp:PairD ro p) (hq:PairD ro q) (h:keyOf q=keyOf p):q.1.1=p.1.1/\q.2.1=p.2.1:=by
 simp only [keyOf,Value.agg.injEq,Array.mk.injEq,List.cons.injEq,and_true,Value.int.injEq,true_and,Int.natCast_inj] at h
 obtain ⟨h1,h2,h3⟩:=h
 exact ⟨hq.a.xptr hp.a hq.n h3 h1,hq.b.xptr hp.b (by rw [← hq.l];exact hq.n) (by rw [← hq.l,← hp.l];exact h3) h2⟩
theorem AMap.ents {mb:Nat} {qs:List XP} {es:Array MapEntry} (hg:Good E w0 M g st w) (h1:∀ e ∈ es.toList,e.val=.int .i64 1/\∃ q ∈ qs,e.key=keyOf q) (h2:∀ q ∈ qs,PairD g.ro q):∀ e ∈ es.toList,EntOk w e:=by
 intro e he
 obtain ⟨_,q,hq,hk⟩:=h1 e he
 obtain ⟨a,b,h3,h4,h5,_⟩:=(h2 q hq).key hg
 exact ⟨a,b,_,hk.trans h3,h4,h5⟩
theorem key_val {vs:Value} {a b x:Value} (h:(S.s (.agg [.d (.val a),.d (.val b),.d (.val x)])).R g vs):vs=.agg #[a,b,x]:=by
 obtain ⟨us,rfl,h1,h2⟩:=h
 obtain ⟨u0,e0,r0⟩:=h2 0 _ rfl
 obtain ⟨u1,e1,r1⟩:=h2 1 _ rfl
 obtain ⟨u2,e2,r2⟩:=h2 2 _ rfl
 have d0:=DR.val_eq (show DR g.ro (.val a) u0 from r0)
 have d1:=DR.val_eq (show DR g.ro (.val b) u1 from r1)
 have d2:=DR.val_eq (show DR g.ro (.val x) u2 from r2)
 subst d0 d1 d2
 obtain ⟨l⟩:=us
 match l,h1 with
 | [p,q,r],_=>simp at e0 e1 e2;simp [e0,e1,e2]
theorem spM_lookup {mt:Nat} (hmt:mapB P mt=true) {o:Oper} {m key:Operand} (ho:o.op=.lookup mt m key false) {mb:Nat} {qs:List XP} {p:XP} {va ka kb kn:Value} (hm:ev st m=.s (.c (.d (.val va)))) (hk:ev st key=.s (.agg [.d (.val ka),.d (.val kb),.d (.val kn)]))
  {t:Nat} (hp:pairOf st t=some p) (hK:keyK mb p va ka kb kn st.rd) (hA:AM wE ro0 ρ (some (mb,qs)) a.defers w0 M) (hr:Rel E w0 M n st (bareA a) w) (hd:∀ d,o.dst=some d->d < n) :
  ∃ v,(execOp a.eval o).run P w=.ok (.value v) w/\((v=.int .i64 1/\∃ q ∈ qs,q.1.1=p.1.1/\q.2.1=p.2.1) ∨ v=.int .i64 0):=by
 obtain ⟨g,hg,henv⟩:=hr.good
 obtain ⟨hrd,rfl,rfl,rfl,rfl,h5,h6⟩:=hK
 have hmap:=hA.2.2.2.2.2.2
 obtain ⟨es,ck,h1,h2,h3⟩:=AMap.now hmap hg
 have hD:=pairOf_D hg hp
 have hPD:PairD g.ro p:=⟨hD.1,hD.2,h5,h6⟩
 obtain ⟨a',b',k1,k2,k3,k4,k5⟩:=hPD.key hg
 have e1:a.eval m=.map (some mb):=by
  have:=ev_R henv m
  rw [hm] at this
  exact DR.val_eq this
 have e2:a.eval key=kv a' b' p.1.1.length:=by
  have:=ev_R henv key
  rw [hk] at this
  rw [show a.eval key=_ from key_val this,k4,k5];rfl
 obtain ⟨v,q1,q2⟩:=run_lookup_key (P:=P) hmt h1 k2 k3 (n:=p.1.1.length) (AMap.ents hg h2 h3 (mb:=mb))
 refine ⟨v,by simp [execOp,ho,e1,e2,q1],?_⟩
 rcases q2 with rfl | ⟨e,he,hek,hev⟩
 ·exact .inr rfl
 ·obtain ⟨hv1,q,hq,hkq⟩:=h2 e he
  refine .inl ⟨by rw [← hev];exact hv1,q,hq,hPD.uniq (h3 q hq) ?_⟩
  rw [← hkq,hek,k1]
end
end Go.SE

namespace Go.SE
variable [Base]
open Go.RowKit
section
variable {P:Program} {E:Ty->TypeId} {tab:TypeId->Option TI} {n:Nat} {wE w w0:World} {ro0:Nat->Option (Array Value)} {ρ:Nat} {γ:MG} {M:MM} {g:G} {st:St} {a:Act}
theorem live_cells (hg:Good E w0 M g st w) {b:Nat} (h:(reK g st).can b):∃ vs ty,w.heap[b]?=some (.cells vs ty (0,0)):=by
 obtain ⟨id,r,hm,hl,hb⟩:=h
 exact (hg.res id r hm).cells hl hb
theorem AMap.here {mb:Nat} {qs:List XP} (h:AMap wE w0 M mb qs) (hg:Good E w0 M g st w):AMap wE w (reK g st) mb qs:=by
 obtain ⟨es,ck,h1,h2,h3⟩:=h.now hg
 refine ⟨h.ge,fun hc=>?_,h3,es,ck,h1,h2⟩
 obtain ⟨vs,ty,h4⟩:=live_cells hg hc
 rw [h1] at h4;cases h4
theorem AMm.here {γ:MG} (h:AMm wE w0 M γ) (hg:Good E w0 M g st w):AMm wE w (reK g st) γ:=by
 cases γ with
 | none=>trivial
 | some q=>exact AMap.here h hg
theorem wp_value {F:Fence} {m:Nat} (hF:FW F) {o:Oper} (hnd:noDefer o=true) {v:Value} {w':World} (hrun:(execOp a.eval o).run P w=.ok (.value v) w') {next:Act->World->Prop} {Q:Exit->Act->World->Prop} (hn:next (a.put o.dst v) w'):o.wpIn F m P a w next Q:=by
 refine wp_in hF (noDefer_ok hnd) (next:=fun a' w''=>a'=(bareA a).put o.dst v/\w''=w') ?_ (fun a' w'' ⟨h,_⟩=>by rw [h,put_defers];rfl) fun a' w'' ⟨h,e⟩=>?_
 ·unfold Oper.wp
  rw [eval_bare,hrun,Oper.upon_value]
  exact ⟨rfl,rfl⟩
 ·rw [h,e,withD_put];exact hn
theorem wp_skip {F:Fence} {m:Nat} (hF:FW F) {o:Oper} (hnd:noDefer o=true) (hdst:o.dst=none) {w':World} (hrun:(execOp a.eval o).run P w=.ok .skip w') {next:Act->World->Prop} {Q:Exit->Act->World->Prop} (hn:next a w'):o.wpIn F m P a w next Q:=by
 refine wp_in hF (noDefer_ok hnd) (next:=fun a' w''=>a'=bareA a/\w''=w') ?_ (fun a' w'' ⟨h,_⟩=>by rw [h];rfl) fun a' w'' ⟨h,e⟩=>?_
 ·unfold Oper.wp
  rw [eval_bare,hrun,Oper.upon_skip,hdst]
  exact ⟨rfl,rfl⟩
 ·rw [h,e]
  have:withD (bareA a) a.defers=a:=by cases a;rfl
  rw [this];exact hn
theorem spM_make {F:Fence} {m:Nat} (hF:FW F) {mt:Nat} {o:Oper} (ho:o.op=.makeMap mt none) (hA:AM wE ro0 ρ none a.defers w0 M) (hr:Rel E w0 M n st (bareA a) w) (hd:∀ d,o.dst=some d->d < n) (hrd:st.rd=none)
  {next:Act->World->Prop} {Q:Exit->Act->World->Prop} (hk:∀ mb a' w',RelY E (AM wE ro0 ρ) n (St.put st o.dst (sv (.map (some mb)))) (some (mb,[])) a' w'->next a' w'):o.wpIn F m P a w next Q:=by
 obtain ⟨g,hg,henv⟩:=hr.good
 have hx:=hA.ext hg
 refine wp_value hF (by simp [noDefer,ho]) (v:=.map (some w.heap.size)) (w':=w.alloc (.map #[] 0)) (by simp [execOp,ho,Instr.makeMap]) (hk w.heap.size _ _ ?_)
 have hold:∀ b,b < w.heap.size->(w.alloc (.map #[] 0)).heap[b]?=w.heap[b]?:=fun b hb=>Below.heap_alloc _ _ _ hb
 refine hA.re (w':=w.alloc (.map #[] 0)) (v:=.map (some w.heap.size)) hr hg henv hrd rfl rfl rfl (by simp) (fun b hb _=>hold b hb) (fun b hb=>hold b (Nat.lt_of_lt_of_le hb hx.size)) ?_ hd (R_sv rfl) (by simp [refs_sv])
 refine ⟨hx.size,fun hc=>?_,fun q hq=>(by cases hq),#[],0,World.alloc_heap_new _ _,fun e he=>(by simp at he)⟩
 obtain ⟨vs,ty,h⟩:=live_cells hg hc
 have:=lt_of_some h
 omega
theorem spM_upd {F:Fence} {m:Nat} (hF:FW F) {mt:Nat} (hmt:mapB P mt=true) {o:Oper} {x key val:Operand} (ho:o.op=.mapUpdate mt x key val) (hdst:o.dst=none) {mb:Nat} {qs:List XP} {p:XP} {va ka kb kn:Value}
  (hm:ev st x=.s (.c (.d (.val va)))) (hk:ev st key=.s (.agg [.d (.val ka),.d (.val kb),.d (.val kn)])) (hx1:ev st val=.s (.c (.d (.val (.int .i64 1)))))
  {t:Nat} (hp:pairOf st t=some p) (hK:keyK mb p va ka kb kn st.rd) (hA:AM wE ro0 ρ (some (mb,qs)) a.defers w0 M) (hr:Rel E w0 M n st (bareA a) w)
  {next:Act->World->Prop} {Q:Exit->Act->World->Prop} (hn:∀ a' w',RelY E (AM wE ro0 ρ) n st (some (mb,p :: qs)) a' w'->next a' w'):o.wpIn F m P a w next Q:=by
 obtain ⟨g,hg,henv⟩:=hr.good
 have hx:=hA.ext hg
 obtain ⟨hrd,rfl,rfl,rfl,rfl,h5,h6⟩:=hK
 have hmap:AMap wE w0 M mb qs:=hA.2.2.2.2.2.2
 obtain ⟨es,ck,h1,h2,h3⟩:=hmap.now hg
 have hD:=pairOf_D hg hp
 have hPD:PairD g.ro p:=⟨hD.1,hD.2,h5,h6⟩
 obtain ⟨a',b',k1,k2,k3,k4,k5⟩:=hPD.key hg
 have e1:a.eval x=.map (some mb):=by
  have:=ev_R henv x
  rw [hm] at this
  exact DR.val_eq this
 have e2:a.eval key=kv a' b' p.1.1.length:=by
  have:=ev_R henv key
  rw [hk] at this
  rw [show a.eval key=_ from key_val this,k4,k5];rfl
 have e3:a.eval val=.int .i64 1:=by
  have:=ev_R henv val
  rw [hx1] at this
  exact DR.val_eq this
 obtain ⟨es',ck',q1,q2⟩:=run_mapUpdate_key (P:=P) hmt h1 k2 k3 (n:=p.1.1.length) (AMap.ents hg h2 h3 (mb:=mb)) (.int .i64 1)
 refine wp_skip hF (by simp [noDefer,ho]) hdst (w':=w.putObj mb (.map es' ck')) (by simp [execOp,ho,e1,e2,e3,q1]) (hn _ _ ?_)
 have hne:∀ b,(∀ es ck,w.heap[b]? ≠ some (.map es ck))->b ≠ mb:=fun b hb e=>by subst e;exact hb es ck h1
 have:=hA.re (γ':=some (mb,p :: qs)) (dst:=none) (v:=undef) (s:=junk) hr hg henv hrd (w':=w.putObj mb (.map es' ck')) rfl rfl rfl (by simp) (fun b hb hb2=>World.putObj_heap_other (hne b hb2)) (fun b hb=>World.putObj_heap_other (by have:=hmap.ge;omega)) ?_ (fun d hd=>by cases hd) trivial rfl
 ·exact this
 ·refine ⟨hmap.ge,fun hc=>?_,fun q hq=>?_,es',ck',World.putObj_heap_same (lt_of_some h1),fun e he=>?_⟩
  ·obtain ⟨vs,ty,h⟩:=live_cells hg hc
   rw [h1] at h;cases h
  ·rcases List.mem_cons.1 hq with rfl | hq
   ·exact hPD
   ·exact h3 q hq
  ·rcases q2 e he with ⟨h7,h8⟩ | h7
   ·exact ⟨h8,p,List.mem_cons_self,by rw [h7,k1]⟩
   ·obtain ⟨h8,q,hq,h9⟩:=h2 e h7
    exact ⟨h8,q,List.mem_cons_of_mem _ hq,h9⟩
theorem Good.cut {w0:World} {M:MM} (hg:Good E w0 M g st w) (hcl:Cl st) (hrd:st.rd=none) (hpin:∀ id,M.pin id=none/\M.pinl id=none) {d fam id:Nat} {xs:List XP} {k:Nat} (hm:st.mem id=some (.sl fam .cpair xs)) (hs:st.sp id=false) (hf:st.fr id=false)
  (hfree:st.mem (nid st.base d 0)=none) {b cap:Nat} {cur:Array Value} (hκ:g.κ id=.slice (some ⟨b,0,none⟩) xs.length cap) (hb:w.heap[b]?=some (.cells cur (E .cpair) (0,0))) (hle:xs.length<=cap) (hcap:CapOk .cpair xs.length cap) (hcs:cur.size=cap * Ty.cpair.sz) (hrow:RowR g.ro (flat .cpair xs) cur 0) (hk:k<=xs.length) :
  Good E w0 M { g with κ:=upd g.κ (nid st.base d 0) (.slice (some ⟨b,0,none⟩) k cap),ln:=upd g.ln (nid st.base d 0) k } (cutSt st d fam id xs k) w:=by
 generalize hN:nid st.base d 0=N at hfree
 have hNid:N ≠ id:=fun e=>by subst e;rw [hm] at hfree;cases hfree
 have hbk:blkOf (g.κ id)=some b:=by rw [hκ];rfl
 have old:∀ i,(st.mem i).isSome=true->upd g.κ N (.slice (some ⟨b,0,none⟩) k cap) i=g.κ i/\upd g.ln N k i=g.ln i:=fun i hi=>by
  have e:i ≠ N:=fun e=>by subst e;rw [hfree] at hi;cases hi
  exact ⟨upd_ne _ _ e,upd_ne _ _ e⟩
 -- what lives
 have cases':∀ j r,(cutSt st d fam id xs k).mem j=some r->r.live->(j=N/\r=.sl N .cpair (xs.take k)) ∨ (j ≠ N/\j ≠ id/\st.mem j=some r/\∀ f t ys,r=.sl f t ys->f ≠ fam):=by
  intro j r hj hl
  simp only [cutSt,hN] at hj
  by_cases e:j=N
  ·subst e;rw [upd_same] at hj;injection hj with hj;exact .inl ⟨rfl,hj.symm⟩
  ·rw [upd_ne _ _ e] at hj
   by_cases e':j=id
   ·subst e';rw [upd_same] at hj;injection hj with hj;subst hj;exact hl.elim
   ·rw [upd_ne _ _ e'] at hj
    refine .inr ⟨e,e',?_,fun f t ys hr hff=>?_⟩
    ·rcases kill_cases hj with h | h
     ·exact h
     ·subst h;exact hl.elim
    ·subst hr hff
     unfold kill at hj
     split at hj
     ·rename_i f' t' ys' hm'
      split at hj
      ·injection hj with hj;cases hj
      ·rename_i hc
       injection hj with hj
       injection hj with h1 h2 h3
       exact hc ⟨e',h1⟩
     ·rename_i hc
      exact hc _ _ _ hj
 have apart:∀ j r,st.mem j=some r->r.live->j ≠ id->(∀ f t ys,r=.sl f t ys->f ≠ fam)->blkOf (g.κ j) ≠ some b:=fun j r hj hl hne hfam hbj=>by
  obtain ⟨f,t,ys,zs,h1,h2,_⟩:=hg.sep j id r _ hj hm hne hl trivial b hbj hbk
  injection h2 with h2 h3 h4
  exact hfam f t ys h1 h2.symm
 have dead:∀ j r,(cutSt st d fam id xs k).mem j=some r->¬ r.live->r=.dead:=fun j r _ hl=>by cases r <;> first | rfl | exact (hl trivial).elim
 refine ⟨hg.ext,hg.ro,fun j r hj=>?_,fun i j r s hi hj hij hli hlj b' hbi hbj=>?_,fun j r hj hl b' hb'=>?_,fun j r hj hl b' hb' h1 h2=>?_,?_,?_,hg.roo,hg.rho,(fun i v hv=>by rw [(hpin i).1] at hv;cases hv),(fun i v hv=>by rw [(hpin i).2] at hv;cases hv),hg.keep.2⟩
 ·by_cases hl:r.live
  ·rcases cases' j r hj hl with ⟨rfl,rfl⟩ | ⟨h1,h2,h3,h4⟩
   ·have hkl:(xs.take k).length=k:=by simp;omega
    refine ⟨by show upd g.ln j k j=_;rw [upd_same,hkl],.inr ⟨b,cap,cur,by show upd g.κ j _ j=_;rw [upd_same,hkl],hb,by rw [hkl];omega,⟨hcap.le,fun h=>by cases h⟩,hcs,?_⟩⟩
    have:=hrow.part 0 k
    simpa using this
   ·exact (hg.res j r h3).keep (fun _ _=>rfl) (fun _ _ h=>h) rfl (old j (by simp [h3])) fun i hi=>old i (hcl.2 j r h3 i hi)
  ·rw [dead j r hj hl];trivial
 ·change blkOf (upd g.κ N (Value.slice (some ⟨b,0,none⟩) k cap) i)=some b' at hbi
  change blkOf (upd g.κ N (Value.slice (some ⟨b,0,none⟩) k cap) j)=some b' at hbj
  rcases cases' i r hi hli with ⟨rfl,rfl⟩ | ⟨h1,h2,h3,h4⟩ <;> rcases cases' j s hj hlj with ⟨e,rfl⟩ | ⟨k1,k2,k3,k4⟩
  ·exact (hij e.symm).elim
  ·exfalso
   rw [(old j (by simp [k3])).1] at hbj
   rw [show upd g.κ i (Value.slice (some ⟨b,0,none⟩) k cap) i=_ from upd_same _ _ _] at hbi
   simp [blkOf] at hbi
   subst hbi
   exact apart j s k3 hlj k2 k4 hbj
  ·subst e
   exfalso
   rw [(old i (by simp [h3])).1] at hbi
   rw [show upd g.κ j (Value.slice (some ⟨b,0,none⟩) k cap) j=_ from upd_same _ _ _] at hbj
   simp [blkOf] at hbj
   subst hbj
   exact apart i r h3 hli h2 h4 hbi
  ·rw [(old i (by simp [h3])).1] at hbi
   rw [(old j (by simp [k3])).1] at hbj
   exact hg.sep i j r s h3 k3 hij hli hlj b' hbi hbj
 ·change blkOf (upd g.κ N (Value.slice (some ⟨b,0,none⟩) k cap) j)=some b' at hb'
  rcases cases' j r hj hl with ⟨rfl,rfl⟩ | ⟨h1,h2,h3,h4⟩
  ·rw [show upd g.κ j (Value.slice (some ⟨b,0,none⟩) k cap) j=_ from upd_same _ _ _] at hb'
   simp [blkOf] at hb'
   subst hb'
   exact hg.fresh id _ hm trivial b hbk
  ·rw [(old j (by simp [h3])).1] at hb'
   exact hg.fresh j r h3 hl b' hb'
 ·change blkOf (upd g.κ N (Value.slice (some ⟨b,0,none⟩) k cap) j)=some b' at hb'
  rcases cases' j r hj hl with ⟨rfl,rfl⟩ | ⟨k1,k2,k3,k4⟩
  ·rw [show upd g.κ j (Value.slice (some ⟨b,0,none⟩) k cap) j=_ from upd_same _ _ _] at hb'
   simp [blkOf] at hb'
   subst hb'
   exact hg.wro id _ hm trivial b hbk hs hf
  ·rw [(old j (by simp [k3])).1] at hb'
   exact hg.wro j r k3 hl b' hb' h1 h2
 ·intro m hm'
  have:st.rd=some m:=hm'
  rw [hrd] at this;cases this
 ·intro h;exact absurd hrd h
theorem spM_cut {F:Fence} {m:Nat} (hF:FW F) (ht:TabOk P E tab) {ct:Nat} {sz by_:Nat} {e:TypeId} (hti:tab ct=some ⟨sz,by_,.sl true e .cpair⟩) {o:Oper} {x h0:Operand} (ho:o.op=.slice ct x none (some h0) none) {d:Tmp} (hdst:o.dst=some d) {id:Nat} {kk:IntKind} {h:Int} {fam:Nat} {xs:List XP}
  (hx:ev st x=.s (.c (.own id))) (hh:ev st h0=.s (.c (.d (.val (.int kk h))))) (hm:st.mem id=some (.sl fam .cpair xs)) (hrd:st.rd=none) (hs:st.sp id=false) (hf:st.fr id=false) (hfree:st.mem (nid st.base d 0)=none) (hb0:0<=h) (hb1:h < xs.length)
  (hA:AM wE ro0 ρ γ a.defers w0 M) (hr:Rel E w0 M n st (bareA a) w) (hd:d < n) {next:Act->World->Prop} {Q:Exit->Act->World->Prop} (hn:∀ a' w',RelY E (AM wE ro0 ρ) n (cutSt st d fam id xs h.toNat) γ a' w'->next a' w'):o.wpIn F m P a w next Q:=by
 obtain ⟨g,hg,henv⟩:=hr.good
 obtain ⟨inf,dd,_,hu,_,_,⟨rfl,_⟩,ie,hie,hsz,_⟩:=ht _ _ hti
 obtain ⟨hln,hres⟩:=hg.res _ _ hm
 rcases hres with ⟨_,h2⟩ | ⟨b,cap,cur,hκ,hb,hle,hcap,hcs,hrow⟩
 ·subst h2;simp at hb1;omega
 have hk:h.toNat<=xs.length:=by omega
 have hg':=hg.cut hr.cl hrd hA.2.1 hm hs hf hfree hκ hb hle hcap hcs hrow hk
 have hev:=ev_R henv x
 rw [hx] at hev
 have hvx:a.eval x=g.κ id:=hev.1
 have hbd:=run_bounds (P:=P) (lo:=none) (hi:=some h0) (l:=none) (h:=some h) hr rfl (by simp [intOp,hh]) true xs.length cap hle (by simp) (by simpa using hb0) (by simp;omega)
 have hrun:(execOp a.eval o).run P w=.ok (.value (.slice (some ⟨b,0,none⟩) h.toNat cap)) w:=by
  rw [eval_bare] at hbd
  simp only [Option.map_none,Option.map_some,Option.getD_none,Option.getD_some,Int.toNat_zero] at hbd
  simp [execOp,ho,Instr.sliceAt,Instr.slice,hvx,hκ,run_underlying hu,hbd,run_sizeOf hie,Addr.add_lit]
 refine wp_value hF (by simp [noDefer,ho]) hrun (hn _ _ ⟨w0,M,by rw [put_defers];exact hA,?_⟩)
 rw [bare_put,hdst]
 have isS:∀ i,(st.mem i).isSome=true->((cutSt st d fam id xs h.toNat).mem i).isSome=true:=fun i hi=>upd_dom (upd_dom (kill_dom hi))
 have hN:((cutSt st d fam id xs h.toNat).mem (nid st.base d 0)).isSome=true:=by simp [cutSt,upd_same]
 refine ⟨⟨?_,?_⟩,by simp [Act.put,hr.size],rfl,_,hg',?_⟩
 ·intro y i hi
  by_cases e:y=d
  ·subst e
   simp only [cutSt,upd_same,S.refs,S0.refs,CV.refs,List.mem_singleton] at hi
   subst hi;exact hN
  ·simp only [cutSt,upd_ne _ _ e] at hi
   exact isS i (hr.cl.1 y i hi)
 ·intro j r hj i hi
  simp only [cutSt] at hj
  by_cases e:j=nid st.base d 0
  ·subst e;rw [upd_same] at hj;injection hj with hj;subst hj;simp [Res.refs] at hi
  ·rw [upd_ne _ _ e] at hj
   by_cases e':j=id
   ·subst e';rw [upd_same] at hj;injection hj with hj;subst hj;simp [Res.refs] at hi
   ·rw [upd_ne _ _ e'] at hj
    rcases kill_cases hj with h3 | h3
    ·exact isS i (hr.cl.2 j r h3 i hi)
    ·subst h3;simp [Res.refs] at hi
 ·intro y
  rw [put_get (by rw [hr.size];intro d' hd';injection hd' with hd';subst hd';exact hd)]
  by_cases e:y=d
  ·subst e
   rw [if_pos rfl]
   show S.R _ (upd st.env y _ y) _
   rw [upd_same]
   exact ⟨(upd_same _ _ _).symm,rfl⟩
  ·rw [if_neg (fun h=>e (by injection h with h;exact h.symm))]
   show S.R _ (upd st.env d _ y) _
   rw [upd_ne _ _ e]
   refine S.R.mono (g:=g) (g':={ g with κ:=upd g.κ (nid st.base d 0) (.slice (some ⟨b,0,none⟩) h.toNat cap),ln:=upd g.ln (nid st.base d 0) h.toNat }) (fun _ _ h=>h) rfl (fun i hi=>?_) (henv y)
   have hi':=hr.cl.1 y i hi
   have en:i ≠ nid st.base d 0:=fun e=>by subst e;rw [hfree] at hi';cases hi'
   exact ⟨upd_ne _ _ en,upd_ne _ _ en⟩
theorem spM_ok {F:Fence} {m:Nat} (hF:FW F) (ht:TabOk P E tab) {mt ct t:Nat} (hmt:mapB P mt=true) {sz by_:Nat} {e:TypeId} (hti:tab ct=some ⟨sz,by_,.sl true e .cpair⟩):SpOk F m P E (AM wE ro0 ρ) n (spM mt ct t):=by
 intro o st γ f hs hd k a w next Q h hf hk
 obtain ⟨w0,M,hA,hr⟩:=h
 unfold spM at hs
 split at hs
 ·rename_i ty ho
  split at hs
  ·rename_i he
   subst he
   injection hs with hs
   subst hs
   obtain ⟨hrd,hkk⟩:=hf
   exact spM_make hF ho hA hr hd hrd fun mb a' w' hr'=>hk _ _ _ _ hr' (hkk mb)
  ·cases hs
 ·rename_i ty mm key mb qs ho
  split at hs
  ·rename_i he
   subst he
   unfold lookK at hs
   split at hs
   ·rename_i va ka kb kn p hm hky hp
    injection hs with hs
    subst hs
    obtain ⟨hK,hk1,hk0⟩:=hf
    obtain ⟨v,hrun,hv⟩:=spM_lookup (P:=P) hmt ho hm hky hp hK hA hr hd
    refine wp_value hF (by simp [noDefer,ho]) hrun ?_
    obtain ⟨g,hg,henv⟩:=hr.good
    have step:∀ i:Int,RelY E (AM wE ro0 ρ) n (St.put st o.dst (sv (.int .i64 i))) (some (mb,qs)) (a.put o.dst (.int .i64 i)) w:=fun i =>
     hA.re hr hg henv hK.1 rfl rfl rfl (Nat.le_refl _) (fun _ _ _=>rfl) (fun _ _=>rfl) (AMm.here hA.2.2.2.2.2.2 hg) hd (R_sv rfl) (by simp [refs_sv])
    rcases hv with ⟨rfl,hq⟩ | rfl
    ·exact hk _ _ _ _ (step 1) (hk1 hq)
    ·exact hk _ _ _ _ (step 0) hk0
   ·cases hs
  ·cases hs
 ·rename_i ty mm key x mb qs ho hdst
  split at hs
  ·rename_i he
   subst he
   unfold updK at hs
   split at hs
   ·rename_i va ka kb kn xv p hm hky hxv hp
    injection hs with hs
    subst hs
    obtain ⟨hK,rfl,hkk⟩:=hf
    exact spM_upd hF hmt ho hdst hm hky hxv hp hK hA hr fun a' w' hr'=>hk _ _ _ _ hr' hkk
   ·cases hs
  ·cases hs
 ·rename_i ty x h0 d ho hdst
  split at hs
  ·rename_i he
   subst he
   unfold cutK at hs
   split at hs
   ·rename_i id kk hv hx hh
    split at hs
    ·rename_i fam xs hm
     injection hs with hs
     subst hs
     obtain ⟨hrd,h1,h2,h3,⟨h4,h5⟩,hkk⟩:=hf
     exact spM_cut hF ht hti ho hdst hx hh hm hrd h1 h2 h3 h4 h5 hA hr (hd _ hdst) fun a' w' hr'=>hk _ _ _ _ hr' hkk
    ·cases hs
   ·cases hs
  ·cases hs
 ·cases hs
end
end Go.SE

namespace Go.SE
open Go.RowKit
mutual
def eraC:XCmd->GCmd
 | .mk k a b t i _ bo _ el=>.mk k a b t i (eraL bo) (eraL el)
def eraL:List XCmd->List GCmd
 | []=>[]
 | c :: l=>eraC c :: eraL l
end
theorem eraL_map (l:List XCmd):eraL l=l.map eraC:=by
 induction l with
 | nil=>rfl
 | cons c l ih=>simp [eraL,ih]
theorem eraL_len (l:List XCmd):(eraL l).length=l.length:=by rw [eraL_map];simp
theorem list_choose {α:Type} (z:α) {p:Nat->α->Prop}:∀ n,(∀ i,i < n->∃ c,p i c)->∃ l:List α,l.length=n/\∀ i,i < n->p i (l.getD i z):=by
 intro n h
 classical
 refine ⟨(List.range n).map fun i=>if hi:i < n then (h i hi).choose else z,by simp,fun i hi=>?_⟩
 have e:((List.range n).map fun i=>if hi:i < n then (h i hi).choose else z).getD i z=(h i hi).choose:=by
  simp [List.getD_eq_getElem?_getD,hi]
 rw [e]
 exact (h i hi).choose_spec
theorem gsize {xs:List GCmd} {i:Nat} (hi:i < xs.length):SizeOf.sizeOf (xs.getD i (Ty.zero .cmd)).body < SizeOf.sizeOf xs/\SizeOf.sizeOf (xs.getD i (Ty.zero .cmd)).els < SizeOf.sizeOf xs:=by
 have e:xs.getD i (Ty.zero .cmd)=xs[i]:=by simp [List.getD_eq_getElem?_getD,hi]
 have h1:SizeOf.sizeOf xs[i] < SizeOf.sizeOf xs:=List.sizeOf_lt_of_mem (List.getElem_mem hi)
 rw [e]
 generalize xs[i]=c at h1
 obtain ⟨k,a,b,t,inv,bo,el⟩:=c
 simp only [GCmd.mk.sizeOf_spec] at h1
 simp only [GCmd.body,GCmd.els]
 omega
end Go.SE
namespace Go.SE
variable [Base]
open Go.RowKit
theorem RowR.of_get {ro:Nat->Option (Array Value)} {t:Ty} {xs:List t.den} {vs:Array Value} {o:Nat} (h:∀ i,i < xs.length->∀ j c,(t.cells (xs.getD i t.zero))[j]?=some c->∃ u,vs[o+(i * t.sz+j)]?=some u/\DR ro c u):RowR ro (flat t xs) vs o:=by
 intro k c hk
 have hlt:k < xs.length * t.sz:=by rw [← flat_len];exact (List.getElem?_eq_some_iff.1 hk).1
 have hs:0 < t.sz:=by cases t <;> decide
 have h1:k / t.sz < xs.length:=(Nat.div_lt_iff_lt_mul hs).2 hlt
 have h2:k % t.sz < t.sz:=Nat.mod_lt _ hs
 have e:k / t.sz * t.sz+k % t.sz=k:=by rw [Nat.mul_comm];exact Nat.div_add_mod k t.sz
 have h3:=flat_get t xs (k / t.sz) (k % t.sz) h1 h2
 rw [e,hk] at h3
 have:=h _ h1 (k % t.sz) c h3.symm
 rwa [e] at this
theorem DR.places {ro:Nat->Option (Array Value)}:∀ (n:Nat) (xs:List GCmd) (v:Value),SizeOf.sizeOf xs<=n->DR ro (.arr .cmd xs) v->∃ ys:List XCmd,DR ro (.arr .xcmd ys) v/\eraL ys=xs:=by
 intro n
 induction n with
 | zero=>intro xs v hn;cases xs <;> simp at hn <;> omega
 | succ n ih =>
  intro xs v hn h
  rcases h.arr_inv with ⟨⟨a,rfl⟩,rfl⟩ | ⟨b,o,cap,vs,rfl,hb,hle,hcap,hrow,hpm⟩
  ·refine ⟨[],?_,rfl⟩
   cases a with
   | none=>exact .nil _
   | some a=>exact .emp _ _
  ·have key:∀ i,i < xs.length->∃ c:XCmd,eraC c=xs.getD i (Ty.zero .cmd)/\∀ j d,(Ty.cells .xcmd c)[j]?=some d->∃ u,vs[o+(i * 10+j)]?=some u/\DR ro d u:=by
    intro i hi
    have e:∀ j,j < 10->(flat .cmd xs)[i * 10+j]?=(Ty.cells .cmd (xs.getD i (Ty.zero .cmd)))[j]?:=fun j hj=>flat_get .cmd xs i j hi hj
    have s1:=gsize hi
    obtain ⟨u8,a8,d8⟩:=hrow _ _ ((e 8 (by omega)).trans rfl)
    obtain ⟨u9,a9,d9⟩:=hrow _ _ ((e 9 (by omega)).trans rfl)
    obtain ⟨bo,q8,e8⟩:=ih _ _ (by omega) d8.unne
    obtain ⟨el,q9,e9⟩:=ih _ _ (by omega) d9.unne
    have g:∀ j,j < 8->∀ d,(Ty.cells .cmd (xs.getD i (Ty.zero .cmd)))[j]?=some d->∃ u,vs[o+(i * 10+j)]?=some u/\DR ro d u:=fun j hj d hd=>hrow _ _ ((e j (by omega)).trans hd)
    generalize xs.getD i (Ty.zero .cmd)=c at e8 e9 g
    obtain ⟨k,a,b',t,inv,bo',el'⟩:=c
    simp only [GCmd.body,GCmd.els] at e8 e9
    refine ⟨.mk k a b' t inv u8 bo u9 el,by simp only [eraC,e8,e9],fun j d hd=>?_⟩
    match j,hd with
    | 0,hd=>exact g 0 (by omega) d hd
    | 1,hd=>exact g 1 (by omega) d hd
    | 2,hd=>exact g 2 (by omega) d hd
    | 3,hd=>exact g 3 (by omega) d hd
    | 4,hd=>exact g 4 (by omega) d hd
    | 5,hd=>exact g 5 (by omega) d hd
    | 6,hd=>exact g 6 (by omega) d hd
    | 7,hd=>exact g 7 (by omega) d hd
    | 8,hd=>cases hd;exact ⟨u8,a8,.fix _ _ _ q8⟩
    | 9,hd=>cases hd;exact ⟨u9,a9,.fix _ _ _ q9⟩
    | j+10,hd=>cases hd
   obtain ⟨ys,hl,hy⟩:=list_choose (Ty.zero .xcmd) _ key
   refine ⟨ys,?_,?_⟩
   ·have:=DR.of_row (t:=.xcmd) (xs:=ys) (cap:=cap) hb (fun _=>hpm rfl) (by omega) hcap (RowR.of_get (t:=.xcmd) fun i hi j c hc=>(hy i (by omega)).2 j c hc)
    rwa [hl] at this
   ·rw [eraL_map]
    refine getD_ext (Ty.zero .cmd) (by simpa using hl) fun i hi=>?_
    have hi':i < ys.length:=by simpa using hi
    have h1:=(hy i (by omega)).1
    rw [← h1]
    simp [List.getD_eq_getElem?_getD,hi']
abbrev noSpM:SpCode MG:=fun _ _ _ _ _ _=>none
section
variable {P:Program} {E:Ty->TypeId} {tab:TypeId->Option TI} {K:FuncId->Option Con} {pts:FuncId->Option PT} {hp:Nat->Bool} {gcs:Nat->Option (List Nat × List Nat)} {perm:Nat->List (List Nat)}
abbrev conM (pre:List GCmd->List GCmd->Prop):Con:=⟨[.sl .cmd,.sl .cmd],[.bool],fun (a,b,_)=>pre a b,.inl fun (a,b,_)=>(decide (a=b),()),fun _=>0⟩
abbrev entM (p:XP):St:=entry [.c (.d (.fix .xcmd p.1.1 p.1.2)),.c (.d (.fix .xcmd p.2.1 p.2.2))] none
def retM (tab:TypeId->Option TI) (rvs:List ResultVar) (r:Bool):XK->St->MG->Prop
 | .exit _,_,_=>False
 | _,st,_=>match loadsS tab st rvs with
  | some [.c (.d (.val (.bool b)))]=>st.rd=none/\b=r
  | _=>False
theorem entry_fix {n:Nat} {w0:World} {ro0:Nat->Option (Array Value)} {ρ:Nat} {l:List S0} {vs:List Value} (hin:ROin w0 ro0) (hargs:ArgsR (argG ro0 ρ) l vs) (hr:∀ s ∈ l,s.refs=[]) (hn:vs.length<=n) :
  Rel E w0 (MOf false ρ ro0) n (entry l none) { tmps:=vs.toArray ++ Array.replicate (n - vs.toArray.size) undef,defers:=[] } w0:=by
 have hgood:Good E w0 (MOf false ρ ro0) (argG ro0 ρ) (entry l none) w0:=by
  refine ⟨Ext.refl _ _,hin.2,(fun id r hr=>by cases hr),(fun i j r s hi=>by cases hi),(fun id r hr=>by cases hr),(fun id r hr=>by cases hr),?_,?_,(fun b vs hb=>.inl hb),⟨rfl,hin.1,fun b hb=>by cases hb.1⟩,(fun id v hv=>by cases hv),⟨fun id v hv=>(by cases hv),fun b vs hv=>(by cases hv)⟩⟩
  ·intro m hm;cases hm
  ·intro h;exact absurd rfl h
 refine ⟨⟨?_,fun j r hj=>by cases hj⟩,by simp;omega,rfl,argG ro0 ρ,hgood,?_⟩
 ·intro j id hid
  exfalso
  have e:(entry l none).env j=envOf l 0 j:=rfl
  rw [e] at hid
  rcases envOf_cases l 0 j with h1 | ⟨i,s,h1,_,h3⟩
  ·rw [h1] at hid;simp [junk,S.refs,S0.refs,CV.refs] at hid
  ·rw [h3] at hid
   simp only [S.refs] at hid
   rw [hr s (List.mem_of_getElem? h1)] at hid
   cases hid
 ·intro j
  have e:(entry l none).env j=envOf l 0 j:=rfl
  rw [e]
  rcases envOf_cases l 0 j with h1 | ⟨i,s,h1,h2,h3⟩
  ·rw [h1];trivial
  ·rw [h3]
   obtain ⟨v,h4,h5⟩:=hargs.2 i s h1
   have hj:j=i:=by omega
   subst hj
   have hlt:j < vs.length:=(List.getElem?_eq_some_iff.1 h4).1
   have:(vs.toArray ++ Array.replicate (n - vs.toArray.size) undef).getD j undef=v:=by
    rw [Array.getD_eq_getD_getElem?,Array.getElem?_append_left (by simpa using hlt)]
    simp [h4]
   show S.R _ _ ((vs.toArray ++ Array.replicate (n - vs.toArray.size) undef).getD j undef)
   rw [this]
   exact h5
theorem fnM_sound (ht:TabOk P E tab) (hKA:KAll P E K) (hPA:PAll P E pts) (hmix:P.follows .mixedOrders=true) (hdr:∀ w0 M n,DrawSound P E tab K w0 M n) {f:FuncId} {fn:Func} {c:Code} {pre:List GCmd->List GCmd->Prop} (hf:P.funcs[f]?=some fn) (hb:fn.body=some c) (hn:2<=fn.ntmps) (hok:codeOkY tab K hp perm true fn.ntmps c=true)
  {mt ct t:Nat} (hmt:mapB P mt=true) {sz by_:Nat} {e:TypeId} (hti:tab ct=some ⟨sz,by_,.sl true e .cpair⟩)
  {anns:XP->Nat->St->MG->Option (AnnY MG)}
  (hvc:∀ p:XP,pre (eraL p.1.1) (eraL p.2.1)->vcY tab K pts (spM mt ct t) noSpM (fun _=>true) hp gcs (anns p) perm c (entM p) none (retM tab fn.results.toList (decide (eraL p.1.1=eraL p.2.1)))):CallOk P E f (conM pre):=by
 intro w0 ro0 ρ k x vs id0 hpre hin hrd hargs
 obtain ⟨xs,ys,_⟩:=x
 have hlen:vs.length=2:=hargs.1
 obtain ⟨va,hva,hra⟩:=hargs.2 0 _ rfl
 obtain ⟨vb,hvb,hrb⟩:=hargs.2 1 _ rfl
 obtain ⟨xs',hx1,hx2⟩:=DR.places _ xs va (Nat.le_refl _) hra
 obtain ⟨ys',hy1,hy2⟩:=DR.places _ ys vb (Nat.le_refl _) hrb
 subst hx2 hy2
 let p:XP:=((xs',va),(ys',vb))
 have hargs':ArgsR (argG ro0 ρ) [.c (.d (.fix .xcmd p.1.1 p.1.2)),.c (.d (.fix .xcmd p.2.1 p.2.2))] vs:=by
  refine ⟨by rw [hlen];rfl,fun j s hj=>?_⟩
  match j,hj with
  | 0,hj=>cases hj;exact ⟨va,hva,DR.fix _ _ _ hx1⟩
  | 1,hj=>cases hj;exact ⟨vb,hvb,DR.fix _ _ _ hy1⟩
  | j+2,hj=>simp at hj
 have hent:Rel E w0 (MOf false ρ ro0) fn.ntmps (entM p) { tmps:=vs.toArray ++ Array.replicate (fn.ntmps - vs.toArray.size) undef,defers:=[] } w0 :=
  entry_fix hin hargs' (by intro s hs;simp at hs;rcases hs with rfl | rfl <;> rfl) (by omega)
 refine callsIn_wide.1 (callsIn_of_wp (n:=0) hf hb trivial ?_)
 refine codeY_sound (A:=AM w0 ro0 ρ) (drg:=fun _=>true) (.inl rfl) ht hKA hPA hmix (spM_ok (.inl rfl) ht hmt hti) (fun _ _ _ _ _ _ _ h=>by cases h) (dr:=true) (fun _=>⟨rfl,fun γ ds w0 M _ hA=>hA.1,fun _ _=>hdr _ _ _⟩) c _ none _ _
  (retM tab fn.results.toList (decide (eraL p.1.1=eraL p.2.1))) _ (.inl fun γ ds w0 M h=>h.oo) hok
  ⟨w0,MOf false ρ ro0,⟨rfl,fun _=>⟨rfl,rfl⟩,Ext.refl _ _,fun b h=>(by cases h.1),fun b vs h=>.inl h,rfl,trivial⟩,hent⟩ (hvc p hpre) ?_
 intro xk st' γ' a' w' hr hk
 obtain ⟨wA,M,hA,hr⟩:=hr
 obtain ⟨g,hg,henv⟩:=hr.good
 have fin:retM tab fn.results.toList (decide (eraL p.1.1=eraL p.2.1)) .ret st' γ'->a'.defers=[]/\∃ v,(results fn a'.tmps).run P w'=.ok v w'/\∃ v1 r g,Ending.returned v=.returned v1/\Con.post (conM pre) (eraL xs',eraL ys',()) r/\Ext (fun b=>hasRdr (conM pre).aks=true/\b=ρ) w0 w'/\g.ρ=ρ/\ResOk E w0 w' ro0 (conM pre).rks id0 r v1 g/\(hasRdr (conM pre).aks=true->RdStep w0 w' ρ (k+(conM pre).cost (eraL xs',eraL ys',()))):=by
  intro hk
  unfold retM at hk
  simp only at hk
  split at hk
  ·rename_i b hss
   obtain ⟨hrd,rfl⟩:=hk
   obtain ⟨vs1,hrun,hargs1,_⟩:=loads_run (P:=P) ht hg henv hr.cl hss
   have hres:=results_run (fn:=fn) hrun
   have hv1:vs1=[.bool (decide (eraL p.1.1=eraL p.2.1))]:=by
    obtain ⟨h1,h2⟩:=hargs1
    obtain ⟨v,h3,h4⟩:=h2 0 _ rfl
    have:=DR.val_eq (show DR g.ro (.val _) v from h4)
    subst this
    match vs1,h1 with
    | [u],_=>simpa using h3
   subst hv1
   have hE:=hA.ext hg
   refine ⟨hA.1,_,hres,_,(decide (eraL xs'=eraL ys'),()),argG ro0 ρ,rfl,rfl,⟨hE.os,hE.tape,hE.output,hE.size,fun b hb _=>hE.block b hb fun h=>h⟩,rfl,⟨fun _ _ h=>h,fun _ _ h=>.inl h,?_,?_,?_,?_⟩,fun h=>by cases h⟩
   ·exact DR.val _ rfl
   ·intro id q h;simp [ress,AK.res] at h
   ·intro id q h;simp [ress,AK.res] at h
   ·intro i q j s h;simp [ress,AK.res] at h
  ·exact hk.elim
 cases xk with
 | normal=>exact fin hk
 | ret=>exact fin hk
 | exit id=>exact hk.elim
end
end Go.SE

namespace Go.SE
open Go.RowKit
def eqP (p:XP):Prop:=eraL p.1.1=eraL p.2.1
def kid (c d:XCmd):List XP:=[((c.body,c.bv),(d.body,d.bv)),((c.els,c.lv),(d.els,d.lv))]
def kidsN (p:XP) (i:Nat):List XP:=(List.range i).flatMap fun j=>kid (p.1.1.getD j (Ty.zero .xcmd)) (p.2.1.getD j (Ty.zero .xcmd))
def sameX (c d:XCmd):Bool:=decide (c.kind=d.kind/\c.a=d.a/\c.b=d.b/\c.test=d.test/\c.inv=d.inv)
mutual
def wXC:XCmd->Nat
 | .mk _ _ _ _ _ _ bo _ el=>2+wX bo+wX el
def wX:List XCmd->Nat
 | []=>0
 | c :: l=>wXC c+wX l
end
def muO:List XP->Nat
 | []=>0
 | r :: l=>1+wX r.1.1+muO l
theorem muO_append (a b:List XP):muO (a ++ b)=muO a+muO b:=by
 induction a with
 | nil=>simp [muO]
 | cons r a ih=>simp [muO,ih];omega
theorem muO_len (l:List XP):l.length<=muO l:=by
 induction l with
 | nil=>simp
 | cons r l ih=>simp [muO];omega
theorem wXC_eq (c:XCmd):wXC c=2+wX c.body+wX c.els:=by cases c;simp [wXC,XCmd.body,XCmd.els]
theorem wX_append (a b:List XCmd):wX (a ++ b)=wX a+wX b:=by
 induction a with
 | nil=>simp [wX]
 | cons r a ih=>simp [wX,ih];omega
theorem muO_kid (c d:XCmd):muO (kid c d)=wXC c:=by rw [wXC_eq];simp [kid,muO];omega
theorem kidsN_succ (p:XP) (i:Nat):kidsN p (i+1)=kidsN p i ++ kid (p.1.1.getD i (Ty.zero .xcmd)) (p.2.1.getD i (Ty.zero .xcmd)):=by
 simp [kidsN,List.range_succ,List.flatMap_append]
theorem muO_kids (p:XP):∀ i,i<=p.1.1.length->muO (kidsN p i)=wX (p.1.1.take i):=by
 intro i
 induction i with
 | zero=>intro _;simp [kidsN,muO,wX]
 | succ i ih =>
  intro h
  rw [kidsN_succ,muO_append,ih (by omega),muO_kid,List.take_add_one,List.getElem?_eq_getElem (by omega)]
  simp only [Option.toList_some,wX_append,wX,Nat.add_zero,List.getD_eq_getElem?_getD,List.getElem?_eq_getElem (show i < p.1.1.length by omega),Option.getD_some]
theorem wX_take (l:List XCmd) (i:Nat):wX (l.take i)<=wX l:=by
 have h:wX (l.take i)+wX (l.drop i)=wX l:=by rw [← wX_append,List.take_append_drop]
 omega
theorem mem_kids {p k:XP} {i:Nat} (h:k ∈ kidsN p i):∃ j,j < i/\k ∈ kid (p.1.1.getD j (Ty.zero .xcmd)) (p.2.1.getD j (Ty.zero .xcmd)):=by
 simp only [kidsN,List.mem_flatMap,List.mem_range] at h
 exact h
theorem kids_mem {p k:XP} {i j:Nat} (hj:j < i) (h:k ∈ kid (p.1.1.getD j (Ty.zero .xcmd)) (p.2.1.getD j (Ty.zero .xcmd))):k ∈ kidsN p i:=by
 simp only [kidsN,List.mem_flatMap,List.mem_range]
 exact ⟨j,hj,h⟩
theorem nd_wX:∀ (n:Nat) (l:List XCmd),SizeOf.sizeOf l<=n->wX l=2 * ndL (eraL l):=by
 intro n
 induction n with
 | zero=>intro l hn;cases l <;> simp at hn <;> omega
 | succ n ih =>
  intro l hn
  cases l with
  | nil=>simp [wX,eraL,ndL_nil]
  | cons c l =>
   obtain ⟨k,a,b,t,i,bv,bo,lv,el⟩:=c
   simp only [List.cons.sizeOf_spec,XCmd.mk.sizeOf_spec] at hn
   simp only [wX,wXC,eraL,eraC,ndL_cons,ndC_eq,GCmd.body,GCmd.els,ih l (by omega),ih bo (by omega),ih el (by omega)]
   omega
theorem wX_nd (l:List XCmd):wX l=2 * ndL (eraL l):=nd_wX _ l (Nat.le_refl _)
def datE (r k:XP):Prop:=r.1.1=k.1.1/\r.2.1=k.2.1
theorem datE.eqP {r k:XP} (h:datE r k):eqP r ↔ eqP k:=by unfold SE.eqP;rw [h.1,h.2]
def Cov (O S:List XP) (k:XP):Prop:=(∃ r ∈ O,datE r k) ∨ (∃ r ∈ S,datE r k) ∨ (k.1.1=[]/\k.2.1=[])
structure LocN (s:XP) (i:Nat):Prop where
 l:s.1.1.length=s.2.1.length
 f:∀ j,j < i->sameX (s.1.1.getD j (Ty.zero .xcmd)) (s.2.1.getD j (Ty.zero .xcmd))=true
structure BdP (r:XP):Prop where
 a:BdL (eraL r.1.1)
 b:BdL (eraL r.2.1)
structure WInv (p:XP) (O S:List XP):Prop where
 root:Cov O S p
 loc:∀ s ∈ S,LocN s s.1.1.length
 kids:∀ s ∈ S,∀ k ∈ kidsN s s.1.1.length,Cov O S k
 eqs:eqP p->∀ r ∈ O,eqP r
 bds:∀ r ∈ O,BdP r
 mu:muO O<=2147483648
structure IInv (p:XP) (O S:List XP) (r:XP) (i:Nat):Prop where
 le:i<=r.1.1.length
 root:Cov (O ++ kidsN r i) (r :: S) p
 loc:∀ s ∈ S,LocN s s.1.1.length
 kids:∀ s ∈ S,∀ k ∈ kidsN s s.1.1.length,Cov (O ++ kidsN r i) (r :: S) k
 lr:LocN r i
 eqs:eqP p->eqP r/\∀ k ∈ O ++ kidsN r i,eqP k
 bd:BdP r
 bds:∀ k ∈ O ++ kidsN r i,BdP k
 mu:muO O+1+wX r.1.1<=2147483648
theorem eraL_get (l:List XCmd) {i:Nat} (h:i < l.length):(eraL l).getD i (Ty.zero .cmd)=eraC (l.getD i (Ty.zero .xcmd)):=by
 rw [eraL_map]
 simp [List.getD_eq_getElem?_getD,h]
theorem eraC_eq (c:XCmd):eraC c=.mk c.kind c.a c.b c.test c.inv (eraL c.body) (eraL c.els):=by cases c;simp [eraC,XCmd.kind,XCmd.a,XCmd.b,XCmd.test,XCmd.inv,XCmd.body,XCmd.els]
theorem eqP_iff (r:XP) (hl:r.1.1.length=r.2.1.length):eqP r ↔ ∀ j,j < r.1.1.length->sameX (r.1.1.getD j (Ty.zero .xcmd)) (r.2.1.getD j (Ty.zero .xcmd))=true/\∀ k ∈ kid (r.1.1.getD j (Ty.zero .xcmd)) (r.2.1.getD j (Ty.zero .xcmd)),eqP k:=by
 constructor
 ·intro h j hj
  have e:eraC (r.1.1.getD j (Ty.zero .xcmd))=eraC (r.2.1.getD j (Ty.zero .xcmd)):=by
   rw [← eraL_get _ hj,← eraL_get _ (by omega)]
   rw [show eraL r.1.1=eraL r.2.1 from h]
  rw [eraC_eq,eraC_eq,GCmd.mk.injEq] at e
  obtain ⟨h1,h2,h3,h4,h5,h6,h7⟩:=e
  refine ⟨by simp only [sameX,decide_eq_true_eq];exact ⟨h1,h2,h3,h4,h5⟩,fun k hk=>?_⟩
  simp only [kid,List.mem_cons,List.mem_nil_iff,or_false] at hk
  rcases hk with rfl | rfl
  ·exact h6
  ·exact h7
 ·intro h
  unfold eqP
  refine getD_ext (Ty.zero .cmd) (by rw [eraL_len,eraL_len,hl]) fun j hj=>?_
  rw [eraL_len] at hj
  obtain ⟨h1,h2⟩:=h j hj
  rw [eraL_get _ hj,eraL_get _ (by omega),eraC_eq,eraC_eq,GCmd.mk.injEq]
  simp only [sameX,decide_eq_true_eq] at h1
  exact ⟨h1.1,h1.2.1,h1.2.2.1,h1.2.2.2.1,h1.2.2.2.2,h2 _ (List.mem_cons_self),h2 _ (List.mem_cons_of_mem _ List.mem_cons_self)⟩
theorem eqP_len {r:XP} (h:eqP r):r.1.1.length=r.2.1.length:=by
 have:=congrArg List.length (show eraL r.1.1=eraL r.2.1 from h)
 rwa [eraL_len,eraL_len] at this
theorem bd_kids {r k:XP} {i:Nat} (h:BdP r) (hl:r.1.1.length=r.2.1.length) (hi:i<=r.1.1.length) (hk:k ∈ kidsN r i):BdP k:=by
 obtain ⟨j,hj,hk⟩:=mem_kids hk
 have h1:=h.a.get (i:=j) (d:=Ty.zero .cmd) (by rw [eraL_len];omega)
 have h2:=h.b.get (i:=j) (d:=Ty.zero .cmd) (by rw [eraL_len];omega)
 rw [eraL_get _ (by omega),eraC_eq] at h1
 rw [eraL_get _ (by omega),eraC_eq] at h2
 simp only [kid,List.mem_cons,List.mem_nil_iff,or_false] at hk
 rcases hk with rfl | rfl
 ·exact ⟨h1.b,h2.b⟩
 ·exact ⟨h1.e,h2.e⟩
theorem Cov.mono {O O' S S':List XP} {k:XP} (h:Cov O S k) (h1:∀ r ∈ O,Cov O' S' r) (h2:∀ r ∈ S,r ∈ S'):Cov O' S' k:=by
 rcases h with ⟨r,hr,e⟩ | ⟨r,hr,e⟩ | h
 ·rcases h1 r hr with ⟨q,hq,e'⟩ | ⟨q,hq,e'⟩ | ⟨a,b⟩
  ·exact .inl ⟨q,hq,e'.1.trans e.1,e'.2.trans e.2⟩
  ·exact .inr (.inl ⟨q,hq,e'.1.trans e.1,e'.2.trans e.2⟩)
  ·exact .inr (.inr ⟨e.1 ▸ a,e.2 ▸ b⟩)
 ·exact .inr (.inl ⟨r,h2 r hr,e⟩)
 ·exact .inr (.inr h)
theorem Cov.self {O S:List XP} {r:XP} (h:r ∈ O):Cov O S r:=.inl ⟨r,h,rfl,rfl⟩
theorem winv_init {p:XP} (h:BdP p) (hw:1+wX p.1.1<=2147483648):WInv p [p] [] :=
 ⟨.self (by simp),(fun _ h=>by cases h),(fun _ h=>by cases h),(fun h r hr=>by simp at hr;rw [hr];exact h),(fun r hr=>by simp at hr;rw [hr];exact h),by simp [muO];omega⟩
theorem winv_fin {p:XP} {S:List XP} (h:WInv p [] S):eqP p:=by
 have key:∀ n (s:XP),s ∈ S->wX s.1.1<=n->eqP s:=by
  intro n
  induction n with
  | zero =>
   intro s hs hn
   have hl:=(h.loc s hs).l
   have:s.1.1=[]:=by
    cases hc:s.1.1 with
    | nil=>rfl
    | cons c l=>rw [hc] at hn;simp only [wX,wXC_eq] at hn;omega
   rw [this] at hl
   have:s.2.1=[]:=List.eq_nil_of_length_eq_zero hl.symm
   unfold eqP
   simp_all
  | succ n ih =>
   intro s hs hn
   rw [eqP_iff s (h.loc s hs).l]
   intro j hj
   refine ⟨(h.loc s hs).f j hj,fun k hk=>?_⟩
   have hw:wX k.1.1 < wX s.1.1:=by
    have h1:wXC (s.1.1.getD j (Ty.zero .xcmd))<=wX s.1.1:=by
     have h2:wX (s.1.1.take (j+1))<=wX s.1.1:=wX_take _ _
     rw [List.take_add_one,List.getElem?_eq_getElem hj,wX_append] at h2
     simp only [Option.toList_some,wX] at h2
     simp only [List.getD_eq_getElem?_getD,List.getElem?_eq_getElem hj,Option.getD_some]
     omega
    rw [wXC_eq] at h1
    simp only [kid,List.mem_cons,List.mem_nil_iff,or_false] at hk
    rcases hk with rfl | rfl
    ·simp only;omega
    ·simp only;omega
   rcases h.kids s hs k (kids_mem hj hk) with ⟨r,hr,_⟩ | ⟨r,hr,e⟩ | ⟨a,b⟩
   ·cases hr
   ·exact e.eqP.1 (ih r hr (by rw [e.1];omega))
   ·unfold eqP;rw [a,b]
 rcases h.root with ⟨r,hr,_⟩ | ⟨r,hr,e⟩ | ⟨a,b⟩
 ·cases hr
 ·exact e.eqP.1 (key _ r hr (Nat.le_refl _))
 ·unfold eqP;rw [a,b]
theorem split_last {O:List XP} (h:0 < O.length):O=O.take (O.length - 1) ++ [lastP O]:=by
 have e:((O.length:Int) - (1:Int)).toNat=O.length - 1:=by omega
 unfold lastP
 rw [e]
 have h1:O.length - 1 < O.length:=by omega
 have:=List.take_append_drop (O.length - 1) O
 rw [List.drop_eq_getElem_cons h1] at this
 have h2:O.drop (O.length - 1+1)=[]:=List.drop_eq_nil_of_le (by omega)
 rw [h2] at this
 rw [List.getD_eq_getElem?_getD,List.getElem?_eq_getElem h1]
 exact this.symm
theorem lastP_mem {O:List XP} (h:0 < O.length):lastP O ∈ O:=by
 have e:((O.length:Int) - (1:Int)).toNat=O.length - 1:=by omega
 unfold lastP
 rw [e,List.getD_eq_getElem?_getD,List.getElem?_eq_getElem (by omega)]
 exact List.getElem_mem _
variable {p:XP} {O S:List XP}
theorem winv_last (h:WInv p O S) (h0:0 < O.length):BdP (lastP O)/\(eqP p->eqP (lastP O)):=by
 have hm:lastP O ∈ O:=lastP_mem h0
 exact ⟨h.bds _ hm,fun e=>h.eqs e _ hm⟩
theorem winv_pop (h:WInv p O S) (h0:0 < O.length) (hc:Cov (O.take (O.length - 1)) S (lastP O)):WInv p (O.take (O.length - 1)) S/\muO (O.take (O.length - 1)) < muO O:=by
 have hs:=split_last h0
 have hO:∀ r ∈ O,Cov (O.take (O.length - 1)) S r:=fun r hr=>by
  rw [hs] at hr
  simp only [List.mem_append,List.mem_singleton] at hr
  rcases hr with hr | rfl
  ·exact .self hr
  ·exact hc
 have hmu:muO O=muO (O.take (O.length - 1))+(1+wX (lastP O).1.1):=by
  have:=congrArg muO hs
  rw [muO_append] at this
  simpa [muO] using this
 refine ⟨⟨h.root.mono hO fun _ h=>h,h.loc,fun s hs k hk=>(h.kids s hs k hk).mono hO fun _ h=>h,fun e r hr=>h.eqs e r (List.mem_of_mem_take hr),fun r hr=>h.bds r (List.mem_of_mem_take hr),?_⟩,by omega⟩
 have:=h.mu
 omega
theorem winv_enter (h:WInv p O S) (h0:0 < O.length) (hl:(lastP O).1.1.length=(lastP O).2.1.length):IInv p (O.take (O.length - 1)) S (lastP O) 0:=by
 have hs:=split_last h0
 have hk0:kidsN (lastP O) 0=[]:=rfl
 have hO:∀ r ∈ O,Cov (O.take (O.length - 1) ++ kidsN (lastP O) 0) (lastP O :: S) r:=fun r hr=>by
  rw [hs] at hr
  simp only [List.mem_append,List.mem_singleton] at hr
  rcases hr with hr | rfl
  ·exact .self (by simp [hr])
  ·exact .inr (.inl ⟨_,List.mem_cons_self,rfl,rfl⟩)
 have hS:∀ r ∈ S,r ∈ lastP O :: S:=fun r hr=>List.mem_cons_of_mem _ hr
 have hmu:muO O=muO (O.take (O.length - 1))+(1+wX (lastP O).1.1):=by
  have:=congrArg muO hs
  rw [muO_append] at this
  simpa [muO] using this
 have hmem:lastP O ∈ O:=lastP_mem h0
 refine ⟨Nat.zero_le _,h.root.mono hO hS,h.loc,fun s hs k hk=>(h.kids s hs k hk).mono hO hS,⟨hl,fun j hj=>by omega⟩,fun e=>⟨h.eqs e _ hmem,fun k hk=>?_⟩,h.bds _ hmem,fun k hk=>?_,?_⟩
 ·rw [hk0,List.append_nil] at hk;exact h.eqs e k (List.mem_of_mem_take hk)
 ·rw [hk0,List.append_nil] at hk;exact h.bds k (List.mem_of_mem_take hk)
 ·have:=h.mu;omega
theorem iinv_ne {r:XP} {i:Nat} (h:IInv p O S r i) (hi:i < r.1.1.length) (hf:sameX (r.1.1.getD i (Ty.zero .xcmd)) (r.2.1.getD i (Ty.zero .xcmd))=false):¬ eqP p:=by
 intro e
 have:=((eqP_iff r h.lr.l).1 (h.eqs e).1 i hi).1
 rw [hf] at this;cases this
theorem iinv_step {r:XP} {i:Nat} (h:IInv p O S r i) (hi:i < r.1.1.length) (hf:sameX (r.1.1.getD i (Ty.zero .xcmd)) (r.2.1.getD i (Ty.zero .xcmd))=true):IInv p O S r (i+1):=by
 have hO:∀ k ∈ O ++ kidsN r i,Cov (O ++ kidsN r (i+1)) (r :: S) k:=fun k hk=>.self (by
  rw [kidsN_succ,← List.append_assoc];exact List.mem_append_left _ hk)
 refine ⟨hi,h.root.mono hO fun _ h=>h,h.loc,fun s hs k hk=>(h.kids s hs k hk).mono hO fun _ h=>h,⟨h.lr.l,fun j hj=>?_⟩,fun e=>⟨(h.eqs e).1,fun k hk=>?_⟩,h.bd,fun k hk=>?_,h.mu⟩
 ·by_cases e:j=i
  ·subst e;exact hf
  ·exact h.lr.f j (by omega)
 ·rcases List.mem_append.1 hk with hk | hk
  ·exact (h.eqs e).2 k (List.mem_append_left _ hk)
  ·obtain ⟨j,hj,hk⟩:=mem_kids hk
   exact ((eqP_iff r h.lr.l).1 (h.eqs e).1 j (by omega)).2 k hk
 ·rcases List.mem_append.1 hk with hk | hk
  ·exact h.bds k (List.mem_append_left _ hk)
  ·exact bd_kids h.bd h.lr.l hi hk
theorem iinv_end {r:XP} (h:IInv p O S r r.1.1.length):WInv p (O ++ kidsN r r.1.1.length) (r :: S)/\muO (O ++ kidsN r r.1.1.length) < muO O+(1+wX r.1.1):=by
 have hmu:muO (O ++ kidsN r r.1.1.length)=muO O+wX r.1.1:=by
  rw [muO_append,muO_kids r _ (Nat.le_refl _),List.take_length]
 refine ⟨⟨h.root,fun s hs=>?_,fun s hs k hk=>?_,fun e k hk=>(h.eqs e).2 k hk,h.bds,?_⟩,by omega⟩
 ·rcases List.mem_cons.1 hs with rfl | hs
  ·exact h.lr
  ·exact h.loc s hs
 ·rcases List.mem_cons.1 hs with rfl | hs
  ·exact .self (List.mem_append_right _ hk)
  ·exact h.kids s hs k hk
 ·have:=h.mu;omega
theorem iinv_len {r:XP} {i:Nat} (h:IInv p O S r i):(O ++ kidsN r i).length<=2147483648:=by
 have h1:=muO_len (O ++ kidsN r i)
 rw [muO_append,muO_kids r i h.le] at h1
 have h2:=wX_take r.1.1 i
 have:=h.mu
 omega
end Go.SE

namespace Go.SE
variable [Base]
open Go.RowKit
theorem fnM_ok {P:Program} {E:Ty->TypeId} {tab:TypeId->Option TI} {hp:Nat->Bool} {gcs:Nat->Option (List Nat × List Nat)} {perm:Nat->List (List Nat)} {l:List (FuncId × Con)} (ht:TabOk P E tab) (hmix:P.follows .mixedOrders=true) (hl:AllOk P E l) {f:FuncId} {fn:Func} {pre:List GCmd->List GCmd->Prop} (hf:P.funcs[f]?=some fn)
  (hb : fn.body = some (bodyOf fn)) (hname : (fn.name == "runtime.NumGoroutine") = false) (hn : 2 <= fn.ntmps) (hok : codeOkY tab (lookF l) hp perm true fn.ntmps (bodyOf fn) = true) {mt ct t : Nat} (hmt : mapB P mt = true) {sz by_ : Nat} {e : TypeId} (hti : tab ct = some ⟨sz, by_, .sl true e .cpair⟩) {anns : XP -> Nat -> St -> MG -> Option (AnnY MG)}
  (hvc:∀ p:XP,pre (eraL p.1.1) (eraL p.2.1)->vcY tab (lookF l) (lookP []) (spM mt ct t) noSpM (fun _=>true) hp gcs (anns p) perm (bodyOf fn) (entM p) none (retM tab fn.results.toList (decide (eraL p.1.1=eraL p.2.1)))):FnOk P E f (conM pre) :=
 ⟨⟨fn,_,hf,hname,hb⟩,fnM_sound ht (kall_of hl) (pall_of (l:=[]) trivial) hmix (fun _ _ _=>draw_sound ht (tab_small ht) (kall_of hl) hmix _ _ _) hf hb hn hok hmt hti hvc,fun x _=>⟨_,rfl⟩⟩
end Go.SE

namespace Go.SE
open Go.RowKit
variable {p r:XP} {O S:List XP} {i:Nat}
theorem pS_len (h:WInv p O S):(O.length:Int) - 1<=9223372036854775807:=by
 have h1:=muO_len O
 have:=h.mu
 omega
theorem pS_ne (h:WInv p O S) (h0:(0:Int) < O.length) (hl:¬ (lastP O).1.1.length=(lastP O).2.1.length):false=decide (eraL p.1.1=eraL p.2.1):=by
 symm
 rw [decide_eq_false_iff_not]
 intro e
 exact hl (eqP_len ((winv_last h (by omega)).2 e))
theorem pS_empty (h:WInv p O S) (h0:(0:Int) < O.length) (hl:(lastP O).1.1.length=(lastP O).2.1.length) (hz:((lastP O).1.1.length:Int)=0):WInv p (O.take (O.length - 1)) S/\muO (O.take (O.length - 1)) < muO O :=
 winv_pop h (by omega) (.inr (.inr ⟨List.eq_nil_of_length_eq_zero (by omega),List.eq_nil_of_length_eq_zero (by omega)⟩))
theorem pS_seen (h:WInv p O S) (h0:(0:Int) < O.length) (hs:inS S (lastP O)):WInv p (O.take (O.length - 1)) S/\muO (O.take (O.length - 1)) < muO O :=
 winv_pop h (by omega) (.inr (.inl hs))
theorem pS_enter (h:WInv p O S) (h0:(0:Int) < O.length) (hl:(lastP O).1.1.length=(lastP O).2.1.length):IInv p (O.take (O.length - 1)) S (lastP O) 0:=winv_enter h (by omega) hl
theorem pS_kids0 (l:List XP):l=l ++ kidsN r 0:=by simp [kidsN]
theorem pS_bd (h:IInv p O S r i) (hi:i < r.1.1.length):((r.1.1.getD i (Ty.zero .xcmd)).inv.facts.length<=281474976710656/\(r.1.1.getD i (Ty.zero .xcmd)).inv.atoms.length<=281474976710656)/\(r.2.1.getD i (Ty.zero .xcmd)).inv.facts.length<=281474976710656/\(r.2.1.getD i (Ty.zero .xcmd)).inv.atoms.length<=281474976710656:=by
 have hl:=h.lr.l
 have h1:=h.bd.a.get (i:=i) (d:=Ty.zero .cmd) (by rw [eraL_len];omega)
 have h2:=h.bd.b.get (i:=i) (d:=Ty.zero .cmd) (by rw [eraL_len];omega)
 rw [eraL_get _ (by omega),eraC_eq] at h1
 rw [eraL_get _ (by omega),eraC_eq] at h2
 exact ⟨⟨h1.f,h1.a⟩,h2.f,h2.a⟩
theorem pS_diff (h:IInv p O S r i) (hi:i < r.1.1.length) (hf:sameX (r.1.1.getD i (Ty.zero .xcmd)) (r.2.1.getD i (Ty.zero .xcmd))=false):false=decide (eraL p.1.1=eraL p.2.1):=by
 symm
 rw [decide_eq_false_iff_not]
 exact iinv_ne h hi hf
theorem pS_room (h:IInv p O S r i):(O ++ kidsN r i).length<=4294967294:=Nat.le_trans (iinv_len h) (by decide)
theorem pS_next (h:IInv p O S r i) (hi:i < r.1.1.length):(i:Int)+1<=9223372036854775807:=by
 have:=h.bd.a.len
 rw [eraL_len] at this
 omega
theorem pS_snoc:O ++ kidsN r i ++ [(((r.1.1.getD i (Ty.zero .xcmd)).body,(r.1.1.getD i (Ty.zero .xcmd)).bv),((r.2.1.getD i (Ty.zero .xcmd)).body,(r.2.1.getD i (Ty.zero .xcmd)).bv)),(((r.1.1.getD i (Ty.zero .xcmd)).els,(r.1.1.getD i (Ty.zero .xcmd)).lv),((r.2.1.getD i (Ty.zero .xcmd)).els,(r.2.1.getD i (Ty.zero .xcmd)).lv))]=O ++ kidsN r (i+1):=by
 rw [kidsN_succ,← List.append_assoc]
 rfl
theorem pS_end (h0:(0:Int) < O.length) (h:IInv p (O.take (O.length - 1)) S (lastP O) i) (hi:¬ i < (lastP O).1.1.length):WInv p (O.take (O.length - 1) ++ kidsN (lastP O) i) (lastP O :: S)/\muO (O.take (O.length - 1) ++ kidsN (lastP O) i) < muO O:=by
 have e:i=(lastP O).1.1.length:=by have:=h.le;omega
 subst e
 obtain ⟨h1,h2⟩:=iinv_end h
 refine ⟨h1,?_⟩
 have hs:=congrArg muO (split_last (O:=O) (by omega))
 rw [muO_append] at hs
 simp only [muO] at hs
 omega
theorem pS_fin (h:WInv p O S) (h0:¬ (0:Int) < O.length):true=decide (eraL p.1.1=eraL p.2.1):=by
 have:O=[]:=List.eq_nil_of_length_eq_zero (by omega)
 subst this
 symm
 rw [decide_eq_true_eq]
 exact winv_fin h
end Go.SE
