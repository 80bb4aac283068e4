/-
  Parts of a symbolic engine over the program's code: how operations, regions, loops and calls are shown to keep contracts. No conditions.
-/
import Derived.RangeFuncIn
import Derived.RangeFuncRecord
import Derived.RangeFuncLeaves
import Derived.Test.YtopjgjelkpkmmaaEd
set_option linter.unusedSimpArgs false
set_option linter.unusedVariables false
set_option linter.unusedSectionVars false

namespace Go.SE
open Go.RowKit
section
variable {P:Program} {E:Ty->TypeId} {n:Nat}
theorem entry_data {w0:World} {ro0:Nat->Option (Array Value)} {ρ:Nat} {l:List S0} {vs:List Value} (hin:ROin w0 ro0) (hargs:ArgsR (argG ro0 ρ) l vs) (hr:∀ s ∈ l,s.refs=[]) (hn:vs.length<=n) :
  Rel E w0 (MOf false ρ ro0) n (entry l none) { tmps:=vs.toArray ++ Array.replicate (n - vs.toArray.size) undef,defers:=[] } w0:=by
 have hgood:Good E w0 (MOf false ρ ro0) (argG ro0 ρ) (entry l none) w0:=by
  refine ⟨Ext.refl _ _,hin,(fun id r hr=>by cases hr),(fun i j r s hi=>by cases hi),(fun id r hr=>by cases hr),(fun id r hr=>by cases hr),?_,?_,(fun b vs hb=>.inl hb),rfl,(fun id v hv=>by cases hv),⟨fun id v hv=>(by cases hv),fun b vs hv=>(by cases hv)⟩⟩
  ·intro m hm;cases hm
  ·intro h;exact absurd rfl h
 refine ⟨⟨?_,fun j r hj=>by cases hj⟩,by simp;omega,rfl,argG ro0 ρ,hgood,?_⟩
 ·intro j id hid
  exfalso
  have e:(entry l none).env j=envOf l 0 j:=rfl
  rw [e] at hid
  rcases envOf_cases l 0 j with h1 | ⟨i,s,h1,_,h3⟩
  ·rw [h1] at hid;simp [junk,S.refs,S0.refs,CV.refs] at hid
  ·rw [h3] at hid
   simp only [S.refs] at hid
   rw [hr s (List.mem_of_getElem? h1)] at hid
   cases hid
 ·intro j
  have e:(entry l none).env j=envOf l 0 j:=rfl
  rw [e]
  rcases envOf_cases l 0 j with h1 | ⟨i,s,h1,h2,h3⟩
  ·rw [h1];trivial
  ·rw [h3]
   obtain ⟨v,h4,h5⟩:=hargs.2 i s h1
   have hj:j=i:=by omega
   subst hj
   have hlt:j < vs.length:=(List.getElem?_eq_some_iff.1 h4).1
   have:(vs.toArray ++ Array.replicate (n - vs.toArray.size) undef).getD j undef=v:=by
    rw [Array.getD_eq_getD_getElem?,Array.getElem?_append_left (by simpa using hlt)]
    simp [h4]
   show S.R _ _ ((vs.toArray ++ Array.replicate (n - vs.toArray.size) undef).getD j undef)
   rw [this]
   exact h5
def retE (tab:TypeId->Option TI) (rvs:List ResultVar) (go:List Int->Bool) (cs:CG) (γ0:CG):XK->St->CG->Prop
 | .exit _,_,_=>False
 | _,st,γ=>match loadsS tab st rvs with
  | some [.c (.d (.val (.bool b)))]=>st.rd=none/\b=cs.all go/\γ=γ0 ++ upTo go cs
  | _=>False
variable {tab:TypeId->Option TI} {K:FuncId->Option Con} {pts:FuncId->Option PT} {hp:Nat->Bool} {gcs:Nat->Option (List Nat × List Nat)} {perm:Nat->List (List Nat)}
 {J:JJ CG} {fid l:Nat} {go:List Int->Bool} {T:CG} {a0:GAsn} {tm t t':Int} {en en':List Int->CG}
abbrev noSpc:SpCode CG:=fun _ _ _ _ _ _=>none
theorem ext_sound (ht : TabOk P E tab) (hKA : KAll P E K) (hPA : PAll P E pts) (hmix : P.follows .mixedOrders = true) {fn : Func} {c0 : Code} (hf : P.funcs[fid]? = some fn) (hb : fn.body = some c0) (hname : (fn.name == "runtime.NumGoroutine") = false) (hn : 5 <= fn.ntmps)
  (hok:codeOkY tab K hp perm false fn.ntmps c0=true) (hx:ExtOk P J fid l go T a0 tm t' en) (hy:YOk P J l go T) {anns:List Int->CG->Nat->St->CG->Option (AnnY CG)}
  (hvc:∀ c γ,c.length=9->γ.all go=true->(γ ++ en' c) <+: T->vcY tab K pts (spE fid l go T a0 tm t' en) noSpc (fun _=>false) hp gcs (anns c γ) perm c0 (entry (extArgs c t a0 tm l) none) γ (retE tab fn.results.toList go (en' c) γ)) :
  ExtOk P J fid l go T a0 tm t en':=by
 intro c w γ D ro0 ρ vs hc hin hroD hargs hJ hgo hT
 have hlen:vs.length=5:=by have:=hargs.1;simpa using this
 refine callsIn_wide.1 (callsIn_of_wp (n:=0) hf hb trivial ?_)
 have hrel:=entry_data (E:=E) (n:=fn.ntmps) hin hargs (by intro s hs;simp at hs;rcases hs with rfl | rfl | rfl | rfl | rfl <;> rfl) (by omega)
 refine codeY_sound (A:=AnE J w (fun _=>False) D) (.inl rfl) ht hKA hPA hmix (spE_ok ⟨fn,c0,hf,hname,hb⟩ hx hy) (fun _ _ _ _ _ _ _ h=>by cases h) (dr:=false) (fun h=>by cases h) c0 _ γ _ _
  (retE tab fn.results.toList go (en' c) γ) _ (.inl fun γ ds w0 M h=>h.oo) hok ⟨w,MOf false ρ ro0,⟨rfl,fun _=>⟨rfl,rfl⟩,D,hJ,fun b hb h=>(by cases h.1),fun b hb=>?_,fun b h=>(by cases h.1),FrX.refl _ _ _⟩,hrel⟩ (hvc c γ hc hgo hT) ?_
 ·show ro0 b=none
  cases h:ro0 b with
  | none=>rfl
  | some u=>exact (hroD b u h hb).elim
 ·intro xk st' γ' a' w' hr hk
  have fin:retE tab fn.results.toList go (en' c) γ .ret st' γ'->a'.defers=[]/\∃ v,(results fn a'.tmps).run P w'=.ok v w'/\(Ending.returned v=.returned (.bool ((en' c).all go))/\∃ D',J.J (γ ++ upTo go (en' c)) D' w'/\Fr D D' w w'):=by
   intro hk
   unfold retE at hk
   simp only at hk
   split at hk
   ·rename_i b hss
    obtain ⟨hrd,rfl,rfl⟩:=hk
    obtain ⟨D',g',hJ',hfr,_⟩:=eff hr hrd
    obtain ⟨w0,M,hA,hr'⟩:=hr
    obtain ⟨g1,hg1,henv1⟩:=hr'.good
    obtain ⟨vs1,hrun,hargs1,_⟩:=loads_run (P:=P) ht hg1 henv1 hr'.cl hss
    have hres:=results_run (fn:=fn) hrun
    have hv1:vs1=[.bool ((en' c).all go)]:=by
     obtain ⟨h1,h2⟩:=hargs1
     obtain ⟨v,h3,h4⟩:=h2 0 _ rfl
     have:=dr_val h4
     subst this
     match vs1,h1 with
     | [u],_=>simpa using h3
    subst hv1
    exact ⟨hA.1,_,hres,rfl,D',hJ',hfr.fr fun _ h=>h⟩
   ·exact hk.elim
  cases xk with
  | normal=>exact fin hk
  | ret=>exact fin hk
  | exit id=>exact hk.elim
end
end Go.SE

namespace Go.SE
open Go.RowKit
section
variable {E:Ty->TypeId} {n:Nat}
def liveB (g:G) (st:St) (b:Nat):Prop:=∃ id r,st.mem id=some r/\r.live/\blkOf (g.κ id)=some b
structure MFit (g:G) (st:St) (M:MM):Prop where
 can:∀ b,liveB g st b->M.can b
 ro:M.ro=g.ro
 rho:M.rho=g.ρ
 pin:∀ id v,M.pin id=some v->(st.mem id).isSome=true/\g.κ id=v
 pinl:∀ id k,M.pinl id=some k->(st.mem id).isSome=true/\g.ln id=k
 rok:∀ b vs,M.rok b=some vs->g.ro b=some vs
theorem Good.re {w0 w w':World} {M M':MM} {g:G} {st:St} (hg:Good E w0 M g st w) (hrd:st.rd=none) (hM:MFit g st M')
  (h1:∀ b,liveB g st b->w'.heap[b]?=w.heap[b]?) (h2:∀ b vs,g.ro b=some vs->w'.heap[b]?=w.heap[b]?):Good E w' M' g st w':=by
 refine ⟨Ext.refl _ _,?_,?_,hg.sep,?_,hg.wro,?_,?_,fun b vs hb=>.inl (by rw [hM.ro];exact hb),hM.rho.symm,hM.pin,hM.pinl,hM.rok⟩
 ·intro b vs hb
  obtain ⟨ty,fz,h3⟩:=hg.ro b vs hb
  exact ⟨ty,fz,by rw [h2 b vs hb];exact h3⟩
 ·intro id r hr
  by_cases hl:r.live
  ·exact (hg.res id r hr).keep (fun b hb=>h1 b ⟨id,r,hr,hl,hb⟩) (fun _ _ h=>h) rfl ⟨rfl,rfl⟩ fun _ _=>⟨rfl,rfl⟩
  ·cases r <;> first | exact (hl trivial).elim | trivial
 ·intro id r hr hl b hb
  exact .inr (hM.can b ⟨id,r,hr,hl,hb⟩)
 ·intro k hk;rw [hrd] at hk;cases hk
 ·intro hk;exact absurd hrd hk
theorem reM_fit (g:G) (st:St):MFit g st (reM g st) :=
 ⟨fun _ h=>h,rfl,rfl,fun _ _ h=>(by cases h),fun _ _ h=>(by cases h),fun _ _ h=>(by cases h)⟩
def pinM (g:G) (st:St):MM :=
 { can:=liveB g st,ro:=g.ro,rho:=g.ρ,pin:=fun id=>if (st.mem id).isSome then some (g.κ id) else none,pinl:=fun id=>if (st.mem id).isSome then some (g.ln id) else none,rok:=g.ro }
theorem pinM_fit (g:G) (st:St):MFit g st (pinM g st):=by
 refine ⟨fun _ h=>h,rfl,rfl,fun id v h=>?_,fun id v h=>?_,fun _ _ h=>h⟩
 ·simp only [pinM] at h
  split at h
  ·rename_i hs;injection h with h;exact ⟨hs,h⟩
  ·cases h
 ·simp only [pinM] at h
  split at h
  ·rename_i hs;injection h with h;exact ⟨hs,h⟩
  ·cases h
def keepM' (g0:G) (st0:St) (g:G) (st:St):MM:={ pinM g0 st0 with can:=liveB g st,ro:=g.ro,rho:=g.ρ }
theorem keepM_fit {w0 w:World} {M:MM} {g0 g:G} {st0 st:St} (hg:Good E w0 M g st w) (hp:M.pin=(pinM g0 st0).pin) (hl:M.pinl=(pinM g0 st0).pinl) (hr:M.rok=g0.ro):MFit g st (keepM' g0 st0 g st) :=
 ⟨fun _ h=>h,rfl,rfl,fun id v h=>hg.pin id v (by rw [hp];exact h),fun id k h=>hg.keep.1 id k (by rw [hl];exact h),fun b vs h=>hg.keep.2 b vs (by rw [hr];exact h)⟩
theorem Good.unpin {w0 w:World} {M:MM} {g:G} {st:St} (hg:Good E w0 M g st w):Good E w0 { can:=M.can,ro:=M.ro,rho:=M.rho } g st w :=
 ⟨hg.ext,hg.ro,hg.res,hg.sep,hg.fresh,hg.wro,hg.rd,hg.rds,hg.roo,hg.rho,fun _ _ h=>(by cases h),fun _ _ h=>(by cases h),fun _ _ h=>(by cases h)⟩
structure Here (E:Ty->TypeId) (n:Nat) (tmps:Array Value) (g:G) (st:St) (w:World):Prop where
 cl:Cl st
 size:tmps.size=n
 rd:st.rd=none
 good:Good E w (reM g st) g st w
 env:∀ x,(st.env x).R g (tmps.getD x undef)
theorem Here.next {tmps:Array Value} {g:G} {st:St} {w w':World} (h:Here E n tmps g st w) (h1:∀ b,liveB g st b->w'.heap[b]?=w.heap[b]?) (h2:∀ b vs,g.ro b=some vs->w'.heap[b]?=w.heap[b]?):Here E n tmps g st w' :=
 ⟨h.cl,h.size,h.rd,h.good.re h.rd (reM_fit g st) h1 h2,h.env⟩
theorem liveB_cells {w0 w:World} {M:MM} {g:G} {st:St} (hg:Good E w0 M g st w) {b:Nat} (hb:liveB g st b):∃ vs ty,w.heap[b]?=some (.cells vs ty (0,0)):=by
 obtain ⟨id,r,hm,hl,hb⟩:=hb
 have:=hg.res id r hm
 cases r with
 | blk cs=>obtain ⟨b',vs,ty,h1,h2,h3⟩:=this;simp [h1,blkOf] at hb;subst hb;exact ⟨_,_,h2⟩
 | vec t xs=>obtain ⟨h0,b',vs,ty,h1,h2,h3,h4⟩:=this;simp [h1,blkOf] at hb;subst hb;exact ⟨_,_,h2⟩
 | sl f t xs =>
  obtain ⟨h0,h⟩:=this
  rcases h with ⟨h1,h2⟩ | ⟨b',cap,cur,h1,h2,h3,h4,h5,h6⟩
  ·simp [h1,blkOf] at hb
  ·simp [h1,blkOf] at hb;subst hb;exact ⟨_,_,h2⟩
 | dead=>exact hl.elim
theorem ro_cells {w0 w:World} {M:MM} {g:G} {st:St} (hg:Good E w0 M g st w) {b:Nat} {vs:Array Value} (hb:g.ro b=some vs):∃ ty fz,w.heap[b]?=some (.cells vs ty fz):=hg.ro b vs hb
/-- what the owner speaks of -/
def fpOf (l dB:Nat) (g:G) (st:St):Fp:=⟨fun b=>liveB g st b ∨ b=l ∨ b=dB,fun b=>∃ vs,g.ro b=some vs⟩
structure Own' where
 l:Nat
 dB:Nat
 mkr:LoopState->Option Code->Loop
 tmps:Array Value
 ρ:Nat
def JC (E:Ty->TypeId) (n:Nat) (o:Own') (go:List Int->Bool) (H:Nat->St) (Qr:Nat->St->Prop) (γ:CG) (p:Fp) (w:World):Prop :=
 w.heap[o.dB]?=some (.deferred (some [])) /\
 ((γ.all go=true/\w.heap[o.l]?=some (.loop (o.mkr .ready none))/\∃ g,Here E n o.tmps g (H γ.length) w/\g.ρ=o.ρ/\p=fpOf o.l o.dB g (H γ.length)) ∨
  (γ.all go=false/\w.heap[o.l]?=some (.loop (o.mkr .done (some .ret)))/\∃ g st,Qr γ.length st/\Here E n o.tmps g st w/\g.ρ=o.ρ/\p=fpOf o.l o.dB g st))
theorem fp_lt {l dB:Nat} {g:G} {st:St} {tmps:Array Value} {w:World} {ol od:Obj} (h:Here E n tmps g st w) (h1:w.heap[l]?=some ol) (h2:w.heap[dB]?=some od) {b:Nat} (hb:(fpOf l dB g st).d b ∨ (fpOf l dB g st).r b):b < w.heap.size:=by
 rcases hb with (hb | rfl | rfl) | ⟨vs,hb⟩
 ·obtain ⟨vs,ty,h3⟩:=liveB_cells h.good hb;exact lt_of_some h3
 ·exact lt_of_some h1
 ·exact lt_of_some h2
 ·obtain ⟨_,_,h3⟩:=h.good.ro b vs hb;exact lt_of_some h3
def jc (E:Ty->TypeId) (n:Nat) (o:Own') (go:List Int->Bool) (H:Nat->St) (Qr:Nat->St->Prop):JJ CG where
 J:=JC E n o go H Qr
 lt:=by
  rintro γ p w b ⟨h1,⟨h2,h3,g,h4,h6,rfl⟩ | ⟨h2,h3,g,st,h4,h5,h6,rfl⟩⟩ hb
  ·exact fp_lt h4 h3 h1 hb
  ·exact fp_lt h5 h3 h1 hb
 frame:=by
  rintro γ p w w' ⟨h1,⟨h2,h3,g,h4,h6,rfl⟩ | ⟨h2,h3,g,st,h4,h5,h6,rfl⟩⟩ _ _ _ _ hb
  ·exact ⟨(hb _ (.inl (.inr (.inr rfl)))).trans h1,.inl ⟨h2,(hb _ (.inl (.inr (.inl rfl)))).trans h3,g,h4.next (fun b hl=>hb b (.inl (.inl hl))) fun b vs hr=>hb b (.inr ⟨vs,hr⟩),h6,rfl⟩⟩
  ·exact ⟨(hb _ (.inl (.inr (.inr rfl)))).trans h1,.inr ⟨h2,(hb _ (.inl (.inr (.inl rfl)))).trans h3,g,st,h4,h5.next (fun b hl=>hb b (.inl (.inl hl))) fun b vs hr=>hb b (.inr ⟨vs,hr⟩),h6,rfl⟩⟩
end
end Go.SE

namespace Go.SE
open Go.RowKit
theorem vec_R {g:G} (c:List Int):S0.R g (.vec .int c) (encK c):=by
 refine ⟨_,rfl,by simp [Ty.sz],fun k x hk=>?_⟩
 rw [flat_int] at hk
 obtain ⟨hlt,he⟩:=List.getElem?_eq_some_iff.1 hk
 have hlt':k < c.length:=by simpa using hlt
 refine ⟨.int .i64 c[k],by simp [hlt'],?_⟩
 rw [List.getElem_map] at he
 subst he
 exact .val _ rfl
section
variable {E:Ty->TypeId} {n:Nat}
structure Close (E:Ty->TypeId) (n:Nat) (tmps:Array Value) (w2:World) (M2:MM) (g:G) (st:St) (w:World):Prop where
 cl:Cl st
 rd:st.rd=none
 good:Good E w2 { can:=M2.can,ro:=M2.ro,rho:=M2.rho } g st w
 env:∀ x,(st.env x).R g (tmps.getD x undef)
theorem Close.here {tmps:Array Value} {w2 w w4:World} {M2:MM} {g:G} {st:St} (h:Close E n tmps w2 M2 g st w) (hs:tmps.size=n) (h1:∀ b,liveB g st b->w4.heap[b]?=w.heap[b]?) (h2:∀ b vs,g.ro b=some vs->w4.heap[b]?=w.heap[b]?):Here E n tmps g st w4 :=
 ⟨h.cl,hs,h.rd,h.good.re h.rd (reM_fit g st) h1 h2,h.env⟩
variable {P:Program} {tab:TypeId->Option TI} {K:FuncId->Option Con} {pts:FuncId->Option PT} {hp:Nat->Bool} {gcs:Nat->Option (List Nat × List Nat)} {anns:Nat->St->Unit->Option (AnnY Unit)} {perm:Nat->List (List Nat)}
abbrev noSp:SpOp Unit:=fun _ _ _=>none
abbrev noSpU:SpCode Unit:=fun _ _ _ _ _ _=>none
def bodyQ (go:List Int->Bool) (H:Nat->St) (ft:Nat->St->Prop) (Qr:Nat->St->Prop) (i:Nat) (c:List Int):XK->St->Unit->Prop
 | .normal,st,_=>go c=true/\st.rd=none/\ft (i+1) { st with env:=(H i).env }
 | .ret,st,_=>go c=false/\st.rd=none/\Qr (i+1) { st with env:=(H i).env }
 | .exit _,_,_=>False
theorem yok (ht:TabOk P E tab) (hKA:KAll P E K) (hPA:PAll P E pts) (hmix:P.follows .mixedOrders=true) {o:Own'} {fnid:FuncId} {p:Nat} {assign body:Code} (hmk:∀ s pe,o.mkr s pe={ state:=s,pending:=pe,fn:=fnid,tmps:=o.tmps,params:=#[p],assign,body,defers:=o.dB }) (hp':p < n) (hne:o.l ≠ o.dB)
  {go:List Int->Bool} {T:CG} {H:Nat->St} {ft Qr:Nat->St->Prop} (hft:∀ i st',ft i st'->∀ w0 M a w,OOk (fun _=>none) M->Rel E w0 M n st' a w->Rel E w0 M n (H i) a w) (hrd:∀ i,(H i).rd=none)
  (hoka:codeOkY tab K hp perm false n assign=true) (hoa:noOO gcs assign=true) (hokb:codeOkY tab K hp perm false n body=true) (hob:noOO gcs body=true)
  (hv:∀ i c,T[i]?=some c->(T.take i).all go=true->vcY tab K pts noSp noSpU (fun _=>false) hp gcs anns perm assign (St.put (H i) (some p) (.s (.vec .int c))) ()
   (seqY (fun st1 _=>st1.rd=none/\vcY tab K pts noSp noSpU (fun _=>false) hp gcs anns perm body st1 () (bodyQ go H ft Qr i c)) fun _ _ _=>False)) :
  YOk P (jc E n o go H Qr) o.l go T:=by
 intro m γ fp w c hJ hgo hT
 obtain ⟨hdB,⟨_,hl,g,hh,hgρ,rfl⟩ | ⟨hf,_⟩⟩:=hJ
 case inr=>rw [hgo] at hf;cases hf
 have hi:T[γ.length]?=some c/\T.take γ.length=γ:=by
  obtain ⟨r,hr⟩:=hT
  rw [← hr]
  constructor
  ·simp
  ·simp
 have hcells:∀ {w0 w:World} {M:MM} {g:G} {st:St} {b:Nat} {r:Loop},Good E w0 M g st w->w.heap[b]?=some (.loop r)->¬ liveB g st b/\∀ vs,g.ro b ≠ some vs:=fun hg hb=>by
  refine ⟨fun h=>?_,fun vs h=>?_⟩
  ·obtain ⟨_,_,h3⟩:=liveB_cells hg h;rw [hb] at h3;cases h3
  ·obtain ⟨_,_,h3⟩:=ro_cells hg h;rw [hb] at h3;cases h3
 have hcellsD:∀ {w0 w:World} {M:MM} {g:G} {st:St} {b:Nat} {r},Good E w0 M g st w->w.heap[b]?=some (.deferred r)->¬ liveB g st b:=fun hg hb h=>by
  obtain ⟨_,_,h3⟩:=liveB_cells hg h;rw [hb] at h3;cases h3
 -- the round
 have hrun:=run_yield (P:=P) (args:=#[encK c]) hl (by rw [hmk];rfl)
 rw [hmk] at hrun
 refine ⟨_,_,_,_,hrun,roundIn_of_wpIn (F:=Fence.wide) trivial ?_⟩
 -- the assignment
 have hr0:Rel E w (pinM g (H γ.length)) n (St.put (H γ.length) (some p) (.s (.vec .int c))) { tmps:=(#[p].zip #[encK c]).foldl (fun t (q,v)=>t.setIfInBounds q v) o.tmps,defers:=[] } w:=by
  have hz:(#[p].zip #[encK c]).foldl (fun t (q,v)=>t.setIfInBounds q v) o.tmps=o.tmps.setIfInBounds p (encK c):=by simp
  refine ⟨⟨fun x id hid=>?_,hh.cl.2⟩,?_,rfl,g,(hh.good.re hh.rd (pinM_fit g _) (fun _ _=>rfl) fun _ _ _=>rfl).env rfl rfl rfl rfl,fun x=>?_⟩
  ·by_cases e:x=p
   ·subst e;simp [St.put,upd_same,S.refs,S0.refs] at hid
   ·simp only [St.put,upd_ne _ _ e] at hid;exact hh.cl.1 x id hid
  ·rw [hz];simpa using hh.size
  ·rw [hz]
   by_cases e:x=p
   ·subst e
    have:(o.tmps.setIfInBounds x (encK c)).getD x undef=encK c:=by simp [Array.getD,hh.size,hp']
    simp only [St.put,upd_same]
    show S0.R g (.vec .int c) ((o.tmps.setIfInBounds x (encK c)).getD x undef)
    rw [this]
    exact vec_R c
   ·have:(o.tmps.setIfInBounds p (encK c)).getD x undef=o.tmps.getD x undef:=by
     rw [Array.getD_eq_getD_getElem?,Array.getD_eq_getD_getElem?,Array.getElem?_setIfInBounds_ne (fun h=>e h.symm)]
    simp only [St.put,upd_ne _ _ e]
    show S.R g ((H γ.length).env x) ((o.tmps.setIfInBounds p (encK c)).getD x undef)
    rw [this]
    exact hh.env x
 have hFr:FW (Fence.wide.inRound o.l):=.inr ⟨o.l,rfl⟩
 refine codeY_sound (A:=fun (_:Unit) ds w0 M=>ds=[]/\w0=w/\M=pinM g (H γ.length)) (sp:=noSp) (spc:=noSpU) hFr ht hKA hPA hmix (fun _ _ _ _ h=>by cases h) (fun _ _ _ _ _ _ _ h=>by cases h) (dr:=false) (fun h=>by cases h) assign _ () _ _ _ _
  (.inr hoa) hoka ⟨w,_,⟨rfl,rfl,rfl⟩,hr0⟩ (hv γ.length c hi.1 (by rw [hi.2];exact hgo)) ?_
 intro xk st1 _ a1 w1 hr1 hq1
 cases xk with
 | exit id=>exact hq1.elim
 | ret=>exact hq1.elim
 | normal =>
 obtain ⟨hrd1,hvb⟩:=hq1
 obtain ⟨w0',M',⟨hds1,e1,e2⟩,hr1⟩:=hr1
 rw [e1,e2] at hr1
 clear e1 e2 w0' M'
 obtain ⟨g1,hg1,henv1⟩:=hr1.good
 have hlw:o.l < w.heap.size:=lt_of_some hl
 have hdw:o.dB < w.heap.size:=lt_of_some hdB
 have hl1:w1.heap[o.l]?=some (.loop (o.mkr .ready none)):=(hg1.ext.block _ hlw (hcells hh.good hl).1).trans hl
 have hd1:w1.heap[o.dB]?=some (.deferred (some [])):=(hg1.ext.block _ hdw (hcellsD hh.good hdB)).trans hdB
 refine ⟨_,run_beginRound hl1 (by rw [hmk]),?_⟩
 have hbusy:({ o.mkr .ready none with state:=.busy }:Loop)=o.mkr .busy none:=by rw [hmk,hmk]
 rw [hbusy]
 obtain ⟨w2,hw2⟩:∃ w2,w2=w1.putObj o.l (.loop (o.mkr .busy none)):=⟨_,rfl⟩
 rw [← hw2]
 have hlt1:o.l < w1.heap.size:=lt_of_some hl1
 have hl2:w2.heap[o.l]?=some (.loop (o.mkr .busy none)):=by rw [hw2];exact World.putObj_heap_same hlt1
 have ho2:∀ b,b ≠ o.l->w2.heap[b]?=w1.heap[b]?:=fun b hb=>by rw [hw2];exact World.putObj_heap_other hb
 have hd2:w2.heap[o.dB]?=some (.deferred (some [])):=(ho2 _ (Ne.symm hne)).trans hd1
 have hs2:w2.heap.size=w1.heap.size:=by rw [hw2];simp
 have hlive1:∀ b,liveB g1 st1 b->b ≠ o.l:=fun b hb e=>by subst e;exact (hcells hg1 hl1).1 hb
 have hro1:∀ b vs,g1.ro b=some vs->b ≠ o.l:=fun b vs hb e=>by subst e;exact (hcells hg1 hl1).2 vs hb
 obtain ⟨M2,hM2⟩:∃ M2,M2=keepM' g (H γ.length) g1 st1:=⟨_,rfl⟩
 have hfit:MFit g1 st1 M2:=by rw [hM2];exact keepM_fit hg1 rfl rfl rfl
 have hg2:Good E w2 M2 g1 st1 w2:=hg1.re hrd1 hfit (fun b hb=>ho2 b (hlive1 b hb)) fun b vs hb=>ho2 b (hro1 b vs hb)
 have hr2:Rel E w2 M2 n st1 (bareA a1) w2:=⟨hr1.cl,hr1.size,hr1.defers,g1,hg2,henv1⟩
 -- the body
 refine codeY_sound (A:=fun (_:Unit) ds w0 M=>ds=[]/\w0=w2/\M=M2) (sp:=noSp) (spc:=noSpU) hFr ht hKA hPA hmix (fun _ _ _ _ h=>by cases h) (fun _ _ _ _ _ _ _ h=>by cases h) (dr:=false) (fun h=>by cases h) body _ () _ _ _ _
  (.inr hob) hokb ⟨w2,M2,⟨hds1,rfl,rfl⟩,hr2⟩ hvb ?_
 intro xk st3 _ a3 w3 hr3 hq3
 obtain ⟨w0',M',⟨hds3,e1,e2⟩,hr3⟩:=hr3
 rw [e1,e2] at hr3
 clear e1 e2 w0' M'
 obtain ⟨g3,hg3,henv3⟩:=hr3.good
 have hcan2:∀ b,M2.can b ↔ liveB g1 st1 b:=fun b=>by rw [hM2];exact Iff.rfl
 have hlw2:o.l < w2.heap.size:=lt_of_some hl2
 have hl3:w3.heap[o.l]?=some (.loop (o.mkr .busy none)):=(hg3.ext.block _ hlw2 fun h=>(hlive1 _ ((hcan2 _).1 h)) rfl).trans hl2
 have hd3:w3.heap[o.dB]?=some (.deferred (some [])):=(hg3.ext.block _ (lt_of_some hd2) fun h=>hcellsD hg1 hd1 ((hcan2 _).1 h)).trans hd2
 -- the outer activation's slots,in the body's last state
 have hpins:∀ id,((H γ.length).mem id).isSome=true->(st3.mem id).isSome=true/\g3.κ id=g.κ id/\g3.ln id=g.ln id:=fun id hid=>by
  have h1:=hg3.pin id (g.κ id) (by rw [hM2];show (if _ then _ else _)=_;rw [if_pos hid])
  have h2:=hg3.keep.1 id (g.ln id) (by rw [hM2];show (if _ then _ else _)=_;rw [if_pos hid])
  exact ⟨h1.1,h1.2,h2.2⟩
 have hro3:∀ b vs,g.ro b=some vs->g3.ro b=some vs:=fun b vs hb=>hg3.keep.2 b vs (by rw [hM2];exact hb)
 have hρ3:g3.ρ=g.ρ:=by
  have h1:g3.ρ=g1.ρ:=hg3.rho.trans (by rw [hM2];rfl)
  exact h1.trans hg1.rho
 have hclose:st3.rd=none->Close E n o.tmps w2 M2 g3 { st3 with env:=(H γ.length).env } w3:=fun h=>by
  refine ⟨⟨fun x id hid=>(hpins id (hh.cl.1 x id hid)).1,hr3.cl.2⟩,h,(hg3.unpin).env rfl rfl rfl rfl,fun x=>?_⟩
  exact (hh.env x).mono hro3 hρ3 fun id hid=>(hpins id (hh.cl.1 x id hid)).2
 -- what is spoken of behind the round
 have hfr:∀ {g4:G} {st4:St} {w4:World} {lo:Loop},Close E n o.tmps w2 M2 g4 st4 w3->w4=w3.putObj o.l (.loop lo)->Here E n o.tmps g4 st4 w4/\w4.heap[o.l]?=some (.loop lo)/\w4.heap[o.dB]?=some (.deferred (some []))/\Fr (fpOf o.l o.dB g (H γ.length)) (fpOf o.l o.dB g4 st4) w w4:=by
  intro g4 st4 w4 lo hc hw4
  have ho4:∀ b,b ≠ o.l->w4.heap[b]?=w3.heap[b]?:=fun b hb=>by rw [hw4];exact World.putObj_heap_other hb
  have hlive4:∀ b,liveB g4 st4 b->b ≠ o.l:=fun b hb e=>by subst e;exact (hcells hc.good hl3).1 hb
  have hro4:∀ b vs,g4.ro b=some vs->b ≠ o.l:=fun b vs hb e=>by subst e;exact (hcells hc.good hl3).2 vs hb
  have e31:w3.os=w.os/\w3.tape=w.tape/\w3.output=w.output:=by
   refine ⟨hg3.ext.os.trans ?_,hg3.ext.tape.trans ?_,hg3.ext.output.trans ?_⟩
   ·rw [hw2];exact hg1.ext.os
   ·rw [hw2];exact hg1.ext.tape
   ·rw [hw2];exact hg1.ext.output
  have hsz:w.heap.size<=w2.heap.size:=by rw [hs2];exact hg1.ext.size
  have hcanw:∀ b,M2.can b->w.heap.size<=b ∨ liveB g (H γ.length) b:=fun b hb=>by
   obtain ⟨id,r,h1,h2,h3⟩:=(hcan2 b).1 hb
   exact hg1.fresh id r h1 h2 b h3
  refine ⟨hc.here hh.size (fun b hb=>ho4 b (hlive4 b hb)) (fun b vs hb=>ho4 b (hro4 b vs hb)),by rw [hw4];exact World.putObj_heap_same (lt_of_some hl3),(ho4 _ (Ne.symm hne)).trans hd3,?_⟩
  refine ⟨by rw [hw4];exact e31.1,by rw [hw4];exact e31.2.1,by rw [hw4];exact e31.2.2,?_,?_,?_,?_⟩
  ·have:w4.heap.size=w3.heap.size:=by rw [hw4];simp
   rw [this]
   exact Nat.le_trans hsz hg3.ext.size
  ·intro b hb hd
   have h1:b ≠ o.l:=fun e=>hd (.inr (.inl e))
   have h2:¬ liveB g (H γ.length) b:=fun h=>hd (.inl h)
   rw [ho4 b h1,hg3.ext.block b (Nat.lt_of_lt_of_le hb hsz) fun hc=>by
    rcases hcanw b hc with h | h
    ·omega
    ·exact h2 h]
   rw [ho2 b h1]
   exact hg1.ext.block b hb h2
  ·rintro b (⟨id,r,h1,h2,h3⟩ | h | h)
   ·rcases hc.good.fresh id r h1 h2 b h3 with h | h
    ·exact .inr (Nat.le_trans hsz h)
    ·rcases hcanw b h with h | h
     ·exact .inr h
     ·exact .inl (.inl h)
   ·exact .inl (.inr (.inl h))
   ·exact .inl (.inr (.inr h))
  ·rintro b ⟨vs,hb⟩
   rcases hc.good.roo b vs hb with h | h | h
   ·have h':g1.ro b=some vs:=by rw [hM2] at h;exact h
    rcases hg1.roo b vs h' with h | h | h
    ·exact .inl ⟨vs,h⟩
    ·exact .inr (.inr h)
    ·exact .inr (.inl (.inl h))
   ·exact .inr (.inr (Nat.le_trans hsz h))
   ·rcases hcanw b h with h | h
    ·exact .inr (.inr h)
    ·exact .inr (.inl (.inl h))
 have hlen:(γ ++ [c]).length=γ.length+1:=by simp
 cases xk with
 | exit id=>exact hq3.elim
 | normal =>
  obtain ⟨hgc,hrd3,hfit3⟩:=hq3
  have hc3:=hclose hrd3
  have hrel:Rel E w2 { can:=M2.can,ro:=M2.ro,rho:=M2.rho } n { st3 with env:=(H γ.length).env } { tmps:=o.tmps,defers:=[] } w3:=⟨hc3.cl,hh.size,rfl,g3,hc3.good,hc3.env⟩
  have hrel4:=hft _ _ hfit3 _ _ _ _ ⟨fun _ _ h=>(by cases h),fun _ h=>by simp at h,fun _ h=>by simp at h⟩ hrel
  obtain ⟨g4,hg4,henv4⟩:=hrel4.good
  have hc4:Close E n o.tmps w2 M2 g4 (H (γ.length+1)) w3:=⟨hrel4.cl,hrd _,hg4,henv4⟩
  have hend:=run_endRound (P:=P) none hl3
  have hrec:({ o.mkr .busy none with state:=if (none:Option Code).isNone then .ready else .done,pending:=none }:Loop)=o.mkr .ready none:=by rw [hmk,hmk];rfl
  rw [hrec] at hend
  obtain ⟨h1,h2,h3,h4⟩:=hfr hc4 rfl
  refine ⟨_,_,hend,by rw [hgc];rfl,_,⟨h3,.inl ⟨?_,h2,g4,?_,?_,?_⟩⟩,h4⟩
  ·rw [List.all_append,hgo];simp [hgc]
  ·rw [hlen];exact h1
  ·have e:g4.ρ=g1.ρ:=hg4.rho.trans (by rw [hM2];rfl)
   exact (e.trans hg1.rho).trans hgρ
  ·rw [hlen]
 | ret =>
  obtain ⟨hgc,hrd3,hQ⟩:=hq3
  have hc3:=hclose hrd3
  have hend:=run_endRound (P:=P) (some .ret) hl3
  have hrec:({ o.mkr .busy none with state:=if (some Code.ret).isNone then .ready else .done,pending:=some .ret }:Loop)=o.mkr .done (some .ret):=by rw [hmk,hmk];rfl
  rw [hrec] at hend
  obtain ⟨h1,h2,h3,h4⟩:=hfr hc3 rfl
  refine ⟨_,_,hend,by rw [hgc];rfl,_,⟨h3,.inr ⟨?_,h2,g3,_,?_,h1,hρ3.trans hgρ,rfl⟩⟩,h4⟩
  ·rw [List.all_append];simp [hgc]
  ·rw [hlen];exact hQ
end
end Go.SE

namespace Go.SE
open Go.RowKit
def pcSt (a0:GAsn) (tm:Int) (l:Nat):St where
 env:=envOf [.c (.d (.val (yV l))),.c (.ptr 1 0),.c (.ptr 2 0)] 0
 mem:=upd (upd (fun _=>none) 2 (some (.blk [.d (.val (.int .u16 tm))]))) 1 (some (.blk [.d (.arr .fact a0.facts),.d (.arr .atom a0.atoms)]))
 sp:=fun _=>false
 fr:=fun _=>false
 base:=0
 rd:=none
def retP0 (tab:TypeId->Option TI) (rvs:List ResultVar) (γ1:CG):XK->St->CG->Prop
 | .exit _,_,_=>False
 | _,st,γ=>match loadsS tab st rvs with
  | some []=>st.rd=none/\γ=γ1
  | _=>False
section
variable {P:Program} {E:Ty->TypeId} {tab:TypeId->Option TI} {K:FuncId->Option Con} {pts:FuncId->Option PT} {hp:Nat->Bool} {gcs:Nat->Option (List Nat × List Nat)} {perm:Nat->List (List Nat)}
 {J:JJ CG} {fid f1 l:Nat} {go:List Int->Bool} {T:CG} {a0:GAsn} {tm t:Int} {en:List Int->CG}
abbrev ptrV (b:Nat):Value:=.pointer (some ⟨b,0,none⟩)
theorem pc_ok (ht:TabOk P E tab) (hKA:KAll P E K) (hPA:PAll P E pts) (hmix:P.follows .mixedOrders=true) {fn fnx:Func} {c0 cx:Code} (hf:P.funcs[f1]?=some fn) (hb:fn.body=some c0) (hn:3<=fn.ntmps)
  (hfx : P.funcs[fid]? = some fnx) (hbx : fnx.body = some cx) (hnx : (fnx.name == "runtime.NumGoroutine") = false)
  (hok:codeOkY tab K hp perm false fn.ntmps c0=true) (hx:ExtOk P J fid l go T a0 tm t en) (hy:YOk P J l go T) {anns:Nat->St->CG->Option (AnnY CG)} {γ1:CG}
  (hvc:vcY tab K pts (spE fid l go T a0 tm t en) noSpc (fun _=>false) hp gcs anns perm c0 (pcSt a0 tm l) [] (retP0 tab fn.results.toList γ1))
  {w:World} {p:Fp} {ro0:Nat->Option (Array Value)} {ρ b1 b2:Nat} {vs1:Array Value} {ty1 ty2:TypeId} (hin:ROin w ro0) (hro:∀ b vs,ro0 b=some vs->¬ p.d b)
  (h1:w.heap[b1]?=some (.cells vs1 ty1 (0,0))) (hc1:Cells (argG ro0 ρ) [.d (.arr .fact a0.facts),.d (.arr .atom a0.atoms)] vs1) (h2:w.heap[b2]?=some (.cells #[.int .u16 tm] ty2 (0,0)))
  (hne:b1 ≠ b2) (hp1:¬ (p.d b1 ∨ p.r b1)) (hp2:¬ (p.d b2 ∨ p.r b2)) (hr1:ro0 b1=none) (hr2:ro0 b2=none) (hJ:J.J [] p w) :
  Calls P f1 #[yV l,ptrV b1,ptrV b2] w fun e w'=>(∃ v,e=.returned v)/\∃ p',J.J γ1 p' w'/\FrX (fun b=>b=b1 ∨ b=b2) p p' w w':=by
 refine callsIn_wide.1 (callsIn_of_wp (n:=0) hf hb trivial ?_)
 obtain ⟨g,hgd⟩:∃ g:G,g={ ro:=ro0,κ:=fun id=>if id=1 then ptrV b1 else if id=2 then ptrV b2 else undef,ln:=fun _=>0,ρ }:=⟨_,rfl⟩
 have k1:g.κ 1=ptrV b1:=by rw [hgd];rfl
 have k2:g.κ 2=ptrV b2:=by rw [hgd];rfl
 have hgro:g.ro=ro0:=by rw [hgd]
 have hgρ:g.ρ=ρ:=by rw [hgd]
 have hmem:∀ id r,(pcSt a0 tm l).mem id=some r->(id=1/\r=.blk [.d (.arr .fact a0.facts),.d (.arr .atom a0.atoms)]) ∨ (id=2/\r=.blk [.d (.val (.int .u16 tm))]):=by
  intro id r h
  simp only [pcSt,upd] at h
  split at h
  ·rename_i e;injection h with h;exact .inl ⟨e,h.symm⟩
  ·split at h
   ·rename_i e;injection h with h;exact .inr ⟨e,h.symm⟩
   ·cases h
 have hblk:∀ id r,(pcSt a0 tm l).mem id=some r->∀ b,blkOf (g.κ id)=some b->(id=1/\b=b1) ∨ (id=2/\b=b2):=by
  intro id r h b hb
  rcases hmem id r h with ⟨rfl,_⟩ | ⟨rfl,_⟩
  ·rw [k1] at hb;simp [blkOf] at hb;exact .inl ⟨rfl,hb.symm⟩
  ·rw [k2] at hb;simp [blkOf] at hb;exact .inr ⟨rfl,hb.symm⟩
 have hgood:Good E w { can:=fun b=>b=b1 ∨ b=b2,ro:=ro0,rho:=ρ } g (pcSt a0 tm l) w:=by
  refine ⟨Ext.refl _ _,by rw [hgro];exact hin,?_,?_,?_,?_,?_,?_,fun b vs hb=>.inl (by rw [hgro] at hb;exact hb),hgρ,fun _ _ h=>(by cases h),fun _ _ h=>(by cases h),fun _ _ h=>(by cases h)⟩
  ·intro id r h
   rcases hmem id r h with ⟨rfl,rfl⟩ | ⟨rfl,rfl⟩
   ·refine ⟨b1,vs1,ty1,k1,h1,hc1.1,fun j c hj=>?_⟩
    obtain ⟨u,hu,hR⟩:=hc1.2 j c hj
    refine ⟨u,hu,CV.R.mono (g:=argG ro0 ρ) (g':=g) (by rw [hgro];exact fun _ _ h=>h) hgρ (fun id hid=>?_) hR⟩
    have:c.refs=[]:=by
     match j,hj with
     | 0,hj=>cases hj;rfl
     | 1,hj=>cases hj;rfl
    rw [this] at hid;cases hid
   ·refine ⟨b2,_,ty2,k2,h2,rfl,fun j c hj=>?_⟩
    match j,hj with
    | 0,hj=>cases hj;exact ⟨_,rfl,DR.val _ rfl⟩
  ·intro i j r s hi hj hij _ _ b hbi hbj
   rcases hblk i r hi b hbi with ⟨rfl,rfl⟩ | ⟨rfl,rfl⟩ <;> rcases hblk j s hj _ hbj with ⟨rfl,h⟩ | ⟨rfl,h⟩
   ·exact (hij rfl).elim
   ·exact (hne h).elim
   ·exact (hne h.symm).elim
   ·exact (hij rfl).elim
  ·intro id r h _ b hb
   rcases hblk id r h b hb with ⟨_,rfl⟩ | ⟨_,rfl⟩
   ·exact .inr (.inl rfl)
   ·exact .inr (.inr rfl)
  ·intro id r h _ b hb _ _
   rw [hgro]
   rcases hblk id r h b hb with ⟨_,rfl⟩ | ⟨_,rfl⟩
   ·exact hr1
   ·exact hr2
  ·intro m hm;cases hm
  ·intro h;exact absurd rfl h
 have hsz:(#[yV l,ptrV b1,ptrV b2] ++ Array.replicate (fn.ntmps - (#[yV l,ptrV b1,ptrV b2]:Array Value).size) undef).size=fn.ntmps:=by simp;omega
 have hrel:Rel E w { can:=fun b=>b=b1 ∨ b=b2,ro:=ro0,rho:=ρ } fn.ntmps (pcSt a0 tm l) { tmps:=#[yV l,ptrV b1,ptrV b2] ++ Array.replicate (fn.ntmps - (#[yV l,ptrV b1,ptrV b2]:Array Value).size) undef,defers:=[] } w:=by
  refine ⟨⟨?_,?_⟩,hsz,rfl,g,hgood,?_⟩
  ·intro x id hid
   have e:(pcSt a0 tm l).env x=envOf [.c (.d (.val (yV l))),.c (.ptr 1 0),.c (.ptr 2 0)] 0 x:=rfl
   rw [e] at hid
   rcases envOf_cases [.c (.d (.val (yV l))),.c (.ptr 1 0),.c (.ptr 2 0)] 0 x with h | ⟨i,s,h,_,h3⟩
   ·rw [h] at hid;simp [junk,S.refs,S0.refs,CV.refs] at hid
   ·rw [h3] at hid
    match i,h with
    | 0,h=>cases h;simp [S.refs,S0.refs,CV.refs] at hid
    | 1,h=>cases h;simp [S.refs,S0.refs,CV.refs] at hid;subst hid;rfl
    | 2,h=>cases h;simp [S.refs,S0.refs,CV.refs] at hid;subst hid;rfl
  ·intro j r hj id hid
   rcases hmem j r hj with ⟨_,rfl⟩ | ⟨_,rfl⟩ <;> simp [Res.refs,refsL,CV.refs] at hid
  ·intro x
   have e:(pcSt a0 tm l).env x=envOf [.c (.d (.val (yV l))),.c (.ptr 1 0),.c (.ptr 2 0)] 0 x:=rfl
   rw [e]
   rcases envOf_cases [.c (.d (.val (yV l))),.c (.ptr 1 0),.c (.ptr 2 0)] 0 x with h | ⟨i,s,h,hx,h3⟩
   ·rw [h];trivial
   ·rw [h3]
    have hx:x=i:=by omega
    subst hx
    have hget:∀ v,(#[yV l,ptrV b1,ptrV b2]:Array Value)[x]?=some v->(#[yV l,ptrV b1,ptrV b2] ++ Array.replicate (fn.ntmps - (#[yV l,ptrV b1,ptrV b2]:Array Value).size) undef).getD x undef=v:=fun v hv=>by
     rw [Array.getD_eq_getD_getElem?,Array.getElem?_append_left (Array.getElem?_eq_some_iff.1 hv).1,hv];rfl
    match x,h,hget with
    | 0,h,hget=>cases h;show S.R g _ _;rw [hget (yV l) rfl];exact DR.val _ rfl
    | 1,h,hget=>cases h;show S.R g _ _;rw [hget (ptrV b1) rfl];exact ⟨b1,k1,rfl⟩
    | 2,h,hget=>cases h;show S.R g _ _;rw [hget (ptrV b2) rfl];exact ⟨b2,k2,rfl⟩
 refine codeY_sound (A:=AnE J w (fun b=>b=b1 ∨ b=b2) p) (.inl rfl) ht hKA hPA hmix (spE_ok ⟨fnx,cx,hfx,hnx,hbx⟩ hx hy) (fun _ _ _ _ _ _ _ h=>by cases h) (dr:=false) (fun h=>by cases h) c0 _ [] _ _
  (retP0 tab fn.results.toList γ1) _ (.inl fun γ ds w0 M h=>h.oo) hok ⟨w,_,⟨rfl,fun _=>⟨rfl,rfl⟩,p,hJ,?_,fun b hb=>?_,fun b h=>.inl h,FrX.refl _ _ _⟩,hrel⟩ hvc ?_
 ·rintro b hb (rfl | rfl)
  ·exact hp1 hb
  ·exact hp2 hb
 ·show ro0 b=none
  cases h:ro0 b with
  | none=>rfl
  | some u=>exact (hro b u h hb).elim
 ·intro xk st' γ' a' w' hr hk
  have fin:retP0 tab fn.results.toList γ1 .ret st' γ'->a'.defers=[]/\∃ v,(results fn a'.tmps).run P w'=.ok v w'/\((∃ v1,Ending.returned v=.returned v1)/\∃ p',J.J γ1 p' w'/\FrX (fun b=>b=b1 ∨ b=b2) p p' w w'):=by
   intro hk
   unfold retP0 at hk
   simp only at hk
   split at hk
   ·rename_i hss
    obtain ⟨hrd,rfl⟩:=hk
    obtain ⟨D',g',hJ',hfr,_⟩:=eff hr hrd
    obtain ⟨w0,M,hA,hr'⟩:=hr
    obtain ⟨g1,hg1,henv1⟩:=hr'.good
    obtain ⟨vs1,hrun,hargs1,_⟩:=loads_run (P:=P) ht hg1 henv1 hr'.cl hss
    exact ⟨hA.1,_,results_run (fn:=fn) hrun,⟨_,rfl⟩,D',hJ',hfr⟩
   ·exact hk.elim
  cases xk with
  | normal=>exact fin hk
  | ret=>exact fin hk
  | exit id=>exact hk.elim
end
end Go.SE

namespace Go.SE
open Go.RowKit
section
variable {E:Ty->TypeId} {n:Nat}
theorem Good.sub {w0 w:World} {M:MM} {g:G} {st st':St} (hg:Good E w0 M g st w) (hpin:∀ id,M.pin id=none/\M.pinl id=none) (hm:∀ j r,st'.mem j=some r->st.mem j=some r/\st'.sp j=st.sp j/\st'.fr j=st.fr j) (hrd:st.rd=none) (hrd':st'.rd=none) :
  Good E w0 M g st' w:=by
 refine ⟨hg.ext,hg.ro,fun id r h=>hg.res id r (hm id r h).1,?_,fun id r h=>hg.fresh id r (hm id r h).1,?_,?_,?_,hg.roo,hg.rho,fun id v h=>?_,fun id k h=>?_,hg.keep.2⟩
 ·intro i j r s hi hj hij hl hl' b hbi hbj
  obtain ⟨f,t,xs,ys,h1,h2,h3⟩:=hg.sep i j r s (hm i r hi).1 (hm j s hj).1 hij hl hl' b hbi hbj
  refine ⟨f,t,xs,ys,h1,h2,fun h=>?_⟩
  rw [(hm j s hj).2.1]
  exact h3 (by rw [← (hm i r hi).2.1];exact h)
 ·intro id r h hl b hb h1 h2
  obtain ⟨e1,e2,e3⟩:=hm id r h
  exact hg.wro id r e1 hl b hb (by rw [← e2];exact h1) (by rw [← e3];exact h2)
 ·intro k hk;rw [hrd'] at hk;cases hk
 ·intro hk;exact absurd hrd' hk
 ·rw [(hpin id).1] at h;cases h
 ·rw [(hpin id).2] at h;cases h
theorem gcSt_mem {live ids:List Nat} {st:St} {j:Nat} {r:Res} (h:(gcSt (fun _=>none) live ids st).mem j=some r):inL ids j=true/\st.mem j=some r/\(gcSt (fun _=>none) live ids st).sp j=st.sp j/\(gcSt (fun _=>none) live ids st).fr j=st.fr j:=by
 have h':tabM (fun _=>none) st.mem ids j=some r:=h
 rw [tabM_get] at h'
 simp only [Option.isSome_none,Bool.or_false] at h'
 split at h'
 ·rename_i e
  refine ⟨e,h',?_,?_⟩
  ·show tabQ _ st.sp ids j=_
   rw [tabQ_get];simp [e]
  ·show tabQ _ st.fr ids j=_
   rw [tabQ_get];simp [e]
 ·cases h'
def AC (wE:World) (ro0:Nat->Option (Array Value)) (ρ:Nat):Bool->List Deferred->World->MM->Prop:=fun γ ds w0 M =>
 (γ=false->ds=[])/\(γ=true->∃ dB,ds=[{ target:=.collected dB,args:=#[] }]/\wE.heap.size<=dB/\w0.heap[dB]?=some (.deferred (some []))/\¬ M.can dB) /\
 (∀ id,M.pin id=none/\M.pinl id=none)/\Ext (fun _=>False) wE w0/\(∀ b,M.can b->wE.heap.size<=b)/\(∀ b vs,M.ro b=some vs->ro0 b=some vs ∨ wE.heap.size<=b)/\M.rho=ρ
theorem AC.oo {wE:World} {ro0:Nat->Option (Array Value)} {ρ:Nat} {γ:Bool} {ds:List Deferred} {w0:World} {M:MM} (h:AC wE ro0 ρ γ ds w0 M):OOk (fun _=>none) M :=
 ⟨fun id r hr=>(by simp at hr),fun id h'=>by rw [(h.2.2.1 id).1,(h.2.2.1 id).2] at h';simp at h',fun id h'=>by simp at h'⟩
theorem AC.ext {wE:World} {ro0:Nat->Option (Array Value)} {ρ:Nat} {γ:Bool} {ds:List Deferred} {w0 w:World} {M:MM} {g:G} {st:St} (h:AC wE ro0 ρ γ ds w0 M) (hg:Good E w0 M g st w):Ext (fun _=>False) wE w:=by
 obtain ⟨_,_,_,he,hcan,_⟩:=h
 refine ⟨hg.ext.os.trans he.os,hg.ext.tape.trans he.tape,hg.ext.output.trans he.output,Nat.le_trans he.size hg.ext.size,fun b hb _=>?_⟩
 rw [hg.ext.block b (Nat.lt_of_lt_of_le hb he.size) fun hc=>by have:=hcan b hc;omega]
 exact he.block b hb fun h=>h
theorem AC.good {wE:World} {ro0:Nat->Option (Array Value)} {ρ:Nat} {γ:Bool} {ds:List Deferred} {w0 w:World} {M:MM} {g:G} {st:St} (h:AC wE ro0 ρ γ ds w0 M) (hg:Good E w0 M g st w) (hrd:st.rd=none):Good E wE (MOf false ρ ro0) g st w:=by
 have hx:=h.ext hg
 obtain ⟨_,_,_,he,hcan,hro,hrho⟩:=h
 refine ⟨⟨hx.os,hx.tape,hx.output,hx.size,fun b hb _=>hx.block b hb fun h=>h⟩,hg.ro,hg.res,hg.sep,fun id r hm hl b hb=>?_,hg.wro,?_,?_,fun b vs hb=>?_,hg.rho.trans hrho,fun _ _ h=>(by cases h),fun _ _ h=>(by cases h),fun _ _ h=>(by cases h)⟩
 ·rcases hg.fresh id r hm hl b hb with h1 | h1
  ·exact .inl (Nat.le_trans he.size h1)
  ·exact .inl (hcan b h1)
 ·intro k hk;rw [hrd] at hk;cases hk
 ·intro hk;exact absurd hrd hk
 ·rcases hg.roo b vs hb with h1 | h1 | h1
  ·rcases hro b vs h1 with h2 | h2
   ·exact .inl h2
   ·exact .inr (.inl h2)
  ·exact .inr (.inl (Nat.le_trans he.size h1))
  ·exact .inr (.inl (hcan b h1))
end
def ItOk (P:Program) (f1:FuncId) (pre:GAsn->Int->Prop) (en:GAsn->Int->CG):Prop :=
 ∀ (J:JJ CG) (l:Nat) (go:List Int->Bool) (a0:GAsn) (tm:Int),pre a0 tm->YOk P J l go (en a0 tm) ->
  ∀ (w:World) (p:Fp) (ro0:Nat->Option (Array Value)) (ρ b1 b2:Nat) (vs1:Array Value) (ty1 ty2:TypeId),ROin w ro0->(∀ b vs,ro0 b=some vs->¬ p.d b) ->
   w.heap[b1]?=some (.cells vs1 ty1 (0,0))->Cells (argG ro0 ρ) [.d (.arr .fact a0.facts),.d (.arr .atom a0.atoms)] vs1->w.heap[b2]?=some (.cells #[.int .u16 tm] ty2 (0,0)) ->
   b1 ≠ b2->¬ (p.d b1 ∨ p.r b1)->¬ (p.d b2 ∨ p.r b2)->ro0 b1=none->ro0 b2=none->J.J [] p w ->
   Calls P f1 #[yV l,ptrV b1,ptrV b2] w fun e w'=>(∃ v,e=.returned v)/\∃ p',J.J (upTo go (en a0 tm)) p' w'/\FrX (fun b=>b=b1 ∨ b=b2) p p' w w'
structure RAnn where
 go:List Int->Bool
 live:List Nat
 ids:List Nat
 sets:Nat->List (Nat × S)
 mids:List Nat
 blks:Nat->List (Nat × Res)
 owns:Nat->List SE.Own
 base:Nat
def dropR (A:RAnn) (st:St):St:=gcSt (fun _=>none) A.live A.ids st
def rH (A:RAnn) (st:St) (i:Nat):St:=headP (fun _=>none) A.live (A.sets i) A.mids (A.blks i) (A.owns i) A.base none (dropR A st)
def ftR (A:RAnn) (st:St) (i:Nat) (st':St):Prop:=fitsQ A.live (A.sets i) A.mids (A.blks i) (A.owns i) none (dropR A st) st'
section
variable {E:Ty->TypeId} {n:Nat}
theorem ftR_ok {A:RAnn} {st:St} (i:Nat) (st':St) (h:ftR A st i st'):∀ w0 M a w,OOk (fun _=>none) M->Rel E w0 M n st' a w->Rel E w0 M n (rH A st i) a w :=
 fun w0 M a w hO hr=>hr.headP hO (fitsQ_ok h)
end
end Go.SE

namespace Go.SE
open Go.RowKit
section
variable {P:Program} {E:Ty->TypeId} {n m:Nat} {tab:TypeId->Option TI} {K:FuncId->Option Con} {pts:FuncId->Option PT} {hp:Nat->Bool} {gcs:Nat->Option (List Nat × List Nat)} {anns:Nat->St->Unit->Option (AnnY Unit)} {perm:Nat->List (List Nat)}
theorem range_sound (ht:TabOk P E tab) (hKA:KAll P E K) (hPA:PAll P E pts) (hmix:P.follows .mixedOrders=true) {f1:FuncId} {pre:GAsn->Int->Prop} {en:GAsn->Int->CG} (hit:ItOk P f1 pre en) (eg:∀ args w,(callFunc f1 args).run P w=.ok (.enter f1 args) w)
  {wE:World} {ro0:Nat->Option (Array Value)} {ρ:Nat} {st:St} {a:Act} {w:World} (h:RelY E (AC wE ro0 ρ) n st false a w) {t p i1 i2:Nat} {a0:GAsn} {tm:Int} {assign body:Code} {A:RAnn} {Qs:XK->St->Bool->Prop} {Q:Exit->Act->World->Prop}
  (he:st.env t=.s (.c (.fn f1 [i1,i2]))) (hm1:st.mem i1=some (.blk [.d (.arr .fact a0.facts),.d (.arr .atom a0.atoms)])) (hm2:st.mem i2=some (.blk [.d (.val (.int .u16 tm))]))
  (hrd:st.rd=none) (hpre:pre a0 tm) (hgc:gcB A.live A.ids st=true) (h1:inL A.ids i1=false) (h2:inL A.ids i2=false) (hne:i1 ≠ i2) (hsp:A.ids.all (fun j=>!st.sp j && !st.fr j)=true) (hs1:(!st.sp i1 && !st.fr i1)=true) (hs2:(!st.sp i2 && !st.fr i2)=true)
  (hft0:ftR A st 0 (dropR A st)) (hp':p < n)
  (hoka:codeOkY tab K hp perm false n assign=true) (hoa:noOO gcs assign=true) (hokb:codeOkY tab K hp perm false n body=true) (hob:noOO gcs body=true)
  (hv:∀ i c,(en a0 tm)[i]?=some c->((en a0 tm).take i).all A.go=true->vcY tab K pts noSp noSpU (fun _=>false) hp gcs anns perm assign (St.put (rH A st i) (some p) (.s (.vec .int c))) ()
   (seqY (fun st1 _=>st1.rd=none/\vcY tab K pts noSp noSpU (fun _=>false) hp gcs anns perm body st1 () (bodyQ A.go (rH A st) (ftR A st) (fun _ st'=>Qs .ret st' true) i c)) fun _ _ _=>False))
  (hend:(en a0 tm).all A.go=true->Qs .normal (rH A st (en a0 tm).length) true)
  (hQ:∀ x st' γ' a' w',RelY E (AC wE ro0 ρ) n st' γ' a' w'->Qs x st' γ'->Q x.exit' a' w') :
  (Code.rangeFunc (.tmp t) #[p] assign body).wpIn Fence.wide m P Q a w:=by
 obtain ⟨w0,M,hA,hr⟩:=h
 obtain ⟨g,hg,henv⟩:=hr.good
 have hds:a.defers=[]:=hA.1 rfl
 have hpins:=hA.2.2.1
 have hrd':Rel E w0 M n (dropR A st) (bareA a) w:=hr.gc hA.oo (by
  simp only [gcB,Bool.and_eq_true] at hgc
  exact ⟨closedEB_ok hgc.1,closedMB_ok hgc.2,fun j h=>by simp at h⟩)
 have hmd:∀ j r,(dropR A st).mem j=some r->inL A.ids j=true/\st.mem j=some r/\(dropR A st).sp j=st.sp j/\(dropR A st).fr j=st.fr j:=fun j r h=>gcSt_mem h
 have hgd:Good E w0 M g (dropR A st) w:=hg.sub hpins (fun j r h=>(hmd j r h).2) hrd hrd
 have henvd:∀ x,((dropR A st).env x).R g (a.tmps.getD x undef):=fun x=>by
  rcases tabE_cases st.env A.live x with ⟨_,h⟩ | h
  ·show S.R g (tabE A.live st.env x) _;rw [h];exact henv x
  ·show S.R g (tabE A.live st.env x) _;rw [h];trivial
 -- the two boxes
 obtain ⟨b1,vs1,ty1,k1,hb1,hc1⟩:=hg.res i1 _ hm1
 obtain ⟨b2,vs2,ty2,k2,hb2,hc2⟩:=hg.res i2 _ hm2
 have hvs2:vs2=#[.int .u16 tm]:=by
  obtain ⟨h3,h4⟩:=hc2
  obtain ⟨u,hu,hR⟩:=h4 0 _ rfl
  have:=dr_val hR
  subst this
  apply Array.ext
  ·simpa using h3
  ·intro i h5 h6
   have:i=0:=by simp at h6;exact h6
   subst this
   rw [Array.getElem?_eq_getElem h5] at hu
   simpa using hu
 subst hvs2
 have hkb1:blkOf (g.κ i1)=some b1:=by rw [k1];rfl
 have hkb2:blkOf (g.κ i2)=some b2:=by rw [k2];rfl
 have hsepb:∀ {i j:Nat} {r:Res} {cs:List CV} {b:Nat},st.mem i=some (.blk cs)->st.mem j=some r->r.live->i ≠ j->blkOf (g.κ i)=some b->blkOf (g.κ j)=some b->False:=fun hi hj hl hij hbi hbj=>by
  obtain ⟨f,t,xs,ys,h1,h2,_⟩:=hg.sep _ _ _ _ hi hj hij trivial hl _ hbi hbj
  cases h1
 have hb12:b1 ≠ b2:=fun e=>by
  subst e
  exact hsepb hm1 hm2 trivial hne hkb1 hkb2
 have hliveD:∀ b,liveB g (dropR A st) b->b ≠ b1/\b ≠ b2/\g.ro b=none/\b < w.heap.size/\wE.heap.size<=b:=by
  rintro b ⟨id,r,hm,hl,hb⟩
  obtain ⟨hin,hm',_,_⟩:=hmd id r hm
  have hflags:=List.all_eq_true.1 hsp id (inL_mem.1 hin)
  simp only [Bool.and_eq_true,Bool.not_eq_true'] at hflags
  refine ⟨fun e=>?_,fun e=>?_,hg.wro id r hm' hl b hb hflags.1 hflags.2,(hg.res id r hm').lt hl hb,?_⟩
  ·subst e
   exact hsepb hm1 hm' hl (fun e=>by subst e;rw [h1] at hin;cases hin) hkb1 hb
  ·subst e
   exact hsepb hm2 hm' hl (fun e=>by subst e;rw [h2] at hin;cases hin) hkb2 hb
  ·rcases hg.fresh id r hm' hl b hb with h3 | h3
   ·exact Nat.le_trans hA.2.2.2.1.size h3
   ·exact hA.2.2.2.2.1 b h3
 have hboxE:∀ {i b:Nat} {cs:List CV},st.mem i=some (.blk cs)->blkOf (g.κ i)=some b->wE.heap.size<=b:=fun hm hb=>by
  rcases hg.fresh _ _ hm trivial _ hb with h3 | h3
  ·exact Nat.le_trans hA.2.2.2.1.size h3
  ·exact hA.2.2.2.2.1 _ h3
 have hro1:g.ro b1=none:=by simp only [Bool.and_eq_true,Bool.not_eq_true'] at hs1;exact hg.wro i1 _ hm1 trivial b1 hkb1 hs1.1 hs1.2
 have hro2:g.ro b2=none:=by simp only [Bool.and_eq_true,Bool.not_eq_true'] at hs2;exact hg.wro i2 _ hm2 trivial b2 hkb2 hs2.1 hs2.2
 -- a new anchor;the head
 have hgw:Good E w (reM g (dropR A st)) g (dropR A st) w:=hgd.re hrd (reM_fit _ _) (fun _ _=>rfl) fun _ _ _=>rfl
 have hr0:Rel E w (reM g (dropR A st)) n (rH A st 0) (bareA a) w:=ftR_ok 0 _ hft0 _ _ _ _ ⟨fun _ _ h=>(by cases h),fun _ h=>by simp [reM] at h,fun _ h=>by simp at h⟩ ⟨hrd'.cl,hr.size,hr.defers,g,hgw,henvd⟩
 obtain ⟨g0,hg0,henv0⟩:=hr0.good
 have hlive0:∀ b,liveB g0 (rH A st 0) b->liveB g (dropR A st) b:=by
  rintro b ⟨id,r,hm,hl,hb⟩
  rcases hg0.fresh id r hm hl b hb with h3 | h3
  ·have:=(hg0.res id r hm).lt hl hb;omega
  ·exact h3
 have hro0:∀ b vs,g0.ro b=some vs->(∃ vs',g.ro b=some vs') ∨ liveB g (dropR A st) b:=fun b vs hb=>by
  rcases hg0.roo b vs hb with h3 | h3 | h3
  ·exact .inl ⟨vs,h3⟩
  ·obtain ⟨_,_,h4⟩:=hg0.ro b vs hb;have:=lt_of_some h4;omega
  ·exact .inr h3
 have hρ0:g0.ρ=ρ:=by
  have e1:g0.ρ=g.ρ:=hg0.rho
  exact (e1.trans hg.rho).trans hA.2.2.2.2.2.2
 -- the statement
 refine wpIn_rangeFunc ?_
 intro fnid _
 obtain ⟨o,ho⟩:∃ o:Own',o=⟨w.heap.size+1,w.heap.size,fun s pe=>{ state:=s,pending:=pe,fn:=fnid,tmps:=a.tmps,params:=#[p],assign,body,defers:=w.heap.size },a.tmps,ρ⟩:=⟨_,rfl⟩
 obtain ⟨W1,hW1⟩:∃ W1,(w.alloc (.deferred (some []))).alloc (.loop (o.mkr .ready none))=W1:=⟨_,rfl⟩
 have hol:o.l=w.heap.size+1:=by rw [ho]
 have hod:o.dB=w.heap.size:=by rw [ho]
 have hot:o.tmps=a.tmps:=by rw [ho]
 have hmk:∀ s pe,o.mkr s pe={ state:=s,pending:=pe,fn:=fnid,tmps:=o.tmps,params:=#[p],assign,body,defers:=o.dB }:=by intro s pe;rw [ho]
 have hsz1:W1.heap.size=w.heap.size+2:=by rw [← hW1];simp
 have hL1:W1.heap[o.l]?=some (.loop (o.mkr .ready none)):=by
  rw [← hW1,hol];have:=World.alloc_heap_new (w.alloc (.deferred (some []))) (.loop (o.mkr .ready none));rwa [World.size_alloc] at this
 have hK1:W1.heap[o.dB]?=some (.deferred (some [])):=by
  rw [← hW1,hod];exact (Below.heap_alloc _ _ _ (by simp)).trans (World.alloc_heap_new w _)
 have hold1:∀ b,b < w.heap.size->W1.heap[b]?=w.heap[b]?:=fun b hb=>by
  rw [← hW1];exact (Below.heap_alloc _ _ _ (by simp;omega)).trans (Below.heap_alloc _ _ _ hb)
 have hos1:W1.os=w.os/\W1.tape=w.tape/\W1.output=w.output:=by rw [← hW1];exact ⟨rfl,rfl,rfl⟩
 have hrolt:∀ b vs,g0.ro b=some vs->b < w.heap.size:=fun b vs hb=>by obtain ⟨_,_,h4⟩:=hg0.ro b vs hb;exact lt_of_some h4
 have hhere:Here E n o.tmps g0 (rH A st 0) W1:=by
  rw [hot]
  exact ⟨hr0.cl,hr.size,rfl,hg0.re rfl (reM_fit _ _) (fun b hb=>hold1 b (hliveD b (hlive0 b hb)).2.2.2.1) (fun b vs hb=>hold1 b (hrolt b vs hb)),henv0⟩
 have hJ0:(jc E n o A.go (rH A st) (fun _ st'=>Qs .ret st' true)).J [] (fpOf o.l o.dB g0 (rH A st 0)) W1:=⟨hK1,.inl ⟨rfl,hL1,g0,hhere,by rw [hρ0,ho],rfl⟩⟩
 have hy:=yok (E:=E) (n:=n) (gcs:=gcs) (anns:=anns) ht hKA hPA hmix hmk hp' (by rw [hol,hod];omega) (go:=A.go) (T:=en a0 tm) (H:=rH A st) (ft:=ftR A st) (Qr:=fun _ st'=>Qs .ret st' true) (fun i st'=>ftR_ok i st') (fun _=>rfl) hoka hoa hokb hob hv
 have hb1w:b1 < w.heap.size:=lt_of_some hb1
 have hb2w:b2 < w.heap.size:=lt_of_some hb2
 have hnd:∀ b,b < w.heap.size->¬ liveB g (dropR A st) b->¬ (fpOf o.l o.dB g0 (rH A st 0)).d b:=fun b hb hl hd=>by
  rcases hd with hd | hd | hd
  ·exact hl (hlive0 b hd)
  ·rw [hol] at hd;omega
  ·rw [hod] at hd;omega
 have hnb:∀ b,b < w.heap.size->(∀ b',liveB g (dropR A st) b'->b' ≠ b)->g.ro b=none->¬ ((fpOf o.l o.dB g0 (rH A st 0)).d b ∨ (fpOf o.l o.dB g0 (rH A st 0)).r b):=fun b hb hl hro hd=>by
  rcases hd with hd | ⟨vs,hd⟩
  ·exact hnd b hb (fun h=>hl b h rfl) hd
  ·rcases hro0 b vs hd with ⟨vs',h3⟩ | h3
   ·rw [hro] at h3;cases h3
   ·exact hl b h3 rfl
 have hin1:ROin W1 g.ro:=fun b vs hb=>by
  obtain ⟨ty,fz,h3⟩:=hg.ro b vs hb
  exact ⟨ty,fz,by rw [hold1 b (lt_of_some h3)];exact h3⟩
 have hcall:=hit _ o.l A.go a0 tm hpre hy W1 (fpOf o.l o.dB g0 (rH A st 0)) g.ro g.ρ b1 b2 vs1 ty1 ty2 hin1
  (fun b vs hb=>by
   obtain ⟨_,_,h3⟩:=hg.ro b vs hb
   exact hnd b (lt_of_some h3) fun hl=>by have:=(hliveD b hl).2.2.1;rw [hb] at this;cases this)
  (by rw [hold1 b1 hb1w];exact hb1)
  ⟨hc1.1,fun j c hj=>by
   obtain ⟨u,hu,hR⟩:=hc1.2 j c hj
   refine ⟨u,hu,CV.R.mono (g:=g) (g':=argG g.ro g.ρ) (fun _ _ h=>h) rfl (fun id hid=>?_) hR⟩
   have:c.refs=[]:=by
    match j,hj with
    | 0,hj=>cases hj;rfl
    | 1,hj=>cases hj;rfl
   rw [this] at hid;cases hid⟩
  (by rw [hold1 b2 hb2w];exact hb2) hb12 (hnb b1 hb1w (fun b hb=>(hliveD b hb).1) hro1) (hnb b2 hb2w (fun b hb=>(hliveD b hb).2.1) hro2) hro1 hro2 hJ0
 have hfe:a.eval (.tmp t)=.func (.func f1) #[] #[ptrV b1,ptrV b2]:=by
  have:=henv t
  rw [he] at this
  have h3:a.tmps.getD t undef=.func (.func f1) #[] ([i1,i2].map g.κ).toArray:=this
  have h4:a.eval (.tmp t)=a.tmps.getD t undef:=rfl
  rw [h4,h3];simp [k1,k2]
 refine ⟨o.l,[{ target:=.collected o.dB,args:=#[] }],W1,{ target:=.fn (.func f1) #[ptrV b1,ptrV b2],args:=#[yV o.l] },W1,f1,#[yV o.l] ++ #[ptrV b1,ptrV b2],W1,?_,?_,fun _ _=>trivial,?_,fun h=>(by cases h),callsIn_wide.2 ?_⟩
 ·have:=run_enterLoop_outer (P:=P) (w:=w) fnid a.tmps #[p] assign body
  rw [show Fence.wide.round=none from rfl,this,← hW1,hol,hod,hmk]
  rw [hot,hod]
 ·simp only [resolve,hfe]
  simp [go_sem]
 ·simp [invoke,go_sem,eg]
 refine Calls.mono hcall ?_
 rintro e W2 ⟨⟨v,rfl⟩,p',⟨hd2,hJ2⟩,hF⟩
 -- behind the loop
 have behind:∀ {g2:G} {s2:St} {lo lo':Loop},W2.heap[o.l]?=some (.loop lo)->Here E n o.tmps g2 s2 W2->g2.ρ=o.ρ->p'=fpOf o.l o.dB g2 s2 ->
   RelY E (AC wE ro0 ρ) n s2 true { a with defers:=[{ target:=.collected o.dB,args:=#[] }] ++ a.defers } (W2.putObj o.l (.loop lo')):=by
  intro g2 s2 lo lo' hl2 hh2 hρ2 hp2
  subst hp2
  have hx:=hA.ext hg
  have hne4:∀ b,liveB g2 s2 b->b ≠ o.l:=fun b hb e=>by subst e;obtain ⟨_,_,h3⟩:=liveB_cells hh2.good hb;rw [hl2] at h3;cases h3
  have hnr4:∀ b vs,g2.ro b=some vs->b ≠ o.l:=fun b vs hb e=>by subst e;obtain ⟨_,_,h3⟩:=ro_cells hh2.good hb;rw [hl2] at h3;cases h3
  have hh4:Here E n o.tmps g2 s2 (W2.putObj o.l (.loop lo')):=hh2.next (fun b hb=>World.putObj_heap_other (hne4 b hb)) fun b vs hb=>World.putObj_heap_other (hnr4 b vs hb)
  have hEw:wE.heap.size<=w.heap.size:=hx.size
  have hsame:∀ b,b < wE.heap.size->W2.heap[b]?=w.heap[b]?:=fun b hb=>by
   rw [hF.block b (by rw [hsz1];omega) (hnd b (by omega) fun hl=>by have:=(hliveD b hl).2.2.2.2;omega) (fun hX=>by
    rcases hX with rfl | rfl
    ·have:=hboxE hm1 hkb1;omega
    ·have:=hboxE hm2 hkb2;omega)]
   exact hold1 b (by omega)
  have hdge:∀ b,(fpOf o.l o.dB g0 (rH A st 0)).d b->wE.heap.size<=b:=fun b hd=>by
   rcases hd with hd | hd | hd
   ·exact (hliveD b (hlive0 b hd)).2.2.2.2
   ·rw [hol] at hd;omega
   ·rw [hod] at hd;omega
  refine ⟨_,reM g2 s2,⟨fun h=>(by cases h),fun _=>⟨o.dB,by rw [hds];rfl,by rw [hod];exact hEw,?_,?_⟩,fun _=>⟨rfl,rfl⟩,?_,?_,?_,?_⟩,⟨hh4.cl,by rw [← hot];exact hh4.size,rfl,g2,hh4.good,by rw [← hot];exact hh4.env⟩⟩
  ·rw [World.putObj_heap_other (by rw [hol,hod];omega)];exact hd2
  ·intro hc
   obtain ⟨_,_,h3⟩:=liveB_cells hh2.good hc
   rw [hd2] at h3;cases h3
  ·refine ⟨hF.os.trans (hos1.1.trans hx.os),hF.tape.trans (hos1.2.1.trans hx.tape),hF.output.trans (hos1.2.2.trans hx.output),?_,fun b hb _=>?_⟩
   ·have h3:=hF.size
    have h4:(W2.putObj o.l (.loop lo')).heap.size=W2.heap.size:=by simp
    rw [h4];omega
   ·rw [World.putObj_heap_other (by rw [hol];omega),hsame b hb]
    exact hx.block b hb fun h=>h
  ·intro b hc
   rcases hF.sub b (.inl hc) with h3 | h3
   ·exact hdge b h3
   ·omega
  ·intro b vs hb
   by_cases hlt:wE.heap.size<=b
   ·exact .inr hlt
   ·refine .inl ?_
    have hcase:∃ vs',g.ro b=some vs':=by
     rcases hF.subr b ⟨vs,hb⟩ with ⟨vs',h3⟩ | h3 | h3
     ·rcases hro0 b vs' h3 with h4 | h4
      ·exact h4
      ·have:=(hliveD b h4).2.2.2.2;omega
     ·have:=hdge b h3;omega
     ·omega
    obtain ⟨vs',h3⟩:=hcase
    obtain ⟨_,_,h4⟩:=hg.ro b vs' h3
    obtain ⟨_,_,h5⟩:=hh2.good.ro b vs hb
    rw [hsame b (by omega),h4] at h5
    have hvv:vs'=vs:=by simp at h5;exact h5.1
    subst hvv
    rcases hg.roo b vs' h3 with h6 | h6 | h6
    ·rcases hA.2.2.2.2.2.1 b vs' h6 with h7 | h7
     ·exact h7
     ·omega
    ·have:=hA.2.2.2.1.size;omega
    ·have:=hA.2.2.2.2.1 b h6;omega
  ·exact hρ2.trans (by rw [ho])
 rcases hJ2 with ⟨hall,hl2,g2,hh2,hρ2,hp2⟩ | ⟨hnall,hl2,g2,s2,hq2,hh2,hρ2,hp2⟩
 ·have hend2:=run_endLoop (P:=P) hl2 (by rw [hmk];simp)
  refine ⟨_,_,hend2,?_⟩
  have hpe:(o.mkr .ready none).pending=none:=by rw [hmk]
  rw [hpe]
  have hT:(en a0 tm).all A.go=true:=by
   have key:∀ l:CG,(upTo A.go l).all A.go=l.all A.go:=by
    intro l
    induction l with
    | nil=>rfl
    | cons x l ih=>simp only [upTo,List.all_cons];cases hx:A.go x <;> simp [hx,ih]
   rw [← key];exact hall
  rw [upTo_all hT] at hh2 hp2
  exact hQ .normal _ true _ _ (behind hl2 hh2 hρ2 hp2) (hend hT)
 ·have hend2:=run_endLoop (P:=P) hl2 (by rw [hmk];simp)
  refine ⟨_,_,hend2,?_⟩
  have hpe:(o.mkr .done (some .ret)).pending=some .ret:=by rw [hmk]
  rw [hpe]
  exact wpIn_ret (hQ .ret _ true _ _ (behind hl2 hh2 hρ2 hp2) hq2)
end
end Go.SE

namespace Go.SE
open Go.RowKit
section
variable {P:Program} {E:Ty->TypeId} {tab:TypeId->Option TI} {K:FuncId->Option Con} {pts:FuncId->Option PT} {hp:Nat->Bool} {gcs:Nat->Option (List Nat × List Nat)} {perm:Nat->List (List Nat)}
abbrev noSpB:SpOp Bool:=fun _ _ _=>none
def retR (tab:TypeId->Option TI) (con:Con) (rvs:List ResultVar) (x:Args con.aks):XK->St->Bool->Prop:=fun xk st _=>st.rd=none/\retOk tab con rvs x 0 xk st
theorem fnR_sound (ht:TabOk P E tab) (hKA:KAll P E K) (hPA:PAll P E pts) (hmix:P.follows .mixedOrders=true) (hdr:∀ w0 M n,DrawSound P E tab K w0 M n) {f:FuncId} {fn:Func} {c:Code} {con:Con} (hcr:hasRdr con.aks=false) (hf:P.funcs[f]?=some fn) (hb:fn.body=some c) (hn:con.aks.length<=fn.ntmps) (hok:codeOkY tab K hp perm true fn.ntmps c=true)
  {spc:Args con.aks->SpCode Bool} {anns:Args con.aks->Nat->St->Bool->Option (AnnY Bool)} (hspc:∀ x,con.pre x->∀ wE ro0 ρ,SpcOk Fence.wide 0 P E (AC wE ro0 ρ) fn.ntmps (spc x))
  (hvc:∀ x,con.pre x->vcY tab K pts noSpB (spc x) (fun b=>!b) hp gcs (anns x) perm c (entry (encs con.aks x) none) false (retR tab con fn.results.toList x)):CallOk P E f con:=by
 intro w0 ro0 ρ k x vs id0 hpre hin hrd hargs
 have hlen:vs.length=con.aks.length:=by
  rw [hargs.1]
  have:∀ (ks:List AK) (x:Args ks),(encs ks x).length=ks.length:=by
   intro ks
   induction ks with
   | nil=>intro x;rfl
   | cons k ks ih=>intro x;obtain ⟨x,xs⟩:=x;simp [encs,ih]
  exact this _ _
 have hent:Rel E w0 (MOf false ρ ro0) fn.ntmps (entry (encs con.aks x) none) { tmps:=vs.toArray ++ Array.replicate (fn.ntmps - vs.toArray.size) undef,defers:=[] } w0 :=
  entry_rel (h:=false) (k:=0) hin (fun h=>by cases h) hargs (by omega)
 refine callsIn_wide.1 (callsIn_of_wp_marks (n:=0) hf hb trivial ?_)
 refine codeY_sound (A:=AC w0 ro0 ρ) (drg:=fun b=>!b) (.inl rfl) ht hKA hPA hmix (fun _ _ _ _ h=>by cases h) (hspc x hpre w0 ro0 ρ) (dr:=true) (fun _=>⟨rfl,fun γ ds w0 M hγ hA=>hA.1 (by simpa using hγ),fun _ _=>hdr _ _ _⟩) c _ false _ _
  (retR tab con fn.results.toList x) _ (.inl fun γ ds w0 M h=>h.oo) hok
  ⟨w0,MOf false ρ ro0,⟨fun _=>rfl,fun h=>(by cases h),fun _=>⟨rfl,rfl⟩,Ext.refl _ _,fun b h=>(by cases h.1),fun b vs h=>.inl h,rfl⟩,hent⟩ (hvc x hpre) ?_
 intro xk st' γ' a' w' hr hk
 obtain ⟨hrd',hk⟩:=hk
 obtain ⟨wA,M,hA,hr⟩:=hr
 obtain ⟨g,hg,henv⟩:=hr.good
 -- the results,in a world in which what the state speaks of is as it was
 have fin:∀ w5:World,Good E w0 (MOf false ρ ro0) g st' w5->retOk tab con fn.results.toList x 0 .ret st'->∃ v,(results fn a'.tmps).run P w5=.ok v w5/\∃ v1 r g,Ending.returned v=.returned v1/\con.post x r/\Ext (fun b=>hasRdr con.aks=true/\b=ρ) w0 w5/\g.ρ=ρ/\ResOk E w0 w5 ro0 con.rks id0 r v1 g/\(hasRdr con.aks=true->RdStep w0 w5 ρ (k+con.cost x)):=by
  intro w5 hg5 hret
  have hrel:Rel E w0 (MOf (hasRdr con.aks) ρ ro0) fn.ntmps st' (bareA a') w5:=by rw [hcr];exact ⟨hr.cl,hr.size,rfl,g,hg5,henv⟩
  obtain ⟨v,h1,r,g1,h2,h3,h4,h5,_⟩:=exit_ok (k:=0) id0 ht hin (fun h=>by rw [hcr] at h;cases h) hrel hret
  exact ⟨v,h1,v,r,g1,rfl,h2,h3,h4,h5,fun h=>by rw [hcr] at h;cases h⟩
 have leave:retOk tab con fn.results.toList x 0 .ret st'->LeavesInM Fence.wide 0 P fn a'.tmps (fun e w=>∃ v r g,e=.returned v/\con.post x r/\Ext (fun b=>hasRdr con.aks=true/\b=ρ) w0 w/\g.ρ=ρ/\ResOk E w0 w ro0 con.rks id0 r v g/\(hasRdr con.aks=true->RdStep w0 w ρ (k+con.cost x))) a'.defers .returning w':=by
  intro hret
  cases γ' with
  | false =>
   rw [hA.1 rfl]
   exact fin w' (hA.good hg hrd') hret
  | true =>
   obtain ⟨dB,hds,hge,hdB,hnc⟩:=hA.2.1 rfl
   rw [hds]
   have hdB':w'.heap[dB]?=some (.deferred (some [])):=(hg.ext.block _ (lt_of_some hdB) hnc).trans hdB
   refine ⟨by simp,.inl ⟨dB,_,rfl,run_takeDeferred hdB',?_⟩⟩
   refine fin _ ?_ hret
   have hlv:∀ b,liveB g st' b->b ≠ dB:=fun b hb e=>by subst e;obtain ⟨_,_,h3⟩:=liveB_cells hg hb;rw [hdB'] at h3;cases h3
   have hrv:∀ b vs,g.ro b=some vs->b ≠ dB:=fun b vs hb e=>by subst e;obtain ⟨_,_,h3⟩:=ro_cells hg hb;rw [hdB'] at h3;cases h3
   have hgE:=hA.good hg hrd'
   have h5:Good E (w'.putObj dB (.deferred none)) (reM g st') g st' (w'.putObj dB (.deferred none)):=hg.re hrd' (reM_fit g st') (fun b hb=>World.putObj_heap_other (hlv b hb)) fun b vs hb=>World.putObj_heap_other (hrv b vs hb)
   refine ⟨⟨hgE.ext.os,hgE.ext.tape,hgE.ext.output,?_,fun b hb hc=>?_⟩,h5.ro,h5.res,hgE.sep,hgE.fresh,hgE.wro,(fun m hm=>by rw [hrd'] at hm;cases hm),(fun h=>absurd hrd' h),hgE.roo,hgE.rho,hgE.pin,hgE.keep⟩
   ·have:(w'.putObj dB (.deferred none)).heap.size=w'.heap.size:=by simp
    rw [this];exact hgE.ext.size
   ·rw [World.putObj_heap_other (by omega)]
    exact hgE.ext.block b hb hc
 cases xk with
 | normal=>exact leave hk
 | ret=>exact leave hk
 | exit id=>exact hk.elim
end
end Go.SE

namespace Go.SE
open Go.RowKit
section
variable (tab:TypeId->Option TI) (K:FuncId->Option Con) (pts:FuncId->Option PT) (hp:Nat->Bool) (gcs:Nat->Option (List Nat × List Nat)) (anns:Nat->St->Unit->Option (AnnY Unit)) (perm:Nat->List (List Nat)) (n:Nat)
def roundVC (A:RAnn) (T:CG) (st:St) (p:Nat) (assign body:Code) (Qs:XK->St->Bool->Prop):Prop :=
 ∀ i c0 c1 c2 c3 c4 c5 c6 c7 c8,T[i]?=some [c0,c1,c2,c3,c4,c5,c6,c7,c8]->(T.take i).all A.go=true->vcY tab K pts noSp noSpU (fun _=>false) hp gcs anns perm assign (St.put (rH A st i) (some p) (.s (.vec .int [c0,c1,c2,c3,c4,c5,c6,c7,c8]))) ()
  (seqY (fun st1 _=>st1.rd=none/\vcY tab K pts noSp noSpU (fun _=>false) hp gcs anns perm body st1 () (bodyQ A.go (rH A st) (ftR A st) (fun _ st'=>Qs .ret st' true) i [c0,c1,c2,c3,c4,c5,c6,c7,c8])) fun _ _ _=>False)
theorem nine {c:List Int} (h:c.length=9):∃ c0 c1 c2 c3 c4 c5 c6 c7 c8,c=[c0,c1,c2,c3,c4,c5,c6,c7,c8]:=by
 match c,h with
 | [c0,c1,c2,c3,c4,c5,c6,c7,c8],_=>exact ⟨c0,c1,c2,c3,c4,c5,c6,c7,c8,rfl⟩
def roundOk (p:Nat) (assign body:Code):Bool :=
 decide (p < n) && (codeOkY tab K hp perm false n assign && (noOO gcs assign && (codeOkY tab K hp perm false n body && noOO gcs body)))
def boxOk (A:RAnn) (st:St) (i1 i2:Nat):Bool :=
 gcB A.live A.ids st && (!inL A.ids i1 && (!inL A.ids i2 && (!(i1 == i2) && (A.ids.all (fun j=>!st.sp j && !st.fr j) && ((!st.sp i1 && !st.fr i1) && (!st.sp i2 && !st.fr i2))))))
def spR3 (f1:FuncId) (pre:GAsn->Int->Prop) (en:GAsn->Int->CG) (p:Nat) (assign body:Code) (st:St) (g i1 i2:Nat):Option Res->Option Res->Option RAnn->Option ((XK->St->Bool->Prop)->Prop)
 | some (.blk [.d (.arr .fact fs),.d (.arr .atom xs)]),some (.blk [.d (.val (.int .u16 tm))]),some A =>
  some fun Qs=>((g=f1/\st.rd=none/\pre ⟨fs,xs⟩ tm)/\(boxOk A st i1 i2 && roundOk tab K hp gcs perm n p assign body)=true/\ftR A st 0 (dropR A st)) /\
   roundVC tab K pts hp gcs anns perm A (en ⟨fs,xs⟩ tm) st p assign body Qs/\((en ⟨fs,xs⟩ tm).all A.go=true->Qs .normal (rH A st (en ⟨fs,xs⟩ tm).length) true)
 | _,_,_=>none
def spR2 (f1:FuncId) (pre:GAsn->Int->Prop) (en:GAsn->Int->CG) (ann:St->Option RAnn) (p:Nat) (assign body:Code) (st:St):S->Option ((XK->St->Bool->Prop)->Prop)
 | .s (.c (.fn g [i1,i2]))=>spR3 tab K pts hp gcs anns perm n f1 pre en p assign body st g i1 i2 (st.mem i1) (st.mem i2) (ann st)
 | _=>none
def spR (f1:FuncId) (pre:GAsn->Int->Prop) (en:GAsn->Int->CG) (ann:St->Option RAnn):SpCode Bool:=fun f ps x c st γ =>
 match γ,f,ps with
 | false,.tmp t,⟨[p]⟩=>spR2 tab K pts hp gcs anns perm n f1 pre en ann p x c st (st.env t)
 | _,_,_=>none
end
section
variable {P:Program} {E:Ty->TypeId} {n m:Nat} {tab:TypeId->Option TI} {K:FuncId->Option Con} {pts:FuncId->Option PT} {hp:Nat->Bool} {gcs:Nat->Option (List Nat × List Nat)} {anns:Nat->St->Unit->Option (AnnY Unit)} {perm:Nat->List (List Nat)}
theorem spR_ok (ht:TabOk P E tab) (hKA:KAll P E K) (hPA:PAll P E pts) (hmix:P.follows .mixedOrders=true) {f1:FuncId} {pre:GAsn->Int->Prop} {en:GAsn->Int->CG} (hit:ItOk P f1 pre en) (hlen:∀ a tm,pre a tm->∀ c ∈ en a tm,c.length=9) (eg:∀ args w,(callFunc f1 args).run P w=.ok (.enter f1 args) w)
  {wE:World} {ro0:Nat->Option (Array Value)} {ρ:Nat} {ann:St->Option RAnn}:SpcOk Fence.wide m P E (AC wE ro0 ρ) n (spR tab K pts hp gcs anns perm n f1 pre en ann):=by
 intro f ps x c st γ g hs Qs a w Q h hg hQ
 unfold spR at hs
 split at hs
 ·rename_i t p
  unfold spR2 at hs
  split at hs
  ·rename_i g1 i1 i2 he
   unfold spR3 at hs
   split at hs
   ·rename_i fs xs tm A hm1 hm2 hann
    injection hs with hs
    subst hs
    obtain ⟨⟨⟨rfl,hrd,hpre⟩,hb,hft⟩,hv,hend⟩:=hg
    simp only [boxOk,roundOk,Bool.and_eq_true,Bool.not_eq_true',decide_eq_true_eq,beq_eq_false_iff_ne] at hb
    obtain ⟨⟨b1,b2,b3,b4,b5,b6,b7⟩,c1,c2,c3,c4,c5⟩:=hb
    exact range_sound ht hKA hPA hmix hit eg h he hm1 hm2 hrd hpre b1 b2 b3 b4 (by simpa using b5) (by simpa using b6) (by simpa using b7) hft c1 c2 c3 c4 c5 (fun i c hi=>by
     obtain ⟨c0,c1,c2,c3,c4,c5,c6,c7,c8,rfl⟩:=nine (hlen _ _ hpre c (List.mem_of_getElem? hi))
     exact hv i c0 c1 c2 c3 c4 c5 c6 c7 c8 hi) hend hQ
   ·cases hs
  ·cases hs
 ·cases hs
theorem run_callFunc {f : FuncId} {fn : Func} {c : Code} (hf : P.funcs[f]? = some fn) (hname : (fn.name == "runtime.NumGoroutine") = false) (hb : fn.body = some c) : ∀ args w, (callFunc f args).run P w = .ok (.enter f args) w := by
 intro args w
 have hn : ¬ fn.name = "runtime.NumGoroutine" := by simpa using hname
 simp [callFunc,hf,hn,hb]
end
end Go.SE

namespace Go.SE
open Go.RowKit
def vecAt (st:St) (id:Nat):List Int :=
 match st.mem id with
 | some (.vec .int xs)=>xs
 | _=>[]
section
variable {P:Program} {E:Ty->TypeId} {tab:TypeId->Option TI} {hp:Nat->Bool} {gcs:Nat->Option (List Nat × List Nat)} {perm:Nat->List (List Nat)}
theorem fnR_ok {l:List (FuncId × Con)} {lp:List (FuncId × PT)} (ht:TabOk P E tab) (hmix:P.follows .mixedOrders=true) (hl:AllOk P E l) (hlp:AllPt P E lp) {f:FuncId} {fn:Func} {con:Con} (hcr:hasRdr con.aks=false) (hf:P.funcs[f]?=some fn)
  (hb : fn.body = some (bodyOf fn)) (hname : (fn.name == "runtime.NumGoroutine") = false) (hn : con.aks.length <= fn.ntmps) (hok : codeOkY tab (lookF l) hp perm true fn.ntmps (bodyOf fn) = true) {spc : Args con.aks -> SpCode Bool} {anns : Args con.aks -> Nat -> St -> Bool -> Option (AnnY Bool)}
  (hspc:∀ x,con.pre x->∀ wE ro0 ρ,SpcOk Fence.wide 0 P E (AC wE ro0 ρ) fn.ntmps (spc x))
  (hvc:∀ x,con.pre x->vcY tab (lookF l) (lookP lp) noSpB (spc x) (fun b=>!b) hp gcs (anns x) perm (bodyOf fn) (entry (encs con.aks x) none) false (retR tab con fn.results.toList x))
  (htot:∀ x,con.pre x->∃ r,con.post x r):FnOk P E f con :=
 ⟨⟨fn,_,hf,hname,hb⟩,fnR_sound ht (kall_of hl) (pall_of hlp) hmix (fun _ _ _=>draw_sound ht (tab_small ht) (kall_of hl) hmix _ _ _) hcr hf hb hn hok hspc hvc,htot⟩
theorem ext_none {P:Program} {J:JJ CG} {fid l:Nat} {go:List Int->Bool} {T:CG} {a:GAsn} {tm t:Int}:ExtOk P J fid l go T a tm t (fun c=>List.replicate (T.length+1) c):=by
 intro c w γ D ro0 ρ vs _ _ _ _ _ _ hT
 have:=hT.length_le
 simp at this
 omega
end
section
variable {a:GAsn} {en:List Int->CG} {n:Nat} {c:List Int} {p:Nat × List Int} {go:List Int->Bool} {γ T L:CG}
abbrev flC (a:GAsn) (en:List Int->CG) (n:Nat) (c:List Int) (k:Nat):CG:=(List.range k).flatMap (brC (poss a) en n c)
theorem fl_succ (k:Nat):flC a en n c (k+1)=flC a en n c k ++ brC (poss a) en n c k:=by
 unfold flC
 rw [List.range_succ,List.flatMap_append]
 simp
theorem fl_get (hset:∀ x:Int,p.2.set n x=c.set n x) {k:Nat} (hk:k ≠ n):p.2.getD k 0=c.getD k 0:=by
 have:=congrArg (fun l=>l.getD k 0) (hset 0)
 simpa only [getD_set_ne hk] using this
theorem fl_skip (hset:∀ x:Int,p.2.set n x=c.set n x) (hlt:(p.1:Int) < n) (hne:¬ p.2.getD p.1 0=(p.1:Int)):flC a en n c (p.1+1)=flC a en n c p.1:=by
 rw [fl_succ]
 unfold brC
 rw [← fl_get hset (by omega)]
 have h1:(p.1 == n)=false:=by simp;omega
 have h2:(p.2.getD p.1 0 == (p.1:Int))=false:=by simpa using hne
 rw [h1,h2]
 simp
theorem fl_no (hset:∀ x:Int,p.2.set n x=c.set n x) (hp:possI a (p.2.set n (p.1:Int)) (n:Int)=false):flC a en n c (p.1+1)=flC a en n c p.1:=by
 rw [fl_succ]
 unfold brC poss
 rw [hset] at hp
 rw [hp]
 simp
theorem fl_yes (hset:∀ x:Int,p.2.set n x=c.set n x) (h1:¬ (p.1:Int) < n ∨ p.2.getD p.1 0=(p.1:Int)) (hle:(p.1:Int)<=n) (hp:possI a (p.2.set n (p.1:Int)) (n:Int)=true):flC a en n c (p.1+1)=flC a en n c p.1 ++ en (p.2.set n (p.1:Int)):=by
 rw [fl_succ]
 unfold brC poss
 rw [hset] at hp ⊢
 rw [hp]
 have:(p.1 == n || c.getD p.1 0 == (p.1:Int))=true:=by
  by_cases e:p.1=n
  ·simp [e]
  ·rcases h1 with h1 | h1
   ·omega
   ·rw [← fl_get hset e,h1];simp
 rw [this]
 rfl
theorem fl_part {k m:Nat} (h:k<=m):∃ r,flC a en n c m=flC a en n c k ++ r:=by
 induction m with
 | zero=>have:k=0:=by omega
         subst this;exact ⟨[],by simp⟩
 | succ m ih =>
  by_cases e:k=m+1
  ·subst e;exact ⟨[],by simp⟩
  ·obtain ⟨r,hr⟩:=ih (by omega)
   exact ⟨r ++ brC (poss a) en n c m,by rw [fl_succ,hr,List.append_assoc]⟩
theorem fl_key (hL:L=flC a en n c (n+1)) (hset:∀ x:Int,p.2.set n x=c.set n x) (h1:¬ (p.1:Int) < n ∨ p.2.getD p.1 0=(p.1:Int)) (hle:(p.1:Int)<=n) (hp:possI a (p.2.set n (p.1:Int)) (n:Int)=true):∃ r,L=flC a en n c p.1 ++ (en (p.2.set n (p.1:Int)) ++ r):=by
 obtain ⟨r,hr⟩:=fl_part (a:=a) (en:=en) (n:=n) (c:=c) (k:=p.1+1) (m:=n+1) (by omega)
 exact ⟨r,by rw [hL,hr,fl_yes hset h1 hle hp,List.append_assoc]⟩
theorem fl_pre (hL:L=flC a en n c (n+1)) (hset:∀ x:Int,p.2.set n x=c.set n x) (h1:¬ (p.1:Int) < n ∨ p.2.getD p.1 0=(p.1:Int)) (hle:(p.1:Int)<=n) (hp:possI a (p.2.set n (p.1:Int)) (n:Int)=true) (hT:γ ++ L <+: T):γ ++ flC a en n c p.1 ++ en (p.2.set n (p.1:Int)) <+: T:=by
 obtain ⟨r,hr⟩:=fl_key hL hset h1 hle hp
 refine List.IsPrefix.trans ?_ hT
 rw [hr]
 exact ⟨r,by simp⟩
theorem fl_all (hL:L=flC a en n c (n+1)) (hset:∀ x:Int,p.2.set n x=c.set n x) (h1:¬ (p.1:Int) < n ∨ p.2.getD p.1 0=(p.1:Int)) (hle:(p.1:Int)<=n) (hp:possI a (p.2.set n (p.1:Int)) (n:Int)=true) (hg:(en (p.2.set n (p.1:Int))).all go=false) (hf:(flC a en n c p.1).all go=true):false=L.all go/\γ ++ flC a en n c p.1 ++ upTo go (en (p.2.set n (p.1:Int)))=γ ++ upTo go L:=by
 obtain ⟨r,hr⟩:=fl_key hL hset h1 hle hp
 rw [hr]
 refine ⟨by rw [List.all_append,List.all_append,hg];simp,?_⟩
 rw [upTo_append,hf,cond_true,upTo_append,hg,cond_false,List.append_assoc]
theorem fl_end (hL:L=flC a en n c (n+1)) (hp:p.1<=n+1) (hle:¬ (p.1:Int)<=n) (hf:(flC a en n c p.1).all go=true):true=L.all go/\γ ++ flC a en n c p.1=γ ++ upTo go L:=by
 have:p.1=n+1:=by omega
 rw [this] at hf ⊢
 rw [hL,hf,upTo_all hf]
 exact ⟨rfl,rfl⟩
end
end Go.SE

namespace Go.SE
open Go.RowKit
def hz (a:GAsn) (q:Int->Bool):Nat->Bool:=fun k=>isT (k:Int) && (((k:Int) == 0) || (occ a k || q k))
def casesF (a:GAsn):CG:=casesB a (hz a fun _=>false)
theorem tsOr {x y:Int} (hx0:0<=x) (hx:x < 512) (hy0:0<=y) (hy:y < 512):0<=bits .or .u16 x y/\bits .or .u16 x y < 512/\∀ t,tsHas (bits .or .u16 x y) t=(tsHas x t || tsHas y t):=by
 rw [u16_or _ _ hx0 (by omega) hy0 (by omega)]
 refine ⟨by omega,?_,fun t=>?_⟩
 ·have h1:x.toNat < 2 ^ 9:=by omega
  have h2:y.toNat < 2 ^ 9:=by omega
  have:=Nat.or_lt_two_pow h1 h2
  omega
 ·simp only [tsHas,Int.toNat_natCast,Nat.testBit_or]
  cases isT t <;> simp
theorem itEn_or {a:GAsn} (ha:asV a=true) {s:Int} (h0:0<=s) (h1:s < 512):itEn a (bits .or .u16 (tsWith (tsA a) 0) s)=casesB a (hz a (tsHas s))/\itPre a (bits .or .u16 (tsWith (tsA a) 0) s):=by
 have hb:=tsA_bd a
 have hw:=tsWith_bd (t:=0) hb.1 hb.2
 obtain ⟨o1,o2,o3⟩:=tsOr hw.1 hw.2 h0 h1
 refine ⟨?_,ha,o1,o2⟩
 unfold itEn
 have:hasN (bits .or .u16 (tsWith (tsA a) 0) s)=hz a (tsHas s):=by
  funext k
  unfold hasN hz
  rw [o3,tsHas_with hb.1 rfl,tsA_has ha]
  cases hk:isT (k:Int) with
  | true =>
   rw [Bool.true_and,BEq.comm]
   cases occ a (k:Int) <;> cases ((k:Int) == 0) <;> cases tsHas s (k:Int) <;> rfl
  | false =>
   have e1:occ a (k:Int)=false:=by rw [← tsA_has ha];simp [tsHas,hk]
   have e2:((0:Int) == (k:Int))=false:=by
    cases h:((0:Int) == (k:Int)) with
    | false=>rfl
    | true=>have:(0:Int)=(k:Int):=by simpa using h
            rw [← this] at hk;cases hk
   have e3:tsHas s (k:Int)=false:=by simp [tsHas,hk]
   rw [e1,e2,e3];rfl
 rw [this]
theorem hz_congr {a:GAsn} {q r:Int->Bool} (h:∀ k:Int,isT k=true->q k=r k):hz a q=hz a r:=by
 funext k
 unfold hz
 cases hk:isT (k:Int) with
 | false=>rfl
 | true=>rw [h _ hk]
theorem itEn_zero {a:GAsn} (ha:asV a=true):itEn a (bits .or .u16 (tsWith (tsA a) 0) 0)=casesF a:=by
 rw [(itEn_or ha (by decide) (by decide)).1]
 unfold casesF
 rw [hz_congr fun k _=>tsHas_zero k]
theorem asV_small {a:GAsn} (ha:asV a=true):a.facts.length<=281474976710656/\a.atoms.length<=281474976710656:=by
 have:=asV_facts ha
 omega
theorem hz_named {a:GAsn} (ha:asV a=true) (q:Int->Bool):Named a (hz a q):=by
 obtain ⟨h1,_,h2,_⟩:=asV_facts ha
 have key:∀ t:Int,isT t=true->occ a t=true->0<=t/\t<=8/\hz a q t.toNat=true:=fun t ht ho=>by
  obtain ⟨h3,h4⟩:=isT_iff.1 ht
  refine ⟨h3,h4,?_⟩
  unfold hz
  have:((t.toNat:Nat):Int)=t:=by omega
  rw [this,ht,ho]
  simp
 refine ⟨fun f hf=>?_,fun x hx=>?_⟩
 ·have hv:=fV_isT (List.all_eq_true.1 h1 f hf)
  obtain ⟨a1,a2,a3⟩:=key f.a hv.1 (by unfold occ occF;rw [List.any_eq_true.2 ⟨f,hf,by simp⟩];rfl)
  obtain ⟨b1,b2,b3⟩:=key f.b hv.2 (by unfold occ occF;rw [List.any_eq_true.2 ⟨f,hf,by simp⟩];rfl)
  exact ⟨a1,a2,b1,b2,a3,b3⟩
 ·have hv:=atV_isT (List.all_eq_true.1 h2 x hx)
  have ho:∀ t,(x.a == t || x.b == t)=true->occ a t=true:=fun t ht=>by
   unfold occ occG
   rw [List.any_eq_true.2 ⟨x,hx,ht⟩,Bool.or_true]
  obtain ⟨a1,a2,a3⟩:=key x.a hv.1 (ho _ (by simp))
  obtain ⟨b1,b2,b3⟩:=key x.b hv.2 (ho _ (by simp))
  exact ⟨a1,a2,b1,b2,a3,b3⟩
section
variable {α:Type} {L:List α} {q:α->Bool} {i:Nat} {c d:α}
theorem first_hit (h:L[i]?=some c) (ht:(L.take i).all q=true) (hq:q c=false):(L.filter fun x=>!q x).headD d=c/\(L.filter fun x=>!q x).isEmpty=false/\L.all q=false:=by
 have hi:=(List.getElem?_eq_some_iff.1 h).1
 have e:L=L.take i ++ (c :: L.drop (i+1)):=by
  have h2:L.drop i=c :: L.drop (i+1):=by
   rw [List.drop_eq_getElem_cons hi]
   rw [List.getElem?_eq_getElem hi] at h
   injection h with h
   rw [h]
  rw [← h2,List.take_append_drop]
 have hf:(L.take i).filter (fun x=>!q x)=[]:=by
  rw [List.filter_eq_nil_iff]
  intro x hx
  rw [List.all_eq_true.1 ht x hx]
  simp
 have e2:L.filter (fun x=>!q x)=c :: (L.drop (i+1)).filter fun x=>!q x:=by
  conv=>lhs;rw [e]
  rw [List.filter_append,hf,List.nil_append,List.filter_cons,hq]
  simp
 refine ⟨by rw [e2];rfl,by rw [e2];rfl,?_⟩
 rw [List.all_eq_false]
 exact ⟨c,List.mem_of_getElem? h,by rw [hq];simp⟩
theorem first_none (h:L.all q=true):(L.filter fun x=>!q x)=[]:=by
 rw [List.filter_eq_nil_iff]
 intro x hx
 rw [List.all_eq_true.1 h x hx]
 simp
theorem filter_true:(L.filter fun _=>!false)=L:=List.filter_eq_self.2 fun _ _=>rfl
theorem head_hit (h:L[i]?=some c) (ht:(L.take i).all (fun _=>false)=true):c=L.headD d/\true=!L.isEmpty:=by
 obtain ⟨h1,h2,_⟩:=first_hit (d:=d) h ht rfl
 rw [filter_true] at h1 h2
 exact ⟨h1.symm,by rw [h2];rfl⟩
theorem head_none (h:L.all (fun _=>false)=true):d=L.headD d/\false=!L.isEmpty:=by
 have h1:=first_none h
 rw [filter_true] at h1
 subst h1
 exact ⟨rfl,rfl⟩
end
theorem casesF_len (a:GAsn):(List.headD (casesF a) (List.replicate 9 0)).length=9:=by
 cases h:casesF a with
 | nil=>rfl
 | cons c l=>exact enumC_len _ _ _ c (by show c ∈ casesF a;rw [h];simp)
theorem sFit_step {c:List Int} {l:List GFact} {i:Nat} {d:GFact} (h:i < l.length) :
  sFit (l.take (i+1)) c=(sFit (l.take i) c && (!(decide (0<=cl c (l.getD i d).a) && decide (0<=cl c (l.getD i d).b)) || fh c (l.getD i d))):=by
 have e:l.take (i+1)=l.take i ++ [l.getD i d]:=by
  rw [List.take_add_one,List.getD_eq_getElem?_getD,List.getElem?_eq_getElem h];rfl
 unfold sFit
 rw [e,List.all_append]
 simp
theorem sFit_no {c:List Int} {l:List GFact} {i:Nat} {d:GFact} (h:i < l.length) (h1:0<=cl c (l.getD i d).a) (h2:0<=cl c (l.getD i d).b) (h3:fh c (l.getD i d)=false):sFit l c=false:=by
 unfold sFit
 rw [List.all_eq_false]
 refine ⟨l.getD i d,?_,?_⟩
 ·rw [List.getD_eq_getElem?_getD,List.getElem?_eq_getElem h];exact List.getElem_mem h
 ·rw [decide_eq_true h1,decide_eq_true h2,h3];simp
theorem est_step {c:List Int} {l:List GAtom} {i:Nat} {d:GAtom} (h:i < l.length) :
  est c (l.take (i+1))=cond (stE c (l.getD i d)) (est c (l.take i) ++ [cl c (l.getD i d).a]) (est c (l.take i)):=by
 have e:l.take (i+1)=l.take i ++ [l.getD i d]:=by
  rw [List.take_add_one,List.getD_eq_getElem?_getD,List.getElem?_eq_getElem h];rfl
 unfold est
 rw [e,List.filter_append,List.map_append]
 generalize l.getD i d=y
 cases hb:stE c y <;> simp [List.filter,hb]
theorem est_pre (c:List Int) (l:List GAtom) (i:Nat):∃ r,est c l=est c (l.take i) ++ r:=by
 refine ⟨est c (l.drop i),?_⟩
 unfold est
 rw [← List.map_append,← List.filter_append,List.take_append_drop]
theorem est_skip {c:List Int} {l:List GAtom} {i:Nat} {d:GAtom} (h:i < l.length) (h1:stE c (l.getD i d)=false):est c (l.take (i+1))=est c (l.take i):=by
 rw [est_step (d:=d) h,h1,cond_false]
theorem sEarly_no {c:List Int} {l:List GAtom} {i:Nat} {d:GAtom} (h:i < l.length) (h1:stE c (l.getD i d)=true) (h2:cl c (l.getD i d).a=0 ∨ (isT (cl c (l.getD i d).a)=true/\(est c (l.take i)).contains (cl c (l.getD i d).a)=true)):sEarly l c=false:=by
 unfold sEarly
 cases ho:okS [] (est c l) with
 | false=>rfl
 | true =>
  obtain ⟨r,hr⟩:=est_pre c l (i+1)
  rw [hr] at ho
  have h3:=okS_pre _ _ _ ho
  rw [est_step (d:=d) h,h1,cond_true,okS_append] at h3
  simp only [Bool.and_eq_true,Bool.not_eq_true',beq_eq_false_iff_ne] at h3
  rcases h2 with h2 | ⟨h2,h4⟩
  ·exact (h3.2.1 h2).elim
  ·have h5:=h3.2.2
   rw [h2,h4] at h5
   simp at h5
theorem sEarly_go {c:List Int} {l:List GAtom} {i:Nat} {d:GAtom} (h:i < l.length) (h0:okS [] (est c (l.take i))=true) (h1:stE c (l.getD i d)=true) (h2:cl c (l.getD i d).a ≠ 0) (h3:isT (cl c (l.getD i d).a)=true) (h4:(est c (l.take i)).contains (cl c (l.getD i d).a)=false) :
  okS [] (est c (l.take (i+1)))=true/\(fl9 fun t=>(est c (l.take i)).contains t).set (cl c (l.getD i d).a).toNat true=fl9 fun t=>(est c (l.take (i+1))).contains t:=by
 rw [est_step (d:=d) h,h1,cond_true,okS_append,h0,h4,fl9_set h3]
 refine ⟨by rw [beq_eq_false_iff_ne.2 h2];simp,fl9_congr fun t=>?_⟩
 rw [Bool.eq_iff_iff,Bool.or_eq_true,List.contains_iff_mem,List.contains_iff_mem,List.mem_append,List.mem_singleton,beq_iff_eq]
 exact ⟨fun h=>h.imp id Eq.symm,fun h=>h.imp id Eq.symm⟩
theorem sApart_step {l:List GAtom} {i:Nat} {d:GAtom} (h:i < l.length):sApart (l.take (i+1))=(sApart (l.take i) && (!((l.getD i d).a == 0) && (l.take i).all fun x=>!(x.a == (l.getD i d).a))):=by
 have e:l.take (i+1)=l.take i ++ [l.getD i d]:=by
  rw [List.take_add_one,List.getD_eq_getElem?_getD,List.getElem?_eq_getElem h];rfl
 have okN_append:∀ (x:Int) (l s:List Int),okN s (l ++ [x])=(okN s l && (!(x == 0) && !(s.contains x || l.contains x))):=by
  intro x l
  induction l with
  | nil=>intro s;simp [okN]
  | cons y l ih =>
   intro s
   simp only [List.cons_append,okN,ih,List.contains_cons]
   cases h1:(y == 0) <;> cases h2:(x == 0) <;> cases h4:(x == y) <;> cases h5:s.contains x <;> cases h6:l.contains x <;> cases h8:s.contains y <;> simp
 unfold sApart
 rw [e,List.map_append,List.map_cons,List.map_nil,okN_append]
 congr 2
 rw [List.contains_nil,Bool.false_or]
 generalize l.take i=m
 induction m with
 | nil=>rfl
 | cons y m ih =>
  simp only [List.map_cons,List.contains_cons,List.all_cons,← ih,Bool.not_or]
  congr 2
  exact BEq.comm
theorem sApart_pre {l:List GAtom} {i:Nat} (h:sApart (l.take i)=false):sApart l=false:=by
 have okN_pre:∀ (l s r:List Int),okN s (l ++ r)=true->okN s l=true:=by
  intro l
  induction l with
  | nil=>intros;rfl
  | cons y l ih =>
   intro s r h
   simp only [List.cons_append,okN,Bool.and_eq_true] at h ⊢
   exact ⟨h.1,h.2.1,ih _ _ h.2.2⟩
 cases hs:sApart l with
 | false=>rfl
 | true =>
  unfold sApart at hs h
  rw [← List.take_append_drop i l,List.map_append] at hs
  rw [okN_pre _ _ _ hs] at h
  cases h
theorem sApart_zero {l:List GAtom} {i:Nat} {d:GAtom} (h:i < l.length) (h0:(l.getD i d).a=0):sApart l=false:=by
 refine sApart_pre (i:=i+1) ?_
 rw [sApart_step (d:=d) h,h0];simp
theorem sApart_two {l:List GAtom} {i j:Nat} {d:GAtom} (h:i < l.length) (hj:j < i) (h0:(l.getD j d).a=(l.getD i d).a):sApart l=false:=by
 refine sApart_pre (i:=i+1) ?_
 rw [sApart_step (d:=d) h]
 have:((l.take i).all fun x=>!(x.a == (l.getD i d).a))=false:=by
  rw [List.all_eq_false]
  refine ⟨l.getD j d,?_,by rw [h0,beq_self_eq_true];simp⟩
  rw [List.getD_eq_getElem?_getD,List.getElem?_eq_getElem (by omega)]
  exact List.mem_take_iff_getElem.2 ⟨j,by omega,rfl⟩
 rw [this];simp
theorem apart_in {l:List GAtom} {i j:Nat} {d:GAtom} (hj:j < l.length) (h:((l.take j).all fun x=>!(x.a == (l.getD i d).a))=true) (h0:(l.getD j d).a ≠ (l.getD i d).a):((l.take (j+1)).all fun x=>!(x.a == (l.getD i d).a))=true:=by
 have e:l.take (j+1)=l.take j ++ [l.getD j d]:=by
  rw [List.take_add_one,List.getD_eq_getElem?_getD,List.getElem?_eq_getElem hj];rfl
 rw [e,List.all_append,h,List.all_cons,beq_eq_false_iff_ne.2 h0]
 rfl
theorem fL_step {c:List Int} {l:List GAtom} {i:Nat} {d:GAtom} (h:i < l.length) :
  fL c (l.take (i+1))=cond (filB c (l.getD i d)) (fL c (l.take i) ++ [⟨(l.getD i d).kind,cl c (l.getD i d).a,cl c (l.getD i d).b⟩]) (fL c (l.take i)):=by
 have e:l.take (i+1)=l.take i ++ [l.getD i d]:=by
  rw [List.take_add_one,List.getD_eq_getElem?_getD,List.getElem?_eq_getElem h];rfl
 unfold fL
 rw [e,List.map_append,List.filter_append]
 generalize l.getD i d=y
 have:filB c y=(y.kind == 1 || !(cl c y.a == cl c y.b)):=rfl
 cases hb:filB c y <;> rw [this] at hb <;> simp [List.filter,hb]
theorem fL_len (c:List Int) (l:List GAtom):(fL c l).length<=l.length:=by
 unfold fL
 exact Nat.le_trans (List.length_filter_le _ _) (by simp)
def vA (a:GAsn):Bool:=a.facts.all fV && (a.atoms.all atV && (decide (a.facts.length<=1000) && decide (a.atoms.length<=1000)))
theorem vA_iff {a:GAsn}:vA a=true ↔ a.facts.all fV=true/\a.atoms.all atV=true/\a.facts.length<=1000/\a.atoms.length<=1000:=by
 unfold vA;simp only [Bool.and_eq_true,decide_eq_true_eq]
def le8 (c:List Int):Bool:=c.all fun x=>decide (x<=8)
theorem le8_get {c:List Int} (h:le8 c=true) (t:Int):cl c t<=8:=by
 unfold cl
 rw [List.getD_eq_getElem?_getD]
 by_cases hi:t.toNat < c.length
 ·rw [List.getElem?_eq_getElem hi]
  have:=List.all_eq_true.1 h _ (List.getElem_mem hi)
  simpa using this
 ·rw [List.getElem?_eq_none (by omega)];decide
theorem le8_set {c:List Int} (h:le8 c=true) {k:Nat} {x:Int} (hx:x<=8):le8 (c.set k x)=true:=by
 unfold le8 at h ⊢
 rw [List.all_eq_true] at h ⊢
 intro y hy
 rcases List.mem_or_eq_of_mem_set hy with hy | rfl
 ·exact h y hy
 ·simpa using hx
def sQ (fin:List Int->Bool) (a:GAsn) (tm:List Bool) (c:List Int) (t:Int):CG:=sEn (sFits a) fin (fun k=>tm.getD k false) (9 - t).toNat t.toNat c
def brE (fin:List Int->Bool) (a:GAsn) (tm:List Bool) (c:List Int) (t:Int) (j:Nat):CG:=cond (decide ((j:Int)=t) || c.getD j 0 == (j:Int)) (sQ fin a tm (c.set t.toNat (j:Int)) (t+1)) []
theorem sQ_last {fin:List Int->Bool} {a:GAsn} {tm:List Bool} {c:List Int} {t:Int} (h:8 < t):sQ fin a tm c t=cond (sFits a c) (cond (fin c) [c] []) []:=by
 unfold sQ
 rw [show (9 - t).toNat=0 by omega]
 rfl
theorem sQ_bad {fin:List Int->Bool} {a:GAsn} {tm:List Bool} {c:List Int} {t:Int} (h:sFits a c=false):sQ fin a tm c t=[]:=by
 unfold sQ
 generalize (9 - t).toNat=f
 cases f <;> simp only [sEn,h,cond_false]
theorem sQ_skip {fin:List Int->Bool} {a:GAsn} {tm:List Bool} {c:List Int} {t:Int} (h:¬ 8 < t) (h0:0<=t) (hf:sFits a c=true) (ht:tm.getD t.toNat false=false):sQ fin a tm c t=sQ fin a tm c (t+1):=by
 unfold sQ
 rw [show (9 - t).toNat=(9 - (t+1)).toNat+1 by omega,show (t+1).toNat=t.toNat+1 by omega]
 simp only [sEn,hf,ht,cond_true,cond_false]
theorem sQ_all {fin:List Int->Bool} {a:GAsn} {tm:List Bool} {c:List Int} {t:Int} (h:¬ 8 < t) (h0:0<=t) (hf:sFits a c=true) (ht:tm.getD t.toNat false=true):sQ fin a tm c t=(List.range (t.toNat+1)).flatMap (brE fin a tm c t):=by
 unfold sQ
 rw [show (9 - t).toNat=(9 - (t+1)).toNat+1 by omega]
 simp only [sEn,hf,ht,cond_true]
 refine flatMap_congr' fun k hk=>?_
 unfold brE sQ
 rw [show (t+1).toNat=t.toNat+1 by omega]
 congr 2
 rw [Bool.eq_iff_iff]
 simp
 omega
theorem sQ_none {fin:List Int->Bool} {a:GAsn} {tm:List Bool} {c:List Int} {t:Int} {i:Nat} (h:¬ 8 < t) (h0:0<=t) (hf:sFits a c=true) (ht:tm.getD t.toNat false=true) (hi:∀ j,j < i->brE fin a tm c t j=[]) (he:¬ (i:Int)<=t):sQ fin a tm c t=[]:=by
 rw [sQ_all h h0 hf ht]
 exact fm_none fun j hj=>hi j (by omega)
theorem sQ_hit {fin:List Int->Bool} {a:GAsn} {tm:List Bool} {c:List Int} {t:Int} {i:Nat} (h:¬ 8 < t) (h0:0<=t) (hf:sFits a c=true) (ht:tm.getD t.toNat false=true) (hi:∀ j,j < i->brE fin a tm c t j=[]) (he:(i:Int)<=t) (hg:(i:Int)=t ∨ c.getD i 0=(i:Int)) (hb:(sQ fin a tm (c.set t.toNat (i:Int)) (t+1)).isEmpty=false) :
  (sQ fin a tm c t).headD []=(sQ fin a tm (c.set t.toNat (i:Int)) (t+1)).headD []/\(sQ fin a tm c t).isEmpty=false:=by
 have e:brE fin a tm c t i=sQ fin a tm (c.set t.toNat (i:Int)) (t+1):=by
  unfold brE
  have:(decide ((i:Int)=t) || c.getD i 0 == (i:Int))=true:=by
   rcases hg with hg | hg
   ·rw [decide_eq_true hg];rfl
   ·rw [hg];simp
  rw [this,cond_true]
 rw [sQ_all h h0 hf ht]
 have:=fm_first (g:=brE fin a tm c t) (n:=t.toNat+1) (i:=i) (by omega) hi (by rw [e];exact hb)
 rw [e] at this
 exact this
theorem brE_skip {fin:List Int->Bool} {a:GAsn} {tm:List Bool} {c:List Int} {t:Int} {i:Nat} (hi:∀ j,j < i->brE fin a tm c t j=[]) (hlt:(i:Int) < t) (hne:c.getD i 0 ≠ (i:Int)):∀ j,j < i+1->brE fin a tm c t j=[]:=fun j hj=>by
 by_cases e:j=i
 ·subst e
  unfold brE
  rw [decide_eq_false (by omega),show (c.getD j 0 == (j:Int))=false by simpa using hne]
  rfl
 ·exact hi j (by omega)
theorem brE_none {fin:List Int->Bool} {a:GAsn} {tm:List Bool} {c:List Int} {t:Int} {i:Nat} (hi:∀ j,j < i->brE fin a tm c t j=[]) (hb:(sQ fin a tm (c.set t.toNat (i:Int)) (t+1)).isEmpty=true):∀ j,j < i+1->brE fin a tm c t j=[]:=fun j hj=>by
 by_cases e:j=i
 ·subst e
  unfold brE
  rw [List.isEmpty_iff.1 hb]
  cases (decide ((j:Int)=t) || c.getD j 0 == (j:Int)) <;> rfl
 ·exact hi j (by omega)
theorem early_leaf {c:List Int} {l:List GAtom} {i:Nat} {d:GAtom} {p:Int->Bool} (h8:le8 c=true) (hk:(l.getD i d).kind=1) (h0:¬ cl c (l.getD i d).a < 0):stE c (l.getD i d)=true/\isT (cl c (l.getD i d).a)=true/\(fl9 p).getD (cl c (l.getD i d).a).toNat false=p (cl c (l.getD i d).a):=by
 have hT:isT (cl c (l.getD i d).a)=true:=isT_iff.2 ⟨by omega,le8_get h8 _⟩
 refine ⟨?_,hT,fl9_get hT⟩
 unfold stE
 rw [hk,decide_eq_true (by omega)];rfl
theorem early_no {c:List Int} {l:List GAtom} {i:Nat} {d:GAtom} (h8:le8 c=true) (h:i < l.length) (hk:(l.getD i d).kind=1) (h0:¬ cl c (l.getD i d).a < 0) (h2:cl c (l.getD i d).a=0 ∨ (fl9 fun t=>(est c (l.take i)).contains t).getD (cl c (l.getD i d).a).toNat false=true):false=sEarly l c:=by
 obtain ⟨e1,e2,e3⟩:=early_leaf (d:=d) (p:=fun t=>(est c (l.take i)).contains t) h8 hk h0
 rw [e3] at h2
 exact (sEarly_no h e1 (h2.imp id fun h=>⟨e2,h⟩)).symm
theorem early_go {c:List Int} {l:List GAtom} {i:Nat} {d:GAtom} (h8:le8 c=true) (h:i < l.length) (hk:(l.getD i d).kind=1) (h0:¬ cl c (l.getD i d).a < 0) (hs:okS [] (est c (l.take i))=true) (h2:¬ cl c (l.getD i d).a=0) (h3:(fl9 fun t=>(est c (l.take i)).contains t).getD (cl c (l.getD i d).a).toNat false=false) :
  okS [] (est c (l.take (i+1)))=true/\(fl9 fun t=>(est c (l.take i)).contains t).set (cl c (l.getD i d).a).toNat true=fl9 fun t=>(est c (l.take (i+1))).contains t:=by
 obtain ⟨e1,e2,e3⟩:=early_leaf (d:=d) (p:=fun t=>(est c (l.take i)).contains t) h8 hk h0
 rw [e3] at h3
 exact sEarly_go h hs e1 h2 e2 h3
theorem early_skip {c:List Int} {l:List GAtom} {i:Nat} {d:GAtom} (h:i < l.length) (hk:¬ (l.getD i d).kind=1 ∨ cl c (l.getD i d).a < 0):est c (l.take (i+1))=est c (l.take i):=by
 refine est_skip (d:=d) h ?_
 unfold stE
 rw [Bool.and_eq_false_iff,beq_eq_false_iff_ne,decide_eq_false_iff_not]
 exact hk.imp id fun h=>by omega
theorem fact_idx {l:List GFact} (h:l.all fV=true) {i:Nat} (hi:i < l.length):0<=(l.getD i ⟨false,0,0⟩).a/\(l.getD i ⟨false,0,0⟩).a<=8/\0<=(l.getD i ⟨false,0,0⟩).b/\(l.getD i ⟨false,0,0⟩).b<=8:=by
 have h1:=fV_isT (all_get (d:=⟨false,0,0⟩) h hi)
 have h2:=isT_iff.1 h1.1
 have h3:=isT_iff.1 h1.2
 omega
theorem atom_idx {l:List GAtom} (h:l.all atV=true) {i:Nat} (hi:i < l.length):0<=(l.getD i ⟨0,0,0⟩).a/\(l.getD i ⟨0,0,0⟩).a<=8/\0<=(l.getD i ⟨0,0,0⟩).b/\(l.getD i ⟨0,0,0⟩).b<=8:=by
 have h1:=atV_isT (all_get (d:=⟨0,0,0⟩) h hi)
 have h2:=isT_iff.1 h1.1
 have h3:=isT_iff.1 h1.2
 omega
theorem apart_fin {l:List GAtom} {i j:Nat} (h:i < l.length) (h1:sApart (l.take i)=true) (h2:¬ (l.getD i ⟨0,0,0⟩).a=0) (h3:((l.take j).all fun x=>!(x.a == (l.getD i ⟨0,0,0⟩).a))=true) (h4:¬ j < i) (h5:(j:Int)<=(i:Int)):sApart (l.take (i+1))=true:=by
 have:j=i:=by omega
 subst this
 rw [sApart_step (d:=⟨0,0,0⟩) h,h1,h3,beq_eq_false_iff_ne.2 h2]
 rfl
theorem open_lt {i:Nat} (h:(((List.replicate i (-1:Int)).length+1:Nat):Int)<=8):i<=7:=by rw [List.length_replicate] at h;omega
theorem open_end {i:Nat} (h0:i<=8) (h:¬ (((List.replicate i (-1:Int)).length+1:Nat):Int)<=8):(0:Int) :: List.replicate i (-1)=opens:=by
 rw [List.length_replicate] at h
 have:i=8:=by omega
 subst this;rfl
section
variable {fin:List Int->Bool} {a:GAsn} {tm:List Bool} {c:List Int} {t:Int} {i:Nat}
theorem fits_no1 (h:sFit a.facts c=false):sQ fin a tm c t=[]:=sQ_bad (by unfold sFits;rw [h];rfl)
theorem fits_no2 (h:sEarly a.atoms c=false):sQ fin a tm c t=[]:=sQ_bad (by unfold sFits;rw [h,Bool.and_false])
theorem fits_yes (h:sFit a.facts c=true) (h2:sEarly a.atoms c=true):sFits a c=true:=by unfold sFits;rw [h,h2];rfl
theorem last_yes (h:sFit a.facts c=true) (h2:sEarly a.atoms c=true) (ht:8 < t) (hf:fin c=true):sQ fin a tm c t=[c]:=by rw [sQ_last ht,fits_yes h h2,hf];rfl
theorem last_no (h:sFit a.facts c=true) (h2:sEarly a.atoms c=true) (ht:8 < t) (hf:fin c=false):sQ fin a tm c t=[]:=by rw [sQ_last ht,fits_yes h h2,hf];rfl
end
end Go.SE

namespace Go.SE
open Go.RowKit
theorem sEn_congr {fit fin:List Int->Bool} {has has':Nat->Bool}:∀ (f t:Nat) (c:List Int),(∀ k,t<=k->k < t+f->has k=has' k)->sEn fit fin has f t c=sEn fit fin has' f t c:=by
 intro f
 induction f with
 | zero=>intro t c _;rfl
 | succ f ih =>
  intro t c h
  have ih':=fun c=>ih (t+1) c fun k h1 h2=>h k (by omega) (by omega)
  simp only [sEn,ih',h t (Nat.le_refl _) (by omega)]
theorem sQ_cases {fin:List Int->Bool} {b:GAsn} {p:Int->Bool} {has:Nat->Bool} (h:∀ k:Nat,1<=k->k<=8->p (k:Int)=has k):sQ fin b (fl9 p) opens 1=casesS b fin has:=by
 unfold sQ casesS
 refine sEn_congr 8 1 opens fun k h1 h2=>?_
 rw [← h k h1 (by omega)]
 have:=fl9_get (p:=p) (t:=(k:Int)) (isT_iff.2 ⟨by omega,by omega⟩)
 simpa using this
theorem hz_get {a:GAsn} {q:Int->Bool} {k:Nat} (h1:1<=k) (h2:k<=8):hz a q k=(occ a k || q k):=by
 unfold hz
 rw [isT_iff.2 ⟨by omega,by omega⟩,show ((k:Int) == 0)=false by simp;omega]
 simp
theorem sCases {a:GAsn} (ha:asV a=true):sQ (sFin a) a (fl9 (occ a)) opens 1=casesF a:=by
 rw [sQ_cases (has:=hz a fun _=>false) fun k h1 h2=>by rw [hz_get h1 h2,Bool.or_false]]
 exact casesS_eq' (hz_named ha _) rfl
theorem vA_of {a:GAsn} (ha:asV a=true):vA a=true:=by
 have:=asV_facts ha
 exact vA_iff.2 ⟨this.1,this.2.2.1,by omega,by omega⟩
end Go.SE

namespace Go.SE
open Go.RowKit
def filt (v:Int->Int) (l:List GAtom):List GAtom:=l.filter fun x=>x.kind == 1 || !(v x.a == v x.b)
structure possV (a:GAsn) (v:Int->Int):Prop where
 facts:∀ f ∈ a.facts,(v f.a == v f.b)=f.eq
 nil:∀ x ∈ filt v a.atoms,v x.a ≠ v 0
 apart:(filt v a.atoms).Pairwise fun x y=>v x.a ≠ v y.a
theorem okS_iff:∀ (l s:List Int),(∀ x ∈ l,isT x=true)->(okS s l=true ↔ (∀ x ∈ l,x ≠ 0)/\(∀ x ∈ l,s.contains x=false)/\l.Pairwise (· ≠ ·)):=by
 intro l
 induction l with
 | nil=>intro s _;simp [okS]
 | cons x l ih =>
  intro s h
  have ih:=ih (x :: s) fun y hy=>h y (by simp [hy])
  simp only [okS,h x (by simp),Bool.true_and,Bool.and_eq_true,ih,Bool.not_eq_true',beq_eq_false_iff_ne,List.pairwise_cons,List.mem_cons,forall_eq_or_imp,List.contains_cons,Bool.or_eq_false_iff]
  constructor
  ·rintro ⟨h1,h2,h3,h4,h5⟩
   exact ⟨⟨h1,h3⟩,⟨h2,fun y hy=>(h4 y hy).2⟩,fun y hy e=>(h4 y hy).1 e.symm,h5⟩
  ·rintro ⟨⟨h1,h3⟩,⟨h2,h4⟩,h5,h6⟩
   exact ⟨h1,h2,h3,fun y hy=>⟨fun e=>h5 y hy e.symm,h4 y hy⟩,h6⟩
theorem possI_iff {a:GAsn} {has:Nat->Bool} (hn:Named a has) {d:List Int} (hd:d ∈ fulls has) (h0:has 0=true):possI a d 8=true ↔ possV a (cl d):=by
 obtain ⟨hl,hv⟩:=fulls_mem hd
 have hcl:∀ y:Int,0<=y->y<=8->has y.toNat=true->0<=cl d y/\cl d y<=8:=fun y h0 h8 hy=>by
  have:=hv y.toNat (by omega)
  rw [hy] at this
  simp only [cond_true,Bool.and_eq_true,decide_eq_true_eq] at this
  unfold cl
  omega
 have hz0:cl d 0=0:=by
  have:=hv 0 (by decide)
  rw [h0] at this
  simp only [cond_true,Bool.and_eq_true,decide_eq_true_eq] at this
  unfold cl
  simp only [Int.toNat_zero]
  omega
 have es:sts d 8 a.atoms=(filt (cl d) a.atoms).map fun x=>cl d x.a:=by
  unfold sts filt
  congr 1
  refine List.filter_congr fun x hx=>?_
  obtain ⟨h3,h4,h5,h6,_⟩:=hn.2 x hx
  unfold stB filB
  rw [decide_eq_true h4,decide_eq_true h6];rfl
 have hT:∀ x ∈ sts d 8 a.atoms,isT x=true:=fun x hx=>by
  simp only [sts,List.mem_map,List.mem_filter] at hx
  obtain ⟨y,⟨hy,_⟩,rfl⟩:=hx
  obtain ⟨h3,h4,h5,h6,h7,h8⟩:=hn.2 y hy
  exact isT_iff.2 (hcl _ h3 h4 h7)
 unfold possI
 rw [Bool.and_eq_true,okS_iff _ _ hT,es,List.pairwise_map]
 have ef:possF d 8 a.facts=true ↔ ∀ f ∈ a.facts,(cl d f.a == cl d f.b)=f.eq:=by
  unfold possF
  rw [List.all_eq_true]
  refine ⟨fun h f hf=>?_,fun h f hf=>?_⟩
  ·have:=h f hf
   obtain ⟨h3,h4,h5,h6,_⟩:=hn.1 f hf
   rw [decide_eq_true h4,decide_eq_true h6] at this
   unfold fh at this
   simpa using this
  ·unfold fh
   rw [h f hf];simp
 rw [ef]
 constructor
 ·rintro ⟨h1,h2,_,h3⟩
  exact ⟨h1,fun x hx=>by rw [hz0];exact h2 _ (List.mem_map.2 ⟨x,hx,rfl⟩),h3⟩
 ·rintro ⟨h1,h2,h3⟩
  refine ⟨h1,fun x hx=>?_,fun _ _=>rfl,h3⟩
  obtain ⟨y,hy,rfl⟩:=List.mem_map.1 hx
  have:=h2 y hy
  rw [hz0] at this
  exact this
def goodAt (has:Nat->Bool) (d:List Int) (j:Nat):Prop:=(has j=true/\∃ k:Nat,k<=j/\d.getD j 0=(k:Int)/\(k=j ∨ d.getD k 0=(k:Int))) ∨ (has j=false/\d.getD j 0=-1)
theorem fEn_of {has:Nat->Bool} {d:List Int} (hd:d.length=9):∀ (f t:Nat) (c:List Int),f+t=9->c.length=9->(∀ j,j < t->d.getD j 0=c.getD j 0)->(∀ j,t<=j->j < 9->goodAt has d j)->d ∈ fEn has f t c:=by
 intro f
 induction f with
 | zero =>
  intro t c ht hc hag _
  simp only [fEn,List.mem_singleton]
  apply List.ext_getElem (by omega)
  intro j h1 h2
  have:=hag j (by omega)
  rw [List.getD_eq_getElem?_getD,List.getD_eq_getElem?_getD,List.getElem?_eq_getElem h1,List.getElem?_eq_getElem h2] at this
  exact this
 | succ f ih =>
  intro t c ht hc hag hg
  have key:∀ x:Int,d.getD t 0=x->d ∈ fEn has f (t+1) (c.set t x):=fun x hx=>by
   refine ih (t+1) _ (by omega) (by simp [hc]) (fun j hj=>?_) fun j h1 h2=>hg j (by omega) h2
   by_cases e:j=t
   ·subst e;rw [getD_set_eq (by omega),hx]
   ·rw [getD_set_ne e];exact hag j (by omega)
  simp only [fEn]
  rcases hg t (Nat.le_refl _) (by omega) with ⟨hh,k,hk,hv,hk2⟩ | ⟨hh,hv⟩
  ·rw [hh,cond_true,List.mem_flatMap]
   refine ⟨k,List.mem_range.2 (by omega),?_⟩
   have:(k == t || c.getD k 0 == (k:Int))=true:=by
    rcases hk2 with rfl | hk2
    ·simp
    ·by_cases e:k=t
     ·simp [e]
     ·rw [← hag k (by omega),hk2];simp
   rw [this,cond_true]
   exact key _ hv
  ·rw [hh,cond_false]
   exact key _ hv
theorem fulls_of {has:Nat->Bool} {d:List Int} (hd:d.length=9) (hg:∀ j,j < 9->goodAt has d j):d ∈ fulls has :=
 fEn_of hd 9 0 _ rfl rfl (fun j hj=>by omega) fun j _ h=>hg j h
def repV (has:Nat->Bool) (v:Int->Int) (x:Int):Option Nat:=(List.range 9).find? fun k=>has k && v k == x
def canon (has:Nat->Bool) (v:Int->Int):List Int:=(List.range 9).map fun t=>cond (has t) (((repV has v (v t)).getD 0:Nat):Int) (-1)
theorem canon_get {has:Nat->Bool} {v:Int->Int} {t:Nat} (ht:t < 9):(canon has v).getD t 0=cond (has t) (((repV has v (v t)).getD 0:Nat):Int) (-1):=by
 unfold canon
 rw [List.getD_eq_getElem?_getD,List.getElem?_eq_getElem (by simpa using ht)]
 simp
theorem repV_spec {has:Nat->Bool} {v:Int->Int} {t:Nat} (ht:t < 9) (hh:has t=true):∃ k,repV has v (v t)=some k/\k<=t/\has k=true/\v k=v t:=by
 cases hr:repV has v (v t) with
 | none =>
  exfalso
  have:=List.find?_eq_none.1 hr t (List.mem_range.2 ht)
  simp [hh] at this
 | some k =>
  obtain ⟨h1,h2,h3⟩:=List.find?_range_eq_some.1 hr
  simp only [Bool.and_eq_true,beq_iff_eq] at h1
  refine ⟨k,rfl,?_,h1.1,h1.2⟩
  by_cases e:k<=t
  ·exact e
  ·have:=h3 t (by omega)
   simp [hh] at this
theorem canon_mem (has:Nat->Bool) (v:Int->Int):canon has v ∈ fulls has:=by
 refine fulls_of (by simp [canon]) fun j hj=>?_
 unfold goodAt
 cases hh:has j with
 | false=>right;refine ⟨rfl,?_⟩;rw [canon_get hj,hh];rfl
 | true =>
  left
  obtain ⟨k,h1,h2,h3,h4⟩:=repV_spec (v:=v) hj hh
  refine ⟨rfl,k,h2,by rw [canon_get hj,hh,h1];rfl,.inr ?_⟩
  rw [canon_get (by omega),h3,h4,h1];rfl
theorem canon_eq {has:Nat->Bool} {v:Int->Int} {s t:Int} (hs0:0<=s) (hs:s<=8) (ht0:0<=t) (ht:t<=8) (h1:has s.toNat=true) (h2:has t.toNat=true):(cl (canon has v) s == cl (canon has v) t)=(v s == v t):=by
 unfold cl
 rw [canon_get (by omega),canon_get (by omega),h1,h2]
 obtain ⟨k1,a1,a2,a3,a4⟩:=repV_spec (v:=v) (t:=s.toNat) (by omega) h1
 obtain ⟨k2,b1,b2,b3,b4⟩:=repV_spec (v:=v) (t:=t.toNat) (by omega) h2
 have es:((s.toNat:Nat):Int)=s:=by omega
 have et:((t.toNat:Nat):Int)=t:=by omega
 rw [es] at a1 a4 ⊢
 rw [et] at b1 b4 ⊢
 rw [a1,b1]
 simp only [cond_true,Option.getD_some]
 rw [Bool.eq_iff_iff,beq_iff_eq,beq_iff_eq]
 constructor
 ·intro h
  have:k1=k2:=by omega
  subst this
  rw [← a4,← b4]
 ·intro h
  rw [h,b1] at a1
  injection a1 with a1
  rw [a1]
theorem possV_congr {a:GAsn} {v w:Int->Int} (p:Int->Prop) (h:∀ s t,p s->p t->(v s == v t)=(w s == w t)) (h0:p 0) (hf:∀ f ∈ a.facts,p f.a/\p f.b) (hx:∀ x ∈ a.atoms,p x.a/\p x.b) (hv:possV a v):possV a w:=by
 have ef:filt v a.atoms=filt w a.atoms:=List.filter_congr fun x hm=>by rw [h _ _ (hx x hm).1 (hx x hm).2]
 have hne:∀ s t,p s->p t->v s ≠ v t->w s ≠ w t:=fun s t hs ht hn=>by
  have:=h s t hs ht
  rw [beq_eq_false_iff_ne.2 hn] at this
  exact beq_eq_false_iff_ne.1 this.symm
 have hm:∀ x ∈ filt w a.atoms,p x.a:=fun x hx'=>(hx x (List.mem_filter.1 hx').1).1
 obtain ⟨h1,h2,h3⟩:=hv
 rw [ef] at h2 h3
 refine ⟨fun f hf'=>by rw [← h _ _ (hf f hf').1 (hf f hf').2];exact h1 f hf',fun x hx'=>hne _ _ (hm x hx') h0 (h2 x hx'),?_⟩
 exact h3.imp_of_mem fun hx' hy' hn=>hne _ _ (hm _ hx') (hm _ hy') hn
theorem cases_all {a:GAsn} {has:Nat->Bool} (hn:Named a has) (h0:has 0=true) (Q:(Int->Int)->Bool) (hQ:∀ v w:Int->Int,(∀ s t:Int,0<=s->s<=8->has s.toNat=true->0<=t->t<=8->has t.toNat=true->(v s == v t)=(w s == w t))->Q v=Q w) :
  ((casesB a has).all fun d=>Q (cl d))=true ↔ ∀ v,possV a v->Q v=true:=by
 rw [casesB_eq hn,List.all_eq_true]
 constructor
 ·intro h v hv
  have hm:=canon_mem has v
  have hp:possV a (cl (canon has v)):=possV_congr (fun t=>0<=t/\t<=8/\has t.toNat=true) (fun s t hs ht=>(canon_eq hs.1 hs.2.1 ht.1 ht.2.1 hs.2.2 ht.2.2).symm) ⟨by decide,by decide,h0⟩
   (fun f hf=>by obtain ⟨a1,a2,a3,a4,a5,a6⟩:=hn.1 f hf;exact ⟨⟨a1,a2,a5⟩,a3,a4,a6⟩) (fun x hx=>by obtain ⟨a1,a2,a3,a4,a5,a6⟩:=hn.2 x hx;exact ⟨⟨a1,a2,a5⟩,a3,a4,a6⟩) hv
  have:=h _ (List.mem_filter.2 ⟨hm,(possI_iff hn hm h0).2 hp⟩)
  rw [hQ v (cl (canon has v)) fun s t s0 s8 hs t0 t8 ht=>(canon_eq s0 s8 t0 t8 hs ht).symm]
  exact this
 ·intro h d hd
  obtain ⟨h1,h2⟩:=List.mem_filter.1 hd
  exact h _ ((possI_iff hn h1 h0).1 h2)
theorem hz_has {a:GAsn} {q:Int->Bool} {t:Int} (h:isT t=true) (hq:q t=true):hz a q t.toNat=true:=by
 have:=isT_iff.1 h
 unfold hz
 rw [show ((t.toNat:Nat):Int)=t by omega,h,hq]
 simp
end Go.SE

namespace Go.SE
open Go.RowKit
end Go.SE

namespace Go.SE
open Go.RowKit
section
variable {fin:List Int->Bool} {a:GAsn} {tm:List Bool} {c:List Int} {t:Int} {i:Nat}
end
def bgn (l:List GAtom) (c:Int):Bool:=l.any fun x=>x.a == c
theorem bgn_yes {l:List GAtom} {c:Int} {i:Nat} {d:GAtom} (hi:i < l.length) (h:(l.getD i d).a=c):bgn l c=true:=by
 unfold bgn
 rw [List.any_eq_true]
 refine ⟨l.getD i d,?_,by simpa using h⟩
 rw [List.getD_eq_getElem?_getD,List.getElem?_eq_getElem hi];exact List.getElem_mem hi
theorem bgn_step {l:List GAtom} {c:Int} {i:Nat} {d:GAtom} (hi:i < l.length) (h:bgn (l.take i) c=false) (hn:¬ (l.getD i d).a=c):bgn (l.take (i+1)) c=false:=by
 have e:l.take (i+1)=l.take i ++ [l.getD i d]:=by
  rw [List.take_add_one,List.getD_eq_getElem?_getD,List.getElem?_eq_getElem hi];rfl
 unfold bgn at h ⊢
 rw [e,List.any_append,h]
 simpa using hn
theorem bgn_end {l:List GAtom} {c:Int} {i:Nat} (hi:¬ i < l.length) (h:bgn (l.take i) c=false):bgn l c=false:=by
 rw [List.take_of_length_le (by omega)] at h;exact h
section
variable {a:GAsn} {t:Int}
end
end Go.SE

namespace Go.SE
open Go.RowKit
abbrev nA:GAtom:=⟨0,0,0⟩
def cnt (u:List Bool):Int:=((u.filter id).length:Nat)
def uaP (l:List GAtom) (u:List Bool) (k:Int) (i:Nat):Bool:=(l.getD i nA).a == k && !u.getD i false
def uaO (l:List GAtom) (u:List Bool) (k:Int):Option Nat:=(List.range l.length).find? (uaP l u k)
def uaI (l:List GAtom) (u:List Bool) (k:Int):Int:=(((uaO l u k).getD 0:Nat):Int)
def uaB (l:List GAtom) (u:List Bool) (k:Int):Bool:=(uaO l u k).isSome
def uaN (l:List GAtom) (u:List Bool) (k:Int) (i:Nat):Bool:=(List.range i).all fun j=>!uaP l u k j
theorem sx {u:List Bool} (h:u.length=6):six true (u.getD 1 false) (u.getD 2 false) (u.getD 3 false) (u.getD 4 false) (u.getD 5 false)=u.set 0 true/\six (u.getD 0 false) true (u.getD 2 false) (u.getD 3 false) (u.getD 4 false) (u.getD 5 false)=u.set 1 true/\six (u.getD 0 false) (u.getD 1 false) true (u.getD 3 false) (u.getD 4 false) (u.getD 5 false)=u.set 2 true/\six (u.getD 0 false) (u.getD 1 false) (u.getD 2 false) true (u.getD 4 false) (u.getD 5 false)=u.set 3 true/\six (u.getD 0 false) (u.getD 1 false) (u.getD 2 false) (u.getD 3 false) true (u.getD 5 false)=u.set 4 true/\six (u.getD 0 false) (u.getD 1 false) (u.getD 2 false) (u.getD 3 false) (u.getD 4 false) true=u.set 5 true:=by
 match u,h with
 | [_,_,_,_,_,_],_=>exact ⟨rfl,rfl,rfl,rfl,rfl,rfl⟩
theorem cnt_bd (u:List Bool):0<=cnt u/\cnt u<=u.length:=by
 unfold cnt
 have:=List.length_filter_le id u
 omega
theorem cnt_set:∀ {u:List Bool} {i:Nat},i < u.length->u.getD i false=false->cnt (u.set i true)=cnt u+1:=by
 intro u
 induction u with
 | nil=>intro i h;simp at h
 | cons x u ih =>
  intro i h h2
  cases i with
  | zero =>
   have:x=false:=h2
   subst this
   simp [cnt]
  | succ i =>
   have:=ih (i:=i) (by simpa using h) (by simpa using h2)
   unfold cnt at this ⊢
   cases x <;> simp_all <;> omega
theorem uaN_step {l:List GAtom} {u:List Bool} {k:Int} {i:Nat} (h:uaN l u k i=true) (h2:uaP l u k i=false):uaN l u k (i+1)=true:=by
 unfold uaN at h ⊢
 rw [List.range_succ,List.all_append,h]
 simp [h2]
theorem uaN_s1 {l:List GAtom} {u:List Bool} {k:Int} {i:Nat} (h:uaN l u k i=true) (h2:¬ (l.getD i ⟨0,0,0⟩).a=k):uaN l u k (i+1)=true :=
 uaN_step h (by unfold uaP;rw [beq_eq_false_iff_ne.2 h2];rfl)
theorem uaN_s2 {l:List GAtom} {u:List Bool} {k:Int} {i j:Nat} (h:uaN l u k i=true) (hj:(i:Int)=(j:Int)) (h2:u.getD j false=true):uaN l u k (i+1)=true:=by
 have:i=j:=by omega
 subst this
 exact uaN_step h (by unfold uaP;rw [h2];simp)
theorem uaO_some {l:List GAtom} {u:List Bool} {k:Int} {i:Nat} (hi:i < l.length) (h:uaN l u k i=true) (h2:uaP l u k i=true):uaO l u k=some i:=by
 unfold uaO
 rw [List.find?_range_eq_some]
 refine ⟨h2,List.mem_range.2 hi,fun j hj=>?_⟩
 have:=List.all_eq_true.1 h j (List.mem_range.2 hj)
 simpa using this
theorem uaO_none {l:List GAtom} {u:List Bool} {k:Int} {i:Nat} (hi:¬ i < l.length) (hi2:i<=l.length) (h:uaN l u k i=true):uaO l u k=none:=by
 have:i=l.length:=by omega
 subst this
 unfold uaO
 rw [List.find?_range_eq_none]
 intro j hj
 have:=List.all_eq_true.1 h j (List.mem_range.2 hj)
 simpa using this
theorem ua_hit {l:List GAtom} {u:List Bool} {k:Int} {i j:Nat} (hi:i < l.length) (h:uaN l u k i=true) (ha:(l.getD i ⟨0,0,0⟩).a=k) (hj:(i:Int)=(j:Int)) (hu:u.getD j false=false):(i:Int)=uaI l u k/\true=uaB l u k:=by
 have:i=j:=by omega
 subst this
 have:=uaO_some hi h (by unfold uaP;rw [hu];simpa using ha)
 unfold uaI uaB
 rw [this]
 exact ⟨rfl,rfl⟩
theorem ua_miss {l:List GAtom} {u:List Bool} {k:Int} {i:Nat} (hi:¬ i < l.length) (hi2:i<=l.length) (h:uaN l u k i=true):(0:Int)=uaI l u k/\false=uaB l u k:=by
 unfold uaI uaB
 rw [uaO_none hi hi2 h]
 exact ⟨rfl,rfl⟩
theorem uaO_spec {l:List GAtom} {u:List Bool} {k:Int} {i:Nat} (h:uaO l u k=some i):i < l.length/\(l.getD i nA).a=k/\u.getD i false=false:=by
 unfold uaO at h
 obtain ⟨h1,h2,_⟩:=List.find?_range_eq_some.1 h
 unfold uaP at h1
 simp only [Bool.and_eq_true,beq_iff_eq,Bool.not_eq_true'] at h1
 exact ⟨List.mem_range.1 h2,h1.1,h1.2⟩
theorem uaB_spec {l:List GAtom} {u:List Bool} {k:Int} (h:uaB l u k=true):∃ i:Nat,uaO l u k=some i/\uaI l u k=(i:Int)/\i < l.length/\(l.getD i nA).a=k/\u.getD i false=false:=by
 unfold uaB at h
 cases hq:uaO l u k with
 | none=>rw [hq] at h;cases h
 | some i=>exact ⟨i,rfl,by unfold uaI;rw [hq];rfl,uaO_spec hq⟩
theorem uaB_bd {l:List GAtom} {u:List Bool} {k:Int} (hl:l.length<=6) (h:uaB l u k=true):0<=uaI l u k/\uaI l u k < 6/\uaI l u k < (l.length:Nat)/\u.getD (uaI l u k).toNat false=false:=by
 obtain ⟨i,_,h2,h3,_,h5⟩:=uaB_spec h
 rw [h2]
 exact ⟨by omega,by omega,by omega,by rw [Int.toNat_natCast];exact h5⟩
def ucO (l:List GAtom) (u:List Bool) (x:GAtom):Option Nat:=(uaO l u x.a).bind fun i=>cond (decide (l.getD i nA=x)) (some i) none
def ucL (l:List GAtom) (u:List Bool) (x:GAtom):List Int:=match ucO l u x with
 | some i=>[(i:Int)]
 | none=>[]
def ucB (l:List GAtom) (u:List Bool) (x:GAtom):Bool:=(ucO l u x).isSome
def ucU (l:List GAtom) (u:List Bool) (x:GAtom):List Bool:=match ucO l u x with
 | some i=>u.set i true
 | none=>u
section
variable {l:List GAtom} {u:List Bool} {x:GAtom}
theorem uc_no (h:ucO l u x=none):ucL l u x=[]/\ucB l u x=false/\ucU l u x=u:=by unfold ucL ucB ucU;rw [h];exact ⟨rfl,rfl,rfl⟩
theorem uc_no1 (h:uaB l u x.a=false):ucO l u x=none:=by
 unfold uaB at h
 unfold ucO
 cases hq:uaO l u x.a with
 | none=>rfl
 | some i=>rw [hq] at h;cases h
theorem uc_no2 (h:uaB l u x.a=true) (h2:¬ l.getD (uaI l u x.a).toNat ⟨0,0,0⟩=x):ucO l u x=none:=by
 obtain ⟨i,h3,h4,_⟩:=uaB_spec h
 rw [h4,Int.toNat_natCast] at h2
 unfold ucO
 rw [h3]
 show cond (decide _) _ _=_
 rw [decide_eq_false h2]
 rfl
theorem uc_yes (h:uaB l u x.a=true) (h2:l.getD (uaI l u x.a).toNat ⟨0,0,0⟩=x):ucL l u x=[uaI l u x.a]/\ucB l u x=true/\ucU l u x=u.set (uaI l u x.a).toNat true:=by
 obtain ⟨i,h3,h4,_⟩:=uaB_spec h
 have:ucO l u x=some i:=by
  rw [h4,Int.toNat_natCast] at h2
  unfold ucO
  rw [h3]
  show cond (decide _) _ _=_
  rw [decide_eq_true h2]
  rfl
 unfold ucL ucB ucU
 rw [this,h4]
 exact ⟨rfl,rfl,rfl⟩
end
def clB (l:List GAtom) (y:Int):Bool:=y == 0 || bgn l y
theorem cl1 {l:List GAtom} {y:Int} (h:y=0):clB l y=true:=by unfold clB;rw [h];rfl
theorem cl2 {l:List GAtom} {y:Int} (h:bgn l y=true):clB l y=true:=by unfold clB;rw [h,Bool.or_true]
theorem cl3 {l:List GAtom} {y:Int} (h:¬ y=0) (h2:bgn l y=false):clB l y=false:=by unfold clB;rw [h2,beq_eq_false_iff_ne.2 h];rfl
def chn (l:List GAtom) (y:Int):Nat->List Bool->Int->List Int->List Bool × Option (List Int)
 | 0,u,_,_=>(u,none)
 | f+1,u,q,us=>match uaO l u q with
  | none=>(u,none)
  | some i=>if (l.getD i nA).b=y then (u.set i true,some (us ++ [(i:Int)]))
   else if (l.getD i nA).kind=2/\clB l y=false then (u.set i true,none)
   else chn l y f (u.set i true) (l.getD i nA).b (us ++ [(i:Int)])
def chU (l:List GAtom) (u:List Bool) (x:GAtom):List Bool:=(chn l x.b 7 u x.a []).1
def chL (l:List GAtom) (u:List Bool) (x:GAtom):List Int:=(chn l x.b 7 u x.a []).2.getD []
def chB (l:List GAtom) (u:List Bool) (x:GAtom):Bool:=(chn l x.b 7 u x.a []).2.isSome
structure chI (l:List GAtom) (u:List Bool) (x:GAtom) (u':List Bool) (q:Int) (us:List Int):Prop where
 len:u'.length=6
 le:us.length<=6
 cn:cnt u'=cnt u+us.length
 eq:chn l x.b (7 - us.length) u' q us=chn l x.b 7 u x.a []
section
variable {l:List GAtom} {u u':List Bool} {x:GAtom} {q:Int} {us:List Int}
theorem chI_zero (h:u.length=6):chI l u x u x.a []:=⟨h,by simp,by simp,rfl⟩
theorem chI_lt (h:chI l u x u' q us) (hb:uaB l u' q=true) (hl:l.length<=6):us.length < 6:=by
 obtain ⟨i,_,_,h3,_,h5⟩:=uaB_spec hb
 have h1:=cnt_set (u:=u') (i:=i) (by rw [h.len];omega) h5
 have h2:=cnt_bd (u'.set i true)
 have h4:=cnt_bd u
 have h6:=h.cn
 have h7:=h.len
 simp only [List.length_set] at h2
 omega
theorem ch_fuel (h:us.length < 6):7 - us.length=(7 - (us ++ [q]).length)+1:=by simp;omega
theorem ch_no (h:chI l u x u' q us) (hb:uaB l u' q=false):chU l u x=u'/\chL l u x=[]/\chB l u x=false:=by
 have hq:uaO l u' q=none:=by
  unfold uaB at hb
  cases hq:uaO l u' q with
  | none=>rfl
  | some i=>rw [hq] at hb;cases hb
 obtain ⟨f,hf⟩:∃ f,7 - us.length=f+1:=⟨6 - us.length,by have:=h.le;omega⟩
 have h1:=h.eq
 rw [hf,chn,hq] at h1
 unfold chU chL chB
 rw [← h1]
 exact ⟨rfl,rfl,rfl⟩
theorem ch_end (h:chI l u x u' q us) (hb:uaB l u' q=true) (hl:l.length<=6) (hy:(l.getD (uaI l u' q).toNat ⟨0,0,0⟩).b=x.b):chU l u x=u'.set (uaI l u' q).toNat true/\chL l u x=us ++ [uaI l u' q]/\chB l u x=true:=by
 have hlt:=chI_lt h hb hl
 obtain ⟨i,h3,h4,_⟩:=uaB_spec hb
 rw [h4,Int.toNat_natCast] at hy ⊢
 have h1:=h.eq
 rw [ch_fuel (q:=0) hlt,chn,h3] at h1
 simp only [if_pos hy] at h1
 unfold chU chL chB
 rw [← h1]
 exact ⟨rfl,rfl,rfl⟩
theorem ch_open (h:chI l u x u' q us) (hb:uaB l u' q=true) (hl:l.length<=6) (hy:¬ (l.getD (uaI l u' q).toNat ⟨0,0,0⟩).b=x.b) (hk:(l.getD (uaI l u' q).toNat ⟨0,0,0⟩).kind=2) (hc:clB l x.b=false):chU l u x=u'.set (uaI l u' q).toNat true/\chL l u x=[]/\chB l u x=false:=by
 have hlt:=chI_lt h hb hl
 obtain ⟨i,h3,h4,_⟩:=uaB_spec hb
 rw [h4,Int.toNat_natCast] at hy hk ⊢
 have h1:=h.eq
 rw [ch_fuel (q:=0) hlt,chn,h3] at h1
 simp only [if_neg hy,if_pos (And.intro hk hc)] at h1
 unfold chU chL chB
 rw [← h1]
 exact ⟨rfl,rfl,rfl⟩
theorem ch_go (h:chI l u x u' q us) (hb:uaB l u' q=true) (hl:l.length<=6) (hy:¬ (l.getD (uaI l u' q).toNat ⟨0,0,0⟩).b=x.b) (hk:¬ (l.getD (uaI l u' q).toNat ⟨0,0,0⟩).kind=2 ∨ clB l x.b=true):chI l u x (u'.set (uaI l u' q).toNat true) (l.getD (uaI l u' q).toNat ⟨0,0,0⟩).b (us ++ [uaI l u' q]):=by
 have hlt:=chI_lt h hb hl
 obtain ⟨i,h3,h4,h5,_,h6⟩:=uaB_spec hb
 rw [h4,Int.toNat_natCast] at hy hk ⊢
 refine ⟨by rw [List.length_set];exact h.len,by simp;omega,?_,?_⟩
 ·rw [cnt_set (by rw [h.len];omega) h6,h.cn];simp;omega
 ·have h1:=h.eq
  have hn:¬ ((l.getD i nA).kind=2/\clB l x.b=false):=by
   rintro ⟨e1,e2⟩
   rcases hk with hk | hk
   ·exact hk e1
   ·rw [e2] at hk;cases hk
  rw [ch_fuel (q:=(i:Int)) hlt,chn,h3] at h1
  simp only [if_neg hy,if_neg hn] at h1
  exact h1
theorem ch_kit (h:chI l u x u' q us) (hb:uaB l u' q=true) (hl:l.length<=6):0<=uaI l u' q/\uaI l u' q < 6/\uaI l u' q < (l.length:Nat)/\u'.getD (uaI l u' q).toNat false=false/\us.length < 6 /\
  sx6 (u'.set (uaI l u' q).toNat true)=u'.set (uaI l u' q).toNat true /\
  cnt (u'.set (uaI l u' q).toNat true)=cnt u'+1:=by
 have h9:=uaB_bd hl hb
 exact ⟨h9.1,h9.2.1,h9.2.2.1,h9.2.2.2,chI_lt h hb hl,sx6_eta (by rw [List.length_set];exact h.len),cnt_set (by rw [h.len];omega) h9.2.2.2⟩
end
def useU (l:List GAtom) (u:List Bool) (x:GAtom):List Bool:=cond (x.kind == 1) (ucU l u x) (chU l u x)
def useB (l:List GAtom) (u:List Bool) (x:GAtom):Bool:=cond (x.kind == 1) (ucB l u x) (chB l u x)
def mcF (l:List GAtom):List GAtom->List Bool->Option (List Bool)
 | [],u=>some u
 | x :: g,u=>cond (useB l u x) (mcF l g (useU l u x)) none
def u0:List Bool:=six false false false false false false
def mcM (l g:List GAtom):Bool:=match mcF l g u0 with
 | some u=>cnt u == (l.length:Nat)
 | none=>false
def MC (a b:GAsn) (c:List Int):Bool:=b.facts.all (fh c) && mcM (fL c a.atoms) (fL c b.atoms)
theorem chn_len {l:List GAtom} {y:Int}:∀ (f:Nat) (u:List Bool) (q:Int) (us:List Int),(chn l y f u q us).1.length=u.length:=by
 intro f
 induction f with
 | zero=>intros;rfl
 | succ f ih =>
  intro u q us
  rw [chn]
  split
  ·rfl
  ·split
   ·simp
   ·split
    ·simp
    ·rw [ih];simp
theorem useU_len {l:List GAtom} {u:List Bool} {x:GAtom}:(useU l u x).length=u.length:=by
 unfold useU
 cases x.kind == 1
 ·exact chn_len _ _ _ _
 ·show (ucU l u x).length=_
  unfold ucU
  split <;> simp
structure mcI (l g:List GAtom) (i:Nat) (u:List Bool):Prop where
 len:u.length=6
 eq:mcF l (g.drop i) u=mcF l g u0
section
variable {l g:List GAtom} {i:Nat} {u:List Bool}
theorem mcI_zero:mcI l g 0 (six false false false false false false):=⟨rfl,rfl⟩
theorem mcF_at (hi:i < g.length):mcF l (g.drop i) u=cond (useB l u (g.getD i ⟨0,0,0⟩)) (mcF l (g.drop (i+1)) (useU l u (g.getD i ⟨0,0,0⟩))) none:=by
 rw [List.drop_eq_getElem_cons hi,mcF,List.getD_eq_getElem?_getD,List.getElem?_eq_getElem hi]
 rfl
theorem mcI_bad (h:mcI l g i u) (hi:i < g.length) (hb:useB l u (g.getD i ⟨0,0,0⟩)=false):mcM l g=false:=by
 have:=h.eq
 rw [mcF_at hi,hb] at this
 unfold mcM
 rw [← this]
 rfl
theorem mcI_go (h:mcI l g i u) (hi:i < g.length) (hb:useB l u (g.getD i ⟨0,0,0⟩)=true):mcI l g (i+1) (useU l u (g.getD i ⟨0,0,0⟩)):=by
 refine ⟨useU_len.trans h.len,?_⟩
 have:=h.eq
 rw [mcF_at hi,hb] at this
 exact this
theorem mcI_end (h:mcI l g i u) (hi:¬ i < g.length):mcM l g=(cnt u == (l.length:Nat)):=by
 have:=h.eq
 rw [List.drop_of_length_le (by omega),mcF] at this
 unfold mcM
 rw [← this]
theorem use_cell {x:GAtom} (hk:x.kind=1):useB l u x=ucB l u x/\useU l u x=ucU l u x:=by unfold useB useU;rw [hk];exact ⟨rfl,rfl⟩
theorem use_chain {x:GAtom} (hk:¬ x.kind=1):useB l u x=chB l u x/\useU l u x=chU l u x:=by unfold useB useU;rw [beq_eq_false_iff_ne.2 hk];exact ⟨rfl,rfl⟩
end
section
variable {a b:GAsn} {c:List Int} {l g:List GAtom} {i:Nat} {u:List Bool} {x:GAtom}
theorem ucU_len:(ucU l u x).length=u.length:=by unfold ucU;split <;> simp
theorem chU_len:(chU l u x).length=u.length:=chn_len _ _ _ _
theorem six_uc (h:u.length=6):sx6 (ucU l u x)=ucU l u x:=sx6_eta (ucU_len.trans h)
theorem six_ch (h:u.length=6):sx6 (chU l u x)=chU l u x:=sx6_eta (chU_len.trans h)
theorem mc_no (h:b.facts.all (fh c)=false):false=MC a b c:=by unfold MC;rw [h];rfl
theorem mc_bad (hf:b.facts.all (fh c)=true) (h:mcI (fL c a.atoms) (fL c b.atoms) i u) (hi:i < (fL c b.atoms).length) (hb:useB (fL c a.atoms) u ((fL c b.atoms).getD i ⟨0,0,0⟩)=false):false=MC a b c:=by
 unfold MC
 rw [hf,mcI_bad h hi hb];rfl
theorem mc_bad1 (hf:b.facts.all (fh c)=true) (h:mcI (fL c a.atoms) (fL c b.atoms) i u) (hi:i < (fL c b.atoms).length) (hk:((fL c b.atoms).getD i ⟨0,0,0⟩).kind=1) (hb:ucB (fL c a.atoms) u ((fL c b.atoms).getD i ⟨0,0,0⟩)=false):false=MC a b c :=
 mc_bad hf h hi (by rw [(use_cell hk).1];exact hb)
theorem mc_bad2 (hf:b.facts.all (fh c)=true) (h:mcI (fL c a.atoms) (fL c b.atoms) i u) (hi:i < (fL c b.atoms).length) (hk:¬ ((fL c b.atoms).getD i ⟨0,0,0⟩).kind=1) (hb:chB (fL c a.atoms) u ((fL c b.atoms).getD i ⟨0,0,0⟩)=false):false=MC a b c :=
 mc_bad hf h hi (by rw [(use_chain hk).1];exact hb)
theorem mc_go1 (h:mcI l g i u) (hi:i < g.length) (hk:(g.getD i ⟨0,0,0⟩).kind=1) (hb:ucB l u (g.getD i ⟨0,0,0⟩)=true):mcI l g (i+1) (ucU l u (g.getD i ⟨0,0,0⟩)):=by
 have:=mcI_go h hi (by rw [(use_cell hk).1];exact hb)
 rw [(use_cell hk).2] at this
 exact this
theorem mc_go2 (h:mcI l g i u) (hi:i < g.length) (hk:¬ (g.getD i ⟨0,0,0⟩).kind=1) (hb:chB l u (g.getD i ⟨0,0,0⟩)=true):mcI l g (i+1) (chU l u (g.getD i ⟨0,0,0⟩)):=by
 have:=mcI_go h hi (by rw [(use_chain hk).1];exact hb)
 rw [(use_chain hk).2] at this
 exact this
theorem mc_end1 (hf:b.facts.all (fh c)=true) (h:mcI (fL c a.atoms) (fL c b.atoms) i u) (hi:¬ i < (fL c b.atoms).length) (hc:¬ cnt u=((fL c a.atoms).length:Nat)):false=MC a b c:=by
 unfold MC
 rw [hf,mcI_end h hi,beq_eq_false_iff_ne.2 hc];rfl
theorem mc_end2 (hf:b.facts.all (fh c)=true) (h:mcI (fL c a.atoms) (fL c b.atoms) i u) (hi:¬ i < (fL c b.atoms).length) (hc:cnt u=((fL c a.atoms).length:Nat)):true=MC a b c:=by
 unfold MC
 rw [hf,mcI_end h hi,beq_iff_eq.2 hc];rfl
end
end Go.SE

namespace Go.SE
open Go.RowKit
def fdI (l:List GAtom) (u:List Bool) (k:Int):Int:=match uaO l u k with
 | some i=>(i:Int)
 | none=>-1
section
variable {l:List GAtom} {u:List Bool} {k:Int} {i:Nat}
theorem fd_hit (hi:i < l.length) (h:uaN l u k i=true) (hu:u.getD i false=false) (ha:(l.getD i ⟨0,0,0⟩).a=k):(i:Int)=fdI l u k:=by
 unfold fdI
 rw [uaO_some hi h (by unfold uaP;rw [hu];simpa using ha)]
theorem fd_miss (hi:¬ i < l.length) (hi2:i<=l.length) (h:uaN l u k i=true):(-1:Int)=fdI l u k:=by
 unfold fdI
 rw [uaO_none hi hi2 h]
theorem uaN_s3 (h:uaN l u k i=true) (h2:u.getD i false=true):uaN l u k (i+1)=true:=uaN_step h (by unfold uaP;rw [h2];simp)
theorem fd_neg (h:fdI l u k < 0):uaO l u k=none:=by
 unfold fdI at h
 split at h
 ·omega
 ·assumption
theorem fd_pos (h:¬ fdI l u k < 0):∃ i:Nat,uaO l u k=some i/\fdI l u k=(i:Int)/\i < l.length/\(l.getD i nA).a=k/\u.getD i false=false:=by
 unfold fdI at h ⊢
 split at h
 ·rename_i i hi
  rw [hi]
  exact ⟨i,rfl,rfl,uaO_spec hi⟩
 ·omega
theorem fd_bd (h:¬ fdI l u k < 0):0<=fdI l u k/\fdI l u k < (l.length:Nat)/\u.getD (fdI l u k).toNat false=false:=by
 obtain ⟨i,_,h2,h3,_,h5⟩:=fd_pos h
 rw [h2]
 exact ⟨by omega,by omega,by rw [Int.toNat_natCast];exact h5⟩
end
def rch (l:List GAtom) (y:Int):Nat->List Bool->Int->List Bool × Bool
 | 0,u,_=>(u,false)
 | f+1,u,q=>if q=y then (u,true) else match uaO l u q with
  | none=>(u,false)
  | some i=>if (l.getD i nA).kind=2/\(l.getD i nA).b ≠ y/\clB l y=false then (u,false) else rch l y f (u.set i true) (l.getD i nA).b
def rchU (l:List GAtom) (u:List Bool) (q y:Int):List Bool:=(rch l y 8 u q).1
def rchB (l:List GAtom) (u:List Bool) (q y:Int):Bool:=(rch l y 8 u q).2
structure rcI (l:List GAtom) (u:List Bool) (q y:Int) (k:Nat) (u':List Bool) (q':Int):Prop where
 len:u'.length=l.length
 cn:cnt u'=cnt u+k
 eq:rch l y (8 - k) u' q'=rch l y 8 u q
theorem rch_len {l:List GAtom} {y:Int}:∀ (f:Nat) (u:List Bool) (q:Int),(rch l y f u q).1.length=u.length:=by
 intro f
 induction f with
 | zero=>intros;rfl
 | succ f ih =>
  intro u q
  rw [rch]
  split
  ·rfl
  ·split
   ·rfl
   ·split
    ·rfl
    ·rw [ih];simp
section
variable {l:List GAtom} {u u':List Bool} {q q' y:Int} {k:Nat}
theorem rcI_zero (h:u.length=l.length):rcI l u q y 0 u q:=⟨h,by simp,rfl⟩
theorem rcI_le (h:rcI l u q y k u' q') (hl:l.length<=6):k<=6:=by
 have h1:=cnt_bd u'
 have h2:=cnt_bd u
 have:=h.cn
 have:=h.len
 omega
theorem rc_end (h:rcI l u q y k u' q') (hl:l.length<=6) (e:q'=y):rchU l u q y=u'/\rchB l u q y=true:=by
 have hk:=rcI_le h hl
 have h1:=h.eq
 rw [show 8 - k=(7 - k)+1 by omega,rch,if_pos e] at h1
 unfold rchU rchB
 rw [← h1]
 exact ⟨rfl,rfl⟩
theorem rc_no (h:rcI l u q y k u' q') (hl:l.length<=6) (e:¬ q'=y) (hn:fdI l u' q' < 0):rchU l u q y=u'/\rchB l u q y=false:=by
 have hk:=rcI_le h hl
 have h1:=h.eq
 rw [show 8 - k=(7 - k)+1 by omega,rch,if_neg e,fd_neg hn] at h1
 unfold rchU rchB
 rw [← h1]
 exact ⟨rfl,rfl⟩
theorem rc_open (h:rcI l u q y k u' q') (hl:l.length<=6) (e:¬ q'=y) (hn:¬ fdI l u' q' < 0) (hk2:(l.getD (fdI l u' q').toNat ⟨0,0,0⟩).kind=2) (hb:¬ (l.getD (fdI l u' q').toNat ⟨0,0,0⟩).b=y) (hc:clB l y=false):rchU l u q y=u'/\rchB l u q y=false:=by
 have hk:=rcI_le h hl
 have h1:=h.eq
 obtain ⟨i,h3,h4,_⟩:=fd_pos hn
 rw [h4,Int.toNat_natCast] at hk2 hb
 rw [show 8 - k=(7 - k)+1 by omega,rch,if_neg e,h3] at h1
 simp only [if_pos (And.intro hk2 (And.intro hb hc))] at h1
 unfold rchU rchB
 rw [← h1]
 exact ⟨rfl,rfl⟩
theorem rc_go (h:rcI l u q y k u' q') (hl:l.length<=6) (e:¬ q'=y) (hn:¬ fdI l u' q' < 0) (hg:¬ (l.getD (fdI l u' q').toNat ⟨0,0,0⟩).kind=2 ∨ (l.getD (fdI l u' q').toNat ⟨0,0,0⟩).b=y ∨ clB l y=true):rcI l u q y (k+1) (u'.set (fdI l u' q').toNat true) (l.getD (fdI l u' q').toNat ⟨0,0,0⟩).b/\k+1<=6:=by
 have h1:=h.eq
 obtain ⟨i,h3,h4,h5,_,h6⟩:=fd_pos hn
 rw [h4,Int.toNat_natCast] at hg ⊢
 have hcs:=cnt_set (u:=u') (i:=i) (by rw [h.len];exact h5) h6
 have hcn:=h.cn
 have hlen:(u'.set i true).length=l.length:=by rw [List.length_set];exact h.len
 have hb:=cnt_bd (u'.set i true)
 have hb0:=cnt_bd u
 have hk:k+1<=6:=by omega
 refine ⟨⟨hlen,by rw [hcs,hcn];omega,?_⟩,hk⟩
 rw [show 8 - k=(8 - (k+1))+1 by omega,rch,if_neg e,h3] at h1
 have hng:¬ ((l.getD i nA).kind=2/\(l.getD i nA).b ≠ y/\clB l y=false):=by
  rintro ⟨e1,e2,e3⟩
  rcases hg with hg | hg | hg
  ·exact hg e1
  ·exact e2 hg
  ·rw [e3] at hg;cases hg
 simp only [if_neg hng] at h1
 exact h1
end
def ruU (l:List GAtom) (u:List Bool) (x:GAtom):List Bool:=cond (x.kind == 2) (rchU l u x.a x.b) (ucU l u x)
def ruB (l:List GAtom) (u:List Bool) (x:GAtom):Bool:=cond (x.kind == 2) (rchB l u x.a x.b) (ucB l u x)
def rmF (l:List GAtom):List GAtom->List Bool->Option (List Bool)
 | [],u=>some u
 | x :: g,u=>cond (ruB l u x) (rmF l g (ruU l u x)) none
def rmM (l g:List GAtom):Bool:=match rmF l g (List.replicate l.length false) with
 | some u=>u.all id
 | none=>false
structure rmI (l g:List GAtom) (i:Nat) (u:List Bool):Prop where
 len:u.length=l.length
 eq:rmF l (g.drop i) u=rmF l g (List.replicate l.length false)
section
variable {l g:List GAtom} {i:Nat} {u:List Bool} {x:GAtom}
theorem ruU_len:(ruU l u x).length=u.length:=by
 unfold ruU
 cases x.kind == 2
 ·exact ucU_len
 ·exact rch_len _ _ _
theorem rmI_zero:rmI l g 0 (List.replicate l.length false):=⟨by simp,rfl⟩
theorem rmF_at (hi:i < g.length):rmF l (g.drop i) u=cond (ruB l u (g.getD i ⟨0,0,0⟩)) (rmF l (g.drop (i+1)) (ruU l u (g.getD i ⟨0,0,0⟩))) none:=by
 rw [List.drop_eq_getElem_cons hi,rmF,List.getD_eq_getElem?_getD,List.getElem?_eq_getElem hi]
 rfl
theorem rmI_bad (h:rmI l g i u) (hi:i < g.length) (hb:ruB l u (g.getD i ⟨0,0,0⟩)=false):false=rmM l g:=by
 have:=h.eq
 rw [rmF_at hi,hb] at this
 unfold rmM
 rw [← this]
 rfl
theorem rmI_go (h:rmI l g i u) (hi:i < g.length) (hb:ruB l u (g.getD i ⟨0,0,0⟩)=true):rmI l g (i+1) (ruU l u (g.getD i ⟨0,0,0⟩)):=by
 refine ⟨ruU_len.trans h.len,?_⟩
 have:=h.eq
 rw [rmF_at hi,hb] at this
 exact this
theorem rmI_end (h:rmI l g i u) (hi:¬ i < g.length):rmM l g=u.all id:=by
 have:=h.eq
 rw [List.drop_of_length_le (by omega),rmF] at this
 unfold rmM
 rw [← this]
theorem ru_chain (hk:x.kind=2):ruB l u x=rchB l u x.a x.b/\ruU l u x=rchU l u x.a x.b:=by unfold ruB ruU;rw [hk];exact ⟨rfl,rfl⟩
theorem ru_cell (hk:¬ x.kind=2):ruB l u x=ucB l u x/\ruU l u x=ucU l u x:=by unfold ruB ruU;rw [beq_eq_false_iff_ne.2 hk];exact ⟨rfl,rfl⟩
theorem rm_bad1 (h:rmI l g i u) (hi:i < g.length) (hk:(g.getD i ⟨0,0,0⟩).kind=2) (hb:rchB l u (g.getD i ⟨0,0,0⟩).a (g.getD i ⟨0,0,0⟩).b=false):false=rmM l g:=rmI_bad h hi (by rw [(ru_chain hk).1];exact hb)
theorem rm_go1 (h:rmI l g i u) (hi:i < g.length) (hk:(g.getD i ⟨0,0,0⟩).kind=2) (hb:rchB l u (g.getD i ⟨0,0,0⟩).a (g.getD i ⟨0,0,0⟩).b=true):rmI l g (i+1) (rchU l u (g.getD i ⟨0,0,0⟩).a (g.getD i ⟨0,0,0⟩).b):=by
 have:=rmI_go h hi (by rw [(ru_chain hk).1];exact hb)
 rw [(ru_chain hk).2] at this
 exact this
theorem rm_bad2 (h:rmI l g i u) (hi:i < g.length) (hk:¬ (g.getD i ⟨0,0,0⟩).kind=2) (hb:fdI l u (g.getD i ⟨0,0,0⟩).a < 0):false=rmM l g :=
 rmI_bad h hi (by rw [(ru_cell hk).1];exact (uc_no (by unfold ucO;rw [fd_neg hb];rfl)).2.1)
theorem fd_ua (hb:¬ fdI l u x.a < 0):uaB l u x.a=true/\uaI l u x.a=fdI l u x.a:=by
 obtain ⟨i,h1,h2,_⟩:=fd_pos hb
 unfold uaB uaI
 rw [h1,h2]
 exact ⟨rfl,rfl⟩
theorem rm_bad3 (h:rmI l g i u) (hi:i < g.length) (hk:¬ (g.getD i ⟨0,0,0⟩).kind=2) (hb:¬ fdI l u (g.getD i ⟨0,0,0⟩).a < 0) (hx:¬ l.getD (fdI l u (g.getD i ⟨0,0,0⟩).a).toNat ⟨0,0,0⟩=g.getD i ⟨0,0,0⟩):false=rmM l g :=
 rmI_bad h hi (by
  rw [(ru_cell hk).1]
  obtain ⟨h1,h2⟩:=fd_ua (x:=g.getD i ⟨0,0,0⟩) hb
  exact (uc_no (uc_no2 h1 (by rw [h2];exact hx))).2.1)
theorem rm_go2 (h:rmI l g i u) (hi:i < g.length) (hk:¬ (g.getD i ⟨0,0,0⟩).kind=2) (hb:¬ fdI l u (g.getD i ⟨0,0,0⟩).a < 0) (hx:l.getD (fdI l u (g.getD i ⟨0,0,0⟩).a).toNat ⟨0,0,0⟩=g.getD i ⟨0,0,0⟩):rmI l g (i+1) (u.set (fdI l u (g.getD i ⟨0,0,0⟩).a).toNat true):=by
 obtain ⟨h1,h2⟩:=fd_ua (x:=g.getD i ⟨0,0,0⟩) hb
 have hy:=uc_yes h1 (by rw [h2];exact hx)
 have:=rmI_go h hi (by rw [(ru_cell hk).1];exact hy.2.1)
 rw [(ru_cell hk).2,hy.2.2,h2] at this
 exact this
theorem rm_all (h:rmI l g i u) (hi:¬ i < g.length) {j:Nat} (hj:j < u.length) (hf:u.getD j false=false):false=rmM l g:=by
 rw [rmI_end h hi]
 symm
 rw [List.all_eq_false]
 refine ⟨u.getD j false,?_,by rw [hf];simp⟩
 rw [List.getD_eq_getElem?_getD,List.getElem?_eq_getElem hj];exact List.getElem_mem hj
theorem rm_yes (h:rmI l g i u) (hi:¬ i < g.length) {j:Nat} (hj:¬ j < u.length) (hf:(u.take j).all id=true):true=rmM l g:=by
 rw [rmI_end h hi]
 rw [List.take_of_length_le (by omega)] at hf
 exact hf.symm
theorem id_step {j:Nat} (hj:j < u.length) (h:(u.take j).all id=true) (hf:u.getD j false=true):(u.take (j+1)).all id=true:=by
 rw [List.take_add_one,List.all_append,h]
 rw [List.getD_eq_getElem?_getD] at hf
 rw [List.getElem?_eq_getElem hj] at hf ⊢
 simpa using hf
end
section
variable {l:List GAtom} {r:List Bool}
theorem getD_app {v:List Bool} {i:Nat} (hi:i < v.length):(v ++ r).getD i false=v.getD i false:=by
 rw [List.getD_eq_getElem?_getD,List.getD_eq_getElem?_getD,List.getElem?_append_left hi]
theorem uaO_app {v:List Bool} (hv:v.length=l.length) (k:Int):uaO l (v ++ r) k=uaO l v k:=by
 unfold uaO
 have key:∀ L:List Nat,(∀ i ∈ L,i < l.length)->L.find? (uaP l (v ++ r) k)=L.find? (uaP l v k):=by
  intro L
  induction L with
  | nil=>intro _;rfl
  | cons i L ih =>
   intro h
   have e:uaP l (v ++ r) k i=uaP l v k i:=by
    unfold uaP
    rw [getD_app (by rw [hv];exact h i (by simp))]
   rw [List.find?_cons,List.find?_cons,e,ih fun j hj=>h j (by simp [hj])]
 exact key _ fun i hi=>List.mem_range.1 hi
theorem set_app {v:List Bool} {i:Nat} (hi:i < v.length):(v ++ r).set i true=v.set i true ++ r:=by
 rw [List.set_append_left _ _ hi]
theorem uc_app {v:List Bool} (hv:v.length=l.length) (x:GAtom):ucB l (v ++ r) x=ucB l v x/\ucU l (v ++ r) x=ucU l v x ++ r:=by
 have e:ucO l (v ++ r) x=ucO l v x:=by unfold ucO;rw [uaO_app hv]
 unfold ucB ucU
 rw [e]
 refine ⟨rfl,?_⟩
 split
 ·rename_i i hi
  unfold ucO at hi
  cases hq:uaO l v x.a with
  | none=>rw [hq] at hi;cases hi
  | some j =>
   rw [hq] at hi
   have hi:cond (decide (l.getD j nA=x)) (some j) none=some i:=hi
   cases hd:decide (l.getD j nA=x) with
   | false=>rw [hd] at hi;cases hi
   | true =>
    rw [hd] at hi
    injection hi with hi
    subst hi
    exact set_app (by rw [hv];exact (uaO_spec hq).1)
 ·rfl
theorem ch_app {y:Int}:∀ (f:Nat) (v:List Bool) (q:Int) (us:List Int),v.length=l.length->q ≠ y ->
  (chn l y f (v ++ r) q us).2.isSome=(rch l y (f+1) v q).2/\((rch l y (f+1) v q).2=true->(chn l y f (v ++ r) q us).1=(rch l y (f+1) v q).1 ++ r):=by
 intro f
 induction f with
 | zero =>
  intro v q us hv hq
  have e:(rch l y (0+1) v q).2=false:=by
   rw [rch,if_neg hq]
   split
   ·rfl
   ·split <;> rfl
  rw [e]
  exact ⟨rfl,fun h=>by cases h⟩
 | succ f ih =>
  intro v q us hv hq
  rw [chn,rch,if_neg hq,uaO_app hv]
  cases ho:uaO l v q with
  | none=>exact ⟨rfl,fun h=>by cases h⟩
  | some i =>
   have hi:=(uaO_spec ho).1
   have hv':(v.set i true).length=l.length:=by rw [List.length_set];exact hv
   dsimp only
   rw [show (v ++ r).set i true=v.set i true ++ r from set_app (by rw [hv];exact hi)]
   by_cases hb:(l.getD i nA).b=y
   ·rw [if_pos hb,if_neg (fun h=>h.2.1 hb),hb,rch,if_pos rfl]
    exact ⟨rfl,fun _=>rfl⟩
   ·rw [if_neg hb]
    by_cases hk:(l.getD i nA).kind=2/\clB l y=false
    ·rw [if_pos hk,if_pos ⟨hk.1,hb,hk.2⟩]
     exact ⟨rfl,fun h=>by cases h⟩
    ·rw [if_neg hk,if_neg fun h=>hk ⟨h.1,h.2.2⟩]
     exact ih _ _ _ hv' hb
theorem mc_rm:∀ (g:List GAtom) (v:List Bool),v.length=l.length->(∀ x ∈ g,(x.kind=1 ∨ x.kind=2)/\(x.kind=2->x.a ≠ x.b)) ->
  (∃ w,w.length=l.length/\mcF l g (v ++ r)=some (w ++ r)/\rmF l g v=some w) ∨ (mcF l g (v ++ r)=none/\rmF l g v=none):=by
 intro g
 induction g with
 | nil=>intro v hv _;exact .inl ⟨v,hv,rfl,rfl⟩
 | cons x g ih =>
  intro v hv hg
  obtain ⟨hk,hne⟩:=hg x (by simp)
  have key:∀ (b1 b2:Bool) (u1 u2:List Bool),useB l (v ++ r) x=b1->ruB l v x=b2->useU l (v ++ r) x=u1->ruU l v x=u2->b1=b2->(b2=true->u1=u2 ++ r)->(∃ w,w.length=l.length/\mcF l (x :: g) (v ++ r)=some (w ++ r)/\rmF l (x :: g) v=some w) ∨ (mcF l (x :: g) (v ++ r)=none/\rmF l (x :: g) v=none):=by
   intro b1 b2 u1 u2 e1 e2 e3 e4 e5 e6
   rw [mcF,rmF,e1,e2,e3,e4]
   subst e5
   cases b1 with
   | false=>exact .inr ⟨rfl,rfl⟩
   | true =>
    rw [e6 rfl]
    exact ih u2 (by rw [← e4,ruU_len];exact hv) fun y hy=>hg y (by simp [hy])
  rcases hk with hk | hk
  ·obtain ⟨a1,a2⟩:=uc_app (r:=r) hv x
   have hk2:¬ x.kind=2:=by omega
   exact key _ _ _ _ (use_cell hk).1 (ru_cell hk2).1 (use_cell hk).2 (ru_cell hk2).2 a1 fun _=>a2
  ·obtain ⟨a1,a2⟩:=ch_app (r:=r) (y:=x.b) 7 v x.a [] hv (hne hk)
   have hk2:¬ x.kind=1:=by omega
   exact key _ _ _ _ (use_chain hk2).1 (ru_chain hk).1 (use_chain hk2).2 (ru_chain hk).2 a1 fun h=>a2 h
end
theorem cnt_app (v r:List Bool):cnt (v ++ r)=cnt v+cnt r:=by unfold cnt;rw [List.filter_append,List.length_append];omega
theorem cnt_rep (n:Nat):cnt (List.replicate n false)=0:=by unfold cnt;induction n with
 | zero=>rfl
 | succ n ih=>rw [List.replicate_succ];exact ih
theorem cnt_all:∀ v:List Bool,(cnt v == (v.length:Int))=v.all id:=by
 intro v
 induction v with
 | nil=>rfl
 | cons x v ih =>
  have hb:=cnt_bd v
  cases x with
  | false =>
   have e:cnt (false :: v)=cnt v:=rfl
   rw [e]
   simp only [List.length_cons,List.all_cons,id_eq,Bool.false_and,beq_eq_false_iff_ne]
   omega
  | true =>
   have e:cnt (true :: v)=cnt v+1:=by unfold cnt;simp
   rw [e,List.all_cons,← ih]
   simp only [List.length_cons,id_eq,Bool.true_and]
   rw [Bool.eq_iff_iff,beq_iff_eq,beq_iff_eq]
   omega
theorem mcM_rmM {l g:List GAtom} (hl:l.length<=6) (hg:∀ x ∈ g,(x.kind=1 ∨ x.kind=2)/\(x.kind=2->x.a ≠ x.b)):mcM l g=rmM l g:=by
 have e:u0=List.replicate l.length false ++ List.replicate (6 - l.length) false:=by
  rw [List.replicate_append_replicate,show l.length+(6 - l.length)=6 by omega];rfl
 unfold mcM rmM
 rw [e]
 rcases mc_rm (l:=l) (r:=List.replicate (6 - l.length) false) g (List.replicate l.length false) (by simp) hg with ⟨w,hw,h1,h2⟩ | ⟨h1,h2⟩
 ·rw [h1,h2]
  dsimp only
  rw [cnt_app,cnt_rep,Int.add_zero,← hw]
  exact cnt_all w
 ·rw [h1,h2]
theorem fL_good {c:List Int} {l:List GAtom} (h:l.all atV=true):∀ x ∈ fL c l,(x.kind=1 ∨ x.kind=2)/\(x.kind=2->x.a ≠ x.b):=by
 intro x hx
 unfold fL at hx
 obtain ⟨h1,h2⟩:=List.mem_filter.1 hx
 obtain ⟨y,hy,rfl⟩:=List.mem_map.1 h1
 have h3:=List.all_eq_true.1 h y hy
 unfold atV at h3
 simp only [Bool.and_eq_true,Bool.or_eq_true,beq_iff_eq] at h3
 refine ⟨h3.1.1,fun hk=>?_⟩
 have hk:y.kind=2:=hk
 simp only [Bool.or_eq_true,beq_iff_eq,Bool.not_eq_true',beq_eq_false_iff_ne] at h2
 rcases h2 with h2 | h2
 ·omega
 ·exact h2
def EC (a b:GAsn) (c:List Int):Bool:=sFit b.facts c && rmM (fL c a.atoms) (fL c b.atoms)
theorem both_vA {a b:GAsn} (ha:asV a=true) (hb:asV b=true):vA ⟨a.facts ++ b.facts,a.atoms ++ b.atoms⟩=true:=by
 have h1:=asV_facts ha
 have h2:=asV_facts hb
 refine vA_iff.2 ⟨?_,?_,?_,?_⟩
 ·rw [List.all_append,h1.1,h2.1];rfl
 ·rw [List.all_append,h1.2.2.1,h2.2.2.1];rfl
 ·simp only [List.length_append];omega
 ·simp only [List.length_append];omega
theorem both_fl {a b:GAsn}:fl9 (occ ⟨a.facts ++ b.facts,a.atoms ++ b.atoms⟩)=fl9 (fun t=>occ a t || occ b t):=fl9_congr fun t=>by
 simp only [occ,occF_append,occG_append]
 cases occF a.facts t <;> cases occF b.facts t <;> cases occG a.atoms t <;> rfl
end Go.SE

namespace Go.SE
open Go.RowKit
def occB (b:GAsn):Int->Bool:=fun k=>occ b k
def sFn (a b:GAsn) (c:List Int):Bool:=sFin a c && !EC a b c
def FC (a b:GAsn):CG:=(casesB a (hz a (occB b))).filter fun c=>!MC a b c
def ENT (a b:GAsn):Bool:=asV a && (asV b && (casesB a (hz a (occB b))).all fun c=>MC a b c)
section
variable {a b:GAsn} {c:List Int}
theorem occ_isT (hb:asV b=true) {k:Int} (h:occ b k=true):isT k=true:=by
 rw [← tsA_has hb] at h
 unfold tsHas at h
 rw [Bool.and_eq_true] at h
 exact h.1
theorem hzB_has (hb:asV b=true) {k:Int} (h:occ b k=true):0<=k/\k<=8/\hz a (occB b) k.toNat=true:=by
 have ht:=occ_isT hb h
 have:=isT_iff.1 ht
 exact ⟨this.1,this.2,hz_has ht h⟩
theorem occ_fact (hb:asV b=true) {f:GFact} (hf:f ∈ b.facts):occ b f.a=true/\occ b f.b=true:=by
 unfold occ occF
 constructor
 ·rw [Bool.or_eq_true,List.any_eq_true];exact .inl ⟨f,hf,by simp⟩
 ·rw [Bool.or_eq_true,List.any_eq_true];exact .inl ⟨f,hf,by simp⟩
theorem occ_atom (hb:asV b=true) {x:GAtom} (hx:x ∈ b.atoms):occ b x.a=true/\occ b x.b=true:=by
 unfold occ occG
 constructor
 ·rw [Bool.or_eq_true,List.any_eq_true];exact .inr ⟨x,hx,by simp⟩
 ·rw [Bool.or_eq_true,List.any_eq_true];exact .inr ⟨x,hx,by simp⟩
theorem full_val {has:Nat->Bool} (hc:c ∈ fulls has) {k:Int} (h0:0<=k) (h8:k<=8) (hk:has k.toNat=true):0<=cl c k/\cl c k<=k:=by
 obtain ⟨_,hv⟩:=fulls_mem hc
 have:=hv k.toNat (by omega)
 rw [hk] at this
 simp only [cond_true,Bool.and_eq_true,decide_eq_true_eq] at this
 unfold cl
 omega
theorem sFit_full {has:Nat->Bool} (hb:asV b=true) (hc:c ∈ fulls has) (hh:∀ k,occ b k=true->has k.toNat=true):sFit b.facts c=b.facts.all (fh c):=by
 unfold sFit
 rw [Bool.eq_iff_iff,List.all_eq_true,List.all_eq_true]
 have:∀ f ∈ b.facts,(!(decide (0<=cl c f.a) && decide (0<=cl c f.b)) || fh c f)=fh c f:=fun f hf=>by
  obtain ⟨o1,o2⟩:=occ_fact hb hf
  have t1:=isT_iff.1 (occ_isT hb o1)
  have t2:=isT_iff.1 (occ_isT hb o2)
  rw [decide_eq_true (full_val hc t1.1 t1.2 (hh _ o1)).1,decide_eq_true (full_val hc t2.1 t2.2 (hh _ o2)).1]
  rfl
 exact ⟨fun h f hf=>by rw [← this f hf];exact h f hf,fun h f hf=>by rw [this f hf];exact h f hf⟩
theorem ec_mc {has:Nat->Bool} (ha:asV a=true) (hb:asV b=true) (hc:c ∈ fulls has) (hh:∀ k,occ b k=true->has k.toNat=true):EC a b c=MC a b c:=by
 unfold EC MC
 rw [sFit_full hb hc hh,mcM_rmM (Nat.le_trans (fL_len c a.atoms) (asV_facts ha).2.2.2) (fL_good (asV_facts hb).2.2.1)]
theorem fc_mem (hc:c ∈ casesB a (hz a (occB b))) (ha:asV a=true):c ∈ fulls (hz a (occB b)):=by
 rw [casesB_eq (hz_named ha _)] at hc
 exact (List.mem_filter.1 hc).1
theorem sFC (ha:asV a=true) (hb:asV b=true):sQ (sFn a b) a (fl9 (fun t=>occ a t || occ b t)) opens 1=FC a b:=by
 rw [sQ_cases (has:=hz a (occB b)) fun k h1 h2=>by rw [hz_get h1 h2];rfl]
 unfold FC
 rw [show (sFn a b)=(fun c=>sFin a c && !EC a b c) from rfl,casesS_eq (hz_named ha _) rfl fun c=>!EC a b c]
 refine List.filter_congr fun c hc=>?_
 rw [ec_mc ha hb (fc_mem hc ha) fun k hk=>(hzB_has hb hk).2.2]
theorem ENT_FC (ha:asV a=true) (hb:asV b=true):ENT a b=(FC a b).isEmpty:=by
 unfold ENT FC
 rw [ha,hb,Bool.true_and,Bool.true_and,Bool.eq_iff_iff,List.isEmpty_iff,List.filter_eq_nil_iff,List.all_eq_true]
 exact ⟨fun h c hc=>by rw [h c hc];simp,fun h c hc=>by have:=h c hc;simpa using this⟩
theorem ent_no1 (h:asV a=false):ENT a b=false:=by unfold ENT;rw [h];rfl
theorem ent_no2 (h:asV b=false):ENT a b=false:=by unfold ENT;rw [h,Bool.false_and,Bool.and_false]
theorem itEn_ent (ha:asV a=true) (hb:asV b=true):itEn a (bits .or .u16 (tsWith (tsA a) 0) (tsA b))=casesB a (hz a (occB b))/\itPre a (bits .or .u16 (tsWith (tsA a) 0) (tsA b)):=by
 obtain ⟨h1,h2⟩:=tsA_bd b
 obtain ⟨e1,e2⟩:=itEn_or ha h1 h2
 refine ⟨?_,e2⟩
 rw [e1,hz_congr fun k _=>tsA_has hb k]
 rfl
theorem fc_hit (ha:asV a=true) (hb:asV b=true) {i:Nat} {d:List Int} (h:(itEn a (bits .or .u16 (tsWith (tsA a) 0) (tsA b)))[i]?=some c) (ht:((itEn a (bits .or .u16 (tsWith (tsA a) 0) (tsA b))).take i).all (fun c=>MC a b c)=true) (hm:MC a b c=false):(FC a b).headD d=c/\(FC a b).isEmpty=false:=by
 rw [(itEn_ent ha hb).1] at h ht
 have:=first_hit (d:=d) h ht hm
 exact ⟨this.1,this.2.1⟩
theorem fc_none (ha:asV a=true) (hb:asV b=true) (h:(itEn a (bits .or .u16 (tsWith (tsA a) 0) (tsA b))).all (fun c=>MC a b c)=true):FC a b=[]:=by
 rw [(itEn_ent ha hb).1] at h
 exact first_none h
theorem fc_len (ha:asV a=true) (hb:asV b=true):(List.headD (FC a b) (List.replicate 9 0)).length=9:=by
 cases h:FC a b with
 | nil=>rfl
 | cons c l =>
  have hc:c ∈ FC a b:=by rw [h];simp
  unfold FC at hc
  exact (fulls_mem (fc_mem (List.mem_filter.1 hc).1 ha)).1
variable {fin:List Int->Bool} {tm:List Bool} {t:Int}
theorem sk_last (h:sFit a.facts c=true) (h2:sEarly a.atoms c=true) (ht:8 < t) (h3:sApart (fL c a.atoms)=true) (h4:EC a b c=false):sQ (sFn a b) a tm c t=[c]:=last_yes h h2 ht (by unfold sFn sFin;rw [h3,h4];rfl)
theorem sk_no1 (h:sFit a.facts c=true) (h2:sEarly a.atoms c=true) (ht:8 < t) (h3:sApart (fL c a.atoms)=false):sQ (sFn a b) a tm c t=[]:=last_no h h2 ht (by unfold sFn sFin;rw [h3];rfl)
theorem sk_no2 (h:sFit a.facts c=true) (h2:sEarly a.atoms c=true) (ht:8 < t) (h4:EC a b c=true):sQ (sFn a b) a tm c t=[]:=last_no h h2 ht (by unfold sFn;rw [h4];simp)
end
section
variable {a:GAsn} {tm:Int} {c p:List Int} {i:Nat}
end
end Go.SE

namespace Go.SE
open Go.RowKit
inductive Pth (L:List GAtom) (y:Int):Int->List GAtom->Prop
 | last {x:GAtom}:x ∈ L->x.b=y->Pth L y x.a [x]
 | step {x:GAtom} {p:List GAtom}:x ∈ L->x.b ≠ y->Pth L y x.b p->Pth L y x.a (x :: p)
def Opn (z:Int) (L:List GAtom) (y:Int) (p:List GAtom):Prop:=y=z ∨ (∃ x ∈ L,x.a=y) ∨ ∀ x ∈ p.dropLast,x.kind ≠ 2
def OkA (z:Int) (L:List GAtom) (g:GAtom) (p:List GAtom):Prop:=(g.kind=1/\g ∈ L/\p=[g]) ∨ (g.kind ≠ 1/\Pth L g.b g.a p/\Opn z L g.b p)
structure MtF (z:Int) (L G:List GAtom) (f:GAtom->List GAtom):Prop where
 ok:∀ g ∈ G,OkA z L g (f g)
 all:(G.flatMap f).Perm L
def MtS (z:Int) (L G:List GAtom):Prop:=∃ f,MtF z L G f
structure Pos (z:Int) (L:List GAtom):Prop where
 nz:∀ x ∈ L,x.a ≠ z
 ap:L.Pairwise fun x y=>x.a ≠ y.a
 kd:∀ x ∈ L,x.kind ≠ 1->x.kind=2
section
variable {z y q:Int} {L M G H:List GAtom} {p:List GAtom} {f:GAtom->List GAtom} {g:GAtom}
theorem Pth.head (h:Pth L y q p):∃ x p',p=x :: p'/\x.a=q/\x ∈ L:=by
 cases h with
 | last h1 h2=>exact ⟨_,_,rfl,rfl,h1⟩
 | step h1 h2 h3=>exact ⟨_,_,rfl,rfl,h1⟩
theorem Pth.ne (h:Pth L y q p):p ≠ []:=by obtain ⟨x,p',rfl,_⟩:=h.head;simp
theorem Pth.sub (h:Pth L y q p):∀ x ∈ p,x ∈ L:=by
 induction h with
 | last h1 h2=>intro x hx;rw [List.mem_singleton] at hx;rw [hx];exact h1
 | step h1 h2 h3 ih =>
  intro x hx
  rcases List.mem_cons.1 hx with e | hx
  ·rw [e];exact h1
  ·exact ih x hx
theorem Pth.mono (h:Pth L y q p) (hs:∀ x ∈ L,x ∈ M):Pth M y q p:=by
 induction h with
 | last h1 h2=>exact .last (hs _ h1) h2
 | step h1 h2 h3 ih=>exact .step (hs _ h1) h2 ih
theorem Pth.fin (h:Pth L y q p):∃ i x,p=i ++ [x]/\x.b=y/\i=p.dropLast:=by
 induction h with
 | @last x h1 h2=>exact ⟨[],x,rfl,h2,rfl⟩
 | @step x p h1 h2 h3 ih =>
  obtain ⟨i,x',e,h,e2⟩:=ih
  refine ⟨x :: i,x',by rw [e];rfl,h,?_⟩
  rw [List.dropLast_cons_of_ne_nil h3.ne,e2]
theorem Pth.inner (h:Pth L y q p) {x:GAtom} (hx:x ∈ p) (hb:x.b ≠ y):x ∈ p.dropLast:=by
 obtain ⟨i,x',e,h1,e2⟩:=h.fin
 rw [← e2]
 rw [e] at hx
 rcases List.mem_append.1 hx with h | h
 ·exact h
 ·rw [List.mem_singleton] at h;rw [h] at hb;exact (hb h1).elim
theorem Pth.next (h:Pth L y q p) {x:GAtom} (hx:x ∈ p) (hb:x.b ≠ y):∃ x' ∈ p.tail,x'.a=x.b:=by
 induction h with
 | last h1 h2=>rw [List.mem_singleton] at hx;rw [hx] at hb;exact (hb h2).elim
 | @step x0 p h1 h2 h3 ih =>
  rcases List.mem_cons.1 hx with rfl | hx
  ·obtain ⟨x',p',rfl,e,_⟩:=h3.head
   exact ⟨x',by simp,e⟩
  ·obtain ⟨x',h5,h6⟩:=ih hx
   exact ⟨x',List.mem_of_mem_tail h5,h6⟩
theorem Pth.cat {p2:List GAtom} {y2:Int} (h:Pth L y2 q p) (hn:∀ x ∈ p,x.b ≠ y) (h2:Pth L y y2 p2):Pth L y q (p ++ p2):=by
 induction h with
 | last h1 e=>subst e;exact .step h1 (hn _ (by simp)) h2
 | step h1 e h3 ih=>exact .step h1 (hn _ (by simp)) (ih fun x hx=>hn x (by simp [hx]))
theorem OkA.pth (h:OkA z L g p):Pth L g.b g.a p:=by
 rcases h with ⟨_,h1,rfl⟩ | ⟨_,h1,_⟩
 ·exact .last h1 rfl
 ·exact h1
theorem OkA.mono (h:OkA z L g p) (hs:∀ x ∈ L,x ∈ M):OkA z M g p:=by
 rcases h with ⟨h0,h1,h2⟩ | ⟨h0,h1,h2⟩
 ·exact .inl ⟨h0,hs _ h1,h2⟩
 ·refine .inr ⟨h0,h1.mono hs,?_⟩
  rcases h2 with h | ⟨x,hx,e⟩ | h
  ·exact .inl h
  ·exact .inr (.inl ⟨x,hs _ hx,e⟩)
  ·exact .inr (.inr h)
theorem pw_perm {l l':List GAtom} (h:l.Perm l'):(l.Pairwise fun x y=>x.a ≠ y.a) ↔ l'.Pairwise fun x y=>x.a ≠ y.a:=h.pairwise_iff fun h e=>h e.symm
theorem mts_self (h:G.Perm L):MtS z L G:=by
 refine ⟨fun x=>[x],fun g hg=>?_,?_⟩
 ·by_cases hk:g.kind=1
  ·exact .inl ⟨hk,h.mem_iff.1 hg,rfl⟩
  ·exact .inr ⟨hk,.last (h.mem_iff.1 hg) rfl,.inr (.inr fun x hx=>by cases hx)⟩
 ·have:G.flatMap (fun x=>[x])=G:=by induction G <;> simp_all
  rw [this]
  exact h
theorem MtF.used (h:MtF z L G f) (hL:Pos z L):(G.flatMap f).Pairwise fun x y=>x.a ≠ y.a:=(pw_perm h.all).2 hL.ap
theorem MtF.parts (h:MtF z L G f) (hL:Pos z L):(∀ g ∈ G,(f g).Pairwise fun x y=>x.a ≠ y.a)/\G.Pairwise fun g g'=>∀ x ∈ f g,∀ x' ∈ f g',x.a ≠ x'.a:=by
 have:=h.used hL
 rw [List.pairwise_flatMap] at this
 exact this
theorem MtF.pos (h:MtF z L G f) (hL:Pos z L) (hk:∀ x ∈ G,x.kind ≠ 1->x.kind=2):Pos z G:=by
 obtain ⟨_,h2⟩:=h.parts hL
 refine ⟨fun g hg=>?_,h2.imp_of_mem fun {g g'} hg hg' h3=>?_,hk⟩
 ·obtain ⟨x,p',_,e,hx⟩:=(h.ok g hg).pth.head
  rw [← e];exact hL.nz x hx
 ·obtain ⟨x,p1,e1,a1,_⟩:=(h.ok g hg).pth.head
  obtain ⟨x',p2,e2,a2,_⟩:=(h.ok g' hg').pth.head
  rw [← a1,← a2]
  exact h3 x (by rw [e1];simp) x' (by rw [e2];simp)
theorem MtF.own (h:MtF z L G f) (hL:Pos z L) {g':GAtom} (hg:g ∈ G) (hg':g' ∈ G) {x x':GAtom} (hx:x ∈ f g) (hx':x' ∈ f g') (e:x.a=x'.a):g=g':=by
 obtain ⟨_,h2⟩:=h.parts hL
 have key:∀ {l:List GAtom},(l.Pairwise fun g g'=>∀ x ∈ f g,∀ x' ∈ f g',x.a ≠ x'.a)->g ∈ l->g' ∈ l->g=g':=by
  intro l hl h1 h2
  induction l with
  | nil=>cases h1
  | cons a l ih =>
   rw [List.pairwise_cons] at hl
   rcases List.mem_cons.1 h1 with e1 | h3 <;> rcases List.mem_cons.1 h2 with e2 | h4
   ·rw [e1,e2]
   ·rw [e1] at hx;exact (hl.1 _ h4 x hx x' hx' e).elim
   ·rw [e2] at hx';exact (hl.1 _ h3 x' hx' x hx e.symm).elim
   ·exact ih hl.2 h3 h4
 exact key h2 hg hg'
/-- no atom on a way inside ends at y,when y is where a way in G ends -/
theorem inner_ne (h:MtF z L G f) (hL:Pos z L) (hG:∀ x ∈ G,x.kind ≠ 1->x.kind=2) {p2:List GAtom} (h2:Pth G y q p2) (ho:Opn z G y p2) (hg:g ∈ p2) (hb:g.b ≠ y):∀ x ∈ f g,x.b ≠ y:=by
 intro x hx e
 have hgG:=h2.sub g hg
 have hok:=h.ok g hgG
 have hpth:=hok.pth
 obtain ⟨x',h3,h4⟩:=hpth.next hx (by rw [e];exact hb.symm)
 have hx':x' ∈ f g:=List.mem_of_mem_tail h3
 have hL':x' ∈ L:=hpth.sub x' hx'
 rcases ho with ho | ⟨g',hg',ea⟩ | ho
 ·exact hL.nz x' hL' (by rw [h4,e,ho])
 ·obtain ⟨x2,p',e2,a2,m2⟩:=(h.ok g' hg').pth.head
  have hx2:x2 ∈ f g':=by rw [e2];simp
  have ee:x'.a=x2.a:=by rw [h4,e,a2,ea]
  have:=h.own hL hgG hg' hx' hx2 ee
  subst this
  have hpw:=(h.parts hL).1 g hgG
  rw [e2,List.pairwise_cons] at hpw
  rw [e2] at h3
  exact hpw.1 x' h3 ee.symm
 ·have hk:=ho g (h2.inner hg hb)
  rcases hok with ⟨_,_,e1⟩ | ⟨hk1,_,_⟩
  ·rw [e1,List.mem_singleton] at hx
   rw [hx] at e
   exact hb e
  ·exact hk (hG g hgG hk1)
theorem pth_cat (h:MtF z L G f) {p2:List GAtom} (h2:Pth G y q p2) (hn:∀ g ∈ p2,g.b ≠ y->∀ x ∈ f g,x.b ≠ y):Pth L y q (p2.flatMap f):=by
 induction h2 with
 | @last x h1 e =>
  have:=(h.ok x h1).pth
  rw [e] at this
  simpa using this
 | @step x p h1 e h3 ih =>
  rw [List.flatMap_cons]
  exact (h.ok x h1).pth.cat (hn x (by simp) e) (ih fun g hg=>hn g (by simp [hg]))
theorem opn_cat (h:MtF z L G f) (hL:Pos z L) (hG:∀ x ∈ G,x.kind ≠ 1->x.kind=2) {p2:List GAtom} (h2:Pth G y q p2) (ho:Opn z G y p2):Opn z L y (p2.flatMap f):=by
 rcases ho with ho | ⟨g',hg',ea⟩ | ho
 ·exact .inl ho
 ·obtain ⟨x2,p',e2,a2,m2⟩:=(h.ok g' hg').pth.head
  exact .inr (.inl ⟨x2,m2,a2.trans ea⟩)
 ·obtain ⟨i,gl,e,eb,ei⟩:=h2.fin
  have hi:∀ g ∈ i,f g=[g]/\g.kind=1:=fun g hg=>by
   have hgG:g ∈ G:=h2.sub g (by rw [e];simp [hg])
   rcases h.ok g hgG with ⟨k1,_,e1⟩ | ⟨k1,_,_⟩
   ·exact ⟨e1,k1⟩
   ·exact (ho g (by rw [← ei];exact hg) (hG g hgG k1)).elim
  have hflat:i.flatMap f=i:=by
   have:∀ l:List GAtom,(∀ g ∈ l,f g=[g])->l.flatMap f=l:=by
    intro l hl
    induction l with
    | nil=>rfl
    | cons a l ih=>rw [List.flatMap_cons,hl a (by simp),ih fun g hg=>hl g (by simp [hg])];rfl
   exact this i fun g hg=>(hi g hg).1
  have hglG:gl ∈ G:=h2.sub gl (by rw [e];simp)
  have hgl:=h.ok gl hglG
  have hne:f gl ≠ []:=hgl.pth.ne
  have hdl:(p2.flatMap f).dropLast=i ++ (f gl).dropLast:=by
   rw [e,List.flatMap_append,hflat]
   simp only [List.flatMap_cons,List.flatMap_nil,List.append_nil]
   rw [List.dropLast_append_of_ne_nil hne]
  rcases hgl with ⟨_,_,e1⟩ | ⟨_,_,ho2⟩
  ·refine .inr (.inr fun x hx=>?_)
   rw [hdl,e1] at hx
   simp only [List.dropLast_singleton,List.append_nil] at hx
   rw [(hi x hx).2];decide
  ·rw [eb] at ho2
   rcases ho2 with h | h | h
   ·exact .inl h
   ·exact .inr (.inl h)
   ·refine .inr (.inr fun x hx=>?_)
    rw [hdl] at hx
    rcases List.mem_append.1 hx with hx | hx
    ·rw [(hi x hx).2];decide
    ·exact h x hx
theorem mts_trans (hL:Pos z L) (hG:∀ x ∈ G,x.kind ≠ 1->x.kind=2) (h1:MtS z L G) (h2:MtS z G H):MtS z L H:=by
 obtain ⟨f,hf⟩:=h1
 obtain ⟨k,hk⟩:=h2
 refine ⟨fun h=>(k h).flatMap f,fun h hh=>?_,?_⟩
 ·rcases hk.ok h hh with ⟨k1,m1,e1⟩ | ⟨k1,p1,o1⟩
  ·show OkA z L h ((k h).flatMap f)
   rw [e1]
   simp only [List.flatMap_cons,List.flatMap_nil,List.append_nil]
   exact hf.ok h m1
  ·exact .inr ⟨k1,pth_cat hf p1 fun g hg hb=>inner_ne hf hL hG p1 o1 hg hb,opn_cat hf hL hG p1 o1⟩
 ·show (H.flatMap fun h=>(k h).flatMap f).Perm L
  rw [← List.flatMap_assoc]
  exact (hk.all.flatMap_right f).trans hf.all
theorem Pth.map {φ:GAtom->GAtom} {n:Int->Int} (ha:∀ x ∈ L,(φ x).a=n x.a/\(φ x).b=n x.b) (hy:∀ x ∈ L,x.b ≠ y->n x.b ≠ n y) (h:Pth L y q p):Pth (L.map φ) (n y) (n q) (p.map φ):=by
 induction h with
 | @last x h1 e =>
  rw [← (ha x h1).1]
  exact .last (List.mem_map_of_mem h1) (by rw [(ha x h1).2,e])
 | @step x p h1 e h3 ih =>
  rw [← (ha x h1).1]
  rw [← (ha x h1).2] at ih
  exact .step (List.mem_map_of_mem h1) (by rw [(ha x h1).2];exact hy x h1 e) ih
theorem mts_map {φ:GAtom->GAtom} {n:Int->Int} (hφ:∀ x,φ x=⟨x.kind,n x.a,n x.b⟩) (V:Int->Prop) (hn:∀ s t,V s->V t->n s=n t->s=t) (hL:∀ x ∈ L,V x.a/\V x.b) (hG:∀ x ∈ G,V x.a/\V x.b) (hz:V z) (h:MtS z L G):MtS (n z) (L.map φ) (G.map φ):=by
 obtain ⟨f,hf⟩:=h
 classical
 have inj:∀ x ∈ G,∀ x' ∈ G,φ x=φ x'->x=x':=fun x hx x' hx' e=>by
  rw [hφ,hφ] at e
  injection e with e1 e2 e3
  have h1:=hn _ _ (hG x hx).1 (hG x' hx').1 e2
  have h2:=hn _ _ (hG x hx).2 (hG x' hx').2 e3
  cases x;cases x';simp_all
 let k:GAtom->List GAtom:=fun g=>if h:∃ x ∈ G,φ x=g then (f h.choose).map φ else []
 have hk:∀ x ∈ G,k (φ x)=(f x).map φ:=fun x hx=>by
  have he:∃ x' ∈ G,φ x'=φ x:=⟨x,hx,rfl⟩
  show (if h:∃ x' ∈ G,φ x'=φ x then (f h.choose).map φ else [])=_
  rw [dif_pos he,inj _ he.choose_spec.1 _ hx he.choose_spec.2]
 refine ⟨k,fun g hg=>?_,?_⟩
 ·obtain ⟨x,hx,rfl⟩:=List.mem_map.1 hg
  rw [hk x hx]
  rcases hf.ok x hx with ⟨k1,m1,e1⟩ | ⟨k1,p1,o1⟩
  ·exact .inl ⟨by rw [hφ];exact k1,List.mem_map_of_mem m1,by rw [e1];rfl⟩
  ·refine .inr ⟨by rw [hφ];exact k1,?_,?_⟩
   ·have:=p1.map (φ:=φ) (n:=n) (fun x _=>by rw [hφ];exact ⟨rfl,rfl⟩) fun x' hx' hb e=>hb (hn _ _ (hL x' hx').2 (hG x hx).2 e)
    rw [hφ x]
    exact this
   ·rw [hφ x]
    rcases o1 with o | ⟨x',hx',e⟩ | o
    ·exact .inl (congrArg n o)
    ·exact .inr (.inl ⟨φ x',List.mem_map_of_mem hx',by rw [hφ];exact congrArg n e⟩)
    ·refine .inr (.inr fun x' hx'=>?_)
     rw [← List.map_dropLast] at hx'
     obtain ⟨x2,hx2,rfl⟩:=List.mem_map.1 hx'
     rw [hφ];exact o x2 hx2
 ·have e:(G.map φ).flatMap k=(G.flatMap f).map φ:=by
   rw [List.flatMap_map,List.map_flatMap,List.flatMap_def,List.flatMap_def,List.map_congr_left hk]
  rw [e]
  exact hf.all.map φ
end
end Go.SE

namespace Go.SE
open Go.RowKit
def sel:List GAtom->List Bool->List GAtom
 | x :: l,b :: u=>cond b (x :: sel l u) (sel l u)
 | _,_=>[]
def noHi (l:List GAtom) (u:List Bool):Prop:=∀ i,l.length<=i->u.getD i false=false
theorem noHi_tail {x:GAtom} {b:Bool} {l:List GAtom} {u:List Bool} (h:noHi (x :: l) (b :: u)):noHi l u:=fun i hi=>by
 have:=h (i+1) (by simp;omega)
 simpa using this
theorem noHi_set {l:List GAtom} {u:List Bool} {i:Nat} (h:noHi l u) (hi:i < l.length):noHi l (u.set i true):=fun j hj=>by
 rw [List.getD_eq_getElem?_getD,List.getElem?_set_ne (by omega),← List.getD_eq_getElem?_getD]
 exact h j hj
theorem sel_set:∀ {l:List GAtom} {u:List Bool} {i:Nat},i < l.length->i < u.length->u.getD i false=false->(sel l (u.set i true)).Perm (l.getD i nA :: sel l u):=by
 intro l
 induction l with
 | nil=>intro u i h;simp at h
 | cons x l ih =>
  intro u i h1 h2 h3
  cases u with
  | nil=>simp at h2
  | cons b u =>
   cases i with
   | zero =>
    have:b=false:=h3
    subst this
    exact .refl _
   | succ i =>
    have:=ih (u:=u) (i:=i) (by simpa using h1) (by simpa using h2) (by simpa using h3)
    cases b
    ·exact this
    ·show (x :: sel l (u.set i true)).Perm (l.getD i nA :: x :: sel l u)
     exact (this.cons x).trans (.swap _ _ _)
theorem sel_cnt:∀ {l:List GAtom} {u:List Bool},noHi l u->cnt u=((sel l u).length:Nat):=by
 intro l
 induction l with
 | nil =>
  intro u h
  have:u.filter id=[]:=by
   rw [List.filter_eq_nil_iff]
   intro b hb
   obtain ⟨i,hi,e⟩:=List.getElem_of_mem hb
   have:=h i (by simp)
   rw [List.getD_eq_getElem?_getD,List.getElem?_eq_getElem hi,Option.getD_some,e] at this
   simp [this]
  unfold cnt
  rw [this]
  cases u <;> rfl
 | cons x l ih =>
  intro u h
  cases u with
  | nil=>rfl
  | cons b u =>
   have:=ih (noHi_tail h)
   unfold cnt at this ⊢
   cases b
   ·exact this
   ·simp only [sel,cond_true,List.filter_cons,id,if_true,List.length_cons]
    omega
theorem sel_sub:∀ {l:List GAtom} {u:List Bool},(sel l u).Sublist l:=by
 intro l
 induction l with
 | nil=>intro u;cases u <;> exact .slnil
 | cons x l ih =>
  intro u
  cases u with
  | nil=>exact List.nil_sublist _
  | cons b u=>cases b
              ·exact (ih (u:=u)).cons x
              ·exact (ih (u:=u)).cons_cons x
theorem sel_zero:∀ {l:List GAtom} {u:List Bool},(∀ b ∈ u,b=false)->sel l u=[]:=by
 intro l
 induction l with
 | nil=>intro u _;cases u <;> rfl
 | cons x l ih =>
  intro u h
  cases u with
  | nil=>rfl
  | cons b u =>
   rw [h b (by simp)] at *
   exact ih fun b' hb=>h b' (by simp [hb])
theorem sel_get:∀ {l:List GAtom} {u:List Bool} {i:Nat},i < l.length->u.getD i false=true->l.getD i nA ∈ sel l u:=by
 intro l
 induction l with
 | nil=>intro u i h;simp at h
 | cons x l ih =>
  intro u i h1 h2
  cases u with
  | nil=>simp at h2
  | cons b u =>
   cases i with
   | zero =>
    have:b=true:=h2
    subst this
    simp [sel]
   | succ i =>
    have:=ih (u:=u) (i:=i) (by simpa using h1) (by simpa using h2)
    cases b
    ·exact this
    ·exact List.mem_cons_of_mem _ this
section
variable {l g:List GAtom} {u:List Bool} {q y:Int} {x:GAtom}
theorem getD_memA {i:Nat} (h:i < l.length):l.getD i nA ∈ l:=by
 rw [List.getD_eq_getElem?_getD,List.getElem?_eq_getElem h];exact List.getElem_mem h
theorem clB_iff:clB l y=true ↔ y=0 ∨ ∃ x ∈ l,x.a=y:=by
 unfold clB bgn
 rw [Bool.or_eq_true,beq_iff_eq,List.any_eq_true]
 exact or_congr_right ⟨fun ⟨x,h1,h2⟩=>⟨x,h1,by simpa using h2⟩,fun ⟨x,h1,h2⟩=>⟨x,h1,by simpa using h2⟩⟩
theorem opn_iff {p:List GAtom}:Opn 0 l y p ↔ clB l y=true ∨ ∀ x ∈ p.dropLast,x.kind ≠ 2:=by
 rw [clB_iff];unfold Opn;rw [or_assoc]
theorem chn_fwd:∀ (f:Nat) (u:List Bool) (q:Int) (us us':List Int),u.length=6->l.length<=6->noHi l u->(chn l y f u q us).2=some us' ->
  ∃ p,Pth l y q p/\Opn 0 l y p/\(sel l (chn l y f u q us).1).Perm (p ++ sel l u)/\noHi l (chn l y f u q us).1:=by
 intro f
 induction f with
 | zero=>intro u q us us' _ _ _ h;cases h
 | succ f ih =>
  intro u q us us' hu hl hh h
  simp only [chn] at h ⊢
  cases hq:uaO l u q with
  | none=>rw [hq] at h;cases h
  | some i =>
   rw [hq] at h
   obtain ⟨h1,h2,h3⟩:=uaO_spec hq
   have hm:=getD_memA h1
   have hs:=sel_set (u:=u) h1 (by omega) h3
   simp only at h ⊢
   by_cases e1:(l.getD i nA).b=y
   ·rw [if_pos e1] at h ⊢
    exact ⟨[l.getD i nA],h2 ▸ .last hm e1,opn_iff.2 (.inr fun x hx=>by cases hx),hs,noHi_set hh h1⟩
   ·rw [if_neg e1] at h ⊢
    by_cases e2:(l.getD i nA).kind=2/\clB l y=false
    ·rw [if_pos e2] at h;cases h
    ·rw [if_neg e2] at h ⊢
     obtain ⟨p,h5,h6,h7,h8⟩:=ih (u.set i true) _ _ us' (by simpa using hu) hl (noHi_set hh h1) h
     refine ⟨l.getD i nA :: p,h2 ▸ .step hm e1 h5,?_,?_,h8⟩
     ·rw [opn_iff] at h6 ⊢
      rcases h6 with h6 | h6
      ·exact .inl h6
      ·by_cases hc:clB l y=true
       ·exact .inl hc
       ·refine .inr fun x hx=>?_
        rw [List.dropLast_cons_of_ne_nil h5.ne] at hx
        rcases List.mem_cons.1 hx with rfl | hx
        ·intro hk;exact e2 ⟨hk,by simpa using hc⟩
        ·exact h6 x hx
     ·refine h7.trans ?_
      rw [List.cons_append]
      exact (hs.append_left p).trans List.perm_middle
theorem mcF_fwd:∀ (g:List GAtom) (u u':List Bool),u.length=6->l.length<=6->noHi l u->mcF l g u=some u' ->
  ∃ ps:List (List GAtom),ps.length=g.length/\(∀ t ∈ g.zip ps,OkA 0 l t.1 t.2)/\(sel l u').Perm (ps.flatten ++ sel l u)/\noHi l u':=by
 intro g
 induction g with
 | nil =>
  intro u u' _ _ hh h
  injection h with h
  subst h
  exact ⟨[],rfl,(fun t ht=>by cases ht),.refl _,hh⟩
 | cons x g ih =>
  intro u u' hu hl hh h
  simp only [mcF] at h
  cases hb:useB l u x with
  | false=>rw [hb] at h;cases h
  | true =>
   rw [hb,cond_true] at h
   have key:∃ p,OkA 0 l x p/\(sel l (useU l u x)).Perm (p ++ sel l u)/\noHi l (useU l u x):=by
    by_cases hk:x.kind=1
    ·rw [(use_cell hk).1] at hb
     rw [(use_cell hk).2]
     unfold ucB at hb
     unfold ucU
     cases hq:ucO l u x with
     | none=>rw [hq] at hb;cases hb
     | some i =>
      unfold ucO at hq
      cases hw:uaO l u x.a with
      | none=>rw [hw] at hq;cases hq
      | some j =>
       rw [hw] at hq
       have hq:cond (decide (l.getD j nA=x)) (some j) none=some i:=hq
       obtain ⟨h1,h2,h3⟩:=uaO_spec hw
       by_cases e:l.getD j nA=x
       ·rw [decide_eq_true e] at hq
        injection hq with hq
        subst hq
        have hm:=getD_memA h1
        rw [e] at hm
        refine ⟨[x],.inl ⟨hk,hm,rfl⟩,?_,noHi_set hh h1⟩
        have:=sel_set (u:=u) h1 (by omega) h3
        rw [e] at this
        exact this
       ·rw [decide_eq_false e] at hq;cases hq
    ·rw [(use_chain hk).1] at hb
     rw [(use_chain hk).2]
     unfold chB at hb
     unfold chU
     obtain ⟨us',hs⟩:=Option.isSome_iff_exists.1 hb
     obtain ⟨p,h1,h2,h3,h4⟩:=chn_fwd 7 u x.a [] us' hu hl hh hs
     exact ⟨p,.inr ⟨hk,h1,h2⟩,h3,h4⟩
   obtain ⟨p,h1,h2,h3⟩:=key
   obtain ⟨ps,h4,h5,h6,h7⟩:=ih (useU l u x) u' (useU_len.trans hu) hl h3 h
   refine ⟨p :: ps,by simp [h4],fun t ht=>?_,?_,h7⟩
   ·rw [List.zip_cons_cons] at ht
    rcases List.mem_cons.1 ht with e | ht
    ·rw [e];exact h1
    ·exact h5 t ht
   ·refine h6.trans ?_
    rw [List.flatten_cons]
    refine (h2.append_left _).trans ?_
    rw [← List.append_assoc]
    exact (List.perm_append_comm).append_right _
theorem zip_fun (hL:Pos 0 l):∀ {g:List GAtom} {ps:List (List GAtom)},ps.length=g.length->(∀ t ∈ g.zip ps,OkA 0 l t.1 t.2)->(ps.flatten.Pairwise fun x y=>x.a ≠ y.a)->∃ f:GAtom->List GAtom,(∀ x ∈ g,OkA 0 l x (f x))/\g.flatMap f=ps.flatten/\∀ x ∈ g,∃ y ∈ ps.flatten,y.a=x.a:=by
 intro g
 induction g with
 | nil =>
  intro ps h _ _
  have:ps=[]:=List.length_eq_zero_iff.1 h
  subst this
  exact ⟨fun _=>[],(fun x hx=>by cases hx),rfl,(fun x hx=>by cases hx)⟩
 | cons x g ih =>
  intro ps h1 h2 h3
  cases ps with
  | nil=>cases h1
  | cons p ps =>
   rw [List.flatten_cons,List.pairwise_append] at h3
   rw [List.zip_cons_cons] at h2
   obtain ⟨f,hf,he,hs⟩:=ih (by simpa using h1) (fun t ht=>h2 t (List.mem_cons_of_mem _ ht)) h3.2.1
   have hp:OkA 0 l x p:=h2 (x,p) (by simp)
   obtain ⟨y,p',e,ea,_⟩:=hp.pth.head
   have hy:y ∈ p:=by rw [e];simp
   have hx:x ∉ g:=fun hx=>by
    obtain ⟨y',h4,h5⟩:=hs x hx
    exact h3.2.2 y hy y' h4 (ea.trans h5.symm)
   classical
   have e1:∀ x' ∈ g,(if x'=x then p else f x')=f x':=fun x' hx'=>if_neg fun e=>hx (by rw [← e];exact hx')
   refine ⟨fun x'=>if x'=x then p else f x',fun x' hx'=>?_,?_,fun x' hx'=>?_⟩
   ·rcases List.mem_cons.1 hx' with rfl | hx'
    ·show OkA 0 l x' (if x'=x' then p else f x')
     rw [if_pos rfl];exact hp
    ·show OkA 0 l x' (if x'=x then p else f x')
     rw [e1 x' hx'];exact hf x' hx'
   ·rw [List.flatMap_cons,List.flatten_cons,if_pos rfl,← he,List.flatMap_def,List.flatMap_def,List.map_congr_left e1]
   ·rcases List.mem_cons.1 hx' with rfl | hx'
    ·exact ⟨y,by simp [hy],ea⟩
    ·obtain ⟨y',h4,h5⟩:=hs x' hx'
     exact ⟨y',by rw [List.flatten_cons];simp [h4],h5⟩
theorem u0_noHi:noHi l u0:=fun i _=>by
 match i with
 | 0=>rfl
 | 1=>rfl
 | 2=>rfl
 | 3=>rfl
 | 4=>rfl
 | 5=>rfl
 | i+6=>rfl
theorem u0_sel:sel l u0=[]:=sel_zero fun b hb=>by
 unfold u0 six at hb
 simp only [List.mem_cons,List.not_mem_nil,or_false,or_self] at hb
 exact hb
theorem mcM_fwd (hL:Pos 0 l) (hl:l.length<=6) (h:mcM l g=true):MtS 0 l g:=by
 unfold mcM at h
 cases hm:mcF l g u0 with
 | none=>rw [hm] at h;cases h
 | some u =>
  rw [hm] at h
  obtain ⟨ps,h1,h2,h3,h4⟩:=mcF_fwd g u0 u rfl hl u0_noHi hm
  rw [u0_sel,List.append_nil] at h3
  have hc:cnt u=(l.length:Nat):=by simpa using h
  rw [sel_cnt h4] at hc
  have he:sel l u=l:=sel_sub.eq_of_length (by omega)
  rw [he] at h3
  obtain ⟨f,hf,e,_⟩:=zip_fun hL h1 h2 ((pw_perm h3).1 hL.ap)
  exact ⟨f,hf,by rw [e];exact h3.symm⟩
theorem find_at (hL:Pos 0 l) {R:List GAtom} (hp:(sel l u ++ x :: R).Perm l):∃ i,uaO l u x.a=some i/\i < l.length/\l.getD i nA=x/\u.getD i false=false:=by
 have hx:x ∈ l:=hp.mem_iff.1 (by simp)
 obtain ⟨i,hi,e⟩:=List.getElem_of_mem hx
 have eD:l.getD i nA=x:=by rw [List.getD_eq_getElem?_getD,List.getElem?_eq_getElem hi,Option.getD_some,e]
 have hu:u.getD i false=false:=by
  cases hb:u.getD i false with
  | false=>rfl
  | true =>
   have hm:=sel_get hi hb
   rw [eD] at hm
   have:=(pw_perm hp).2 hL.ap
   rw [List.pairwise_append] at this
   exact (this.2.2 x hm x (by simp) rfl).elim
 refine ⟨i,?_,hi,eD,hu⟩
 unfold uaO
 rw [List.find?_range_eq_some]
 refine ⟨by unfold uaP;rw [eD,hu];simp,List.mem_range.2 hi,fun j hj=>?_⟩
 have hjl:j < l.length:=by omega
 have hne:=List.pairwise_iff_getElem.1 hL.ap j i hjl hi hj
 rw [e] at hne
 unfold uaP
 have:l.getD j nA=l[j]:=by rw [List.getD_eq_getElem?_getD,List.getElem?_eq_getElem hjl,Option.getD_some]
 rw [this,beq_eq_false_iff_ne.2 hne]
 rfl
theorem chn_bwd (hL:Pos 0 l) {p:List GAtom} (hp:Pth l y q p):∀ (f:Nat) (u:List Bool) (us:List Int) (R:List GAtom),u.length=6->l.length<=6->noHi l u->p.length<=f->Opn 0 l y p->(sel l u ++ (p ++ R)).Perm l ->
  (chn l y f u q us).2.isSome=true/\(sel l (chn l y f u q us).1).Perm (sel l u ++ p)/\noHi l (chn l y f u q us).1:=by
 induction hp with
 | @last x h1 e =>
  intro f u us R hu hl hh hf _ hr
  obtain ⟨i,h2,h3,h4,h5⟩:=find_at (x:=x) (R:=R) hL hr
  have hs:=sel_set (u:=u) h3 (by omega) h5
  cases f with
  | zero=>simp at hf
  | succ f =>
   simp only [chn]
   rw [h2]
   simp only
   rw [if_pos (by rw [h4];exact e)]
   rw [h4] at hs
   exact ⟨rfl,hs.trans (List.perm_append_singleton _ _).symm,noHi_set hh h3⟩
 | @step x p h1 e h3 ih =>
  intro f u us R hu hl hh hf ho hr
  obtain ⟨i,h2,h3',h4,h5⟩:=find_at (x:=x) (R:=p ++ R) hL (by simpa using hr)
  have hs:=sel_set (u:=u) h3' (by omega) h5
  cases f with
  | zero=>simp at hf
  | succ f =>
   simp only [chn]
   rw [h2]
   simp only
   rw [if_neg (by rw [h4];exact e)]
   rw [h4] at hs ⊢
   have ho':=opn_iff.1 ho
   rw [List.dropLast_cons_of_ne_nil h3.ne] at ho'
   rw [if_neg (fun ⟨k1,k2⟩=>ho'.elim (fun h=>by rw [k2] at h;cases h) fun h=>h x (by simp) k1)]
   have ho2:Opn 0 l y p:=opn_iff.2 (ho'.imp id fun h x' hx'=>h x' (by simp [hx']))
   have hr2:(sel l (u.set i true) ++ (p ++ R)).Perm l:=by
    refine .trans ?_ hr
    refine (hs.append_right _).trans ?_
    simp only [List.cons_append]
    exact List.perm_middle.symm
   obtain ⟨a1,a2,a3⟩:=ih f (u.set i true) (us ++ [(i:Int)]) R (by simpa using hu) hl (noHi_set hh h3') (by simpa using hf) ho2 hr2
   refine ⟨a1,a2.trans ?_,a3⟩
   refine (hs.append_right _).trans ?_
   simp only [List.cons_append]
   exact List.perm_middle.symm
theorem mcF_bwd (hL:Pos 0 l) {f:GAtom->List GAtom}:∀ (g:List GAtom) (u:List Bool),u.length=6->l.length<=6->noHi l u->(∀ x ∈ g,OkA 0 l x (f x))->(sel l u ++ g.flatMap f).Perm l ->
  ∃ u',mcF l g u=some u'/\(sel l u').Perm l/\noHi l u':=by
 intro g
 induction g with
 | nil =>
  intro u _ _ hh _ hp
  exact ⟨u,rfl,by simpa using hp,hh⟩
 | cons x g ih =>
  intro u hu hl hh hf hp
  rw [List.flatMap_cons] at hp
  have key:useB l u x=true/\(sel l (useU l u x)).Perm (sel l u ++ f x)/\noHi l (useU l u x):=by
   rcases hf x (by simp) with ⟨k1,m1,e1⟩ | ⟨k1,p1,o1⟩
   ·rw [(use_cell k1).1,(use_cell k1).2]
    rw [e1] at hp ⊢
    obtain ⟨i,h2,h3,h4,h5⟩:=find_at (x:=x) (R:=g.flatMap f) hL hp
    have hq:ucO l u x=some i:=by
     unfold ucO
     rw [h2]
     show cond (decide (l.getD i nA=x)) (some i) none=some i
     rw [decide_eq_true h4];rfl
    unfold ucB ucU
    rw [hq]
    have hs:=sel_set (u:=u) h3 (by omega) h5
    rw [h4] at hs
    exact ⟨rfl,hs.trans (List.perm_append_singleton _ _).symm,noHi_set hh h3⟩
   ·rw [(use_chain k1).1,(use_chain k1).2]
    have hlen:(f x).length<=7:=by
     have:=hp.length_eq
     simp only [List.length_append] at this
     omega
    exact chn_bwd hL p1 7 u [] (g.flatMap f) hu hl hh hlen o1 hp
  obtain ⟨h1,h2,h3⟩:=key
  obtain ⟨u',h4,h5,h6⟩:=ih (useU l u x) (useU_len.trans hu) hl h3 (fun x' hx'=>hf x' (by simp [hx'])) ((h2.append_right _).trans (by rw [List.append_assoc];exact hp))
  refine ⟨u',?_,h5,h6⟩
  simp only [mcF]
  rw [h1,cond_true,h4]
theorem mcM_bwd (hL:Pos 0 l) (hl:l.length<=6) (h:MtS 0 l g):mcM l g=true:=by
 obtain ⟨f,hf⟩:=h
 obtain ⟨u',h1,h2,h3⟩:=mcF_bwd hL g u0 rfl hl u0_noHi hf.ok (by rw [u0_sel];exact hf.all)
 unfold mcM
 rw [h1]
 have:=sel_cnt h3
 have e:=h2.length_eq
 simp only [beq_iff_eq]
 omega
theorem mcM_iff (hL:Pos 0 l) (hl:l.length<=6):mcM l g=true ↔ MtS 0 l g:=⟨mcM_fwd hL hl,mcM_bwd hL hl⟩
end
end Go.SE

namespace Go.SE
open Go.RowKit
def ct (s:GState) (n:Int):Int:=if 1<=n/\n<=8 then s.heap.getD (n - 1).toNat 0 else -1
def al (s:GState) (n:Int):Bool:=decide (0<=ct s n)
def walk (s:GState) (to:Int):Nat->Int->Option (List Int)
 | 0,at'=>if at'=to then some [] else none
 | f+1,at'=>if at'=to then some [] else cond (al s at') ((walk s to f (ct s at')).map (at' :: ·)) none
end Go.SE

namespace Go.SE
open Go.RowKit
section
variable {a:GAsn} {i:Nat}
end
end Go.SE

namespace Go.SE
open Go.RowKit
section
variable {a:GAsn} {i n:Nat}
end
end Go.SE

namespace Go.SE
open Go.RowKit
section
variable {s:GState}
end
section
variable {s:GState} {x y q:Int} {w:List Int}
end
section
variable {s:GState} {x y q:Int} {w:List Int}
end
section
variable {s:GState} {x:GAtom}
end
section
variable {s:GState} {l:List GAtom} {i j:Nat}
end
section
variable {s:GState} {a:GAsn} {i:Nat}
end
section
variable {l:List GFact} {v:List Int} {i:Nat}
end
section
variable {s:GState} {a:GAsn} {i j:Nat}
end
end Go.SE

namespace Go.SE
open Go.RowKit
section
variable {s:GState} {a:GAsn} {i j:Nat}
end
end Go.SE

namespace Go.SE
open Go.RowKit
section
variable {a:GAsn} {l:List Int} {i:Nat}
end
end Go.SE

namespace Go.SE
open Go.RowKit
end Go.SE

namespace Go.SE
open Go.RowKit
section
variable {s:GState} {a:GAsn} {f:GFact} {x t:Int}
end
end Go.SE

namespace Go.SE
open Go.RowKit
section
variable {c:List Int}
end
section
variable {V:List Int}
end
section
variable {s:GState}
end
section
variable {a:GAsn} {c:List Int}
end
end Go.SE

namespace Go.SE
open Go.RowKit
section
variable {a:GAsn} {s:GState}
end
end Go.SE

namespace Go.SE
open Go.RowKit
def imA (v:Int->Int) (x:GAtom):GAtom:=⟨x.kind,v x.a,v x.b⟩
def fv (v:Int->Int) (l:List GAtom):List GAtom:=(filt v l).map (imA v)
structure Qv (a b:GAsn) (v:Int->Int):Prop where
 facts:∀ f ∈ b.facts,(v f.a == v f.b)=f.eq
 mt:MtS (v 0) (fv v a.atoms) (fv v b.atoms)
section
variable {a b c:GAsn} {v w:Int->Int} {l m:List GAtom}
theorem fL_fv {c:List Int}:fL c l=fv (cl c) l:=by
 unfold fL fv filt
 rw [List.filter_map]
 rfl
theorem fv_perm (h:l.Perm m):(fv v l).Perm (fv v m):=(h.filter _).map _
theorem fv_len:(fv v l).length<=l.length:=by unfold fv filt;rw [List.length_map];exact List.length_filter_le _ _
theorem atV_kind {x:GAtom} (h:atV x=true):x.kind ≠ 1->x.kind=2:=by
 unfold atV at h
 simp only [Bool.and_eq_true,Bool.or_eq_true,beq_iff_eq] at h
 intro h1
 rcases h.1.1 with h2 | h2
 ·exact (h1 h2).elim
 ·exact h2
theorem fv_kind (h:l.all atV=true):∀ x ∈ fv v l,x.kind ≠ 1->x.kind=2:=fun x hx=>by
 obtain ⟨y,hy,rfl⟩:=List.mem_map.1 hx
 exact atV_kind (x:=y) (List.all_eq_true.1 h y (List.mem_filter.1 hy).1)
theorem fv_pos (ha:a.atoms.all atV=true) (hv:possV a v):Pos (v 0) (fv v a.atoms):=by
 refine ⟨fun x hx=>?_,?_,fv_kind ha⟩
 ·obtain ⟨y,hy,rfl⟩:=List.mem_map.1 hx
  exact hv.nil y hy
 ·unfold fv
  rw [List.pairwise_map]
  exact hv.apart
theorem pos_poss (hf:∀ f ∈ b.facts,(v f.a == v f.b)=f.eq) (h:Pos (v 0) (fv v b.atoms)):possV b v:=by
 refine ⟨hf,fun x hx=>h.nz _ (List.mem_map_of_mem hx),?_⟩
 have:=h.ap
 unfold fv at this
 rw [List.pairwise_map] at this
 exact this
theorem Qv.poss (ha:a.atoms.all atV=true) (hb:b.atoms.all atV=true) (hv:possV a v) (h:Qv a b v):possV b v:=by
 obtain ⟨f,hf⟩:=h.mt
 exact pos_poss h.facts (hf.pos (fv_pos ha hv) (fv_kind hb))
theorem Qv.trans (ha:a.atoms.all atV=true) (hb:b.atoms.all atV=true) (hv:possV a v) (h1:Qv a b v) (h2:Qv b c v):Qv a c v :=
 ⟨h2.facts,mts_trans (fv_pos ha hv) (fv_kind hb) h1.mt h2.mt⟩
theorem Qv.congr (P:Int->Prop) (h:∀ s t,P s->P t->(v s == v t)=(w s == w t)) (h0:P 0) (hf:∀ f ∈ b.facts,P f.a/\P f.b) (ha:∀ x ∈ a.atoms,P x.a/\P x.b) (hb:∀ x ∈ b.atoms,P x.a/\P x.b) (hq:Qv a b v):Qv a b w:=by
 classical
 have heq:∀ s t,P s->P t->(v s=v t ↔ w s=w t):=fun s t hs ht=>by
  have:=h s t hs ht
  rw [Bool.eq_iff_iff,beq_iff_eq,beq_iff_eq] at this
  exact this
 let n:Int->Int:=fun x=>if h:∃ t,P t/\v t=x then w h.choose else 0
 have hn:∀ t,P t->n (v t)=w t:=fun t ht=>by
  have he:∃ t',P t'/\v t'=v t:=⟨t,ht,rfl⟩
  show (if h:∃ t',P t'/\v t'=v t then w h.choose else 0)=_
  rw [dif_pos he]
  exact (heq _ _ he.choose_spec.1 ht).1 he.choose_spec.2
 have hfv:∀ l:List GAtom,(∀ x ∈ l,P x.a/\P x.b)->fv w l=(fv v l).map fun x=>⟨x.kind,n x.a,n x.b⟩:=fun l hl=>by
  have ef:filt v l=filt w l:=List.filter_congr fun x hm=>by rw [h _ _ (hl x hm).1 (hl x hm).2]
  unfold fv
  rw [List.map_map,ef]
  refine List.map_congr_left fun x hx=>?_
  have hx':=hl x (List.mem_filter.1 hx).1
  show (⟨x.kind,w x.a,w x.b⟩:GAtom)=⟨x.kind,n (v x.a),n (v x.b)⟩
  rw [hn _ hx'.1,hn _ hx'.2]
 have hV:∀ l:List GAtom,(∀ x ∈ l,P x.a/\P x.b)->∀ x ∈ fv v l,(∃ t,P t/\v t=x.a)/\∃ t,P t/\v t=x.b:=fun l hl x hx=>by
  obtain ⟨y,hy,rfl⟩:=List.mem_map.1 hx
  have hy':=hl y (List.mem_filter.1 hy).1
  exact ⟨⟨y.a,hy'.1,rfl⟩,⟨y.b,hy'.2,rfl⟩⟩
 refine ⟨fun f hf'=>by rw [← h _ _ (hf f hf').1 (hf f hf').2];exact hq.facts f hf',?_⟩
 rw [hfv _ ha,hfv _ hb,← hn 0 h0]
 refine mts_map (φ:=fun x=>⟨x.kind,n x.a,n x.b⟩) (fun _=>rfl) (fun x=>∃ t,P t/\v t=x) ?_ (hV _ ha) (hV _ hb) ⟨0,h0,rfl⟩ hq.mt
 rintro s t ⟨s',hs,rfl⟩ ⟨t',ht,rfl⟩ e
 rw [hn _ hs,hn _ ht] at e
 exact (heq _ _ hs ht).2 e
theorem hz00 {q:Int->Bool}:hz a q 0=true:=rfl
theorem hzA_fact (ha:asV a=true) {q:Int->Bool} {k:Int} (h:occ a k=true):0<=k/\k<=8/\hz a q k.toNat=true:=by
 have ht:=occ_isT ha h
 have:=isT_iff.1 ht
 refine ⟨this.1,this.2,?_⟩
 unfold hz
 rw [show ((k.toNat:Nat):Int)=k by omega,ht,h]
 simp
theorem mc_iff (ha:asV a=true) {q:Int->Bool} {c:List Int} (hc:c ∈ casesB a (hz a q)):MC a b c=true ↔ Qv a b (cl c):=by
 have hn:=hz_named ha q
 rw [casesB_eq hn] at hc
 obtain ⟨h1,h2⟩:=List.mem_filter.1 hc
 have hp:=(possI_iff hn h1 hz00).1 h2
 have hA:=asV_facts ha
 have h0:=full_val h1 (k:=0) (by decide) (by decide) hz00
 have hz0:cl c 0=0:=by omega
 have hpos:=fv_pos hA.2.2.1 hp
 rw [hz0] at hpos
 unfold MC
 rw [Bool.and_eq_true,fL_fv,fL_fv,mcM_iff hpos (Nat.le_trans fv_len hA.2.2.2),List.all_eq_true]
 constructor
 ·rintro ⟨h3,h4⟩
  exact ⟨fun f hf=>by have:=h3 f hf;unfold fh at this;simpa using this,by rw [hz0];exact h4⟩
 ·rintro ⟨h3,h4⟩
  rw [hz0] at h4
  exact ⟨fun f hf=>by unfold fh;rw [h3 f hf];simp,h4⟩
theorem ent_iff:ENT a b=true ↔ asV a=true/\asV b=true/\∀ v,possV a v->Qv a b v:=by
 classical
 unfold ENT
 rw [Bool.and_eq_true,Bool.and_eq_true]
 refine and_congr_right fun ha=>and_congr_right fun hb=>?_
 have hP:∀ k,occ a k=true ∨ occ b k=true->0<=k/\k<=8/\hz a (occB b) k.toNat=true:=fun k hk=>hk.elim (fun h=>hzA_fact ha h) fun h=>hzB_has hb h
 have key:=cases_all (hz_named ha (occB b)) hz00 (fun v=>decide (Qv a b v)) fun v w h=>by
  have h':∀ s t:Int,(0<=s/\s<=8/\hz a (occB b) s.toNat=true)->(0<=t/\t<=8/\hz a (occB b) t.toNat=true)->(v s == v t)=(w s == w t):=fun s t hs ht=>h s t hs.1 hs.2.1 hs.2.2 ht.1 ht.2.1 ht.2.2
  have f1:∀ f ∈ b.facts,(0<=f.a/\f.a<=8/\hz a (occB b) f.a.toNat=true)/\(0<=f.b/\f.b<=8/\hz a (occB b) f.b.toNat=true):=fun f hf=>⟨hP _ (.inr (occ_fact hb hf).1),hP _ (.inr (occ_fact hb hf).2)⟩
  have f2:∀ x ∈ a.atoms,(0<=x.a/\x.a<=8/\hz a (occB b) x.a.toNat=true)/\(0<=x.b/\x.b<=8/\hz a (occB b) x.b.toNat=true):=fun f hf=>⟨hP _ (.inl (occ_atom ha hf).1),hP _ (.inl (occ_atom ha hf).2)⟩
  have f3:∀ x ∈ b.atoms,(0<=x.a/\x.a<=8/\hz a (occB b) x.a.toNat=true)/\(0<=x.b/\x.b<=8/\hz a (occB b) x.b.toNat=true):=fun f hf=>⟨hP _ (.inr (occ_atom hb hf).1),hP _ (.inr (occ_atom hb hf).2)⟩
  rw [decide_eq_decide]
  exact ⟨fun hq=>hq.congr _ h' ⟨by decide,by decide,hz00⟩ f1 f2 f3,fun hq=>hq.congr _ (fun s t hs ht=>(h' s t hs ht).symm) ⟨by decide,by decide,hz00⟩ f1 f2 f3⟩
 have e:((casesB a (hz a (occB b))).all fun c=>MC a b c)=((casesB a (hz a (occB b))).all fun d=>decide (Qv a b (cl d))):=by
  rw [Bool.eq_iff_iff,List.all_eq_true,List.all_eq_true]
  exact ⟨fun h c hc=>decide_eq_true ((mc_iff ha hc).1 (h c hc)),fun h c hc=>(mc_iff ha hc).2 (of_decide_eq_true (h c hc))⟩
 rw [e,key]
 exact ⟨fun h v hv=>of_decide_eq_true (h v hv),fun h v hv=>decide_eq_true (h v hv)⟩
theorem ent_v1 (h:ENT a b=true):asV a=true:=(ent_iff.1 h).1
theorem ent_v2 (h:ENT a b=true):asV b=true:=(ent_iff.1 h).2.1
theorem qv_self (hf:∀ f ∈ b.facts,(v f.a == v f.b)=f.eq) (h:(fv v b.atoms).Perm (fv v a.atoms)):Qv a b v:=⟨hf,mts_self h⟩
theorem ent_same (ha:asV a=true) (hb:asV b=true) (hf:∀ v,possV a v->∀ f ∈ b.facts,(v f.a == v f.b)=f.eq) (hp:∀ v,possV a v->(fv v b.atoms).Perm (fv v a.atoms)):ENT a b=true :=
 ent_iff.2 ⟨ha,hb,fun v hv=>qv_self (hf v hv) (hp v hv)⟩
theorem ent_sub (ha:asV a=true) (hb:asV b=true) (hf:∀ f ∈ b.facts,f ∈ a.facts) (hp:b.atoms.Perm a.atoms):ENT a b=true :=
 ent_same ha hb (fun _ hv f h=>hv.facts f (hf f h)) fun _ _=>fv_perm hp
theorem ent_refl (ha:asV a=true):ENT a a=true:=ent_sub ha ha (fun _ h=>h) (.refl _)
end
end Go.SE

namespace Go.SE
open Go.RowKit
inductive Sg (s:GState) (e:Int):Int->List Int->Prop
 | nil:Sg s e e []
 | step {q:Int} {ns:List Int}:al s q=true->Sg s e (ct s q) ns->Sg s e q (q :: ns)
def acV (s:GState) (x:GAtom):Option (List Int):=if x.kind=2 then walk s x.b 8 x.a else if ct s x.a=x.b then some [x.a] else none
def ftp (s:GState) (x:GAtom):List Int:=(acV s x).getD []
section
variable {s:GState} {q e m:Int} {ns ms:List Int} {a b:GAsn} {L G:List GAtom} {p:List GAtom} {f:GAtom->List GAtom} {g:GAtom}
theorem Sg.cat (h:Sg s m q ns) (h2:Sg s e m ms):Sg s e q (ns ++ ms):=by
 induction h with
 | nil=>exact h2
 | step h1 _ ih=>exact .step h1 ih
theorem Sg.al (h:Sg s e q ns):∀ n ∈ ns,al s n=true:=by
 induction h with
 | nil=>intro n hn;cases hn
 | step h1 _ ih =>
  intro n hn
  rcases List.mem_cons.1 hn with e | hn
  ·rw [e];exact h1
  ·exact ih n hn
theorem Pth.first {L:List GAtom} {y q:Int} {p:List GAtom} (h:Pth L y q p) {x:GAtom} (hx:x ∈ p) (e:x.a=y):q=y:=by
 induction h with
 | last h1 h2=>rw [List.mem_singleton] at hx;rw [hx] at e;exact e
 | @step x0 p h1 h2 h3 ih =>
  rcases List.mem_cons.1 hx with e2 | hx
  ·rw [e2] at e;exact e
  ·exact (h2 (ih hx)).elim
structure Hp (s:GState) (L:List GAtom):Prop where
 pos:Pos 0 L
 ne:∀ x ∈ L,x.kind=2->x.a ≠ x.b
 vb:∀ x ∈ L,0<=x.b
 ac:∀ x ∈ L,(acV s x).isSome=true
 nd:(L.flatMap (ftp s)).Nodup
theorem Hp.own (h:Hp s L) {x x':GAtom} (hx:x ∈ L) (hx':x' ∈ L) {n:Int} (h1:n ∈ ftp s x) (h2:n ∈ ftp s x'):x=x':=by
 have hd:=h.nd
 unfold List.Nodup at hd
 rw [List.pairwise_flatMap] at hd
 have key:∀ {l:List GAtom},(l.Pairwise fun x x'=>∀ n ∈ ftp s x,∀ n' ∈ ftp s x',n ≠ n')->x ∈ l->x' ∈ l->x=x':=by
  intro l hl a1 a2
  induction l with
  | nil=>cases a1
  | cons a l ih =>
   rw [List.pairwise_cons] at hl
   rcases List.mem_cons.1 a1 with e1 | a3 <;> rcases List.mem_cons.1 a2 with e2 | a4
   ·rw [e1,e2]
   ·rw [e1] at h1;exact (hl.1 _ a4 n h1 n h2 rfl).elim
   ·rw [e2] at h2;exact (hl.1 _ a3 n h2 n h1 rfl).elim
   ·exact ih hl.2 a3 a4
 exact key hd.2 hx hx'
end
end Go.SE

namespace Go.SE
open Go.RowKit
def woF (l:List GAtom) (i k:Int) (n:Nat):List GAtom:=((List.range n).filter fun (j:Nat)=>!((j:Int) == i) && !((j:Int) == k)).map fun j=>l.getD j nA
def foldA (a:GAsn) (i k:Nat):GAsn:=⟨a.facts,⟨2,(a.atoms.getD i nA).a,(a.atoms.getD k nA).b⟩ :: woF a.atoms i k a.atoms.length⟩
def fcOk (a:GAsn) (i k:Nat):Bool:=!(i == k) && (((a.atoms.getD i nA).b == (a.atoms.getD k nA).a) && ENT a (foldA a i k))
def fcR (a:GAsn) (i:Nat):Option Nat:=(List.range a.atoms.length).find? (fcOk a i)
def fcI (a:GAsn):Option Nat:=(List.range a.atoms.length).find? fun i=>(fcR a i).isSome
def fcO (a:GAsn):Option GAsn:=cond (asV a) ((fcI a).bind fun i=>(fcR a i).map fun k=>foldA a i k) none
def fcL (a:GAsn):GAsn:=(fcO a).getD ⟨[],[]⟩
def fcB (a:GAsn):Bool:=(fcO a).isSome
section
variable {a:GAsn} {l:List GAtom} {i k:Int} {n:Nat}
theorem fo_len6 (ha:asV a=true):a.facts.length<=12/\a.atoms.length<=6:=⟨(asV_facts ha).2.1,(asV_facts ha).2.2.2⟩
theorem fo_spec (h:fcB a=true):∃ i k:Nat,i < a.atoms.length/\k < a.atoms.length/\i ≠ k/\fcL a=foldA a i k/\ENT a (foldA a i k)=true:=by
 unfold fcB at h
 obtain ⟨b,hb⟩:=Option.isSome_iff_exists.1 h
 have hb':=hb
 unfold fcO at hb
 cases ha:asV a with
 | false=>rw [ha] at hb;cases hb
 | true =>
  rw [ha,cond_true] at hb
  cases hI:fcI a with
  | none=>rw [hI] at hb;cases hb
  | some i =>
   rw [hI] at hb
   have hb:(fcR a i).map (fun k=>foldA a i k)=some b:=hb
   cases hR:fcR a i with
   | none=>rw [hR] at hb;cases hb
   | some k =>
    rw [hR] at hb
    injection hb with hb
    unfold fcR at hR
    obtain ⟨h1,h2,_⟩:=List.find?_range_eq_some.1 hR
    unfold fcI at hI
    obtain ⟨_,h4,_⟩:=List.find?_range_eq_some.1 hI
    unfold fcOk at h1
    simp only [Bool.and_eq_true,Bool.not_eq_true',beq_eq_false_iff_ne,ne_eq] at h1
    refine ⟨i,k,List.mem_range.1 h4,List.mem_range.1 h2,h1.1,?_,h1.2.2⟩
    unfold fcL
    rw [hb',← hb]
    rfl
theorem filter_two:∀ (n i k:Nat),i < n->k < n->i ≠ k->((List.range n).filter fun (j:Nat)=>!((j:Int) == (i:Int)) && !((j:Int) == (k:Int))).length=n - 2:=by
 intro n i k hi hk hne
 have h1:∀ (n i:Nat),((List.range n).filter fun (j:Nat)=>!((j:Int) == (i:Int))).length=if i < n then n - 1 else n:=by
  intro n i
  induction n with
  | zero=>rfl
  | succ n ih =>
   rw [List.range_succ,List.filter_append,List.length_append,ih]
   by_cases e:n=i
   ·subst e;simp
   ·have:¬ (n:Int)=(i:Int):=by omega
    simp only [List.filter_cons,beq_eq_false_iff_ne.2 this,Bool.not_false,if_true,List.filter_nil,List.length_cons,List.length_nil]
    split <;> split <;> omega
 have h2:∀ n:Nat,((List.range n).filter fun (j:Nat)=>!((j:Int) == (i:Int)) && !((j:Int) == (k:Int))).length=if i < n then (if k < n then n - 2 else n - 1) else (if k < n then n - 1 else n):=by
  intro n
  induction n with
  | zero=>rfl
  | succ n ih =>
   rw [List.range_succ,List.filter_append,List.length_append,ih]
   by_cases e:n=i
   ·subst e
    have:(k < n+1) ↔ k < n:=by omega
    simp only [this]
    simp
    all_goals (split <;> omega)
   ·have e':¬ (n:Int)=(i:Int):=by omega
    by_cases e2:n=k
    ·subst e2
     have:(i < n+1) ↔ i < n:=by omega
     simp only [this]
     simp
     all_goals (split <;> omega)
    ·have e2':¬ (n:Int)=(k:Int):=by omega
     simp only [List.filter_cons,beq_eq_false_iff_ne.2 e',beq_eq_false_iff_ne.2 e2',Bool.not_false,Bool.and_self,if_true,List.filter_nil,List.length_cons,List.length_nil]
     split <;> split <;> split <;> split <;> omega
 rw [h2,if_pos hi,if_pos hk]
theorem fo_len (h:fcB a=true):(fcL a).atoms.length=a.atoms.length - 1:=by
 obtain ⟨i,k,h1,h2,h3,h4,_⟩:=fo_spec h
 rw [h4]
 unfold foldA woF
 simp only [List.length_cons,List.length_map]
 rw [filter_two _ _ _ h1 h2 h3]
 omega
theorem fcL_len:(fcL a).facts.length<=a.facts.length/\(fcL a).atoms.length<=a.atoms.length:=by
 cases h:fcB a with
 | true =>
  obtain ⟨i,k,h1,h2,h3,h4,_⟩:=fo_spec h
  have:=fo_len h
  have e:(fcL a).facts=a.facts:=by rw [h4];rfl
  exact ⟨by rw [e];exact Nat.le_refl _,by omega⟩
 | false =>
  unfold fcB at h
  have:fcO a=none:=by simpa using h
  unfold fcL
  rw [this]
  exact ⟨Nat.zero_le _,Nat.zero_le _⟩
end
end Go.SE

namespace Go.SE
open Go.RowKit
section
variable {a b c:GAsn} {s:GState} {f:GFact} {x y:Int}
theorem stL_of (h:starOk a b=true):starL a b=starA a b/\asV (starA a b)=true/\asV a=true/\asV b=true:=by
 have h':=h
 unfold starOk at h'
 simp only [Bool.and_eq_true] at h'
 unfold starL
 rw [h]
 exact ⟨rfl,h'.2,h'.1.1,h'.1.2⟩
theorem starL_bdF (h1:a.facts.length<=100) (h2:b.facts.length<=100):(starL a b).facts.length<=200:=Nat.le_trans (starL_lenF _ _) (by omega)
theorem starL_bdA (h1:a.atoms.length<=100) (h2:b.atoms.length<=100):(starL a b).atoms.length<=200:=Nat.le_trans (starL_lenA _ _) (by omega)
end
end Go.SE

namespace Go.SE
open Go.RowKit
abbrev hn (a:GAsn):Nat->Bool:=hz a fun _=>false
def cn (a:GAsn) (vs:List Int):List Int:=canon (hn a) (tv vs)
section
variable {a:GAsn} {vs:List Int} {i j:Nat} {x:Int}
end
end Go.SE

namespace Go.SE
open Go.RowKit
section
variable {a:GAsn} {i:Int}
end
end Go.SE

namespace Go.SE
open Go.RowKit
section
variable {a:GAsn} {s:GState} {i:Int}
end
end Go.SE
namespace Go.SE
section
variable {a b c:GAsn}
end
end Go.SE
namespace Go.SE
section
variable {a:GAsn} {i:Int}
end
end Go.SE
namespace Go.SE
section
variable {s:GState} {t v:Int}
end
end Go.SE
namespace Go.SE
section
variable {a:GAsn} {i:Int} {p:Nat × Bool}
end
end Go.SE

namespace Go.SE
open Go.RowKit
def pkS (a:GAsn) (m:Int):GAsn:=⟨[],pkA m a.atoms⟩
def FRA (m:Int) (b a:GAsn):Bool:=starOk b (pkS a m) && ENT a (starL b (pkS a m))
def frmI (a b:GAsn):Int:=lmI (fun m=>FRA m b a) (a.atoms.length:Int)
def frmB (a b:GAsn):Bool:=asV a && (asV b && lmB (fun m=>FRA m b a) (a.atoms.length:Int))
def frmL (a b:GAsn):GAsn:=cond (frmB a b) (pkS a (frmI a b)) ⟨[],[]⟩
section
variable {a b:GAsn} {m:Int}
theorem pkA_mem {l:List GAtom}:∀ x ∈ pkA m l,x ∈ l:=by
 intro x hx
 unfold pkA pk at hx
 obtain ⟨i,hi,rfl⟩:=List.mem_map.1 hx
 have:=List.mem_range.1 (List.mem_filter.1 hi).1
 rw [List.getD_eq_getElem?_getD,List.getElem?_eq_getElem this]
 exact List.getElem_mem _
theorem pkA_le {l:List GAtom}:(pkA m l).length<=l.length:=pk_len m l _
theorem pkS_val (ha:asV a=true):asV (pkS a m)=true:=by
 have hA:=asV_facts ha
 unfold asV fsV pkS
 have h1:(pkA m a.atoms).length<=6:=Nat.le_trans pkA_le hA.2.2.2
 have h2:(pkA m a.atoms).all atV=true:=List.all_eq_true.2 fun x hx=>List.all_eq_true.1 hA.2.2.1 x (pkA_mem x hx)
 simp only [List.length_nil,List.all_nil,h1,h2,decide_true]
 rfl
theorem fra_eq (ha:asV a=true) (hb:asV b=true):(asV (starA b (pkS a m)) && ENT a (starA b (pkS a m)))=FRA m b a:=by
 unfold FRA starL
 have:starOk b (pkS a m)=asV (starA b (pkS a m)):=by unfold starOk;rw [hb,pkS_val ha];rfl
 rw [this]
 cases h:asV (starA b (pkS a m)) <;> rfl
theorem fra_ok (h:FRA m b a=true):starOk b (pkS a m)=true/\ENT a (starL b (pkS a m))=true:=by
 unfold FRA at h
 rwa [Bool.and_eq_true] at h
end
end Go.SE
namespace Go.SE
section
variable {a b:GAsn}
def frN (a b:GAsn) (i:Nat):Bool:=(List.range i).all fun m=>!FRA m b a
theorem frN_zero:frN a b 0=true:=rfl
theorem frN_get {i:Nat} (h:frN a b i=true):∀ j:Nat,j < i->FRA j b a=false:=fun j hj=>by
 have:=List.all_eq_true.1 h j (List.mem_range.2 hj)
 simpa using this
theorem frN_step {i:Nat} (h:frN a b i=true) (h2:FRA i b a=false):frN a b (i+1)=true:=by
 unfold frN at h ⊢;rw [List.range_succ,List.all_append,h];simp [h2]
theorem pkTop_eq (ha:asV a=true):pkTop a=2 ^ a.atoms.length/\pkTop a<=64/\1<=pkTop a:=by
 have h:=(asV_facts ha).2.2.2
 unfold pkTop
 have:∀ k:Nat,k<=6->IntKind.wrap .i64 ((1:Int) * 2 ^ (min k (IntKind.bits .i64)))=2 ^ k/\IntKind.wrap .i64 ((1:Int) * 2 ^ (min k (IntKind.bits .i64)))<=64/\1<=IntKind.wrap .i64 ((1:Int) * 2 ^ (min k (IntKind.bits .i64))):=by decide
 exact this _ h
theorem frm_found {i:Nat} (ha:asV a=true) (hb:asV b=true) (h:frN a b i=true) (hi:(i:Int) < pkTop a) (hf:FRA i b a=true):pkS a i=frmL a b/\true=frmB a b:=by
 rw [(pkTop_eq ha).1] at hi
 obtain ⟨h1,h2⟩:=lm_found (acc:=fun m=>FRA m b a) (n:=(a.atoms.length:Int)) (m:=i) (by rw [Int.toNat_natCast];exact hi) (frN_get h) hf
 have hB:frmB a b=true:=by unfold frmB;rw [ha,hb,← h2];rfl
 unfold frmL
 rw [hB,cond_true]
 unfold frmI
 rw [← h1]
 exact ⟨rfl,rfl⟩
theorem frm_none {i:Nat} (ha:asV a=true) (hb:asV b=true) (h:frN a b i=true) (hi:¬ (i:Int) < pkTop a):(⟨[],[]⟩:GAsn)=frmL a b/\false=frmB a b:=by
 rw [(pkTop_eq ha).1] at hi
 obtain ⟨h1,h2⟩:=lm_none (acc:=fun m=>FRA m b a) (n:=(a.atoms.length:Int)) (m:=i) (by rw [Int.toNat_natCast];exact hi) (frN_get h)
 have hB:frmB a b=false:=by unfold frmB;rw [ha,hb,← h2];rfl
 unfold frmL
 rw [hB]
 exact ⟨rfl,rfl⟩
theorem frm_no1 (ha:asV a=false):(⟨[],[]⟩:GAsn)=frmL a b/\false=frmB a b:=by
 have hB:frmB a b=false:=by unfold frmB;rw [ha];rfl
 unfold frmL;rw [hB];exact ⟨rfl,rfl⟩
theorem frm_no2 (hb:asV b=false):(⟨[],[]⟩:GAsn)=frmL a b/\false=frmB a b:=by
 have hB:frmB a b=false:=by unfold frmB;rw [hb];simp
 unfold frmL;rw [hB];exact ⟨rfl,rfl⟩
end
end Go.SE
namespace Go.SE
section
variable {a b:GAsn} {m:Int}
theorem fra_y (h:starOk b ⟨[],pkA m a.atoms⟩=true):ENT a (starL b ⟨[],pkA m a.atoms⟩)=FRA m b a:=by
 unfold FRA pkS
 rw [h,Bool.true_and]
theorem fra_n (h:starOk b ⟨[],pkA m a.atoms⟩=false):false=FRA m b a:=by
 unfold FRA pkS
 rw [h,Bool.false_and]
theorem pk200 {k:Nat} (h:a.atoms.length<=k):(pkA m a.atoms).length<=k:=Nat.le_trans pkA_le h
theorem star_pkF (hb:b.facts.length<=100):(starL b ⟨[],pkA m a.atoms⟩).facts.length<=200:=starL_bdF hb (by show 0<=100;omega)
theorem star_pkA (hb:b.atoms.length<=100) (ha:a.atoms.length<=100):(starL b ⟨[],pkA m a.atoms⟩).atoms.length<=200:=starL_bdA hb (pk200 ha)
theorem frm_n (ha:asV a=true) (hb:asV b=true) (h:lmB (fun m=>FRA m b a) (a.atoms.length:Int)=false):(⟨[],[]⟩:GAsn)=frmL a b/\false=frmB a b:=by
 have hB:frmB a b=false:=by unfold frmB;rw [h];simp
 unfold frmL;rw [hB];exact ⟨rfl,rfl⟩
theorem frm_y (ha:asV a=true) (hb:asV b=true) (h:lmB (fun m=>FRA m b a) (a.atoms.length:Int)=true):(⟨[],pkA (lmI (fun m=>FRA m b a) (a.atoms.length:Int)) a.atoms⟩:GAsn)=frmL a b/\true=frmB a b:=by
 have hB:frmB a b=true:=by unfold frmB;rw [ha,hb,h];rfl
 unfold frmL;rw [hB];exact ⟨rfl,rfl⟩
theorem fra_c:starA b (pkS a m)=⟨b.facts,b.atoms ++ pkA m a.atoms⟩:=by unfold starA pkS;simp
theorem fra_a (ha:asV a=true) (hb:asV b=true) {i:Nat} (h:frN a b i=true) (h1:asV ⟨b.facts,b.atoms ++ pkA i a.atoms⟩=false):frN a b (i+1)=true :=
 frN_step h (by rw [← fra_eq ha hb,fra_c,h1];rfl)
theorem fra_b (ha:asV a=true) (hb:asV b=true) {i:Nat} (h:frN a b i=true) (h2:ENT a ⟨b.facts,b.atoms ++ pkA i a.atoms⟩=false):frN a b (i+1)=true :=
 frN_step h (by rw [← fra_eq ha hb,fra_c,h2,Bool.and_false])
theorem frm_f (ha:asV a=true) (hb:asV b=true) {i:Nat} (h:frN a b i=true) (hi:(i:Int) < pkTop a) (h1:asV ⟨b.facts,b.atoms ++ pkA i a.atoms⟩=true) (h2:ENT a ⟨b.facts,b.atoms ++ pkA i a.atoms⟩=true):(⟨[],pkA i a.atoms⟩:GAsn)=frmL a b/\true=frmB a b :=
 frm_found ha hb h hi (by rw [← fra_eq ha hb,fra_c,h1,h2];rfl)
theorem app_pk (hb:b.atoms.length<=100) (ha:a.atoms.length<=100):(b.atoms ++ pkA m a.atoms).length<=200:=by
 rw [List.length_append]
 have:=pkA_le (l:=a.atoms) (m:=m)
 omega
theorem pkTop_w:IntKind.wrap .i64 (1 * 2 ^ min a.atoms.length (IntKind.bits .i64))=pkTop a:=rfl
end
end Go.SE

namespace Go.SE
open Go.RowKit
section
variable {P:Program} {E:Ty->TypeId} {tab:TypeId->Option TI} {w0:World} {M:MM} {n:Nat} {o:Oper} {st:St} {a:Act} {w:World}
end
end Go.SE

namespace Go.SE
open Go.RowKit
section
variable {a b p q:GAsn} {m:Int}
theorem frmL_facts:(frmL a b).facts=[]:=by unfold frmL;cases frmB a b <;> rfl
theorem frmL_len:(frmL a b).facts.length=0/\(frmL a b).atoms.length<=a.atoms.length:=by
 rw [frmL_facts]
 refine ⟨rfl,?_⟩
 unfold frmL
 cases frmB a b with
 | true=>exact pkA_le
 | false=>exact Nat.zero_le _
theorem lm_spec {acc:Int->Bool} {n:Int} (h:lmB acc n=true):∃ i:Nat,lmI acc n=(i:Int)/\i < 2 ^ n.toNat/\acc i=true/\∀ j:Nat,j < i->acc j=false:=by
 unfold lmB at h
 obtain ⟨i,hi⟩:=Option.isSome_iff_exists.1 h
 have hi':=hi
 unfold lmO at hi
 obtain ⟨h1,h2,h3⟩:=List.find?_range_eq_some.1 hi
 refine ⟨i,by unfold lmI;rw [hi'];rfl,List.mem_range.1 h2,h1,fun j hj=>?_⟩
 have:=h3 j hj
 simpa using this
theorem frm_spec (h:frmB a b=true):asV a=true/\asV b=true/\asV (frmL a b)=true/\asV (starA b (frmL a b))=true/\ENT a (starA b (frmL a b))=true:=by
 have h':=h
 unfold frmB at h'
 simp only [Bool.and_eq_true] at h'
 obtain ⟨ha,hb,hl⟩:=h'
 obtain ⟨i,hi,_,hacc,_⟩:=lm_spec hl
 have e:frmL a b=pkS a i:=by unfold frmL frmI;rw [h,cond_true,hi]
 obtain ⟨h1,h2⟩:=fra_ok hacc
 rw [e]
 have h3:=stL_of h1
 rw [h3.1] at h2
 exact ⟨ha,hb,pkS_val ha,h3.2.1,h2⟩
theorem mbit0:∀ i:Nat,mbit 0 i=false:=fun i=>by
 unfold mbit
 rw [Int.zero_fdiv]
 decide
theorem pkA0 {l:List GAtom}:pkA 0 l=[]:=by
 unfold pkA pk
 rw [List.filter_eq_nil_iff.2 fun i _=>by rw [mbit0];simp]
 rfl
theorem fra0 (h:ENT a b=true):FRA 0 b a=true:=by
 have hb:=ent_v2 h
 have e:pkS a 0=⟨[],[]⟩:=by unfold pkS;rw [pkA0]
 have e2:starA b ⟨[],[]⟩=b:=by unfold starA;simp
 have ho:starOk b ⟨[],[]⟩=true:=by unfold starOk;rw [e2,hb];rfl
 unfold FRA
 rw [e,ho,(stL_of ho).1,e2,h];rfl
theorem frm_ent (h:ENT a b=true):frmB a b=true/\frmL a b=⟨[],[]⟩:=by
 have ha:=ent_v1 h
 have hb:=ent_v2 h
 have hf:=fra0 h
 obtain ⟨h1,h2⟩:=lm_found (acc:=fun m=>FRA m b a) (n:=(a.atoms.length:Int)) (m:=0) (by have:=(pkTop_eq ha).2.2;rw [(pkTop_eq ha).1] at this;rw [Int.toNat_natCast];omega) (fun j hj=>absurd hj (Nat.not_lt_zero _)) hf
 have hB:frmB a b=true:=by unfold frmB;rw [ha,hb,← h2];rfl
 refine ⟨hB,?_⟩
 unfold frmL frmI
 rw [hB,cond_true,← h1]
 show pkS a 0=_
 unfold pkS;rw [pkA0]
theorem frm_self (ha:asV a=true):frmB a a=true/\(frmL a a).atoms.length=0:=by
 obtain ⟨h1,h2⟩:=frm_ent (ent_refl ha)
 exact ⟨h1,by rw [h2];rfl⟩
end
end Go.SE
namespace Go.SE
section
variable {a p q:GAsn}
end
end Go.SE

namespace Go.SE
section
variable {a b p q:GAsn} {m n:Int}
theorem frm200F:(frmL a b).facts.length<=200:=by rw [frmL_len.1];omega
theorem frm200A (h:a.atoms.length<=100):(frmL a b).atoms.length<=200:=by have:=(frmL_len (a:=a) (b:=b)).2;omega
theorem asV_bare {l:List GAtom} (h:l.all atV=true) (hl:l.length<=6):asV ⟨[],l⟩=true:=by
 unfold asV fsV
 rw [h,decide_eq_true hl]
 rfl
theorem pkV (ha:asV a=true):asV ⟨[],pkA m a.atoms⟩=true :=
 asV_bare (List.all_eq_true.2 fun x hx=>List.all_eq_true.1 (asV_facts ha).2.2.1 x (pkA_mem x hx)) (Nat.le_trans pkA_le (asV_facts ha).2.2.2)
end
end Go.SE

namespace Go.SE
open Go.RowKit
section
variable {a b:GAsn} {c:List Int}
end
section
variable {s:GState} {n m:Int} {b:Bool} {p:Int->Bool} {i j:Nat}
end
section
variable {a:GAsn} {b:Bool} {c V:List Int} {m n:Int} {l:List GAtom} {i:Nat} {d x:GAtom}
end
end Go.SE
namespace Go.SE
open Go.RowKit
end Go.SE
namespace Go.SE
end Go.SE
namespace Go.SE
section
variable {a b:GAsn} {s:GState} {n:Int} {i:Nat} {d:Bool}
end
end Go.SE
namespace Go.SE
open Go.RowKit
section
variable {a:GAsn} {c:List Int} {m:Int} {b:Bool} {i:Nat}
end
end Go.SE
namespace Go.SE
section
variable {s:GState} {n:Int} {i:Nat}
end
end Go.SE

namespace Go.SE
open Go.RowKit
section
variable {a b:GAsn} {c:List Int} {m:Int} {d:Bool} {i j n:Nat}
end
end Go.SE
namespace Go.SE
section
variable {a b:GAsn} {c:List Int} {m:Int} {d:Bool} {i j k n:Nat}
end
end Go.SE
namespace Go.SE
end Go.SE
namespace Go.SE
section
variable {a b:GAsn}
end
end Go.SE
namespace Go.SE
end Go.SE

namespace Go.SE
open Go.RowKit
def popc (x:Int):Int:=(((List.range 6).filter (mbit x)).length:Int)
theorem popc_all:∀ n:Nat,n<=6->∀ x:Nat,x < 64->x < 2 ^ n->((List.range 6).filter (mbit (x:Int))).length=((List.range n).filter (mbit (x:Int))).length:=by decide +kernel
def mxS (a b:GAsn) (m:Int):GAsn:=starA a ⟨[],pkA m b.atoms⟩
def mxC (a b:GAsn) (m:Int):Bool:=asV (mxS a b m) && !(casesF (mxS a b m)).isEmpty
def mxB (a b:GAsn) (m:Int):Bool:=mxC a b m && frmB (mxS a b m) b
def cvI (a b:GAsn):Nat->Int
 | 0=>-1
 | i+1=>cond (mxB a b (i:Int) && !(decide (0<=cvI a b i) && decide (cvI a b i<=((pkA (i:Int) b.atoms).length:Int)))) ((pkA (i:Int) b.atoms).length:Int) (cvI a b i)
def cvN (a b:GAsn):Int:=cond (asV a && asV b) (cvI a b (pkTop b).toNat) (-1)
section
variable {a b:GAsn} {m:Int} {i:Nat}
theorem popc_eq (hb:asV b=true) (hi:(i:Int) < pkTop b):popc (i:Int)=((pkA (i:Int) b.atoms).length:Int):=by
 have hp:=pkTop_eq hb
 have h6:=(fo_len6 hb).2
 rw [hp.1] at hi
 have e:((2 ^ b.atoms.length:Nat):Int)=2 ^ b.atoms.length:=by push_cast;rfl
 unfold popc pkA pk
 rw [List.length_map,popc_all _ h6 i (by have:=hp.2.1;rw [hp.1] at this;omega) (by omega)]
theorem mxN1 (hb:asV b=true) (ha:asV a=true) (h:starOk a ⟨[],pkA m b.atoms⟩=false):mxB a b m=false:=by
 unfold starOk at h
 rw [ha,pkV hb,Bool.true_and,Bool.true_and] at h
 unfold mxB mxC mxS;rw [h];rfl
theorem mx_st (h:starOk a ⟨[],pkA m b.atoms⟩=true):starL a ⟨[],pkA m b.atoms⟩=mxS a b m:=by unfold starL mxS;rw [h];rfl
theorem mxN2 (h:starOk a ⟨[],pkA m b.atoms⟩=true) (h2:(asV (starL a ⟨[],pkA m b.atoms⟩) && !(casesF (starL a ⟨[],pkA m b.atoms⟩)).isEmpty)=false):mxB a b m=false:=by
 rw [mx_st h] at h2
 unfold mxB mxC;rw [h2];rfl
theorem mxN3 (h:starOk a ⟨[],pkA m b.atoms⟩=true) (h3:frmB (starL a ⟨[],pkA m b.atoms⟩) b=false):mxB a b m=false:=by
 rw [mx_st h] at h3
 unfold mxB;rw [h3];simp
theorem mxY (h:starOk a ⟨[],pkA m b.atoms⟩=true) (h2:(asV (starL a ⟨[],pkA m b.atoms⟩) && !(casesF (starL a ⟨[],pkA m b.atoms⟩)).isEmpty)=true) (h3:frmB (starL a ⟨[],pkA m b.atoms⟩) b=true):mxB a b m=true:=by
 rw [mx_st h] at h2 h3
 unfold mxB mxC;rw [h2,h3];rfl
theorem mx_e:(⟨a.facts,a.atoms ++ pkA m b.atoms⟩:GAsn)=mxS a b m:=by unfold mxS starA;rw [List.append_nil]
theorem mxM1 (h:asV ⟨a.facts,a.atoms ++ pkA m b.atoms⟩=false):mxB a b m=false:=by rw [mx_e] at h;unfold mxB mxC;rw [h];rfl
theorem mxM2 (h:(asV ⟨a.facts,a.atoms ++ pkA m b.atoms⟩ && !(casesF ⟨a.facts,a.atoms ++ pkA m b.atoms⟩).isEmpty)=false):mxB a b m=false:=by rw [mx_e] at h;unfold mxB mxC;rw [h];rfl
theorem mxM3 (h:frmB ⟨a.facts,a.atoms ++ pkA m b.atoms⟩ b=false):mxB a b m=false:=by rw [mx_e] at h;unfold mxB;rw [h];simp
theorem mxMY (h:(asV ⟨a.facts,a.atoms ++ pkA m b.atoms⟩ && !(casesF ⟨a.facts,a.atoms ++ pkA m b.atoms⟩).isEmpty)=true) (h3:frmB ⟨a.facts,a.atoms ++ pkA m b.atoms⟩ b=true):mxB a b m=true:=by rw [mx_e] at h h3;unfold mxB mxC;rw [h,h3];rfl
theorem mxa200 (h:a.atoms.length<=100) (hb:b.atoms.length<=100):(a.atoms ++ pkA m b.atoms).length<=200:=by
 rw [List.length_append]
 have:=pkA_le (l:=b.atoms) (m:=m)
 omega
theorem cv_no (h:mxB a b (i:Int)=false):cvI a b i=cvI a b (i+1):=by rw [cvI,h];rfl
theorem cv_skip (h1:0<=cvI a b i) (h2:cvI a b i<=((pkA (i:Int) b.atoms).length:Int)):cvI a b i=cvI a b (i+1):=by
 rw [cvI,decide_eq_true h1,decide_eq_true h2];simp
theorem cv_y1 (h:mxB a b (i:Int)=true) (h2:¬ cvI a b i<=((pkA (i:Int) b.atoms).length:Int)):((pkA (i:Int) b.atoms).length:Int)=cvI a b (i+1):=by
 rw [cvI,h,decide_eq_false h2];simp
theorem cv_y2 (h:mxB a b (i:Int)=true) (h2:¬ 0<=cvI a b i):((pkA (i:Int) b.atoms).length:Int)=cvI a b (i+1):=by
 rw [cvI,h,decide_eq_false h2];simp
theorem cv_n1 (h:asV a=false):-1=cvN a b:=by unfold cvN;rw [h];rfl
theorem cv_n2 (h:asV b=false):-1=cvN a b:=by unfold cvN;rw [h];simp
theorem cv_end (ha:asV a=true) (hb:asV b=true) (h1:(i:Int)<=pkTop b) (h2:¬ (i:Int) < pkTop b):cvI a b i=cvN a b:=by
 unfold cvN;rw [ha,hb,show (pkTop b).toNat=i by omega];rfl
theorem mxs200F (h:a.facts.length<=100):(starL a ⟨[],pkA m b.atoms⟩).facts.length<=200:=starL_bdF h (Nat.zero_le _)
theorem mxs200A (h:a.atoms.length<=100) (hb:b.atoms.length<=100):(starL a ⟨[],pkA m b.atoms⟩).atoms.length<=200:=starL_bdA h (Nat.le_trans pkA_le hb)
end
end Go.SE

namespace Go.SE
open Go.RowKit
def miI (a b:GAsn):Int:=lmI (fun m=>mxB a b m) (b.atoms.length:Int)
def miB (a b:GAsn):Bool:=asV a && (asV b && lmB (fun m=>mxB a b m) (b.atoms.length:Int))
def miL (a b:GAsn):GAsn:=cond (miB a b) ⟨[],pkA (miI a b) b.atoms⟩ ⟨[],[]⟩
def miF (a b:GAsn):GAsn:=cond (miB a b) (frmL (mxS a b (miI a b)) b) ⟨[],[]⟩
def miN (a b:GAsn) (i:Nat):Bool:=(List.range i).all fun m=>!mxB a b (m:Int)
section
variable {a b:GAsn} {m:Int} {i:Nat}
theorem miN_get (h:miN a b i=true):∀ j:Nat,j < i->mxB a b (j:Int)=false:=fun j hj=>by
 have:=List.all_eq_true.1 h j (List.mem_range.2 hj)
 simpa using this
theorem miN_step (h:miN a b i=true) (h2:mxB a b (i:Int)=false):miN a b (i+1)=true:=by
 unfold miN at h ⊢;rw [List.range_succ,List.all_append,h];simp [h2]
theorem mi_n1 (h:asV a=false):(⟨[],[]⟩:GAsn)=miL a b/\(⟨[],[]⟩:GAsn)=miF a b/\false=miB a b:=by
 have e:miB a b=false:=by unfold miB;rw [h];rfl
 unfold miL miF;rw [e];exact ⟨rfl,rfl,rfl⟩
theorem mi_n2 (h:asV b=false):(⟨[],[]⟩:GAsn)=miL a b/\(⟨[],[]⟩:GAsn)=miF a b/\false=miB a b:=by
 have e:miB a b=false:=by unfold miB;rw [h];simp
 unfold miL miF;rw [e];exact ⟨rfl,rfl,rfl⟩
theorem mi_found (ha:asV a=true) (hb:asV b=true) (h:miN a b i=true) (hi:(i:Int) < pkTop b) (hf:mxB a b (i:Int)=true):(⟨[],pkA (i:Int) b.atoms⟩:GAsn)=miL a b/\frmL (mxS a b (i:Int)) b=miF a b/\true=miB a b:=by
 rw [(pkTop_eq hb).1] at hi
 obtain ⟨h1,h2⟩:=lm_found (acc:=fun m=>mxB a b m) (n:=(b.atoms.length:Int)) (m:=i) (by rw [Int.toNat_natCast];exact hi) (miN_get h) hf
 have hB:miB a b=true:=by unfold miB;rw [ha,hb,← h2];rfl
 unfold miL miF
 rw [hB,cond_true,cond_true]
 unfold miI
 rw [← h1]
 exact ⟨rfl,rfl,rfl⟩
theorem mi_none (ha:asV a=true) (hb:asV b=true) (h:miN a b i=true) (hi:¬ (i:Int) < pkTop b):(⟨[],[]⟩:GAsn)=miL a b/\(⟨[],[]⟩:GAsn)=miF a b/\false=miB a b:=by
 rw [(pkTop_eq hb).1] at hi
 obtain ⟨h1,h2⟩:=lm_none (acc:=fun m=>mxB a b m) (n:=(b.atoms.length:Int)) (m:=i) (by rw [Int.toNat_natCast];exact hi) (miN_get h)
 have hB:miB a b=false:=by unfold miB;rw [ha,hb,← h2];rfl
 unfold miL miF
 rw [hB]
 exact ⟨rfl,rfl,rfl⟩
theorem mi_sf (ha:asV a=true) (hb:asV b=true) (h:miN a b i=true) (hi:(i:Int) < pkTop b) (h1:(asV ⟨a.facts,a.atoms ++ pkA (i:Int) b.atoms⟩ && !(casesF ⟨a.facts,a.atoms ++ pkA (i:Int) b.atoms⟩).isEmpty)=true) (h3:frmB ⟨a.facts,a.atoms ++ pkA (i:Int) b.atoms⟩ b=true):(⟨[],pkA (i:Int) b.atoms⟩:GAsn)=miL a b/\frmL ⟨a.facts,a.atoms ++ pkA (i:Int) b.atoms⟩ b=miF a b/\true=miB a b:=by
 rw [mx_e]
 exact mi_found ha hb h hi (mxMY h1 h3)
theorem mi_if (ha:asV a=true) (hb:asV b=true) (h:miN a b i=true) (hi:(i:Int) < pkTop b) (h1:starOk a ⟨[],pkA (i:Int) b.atoms⟩=true) (h2:(asV (starL a ⟨[],pkA (i:Int) b.atoms⟩) && !(casesF (starL a ⟨[],pkA (i:Int) b.atoms⟩)).isEmpty)=true) (h3:frmB (starL a ⟨[],pkA (i:Int) b.atoms⟩) b=true):(⟨[],pkA (i:Int) b.atoms⟩:GAsn)=miL a b/\frmL (starL a ⟨[],pkA (i:Int) b.atoms⟩) b=miF a b/\true=miB a b:=by
 rw [mx_st h1]
 exact mi_found ha hb h hi (mxY h1 h2 h3)
theorem miL_len:(miL a b).facts.length=0/\(miL a b).atoms.length<=b.atoms.length:=by
 unfold miL
 cases miB a b with
 | true=>exact ⟨rfl,pkA_le⟩
 | false=>exact ⟨rfl,Nat.zero_le _⟩
theorem miF_len:(miF a b).facts.length=0/\(miF a b).atoms.length<=a.atoms.length+b.atoms.length:=by
 unfold miF
 cases miB a b with
 | true =>
  simp only [cond_true]
  have h:=frmL_len (a:=mxS a b (miI a b)) (b:=b)
  have:=pkA_le (l:=b.atoms) (m:=miI a b)
  refine ⟨h.1,Nat.le_trans h.2 ?_⟩
  rw [← mx_e]
  simp only [List.length_append]
  omega
 | false=>exact ⟨rfl,Nat.zero_le _⟩
end
end Go.SE

namespace Go.SE
open Go.RowKit
section
variable {a b:GAsn} {m:Int} {i j:Nat}
theorem lm_get {acc:Int->Bool} {n:Int} (h:lmB acc n=true):∃ m:Nat,lmI acc n=(m:Int)/\(m:Int) < 2 ^ n.toNat/\acc (m:Int)=true:=by
 unfold lmB at h
 obtain ⟨m,hm⟩:=Option.isSome_iff_exists.1 h
 refine ⟨m,by unfold lmI;rw [hm];rfl,?_,?_⟩
 ·unfold lmO at hm
  have:=List.mem_range.1 (List.mem_of_find?_eq_some hm)
  have e:((2 ^ n.toNat:Nat):Int)=2 ^ n.toNat:=by push_cast;rfl
  omega
 ·unfold lmO at hm
  exact List.find?_some (p:=fun m:Nat=>acc (m:Int)) hm
theorem lm_ex {acc:Int->Bool} {n:Int} {m:Nat} (hm:(m:Int) < 2 ^ n.toNat) (ha:acc (m:Int)=true):lmB acc n=true:=by
 unfold lmB lmO
 rw [List.find?_isSome]
 have e:((2 ^ n.toNat:Nat):Int)=2 ^ n.toNat:=by push_cast;rfl
 exact ⟨m,List.mem_range.2 (by omega),ha⟩
theorem mi_get (h:miB a b=true):asV a=true/\asV b=true/\∃ m:Nat,(m:Int) < pkTop b/\mxB a b (m:Int)=true/\miL a b=⟨[],pkA (m:Int) b.atoms⟩/\miF a b=frmL (mxS a b (m:Int)) b:=by
 have h':=h
 unfold miB at h'
 simp only [Bool.and_eq_true] at h'
 obtain ⟨ha,hb,hl⟩:=h'
 obtain ⟨m,e,hm,hx⟩:=lm_get hl
 refine ⟨ha,hb,m,?_,hx,?_,?_⟩
 ·rw [(pkTop_eq hb).1];rw [Int.toNat_natCast] at hm;exact hm
 ·unfold miL miI;rw [h,e];rfl
 ·unfold miF miI;rw [h,e];rfl
theorem mx_get (h:mxB a b m=true):asV (mxS a b m)=true/\(casesF (mxS a b m)).isEmpty=false/\frmB (mxS a b m) b=true:=by
 unfold mxB mxC at h
 simp only [Bool.and_eq_true,Bool.not_eq_true'] at h
 exact ⟨h.1.1,h.1.2,h.2⟩
theorem mi_spec (h:miB a b=true):starOk a (miL a b)=true/\starOk b (miF a b)=true/\(asV (starL a (miL a b)) && !(casesF (starL a (miL a b))).isEmpty)=true/\ENT (starL a (miL a b)) (starL b (miF a b))=true:=by
 obtain ⟨ha,hb,m,hm,hx,e1,e2⟩:=mi_get h
 obtain ⟨hv,hc,hf⟩:=mx_get hx
 obtain ⟨_,_,hF,hS,hE⟩:=frm_spec hf
 have o1:starOk a (miL a b)=true:=by
  unfold starOk
  rw [e1,ha,pkV hb]
  exact hv
 have s1:starL a (miL a b)=mxS a b m:=by unfold starL;rw [o1,e1];rfl
 have o2:starOk b (miF a b)=true:=by
  unfold starOk
  rw [e2,hb,hF,hS];rfl
 have s2:starL b (miF a b)=starA b (frmL (mxS a b m) b):=by unfold starL;rw [o2,e2];rfl
 refine ⟨o1,o2,?_,?_⟩
 ·rw [s1,hv,hc];rfl
 ·rw [s1,s2];exact hE
theorem cv_sp:∀ i,(∀ j:Nat,j < i->mxB a b (j:Int)=true->0<=cvI a b i/\cvI a b i<=((pkA (j:Int) b.atoms).length:Int))/\(0<=cvI a b i->∃ j:Nat,j < i/\mxB a b (j:Int)=true):=by
 intro i
 induction i with
 | zero=>exact ⟨fun j hj=>absurd hj (by omega),fun h=>absurd h (show ¬ (0:Int)<=-1 by decide)⟩
 | succ i ih =>
  rw [cvI]
  by_cases hx:mxB a b (i:Int)=true
  ·by_cases hk:0<=cvI a b i/\cvI a b i<=((pkA (i:Int) b.atoms).length:Int)
   ·rw [hx,decide_eq_true hk.1,decide_eq_true hk.2]
    simp only [Bool.and_true,Bool.not_true,Bool.and_false,cond_false]
    refine ⟨fun j hj hm=>?_,fun _=>⟨i,by omega,hx⟩⟩
    by_cases e:j=i
    ·rw [e];exact hk
    ·exact ih.1 j (by omega) hm
   ·have:(decide (0<=cvI a b i) && decide (cvI a b i<=((pkA (i:Int) b.atoms).length:Int)))=false:=by
     rw [← Bool.decide_and];exact decide_eq_false hk
    rw [hx,this]
    simp only [Bool.not_false,Bool.and_true,cond_true]
    refine ⟨fun j hj hm=>⟨by omega,?_⟩,fun _=>⟨i,by omega,hx⟩⟩
    by_cases e:j=i
    ·rw [e];exact Int.le_refl _
    ·have:=ih.1 j (by omega) hm
     omega
  ·have hx:mxB a b (i:Int)=false:=by simpa using hx
   rw [hx]
   simp only [Bool.false_and,cond_false]
   refine ⟨fun j hj hm=>?_,fun h=>?_⟩
   ·by_cases e:j=i
    ·rw [e,hx] at hm;cases hm
    ·exact ih.1 j (by omega) hm
   ·obtain ⟨j,hj,hm⟩:=ih.2 h
    exact ⟨j,by omega,hm⟩
theorem cvN_i (ha:asV a=true) (hb:asV b=true):cvN a b=cvI a b (pkTop b).toNat:=by unfold cvN;rw [ha,hb];rfl
theorem cv_iff:miB a b=decide (0<=cvN a b):=by
 rw [Bool.eq_iff_iff,decide_eq_true_eq]
 constructor
 ·intro h
  obtain ⟨ha,hb,m,hm,hx,_⟩:=mi_get h
  rw [cvN_i ha hb]
  exact ((cv_sp _).1 m (by omega) hx).1
 ·intro h
  by_cases hab:asV a=true/\asV b=true
  ·rw [cvN_i hab.1 hab.2] at h
   obtain ⟨j,hj,hx⟩:=(cv_sp _).2 h
   unfold miB
   rw [hab.1,hab.2,lm_ex (m:=j) (by rw [Int.toNat_natCast,← (pkTop_eq hab.2).1];omega) hx];rfl
  ·exfalso
   unfold cvN at h
   have:(asV a && asV b)=false:=by
    cases h1:asV a <;> cases h2:asV b <;> simp_all
   rw [this] at h
   exact absurd h (show ¬ (0:Int)<=-1 by decide)
theorem cv_le (h:miB a b=true):cvN a b<=((miL a b).atoms.length:Int):=by
 obtain ⟨ha,hb,m,hm,hx,e,_⟩:=mi_get h
 rw [cvN_i ha hb,e]
 exact ((cv_sp _).1 m (by omega) hx).2
theorem pkA_zero (l:List GAtom):pkA 0 l=[]:=by
 have hb:∀ i:Nat,mbit 0 i=false:=fun i=>by
  unfold mbit
  rw [Int.zero_fdiv]
  rfl
 unfold pkA pk
 rw [List.filter_eq_nil_iff.2 fun i _=>by rw [hb i];simp];rfl
theorem mx_zero:mxS a b 0=a:=by rw [← mx_e,pkA_zero,List.append_nil]
theorem mx_none (hf:frmB a b=true) (hc:(asV a && !(casesF a).isEmpty)=true):mxB a b 0=true:=by
 unfold mxB mxC
 rw [mx_zero,hc,hf];rfl
theorem mi_none0 (hf:frmB a b=true) (hc:(asV a && !(casesF a).isEmpty)=true):miB a b=true/\(miL a b).atoms.length=0/\cvN a b=0/\asV (frmL a b)=true:=by
 obtain ⟨ha,hb,hF,_⟩:=frm_spec hf
 have ht:=pkTop_eq hb
 have hx:=mx_none hf hc
 have hi:((0:Nat):Int) < pkTop b:=by omega
 obtain ⟨e1,_,e3⟩:=mi_found (i:=0) ha hb rfl hi hx
 have hl:(miL a b).atoms.length=0:=by rw [← e1];show (pkA 0 b.atoms).length=0;rw [pkA_zero];rfl
 refine ⟨e3.symm,hl,?_,hF⟩
 have h1:=cv_le e3.symm
 have h2:=cv_iff (a:=a) (b:=b)
 rw [← e3] at h2
 have h2:=of_decide_eq_true h2.symm
 rw [hl] at h1
 omega
theorem mfull:∀ n:Nat,n<=6->∀ i:Nat,i < 6->i < n->mbit ((2 ^ n:Int) - 1) i=true:=by decide +kernel
theorem pkA_full {l:List GAtom} (hl:l.length<=6):pkA ((2 ^ l.length:Int) - 1) l=l:=by
 unfold pkA pk
 rw [List.filter_eq_self.2 fun i hi=>mfull l.length hl i (by have:=List.mem_range.1 hi;omega) (List.mem_range.1 hi)]
 apply List.ext_getElem
 ·simp
 ·intro i h1 h2
  simp only [List.getElem_map,List.getElem_range]
  rw [List.getD_eq_getElem?_getD,List.getElem?_eq_getElem h2];rfl
theorem mi_all (hc:(asV b && !(casesF b).isEmpty)=true):miB ⟨b.facts,[]⟩ b=true/\(miL ⟨b.facts,[]⟩ b).atoms.length<=b.atoms.length/\0<=cvN ⟨b.facts,[]⟩ b:=by
 have hb:asV b=true:=by rw [Bool.and_eq_true] at hc;exact hc.1
 have ht:=pkTop_eq hb
 have h6:=(fo_len6 hb).2
 have ha:asV ⟨b.facts,[]⟩=true:=by
  have:=asV_facts hb
  unfold asV fsV
  rw [this.1,decide_eq_true this.2.1];rfl
 have hx:mxB ⟨b.facts,[]⟩ b (pkTop b - 1)=true:=by
  have e:mxS ⟨b.facts,[]⟩ b (pkTop b - 1)=b:=by
   rw [← mx_e,ht.1,pkA_full h6];rfl
  unfold mxB mxC
  rw [e,hc,(frm_self hb).1];rfl
 have hB:miB ⟨b.facts,[]⟩ b=true:=by
  unfold miB
  rw [ha,hb,lm_ex (m:=(pkTop b - 1).toNat) (by rw [Int.toNat_natCast,← ht.1];omega) (by rw [show (((pkTop b - 1).toNat:Nat):Int)=pkTop b - 1 by omega];exact hx)];rfl
 refine ⟨hB,miL_len.2,?_⟩
 have h2:=cv_iff (a:=⟨b.facts,[]⟩) (b:=b)
 rw [hB] at h2
 exact of_decide_eq_true h2.symm
end
end Go.SE
namespace Go.SE
theorem mx_fr {a b:GAsn} {m:Int} (h:starOk a ⟨[],pkA m b.atoms⟩=true):frmL (starL a ⟨[],pkA m b.atoms⟩) b=frmL (mxS a b m) b:=by rw [mx_st h]
end Go.SE
namespace Go.SE
section
variable {a b:GAsn} {n:Nat}
theorem mi_lf (h:lmB (fun m=>mxB a b m) (b.atoms.length:Int)=false):(⟨[],[]⟩:GAsn)=miL a b/\(⟨[],[]⟩:GAsn)=miF a b/\false=miB a b:=by
 have e:miB a b=false:=by unfold miB;rw [h];simp
 unfold miL miF;rw [e];exact ⟨rfl,rfl,rfl⟩
theorem mi_lt (ha:asV a=true) (hb:asV b=true) (h:lmB (fun m=>mxB a b m) (b.atoms.length:Int)=true):(⟨[],pkA (lmI (fun m=>mxB a b m) (b.atoms.length:Int)) b.atoms⟩:GAsn)=miL a b/\pkA (lmI (fun m=>mxB a b m) (b.atoms.length:Int)) b.atoms=(miL a b).atoms/\frmL (mxS a b (lmI (fun m=>mxB a b m) (b.atoms.length:Int))) b=miF a b/\true=miB a b:=by
 have e:miB a b=true:=by unfold miB;rw [ha,hb,h];rfl
 unfold miL miF;rw [e];exact ⟨rfl,rfl,rfl,rfl⟩
theorem mi_pre (hb:asV b=true) {m:Int} (h:m < 2 ^ b.atoms.length):m < pkTop b:=by rw [(pkTop_eq hb).1];exact h
end
end Go.SE

namespace Go.SE
section
variable {a b:GAsn} {m:Int}
theorem ml200F:(miL a b).facts.length<=200:=by rw [miL_len.1];omega
theorem ml200A (h:b.atoms.length<=100):(miL a b).atoms.length<=200:=by have:=(miL_len (a:=a) (b:=b)).2;omega
theorem mf200F:(miF a b).facts.length<=200:=by rw [miF_len.1];omega
theorem mf200A (ha:a.atoms.length<=100) (hb:b.atoms.length<=100):(miF a b).atoms.length<=200:=by have:=(miF_len (a:=a) (b:=b)).2;omega
theorem msl200F (h:a.facts.length<=100):(starL a (miL a b)).facts.length<=200:=starL_bdF h (by rw [miL_len.1];omega)
theorem msl200A (h:a.atoms.length<=100) (hb:b.atoms.length<=100):(starL a (miL a b)).atoms.length<=200:=starL_bdA h (Nat.le_trans miL_len.2 hb)
theorem msf200F (h:b.facts.length<=100):(starL b (miF a b)).facts.length<=200:=starL_bdF h (by rw [miF_len.1];omega)
theorem msf200A (ha:a.atoms.length<=50) (hb:b.atoms.length<=50):(starL b (miF a b)).atoms.length<=200:=starL_bdA (by omega) (by have:=(miF_len (a:=a) (b:=b)).2;omega)
theorem ms_1 (h2:starOk a (miL a b)=false) (h:miB a b=true):False:=by rw [(mi_spec h).1] at h2;cases h2
theorem ms_2 (h2:starOk b (miF a b)=false) (h:miB a b=true):False:=by rw [(mi_spec h).2.1] at h2;cases h2
theorem ms_3 (h2:(asV (starL a (miL a b)) && !(casesF (starL a (miL a b))).isEmpty)=false) (h:miB a b=true):False:=by rw [(mi_spec h).2.2.1] at h2;cases h2
theorem ms_4 (h:miB a b=true):ENT (starL a (miL a b)) (starL b (miF a b))=true:=(mi_spec h).2.2.2
theorem ma_1 (h2:miB ⟨b.facts,[]⟩ b=false) (h:(asV b && !(casesF b).isEmpty)=true):False:=by rw [(mi_all h).1] at h2;cases h2
theorem ma_2 (h2:¬ ((miL ⟨b.facts,[]⟩ b).atoms.length:Int)<=(b.atoms.length:Int)) (h:(asV b && !(casesF b).isEmpty)=true):False:=h2 (by have:=(mi_all h).2.1;omega)
theorem ma_3 (h:(asV b && !(casesF b).isEmpty)=true):0<=cvN ⟨b.facts,[]⟩ b:=(mi_all h).2.2
theorem mn_1 (h2:miB a b=false) (hf:frmB a b=true) (h:(asV a && !(casesF a).isEmpty)=true):False:=by rw [(mi_none0 hf h).1] at h2;cases h2
theorem mn_2 (h2:¬ ((miL a b).atoms.length:Int)=0) (hf:frmB a b=true) (h:(asV a && !(casesF a).isEmpty)=true):False:=h2 (by rw [(mi_none0 hf h).2.1];rfl)
theorem mn_3 (h2:¬ cvN a b=0) (hf:frmB a b=true) (h:(asV a && !(casesF a).isEmpty)=true):False:=h2 (mi_none0 hf h).2.2.1
theorem mn_4 (hf:frmB a b=true) (h:(asV a && !(casesF a).isEmpty)=true):asV (frmL a b)=true:=(mi_none0 hf h).2.2.2
theorem mn_5 (h2:¬ miB a b=decide (0<=cvN a b)):False:=h2 cv_iff
end
end Go.SE
namespace Go.SE
theorem mfb200 {a:GAsn} (h:a.atoms.length<=100):(miF ⟨a.facts,[]⟩ a).atoms.length<=200:=mf200A (Nat.zero_le _) h
end Go.SE
