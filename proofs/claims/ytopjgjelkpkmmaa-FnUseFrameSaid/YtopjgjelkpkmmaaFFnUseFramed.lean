/-
  Contracts of single functions of the program, each shown by the engine: what a call returns for arguments within the contract's bounds.
-/
import Derived.Test.YtopjgjelkpkmmaaFFnUseFramea
import Derived.Test.YtopjgjelkpkmmaaEe
import Derived.Test.YtopjgjelkpkmmaaEd
import Derived.Test.YtopjgjelkpkmmaaFFnUseFramec
import Derived.Test.YtopjgjelkpkmmaaEf
import Derived.Test.YtopjgjelkpkmmaaEc
set_option linter.unusedSimpArgs false
set_option linter.unusedVariables false
set_option linter.unusedSectionVars false

namespace Go.Proofs.Ytopjgjelkpkmmaa
open Go.SE Go.RowKit
set_option linter.unusedSimpArgs false
set_option linter.unusedVariables false
set_option maxHeartbeats 1000000
set_option maxRecDepth 100000
def lmHp : Nat -> Bool
 | 4 => true
 | _ => false
def seqL : Code -> Code
 | .seq a _ => a
 | c => c
def seqR : Code -> Code
 | .seq _ a => a
 | c => c
def loopB : Code -> Code
 | .block _ (.loop a) => a
 | c => c
noncomputable def lmLB : Code := loopB (seqR (seqL (seqR (bodyOf Try.f81))))
theorem lm_code : bodyOf Try.f81 = .seq (seqL (bodyOf Try.f81)) (.seq (.seq (seqL (seqL (seqR (bodyOf Try.f81)))) (.block 0 (.loop lmLB))) (seqR (seqR (bodyOf Try.f81)))) := by rfl
def lmAnn (n : Int) (acc : Int -> Bool) (base : Nat) : Nat -> Option Ann
 | 2 => some { α := Nat, ok := fun m => (m : Int) <= 2 ^ n.toNat /\ ∀ j : Nat, j < m -> acc j = false, mu := fun m => 2 ^ n.toNat - m, i0 := fun _ => 0, nx := fun m _ => m + 1, live := [0, 1], sets := fun m => [(6, sv (.int .i64 (m : Int)))], mids := [], blks := fun _ => [], owns := fun _ => [], rd := fun r _ => r, base := base }
 | _ => none
def lmAnnS (c : ClC) (args : List S0) (base : Nat) (st : St) : Nat -> Option Ann :=
 match args with
 | [.c (.d (.val (.int .i64 n))), .c (.fn _ [i1, i2])] => match asnBlk st i1, asnBlk st i2 with
  | some a, some b => lmAnn n (fun m => c.acc m a b) base
  | _, _ => fun _ => none
 | _ => fun _ => none
theorem lm_round (c : ClC) (h : St) (n m : Int) (f : Nat) (i1 i2 : Nat) (a b : GAsn) (O : Nat -> Option Res) (ann : Nat -> Option Ann) (Q : XK -> St -> Prop) (e0 : h.env 0 = .s (.c (.d (.val (.int .i64 n))))) (e1 : h.env 1 = .s (.c (.fn f [i1, i2]))) (e6 : h.env 6 = .s (.c (.d (.val (.int .i64 m))))) (hrd : h.rd = none)
  (ha : ∀ env sp fr base rd, asnBlk { env := env, mem := h.mem, sp := sp, fr := fr, base := base, rd := rd } i1 = some a) (hb' : ∀ env sp fr base rd, asnBlk { env := env, mem := h.mem, sp := sp, fr := fr, base := base, rd := rd } i2 = some b)
  (hb : ∀ env sp fr base rd, blkIds { env := env, mem := h.mem, sp := sp, fr := fr, base := base, rd := rd } [i1, i2] = true)
  (h0 : 0 <= n) (h62 : n <= 62) (hm0 : 0 <= m) (hpre : m < 2 ^ n.toNat -> c.pre m a b)
  (q1 : m < 2 ^ n.toNat -> c.acc m a b = true -> ∀ env, env 4 = .s (.c (.d (.val (.int .i64 m)))) -> env 5 = .s (.c (.d (.val (.bool true)))) -> Q .ret { env := env, mem := h.mem, sp := h.sp, fr := h.fr, base := h.base, rd := none })
  (q2 : m < 2 ^ n.toNat -> c.acc m a b = false -> ∀ env, env 0 = h.env 0 -> env 1 = h.env 1 -> env 6 = .s (.c (.d (.val (.int .i64 (m + 1))))) -> Q .normal { env := env, mem := h.mem, sp := h.sp, fr := h.fr, base := h.base, rd := none })
  (q3 : ¬ m < 2 ^ n.toNat -> ∀ env, Q (.exit 0) { env := env, mem := h.mem, sp := h.sp, fr := h.fr, base := h.base, rd := none }) :
  vcP tab (lookF []) O (lookP [(f, ptCl c)]) lmHp (fun _ => none) ann (fun _ => []) lmLB h Q := by
 have hp := pow62 h0 h62
 dsimp only [lmLB, loopB, seqR, seqL, bodyOf, Try.f81]
 simp only [e0, e1, e6, hrd, hb, ha, hb', hp.1, ptCl, List.map_cons, List.map_nil, List.cons_append, List.nil_append, upd, lmHp, SE.lookF, tab2, tab3, tab4, tab5, tab7, tab9, tab12, tab13, tab21, tab22, tab23, tab24, tab25, tab26, tab29, tab30, tab31, tab38, tab39, tab40, tab41, tab65, tab66, tab67, tab68, tab71, tab77, tab78, tab93, tab94, tab104, tab105, tab110, tab111, tab112, tab119, tab121, tab130, tab139, tab141, tab149, tab151, tab156, tab157, tab158, Option.map_none, Option.map_some, if_true, if_false, reduceCtorEq, Option.getD_some, Nat.reduceEqDiff, vcReg, condK, seqK, blockK, vcOps, vcStep, vcOp, vcTr, vcDet_some, vcDet_none, vcIf_true, vcIf_false, gslot, trOp, trMove, trPick, trBin, argsS, ev, constS, junk, sv, St.app, St.put, noJunk, inK, binI, shf, isShift, intOp, vcP, vcRegP, vcOpsP, vcStepP, vcOpP, vcOpX, idxOf, cloK, cloOf, withPtrs, ptK, ptOf, vcPt, gcK, lookP, ptBase, St.back, adds, sets, cond_true, true_and, and_true]
 rw [vcIf_iff, decide_eq_true_eq, decide_eq_false_iff_not]
 refine ⟨h0, fun hlt => ⟨hpre hlt, ?_⟩, fun hge => q3 hge _⟩
 rw [vcIf_iff]
 refine ⟨fun ht => q1 hlt ht _ rfl rfl, fun hf => ⟨?_, q2 hlt hf _ rfl rfl rfl⟩⟩
 have h2 := hp.2.1
 have : IntKind.i64.min = -9223372036854775808 := rfl
 have : IntKind.i64.max = 9223372036854775807 := rfl
 omega
theorem lm_fits (st s0 st' : St) (n m : Int) (f i1 i2 : Nat) (hm0 : s0.mem = st.mem) (hm : st'.mem = st.mem) (hs : ∀ j, (st.mem j).isSome = true -> st'.sp j = s0.sp j /\ st'.fr j = s0.fr j) (e0 : s0.env 0 = .s (.c (.d (.val (.int .i64 n))))) (e1 : s0.env 1 = .s (.c (.fn f [i1, i2]))) (h0 : st'.env 0 = s0.env 0) (h1 : st'.env 1 = s0.env 1) (h6 : st'.env 6 = .s (.c (.d (.val (.int .i64 m)))))
  (hi : (st.mem i1).isSome = true) (hj : (st.mem i2).isSome = true) (hrd : st'.rd = none) : fitsP st.mem [0, 1] [(6, sv (.int .i64 m))] [] [] [] none s0 st' := by
 refine ⟨⟨h0, h1, trivial⟩, ⟨h6, trivial⟩, trivial, trivial, trivial, trivial, trivial, trivial, ?_, ⟨trivial, trivial⟩, trivial, trivial, trivial, fun j hj' _ => ?_, fun _ _ _ _ _ _ => trivial, by rw [hrd]; trivial⟩
 ·refine ⟨?_, ?_, trivial⟩
  ·rw [e0]; trivial
  ·rw [e1]
   exact ⟨by rw [hi, Bool.or_true], by rw [hj, Bool.or_true], trivial⟩
 ·exact ⟨by rw [hm0], by rw [hm, hm0], (hs j hj').1, (hs j hj').2⟩
theorem lm_loop (c : ClC) (st s0 : St) (base : Nat) (n : Int) (f i1 i2 : Nat) (a b : GAsn) (ha : asnBlk st i1 = some a) (hb : asnBlk st i2 = some b) (h0 : 0 <= n) (h62 : n <= 62) (hpre : ∀ m : Int, 0 <= m -> m < 2 ^ n.toNat -> c.pre m a b)
  (hm0 : s0.mem = st.mem) (hs0 : ∀ j, (st.mem j).isSome = true -> s0.sp j = st.sp j /\ s0.fr j = st.fr j) (hrd : s0.rd = none) (e0 : s0.env 0 = .s (.c (.d (.val (.int .i64 n))))) (e1 : s0.env 1 = .s (.c (.fn f [i1, i2]))) (e6 : s0.env 6 = .s (.c (.d (.val (.int .i64 0))))) (ann : Nat -> Option Ann) (Q : XK -> St -> Prop)
  (q1 : ∀ m : Nat, (m : Int) < 2 ^ n.toNat -> (∀ j : Nat, j < m -> c.acc j a b = false) -> c.acc m a b = true -> ∀ st', st'.mem = st.mem -> (∀ j, (st.mem j).isSome = true -> st'.sp j = st.sp j /\ st'.fr j = st.fr j) -> st'.rd = none -> st'.env 4 = .s (.c (.d (.val (.int .i64 m)))) -> st'.env 5 = .s (.c (.d (.val (.bool true)))) -> Q .ret st')
  (q3 : ∀ m : Nat, ¬ (m : Int) < 2 ^ n.toNat -> (∀ j : Nat, j < m -> c.acc j a b = false) -> ∀ st', st'.mem = st.mem -> (∀ j, (st.mem j).isSome = true -> st'.sp j = st.sp j /\ st'.fr j = st.fr j) -> st'.rd = none -> Q (.exit 0) st') :
  vcLoopP st.mem (fun st' Q' => vcP tab (lookF []) st.mem (lookP [(f, ptCl c)]) lmHp (fun _ => none) ann (fun _ => []) lmLB st' Q') s0 Q (lmAnn n (fun m => c.acc m a b) base 2) := by
 have hp := pow62 h0 h62
 have m1 : (st.mem i1).isSome = true := by rw [asnBlk_mem ha]; rfl
 have m2 : (st.mem i2).isSome = true := by rw [asnBlk_mem hb]; rfl
 have tm : tabM st.mem s0.mem [] = st.mem := by
  rw [hm0]
  funext j
  simp only [tabM]
  cases st.mem j <;> rfl
 have tq : ∀ (q : Nat -> Bool) j, (st.mem j).isSome = true -> tabQ st.mem q [] j = q j := fun q j hj => by
  simp only [tabQ]
  cases hq : st.mem j with
  | none => rw [hq] at hj; cases hj
  | some r => rfl
 have e2 : ((2 ^ n.toNat : Nat) : Int) = 2 ^ n.toNat := by push_cast; rfl
 refine ⟨⟨⟨by show ((0 : Nat) : Int) <= _; omega, fun j hj => absurd hj (Nat.not_lt_zero _)⟩, ?_⟩, fun m hm => ?_⟩
 ·show fitsP st.mem [0, 1] [(6, sv (.int .i64 ((0 : Nat) : Int)))] [] [] [] s0.rd s0 s0
  rw [hrd]
  exact lm_fits st s0 s0 n 0 f i1 i2 hm0 hm0 (fun _ _ => ⟨rfl, rfl⟩) e0 e1 rfl rfl e6 m1 m2 hrd
 ·obtain ⟨hle, hno⟩ := hm
  show vcP tab (lookF []) st.mem _ lmHp _ ann _ lmLB (headP st.mem [0, 1] [(6, sv (.int .i64 (m : Int)))] [] [] [] base s0.rd s0) _
  have hmem : (headP st.mem [0, 1] [(6, sv (.int .i64 (m : Int)))] [] [] [] base s0.rd s0).mem = st.mem := tm
  have hsp : ∀ j, (st.mem j).isSome = true -> (headP st.mem [0, 1] [(6, sv (.int .i64 (m : Int)))] [] [] [] base s0.rd s0).sp j = s0.sp j /\ (headP st.mem [0, 1] [(6, sv (.int .i64 (m : Int)))] [] [] [] base s0.rd s0).fr j = s0.fr j := fun j hj => ⟨tq _ j hj, tq _ j hj⟩
  have hrd' : (headP st.mem [0, 1] [(6, sv (.int .i64 (m : Int)))] [] [] [] base s0.rd s0).rd = none := hrd
  have he0 : (headP st.mem [0, 1] [(6, sv (.int .i64 (m : Int)))] [] [] [] base s0.rd s0).env 0 = s0.env 0 := rfl
  have he1 : (headP st.mem [0, 1] [(6, sv (.int .i64 (m : Int)))] [] [] [] base s0.rd s0).env 1 = s0.env 1 := rfl
  have he6 : (headP st.mem [0, 1] [(6, sv (.int .i64 (m : Int)))] [] [] [] base s0.rd s0).env 6 = .s (.c (.d (.val (.int .i64 (m : Int))))) := rfl
  generalize headP st.mem [0, 1] [(6, sv (.int .i64 (m : Int)))] [] [] [] base s0.rd s0 = h at hmem hsp hrd' he0 he1 he6
  have hsp' : ∀ j, (st.mem j).isSome = true -> h.sp j = st.sp j /\ h.fr j = st.fr j := fun j hj => ⟨(hsp j hj).1.trans (hs0 j hj).1, (hsp j hj).2.trans (hs0 j hj).2⟩
  refine lm_round c h n (m : Int) f i1 i2 a b st.mem ann _ (he0.trans e0) (he1.trans e1) he6 hrd' ?_ ?_ ?_ h0 h62 (by omega) (fun hlt => hpre _ (by omega) hlt) ?_ ?_ ?_
  ·intro env sp fr base rd
   unfold asnBlk at ha ⊢
   rw [hmem]; exact ha
  ·intro env sp fr base rd
   unfold asnBlk at hb ⊢
   rw [hmem]; exact hb
  ·intro env sp fr base rd
   simp only [blkIds, hmem, asnBlk_mem ha, asnBlk_mem hb]
  ·intro hlt hacc env h4 h5
   exact q1 m hlt hno hacc _ hmem hsp' rfl h4 h5
  ·intro hlt hacc env g0 g1 g6
   show (((m + 1 : Nat) : Int) <= 2 ^ n.toNat /\ ∀ j : Nat, j < m + 1 -> c.acc j a b = false) /\ 2 ^ n.toNat - (m + 1) < 2 ^ n.toNat - m /\ fitsP st.mem [0, 1] [(6, sv (.int .i64 ((m + 1 : Nat) : Int)))] [] [] [] s0.rd s0 _
   refine ⟨⟨by omega, fun j hj => ?_⟩, by omega, ?_⟩
   ·by_cases e : j = m
    ·subst e; exact hacc
    ·exact hno j (by omega)
   ·rw [hrd]
    exact lm_fits st s0 _ n ((m + 1 : Nat) : Int) f i1 i2 hm0 hmem hsp e0 e1 (g0.trans he0) (g1.trans he1) (by rw [show ((m + 1 : Nat) : Int) = (m : Int) + 1 by omega]; exact g6) m1 m2 rfl
  ·intro hge env
   exact q3 m hge hno _ hmem hsp' rfl
theorem lm_vc (c : ClC) (st : St) (base : Nat) (n : Int) (f i1 i2 : Nat) (a b : GAsn) (ha : asnBlk st i1 = some a) (hb : asnBlk st i2 = some b) (hrd : st.rd = none) (h0 : 0 <= n) (h62 : n <= 62) (hpre : ∀ m : Int, 0 <= m -> m < 2 ^ n.toNat -> c.pre m a b) (k : S -> St -> Prop)
  (hk : ∀ st', st'.mem = st.mem -> (∀ j, (st.mem j).isSome = true -> st'.sp j = st.sp j /\ st'.fr j = st.fr j) -> st'.rd = none -> k (.tup [.c (.d (.val (.int .i64 (lmI (fun m => c.acc m a b) n)))), .c (.d (.val (.bool (lmB (fun m => c.acc m a b) n))))]) st') :
  inl tab (lookF []) (lookP [(f, ptCl c)]) lmHp (fun _ _ => none) (lmAnnS c) (fun _ => []) Try.f81.ntmps (bodyOf Try.f81) Try.f81.results.toList [.c (.d (.val (.int .i64 n))), .c (.fn f [i1, i2])] base st k := by
 have hp := pow62 h0 h62
 refine ⟨by show 2 <= 17; decide, ?_⟩
 have hA : lmAnnS c [.c (.d (.val (.int .i64 n))), .c (.fn f [i1, i2])] base st = lmAnn n (fun m => c.acc m a b) base := by
  unfold lmAnnS
  simp only [ha, hb]
 rw [hA, lm_code]
 have m1 := asnBlk_mem ha
 have m2 := asnBlk_mem hb
 have tm : ∀ m : Nat -> Option Res, m = st.mem -> tabM st.mem m [] = st.mem := fun m hm => by
  subst hm
  funext j
  simp only [tabM]
  cases st.mem j <;> rfl
 have tq : ∀ (q : Nat -> Bool) j, (st.mem j).isSome = true -> tabQ st.mem q [] j = q j := fun q j hj => by
  simp only [tabQ]
  cases hq : st.mem j with
  | none => rw [hq] at hj; cases hj
  | some r => rfl
 simp only [vcP, seqK, gcK, blockK]
 dsimp only [seqL, seqR, bodyOf, Try.f81]
 simp only [inlSt, envOf, upd, SE.lookF, tab2, tab3, tab4, tab5, tab7, tab9, tab12, tab13, tab21, tab22, tab23, tab24, tab25, tab26, tab29, tab30, tab31, tab38, tab39, tab40, tab41, tab65, tab66, tab67, tab68, tab71, tab77, tab78, tab93, tab94, tab104, tab105, tab110, tab111, tab112, tab119, tab121, tab130, tab139, tab141, tab149, tab151, tab156, tab157, tab158, hrd, Option.map_none, Option.map_some, reduceCtorEq, Option.getD_some, Nat.reduceEqDiff, vcReg, condK, seqK, blockK, vcOps, vcStep, vcOp, vcTr, vcDet_some, vcDet_none, trOp, trMove, ev, constS, junk, sv, St.app, St.put, vcP, vcRegP, vcOpsP, lmHp, gcK, adds, sets, true_and, and_true]
 rw [show firstReg lmLB = 2 from rfl]
 refine lm_loop c st _ base n f i1 i2 a b ha hb h0 h62 hpre ?_ ?_ ?_ ?_ ?_ ?_ _ _ ?_ ?_
 ·rfl
 ·exact fun _ _ => ⟨rfl, rfl⟩
 ·rfl
 ·rfl
 ·rfl
 ·rfl
 ·intro m hlt hno hacc st' g1 g2 g3 g4 g5
  obtain ⟨l1, l2⟩ := lm_found (acc := fun m => c.acc m a b) hlt hno hacc
  show retP tab [.tmp 4, .tmp 5] k .ret st'
  simp only [retP, loadsS, loadS, g4, g5, pack1]
  rw [l1, l2]
  exact hk st' g1 g2 g3
 ·intro m hge hno st' g1 g2 g3
  obtain ⟨l1, l2⟩ := lm_none (acc := fun m => c.acc m a b) hge hno
  simp only [blockK, seqK, retP, loadsS, loadS, upd, pack1, Nat.reduceEqDiff, if_true, if_false]
  rw [l1, l2]
  exact hk _ g1 g2 (by simp [g3])
theorem ptok_lm {f : Nat} {c : ClC} (hF : FnOk Try.prog E f c.con) : PTOk Try.prog E 81 (ptLM f c) := by
 have base := pt_ok (l := []) (lp := [(f, ptCl c)]) (hp := lmHp) (perm := fun _ => []) (gcb := fun _ _ => none) (ann := lmAnnS c) tabOk mix trivial ⟨ptCl_ok hF, trivial⟩ Try.func81 rfl (by kernel_rfl) (by kernel_rfl)
 refine ⟨base.fn, ?_⟩
 intro w0 M g st w args vs bs k hg hcl hrefs hargs hv
 unfold ptLM at hv
 split at hv
 ·rename_i n f' i1 i2
  split at hv
  ·rename_i a b ha hb
   obtain ⟨rfl, hrd, ⟨h0, h62⟩, hpre, hk⟩ := hv
   have hi := lm_vc c st bs n f' i1 i2 a b ha hb hrd h0 h62 hpre
    (fun s st' => s = .tup [.c (.d (.val (.int .i64 (lmI (fun m => c.acc m a b) n)))), .c (.d (.val (.bool (lmB (fun m => c.acc m a b) n))))] /\ st'.mem = st.mem /\ (∀ j, (st.mem j).isSome = true -> st'.sp j = st.sp j /\ st'.fr j = st.fr j) /\ st'.rd = st.rd)
    (fun st' g1 g2 g3 => ⟨rfl, g1, g2, g3.trans hrd.symm⟩)
   refine Calls.mono (base.call w0 M g st w _ vs bs _ hg hcl hrefs hargs hi) fun e w' he => ?_
   obtain ⟨v, s, st', g', rfl, ⟨rfl, g1, g2, g3⟩, hg', hsR, hsref, hcl', hold, hro, hρ⟩ := he
   exact ⟨v, _, st, g', rfl, hk, hg'.agree g1 g2 g3, hsR, (fun id hid => by cases hid), hcl, fun id h => ⟨h, (hold id h).2⟩, hro, hρ⟩
  ·exact hv.elim
 ·exact hv.elim
abbrev c_joinListsF : Con := ⟨[.sl .fact, .sl .fact], [.sl .fact], fun (a, b, _) => a.length <= 1048576 /\ b.length <= 1048576, .inl fun (a, b, _) => (a ++ b, ()), fun _ => 0⟩
abbrev L_joinListsF : List (FuncId × Con) := []
abbrev P_joinListsF : List (FuncId × PT) := []
def VC_joinListsF (a : List GFact) (b : List GFact) (k : Nat) : Prop := TN /\ True /\ True /\ True /\ True /\ (inK .i64 (((a.length : Nat) : Int) + ((b.length : Nat) : Int))) /\ (TN /\ (0 <= (0 : Int) /\ (0 : Int) <= (((a.length : Nat) : Int) + ((b.length : Nat) : Int)) /\ (((a.length : Nat) : Int) + ((b.length : Nat) : Int)) <= 4294967296)) /\ True /\ True /\ True /\ (TN /\ TF /\ TF /\ ((List.replicate 0 (⟨false, 0, 0⟩ : GFact)).length + a.length <= 4294967296)) /\ True /\ (TN /\ TF /\ TF /\ (((List.replicate 0 (⟨false, 0, 0⟩ : GFact)) ++ a).length + b.length <= 4294967296)) /\ True /\ (((((List.replicate 0 (⟨false, 0, 0⟩ : GFact)) ++ a) ++ b, ()) : (List GFact) × Unit) = (a ++ b, ())) /\ (True /\ True) /\ ((TF /\ TF) /\ True) /\ True /\ (True /\ True) /\ TF
theorem vcn_joinListsF (a : List GFact) (b : List GFact) (k : Nat) (hp : a.length <= 1048576 /\ b.length <= 1048576) : VC_joinListsF a b k := by
 unfold VC_joinListsF
 simp only [cln, Nat.reduceEqDiff, Nat.reduceLeDiff, Nat.reduceAdd]
 all_goals (try simp only [opn])
 all_goals (repeat' (first | apply And.intro | intro _))
 all_goals (first | omega | (simp_all; done) | grind [])
theorem ok_joinListsF : FnOk Try.prog E 78 c_joinListsF :=
 fn_okQ (l := L_joinListsF) (lp := P_joinListsF) (hp := fun _ => false) (gcs := fun _ => none) (perm := fun _ => []) tabOk mix trivial trivial Try.func78 rfl (by kernel_rfl) (by decide) (by kernel_rfl) (anns := fun x _ => fun _ _ => none) (fun ⟨a, b, _⟩ k hp _ => Eq.mp (by kernel_rfl) (vcn_joinListsF a b k hp)) tot_fn
abbrev c_joinListsA : Con := ⟨[.sl .atom, .sl .atom], [.sl .atom], fun (a, b, _) => a.length <= 1048576 /\ b.length <= 1048576, .inl fun (a, b, _) => (a ++ b, ()), fun _ => 0⟩
abbrev L_joinListsA : List (FuncId × Con) := []
abbrev P_joinListsA : List (FuncId × PT) := []
def VC_joinListsA (a : List GAtom) (b : List GAtom) (k : Nat) : Prop := TN /\ True /\ True /\ True /\ True /\ (inK .i64 (((a.length : Nat) : Int) + ((b.length : Nat) : Int))) /\ (TN /\ (0 <= (0 : Int) /\ (0 : Int) <= (((a.length : Nat) : Int) + ((b.length : Nat) : Int)) /\ (((a.length : Nat) : Int) + ((b.length : Nat) : Int)) <= 4294967296)) /\ True /\ True /\ True /\ (TN /\ TF /\ TF /\ ((List.replicate 0 (⟨0, 0, 0⟩ : GAtom)).length + a.length <= 4294967296)) /\ True /\ (TN /\ TF /\ TF /\ (((List.replicate 0 (⟨0, 0, 0⟩ : GAtom)) ++ a).length + b.length <= 4294967296)) /\ True /\ (((((List.replicate 0 (⟨0, 0, 0⟩ : GAtom)) ++ a) ++ b, ()) : (List GAtom) × Unit) = (a ++ b, ())) /\ (True /\ True) /\ ((TF /\ TF) /\ True) /\ True /\ (True /\ True) /\ TF
theorem vcn_joinListsA (a : List GAtom) (b : List GAtom) (k : Nat) (hp : a.length <= 1048576 /\ b.length <= 1048576) : VC_joinListsA a b k := by
 unfold VC_joinListsA
 simp only [cln, Nat.reduceEqDiff, Nat.reduceLeDiff, Nat.reduceAdd]
 all_goals (try simp only [opn])
 all_goals (repeat' (first | apply And.intro | intro _))
 all_goals (first | omega | (simp_all; done) | grind [])
theorem ok_joinListsA : FnOk Try.prog E 79 c_joinListsA :=
 fn_okQ (l := L_joinListsA) (lp := P_joinListsA) (hp := fun _ => false) (gcs := fun _ => none) (perm := fun _ => []) tabOk mix trivial trivial Try.func79 rfl (by kernel_rfl) (by decide) (by kernel_rfl) (anns := fun x _ => fun _ _ => none) (fun ⟨a, b, _⟩ k hp _ => Eq.mp (by kernel_rfl) (vcn_joinListsA a b k hp)) tot_fn
abbrev c_iStarAssertions : Con := ⟨[.asn, .asn], [.asn, .bool], fun (a, b, _) => a.facts.length <= 1048576 /\ a.atoms.length <= 1048576 /\ b.facts.length <= 1048576 /\ b.atoms.length <= 1048576, .inl fun (a, b, _) => (starL a b, starOk a b, ()), fun _ => 0⟩
abbrev L_iStarAssertions : List (FuncId × Con) := [(37, c_iAssertionValid), (78, c_joinListsF), (79, c_joinListsA)]
abbrev P_iStarAssertions : List (FuncId × PT) := []
def VC_iStarAssertions_1 (a : GAsn) (b : GAsn) : Prop := (((⟨([] : List GFact), ([] : List GAtom)⟩ : GAsn), false, ()) : GAsn × Bool × Unit) = (starL a b, starOk a b, ())
def VC_iStarAssertions_2 (a : GAsn) (b : GAsn) : Prop := (TN /\ TN /\ True) /\ (TF /\ TF) /\ True /\ (VC_iStarAssertions_1 a b) /\ ((((240 : Nat) ≠ 241) /\ True) /\ True /\ True) /\ ((TF /\ TF) /\ (TF /\ TF) /\ True) /\ True /\ (True /\ True /\ True) /\ TF
def VC_iStarAssertions (a : GAsn) (b : GAsn) (k : Nat) : Prop := TN /\ TN /\ (TN /\ TN /\ TN /\ True) /\ True /\ True /\ ((a.facts.length <= 281474976710656 /\ a.atoms.length <= 281474976710656) /\ True /\ True) /\ True /\ True /\ (vcIf (!(asV a)) (True /\ (VC_iStarAssertions_2 a b)) (True /\ ((b.facts.length <= 281474976710656 /\ b.atoms.length <= 281474976710656) /\ True /\ True) /\ True /\ True /\ (vcIf (!(asV b)) (VC_iStarAssertions_2 a b) (True /\ True /\ True /\ True /\ ((a.facts.length <= 1048576 /\ b.facts.length <= 1048576) /\ True /\ TN /\ True) /\ True /\ True /\ True /\ True /\ ((a.atoms.length <= 1048576 /\ b.atoms.length <= 1048576) /\ True /\ TN /\ True) /\ (TN /\ TN /\ True) /\ (TN /\ TN /\ TN /\ True) /\ (TF /\ TF) /\ True /\ (((⟨(a.facts ++ b.facts), (a.atoms ++ b.atoms)⟩ : GAsn).facts.length <= 281474976710656 /\ (⟨(a.facts ++ b.facts), (a.atoms ++ b.atoms)⟩ : GAsn).atoms.length <= 281474976710656) /\ True /\ True) /\ True /\ (vcIf (!(asV (⟨(a.facts ++ b.facts), (a.atoms ++ b.atoms)⟩ : GAsn))) ((TN /\ TN /\ True) /\ (TF /\ TF) /\ True /\ (VC_iStarAssertions_1 a b) /\ ((((480 : Nat) ≠ 481) /\ True) /\ True /\ True) /\ ((TF /\ TF) /\ (TF /\ TF) /\ True) /\ True /\ (True /\ True /\ True) /\ TF) (True /\ (TF /\ TF) /\ True /\ ((((⟨(a.facts ++ b.facts), (a.atoms ++ b.atoms)⟩ : GAsn), true, ()) : GAsn × Bool × Unit) = (starL a b, starOk a b, ())) /\ ((((320 : Nat) ≠ 400) /\ True) /\ True /\ True) /\ ((TF /\ TF) /\ (TF /\ TF) /\ True) /\ True /\ (True /\ True /\ True) /\ TF))))))
theorem vcn_iStarAssertions (a : GAsn) (b : GAsn) (k : Nat) (hp : a.facts.length <= 1048576 /\ a.atoms.length <= 1048576 /\ b.facts.length <= 1048576 /\ b.atoms.length <= 1048576) : VC_iStarAssertions a b k := by
 unfold VC_iStarAssertions VC_iStarAssertions_2 VC_iStarAssertions_1
 simp only [cln, Nat.reduceEqDiff, Nat.reduceLeDiff, Nat.reduceAdd]
 all_goals (try simp only [opn])
 all_goals (repeat' (first | apply And.intro | intro _))
 all_goals (first | omega | (simp_all; done) | grind [starL, starOk, starA])
theorem ok_iStarAssertions : FnOk Try.prog E 32 c_iStarAssertions :=
 fn_okQ (l := L_iStarAssertions) (lp := P_iStarAssertions) (hp := fun _ => false) (gcs := fun _ => none) (perm := fun _ => []) tabOk mix ⟨ok_iAssertionValid, ok_joinListsF, ok_joinListsA, trivial⟩ trivial Try.func32 rfl (by kernel_rfl) (by decide) (by kernel_rfl) (anns := fun x _ => fun _ _ => none) (fun ⟨a, b, _⟩ k hp _ => Eq.mp (by kernel_rfl) (vcn_iStarAssertions a b k hp)) tot_fn
abbrev c_frAcc : Con := ⟨[.int, .pasn, .pasn], [.bool], fun (m, b, a, _) => asV a = true /\ asV b = true, .inl fun (m, b, a, _) => (FRA m b a, ()), fun _ => 0⟩
abbrev L_frAcc : List (FuncId × Con) := [(20, c_iEntails), (32, c_iStarAssertions), (73, c_pickAtoms)]
abbrev P_frAcc : List (FuncId × PT) := []
def VC_frAcc (m : Int) (b : GAsn) (a : GAsn) (k : Nat) : Prop := True /\ True /\ True /\ True /\ ((a.facts.length <= 1048576 /\ a.atoms.length <= 1048576) /\ True /\ TN /\ TN /\ True) /\ ((b.facts.length <= 1048576 /\ b.atoms.length <= 1048576 /\ (⟨[], (pkA m a.atoms)⟩ : GAsn).facts.length <= 1048576 /\ (⟨[], (pkA m a.atoms)⟩ : GAsn).atoms.length <= 1048576) /\ True /\ TN /\ TN /\ True) /\ True /\ True /\ True /\ (TN /\ TN /\ TN /\ True) /\ (TF /\ TF) /\ True /\ True /\ True /\ (vcIf (starOk b (⟨[], (pkA m a.atoms)⟩ : GAsn)) (True /\ True /\ ((a.facts.length <= 281474976710656 /\ a.atoms.length <= 281474976710656 /\ (starL b (⟨[], (pkA m a.atoms)⟩ : GAsn)).facts.length <= 281474976710656 /\ (starL b (⟨[], (pkA m a.atoms)⟩ : GAsn)).atoms.length <= 281474976710656) /\ True /\ True) /\ True /\ True /\ ((((ENT a (starL b (⟨[], (pkA m a.atoms)⟩ : GAsn))), ()) : Bool × Unit) = (FRA m b a, ())) /\ True /\ True /\ True /\ True /\ TF) (True /\ True /\ (((false, ()) : Bool × Unit) = (FRA m b a, ())) /\ True /\ True /\ True /\ True /\ TF))
theorem vcn_frAcc (m : Int) (b : GAsn) (a : GAsn) (k : Nat) (hp : asV a = true /\ asV b = true) : VC_frAcc m b a k := by
 unfold VC_frAcc
 simp only [cln, Nat.reduceEqDiff, Nat.reduceLeDiff, Nat.reduceAdd]
 all_goals (try simp only [opn])
 all_goals (repeat' (first | apply And.intro | intro _))
 all_goals (repeat (cases ‹_ /\ _›))
 all_goals (first | with_reducible exact True.intro | (exfalso; contradiction) | omega | with_reducible assumption | with_reducible rfl | skip)
 all_goals (try have hA := fo_len6 ‹asV a = true›)
 all_goals (try have hB := fo_len6 ‹asV b = true›)
 all_goals (first
  | omega
  | with_reducible exact pk200 (by omega)
  | (with_reducible refine Nat.le_trans (m := 200) ?_ (by decide); first
   | with_reducible exact star_pkF (by omega) | with_reducible exact star_pkA (by omega) (by omega))
  | with_reducible exact fra_y ‹_› | with_reducible exact fra_n ‹_›
  | with_reducible exact (frm_no1 ‹_›).1 | with_reducible exact (frm_no1 ‹_›).2 | with_reducible exact (frm_no2 ‹_›).1 | with_reducible exact (frm_no2 ‹_›).2
  | with_reducible exact (frm_n ‹_› ‹_› ‹_›).1 | with_reducible exact (frm_n ‹_› ‹_› ‹_›).2
  | with_reducible exact (frm_y ‹_› ‹_› ‹_›).1 | with_reducible exact (frm_y ‹_› ‹_› ‹_›).2
  | skip)
abbrev cl_frAcc : ClC := ⟨fun m b a => asV a = true /\ asV b = true, fun m b a => FRA m b a⟩
theorem ok_frAcc : FnOk Try.prog E 82 c_frAcc :=
 fn_okQ (l := L_frAcc) (lp := P_frAcc) (hp := fun _ => false) (gcs := fun _ => none) (perm := fun _ => []) tabOk mix ⟨ok_iEntails, ok_iStarAssertions, ok_pickAtoms, trivial⟩ trivial Try.func82 rfl (by kernel_rfl) (by decide) (by kernel_rfl) (anns := fun x _ => fun _ _ => none) (fun ⟨m, b, a, _⟩ k hp _ => Eq.mp (by kernel_rfl) (vcn_frAcc m b a k hp)) tot_fn
abbrev c_iFrameOf : Con := ⟨[.asn, .asn], [.asn, .bool], fun (a, b, _) => a.facts.length <= 281474976710656 /\ a.atoms.length <= 281474976710656 /\ b.facts.length <= 281474976710656 /\ b.atoms.length <= 281474976710656, .inl fun (a, b, _) => (frmL a b, frmB a b, ()), fun _ => 0⟩
abbrev L_iFrameOf : List (FuncId × Con) := [(37, c_iAssertionValid), (73, c_pickAtoms)]
abbrev P_iFrameOf : List (FuncId × PT) := [(81, ptLM 82 cl_frAcc)]
def hp_iFrameOf : Nat -> Bool
 | 3 => true
 | _ => false
def VC_iFrameOf_1 (a : GAsn) (b : GAsn) : Prop := (((⟨([] : List GFact), ([] : List GAtom)⟩ : GAsn), false, ()) : GAsn × Bool × Unit) = (frmL a b, frmB a b, ())
def VC_iFrameOf_2 (a : GAsn) (b : GAsn) : Prop := (TN /\ TN /\ True) /\ (TF /\ TF) /\ True /\ (VC_iFrameOf_1 a b) /\ ((((256 : Nat) ≠ 257) /\ True) /\ True /\ True) /\ ((TF /\ TF) /\ (TF /\ TF) /\ True) /\ True /\ (True /\ True /\ True) /\ TF
def VC_iFrameOf (a : GAsn) (b : GAsn) (k : Nat) : Prop := TN /\ TN /\ (TN /\ TN /\ TN /\ True) /\ True /\ True /\ ((a.facts.length <= 281474976710656 /\ a.atoms.length <= 281474976710656) /\ True /\ True) /\ True /\ True /\ (vcIf (!(asV a)) (True /\ (VC_iFrameOf_2 a b)) (True /\ ((b.facts.length <= 281474976710656 /\ b.atoms.length <= 281474976710656) /\ True /\ True) /\ True /\ True /\ (vcIf (!(asV b)) (VC_iFrameOf_2 a b) (True /\ True /\ True /\ True /\ ((82 : Nat) = 82) /\ ((none : Option Nat) = none) /\ (0 <= ((a.atoms.length : Nat) : Int) /\ ((a.atoms.length : Nat) : Int) <= 62) /\ (∀ m1 : Int, (0 : Int) <= m1 -> m1 < (2 : Int) ^ (((a.atoms.length : Nat) : Int)).toNat -> asV a = true /\ asV b = true) /\ True /\ True /\ True /\ True /\ True /\ True /\ True /\ (vcIf (!(lmB (fun m1 => FRA m1 b a) ((a.atoms.length : Nat) : Int))) ((TN /\ TN /\ True) /\ (TF /\ TF) /\ True /\ (VC_iFrameOf_1 a b) /\ ((((432 : Nat) ≠ 433) /\ True) /\ True /\ True) /\ ((TF /\ TF) /\ (TF /\ TF) /\ True) /\ True /\ (True /\ True /\ True) /\ TF) (True /\ True /\ ((a.facts.length <= 1048576 /\ a.atoms.length <= 1048576) /\ True /\ TN /\ TN /\ True) /\ (TF /\ TF) /\ True /\ ((((⟨[], (pkA (lmI (fun m1 => FRA m1 b a) ((a.atoms.length : Nat) : Int)) a.atoms)⟩ : GAsn), true, ()) : GAsn × Bool × Unit) = (frmL a b, frmB a b, ())) /\ ((((480 : Nat) ≠ 481) /\ True) /\ True /\ True) /\ ((TF /\ TF) /\ (TF /\ TF) /\ True) /\ True /\ (True /\ True /\ True) /\ TF))))))
theorem vcn_iFrameOf (a : GAsn) (b : GAsn) (k : Nat) (hp : a.facts.length <= 281474976710656 /\ a.atoms.length <= 281474976710656 /\ b.facts.length <= 281474976710656 /\ b.atoms.length <= 281474976710656) : VC_iFrameOf a b k := by
 unfold VC_iFrameOf VC_iFrameOf_2 VC_iFrameOf_1
 simp only [cln, Nat.reduceEqDiff, Nat.reduceLeDiff, Nat.reduceAdd]
 all_goals (try simp only [opn])
 all_goals (repeat' (first | apply And.intro | intro _))
 all_goals (repeat (cases ‹_ /\ _›))
 all_goals (first | with_reducible exact True.intro | (exfalso; contradiction) | omega | with_reducible assumption | with_reducible rfl | skip)
 all_goals (try have hA := fo_len6 ‹asV a = true›)
 all_goals (try have hB := fo_len6 ‹asV b = true›)
 all_goals (first
  | omega
  | with_reducible exact pk200 (by omega)
  | (with_reducible refine Nat.le_trans (m := 200) ?_ (by decide); first
   | with_reducible exact star_pkF (by omega) | with_reducible exact star_pkA (by omega) (by omega))
  | with_reducible exact fra_y ‹_› | with_reducible exact fra_n ‹_›
  | with_reducible exact (frm_no1 ‹_›).1 | with_reducible exact (frm_no1 ‹_›).2 | with_reducible exact (frm_no2 ‹_›).1 | with_reducible exact (frm_no2 ‹_›).2
  | with_reducible exact (frm_n ‹_› ‹_› ‹_›).1 | with_reducible exact (frm_n ‹_› ‹_› ‹_›).2
  | with_reducible exact (frm_y ‹_› ‹_› ‹_›).1 | with_reducible exact (frm_y ‹_› ‹_› ‹_›).2
  | skip)
theorem ok_iFrameOf : FnOk Try.prog E 35 c_iFrameOf :=
 fn_okQ (l := L_iFrameOf) (lp := P_iFrameOf) (hp := hp_iFrameOf) (gcs := fun _ => none) (perm := fun _ => []) tabOk mix ⟨ok_iAssertionValid, ok_pickAtoms, trivial⟩ ⟨(ptok_lm (c := cl_frAcc) ok_frAcc), trivial⟩ Try.func35 rfl (by kernel_rfl) (by decide) (by kernel_rfl) (anns := fun x _ => fun _ _ => none) (fun ⟨a, b, _⟩ k hp _ => Eq.mp (by kernel_rfl) (vcn_iFrameOf a b k hp)) tot_fn
theorem vc_l18Open (code : List UInt8) : vc tab (lookF []) (fun _ => none) (fun _ => []) (bodyOf Try.f48) (entry [.c (.d (.arr .u8 code))] none) openQ := by
 dsimp only [bodyOf, Try.f48]
 simp only [openQ, pickK, openE, openM, true_and, and_true, SE.lookF, tab2, tab3, tab4, tab5, tab7, tab9, tab12, tab13, tab21, tab22, tab23, tab24, tab25, tab26, tab29, tab30, tab31, tab38, tab39, tab40, tab41, tab65, tab66, tab67, tab68, tab71, tab77, tab78, tab93, tab94, tab104, tab105, tab110, tab111, tab112, tab119, tab121, tab130, tab139, tab141, tab149, tab151, tab156, tab157, tab158, SE.entry, SE.envOf, SE.rdOf, Option.get_some, SE.vc, SE.vcReg, SE.vcLoop, SE.condK, SE.seqK, SE.blockK, SE.vcOps, SE.vcStep, SE.vcOp, SE.vcTr, SE.vcDet_some, SE.vcDet_none, SE.vcIf_true, SE.vcIf_false, SE.vcEach, SE.pickOps, SE.gslot, SE.trOp, SE.moveId, SE.trMove, SE.trPick, SE.trAlloc, SE.trBox, SE.trBuild, SE.trBuildSlice, SE.trLoad, SE.trStore, SE.trNilCheck, SE.trBin, SE.trUn, SE.trConvert, SE.trFieldAddr, SE.trField, SE.trIndexAddr, SE.trIndex, SE.trSlice, SE.trMakeSlice, SE.trExtract, SE.trLen, SE.trAppend, SE.trCopy, SE.trFn, SE.trCall, SE.argsS, SE.ev, SE.constS, SE.junk, SE.sv, SE.upd_app, SE.adds, SE.sets, SE.nid, SE.St.app, SE.St.put, SE.free, SE.freeL, SE.allFree, SE.rids, SE.AK.rids, SE.castL, SE.rdl, SE.AK.dec, SE.decs, SE.AK.enc, SE.encs, SE.AK.res, SE.ress, SE.pack1, SE.zcells, SE.zeroOf, SE.partCells, SE.putc, SE.fills, SE.datas, SE.elemOf, SE.elemsOf, SE.notSpent, SE.cellsAt, SE.weak, SE.dcellsAt, SE.slAt, SE.rdPlus, SE.intAt, SE.updElem, SE.kill, SE.noJunk, SE.inK, SE.binI, SE.shf, SE.isShift, SE.eqCells, SE.aggS, SE.intOp, SE.nested, SE.hasRdr, SE.refsC, SE.refsCs, SE.ownsC, SE.refsAr, SE.rdFits, SE.costIf, SE.Con.post, SE.Con.det, SE.Ty.cells, SE.Ty.sz, SE.Ty.zero, SE.Ty.flat, SE.Ty.dec, SE.retOk, SE.loadsS, SE.loadS, SE.decRs, SE.decR, SE.outC, SE.rdC, SE.allDiff, SE.notIn, SE.notFrozen, SE.apartL, SE.rdEnd, SE.firstReg, SE.headC, SE.fitsC, SE.idsC, SE.keepE, SE.keepM, SE.keepB, SE.inL, SE.puts, SE.ownRes, SE.ownEnv, SE.renL, SE.srcId, SE.lookR, SE.envSame, SE.envSets, SE.memSame, SE.memBlks, SE.memOwns, SE.famsOf, SE.allIn, SE.closedE, SE.closedV, SE.closedM, SE.closedR, SE.rdLe, SE.S.refs, SE.S0.refs, SE.CV.refs, SE.refsL, SE.refsT, SE.S.ren, SE.S0.ren, SE.CV.ren, SE.Res.refs, SE.Res.ren, min_i64, max_i64, min_u16, max_u16, min_u8, max_u8, min_u64, max_u64, S.s.injEq, S0.c.injEq, CV.d.injEq, DC.val.injEq, Value.int.injEq, Value.bool.injEq, Value.string.injEq, eta_fact, eta_atom, eta_asn, eta_state, List.mem_cons, List.mem_nil_iff, or_false, false_or, or_true, true_or, Option.map_some, Option.map_none, Option.bind_some, Option.getD_some, Option.getD_none, Nat.reduceEqDiff, Nat.reduceAdd, Nat.reduceMul, Nat.reduceLeDiff, ↓reduceIte, reduceCtorEq, true_and, and_true, and_self, forall_const, implies_true, true_implies, List.getElem?_toArray, List.getElem?_cons_succ, List.getElem?_cons_zero, List.append_nil, List.nil_append, List.cons_append, List.length_cons, List.length_nil, List.take_succ_cons, List.take_zero, List.drop_succ_cons, List.drop_zero, List.set_cons_zero, List.set_cons_succ, List.map_cons, List.map_nil, Nat.add_zero, Nat.zero_add, forall_eq, Prod.forall, Bool.not_true, Bool.not_false, Nat.lt_irrefl, Nat.zero_lt_succ, List.singleton_append, Prod.mk.injEq, Nat.zero_mul, Nat.one_mul, Nat.reducePow, Option.some.injEq, not_false_eq_true, Int.toNat_natCast, Nat.sub_zero, Nat.le_refl, Bool.or_false, Bool.false_or, Bool.or_true, Bool.true_or, Bool.and_true, Bool.true_and, Bool.and_false, Bool.false_and, Bool.or_self, Bool.and_self, List.append_eq, and_false, false_and]
 all_goals (try simp only [vcIf_iff, decide_eq_true_eq, decide_eq_false_iff_not])
 all_goals (repeat' (first | apply And.intro | intro _))
 all_goals (first | omega | (simp_all; done) | grind)
theorem open_l18Open : OpenOk Try.prog 48 :=
 open_ok tabOk mix (perm := fun _ => []) Try.func48 (by kernel_rfl) (by kernel_rfl) (by decide) (by kernel_rfl) vc_l18Open
theorem fn_l18Open : ∃ fn c, Try.prog.funcs[48]? = some fn /\ (fn.name == "runtime.NumGoroutine") = false /\ fn.body = some c := ⟨_, _, Try.func48, by kernel_rfl, rfl⟩
abbrev c_pick : Con := ⟨[.rdr, .int], [.int], fun _ => True, .inr fun (_, n, _) (r, _) => pickP n r, fun _ => 1⟩
theorem vc_pick (code : List UInt8) (v : Value) (p n : Int) (k : Nat) (h1 : code.length <= 2000) (h2 : 0 <= p) (h3 : p <= k) (h4 : k + 1 <= rdLimit) : vc tab (lookF []) (fun _ => none) (fun _ => []) (bodyOf Try.f51) (pickSt code v p n) (pickQ code v p n) := by
 have h5 : p <= 1099511627776 := by have : k + 1 <= 1099511627776 := h4; omega
 dsimp only [bodyOf, Try.f51, rdOf]
 simp only [pickSt, pickQ, pickK, pickM, pickR, pickP, true_and, and_true, SE.lookF, tab2, tab3, tab4, tab5, tab7, tab9, tab12, tab13, tab21, tab22, tab23, tab24, tab25, tab26, tab29, tab30, tab31, tab38, tab39, tab40, tab41, tab65, tab66, tab67, tab68, tab71, tab77, tab78, tab93, tab94, tab104, tab105, tab110, tab111, tab112, tab119, tab121, tab130, tab139, tab141, tab149, tab151, tab156, tab157, tab158, SE.entry, SE.envOf, SE.rdOf, Option.get_some, SE.vc, SE.vcReg, SE.vcLoop, SE.condK, SE.seqK, SE.blockK, SE.vcOps, SE.vcStep, SE.vcOp, SE.vcTr, SE.vcDet_some, SE.vcDet_none, SE.vcIf_true, SE.vcIf_false, SE.vcEach, SE.pickOps, SE.gslot, SE.trOp, SE.moveId, SE.trMove, SE.trPick, SE.trAlloc, SE.trBox, SE.trBuild, SE.trBuildSlice, SE.trLoad, SE.trStore, SE.trNilCheck, SE.trBin, SE.trUn, SE.trConvert, SE.trFieldAddr, SE.trField, SE.trIndexAddr, SE.trIndex, SE.trSlice, SE.trMakeSlice, SE.trExtract, SE.trLen, SE.trAppend, SE.trCopy, SE.trFn, SE.trCall, SE.argsS, SE.ev, SE.constS, SE.junk, SE.sv, SE.upd_app, SE.adds, SE.sets, SE.nid, SE.St.app, SE.St.put, SE.free, SE.freeL, SE.allFree, SE.rids, SE.AK.rids, SE.castL, SE.rdl, SE.AK.dec, SE.decs, SE.AK.enc, SE.encs, SE.AK.res, SE.ress, SE.pack1, SE.zcells, SE.zeroOf, SE.partCells, SE.putc, SE.fills, SE.datas, SE.elemOf, SE.elemsOf, SE.notSpent, SE.cellsAt, SE.weak, SE.dcellsAt, SE.slAt, SE.rdPlus, SE.intAt, SE.updElem, SE.kill, SE.noJunk, SE.inK, SE.binI, SE.shf, SE.isShift, SE.eqCells, SE.aggS, SE.intOp, SE.nested, SE.hasRdr, SE.refsC, SE.refsCs, SE.ownsC, SE.refsAr, SE.rdFits, SE.costIf, SE.Con.post, SE.Con.det, SE.Ty.cells, SE.Ty.sz, SE.Ty.zero, SE.Ty.flat, SE.Ty.dec, SE.retOk, SE.loadsS, SE.loadS, SE.decRs, SE.decR, SE.outC, SE.rdC, SE.allDiff, SE.notIn, SE.notFrozen, SE.apartL, SE.rdEnd, SE.firstReg, SE.headC, SE.fitsC, SE.idsC, SE.keepE, SE.keepM, SE.keepB, SE.inL, SE.puts, SE.ownRes, SE.ownEnv, SE.renL, SE.srcId, SE.lookR, SE.envSame, SE.envSets, SE.memSame, SE.memBlks, SE.memOwns, SE.famsOf, SE.allIn, SE.closedE, SE.closedV, SE.closedM, SE.closedR, SE.rdLe, SE.S.refs, SE.S0.refs, SE.CV.refs, SE.refsL, SE.refsT, SE.S.ren, SE.S0.ren, SE.CV.ren, SE.Res.refs, SE.Res.ren, min_i64, max_i64, min_u16, max_u16, min_u8, max_u8, min_u64, max_u64, S.s.injEq, S0.c.injEq, CV.d.injEq, DC.val.injEq, Value.int.injEq, Value.bool.injEq, Value.string.injEq, eta_fact, eta_atom, eta_asn, eta_state, List.mem_cons, List.mem_nil_iff, or_false, false_or, or_true, true_or, Option.map_some, Option.map_none, Option.bind_some, Option.getD_some, Option.getD_none, Nat.reduceEqDiff, Nat.reduceAdd, Nat.reduceMul, Nat.reduceLeDiff, ↓reduceIte, reduceCtorEq, true_and, and_true, and_self, forall_const, implies_true, true_implies, List.getElem?_toArray, List.getElem?_cons_succ, List.getElem?_cons_zero, List.append_nil, List.nil_append, List.cons_append, List.length_cons, List.length_nil, List.take_succ_cons, List.take_zero, List.drop_succ_cons, List.drop_zero, List.set_cons_zero, List.set_cons_succ, List.map_cons, List.map_nil, Nat.add_zero, Nat.zero_add, forall_eq, Prod.forall, Bool.not_true, Bool.not_false, Nat.lt_irrefl, Nat.zero_lt_succ, List.singleton_append, Prod.mk.injEq, Nat.zero_mul, Nat.one_mul, Nat.reducePow, Option.some.injEq, not_false_eq_true, Int.toNat_natCast, Nat.sub_zero, Nat.le_refl, Bool.or_false, Bool.false_or, Bool.or_true, Bool.true_or, Bool.and_true, Bool.true_and, Bool.and_false, Bool.false_and, Bool.or_self, Bool.and_self, List.append_eq, and_false, false_and]
 all_goals (try simp only [vcIf_iff, decide_eq_true_eq, decide_eq_false_iff_not, bne_iff_ne, ne_eq, beq_iff_eq, beq_eq_false_iff_ne])
 have hq : p + 1 - 1 = p := by omega
 simp only [hq]
 have hA := byte_bd code
 generalize hL : (code.length : Int) = L at *
 have hL0 : 0 <= L := by omega
 have hm : ∀ x : Int, 0 <= x -> ¬ L = 0 -> 0 <= x.tmod L /\ x.tmod L < L := fun x h0 h1 => tmod_bd h0 (by omega)
 refine ⟨by omega, fun _ _ => by omega, fun hn => ⟨fun _ _ => by omega, fun hl => ⟨by omega, fun hpl => ?_, fun hpl => ?_⟩⟩⟩
 ·have a1 := hA p.toNat
  have m1 := tmod_bd (n := n) a1.1 (by omega)
  generalize ((code.getD p.toNat 0).toNat : Int) = A at *
  exact ⟨by omega, by omega, by omega, fun _ => m1, fun h => by omega⟩
 ·have m1 := hm p h2 hl
  have m2 := hm (p * 7 + 3) (by omega) hl
  have a1 := hA (p.tmod L).toNat
  have a2 := hA ((p * 7 + 3).tmod L).toNat
  have d1 := tdiv_bd (x := p) (n := L) h2 (by omega)
  generalize ((code.getD (p.tmod L).toNat 0).toNat : Int) = A at *
  generalize ((code.getD ((p * 7 + 3).tmod L).toNat 0).toNat : Int) = B at *
  generalize p.tdiv L = D at *
  have d2 := tdiv_bd (x := A * 131 + B * 1117 + p * 29 + D * 53) (n := 64) (by omega) (by omega)
  have x1 := xor_i64_pos (a := A * 131 + B * 1117 + p * 29 + D * 53) (b := (A * 131 + B * 1117 + p * 29 + D * 53).tdiv 64) (by omega) (by omega) d2.1 (by omega)
  have m3 := tmod_bd (n := n) x1 (by omega)
  repeat' (first | apply And.intro | intro _)
  all_goals (first | assumption | omega | exact m3.1 | exact m3.2)
theorem ok_pick : FnOk Try.prog E 51 c_pick :=
 pick_ok tabOk mix (perm := fun _ => []) Try.func51 (by kernel_rfl) (by decide) (by kernel_rfl) (by decide) (by kernel_rfl) (fun code v p n k h1 h2 h3 h4 => vc_pick code v p n k h1 h2 h3 h4)
abbrev c_num : Con := ⟨[.rdr, .sl .int], [.int], fun (rr, l, _) => 0 < l.length /\ l.length <= 1000, .inr fun (rr, l, _) r => r.1 ∈ l, fun (rr, l, _) => 1⟩
abbrev L_num : List (FuncId × Con) := [(51, c_pick)]
abbrev P_num : List (FuncId × PT) := []
def VC_num (rr : Unit) (l : List Int) (k : Nat) : Prop := True /\ True /\ True /\ True /\ True /\ (True /\ (k + 1 <= 1099511627776) /\ True) /\ (∀ r1 : Int × Unit, (pickP ((l.length : Nat) : Int) r1.1) -> (0 <= r1.1 /\ r1.1 < ((l.length : Nat) : Int)) /\ True /\ True /\ ((l.getD r1.1.toNat (0 : Int)) ∈ l) /\ True /\ True /\ True /\ True /\ (k + 1 <= k + 1))
theorem vcn_num (rr : Unit) (l : List Int) (k : Nat) (hp : 0 < l.length /\ l.length <= 1000) (hk : k + (1) <= 1099511627776) : VC_num rr l k := by
 unfold VC_num
 simp only [cln, Nat.reduceEqDiff, Nat.reduceLeDiff, Nat.reduceAdd]
 all_goals (try simp only [opn])
 all_goals (repeat' (first | apply And.intro | intro _))
 all_goals (first | omega | (simp_all; done) | grind [getD_mem, pickP])
theorem ok_num : FnOk Try.prog E 72 c_num :=
 fn_okQ (l := L_num) (lp := P_num) (hp := fun _ => false) (gcs := fun _ => none) (perm := fun _ => []) tabOk mix ⟨ok_pick, trivial⟩ trivial Try.func72 rfl (by kernel_rfl) (by decide) (by kernel_rfl) (anns := fun x _ => fun _ _ => none) (fun ⟨rr, l, _⟩ k hp hk => Eq.mp (by kernel_rfl) (vcn_num rr l k hp (hk rfl))) (fun ⟨_, l, _⟩ hp => ⟨(l.getD 0 0, ()), getD_mem hp.1⟩)
abbrev c_l3Star : Con := ⟨[.asn, .asn], [.asn], fun (a, b, _) => a.facts.length <= 1048576 /\ a.atoms.length <= 1048576 /\ b.facts.length <= 1048576 /\ b.atoms.length <= 1048576, .inl fun (a, b, _) => (⟨a.facts ++ b.facts, a.atoms ++ b.atoms⟩, ()), fun _ => 0⟩
abbrev L_l3Star : List (FuncId × Con) := []
abbrev P_l3Star : List (FuncId × PT) := []
def VC_l3Star (a : GAsn) (b : GAsn) (k : Nat) : Prop := TN /\ TN /\ (TN /\ TN /\ TN /\ True) /\ (TN /\ True) /\ True /\ True /\ (TN /\ TF /\ TF /\ (([] : List GFact).length + a.facts.length <= 4294967296)) /\ True /\ True /\ (TN /\ TF /\ TF /\ ((([] : List GFact) ++ a.facts).length + b.facts.length <= 4294967296)) /\ (TN /\ True) /\ True /\ True /\ (TN /\ TF /\ TF /\ (([] : List GAtom).length + a.atoms.length <= 4294967296)) /\ True /\ True /\ (TN /\ TF /\ TF /\ ((([] : List GAtom) ++ a.atoms).length + b.atoms.length <= 4294967296)) /\ (TN /\ TN /\ True) /\ (TF /\ TF) /\ ((((⟨(([] : List GFact) ++ a.facts) ++ b.facts, (([] : List GAtom) ++ a.atoms) ++ b.atoms⟩ : GAsn), ()) : GAsn × Unit) = (⟨a.facts ++ b.facts, a.atoms ++ b.atoms⟩, ())) /\ ((((176 : Nat) ≠ 288) /\ True) /\ True /\ True) /\ ((TF /\ TF) /\ (TF /\ TF) /\ True) /\ True /\ (True /\ True /\ True) /\ TF
theorem vcn_l3Star (a : GAsn) (b : GAsn) (k : Nat) (hp : a.facts.length <= 1048576 /\ a.atoms.length <= 1048576 /\ b.facts.length <= 1048576 /\ b.atoms.length <= 1048576) : VC_l3Star a b k := by
 unfold VC_l3Star
 simp only [cln, Nat.reduceEqDiff, Nat.reduceLeDiff, Nat.reduceAdd]
 all_goals (try simp only [opn])
 all_goals (repeat' (first | apply And.intro | intro _))
 all_goals (first | omega | (simp_all; done) | grind [])
theorem ok_l3Star : FnOk Try.prog E 87 c_l3Star :=
 fn_okQ (l := L_l3Star) (lp := P_l3Star) (hp := fun _ => false) (gcs := fun _ => none) (perm := fun _ => []) tabOk mix trivial trivial Try.func87 rfl (by kernel_rfl) (by decide) (by kernel_rfl) (anns := fun x _ => fun _ _ => none) (fun ⟨a, b, _⟩ k hp _ => Eq.mp (by kernel_rfl) (vcn_l3Star a b k hp)) tot_fn
abbrev c_l3Copy : Con := ⟨[.asn], [.asn], fun (a, _) => a.facts.length <= 1048576 /\ a.atoms.length <= 1048576, .inl fun (a, _) => (a, ()), fun _ => 0⟩
abbrev L_l3Copy : List (FuncId × Con) := [(87, c_l3Star)]
abbrev P_l3Copy : List (FuncId × PT) := []
def VC_l3Copy (a : GAsn) (k : Nat) : Prop := TN /\ (TN /\ TN /\ TN /\ True) /\ True /\ (TN /\ TN /\ True) /\ ((a.facts.length <= 1048576 /\ a.atoms.length <= 1048576 /\ (⟨([] : List GFact), ([] : List GAtom)⟩ : GAsn).facts.length <= 1048576 /\ (⟨([] : List GFact), ([] : List GAtom)⟩ : GAsn).atoms.length <= 1048576) /\ True /\ TN /\ TN /\ True) /\ (TF /\ TF) /\ ((((⟨(a.facts ++ (⟨([] : List GFact), ([] : List GAtom)⟩ : GAsn).facts), (a.atoms ++ (⟨([] : List GFact), ([] : List GAtom)⟩ : GAsn).atoms)⟩ : GAsn), ()) : GAsn × Unit) = (a, ())) /\ ((((80 : Nat) ≠ 81) /\ True) /\ True /\ True) /\ ((TF /\ TF) /\ (TF /\ TF) /\ True) /\ True /\ (True /\ True /\ True) /\ TF
theorem vcn_l3Copy (a : GAsn) (k : Nat) (hp : a.facts.length <= 1048576 /\ a.atoms.length <= 1048576) : VC_l3Copy a k := by
 unfold VC_l3Copy
 simp only [cln, Nat.reduceEqDiff, Nat.reduceLeDiff, Nat.reduceAdd]
 all_goals (try simp only [opn])
 all_goals (repeat' (first | apply And.intro | intro _))
 all_goals (first | omega | (simp_all; done) | grind [])
theorem ok_l3Copy : FnOk Try.prog E 95 c_l3Copy :=
 fn_okQ (l := L_l3Copy) (lp := P_l3Copy) (hp := fun _ => false) (gcs := fun _ => none) (perm := fun _ => []) tabOk mix ⟨ok_l3Star, trivial⟩ trivial Try.func95 rfl (by kernel_rfl) (by decide) (by kernel_rfl) (anns := fun x _ => fun _ _ => none) (fun ⟨a, _⟩ k hp _ => Eq.mp (by kernel_rfl) (vcn_l3Copy a k hp)) tot_fn
abbrev c_l1Mutate : Con := ⟨[.rdr, .sl .fact], [.sl .fact], fun (rr, l, _) => l.length <= 1048576, .inr fun (rr, l, _) r => r.1.length <= l.length + 13, fun (rr, l, _) => 2⟩
abbrev L_l1Mutate : List (FuncId × Con) := [(51, c_pick), (72, c_num)]
def an_l1Mutate (rr : Unit) (l : List GFact) : Nat -> Option Ann
 | 6 => some { α := Nat, ok := fun i => i = 0 ∨ l.length + i <= 13, mu := fun i => 20 - i, i0 := fun _ => 0, nx := fun a _ => (fun i => i + 1) a, live := [], sets := fun i => [], mids := [], blks := fun i => [], owns := fun i => [⟨7, .slot 5, .fact, l ++ List.replicate i ⟨true, 1, 2⟩⟩], rd := fun r _ => r, base := 100000 }
 | _ => none
theorem vc_l1Mutate (rr : Unit) (l : List GFact) (k : Nat) (hp : l.length <= 1048576) (hk : k + (2) <= 1099511627776) : vc tab (lookF L_l1Mutate) (an_l1Mutate rr l) (fun _ => []) (bodyOf Try.f97) (entry (encs c_l1Mutate.aks (rr, l, ())) (rdOf true k)) (retOk tab c_l1Mutate Try.f97.results.toList (rr, l, ()) k) := by
 dsimp only [bodyOf, Try.f97, rdOf]
 simp (maxSteps := 10000000) only [c_l1Mutate, L_l1Mutate, an_l1Mutate, SE.lookF, c_pick, c_num, tab2, tab3, tab4, tab5, tab7, tab9, tab12, tab13, tab21, tab22, tab23, tab24, tab25, tab26, tab29, tab30, tab31, tab38, tab39, tab40, tab41, tab65, tab66, tab67, tab68, tab71, tab77, tab78, tab93, tab94, tab104, tab105, tab110, tab111, tab112, tab119, tab121, tab130, tab139, tab141, tab149, tab151, tab156, tab157, tab158, SE.entry, SE.envOf, SE.rdOf, Option.get_some, SE.vc, SE.vcReg, SE.vcLoop, SE.condK, SE.seqK, SE.blockK, SE.vcOps, SE.vcStep, SE.vcOp, SE.vcTr, SE.vcDet_some, SE.vcDet_none, SE.vcIf_true, SE.vcIf_false, SE.vcEach, SE.pickOps, SE.gslot, SE.trOp, SE.moveId, SE.trMove, SE.trPick, SE.trAlloc, SE.trBox, SE.trBuild, SE.trBuildSlice, SE.trLoad, SE.trStore, SE.trNilCheck, SE.trBin, SE.trUn, SE.trConvert, SE.trFieldAddr, SE.trField, SE.trIndexAddr, SE.trIndex, SE.trSlice, SE.trMakeSlice, SE.trExtract, SE.trLen, SE.trAppend, SE.trCopy, SE.trFn, SE.trCall, SE.argsS, SE.ev, SE.constS, SE.junk, SE.sv, SE.upd_app, SE.adds, SE.sets, SE.nid, SE.St.app, SE.St.put, SE.free, SE.freeL, SE.allFree, SE.rids, SE.AK.rids, SE.castL, SE.rdl, SE.AK.dec, SE.decs, SE.AK.enc, SE.encs, SE.AK.res, SE.ress, SE.pack1, SE.zcells, SE.zeroOf, SE.partCells, SE.putc, SE.fills, SE.datas, SE.elemOf, SE.elemsOf, SE.notSpent, SE.cellsAt, SE.weak, SE.dcellsAt, SE.slAt, SE.rdPlus, SE.intAt, SE.updElem, SE.kill, SE.noJunk, SE.inK, SE.binI, SE.shf, SE.isShift, SE.eqCells, SE.aggS, SE.intOp, SE.nested, SE.hasRdr, SE.refsC, SE.refsCs, SE.ownsC, SE.refsAr, SE.rdFits, SE.costIf, SE.Con.post, SE.Con.det, SE.Ty.cells, SE.Ty.sz, SE.Ty.zero, SE.Ty.flat, SE.Ty.dec, SE.retOk, SE.loadsS, SE.loadS, SE.decRs, SE.decR, SE.outC, SE.rdC, SE.allDiff, SE.notIn, SE.notFrozen, SE.apartL, SE.rdEnd, SE.firstReg, SE.headC, SE.fitsC, SE.idsC, SE.keepE, SE.keepM, SE.keepB, SE.inL, SE.puts, SE.ownRes, SE.ownEnv, SE.renL, SE.srcId, SE.lookR, SE.envSame, SE.envSets, SE.memSame, SE.memBlks, SE.memOwns, SE.famsOf, SE.allIn, SE.closedE, SE.closedV, SE.closedM, SE.closedR, SE.rdLe, SE.S.refs, SE.S0.refs, SE.CV.refs, SE.refsL, SE.refsT, SE.S.ren, SE.S0.ren, SE.CV.ren, SE.Res.refs, SE.Res.ren, min_i64, max_i64, min_u16, max_u16, min_u8, max_u8, min_u64, max_u64, S.s.injEq, S0.c.injEq, CV.d.injEq, DC.val.injEq, Value.int.injEq, Value.bool.injEq, Value.string.injEq, eta_fact, eta_atom, eta_asn, eta_state, List.mem_cons, List.mem_nil_iff, or_false, false_or, or_true, true_or, Option.map_some, Option.map_none, Option.bind_some, Option.getD_some, Option.getD_none, Nat.reduceEqDiff, Nat.reduceAdd, Nat.reduceMul, Nat.reduceLeDiff, ↓reduceIte, reduceCtorEq, true_and, and_true, and_self, forall_const, implies_true, true_implies, List.getElem?_toArray, List.getElem?_cons_succ, List.getElem?_cons_zero, List.append_nil, List.nil_append, List.cons_append, List.length_cons, List.length_nil, List.take_succ_cons, List.take_zero, List.drop_succ_cons, List.drop_zero, List.set_cons_zero, List.set_cons_succ, List.map_cons, List.map_nil, Nat.add_zero, Nat.zero_add, forall_eq, Prod.forall, Bool.not_true, Bool.not_false, Nat.lt_irrefl, Nat.zero_lt_succ, List.singleton_append, Prod.mk.injEq, Nat.zero_mul, Nat.one_mul, Nat.reducePow, Option.some.injEq, not_false_eq_true, Int.toNat_natCast, Nat.sub_zero, Nat.le_refl, Bool.or_false, Bool.false_or, Bool.or_true, Bool.true_or, Bool.and_true, Bool.true_and, Bool.and_false, Bool.false_and, Bool.or_self, Bool.and_self, List.append_eq, and_false, false_and]
 all_goals (try simp only [vcIf_iff, decide_eq_true_eq, decide_eq_false_iff_not, bne_iff_ne, ne_eq, beq_iff_eq, beq_eq_false_iff_ne, bne_eq_false_iff_eq, Bool.not_eq_true', Bool.not_eq_false', Int.ofNat_lt, Int.natCast_inj])
 all_goals (repeat' (first | apply And.intro | intro _))
 all_goals (first | omega | (simp_all; done) | grind [List.replicate_succ', List.append_assoc])
theorem ok_l1Mutate : FnOk Try.prog E 97 c_l1Mutate :=
 fn_ok (l := L_l1Mutate) (perm := fun _ => []) tabOk mix ⟨ok_pick, ok_num, trivial⟩ Try.func97 rfl (by kernel_rfl) (by decide) (by kernel_rfl) (anns := fun x _ => an_l1Mutate x.1 x.2.1) (fun ⟨rr, l, _⟩ k hp hk => vc_l1Mutate rr l k hp (hk rfl)) (fun ⟨_, l, _⟩ _ => ⟨(l, ()), Nat.le_add_right _ _⟩)
abbrev c_l3Mutate : Con := ⟨[.rdr, .asn], [.asn], fun (rr, a, _) => a.facts.length <= 100000 /\ a.atoms.length <= 100000, .inr fun (rr, a, _) r => r.1.facts.length <= a.facts.length + 14 /\ r.1.atoms.length <= a.atoms.length + 7, fun (rr, a, _) => 4⟩
abbrev L_l3Mutate : List (FuncId × Con) := [(51, c_pick), (72, c_num), (95, c_l3Copy), (97, c_l1Mutate)]
def an_l3Mutate (rr : Unit) (a : GAsn) : Nat -> Option Ann
 | 8 => some { α := Nat, ok := fun i => i = 0 ∨ a.atoms.length + i <= 7, mu := fun i => 20 - i, i0 := fun _ => 0, nx := fun a _ => (fun i => i + 1) a, live := [4, 5], sets := fun i => [], mids := [79, 64, 65], blks := fun i => [(95, .blk [.own 7, .own 8])], owns := fun i => [⟨7, .cell 95 0, .fact, a.facts⟩, ⟨8, .cell 95 1, .atom, a.atoms ++ List.replicate i ⟨2, 1, 1⟩⟩], rd := fun r _ => r, base := 100000 }
 | _ => none
theorem vc_l3Mutate (rr : Unit) (a : GAsn) (k : Nat) (hp : a.facts.length <= 100000 /\ a.atoms.length <= 100000) (hk : k + (4) <= 1099511627776) : vc tab (lookF L_l3Mutate) (an_l3Mutate rr a) (fun _ => []) (bodyOf Try.f52) (entry (encs c_l3Mutate.aks (rr, a, ())) (rdOf true k)) (retOk tab c_l3Mutate Try.f52.results.toList (rr, a, ()) k) := by
 dsimp only [bodyOf, Try.f52, rdOf]
 simp (maxSteps := 10000000) only [c_l3Mutate, L_l3Mutate, an_l3Mutate, SE.lookF, c_pick, c_num, c_l3Copy, c_l1Mutate, tab2, tab3, tab4, tab5, tab7, tab9, tab12, tab13, tab21, tab22, tab23, tab24, tab25, tab26, tab29, tab30, tab31, tab38, tab39, tab40, tab41, tab65, tab66, tab67, tab68, tab71, tab77, tab78, tab93, tab94, tab104, tab105, tab110, tab111, tab112, tab119, tab121, tab130, tab139, tab141, tab149, tab151, tab156, tab157, tab158, SE.entry, SE.envOf, SE.rdOf, Option.get_some, SE.vc, SE.vcReg, SE.vcLoop, SE.condK, SE.seqK, SE.blockK, SE.vcOps, SE.vcStep, SE.vcOp, SE.vcTr, SE.vcDet_some, SE.vcDet_none, SE.vcIf_true, SE.vcIf_false, SE.vcEach, SE.pickOps, SE.gslot, SE.trOp, SE.moveId, SE.trMove, SE.trPick, SE.trAlloc, SE.trBox, SE.trBuild, SE.trBuildSlice, SE.trLoad, SE.trStore, SE.trNilCheck, SE.trBin, SE.trUn, SE.trConvert, SE.trFieldAddr, SE.trField, SE.trIndexAddr, SE.trIndex, SE.trSlice, SE.trMakeSlice, SE.trExtract, SE.trLen, SE.trAppend, SE.trCopy, SE.trFn, SE.trCall, SE.argsS, SE.ev, SE.constS, SE.junk, SE.sv, SE.upd_app, SE.adds, SE.sets, SE.nid, SE.St.app, SE.St.put, SE.free, SE.freeL, SE.allFree, SE.rids, SE.AK.rids, SE.castL, SE.rdl, SE.AK.dec, SE.decs, SE.AK.enc, SE.encs, SE.AK.res, SE.ress, SE.pack1, SE.zcells, SE.zeroOf, SE.partCells, SE.putc, SE.fills, SE.datas, SE.elemOf, SE.elemsOf, SE.notSpent, SE.cellsAt, SE.weak, SE.dcellsAt, SE.slAt, SE.rdPlus, SE.intAt, SE.updElem, SE.kill, SE.noJunk, SE.inK, SE.binI, SE.shf, SE.isShift, SE.eqCells, SE.aggS, SE.intOp, SE.nested, SE.hasRdr, SE.refsC, SE.refsCs, SE.ownsC, SE.refsAr, SE.rdFits, SE.costIf, SE.Con.post, SE.Con.det, SE.Ty.cells, SE.Ty.sz, SE.Ty.zero, SE.Ty.flat, SE.Ty.dec, SE.retOk, SE.loadsS, SE.loadS, SE.decRs, SE.decR, SE.outC, SE.rdC, SE.allDiff, SE.notIn, SE.notFrozen, SE.apartL, SE.rdEnd, SE.firstReg, SE.headC, SE.fitsC, SE.idsC, SE.keepE, SE.keepM, SE.keepB, SE.inL, SE.puts, SE.ownRes, SE.ownEnv, SE.renL, SE.srcId, SE.lookR, SE.envSame, SE.envSets, SE.memSame, SE.memBlks, SE.memOwns, SE.famsOf, SE.allIn, SE.closedE, SE.closedV, SE.closedM, SE.closedR, SE.rdLe, SE.S.refs, SE.S0.refs, SE.CV.refs, SE.refsL, SE.refsT, SE.S.ren, SE.S0.ren, SE.CV.ren, SE.Res.refs, SE.Res.ren, min_i64, max_i64, min_u16, max_u16, min_u8, max_u8, min_u64, max_u64, S.s.injEq, S0.c.injEq, CV.d.injEq, DC.val.injEq, Value.int.injEq, Value.bool.injEq, Value.string.injEq, eta_fact, eta_atom, eta_asn, eta_state, List.mem_cons, List.mem_nil_iff, or_false, false_or, or_true, true_or, Option.map_some, Option.map_none, Option.bind_some, Option.getD_some, Option.getD_none, Nat.reduceEqDiff, Nat.reduceAdd, Nat.reduceMul, Nat.reduceLeDiff, ↓reduceIte, reduceCtorEq, true_and, and_true, and_self, forall_const, implies_true, true_implies, List.getElem?_toArray, List.getElem?_cons_succ, List.getElem?_cons_zero, List.append_nil, List.nil_append, List.cons_append, List.length_cons, List.length_nil, List.take_succ_cons, List.take_zero, List.drop_succ_cons, List.drop_zero, List.set_cons_zero, List.set_cons_succ, List.map_cons, List.map_nil, Nat.add_zero, Nat.zero_add, forall_eq, Prod.forall, Bool.not_true, Bool.not_false, Nat.lt_irrefl, Nat.zero_lt_succ, List.singleton_append, Prod.mk.injEq, Nat.zero_mul, Nat.one_mul, Nat.reducePow, Option.some.injEq, not_false_eq_true, Int.toNat_natCast, Nat.sub_zero, Nat.le_refl, Bool.or_false, Bool.false_or, Bool.or_true, Bool.true_or, Bool.and_true, Bool.true_and, Bool.and_false, Bool.false_and, Bool.or_self, Bool.and_self, List.append_eq, and_false, false_and]
 all_goals (try simp only [vcIf_iff, decide_eq_true_eq, decide_eq_false_iff_not, bne_iff_ne, ne_eq, beq_iff_eq, beq_eq_false_iff_ne, bne_eq_false_iff_eq, Bool.not_eq_true', Bool.not_eq_false', Int.ofNat_lt, Int.natCast_inj])
 all_goals (repeat' (first | apply And.intro | intro _))
 all_goals (first | omega | (simp_all; done) | grind [List.replicate_succ', List.append_assoc])
theorem ok_l3Mutate : FnOk Try.prog E 52 c_l3Mutate :=
 fn_ok (l := L_l3Mutate) (perm := fun _ => []) tabOk mix ⟨ok_pick, ok_num, ok_l3Copy, ok_l1Mutate, trivial⟩ Try.func52 rfl (by kernel_rfl) (by decide) (by kernel_rfl) (anns := fun x _ => an_l3Mutate x.1 x.2.1) (fun ⟨rr, a, _⟩ k hp hk => vc_l3Mutate rr a k hp (hk rfl)) (fun ⟨_, a, _⟩ _ => ⟨(a, ()), ⟨Nat.le_add_right _ _, Nat.le_add_right _ _⟩⟩)
end Go.Proofs.Ytopjgjelkpkmmaa
