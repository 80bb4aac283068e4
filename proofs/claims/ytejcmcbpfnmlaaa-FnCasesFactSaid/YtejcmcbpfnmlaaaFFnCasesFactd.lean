/-
  Contracts of single functions of the program, each shown by the engine: what a call returns for arguments within the contract's bounds.
-/
import Derived.Test.YtejcmcbpfnmlaaaFFnCasesFacta
import Derived.Test.YtejcmcbpfnmlaaaFFnCasesFactc
import Derived.Test.YtejcmcbpfnmlaaaEe
import Derived.Test.YtejcmcbpfnmlaaaEd
set_option linter.unusedSimpArgs false
set_option linter.unusedVariables false
set_option linter.unusedSectionVars false

namespace Go.Proofs.Ytejcmcbpfnmlaaa
open Go.SE Go.RowKit
set_option linter.unusedSimpArgs false
set_option linter.unusedVariables false
set_option maxHeartbeats 1000000
set_option maxRecDepth 100000
/-! iAssertionTerms -/
abbrev c_iAssertionTerms : Con := ⟨[.asn], [.sl .int], fun (a, _) => a.facts.length ≤ 281474976710656 ∧ a.atoms.length ≤ 281474976710656, .inl fun (a, _) => (terms a, ()), fun _ => 0⟩
abbrev L_iAssertionTerms : List (FuncId × Con) := [(19, c_iAssertionValid), (76, c_termsIn), (77, c_tsList)]
abbrev P_iAssertionTerms : List (FuncId × PT) := []
def VC_iAssertionTerms (a : GAsn) (k : Nat) : Prop := TN ∧ TN ∧ True ∧ ((a.facts.length ≤ 281474976710656 ∧ a.atoms.length ≤ 281474976710656) ∧ True ∧ True) ∧ True ∧ (vcIf (!(asV a)) (TN ∧ (((([] : List Int), ()) : (List Int) × Unit) = (terms a, ())) ∧ (True ∧ True) ∧ ((TF ∧ TF) ∧ True) ∧ True ∧ (True ∧ True) ∧ TF) (True ∧ ((a.facts.length ≤ 281474976710656 ∧ a.atoms.length ≤ 281474976710656) ∧ True ∧ True) ∧ ((0 ≤ (tsA a) ∧ (tsA a) < 512) ∧ True ∧ TN ∧ True) ∧ True ∧ ((((tsLk (tsA a) 9), ()) : (List Int) × Unit) = (terms a, ())) ∧ (True ∧ True) ∧ ((TF ∧ TF) ∧ True) ∧ True ∧ (True ∧ True) ∧ TF))
theorem vcn_iAssertionTerms (a : GAsn) (k : Nat) (hp : a.facts.length ≤ 281474976710656 ∧ a.atoms.length ≤ 281474976710656) : VC_iAssertionTerms a k := by
  unfold VC_iAssertionTerms
  simp only [cln, Nat.reduceEqDiff, Nat.reduceLeDiff, Nat.reduceAdd]
  have hA := tsA_bd a
  have hT := terms_eq a
  all_goals (try simp only [opn])
  all_goals (repeat' (first | apply And.intro | intro _))
  all_goals (first | omega | (simp_all; done) | grind [])
theorem vce_iAssertionTerms (a : GAsn) (k : Nat) : VC_iAssertionTerms a k = vcQ tab (lookF L_iAssertionTerms) (lookP P_iAssertionTerms) (fun _ => false) (fun _ => none) (fun _ _ => none) (fun _ => []) (bodyOf Try.f26) (entry (encs c_iAssertionTerms.aks (a, ())) (rdOf false k)) (retOk tab c_iAssertionTerms Try.f26.results.toList (a, ()) k) := by kernel_rfl
theorem ok_iAssertionTerms : FnOk Try.prog E 26 c_iAssertionTerms :=
  fn_okQ (l := L_iAssertionTerms) (lp := P_iAssertionTerms) (hp := fun _ => false) (gcs := fun _ => none) (perm := fun _ => []) tabOk mix ⟨ok_iAssertionValid, ok_termsIn, ok_tsList, trivial⟩ trivial Try.func26 rfl (by kernel_rfl) (by decide) (by kernel_rfl) (anns := fun x _ => fun _ _ => none) (fun ⟨a, _⟩ k hp _ => (vce_iAssertionTerms a k).mp (vcn_iAssertionTerms a k hp)) tot_fn
end Go.Proofs.Ytejcmcbpfnmlaaa

namespace Go.Proofs.Ytejcmcbpfnmlaaa
open Go.SE Go.RowKit
set_option linter.unusedSimpArgs false
set_option linter.unusedVariables false
set_option maxHeartbeats 1000000
set_option maxRecDepth 100000
/-! slHas -/
abbrev c_slHas : Con := ⟨[.sl .int, .int], [.bool], fun (l, n, _) => l.length ≤ 281474976710656, .inl fun (l, n, _) => (l.contains n, ()), fun _ => 0⟩
abbrev L_slHas : List (FuncId × Con) := []
abbrev P_slHas : List (FuncId × PT) := []
def an_slHas (l : List Int) (n : Int) : Nat → St → Option Ann
  | 2, se => some { α := Nat, ok := fun i => i ≤ l.length ∧ (l.take i).contains n = false, mu := fun i => l.length - i, i0 := fun _ => 0, nx := fun a _ => (fun i => i + 1) a, live := [0, 1], sets := fun i => [(5, sv (.int .i64 i))], mids := [], blks := fun i => [], owns := fun i => [], rd := fun r _ => r, base := 100000 }
  | _, _ => none
def VC_slHas (l : List Int) (n : Int) (k : Nat) : Prop := True ∧ True ∧ ((0 ≤ l.length ∧ (l.take 0).contains n = false) ∧ TT ∧ (RL [.s (.c (.d (.arr .int l))), .s (.c (.d (.val (.int .i64 n))))]) ∧ (([.s (.c (.d (.val (.int .i64 (0 : Int)))))] : List S) = [.s (.c (.d (.val (.int .i64 ((0 : Nat) : Int)))))]) ∧ (RM []) ∧ (RM []) ∧ True ∧ TT) ∧ (∀ i1 : Nat, (i1 ≤ l.length ∧ (l.take i1).contains n = false) → True ∧ True ∧ True ∧ True ∧ (vcIf (decide (((i1 : Nat) : Int) < ((l.length : Nat) : Int))) (True ∧ True ∧ (0 ≤ ((i1 : Nat) : Int) ∧ ((i1 : Nat) : Int) < ((l.length : Nat) : Int)) ∧ True ∧ True ∧ True ∧ (vcIf ((l.getD i1 (0 : Int)) == n) (True ∧ (((true, ()) : Bool × Unit) = (l.contains n, ())) ∧ True ∧ True ∧ True ∧ True ∧ TF) (True ∧ (inK .i64 (((i1 : Nat) : Int) + (1 : Int))) ∧ True ∧ ((i1 + 1) ≤ l.length ∧ (l.take (i1 + 1)).contains n = false) ∧ (l.length - (i1 + 1) < l.length - i1) ∧ TT ∧ (RL [.s (.c (.d (.arr .int l))), .s (.c (.d (.val (.int .i64 n))))]) ∧ (([.s (.c (.d (.val (.int .i64 (((i1 : Nat) : Int) + (1 : Int))))))] : List S) = [.s (.c (.d (.val (.int .i64 (((i1 + 1) : Nat) : Int)))))]) ∧ (RM []) ∧ (RM []) ∧ True ∧ TT))) (True ∧ (((false, ()) : Bool × Unit) = (l.contains n, ())) ∧ True ∧ True ∧ True ∧ True ∧ TF)))
theorem vcn_slHas (l : List Int) (n : Int) (k : Nat) (hp : l.length ≤ 281474976710656) : VC_slHas l n k := by
  unfold VC_slHas
  simp only [cln, Nat.reduceEqDiff, Nat.reduceLeDiff, Nat.reduceAdd]
  all_goals (try simp only [opn])
  all_goals (repeat' (first | apply And.intro | intro _))
  all_goals (first | omega | (simp_all; done) | grind [has_step, has_get, take_full])
theorem vce_slHas (l : List Int) (n : Int) (k : Nat) : VC_slHas l n k = vcQ tab (lookF L_slHas) (lookP P_slHas) (fun _ => false) (fun _ => none) (an_slHas l n) (fun _ => []) (bodyOf Try.f27) (entry (encs c_slHas.aks (l, n, ())) (rdOf false k)) (retOk tab c_slHas Try.f27.results.toList (l, n, ()) k) := by kernel_rfl
theorem ok_slHas : FnOk Try.prog E 27 c_slHas :=
  fn_okQ (l := L_slHas) (lp := P_slHas) (hp := fun _ => false) (gcs := fun _ => none) (perm := fun _ => []) tabOk mix trivial trivial Try.func27 rfl (by kernel_rfl) (by decide) (by kernel_rfl) (anns := fun x _ => an_slHas x.1 x.2.1) (fun ⟨l, n, _⟩ k hp _ => (vce_slHas l n k).mp (vcn_slHas l n k hp)) tot_fn
end Go.Proofs.Ytejcmcbpfnmlaaa

namespace Go.Proofs.Ytejcmcbpfnmlaaa
open Go.SE Go.RowKit
set_option linter.unusedSimpArgs false
set_option linter.unusedVariables false
set_option maxHeartbeats 1000000
set_option maxRecDepth 100000

/-! l18Open -/
theorem vc_l18Open (code : List UInt8) : vc tab (lookF []) (fun _ => none) (fun _ => []) (bodyOf Try.f79) (entry [.c (.d (.arr .u8 code))] none) openQ := by
  dsimp only [bodyOf, Try.f79]
  simp only [openQ, pickK, openE, openM, true_and, and_true, SE.lookF, tab2, tab3, tab4, tab5, tab7, tab9, tab12, tab13, tab21, tab22, tab23, tab24, tab25, tab26, tab27, tab28, tab39, tab42, tab46, tab47, tab65, tab66, tab67, tab68, tab79, tab80, tab84, tab85, tab90, tab91, tab94, tab111, tab140, tab141, tab157, tab159, tab160, tab161, tab162, tab182, tab194, SE.entry, SE.envOf, SE.rdOf, Option.get_some, SE.vc, SE.vcReg, SE.vcLoop, SE.condK, SE.seqK, SE.blockK, SE.vcOps, SE.vcStep, SE.vcOp, SE.vcTr, SE.vcDet_some, SE.vcDet_none, SE.vcIf_true, SE.vcIf_false, SE.vcEach, SE.pickOps, SE.gslot, SE.trOp, SE.moveId, SE.trMove, SE.trPick, SE.trAlloc, SE.trBox, SE.trBuild, SE.trBuildSlice, SE.trLoad, SE.trStore, SE.trNilCheck, SE.trBin, SE.trUn, SE.trConvert, SE.trFieldAddr, SE.trField, SE.trIndexAddr, SE.trIndex, SE.trSlice, SE.trMakeSlice, SE.trExtract, SE.trLen, SE.trAppend, SE.trCopy, SE.trFn, SE.trCall, SE.argsS, SE.ev, SE.constS, SE.junk, SE.sv, SE.upd_app, SE.adds, SE.sets, SE.nid, SE.St.app, SE.St.put, SE.free, SE.freeL, SE.allFree, SE.rids, SE.AK.rids, SE.castL, SE.rdl, SE.AK.dec, SE.decs, SE.AK.enc, SE.encs, SE.AK.res, SE.ress, SE.pack1, SE.zcells, SE.zeroOf, SE.partCells, SE.putc, SE.fills, SE.datas, SE.elemOf, SE.elemsOf, SE.notSpent, SE.cellsAt, SE.weak, SE.dcellsAt, SE.slAt, SE.rdPlus, SE.intAt, SE.updElem, SE.kill, SE.noJunk, SE.inK, SE.binI, SE.shf, SE.isShift, SE.eqCells, SE.aggS, SE.intOp, SE.nested, SE.hasRdr, SE.refsC, SE.refsCs, SE.ownsC, SE.refsAr, SE.rdFits, SE.costIf, SE.Con.post, SE.Con.det, SE.Ty.cells, SE.Ty.sz, SE.Ty.zero, SE.Ty.flat, SE.Ty.dec, SE.retOk, SE.loadsS, SE.loadS, SE.decRs, SE.decR, SE.outC, SE.rdC, SE.allDiff, SE.notIn, SE.notFrozen, SE.apartL, SE.rdEnd, SE.firstReg, SE.headC, SE.fitsC, SE.idsC, SE.keepE, SE.keepM, SE.keepB, SE.inL, SE.puts, SE.ownRes, SE.ownEnv, SE.renL, SE.srcId, SE.lookR, SE.envSame, SE.envSets, SE.memSame, SE.memBlks, SE.memOwns, SE.famsOf, SE.allIn, SE.closedE, SE.closedV, SE.closedM, SE.closedR, SE.rdLe, SE.S.refs, SE.S0.refs, SE.CV.refs, SE.refsL, SE.refsT, SE.S.ren, SE.S0.ren, SE.CV.ren, SE.Res.refs, SE.Res.ren, min_i64, max_i64, min_u16, max_u16, min_u8, max_u8, min_u64, max_u64, S.s.injEq, S0.c.injEq, CV.d.injEq, DC.val.injEq, Value.int.injEq, Value.bool.injEq, Value.string.injEq, eta_fact, eta_atom, eta_asn, eta_state, List.mem_cons, List.mem_nil_iff, or_false, false_or, or_true, true_or, Option.map_some, Option.map_none, Option.bind_some, Option.getD_some, Option.getD_none, Nat.reduceEqDiff, Nat.reduceAdd, Nat.reduceMul, Nat.reduceLeDiff, ↓reduceIte, reduceCtorEq, true_and, and_true, and_self, forall_const, implies_true, true_implies, List.getElem?_toArray, List.getElem?_cons_succ, List.getElem?_cons_zero, List.append_nil, List.nil_append, List.cons_append, List.length_cons, List.length_nil, List.take_succ_cons, List.take_zero, List.drop_succ_cons, List.drop_zero, List.set_cons_zero, List.set_cons_succ, List.map_cons, List.map_nil, Nat.add_zero, Nat.zero_add, forall_eq, Prod.forall, Bool.not_true, Bool.not_false, Nat.lt_irrefl, Nat.zero_lt_succ, List.singleton_append, Prod.mk.injEq, Nat.zero_mul, Nat.one_mul, Nat.reducePow, Option.some.injEq, not_false_eq_true, Int.toNat_natCast, Nat.sub_zero, Nat.le_refl, Bool.or_false, Bool.false_or, Bool.or_true, Bool.true_or, Bool.and_true, Bool.true_and, Bool.and_false, Bool.false_and, Bool.or_self, Bool.and_self, List.append_eq, and_false, false_and]
  all_goals (try simp only [vcIf_iff, decide_eq_true_eq, decide_eq_false_iff_not])
  all_goals (repeat' (first | apply And.intro | intro _))
  all_goals (first | omega | (simp_all; done) | grind)
theorem open_l18Open : OpenOk Try.prog 79 :=
  open_ok tabOk mix (perm := fun _ => []) Try.func79 (by kernel_rfl) (by kernel_rfl) (by decide) (by kernel_rfl) vc_l18Open
theorem fn_l18Open : ∃ fn c, Try.prog.funcs[79]? = some fn ∧ (fn.name == "runtime.NumGoroutine") = false ∧ fn.body = some c := ⟨_, _, Try.func79, by kernel_rfl, rfl⟩

end Go.Proofs.Ytejcmcbpfnmlaaa

namespace Go.Proofs.Ytejcmcbpfnmlaaa
open Go.SE Go.RowKit
set_option linter.unusedSimpArgs false
set_option linter.unusedVariables false
set_option maxHeartbeats 1000000
set_option maxRecDepth 100000

/-! pick -/
abbrev c_pick : Con := ⟨[.rdr, .int], [.int], fun _ => True, .inr fun (_, n, _) (r, _) => pickP n r, fun _ => 1⟩
theorem vc_pick (code : List UInt8) (v : Value) (p n : Int) (k : Nat) (h1 : code.length ≤ 2000) (h2 : 0 ≤ p) (h3 : p ≤ k) (h4 : k + 1 ≤ rdLimit) : vc tab (lookF []) (fun _ => none) (fun _ => []) (bodyOf Try.f82) (pickSt code v p n) (pickQ code v p n) := by
  have h5 : p ≤ 1099511627776 := by have : k + 1 ≤ 1099511627776 := h4; omega
  dsimp only [bodyOf, Try.f82, rdOf]
  simp only [pickSt, pickQ, pickK, pickM, pickR, pickP, true_and, and_true, SE.lookF, tab2, tab3, tab4, tab5, tab7, tab9, tab12, tab13, tab21, tab22, tab23, tab24, tab25, tab26, tab27, tab28, tab39, tab42, tab46, tab47, tab65, tab66, tab67, tab68, tab79, tab80, tab84, tab85, tab90, tab91, tab94, tab111, tab140, tab141, tab157, tab159, tab160, tab161, tab162, tab182, tab194, SE.entry, SE.envOf, SE.rdOf, Option.get_some, SE.vc, SE.vcReg, SE.vcLoop, SE.condK, SE.seqK, SE.blockK, SE.vcOps, SE.vcStep, SE.vcOp, SE.vcTr, SE.vcDet_some, SE.vcDet_none, SE.vcIf_true, SE.vcIf_false, SE.vcEach, SE.pickOps, SE.gslot, SE.trOp, SE.moveId, SE.trMove, SE.trPick, SE.trAlloc, SE.trBox, SE.trBuild, SE.trBuildSlice, SE.trLoad, SE.trStore, SE.trNilCheck, SE.trBin, SE.trUn, SE.trConvert, SE.trFieldAddr, SE.trField, SE.trIndexAddr, SE.trIndex, SE.trSlice, SE.trMakeSlice, SE.trExtract, SE.trLen, SE.trAppend, SE.trCopy, SE.trFn, SE.trCall, SE.argsS, SE.ev, SE.constS, SE.junk, SE.sv, SE.upd_app, SE.adds, SE.sets, SE.nid, SE.St.app, SE.St.put, SE.free, SE.freeL, SE.allFree, SE.rids, SE.AK.rids, SE.castL, SE.rdl, SE.AK.dec, SE.decs, SE.AK.enc, SE.encs, SE.AK.res, SE.ress, SE.pack1, SE.zcells, SE.zeroOf, SE.partCells, SE.putc, SE.fills, SE.datas, SE.elemOf, SE.elemsOf, SE.notSpent, SE.cellsAt, SE.weak, SE.dcellsAt, SE.slAt, SE.rdPlus, SE.intAt, SE.updElem, SE.kill, SE.noJunk, SE.inK, SE.binI, SE.shf, SE.isShift, SE.eqCells, SE.aggS, SE.intOp, SE.nested, SE.hasRdr, SE.refsC, SE.refsCs, SE.ownsC, SE.refsAr, SE.rdFits, SE.costIf, SE.Con.post, SE.Con.det, SE.Ty.cells, SE.Ty.sz, SE.Ty.zero, SE.Ty.flat, SE.Ty.dec, SE.retOk, SE.loadsS, SE.loadS, SE.decRs, SE.decR, SE.outC, SE.rdC, SE.allDiff, SE.notIn, SE.notFrozen, SE.apartL, SE.rdEnd, SE.firstReg, SE.headC, SE.fitsC, SE.idsC, SE.keepE, SE.keepM, SE.keepB, SE.inL, SE.puts, SE.ownRes, SE.ownEnv, SE.renL, SE.srcId, SE.lookR, SE.envSame, SE.envSets, SE.memSame, SE.memBlks, SE.memOwns, SE.famsOf, SE.allIn, SE.closedE, SE.closedV, SE.closedM, SE.closedR, SE.rdLe, SE.S.refs, SE.S0.refs, SE.CV.refs, SE.refsL, SE.refsT, SE.S.ren, SE.S0.ren, SE.CV.ren, SE.Res.refs, SE.Res.ren, min_i64, max_i64, min_u16, max_u16, min_u8, max_u8, min_u64, max_u64, S.s.injEq, S0.c.injEq, CV.d.injEq, DC.val.injEq, Value.int.injEq, Value.bool.injEq, Value.string.injEq, eta_fact, eta_atom, eta_asn, eta_state, List.mem_cons, List.mem_nil_iff, or_false, false_or, or_true, true_or, Option.map_some, Option.map_none, Option.bind_some, Option.getD_some, Option.getD_none, Nat.reduceEqDiff, Nat.reduceAdd, Nat.reduceMul, Nat.reduceLeDiff, ↓reduceIte, reduceCtorEq, true_and, and_true, and_self, forall_const, implies_true, true_implies, List.getElem?_toArray, List.getElem?_cons_succ, List.getElem?_cons_zero, List.append_nil, List.nil_append, List.cons_append, List.length_cons, List.length_nil, List.take_succ_cons, List.take_zero, List.drop_succ_cons, List.drop_zero, List.set_cons_zero, List.set_cons_succ, List.map_cons, List.map_nil, Nat.add_zero, Nat.zero_add, forall_eq, Prod.forall, Bool.not_true, Bool.not_false, Nat.lt_irrefl, Nat.zero_lt_succ, List.singleton_append, Prod.mk.injEq, Nat.zero_mul, Nat.one_mul, Nat.reducePow, Option.some.injEq, not_false_eq_true, Int.toNat_natCast, Nat.sub_zero, Nat.le_refl, Bool.or_false, Bool.false_or, Bool.or_true, Bool.true_or, Bool.and_true, Bool.true_and, Bool.and_false, Bool.false_and, Bool.or_self, Bool.and_self, List.append_eq, and_false, false_and]
  all_goals (try simp only [vcIf_iff, decide_eq_true_eq, decide_eq_false_iff_not, bne_iff_ne, ne_eq, beq_iff_eq, beq_eq_false_iff_ne])
  have hq : p + 1 - 1 = p := by omega
  simp only [hq]
  have hA := byte_bd code
  generalize hL : (code.length : Int) = L at *
  have hL0 : 0 ≤ L := by omega
  have hm : ∀ x : Int, 0 ≤ x → ¬ L = 0 → 0 ≤ x.tmod L ∧ x.tmod L < L := fun x h0 h1 => tmod_bd h0 (by omega)
  refine ⟨by omega, fun _ _ => by omega, fun hn => ⟨fun _ _ => by omega, fun hl => ⟨by omega, fun hpl => ?_, fun hpl => ?_⟩⟩⟩
  · have a1 := hA p.toNat
    have m1 := tmod_bd (n := n) a1.1 (by omega)
    generalize ((code.getD p.toNat 0).toNat : Int) = A at *
    exact ⟨by omega, by omega, by omega, fun _ => m1, fun h => by omega⟩
  · have m1 := hm p h2 hl
    have m2 := hm (p * 7 + 3) (by omega) hl
    have a1 := hA (p.tmod L).toNat
    have a2 := hA ((p * 7 + 3).tmod L).toNat
    have d1 := tdiv_bd (x := p) (n := L) h2 (by omega)
    generalize ((code.getD (p.tmod L).toNat 0).toNat : Int) = A at *
    generalize ((code.getD ((p * 7 + 3).tmod L).toNat 0).toNat : Int) = B at *
    generalize p.tdiv L = D at *
    have d2 := tdiv_bd (x := A * 131 + B * 1117 + p * 29 + D * 53) (n := 64) (by omega) (by omega)
    have x1 := xor_i64_pos (a := A * 131 + B * 1117 + p * 29 + D * 53) (b := (A * 131 + B * 1117 + p * 29 + D * 53).tdiv 64) (by omega) (by omega) d2.1 (by omega)
    have m3 := tmod_bd (n := n) x1 (by omega)
    repeat' (first | apply And.intro | intro _)
    all_goals (first | assumption | omega | exact m3.1 | exact m3.2)
theorem ok_pick : FnOk Try.prog E 82 c_pick :=
  pick_ok tabOk mix (perm := fun _ => []) Try.func82 (by kernel_rfl) (by decide) (by kernel_rfl) (by decide) (by kernel_rfl) (fun code v p n k h1 h2 h3 h4 => vc_pick code v p n k h1 h2 h3 h4)

end Go.Proofs.Ytejcmcbpfnmlaaa

namespace Go.Proofs.Ytejcmcbpfnmlaaa
open Go.SE Go.RowKit
set_option linter.unusedSimpArgs false
set_option linter.unusedVariables false
set_option maxHeartbeats 1000000
set_option maxRecDepth 100000
/-! num -/
abbrev c_num : Con := ⟨[.rdr, .sl .int], [.int], fun (rr, l, _) => 0 < l.length ∧ l.length ≤ 1000, .inr fun (rr, l, _) r => r.1 ∈ l, fun (rr, l, _) => 1⟩
abbrev L_num : List (FuncId × Con) := [(82, c_pick)]
abbrev P_num : List (FuncId × PT) := []
def VC_num (rr : Unit) (l : List Int) (k : Nat) : Prop := True ∧ True ∧ True ∧ True ∧ True ∧ (True ∧ (k + 1 ≤ 1099511627776) ∧ True) ∧ (∀ r1 : Int × Unit, (pickP ((l.length : Nat) : Int) r1.1) → (0 ≤ r1.1 ∧ r1.1 < ((l.length : Nat) : Int)) ∧ True ∧ True ∧ ((l.getD r1.1.toNat (0 : Int)) ∈ l) ∧ True ∧ True ∧ True ∧ True ∧ (k + 1 ≤ k + 1))
theorem vcn_num (rr : Unit) (l : List Int) (k : Nat) (hp : 0 < l.length ∧ l.length ≤ 1000) (hk : k + (1) ≤ 1099511627776) : VC_num rr l k := by
  unfold VC_num
  simp only [cln, Nat.reduceEqDiff, Nat.reduceLeDiff, Nat.reduceAdd]
  all_goals (try simp only [opn])
  all_goals (repeat' (first | apply And.intro | intro _))
  all_goals (first | omega | (simp_all; done) | grind [getD_mem, pickP])
theorem vce_num (rr : Unit) (l : List Int) (k : Nat) : VC_num rr l k = vcQ tab (lookF L_num) (lookP P_num) (fun _ => false) (fun _ => none) (fun _ _ => none) (fun _ => []) (bodyOf Try.f83) (entry (encs c_num.aks (rr, l, ())) (rdOf true k)) (retOk tab c_num Try.f83.results.toList (rr, l, ()) k) := by kernel_rfl
theorem ok_num : FnOk Try.prog E 83 c_num :=
  fn_okQ (l := L_num) (lp := P_num) (hp := fun _ => false) (gcs := fun _ => none) (perm := fun _ => []) tabOk mix ⟨ok_pick, trivial⟩ trivial Try.func83 rfl (by kernel_rfl) (by decide) (by kernel_rfl) (anns := fun x _ => fun _ _ => none) (fun ⟨rr, l, _⟩ k hp hk => (vce_num rr l k).mp (vcn_num rr l k hp (hk rfl))) (fun ⟨_, l, _⟩ hp => ⟨(l.getD 0 0, ()), getD_mem hp.1⟩)
end Go.Proofs.Ytejcmcbpfnmlaaa

namespace Go.Proofs.Ytejcmcbpfnmlaaa
open Go.SE Go.RowKit
set_option linter.unusedSimpArgs false
set_option linter.unusedVariables false
set_option maxHeartbeats 1000000
set_option maxRecDepth 100000
/-! l3Star -/
abbrev c_l3Star : Con := ⟨[.asn, .asn], [.asn], fun (a, b, _) => a.facts.length ≤ 1048576 ∧ a.atoms.length ≤ 1048576 ∧ b.facts.length ≤ 1048576 ∧ b.atoms.length ≤ 1048576, .inl fun (a, b, _) => (⟨a.facts ++ b.facts, a.atoms ++ b.atoms⟩, ()), fun _ => 0⟩
abbrev L_l3Star : List (FuncId × Con) := []
abbrev P_l3Star : List (FuncId × PT) := []
def VC_l3Star (a : GAsn) (b : GAsn) (k : Nat) : Prop := TN ∧ TN ∧ (TN ∧ TN ∧ TN ∧ True) ∧ (TN ∧ True) ∧ True ∧ True ∧ (TN ∧ TF ∧ TF ∧ (([] : List GFact).length + a.facts.length ≤ 4294967296)) ∧ True ∧ True ∧ (TN ∧ TF ∧ TF ∧ ((([] : List GFact) ++ a.facts).length + b.facts.length ≤ 4294967296)) ∧ (TN ∧ True) ∧ True ∧ True ∧ (TN ∧ TF ∧ TF ∧ (([] : List GAtom).length + a.atoms.length ≤ 4294967296)) ∧ True ∧ True ∧ (TN ∧ TF ∧ TF ∧ ((([] : List GAtom) ++ a.atoms).length + b.atoms.length ≤ 4294967296)) ∧ (TN ∧ TN ∧ True) ∧ (TF ∧ TF) ∧ ((((⟨(([] : List GFact) ++ a.facts) ++ b.facts, (([] : List GAtom) ++ a.atoms) ++ b.atoms⟩ : GAsn), ()) : GAsn × Unit) = (⟨a.facts ++ b.facts, a.atoms ++ b.atoms⟩, ())) ∧ ((((176 : Nat) ≠ 288) ∧ True) ∧ True ∧ True) ∧ ((TF ∧ TF) ∧ (TF ∧ TF) ∧ True) ∧ True ∧ (True ∧ True ∧ True) ∧ TF
theorem vcn_l3Star (a : GAsn) (b : GAsn) (k : Nat) (hp : a.facts.length ≤ 1048576 ∧ a.atoms.length ≤ 1048576 ∧ b.facts.length ≤ 1048576 ∧ b.atoms.length ≤ 1048576) : VC_l3Star a b k := by
  unfold VC_l3Star
  simp only [cln, Nat.reduceEqDiff, Nat.reduceLeDiff, Nat.reduceAdd]
  all_goals (try simp only [opn])
  all_goals (repeat' (first | apply And.intro | intro _))
  all_goals (first | omega | (simp_all; done) | grind [])
theorem vce_l3Star (a : GAsn) (b : GAsn) (k : Nat) : VC_l3Star a b k = vcQ tab (lookF L_l3Star) (lookP P_l3Star) (fun _ => false) (fun _ => none) (fun _ _ => none) (fun _ => []) (bodyOf Try.f122) (entry (encs c_l3Star.aks (a, b, ())) (rdOf false k)) (retOk tab c_l3Star Try.f122.results.toList (a, b, ()) k) := by kernel_rfl
theorem ok_l3Star : FnOk Try.prog E 122 c_l3Star :=
  fn_okQ (l := L_l3Star) (lp := P_l3Star) (hp := fun _ => false) (gcs := fun _ => none) (perm := fun _ => []) tabOk mix trivial trivial Try.func122 rfl (by kernel_rfl) (by decide) (by kernel_rfl) (anns := fun x _ => fun _ _ => none) (fun ⟨a, b, _⟩ k hp _ => (vce_l3Star a b k).mp (vcn_l3Star a b k hp)) tot_fn
end Go.Proofs.Ytejcmcbpfnmlaaa

namespace Go.Proofs.Ytejcmcbpfnmlaaa
open Go.SE Go.RowKit
set_option linter.unusedSimpArgs false
set_option linter.unusedVariables false
set_option maxHeartbeats 1000000
set_option maxRecDepth 100000
/-! l3Copy -/
abbrev c_l3Copy : Con := ⟨[.asn], [.asn], fun (a, _) => a.facts.length ≤ 1048576 ∧ a.atoms.length ≤ 1048576, .inl fun (a, _) => (a, ()), fun _ => 0⟩
abbrev L_l3Copy : List (FuncId × Con) := [(122, c_l3Star)]
abbrev P_l3Copy : List (FuncId × PT) := []
def VC_l3Copy (a : GAsn) (k : Nat) : Prop := TN ∧ (TN ∧ TN ∧ TN ∧ True) ∧ True ∧ (TN ∧ TN ∧ True) ∧ ((a.facts.length ≤ 1048576 ∧ a.atoms.length ≤ 1048576 ∧ (⟨([] : List GFact), ([] : List GAtom)⟩ : GAsn).facts.length ≤ 1048576 ∧ (⟨([] : List GFact), ([] : List GAtom)⟩ : GAsn).atoms.length ≤ 1048576) ∧ True ∧ TN ∧ TN ∧ True) ∧ (TF ∧ TF) ∧ ((((⟨(a.facts ++ (⟨([] : List GFact), ([] : List GAtom)⟩ : GAsn).facts), (a.atoms ++ (⟨([] : List GFact), ([] : List GAtom)⟩ : GAsn).atoms)⟩ : GAsn), ()) : GAsn × Unit) = (a, ())) ∧ ((((80 : Nat) ≠ 81) ∧ True) ∧ True ∧ True) ∧ ((TF ∧ TF) ∧ (TF ∧ TF) ∧ True) ∧ True ∧ (True ∧ True ∧ True) ∧ TF
theorem vcn_l3Copy (a : GAsn) (k : Nat) (hp : a.facts.length ≤ 1048576 ∧ a.atoms.length ≤ 1048576) : VC_l3Copy a k := by
  unfold VC_l3Copy
  simp only [cln, Nat.reduceEqDiff, Nat.reduceLeDiff, Nat.reduceAdd]
  all_goals (try simp only [opn])
  all_goals (repeat' (first | apply And.intro | intro _))
  all_goals (first | omega | (simp_all; done) | grind [])
theorem vce_l3Copy (a : GAsn) (k : Nat) : VC_l3Copy a k = vcQ tab (lookF L_l3Copy) (lookP P_l3Copy) (fun _ => false) (fun _ => none) (fun _ _ => none) (fun _ => []) (bodyOf Try.f130) (entry (encs c_l3Copy.aks (a, ())) (rdOf false k)) (retOk tab c_l3Copy Try.f130.results.toList (a, ()) k) := by kernel_rfl
theorem ok_l3Copy : FnOk Try.prog E 130 c_l3Copy :=
  fn_okQ (l := L_l3Copy) (lp := P_l3Copy) (hp := fun _ => false) (gcs := fun _ => none) (perm := fun _ => []) tabOk mix ⟨ok_l3Star, trivial⟩ trivial Try.func130 rfl (by kernel_rfl) (by decide) (by kernel_rfl) (anns := fun x _ => fun _ _ => none) (fun ⟨a, _⟩ k hp _ => (vce_l3Copy a k).mp (vcn_l3Copy a k hp)) tot_fn
end Go.Proofs.Ytejcmcbpfnmlaaa

namespace Go.Proofs.Ytejcmcbpfnmlaaa
open Go.SE Go.RowKit
set_option linter.unusedSimpArgs false
set_option linter.unusedVariables false
set_option maxHeartbeats 1000000
set_option maxRecDepth 100000
/-! l1Mutate -/
abbrev c_l1Mutate : Con := ⟨[.rdr, .sl .fact], [.sl .fact], fun (rr, l, _) => l.length ≤ 1048576, .inr fun (rr, l, _) r => r.1.length ≤ l.length + 13, fun (rr, l, _) => 2⟩
abbrev L_l1Mutate : List (FuncId × Con) := [(82, c_pick), (83, c_num)]
def an_l1Mutate (rr : Unit) (l : List GFact) : Nat → Option Ann
  | 6 => some { α := Nat, ok := fun i => i = 0 ∨ l.length + i ≤ 13, mu := fun i => 20 - i, i0 := fun _ => 0, nx := fun a _ => (fun i => i + 1) a, live := [], sets := fun i => [], mids := [], blks := fun i => [], owns := fun i => [⟨7, .slot 5, .fact, l ++ List.replicate i ⟨true, 1, 2⟩⟩], rd := fun r _ => r, base := 100000 }
  | _ => none
theorem vc_l1Mutate (rr : Unit) (l : List GFact) (k : Nat) (hp : l.length ≤ 1048576) (hk : k + (2) ≤ 1099511627776) : vc tab (lookF L_l1Mutate) (an_l1Mutate rr l) (fun _ => []) (bodyOf Try.f131) (entry (encs c_l1Mutate.aks (rr, l, ())) (rdOf true k)) (retOk tab c_l1Mutate Try.f131.results.toList (rr, l, ()) k) := by
  dsimp only [bodyOf, Try.f131, rdOf]
  simp (maxSteps := 10000000) only [c_l1Mutate, L_l1Mutate, an_l1Mutate, SE.lookF, c_pick, c_num, tab2, tab3, tab4, tab5, tab7, tab9, tab12, tab13, tab21, tab22, tab23, tab24, tab25, tab26, tab27, tab28, tab39, tab42, tab46, tab47, tab65, tab66, tab67, tab68, tab79, tab80, tab84, tab85, tab90, tab91, tab94, tab111, tab140, tab141, tab157, tab159, tab160, tab161, tab162, tab182, tab194, SE.entry, SE.envOf, SE.rdOf, Option.get_some, SE.vc, SE.vcReg, SE.vcLoop, SE.condK, SE.seqK, SE.blockK, SE.vcOps, SE.vcStep, SE.vcOp, SE.vcTr, SE.vcDet_some, SE.vcDet_none, SE.vcIf_true, SE.vcIf_false, SE.vcEach, SE.pickOps, SE.gslot, SE.trOp, SE.moveId, SE.trMove, SE.trPick, SE.trAlloc, SE.trBox, SE.trBuild, SE.trBuildSlice, SE.trLoad, SE.trStore, SE.trNilCheck, SE.trBin, SE.trUn, SE.trConvert, SE.trFieldAddr, SE.trField, SE.trIndexAddr, SE.trIndex, SE.trSlice, SE.trMakeSlice, SE.trExtract, SE.trLen, SE.trAppend, SE.trCopy, SE.trFn, SE.trCall, SE.argsS, SE.ev, SE.constS, SE.junk, SE.sv, SE.upd_app, SE.adds, SE.sets, SE.nid, SE.St.app, SE.St.put, SE.free, SE.freeL, SE.allFree, SE.rids, SE.AK.rids, SE.castL, SE.rdl, SE.AK.dec, SE.decs, SE.AK.enc, SE.encs, SE.AK.res, SE.ress, SE.pack1, SE.zcells, SE.zeroOf, SE.partCells, SE.putc, SE.fills, SE.datas, SE.elemOf, SE.elemsOf, SE.notSpent, SE.cellsAt, SE.weak, SE.dcellsAt, SE.slAt, SE.rdPlus, SE.intAt, SE.updElem, SE.kill, SE.noJunk, SE.inK, SE.binI, SE.shf, SE.isShift, SE.eqCells, SE.aggS, SE.intOp, SE.nested, SE.hasRdr, SE.refsC, SE.refsCs, SE.ownsC, SE.refsAr, SE.rdFits, SE.costIf, SE.Con.post, SE.Con.det, SE.Ty.cells, SE.Ty.sz, SE.Ty.zero, SE.Ty.flat, SE.Ty.dec, SE.retOk, SE.loadsS, SE.loadS, SE.decRs, SE.decR, SE.outC, SE.rdC, SE.allDiff, SE.notIn, SE.notFrozen, SE.apartL, SE.rdEnd, SE.firstReg, SE.headC, SE.fitsC, SE.idsC, SE.keepE, SE.keepM, SE.keepB, SE.inL, SE.puts, SE.ownRes, SE.ownEnv, SE.renL, SE.srcId, SE.lookR, SE.envSame, SE.envSets, SE.memSame, SE.memBlks, SE.memOwns, SE.famsOf, SE.allIn, SE.closedE, SE.closedV, SE.closedM, SE.closedR, SE.rdLe, SE.S.refs, SE.S0.refs, SE.CV.refs, SE.refsL, SE.refsT, SE.S.ren, SE.S0.ren, SE.CV.ren, SE.Res.refs, SE.Res.ren, min_i64, max_i64, min_u16, max_u16, min_u8, max_u8, min_u64, max_u64, S.s.injEq, S0.c.injEq, CV.d.injEq, DC.val.injEq, Value.int.injEq, Value.bool.injEq, Value.string.injEq, eta_fact, eta_atom, eta_asn, eta_state, List.mem_cons, List.mem_nil_iff, or_false, false_or, or_true, true_or, Option.map_some, Option.map_none, Option.bind_some, Option.getD_some, Option.getD_none, Nat.reduceEqDiff, Nat.reduceAdd, Nat.reduceMul, Nat.reduceLeDiff, ↓reduceIte, reduceCtorEq, true_and, and_true, and_self, forall_const, implies_true, true_implies, List.getElem?_toArray, List.getElem?_cons_succ, List.getElem?_cons_zero, List.append_nil, List.nil_append, List.cons_append, List.length_cons, List.length_nil, List.take_succ_cons, List.take_zero, List.drop_succ_cons, List.drop_zero, List.set_cons_zero, List.set_cons_succ, List.map_cons, List.map_nil, Nat.add_zero, Nat.zero_add, forall_eq, Prod.forall, Bool.not_true, Bool.not_false, Nat.lt_irrefl, Nat.zero_lt_succ, List.singleton_append, Prod.mk.injEq, Nat.zero_mul, Nat.one_mul, Nat.reducePow, Option.some.injEq, not_false_eq_true, Int.toNat_natCast, Nat.sub_zero, Nat.le_refl, Bool.or_false, Bool.false_or, Bool.or_true, Bool.true_or, Bool.and_true, Bool.true_and, Bool.and_false, Bool.false_and, Bool.or_self, Bool.and_self, List.append_eq, and_false, false_and]
  all_goals (try simp only [vcIf_iff, decide_eq_true_eq, decide_eq_false_iff_not, bne_iff_ne, ne_eq, beq_iff_eq, beq_eq_false_iff_ne, bne_eq_false_iff_eq, Bool.not_eq_true', Bool.not_eq_false', Int.ofNat_lt, Int.natCast_inj])
  all_goals (repeat' (first | apply And.intro | intro _))
  all_goals (first | omega | (simp_all; done) | grind [List.replicate_succ', List.append_assoc])
theorem ok_l1Mutate : FnOk Try.prog E 131 c_l1Mutate :=
  fn_ok (l := L_l1Mutate) (perm := fun _ => []) tabOk mix ⟨ok_pick, ok_num, trivial⟩ Try.func131 rfl (by kernel_rfl) (by decide) (by kernel_rfl) (anns := fun x _ => an_l1Mutate x.1 x.2.1) (fun ⟨rr, l, _⟩ k hp hk => vc_l1Mutate rr l k hp (hk rfl)) (fun ⟨_, l, _⟩ _ => ⟨(l, ()), Nat.le_add_right _ _⟩)
end Go.Proofs.Ytejcmcbpfnmlaaa

namespace Go.Proofs.Ytejcmcbpfnmlaaa
open Go.SE Go.RowKit
set_option linter.unusedSimpArgs false
set_option linter.unusedVariables false
set_option maxHeartbeats 1000000
set_option maxRecDepth 100000
/-! l3Mutate -/
abbrev c_l3Mutate : Con := ⟨[.rdr, .asn], [.asn], fun (rr, a, _) => a.facts.length ≤ 100000 ∧ a.atoms.length ≤ 100000, .inr fun (rr, a, _) r => r.1.facts.length ≤ a.facts.length + 14 ∧ r.1.atoms.length ≤ a.atoms.length + 7, fun (rr, a, _) => 4⟩
abbrev L_l3Mutate : List (FuncId × Con) := [(82, c_pick), (83, c_num), (130, c_l3Copy), (131, c_l1Mutate)]
def an_l3Mutate (rr : Unit) (a : GAsn) : Nat → Option Ann
  | 8 => some { α := Nat, ok := fun i => i = 0 ∨ a.atoms.length + i ≤ 7, mu := fun i => 20 - i, i0 := fun _ => 0, nx := fun a _ => (fun i => i + 1) a, live := [4, 5], sets := fun i => [], mids := [79, 64, 65], blks := fun i => [(95, .blk [.own 7, .own 8])], owns := fun i => [⟨7, .cell 95 0, .fact, a.facts⟩, ⟨8, .cell 95 1, .atom, a.atoms ++ List.replicate i ⟨2, 1, 1⟩⟩], rd := fun r _ => r, base := 100000 }
  | _ => none
theorem vc_l3Mutate (rr : Unit) (a : GAsn) (k : Nat) (hp : a.facts.length ≤ 100000 ∧ a.atoms.length ≤ 100000) (hk : k + (4) ≤ 1099511627776) : vc tab (lookF L_l3Mutate) (an_l3Mutate rr a) (fun _ => []) (bodyOf Try.f80) (entry (encs c_l3Mutate.aks (rr, a, ())) (rdOf true k)) (retOk tab c_l3Mutate Try.f80.results.toList (rr, a, ()) k) := by
  dsimp only [bodyOf, Try.f80, rdOf]
  simp (maxSteps := 10000000) only [c_l3Mutate, L_l3Mutate, an_l3Mutate, SE.lookF, c_pick, c_num, c_l3Copy, c_l1Mutate, tab2, tab3, tab4, tab5, tab7, tab9, tab12, tab13, tab21, tab22, tab23, tab24, tab25, tab26, tab27, tab28, tab39, tab42, tab46, tab47, tab65, tab66, tab67, tab68, tab79, tab80, tab84, tab85, tab90, tab91, tab94, tab111, tab140, tab141, tab157, tab159, tab160, tab161, tab162, tab182, tab194, SE.entry, SE.envOf, SE.rdOf, Option.get_some, SE.vc, SE.vcReg, SE.vcLoop, SE.condK, SE.seqK, SE.blockK, SE.vcOps, SE.vcStep, SE.vcOp, SE.vcTr, SE.vcDet_some, SE.vcDet_none, SE.vcIf_true, SE.vcIf_false, SE.vcEach, SE.pickOps, SE.gslot, SE.trOp, SE.moveId, SE.trMove, SE.trPick, SE.trAlloc, SE.trBox, SE.trBuild, SE.trBuildSlice, SE.trLoad, SE.trStore, SE.trNilCheck, SE.trBin, SE.trUn, SE.trConvert, SE.trFieldAddr, SE.trField, SE.trIndexAddr, SE.trIndex, SE.trSlice, SE.trMakeSlice, SE.trExtract, SE.trLen, SE.trAppend, SE.trCopy, SE.trFn, SE.trCall, SE.argsS, SE.ev, SE.constS, SE.junk, SE.sv, SE.upd_app, SE.adds, SE.sets, SE.nid, SE.St.app, SE.St.put, SE.free, SE.freeL, SE.allFree, SE.rids, SE.AK.rids, SE.castL, SE.rdl, SE.AK.dec, SE.decs, SE.AK.enc, SE.encs, SE.AK.res, SE.ress, SE.pack1, SE.zcells, SE.zeroOf, SE.partCells, SE.putc, SE.fills, SE.datas, SE.elemOf, SE.elemsOf, SE.notSpent, SE.cellsAt, SE.weak, SE.dcellsAt, SE.slAt, SE.rdPlus, SE.intAt, SE.updElem, SE.kill, SE.noJunk, SE.inK, SE.binI, SE.shf, SE.isShift, SE.eqCells, SE.aggS, SE.intOp, SE.nested, SE.hasRdr, SE.refsC, SE.refsCs, SE.ownsC, SE.refsAr, SE.rdFits, SE.costIf, SE.Con.post, SE.Con.det, SE.Ty.cells, SE.Ty.sz, SE.Ty.zero, SE.Ty.flat, SE.Ty.dec, SE.retOk, SE.loadsS, SE.loadS, SE.decRs, SE.decR, SE.outC, SE.rdC, SE.allDiff, SE.notIn, SE.notFrozen, SE.apartL, SE.rdEnd, SE.firstReg, SE.headC, SE.fitsC, SE.idsC, SE.keepE, SE.keepM, SE.keepB, SE.inL, SE.puts, SE.ownRes, SE.ownEnv, SE.renL, SE.srcId, SE.lookR, SE.envSame, SE.envSets, SE.memSame, SE.memBlks, SE.memOwns, SE.famsOf, SE.allIn, SE.closedE, SE.closedV, SE.closedM, SE.closedR, SE.rdLe, SE.S.refs, SE.S0.refs, SE.CV.refs, SE.refsL, SE.refsT, SE.S.ren, SE.S0.ren, SE.CV.ren, SE.Res.refs, SE.Res.ren, min_i64, max_i64, min_u16, max_u16, min_u8, max_u8, min_u64, max_u64, S.s.injEq, S0.c.injEq, CV.d.injEq, DC.val.injEq, Value.int.injEq, Value.bool.injEq, Value.string.injEq, eta_fact, eta_atom, eta_asn, eta_state, List.mem_cons, List.mem_nil_iff, or_false, false_or, or_true, true_or, Option.map_some, Option.map_none, Option.bind_some, Option.getD_some, Option.getD_none, Nat.reduceEqDiff, Nat.reduceAdd, Nat.reduceMul, Nat.reduceLeDiff, ↓reduceIte, reduceCtorEq, true_and, and_true, and_self, forall_const, implies_true, true_implies, List.getElem?_toArray, List.getElem?_cons_succ, List.getElem?_cons_zero, List.append_nil, List.nil_append, List.cons_append, List.length_cons, List.length_nil, List.take_succ_cons, List.take_zero, List.drop_succ_cons, List.drop_zero, List.set_cons_zero, List.set_cons_succ, List.map_cons, List.map_nil, Nat.add_zero, Nat.zero_add, forall_eq, Prod.forall, Bool.not_true, Bool.not_false, Nat.lt_irrefl, Nat.zero_lt_succ, List.singleton_append, Prod.mk.injEq, Nat.zero_mul, Nat.one_mul, Nat.reducePow, Option.some.injEq, not_false_eq_true, Int.toNat_natCast, Nat.sub_zero, Nat.le_refl, Bool.or_false, Bool.false_or, Bool.or_true, Bool.true_or, Bool.and_true, Bool.true_and, Bool.and_false, Bool.false_and, Bool.or_self, Bool.and_self, List.append_eq, and_false, false_and]
  all_goals (try simp only [vcIf_iff, decide_eq_true_eq, decide_eq_false_iff_not, bne_iff_ne, ne_eq, beq_iff_eq, beq_eq_false_iff_ne, bne_eq_false_iff_eq, Bool.not_eq_true', Bool.not_eq_false', Int.ofNat_lt, Int.natCast_inj])
  all_goals (repeat' (first | apply And.intro | intro _))
  all_goals (first | omega | (simp_all; done) | grind [List.replicate_succ', List.append_assoc])
theorem ok_l3Mutate : FnOk Try.prog E 80 c_l3Mutate :=
  fn_ok (l := L_l3Mutate) (perm := fun _ => []) tabOk mix ⟨ok_pick, ok_num, ok_l3Copy, ok_l1Mutate, trivial⟩ Try.func80 rfl (by kernel_rfl) (by decide) (by kernel_rfl) (anns := fun x _ => an_l3Mutate x.1 x.2.1) (fun ⟨rr, a, _⟩ k hp hk => vc_l3Mutate rr a k hp (hk rfl)) (fun ⟨_, a, _⟩ _ => ⟨(a, ()), ⟨Nat.le_add_right _ _, Nat.le_add_right _ _⟩⟩)
end Go.Proofs.Ytejcmcbpfnmlaaa

namespace Go.Proofs.Ytejcmcbpfnmlaaa
open Go.SE Go.RowKit
set_option linter.unusedSimpArgs false
set_option linter.unusedVariables false
set_option maxHeartbeats 1000000
set_option maxRecDepth 100000
/-! l3Point -/
abbrev c_l3Point : Con := ⟨[.rdr], [.atom], fun _ => True, .inr fun (rr, _) r => atV r.1 = true, fun (rr, _) => 3⟩
abbrev L_l3Point : List (FuncId × Con) := [(82, c_pick), (83, c_num)]
abbrev P_l3Point : List (FuncId × PT) := []
def VC_l3Point (rr : Unit) (k : Nat) : Prop := (TN ∧ True) ∧ True ∧ (TN ∧ True) ∧ ((0 < ([(1 : Int), (2 : Int), (3 : Int), (5 : Int), (4 : Int), (6 : Int)] : List Int).length ∧ ([(1 : Int), (2 : Int), (3 : Int), (5 : Int), (4 : Int), (6 : Int)] : List Int).length ≤ 1000) ∧ (k + 1 ≤ 1099511627776) ∧ True) ∧ (∀ r1 : Int × Unit, (r1.1 ∈ ([(1 : Int), (2 : Int), (3 : Int), (5 : Int), (4 : Int), (6 : Int)] : List Int)) → True ∧ (TN ∧ True) ∧ ((0 < ([(2 : Int), (0 : Int), (3 : Int), (1 : Int), (5 : Int), (0 : Int), (6 : Int)] : List Int).length ∧ ([(2 : Int), (0 : Int), (3 : Int), (1 : Int), (5 : Int), (0 : Int), (6 : Int)] : List Int).length ≤ 1000) ∧ (k + 1 + 1 ≤ 1099511627776) ∧ True) ∧ (∀ r2 : Int × Unit, (r2.1 ∈ ([(2 : Int), (0 : Int), (3 : Int), (1 : Int), (5 : Int), (0 : Int), (6 : Int)] : List Int)) → True ∧ (TN ∧ True) ∧ (TF ∧ TF) ∧ True ∧ (True ∧ (k + 1 + 1 + 1 ≤ 1099511627776) ∧ True) ∧ (∀ r3 : Int × Unit, (pickP (2 : Int) r3.1) → True ∧ (vcIf (r3.1 == (0 : Int)) (True ∧ (TF ∧ TF) ∧ True ∧ (TF ∧ TF) ∧ (atV (⟨(2 : Int), r1.1, r2.1⟩ : GAtom) = true) ∧ True ∧ True ∧ True ∧ True ∧ (k + 1 + 1 + 1 ≤ k + 3)) (True ∧ (TF ∧ TF) ∧ (atV (⟨(1 : Int), r1.1, r2.1⟩ : GAtom) = true) ∧ True ∧ True ∧ True ∧ True ∧ (k + 1 + 1 + 1 ≤ k + 3))))))
theorem vcn_l3Point (rr : Unit) (k : Nat) (hk : k + (3) ≤ 1099511627776) : VC_l3Point rr k := by
  unfold VC_l3Point
  simp only [cln, Nat.reduceEqDiff, Nat.reduceLeDiff, Nat.reduceAdd]
  all_goals (try simp only [opn])
  all_goals (repeat' (first | apply And.intro | intro _))
  all_goals (first | omega | grind (splits := 40) [atV, isT])
theorem vce_l3Point (rr : Unit) (k : Nat) : VC_l3Point rr k = vcQ tab (lookF L_l3Point) (lookP P_l3Point) (fun _ => false) (fun _ => none) (fun _ _ => none) (fun _ => []) (bodyOf Try.f132) (entry (encs c_l3Point.aks (rr, ())) (rdOf true k)) (retOk tab c_l3Point Try.f132.results.toList (rr, ()) k) := by kernel_rfl
theorem ok_l3Point : FnOk Try.prog E 132 c_l3Point :=
  fn_okQ (l := L_l3Point) (lp := P_l3Point) (hp := fun _ => false) (gcs := fun _ => none) (perm := fun _ => []) tabOk mix ⟨ok_pick, ok_num, trivial⟩ trivial Try.func132 rfl (by kernel_rfl) (by decide) (by kernel_rfl) (anns := fun x _ => fun _ _ => none) (fun ⟨rr, _⟩ k _ hk => (vce_l3Point rr k).mp (vcn_l3Point rr k (hk rfl))) (fun _ _ => ⟨((⟨1, 0, 0⟩ : GAtom), ()), rfl⟩)
end Go.Proofs.Ytejcmcbpfnmlaaa

namespace Go.Proofs.Ytejcmcbpfnmlaaa
open Go.SE Go.RowKit
set_option linter.unusedSimpArgs false
set_option linter.unusedVariables false
set_option maxHeartbeats 1000000
set_option maxRecDepth 100000
/-! l3Draw -/
abbrev c_l3Draw : Con := ⟨[.rdr], [.asn], fun _ => True, .inr fun (rr, _) r => asV r.1 = true, fun (rr, _) => 20⟩
abbrev L_l3Draw : List (FuncId × Con) := [(82, c_pick), (83, c_num), (132, c_l3Point)]
def an_l3Draw (rr : Unit) : Nat → Option Ann
  | 3 => some { α := Int × List GFact, ok := fun a => 0 ≤ a.1 ∧ a.1 + a.2.length ≤ 2 ∧ a.2.all fV = true, mu := fun a => a.1.toNat, i0 := fun st => (intAt st 4, []), nx := fun a st => (a.1 - 1, slAt .fact st (.cell 63 0)), live := [0, 2, 3], sets := fun a => [(4, sv (.int .i64 a.1))], mids := [47, 32, 33], blks := fun a => [(63, .blk [.own 7, .own 8])], owns := fun a => [⟨7, .cell 63 0, .fact, a.2⟩, ⟨8, .cell 63 1, .atom, []⟩], rd := fun r a => rdPlus r (3 * (2 - a.1.toNat)), base := 100000 }
  | 7 => some { α := Int × List GFact × List GAtom, ok := fun a => 0 ≤ a.1 ∧ a.1 + a.2.2.length ≤ 4 ∧ a.2.1.length ≤ 2 ∧ a.2.1.all fV = true ∧ a.2.2.all atV = true, mu := fun a => a.1.toNat, i0 := fun st => (intAt st 5, slAt .fact st (.cell 63 0), []), nx := fun a st => (a.1 - 1, a.2.1, slAt .atom st (.cell 63 1)), live := [0, 2, 3], sets := fun a => [(5, sv (.int .i64 a.1))], mids := [47, 32, 33], blks := fun a => [(63, .blk [.own 7, .own 8])], owns := fun a => [⟨7, .cell 63 0, .fact, a.2.1⟩, ⟨8, .cell 63 1, .atom, a.2.2⟩], rd := fun r a => rdPlus r (3 * (4 - a.1.toNat)), base := 200000 }
  | _ => none
theorem vc_l3Draw (rr : Unit) (k : Nat) (hk : k + (20) ≤ 1099511627776) : vc tab (lookF L_l3Draw) (an_l3Draw rr) (fun _ => []) (bodyOf Try.f81) (entry (encs c_l3Draw.aks (rr, ())) (rdOf true k)) (retOk tab c_l3Draw Try.f81.results.toList (rr, ()) k) := by
  dsimp only [bodyOf, Try.f81, rdOf]
  simp (maxSteps := 10000000) only [c_l3Draw, L_l3Draw, an_l3Draw, SE.lookF, c_pick, c_num, c_l3Point, tab2, tab3, tab4, tab5, tab7, tab9, tab12, tab13, tab21, tab22, tab23, tab24, tab25, tab26, tab27, tab28, tab39, tab42, tab46, tab47, tab65, tab66, tab67, tab68, tab79, tab80, tab84, tab85, tab90, tab91, tab94, tab111, tab140, tab141, tab157, tab159, tab160, tab161, tab162, tab182, tab194, SE.entry, SE.envOf, SE.rdOf, Option.get_some, SE.vc, SE.vcReg, SE.vcLoop, SE.condK, SE.seqK, SE.blockK, SE.vcOps, SE.vcStep, SE.vcOp, SE.vcTr, SE.vcDet_some, SE.vcDet_none, SE.vcIf_true, SE.vcIf_false, SE.vcEach, SE.pickOps, SE.gslot, SE.trOp, SE.moveId, SE.trMove, SE.trPick, SE.trAlloc, SE.trBox, SE.trBuild, SE.trBuildSlice, SE.trLoad, SE.trStore, SE.trNilCheck, SE.trBin, SE.trUn, SE.trConvert, SE.trFieldAddr, SE.trField, SE.trIndexAddr, SE.trIndex, SE.trSlice, SE.trMakeSlice, SE.trExtract, SE.trLen, SE.trAppend, SE.trCopy, SE.trFn, SE.trCall, SE.argsS, SE.ev, SE.constS, SE.junk, SE.sv, SE.upd_app, SE.adds, SE.sets, SE.nid, SE.St.app, SE.St.put, SE.free, SE.freeL, SE.allFree, SE.rids, SE.AK.rids, SE.castL, SE.rdl, SE.AK.dec, SE.decs, SE.AK.enc, SE.encs, SE.AK.res, SE.ress, SE.pack1, SE.zcells, SE.zeroOf, SE.partCells, SE.putc, SE.fills, SE.datas, SE.elemOf, SE.elemsOf, SE.notSpent, SE.cellsAt, SE.weak, SE.dcellsAt, SE.slAt, SE.rdPlus, SE.intAt, SE.updElem, SE.kill, SE.noJunk, SE.inK, SE.binI, SE.shf, SE.isShift, SE.eqCells, SE.aggS, SE.intOp, SE.nested, SE.hasRdr, SE.refsC, SE.refsCs, SE.ownsC, SE.refsAr, SE.rdFits, SE.costIf, SE.Con.post, SE.Con.det, SE.Ty.cells, SE.Ty.sz, SE.Ty.zero, SE.Ty.flat, SE.Ty.dec, SE.retOk, SE.loadsS, SE.loadS, SE.decRs, SE.decR, SE.outC, SE.rdC, SE.allDiff, SE.notIn, SE.notFrozen, SE.apartL, SE.rdEnd, SE.firstReg, SE.headC, SE.fitsC, SE.idsC, SE.keepE, SE.keepM, SE.keepB, SE.inL, SE.puts, SE.ownRes, SE.ownEnv, SE.renL, SE.srcId, SE.lookR, SE.envSame, SE.envSets, SE.memSame, SE.memBlks, SE.memOwns, SE.famsOf, SE.allIn, SE.closedE, SE.closedV, SE.closedM, SE.closedR, SE.rdLe, SE.S.refs, SE.S0.refs, SE.CV.refs, SE.refsL, SE.refsT, SE.S.ren, SE.S0.ren, SE.CV.ren, SE.Res.refs, SE.Res.ren, min_i64, max_i64, min_u16, max_u16, min_u8, max_u8, min_u64, max_u64, S.s.injEq, S0.c.injEq, CV.d.injEq, DC.val.injEq, Value.int.injEq, Value.bool.injEq, Value.string.injEq, eta_fact, eta_atom, eta_asn, eta_state, List.mem_cons, List.mem_nil_iff, or_false, false_or, or_true, true_or, Option.map_some, Option.map_none, Option.bind_some, Option.getD_some, Option.getD_none, Nat.reduceEqDiff, Nat.reduceAdd, Nat.reduceMul, Nat.reduceLeDiff, ↓reduceIte, reduceCtorEq, true_and, and_true, and_self, forall_const, implies_true, true_implies, List.getElem?_toArray, List.getElem?_cons_succ, List.getElem?_cons_zero, List.append_nil, List.nil_append, List.cons_append, List.length_cons, List.length_nil, List.take_succ_cons, List.take_zero, List.drop_succ_cons, List.drop_zero, List.set_cons_zero, List.set_cons_succ, List.map_cons, List.map_nil, Nat.add_zero, Nat.zero_add, forall_eq, Prod.forall, Bool.not_true, Bool.not_false, Nat.lt_irrefl, Nat.zero_lt_succ, List.singleton_append, Prod.mk.injEq, Nat.zero_mul, Nat.one_mul, Nat.reducePow, Option.some.injEq, not_false_eq_true, Int.toNat_natCast, Nat.sub_zero, Nat.le_refl, Bool.or_false, Bool.false_or, Bool.or_true, Bool.true_or, Bool.and_true, Bool.true_and, Bool.and_false, Bool.false_and, Bool.or_self, Bool.and_self, List.append_eq, and_false, false_and]
  all_goals (try simp only [vcIf_iff, decide_eq_true_eq, decide_eq_false_iff_not, bne_iff_ne, ne_eq, beq_iff_eq, beq_eq_false_iff_ne, bne_eq_false_iff_eq, Bool.not_eq_true', Bool.not_eq_false', Int.ofNat_lt, Int.natCast_inj])
  all_goals (repeat' (first | apply And.intro | intro _))
  all_goals (first | omega | (simp_all; done) | grind [pickP, asV, fsV, fV, isT])
theorem ok_l3Draw : FnOk Try.prog E 81 c_l3Draw :=
  fn_ok (l := L_l3Draw) (perm := fun _ => []) tabOk mix ⟨ok_pick, ok_num, ok_l3Point, trivial⟩ Try.func81 rfl (by kernel_rfl) (by decide) (by kernel_rfl) (anns := fun x _ => an_l3Draw x.1) (fun ⟨rr, _⟩ k _ hk => vc_l3Draw rr k (hk rfl)) (fun _ _ => ⟨((⟨[], []⟩ : GAsn), ()), rfl⟩)
end Go.Proofs.Ytejcmcbpfnmlaaa

namespace Go.Proofs.Ytejcmcbpfnmlaaa
open Go.SE Go.RowKit
set_option linter.unusedSimpArgs false
set_option linter.unusedVariables false
set_option maxHeartbeats 1000000
set_option maxRecDepth 100000
/-! DrawImplies -/
abbrev c_DrawImplies : Con := ⟨[.sl .u8], [.asn, .fact], fun _ => True, .inr fun (code, _) r => r.1.facts.length ≤ 40 ∧ r.1.atoms.length ≤ 40, fun (code, _) => 27⟩
abbrev L_DrawImplies : List (FuncId × Con) := [(80, c_l3Mutate), (81, c_l3Draw), (82, c_pick), (83, c_num)]
abbrev P_DrawImplies : List (FuncId × PT) := []
def perm_DrawImplies : Nat → List (List Nat)
  | 4 => [[0, 1, 2, 3], [0, 2, 1, 3], [1, 0, 2, 3]]
  | _ => []
def VC_DrawImplies (code : List UInt8) (k : Nat) : Prop := (TN ∧ TN ∧ TN ∧ True) ∧ (TN ∧ True) ∧ (((7 : Nat) < 25) ∧ ((8 : Nat) < 25) ∧ ((4 : Nat) < 25) ∧ ((7 : Nat) ≠ 0)) ∧ ((none : Option Nat) = none) ∧ TT ∧ TT ∧ True ∧ True ∧ True ∧ (True ∧ (0 + 20 ≤ 1099511627776) ∧ TN ∧ TN ∧ True) ∧ (∀ r1 : GAsn × Unit, (asV r1.1 = true) → ((r1.1.facts.length ≤ 100000 ∧ r1.1.atoms.length ≤ 100000) ∧ (0 + 20 + 4 ≤ 1099511627776) ∧ TN ∧ TN ∧ True) ∧ (∀ r2 : GAsn × Unit, (r2.1.facts.length ≤ r1.1.facts.length + 14 ∧ r2.1.atoms.length ≤ r1.1.atoms.length + 7) → (TN ∧ TN ∧ TN ∧ True) ∧ (TF ∧ TF) ∧ True ∧ (True ∧ (0 + 20 + 4 + 1 ≤ 1099511627776) ∧ True) ∧ (∀ r3 : Int × Unit, (pickP (3 : Int) r3.1) → True ∧ True ∧ (TN ∧ True) ∧ ((0 < ([(1 : Int), (2 : Int), (3 : Int), (5 : Int), (7 : Int), (9 : Int)] : List Int).length ∧ ([(1 : Int), (2 : Int), (3 : Int), (5 : Int), (7 : Int), (9 : Int)] : List Int).length ≤ 1000) ∧ (0 + 20 + 4 + 1 + 1 ≤ 1099511627776) ∧ True) ∧ (∀ r4 : Int × Unit, (r4.1 ∈ ([(1 : Int), (2 : Int), (3 : Int), (5 : Int), (7 : Int), (9 : Int)] : List Int)) → True ∧ (TN ∧ True) ∧ ((0 < ([(0 : Int), (2 : Int), (1 : Int), (6 : Int), (3 : Int)] : List Int).length ∧ ([(0 : Int), (2 : Int), (1 : Int), (6 : Int), (3 : Int)] : List Int).length ≤ 1000) ∧ (0 + 20 + 4 + 1 + 1 + 1 ≤ 1099511627776) ∧ True) ∧ (∀ r5 : Int × Unit, (r5.1 ∈ ([(0 : Int), (2 : Int), (1 : Int), (6 : Int), (3 : Int)] : List Int)) → True ∧ (TN ∧ True) ∧ (TF ∧ TF) ∧ (True ∧ True ∧ (TF ∧ TF) ∧ (TF ∧ TF) ∧ (r2.1.facts.length ≤ 40 ∧ r2.1.atoms.length ≤ 40) ∧ ((((192 : Nat) ≠ 193) ∧ True) ∧ True ∧ True) ∧ ((TF ∧ TF) ∧ (TF ∧ TF) ∧ True) ∧ True ∧ (True ∧ True ∧ True) ∧ (0 + 20 + 4 + 1 + 1 + 1 ≤ 0 + 27)) ∧ (True ∧ (TF ∧ TF) ∧ True ∧ (TF ∧ TF) ∧ (r2.1.facts.length ≤ 40 ∧ r2.1.atoms.length ≤ 40) ∧ ((((192 : Nat) ≠ 193) ∧ True) ∧ True ∧ True) ∧ ((TF ∧ TF) ∧ (TF ∧ TF) ∧ True) ∧ True ∧ (True ∧ True ∧ True) ∧ (0 + 20 + 4 + 1 + 1 + 1 ≤ 0 + 27)) ∧ (True ∧ True ∧ (TF ∧ TF) ∧ (TF ∧ TF) ∧ (r2.1.facts.length ≤ 40 ∧ r2.1.atoms.length ≤ 40) ∧ ((((192 : Nat) ≠ 193) ∧ True) ∧ True ∧ True) ∧ ((TF ∧ TF) ∧ (TF ∧ TF) ∧ True) ∧ True ∧ (True ∧ True ∧ True) ∧ (0 + 20 + 4 + 1 + 1 + 1 ≤ 0 + 27)) ∧ True)))))
theorem vcn_DrawImplies (code : List UInt8) (k : Nat) : VC_DrawImplies code k := by
  unfold VC_DrawImplies
  simp only [cln, Nat.reduceEqDiff, Nat.reduceLeDiff, Nat.reduceAdd]
  all_goals (try simp only [opn])
  all_goals (repeat' (first | apply And.intro | intro _))
  all_goals (first | omega | ((simp only [upd]; (repeat' split) <;> rfl); done) | (rename_i h; simp only [upd] at h; (repeat' split at h) <;> (first | (injection h with h; subst h; rfl) | (cases h))) | (simp_all; done) | grind [asV, fsV, pickP])
theorem vce_DrawImplies (code : List UInt8) (k : Nat) : VC_DrawImplies code k = vcOpenQ tab (lookF L_DrawImplies) (lookP P_DrawImplies) (fun _ => false) (fun _ _ => none) (perm_DrawImplies) ([0, 2, 3], [32, 33, 47, 63]) 79 Try.f29.ntmps (bodyOf Try.f29) (entry (encs c_DrawImplies.aks (code, ())) none) (retOk tab c_DrawImplies Try.f29.results.toList (code, ()) 0) := by kernel_rfl
theorem ok_DrawImplies : FnOk Try.prog E 29 c_DrawImplies :=
  draw_fnQ (hp := fun _ => false) (perm := perm_DrawImplies) (gl := ([0, 2, 3], [32, 33, 47, 63])) tabOk mix (kall_of (l := L_DrawImplies) ⟨ok_l3Mutate, ok_l3Draw, ok_pick, ok_num, trivial⟩) (pall_of (l := P_DrawImplies) trivial) open_l18Open fn_l18Open Try.func29 rfl (by kernel_rfl) (by decide) (by kernel_rfl) rfl rfl (anns := fun x => fun _ _ => none) (fun ⟨code, _⟩ _ => (vce_DrawImplies code 0).mp (vcn_DrawImplies code 0)) (fun _ _ => ⟨((⟨[], []⟩ : GAsn), (⟨true, 0, 0⟩ : GFact), ()), ⟨Nat.zero_le _, Nat.zero_le _⟩⟩)
end Go.Proofs.Ytejcmcbpfnmlaaa

namespace Go.Proofs.Ytejcmcbpfnmlaaa
open Go.SE Go.RowKit
set_option linter.unusedSimpArgs false
set_option linter.unusedVariables false
set_option maxHeartbeats 1000000
set_option maxRecDepth 100000
/-! joinListsF -/
abbrev c_joinListsF : Con := ⟨[.sl .fact, .sl .fact], [.sl .fact], fun (a, b, _) => a.length ≤ 1048576 ∧ b.length ≤ 1048576, .inl fun (a, b, _) => (a ++ b, ()), fun _ => 0⟩
abbrev L_joinListsF : List (FuncId × Con) := []
abbrev P_joinListsF : List (FuncId × PT) := []
def VC_joinListsF (a : List GFact) (b : List GFact) (k : Nat) : Prop := TN ∧ True ∧ True ∧ True ∧ True ∧ (inK .i64 (((a.length : Nat) : Int) + ((b.length : Nat) : Int))) ∧ (TN ∧ (0 ≤ (0 : Int) ∧ (0 : Int) ≤ (((a.length : Nat) : Int) + ((b.length : Nat) : Int)) ∧ (((a.length : Nat) : Int) + ((b.length : Nat) : Int)) ≤ 4294967296)) ∧ True ∧ True ∧ True ∧ (TN ∧ TF ∧ TF ∧ ((List.replicate 0 (⟨false, 0, 0⟩ : GFact)).length + a.length ≤ 4294967296)) ∧ True ∧ (TN ∧ TF ∧ TF ∧ (((List.replicate 0 (⟨false, 0, 0⟩ : GFact)) ++ a).length + b.length ≤ 4294967296)) ∧ True ∧ (((((List.replicate 0 (⟨false, 0, 0⟩ : GFact)) ++ a) ++ b, ()) : (List GFact) × Unit) = (a ++ b, ())) ∧ (True ∧ True) ∧ ((TF ∧ TF) ∧ True) ∧ True ∧ (True ∧ True) ∧ TF
theorem vcn_joinListsF (a : List GFact) (b : List GFact) (k : Nat) (hp : a.length ≤ 1048576 ∧ b.length ≤ 1048576) : VC_joinListsF a b k := by
  unfold VC_joinListsF
  simp only [cln, Nat.reduceEqDiff, Nat.reduceLeDiff, Nat.reduceAdd]
  all_goals (try simp only [opn])
  all_goals (repeat' (first | apply And.intro | intro _))
  all_goals (first | omega | (simp_all; done) | grind [])
theorem vce_joinListsF (a : List GFact) (b : List GFact) (k : Nat) : VC_joinListsF a b k = vcQ tab (lookF L_joinListsF) (lookP P_joinListsF) (fun _ => false) (fun _ => none) (fun _ _ => none) (fun _ => []) (bodyOf Try.f84) (entry (encs c_joinListsF.aks (a, b, ())) (rdOf false k)) (retOk tab c_joinListsF Try.f84.results.toList (a, b, ()) k) := by kernel_rfl
theorem ok_joinListsF : FnOk Try.prog E 84 c_joinListsF :=
  fn_okQ (l := L_joinListsF) (lp := P_joinListsF) (hp := fun _ => false) (gcs := fun _ => none) (perm := fun _ => []) tabOk mix trivial trivial Try.func84 rfl (by kernel_rfl) (by decide) (by kernel_rfl) (anns := fun x _ => fun _ _ => none) (fun ⟨a, b, _⟩ k hp _ => (vce_joinListsF a b k).mp (vcn_joinListsF a b k hp)) tot_fn
end Go.Proofs.Ytejcmcbpfnmlaaa

namespace Go.Proofs.Ytejcmcbpfnmlaaa
open Go.SE Go.RowKit
set_option linter.unusedSimpArgs false
set_option linter.unusedVariables false
set_option maxHeartbeats 1000000
set_option maxRecDepth 100000
/-! joinListsA -/
abbrev c_joinListsA : Con := ⟨[.sl .atom, .sl .atom], [.sl .atom], fun (a, b, _) => a.length ≤ 1048576 ∧ b.length ≤ 1048576, .inl fun (a, b, _) => (a ++ b, ()), fun _ => 0⟩
abbrev L_joinListsA : List (FuncId × Con) := []
abbrev P_joinListsA : List (FuncId × PT) := []
def VC_joinListsA (a : List GAtom) (b : List GAtom) (k : Nat) : Prop := TN ∧ True ∧ True ∧ True ∧ True ∧ (inK .i64 (((a.length : Nat) : Int) + ((b.length : Nat) : Int))) ∧ (TN ∧ (0 ≤ (0 : Int) ∧ (0 : Int) ≤ (((a.length : Nat) : Int) + ((b.length : Nat) : Int)) ∧ (((a.length : Nat) : Int) + ((b.length : Nat) : Int)) ≤ 4294967296)) ∧ True ∧ True ∧ True ∧ (TN ∧ TF ∧ TF ∧ ((List.replicate 0 (⟨0, 0, 0⟩ : GAtom)).length + a.length ≤ 4294967296)) ∧ True ∧ (TN ∧ TF ∧ TF ∧ (((List.replicate 0 (⟨0, 0, 0⟩ : GAtom)) ++ a).length + b.length ≤ 4294967296)) ∧ True ∧ (((((List.replicate 0 (⟨0, 0, 0⟩ : GAtom)) ++ a) ++ b, ()) : (List GAtom) × Unit) = (a ++ b, ())) ∧ (True ∧ True) ∧ ((TF ∧ TF) ∧ True) ∧ True ∧ (True ∧ True) ∧ TF
theorem vcn_joinListsA (a : List GAtom) (b : List GAtom) (k : Nat) (hp : a.length ≤ 1048576 ∧ b.length ≤ 1048576) : VC_joinListsA a b k := by
  unfold VC_joinListsA
  simp only [cln, Nat.reduceEqDiff, Nat.reduceLeDiff, Nat.reduceAdd]
  all_goals (try simp only [opn])
  all_goals (repeat' (first | apply And.intro | intro _))
  all_goals (first | omega | (simp_all; done) | grind [])
theorem vce_joinListsA (a : List GAtom) (b : List GAtom) (k : Nat) : VC_joinListsA a b k = vcQ tab (lookF L_joinListsA) (lookP P_joinListsA) (fun _ => false) (fun _ => none) (fun _ _ => none) (fun _ => []) (bodyOf Try.f85) (entry (encs c_joinListsA.aks (a, b, ())) (rdOf false k)) (retOk tab c_joinListsA Try.f85.results.toList (a, b, ()) k) := by kernel_rfl
theorem ok_joinListsA : FnOk Try.prog E 85 c_joinListsA :=
  fn_okQ (l := L_joinListsA) (lp := P_joinListsA) (hp := fun _ => false) (gcs := fun _ => none) (perm := fun _ => []) tabOk mix trivial trivial Try.func85 rfl (by kernel_rfl) (by decide) (by kernel_rfl) (anns := fun x _ => fun _ _ => none) (fun ⟨a, b, _⟩ k hp _ => (vce_joinListsA a b k).mp (vcn_joinListsA a b k hp)) tot_fn
end Go.Proofs.Ytejcmcbpfnmlaaa

namespace Go.Proofs.Ytejcmcbpfnmlaaa
open Go.SE Go.RowKit
set_option linter.unusedSimpArgs false
set_option linter.unusedVariables false
set_option maxHeartbeats 1000000
set_option maxRecDepth 100000
/-! iStarAssertions -/
abbrev c_iStarAssertions : Con := ⟨[.asn, .asn], [.asn, .bool], fun (a, b, _) => a.facts.length ≤ 1048576 ∧ a.atoms.length ≤ 1048576 ∧ b.facts.length ≤ 1048576 ∧ b.atoms.length ≤ 1048576, .inl fun (a, b, _) => (starL a b, starOk a b, ()), fun _ => 0⟩
abbrev L_iStarAssertions : List (FuncId × Con) := [(19, c_iAssertionValid), (84, c_joinListsF), (85, c_joinListsA)]
abbrev P_iStarAssertions : List (FuncId × PT) := []
def VC_iStarAssertions (a : GAsn) (b : GAsn) (k : Nat) : Prop := TN ∧ TN ∧ (TN ∧ TN ∧ TN ∧ True) ∧ True ∧ True ∧ ((a.facts.length ≤ 281474976710656 ∧ a.atoms.length ≤ 281474976710656) ∧ True ∧ True) ∧ True ∧ True ∧ (vcIf (!(asV a)) (True ∧ (TN ∧ TN ∧ True) ∧ (TF ∧ TF) ∧ True ∧ ((((⟨([] : List GFact), ([] : List GAtom)⟩ : GAsn), false, ()) : GAsn × Bool × Unit) = (starL a b, starOk a b, ())) ∧ ((((240 : Nat) ≠ 241) ∧ True) ∧ True ∧ True) ∧ ((TF ∧ TF) ∧ (TF ∧ TF) ∧ True) ∧ True ∧ (True ∧ True ∧ True) ∧ TF) (True ∧ ((b.facts.length ≤ 281474976710656 ∧ b.atoms.length ≤ 281474976710656) ∧ True ∧ True) ∧ True ∧ True ∧ (vcIf (!(asV b)) ((TN ∧ TN ∧ True) ∧ (TF ∧ TF) ∧ True ∧ ((((⟨([] : List GFact), ([] : List GAtom)⟩ : GAsn), false, ()) : GAsn × Bool × Unit) = (starL a b, starOk a b, ())) ∧ ((((240 : Nat) ≠ 241) ∧ True) ∧ True ∧ True) ∧ ((TF ∧ TF) ∧ (TF ∧ TF) ∧ True) ∧ True ∧ (True ∧ True ∧ True) ∧ TF) (True ∧ True ∧ True ∧ True ∧ ((a.facts.length ≤ 1048576 ∧ b.facts.length ≤ 1048576) ∧ True ∧ TN ∧ True) ∧ True ∧ True ∧ True ∧ True ∧ ((a.atoms.length ≤ 1048576 ∧ b.atoms.length ≤ 1048576) ∧ True ∧ TN ∧ True) ∧ (TN ∧ TN ∧ True) ∧ (TN ∧ TN ∧ TN ∧ True) ∧ (TF ∧ TF) ∧ True ∧ (((⟨(a.facts ++ b.facts), (a.atoms ++ b.atoms)⟩ : GAsn).facts.length ≤ 281474976710656 ∧ (⟨(a.facts ++ b.facts), (a.atoms ++ b.atoms)⟩ : GAsn).atoms.length ≤ 281474976710656) ∧ True ∧ True) ∧ True ∧ (vcIf (!(asV (⟨(a.facts ++ b.facts), (a.atoms ++ b.atoms)⟩ : GAsn))) ((TN ∧ TN ∧ True) ∧ (TF ∧ TF) ∧ True ∧ ((((⟨([] : List GFact), ([] : List GAtom)⟩ : GAsn), false, ()) : GAsn × Bool × Unit) = (starL a b, starOk a b, ())) ∧ ((((480 : Nat) ≠ 481) ∧ True) ∧ True ∧ True) ∧ ((TF ∧ TF) ∧ (TF ∧ TF) ∧ True) ∧ True ∧ (True ∧ True ∧ True) ∧ TF) (True ∧ (TF ∧ TF) ∧ True ∧ ((((⟨(a.facts ++ b.facts), (a.atoms ++ b.atoms)⟩ : GAsn), true, ()) : GAsn × Bool × Unit) = (starL a b, starOk a b, ())) ∧ ((((320 : Nat) ≠ 400) ∧ True) ∧ True ∧ True) ∧ ((TF ∧ TF) ∧ (TF ∧ TF) ∧ True) ∧ True ∧ (True ∧ True ∧ True) ∧ TF))))))
theorem vcn_iStarAssertions (a : GAsn) (b : GAsn) (k : Nat) (hp : a.facts.length ≤ 1048576 ∧ a.atoms.length ≤ 1048576 ∧ b.facts.length ≤ 1048576 ∧ b.atoms.length ≤ 1048576) : VC_iStarAssertions a b k := by
  unfold VC_iStarAssertions
  simp only [cln, Nat.reduceEqDiff, Nat.reduceLeDiff, Nat.reduceAdd]
  all_goals (try simp only [opn])
  all_goals (repeat' (first | apply And.intro | intro _))
  all_goals (first | omega | (simp_all; done) | grind [starL, starOk, starA])
theorem vce_iStarAssertions (a : GAsn) (b : GAsn) (k : Nat) : VC_iStarAssertions a b k = vcQ tab (lookF L_iStarAssertions) (lookP P_iStarAssertions) (fun _ => false) (fun _ => none) (fun _ _ => none) (fun _ => []) (bodyOf Try.f30) (entry (encs c_iStarAssertions.aks (a, b, ())) (rdOf false k)) (retOk tab c_iStarAssertions Try.f30.results.toList (a, b, ()) k) := by kernel_rfl
theorem ok_iStarAssertions : FnOk Try.prog E 30 c_iStarAssertions :=
  fn_okQ (l := L_iStarAssertions) (lp := P_iStarAssertions) (hp := fun _ => false) (gcs := fun _ => none) (perm := fun _ => []) tabOk mix ⟨ok_iAssertionValid, ok_joinListsF, ok_joinListsA, trivial⟩ trivial Try.func30 rfl (by kernel_rfl) (by decide) (by kernel_rfl) (anns := fun x _ => fun _ _ => none) (fun ⟨a, b, _⟩ k hp _ => (vce_iStarAssertions a b k).mp (vcn_iStarAssertions a b k hp)) tot_fn
end Go.Proofs.Ytejcmcbpfnmlaaa
