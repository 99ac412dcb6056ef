import Derived.Test.YtolghafejibajaaDoorLnC
import Derived.Test.YtolghafejibajaaDoorLnD
import Derived.Test.YtolghafejibajaaDoorLnX
/- Lines: LinesClean. -/
namespace Go.Ln
open Go Go.Ev Go.Proofs
set_option linter.unusedVariables false
set_option linter.unusedSimpArgs false
variable {m : Int}

def lwClean : AF := ⟨.seq (.reg (.seq [⟨(some (2, true)), none, .mov (.cst (.bool false) (.lit (.bool false))) .asg⟩])) [0] []
  (.seq (.reg (.seq [⟨(some (3, false)), none, .mov (.tmp 0 true) .peek⟩,
      ⟨(some (4, false)), none, .len (.tmp 3 false)⟩,
      ⟨(some (5, false)), none, .bin .gtr (.tmp 4 false) (.cst (.int .i64 3000) (.lit (.int .i64 3000)))⟩,
      ⟨(some (6, false)), none, .mov (.tmp 5 false) .peek⟩,
      ⟨(some (7, false)), (some (6, true)), .call 16 []⟩,
      ⟨(some (8, false)), none, .pick (.tmp 6 false) (.tmp 7 false) (.cst (.bool false) (.lit (.bool false)))⟩,
      ⟨(some (9, false)), none, .mov (.tmp 8 false) .peek⟩,
      ⟨(some (10, false)), (some (9, false)), .mov (.tmp 0 true) .peek⟩,
      ⟨(some (11, false)), (some (9, false)), .len (.tmp 10 false)⟩,
      ⟨(some (12, false)), (some (9, false)), .bin .leq (.tmp 11 false) (.cst (.int .i64 3000) (.lit (.int .i64 3000)))⟩,
      ⟨(some (13, false)), (some (9, false)), .mov (.tmp 12 false) .peek⟩,
      ⟨(some (14, false)), (some (13, true)), .mov (.tmp 0 true) .peek⟩,
      ⟨(some (15, false)), (some (13, true)), .call 17 [(.tmp 14 false)]⟩,
      ⟨(some (16, false)), (some (13, true)), .mov (.tmp 0 true) .peek⟩,
      ⟨(some (17, false)), (some (13, true)), .call 18 [(.tmp 16 false)]⟩,
      ⟨(some (18, false)), (some (13, true)), .bin .eql (.tmp 15 false) (.tmp 17 false)⟩,
      ⟨(some (19, false)), (some (9, false)), .pick (.tmp 13 false) (.tmp 18 false) (.cst (.bool false) (.lit (.bool false)))⟩,
      ⟨(some (20, false)), (some (9, false)), .mov (.tmp 19 false) .peek⟩,
      ⟨(some (21, false)), (some (20, true)), .call 16 []⟩,
      ⟨(some (22, false)), (some (9, false)), .pick (.tmp 20 false) (.tmp 21 false) (.cst (.bool false) (.lit (.bool false)))⟩,
      ⟨(some (23, false)), none, .pick (.tmp 9 false) (.cst (.bool true) (.lit (.bool true))) (.tmp 22 false)⟩,
      ⟨(some (2, true)), none, .mov (.tmp 23 false) .asg⟩])) [2] []
  (.ret)),
  [.tmp 2]⟩
theorem lwClean_comp (m : Int) : compF Tryd.prog (gl m) [] Tryd.f3 = some lwClean := by kernel_rfl
theorem clean_law (s : Bs) (hs : s.length ≤ 1048576) : Snd Tryd.prog (gl m) 3 [S s] (B true) := by
  refine snd_of (fn := Tryd.f3) (af := lwClean) Tryd.func3 (lwClean_comp m) mixed (kn_ok m) (Nat.le_of_ble_eq_true rfl) ?_
  simp only [lwClean, eqs, reduceCtorEq, implies_true, List.map_cons, List.map_nil, kl, klL, roD, roL, Option.map_some, Option.map_none, Option.getD_some, Option.getD_none, binVal, binObl, unVal, Nat.reduceEqDiff, if_true, if_false, reduceIte, eq_self, passA, frnD, resD, content, getH, getR, getW, viaNot, viaSlot, viaBox, viaDeep, viaMem, List.contains_cons, List.contains_nil, grabs, peeks, okCells, isCell, place, cellsOf, chunk, elt, List.headD_cons, List.length_cons, List.length_nil, List.take_succ_cons, List.take_zero, List.drop_succ_cons, List.drop_zero, Nat.reduceAdd, Nat.reduceSub, Nat.reduceLeDiff, List.nil_append, List.cons_append, List.append_nil, List.all_cons, List.all_nil, plainC, takeR, setW, over, reCell, Int.reduceToNat, List.getElem?_cons_zero, List.getElem?_cons_succ, List.set_cons_zero, List.take_length, outV, resG, plainV, pack, outVG, outBx, List.set_cons_succ, Ref.idx, Ref.addOff, beq_self_eq_true, Nat.reduceBEq, bxL, Option.bind_some, writeR, isLit, viaBoxes, capsPA, boxPA, nsOf, noDup, boxesAt, argG, passG, passD, rhoIn, rhoOut, idxIn, tr, trL, List.getD_cons_zero, gives, pasOf, isPtr]
  by_cases h : 3000 < s.length
  · rw [igt_t (by omega)]
    simp only [eqs, reduceCtorEq, implies_true, List.map_cons, List.map_nil, kl, klL, roD, roL, Option.map_some, Option.map_none, Option.getD_some, Option.getD_none, binVal, binObl, unVal, Nat.reduceEqDiff, if_true, if_false, reduceIte, eq_self, passA, frnD, resD, content, getH, getR, getW, viaNot, viaSlot, viaBox, viaDeep, viaMem, List.contains_cons, List.contains_nil, grabs, peeks, okCells, isCell, place, cellsOf, chunk, elt, List.headD_cons, List.length_cons, List.length_nil, List.take_succ_cons, List.take_zero, List.drop_succ_cons, List.drop_zero, Nat.reduceAdd, Nat.reduceSub, Nat.reduceLeDiff, List.nil_append, List.cons_append, List.append_nil, List.all_cons, List.all_nil, plainC, takeR, setW, over, reCell, Int.reduceToNat, List.getElem?_cons_zero, List.getElem?_cons_succ, List.set_cons_zero, List.take_length, outV, resG, plainV, pack, outVG, outBx, List.set_cons_succ, Ref.idx, Ref.addOff, beq_self_eq_true, Nat.reduceBEq, bxL, Option.bind_some, writeR, isLit, viaBoxes, capsPA, boxPA, nsOf, noDup, boxesAt, argG, passG, passD, rhoIn, rhoOut, idxIn, tr, trL, List.getD_cons_zero, gives, pasOf, isPtr]
    refine of_call lives_snd ?_
    simp only [eqs, reduceCtorEq, implies_true, List.map_cons, List.map_nil, kl, klL, roD, roL, Option.map_some, Option.map_none, Option.getD_some, Option.getD_none, binVal, binObl, unVal, Nat.reduceEqDiff, if_true, if_false, reduceIte, eq_self, passA, frnD, resD, content, getH, getR, getW, viaNot, viaSlot, viaBox, viaDeep, viaMem, List.contains_cons, List.contains_nil, grabs, peeks, okCells, isCell, place, cellsOf, chunk, elt, List.headD_cons, List.length_cons, List.length_nil, List.take_succ_cons, List.take_zero, List.drop_succ_cons, List.drop_zero, Nat.reduceAdd, Nat.reduceSub, Nat.reduceLeDiff, List.nil_append, List.cons_append, List.append_nil, List.all_cons, List.all_nil, plainC, takeR, setW, over, reCell, Int.reduceToNat, List.getElem?_cons_zero, List.getElem?_cons_succ, List.set_cons_zero, List.take_length, outV, resG, plainV, pack, outVG, outBx, List.set_cons_succ, Ref.idx, Ref.addOff, beq_self_eq_true, Nat.reduceBEq, bxL, Option.bind_some, writeR, isLit, viaBoxes, capsPA, boxPA, nsOf, noDup, boxesAt, argG, passG, passD, rhoIn, rhoOut, idxIn, tr, trL, List.getD_cons_zero, gives, pasOf, isPtr]
  · rw [igt_f (by omega)]
    simp only [eqs, reduceCtorEq, implies_true, List.map_cons, List.map_nil, kl, klL, roD, roL, Option.map_some, Option.map_none, Option.getD_some, Option.getD_none, binVal, binObl, unVal, Nat.reduceEqDiff, if_true, if_false, reduceIte, eq_self, passA, frnD, resD, content, getH, getR, getW, viaNot, viaSlot, viaBox, viaDeep, viaMem, List.contains_cons, List.contains_nil, grabs, peeks, okCells, isCell, place, cellsOf, chunk, elt, List.headD_cons, List.length_cons, List.length_nil, List.take_succ_cons, List.take_zero, List.drop_succ_cons, List.drop_zero, Nat.reduceAdd, Nat.reduceSub, Nat.reduceLeDiff, List.nil_append, List.cons_append, List.append_nil, List.all_cons, List.all_nil, plainC, takeR, setW, over, reCell, Int.reduceToNat, List.getElem?_cons_zero, List.getElem?_cons_succ, List.set_cons_zero, List.take_length, outV, resG, plainV, pack, outVG, outBx, List.set_cons_succ, Ref.idx, Ref.addOff, beq_self_eq_true, Nat.reduceBEq, bxL, Option.bind_some, writeR, isLit, viaBoxes, capsPA, boxPA, nsOf, noDup, boxesAt, argG, passG, passD, rhoIn, rhoOut, idxIn, tr, trL, List.getD_cons_zero, gives, pasOf, isPtr]
    rw [ile_t (by omega)]
    simp only [eqs, reduceCtorEq, implies_true, List.map_cons, List.map_nil, kl, klL, roD, roL, Option.map_some, Option.map_none, Option.getD_some, Option.getD_none, binVal, binObl, unVal, Nat.reduceEqDiff, if_true, if_false, reduceIte, eq_self, passA, frnD, resD, content, getH, getR, getW, viaNot, viaSlot, viaBox, viaDeep, viaMem, List.contains_cons, List.contains_nil, grabs, peeks, okCells, isCell, place, cellsOf, chunk, elt, List.headD_cons, List.length_cons, List.length_nil, List.take_succ_cons, List.take_zero, List.drop_succ_cons, List.drop_zero, Nat.reduceAdd, Nat.reduceSub, Nat.reduceLeDiff, List.nil_append, List.cons_append, List.append_nil, List.all_cons, List.all_nil, plainC, takeR, setW, over, reCell, Int.reduceToNat, List.getElem?_cons_zero, List.getElem?_cons_succ, List.set_cons_zero, List.take_length, outV, resG, plainV, pack, outVG, outBx, List.set_cons_succ, Ref.idx, Ref.addOff, beq_self_eq_true, Nat.reduceBEq, bxL, Option.bind_some, writeR, isLit, viaBoxes, capsPA, boxPA, nsOf, noDup, boxesAt, argG, passG, passD, rhoIn, rhoOut, idxIn, tr, trL, List.getD_cons_zero, gives, pasOf, isPtr]
    refine of_call (pclean_snd s hs) ?_
    simp only [eqs, reduceCtorEq, implies_true, List.map_cons, List.map_nil, kl, klL, roD, roL, Option.map_some, Option.map_none, Option.getD_some, Option.getD_none, binVal, binObl, unVal, Nat.reduceEqDiff, if_true, if_false, reduceIte, eq_self, passA, frnD, resD, content, getH, getR, getW, viaNot, viaSlot, viaBox, viaDeep, viaMem, List.contains_cons, List.contains_nil, grabs, peeks, okCells, isCell, place, cellsOf, chunk, elt, List.headD_cons, List.length_cons, List.length_nil, List.take_succ_cons, List.take_zero, List.drop_succ_cons, List.drop_zero, Nat.reduceAdd, Nat.reduceSub, Nat.reduceLeDiff, List.nil_append, List.cons_append, List.append_nil, List.all_cons, List.all_nil, plainC, takeR, setW, over, reCell, Int.reduceToNat, List.getElem?_cons_zero, List.getElem?_cons_succ, List.set_cons_zero, List.take_length, outV, resG, plainV, pack, outVG, outBx, List.set_cons_succ, Ref.idx, Ref.addOff, beq_self_eq_true, Nat.reduceBEq, bxL, Option.bind_some, writeR, isLit, viaBoxes, capsPA, boxPA, nsOf, noDup, boxesAt, argG, passG, passD, rhoIn, rhoOut, idxIn, tr, trL, List.getD_cons_zero, gives, pasOf, isPtr]
    refine of_call (rclean_snd s (by omega)) ?_
    rw [← clean_same]
    simp only [eqs, reduceCtorEq, implies_true, List.map_cons, List.map_nil, kl, klL, roD, roL, Option.map_some, Option.map_none, Option.getD_some, Option.getD_none, binVal, binObl, unVal, Nat.reduceEqDiff, if_true, if_false, reduceIte, eq_self, passA, frnD, resD, content, getH, getR, getW, viaNot, viaSlot, viaBox, viaDeep, viaMem, List.contains_cons, List.contains_nil, grabs, peeks, okCells, isCell, place, cellsOf, chunk, elt, List.headD_cons, List.length_cons, List.length_nil, List.take_succ_cons, List.take_zero, List.drop_succ_cons, List.drop_zero, Nat.reduceAdd, Nat.reduceSub, Nat.reduceLeDiff, List.nil_append, List.cons_append, List.append_nil, List.all_cons, List.all_nil, plainC, takeR, setW, over, reCell, Int.reduceToNat, List.getElem?_cons_zero, List.getElem?_cons_succ, List.set_cons_zero, List.take_length, outV, resG, plainV, pack, outVG, outBx, List.set_cons_succ, Ref.idx, Ref.addOff, beq_self_eq_true, Nat.reduceBEq, bxL, Option.bind_some, writeR, isLit, viaBoxes, capsPA, boxPA, nsOf, noDup, boxesAt, argG, passG, passD, rhoIn, rhoOut, idxIn, tr, trL, List.getD_cons_zero, gives, pasOf, isPtr]
    refine of_call lives_snd ?_
    simp only [eqs, reduceCtorEq, implies_true, List.map_cons, List.map_nil, kl, klL, roD, roL, Option.map_some, Option.map_none, Option.getD_some, Option.getD_none, binVal, binObl, unVal, Nat.reduceEqDiff, if_true, if_false, reduceIte, eq_self, passA, frnD, resD, content, getH, getR, getW, viaNot, viaSlot, viaBox, viaDeep, viaMem, List.contains_cons, List.contains_nil, grabs, peeks, okCells, isCell, place, cellsOf, chunk, elt, List.headD_cons, List.length_cons, List.length_nil, List.take_succ_cons, List.take_zero, List.drop_succ_cons, List.drop_zero, Nat.reduceAdd, Nat.reduceSub, Nat.reduceLeDiff, List.nil_append, List.cons_append, List.append_nil, List.all_cons, List.all_nil, plainC, takeR, setW, over, reCell, Int.reduceToNat, List.getElem?_cons_zero, List.getElem?_cons_succ, List.set_cons_zero, List.take_length, outV, resG, plainV, pack, outVG, outBx, List.set_cons_succ, Ref.idx, Ref.addOff, beq_self_eq_true, Nat.reduceBEq, bxL, Option.bind_some, writeR, isLit, viaBoxes, capsPA, boxPA, nsOf, noDup, boxesAt, argG, passG, passD, rhoIn, rhoOut, idxIn, tr, trL, List.getD_cons_zero, gives, pasOf, isPtr]
end Go.Ln

/- LinesClean: the card, by the second form. -/
namespace Go.Proofs.YtolghafejibajaaDoor.linesClean
open Go.ChangeShapes Go.WideShapes Go.ChangeAt Go.RowKit
open Go.ChangeMaps (open_string shut_string)
open Go.Ev (X0 old Bs ss TabsAt RelT)
set_option linter.unusedVariables false

theorem contract (H : Type) (enc : TypeId × Value → H) (W : World) (base : Nat) (args : Array Value) (ds gs : List (DataW H)) (before : List MemPlace)
    (hval : ∀ (j : Nat) t v, Tryd.f3.params[j]? = some t → args[j]? = some v → Value.okWide Tryd.prog W .any base t v)
    (hW : DataW.Whole enc Tryd.prog Tryd.f3.params.toList Rows.linesCleanSpec.vars false W args.toList ds gs before) (hk : Rows.uptoSmall H (ds ++ gs) = true) (hsh : W.ShapedOpen Tryd.prog) :
    Calls Tryd.prog 3 args W fun e W' => ∃ v, e = .returned v ∧ Rows.linesCleanSpec.post enc Tryd.prog Tryd.f3 false true false false W args v W' := by
  refine Ev.contract_law laidOut (by kernel_rfl) rfl (tb := 4) (by kernel_rfl) (by kernel_rfl) Tryd.underlying4 (fun ds hd => ?_) hW ?_
  · rw [Tryd.params3] at hd
    match ds, hd with
    | [d0], _ => rfl
  · obtain ⟨p, q, hA0, hV, rfl, hfz, hnd⟩ := hW
    have hA : DataW.TrodAll enc Tryd.prog W 0 (fun _ => true) true Tryd.f3.params.toList args.toList ds p := hA0
    rw [Tryd.params3] at hA hval
    obtain ⟨v0, vs0, d0, ds0, p0, q0, hargs, rfl, rfl, h0, r0⟩ := trodAll_cons hA
    obtain ⟨rfl, rfl, rfl⟩ := trodAll_nil r0
    obtain rfl : args = #[v0] := by cases args; simp_all
    obtain ⟨rfl, rfl⟩ := trodVars_none hV
    obtain ⟨s0, rfl, rfl, rfl, hmax0⟩ := open_string Tryd.underlying9 (hval 0 9 v0 rfl rfl) h0
    obtain ⟨m, hm⟩ := maxLen_at hsh
    have hb0 := bulk_small hk
    simp only [List.append_nil] at hb0
    have hb1 := bulk_string hb0
    exact Ev.calls_law (Ln.clean_law s0.data.toList (by omega)) (tabs hm) (.cons _ _ _ [] _ _ [] Ev.rel_string (.nil _) (fun b hb => (List.not_mem_nil hb).elim))

theorem reads (os : Os) {H : Type} (enc : TypeId × Value → H) : ∃ places, DataW.whole enc Tryd.prog ((laidWorld os).forCall (fun _ _ => 0) ⟨#[], #[.string ⟨#[]⟩], []⟩).memory Tryd.f3.params.toList Rows.linesCleanSpec.vars false #[Value.string ⟨#[]⟩].toList 8 = some ([.lit (.string [])], [], places) :=
  ⟨[], by kernel_rfl⟩

set_option maxRecDepth 100000 in
theorem lifted (os : Os) (started : os.Started) (H : Type) (enc : TypeId × Value → H) (F : Stop.Interp) :
    ReturnsInHanded {} Tryd.checked os 3 .any ((Rows.OpenSpec.upto Rows.linesCleanSpec).preRow enc Tryd.prog Tryd.f3 Rows.linesCleanUptoRow.domain false Rows.linesCleanUptoRow.laid) (((Rows.OpenSpec.upto Rows.linesCleanSpec).at F).post enc Tryd.prog Tryd.f3 false true false false) := by
  obtain ⟨places, hx⟩ := reads os enc
  refine returnsInHanded_of_row (C := Tryd.checked) (s := Rows.OpenSpec.upto Rows.linesCleanSpec) own started (by kernel_rfl) Tryd.func3
    (witness_row_at (enc := enc) (C := Tryd.checked) false (laidWorld os) #[.string ⟨#[]⟩] rfl (by kernel_rfl) (by kernel_rfl) (by kernel_rfl)
      (OpenSpec.preRow_of_cond 8 hx (by kernel_rfl) (fun k hk => by cases hk; kernel_rfl) (by kernel_rfl) (laid_met os _))) ?_
  intro W base args ds gs before hval hW _ hcond _ hL hsh _
  exact contract H enc W base args ds gs before hval hW (hcond _ rfl) hsh

theorem said : Rows.LinesCleanUptoSaid :=
  OpenClaim.holds_of_cond 3 Tryd.f3 rfl rfl rfl rfl rfl rfl rfl ⟨rfl, rfl, rfl, rfl, rfl⟩ rfl rfl rfl rfl rfl (by kernel_rfl) Tryd.func3 (by kernel_rfl)
    (of_decide_eq_true (by kernel_rfl)) (by unfold Func.isWrapper; first | (rw [if_pos (by decide +kernel)]; kernel_rfl) | (rw [if_neg (by decide +kernel)]; exact ⟨rfl, rfl⟩))
    (fun os started H enc _ F => by rw [OpenClaim.pre_eq_preRow]; exact lifted os started H enc F)

theorem plain (f : FuncId) (fn : Func) (hf : Tryd.pinned.checked.prog.funcNamed "graftage/graftagelaw05.LinesClean" = some f) (hfn : Tryd.pinned.checked.prog.funcs[f]? = some fn) :
    false = Tryd.pinned.checked.prog.looks [] ∧ ∀ (j : Nat) t, fn.params[j]? = some t → Tryd.pinned.checked.prog.wantsStandIn t = false := by
  obtain rfl : f = 3 := Option.some.inj ((show Tryd.prog.funcNamed "graftage/graftagelaw05.LinesClean" = some 3 by kernel_rfl).symm.trans hf) |>.symm
  obtain rfl : fn = Tryd.f3 := (Option.some.inj (Tryd.func3.symm.trans hfn)).symm
  refine ⟨by kernel_rfl, fun j t ht => ?_⟩
  rw [Tryd.params3] at ht
  have ht := Array.mem_of_getElem? ht
  simp only [Array.mem_def, List.mem_cons, List.not_mem_nil, or_false] at ht
  rcases ht with rfl
  exact (show Tryd.prog.wantsStandIn 9 = false by kernel_rfl)

theorem holds : Rows.LinesCleanUptoCardSaid :=
  Claim7.holds_tied_plain_at .later [] _ _ _ _ said (fun _ h => by cases h) (by kernel_rfl) (fun _ h => by cases h) linesCleanUpto_row_tie rfl ⟨rfl, rfl⟩ (by kernel_rfl) rfl plain (by kernel_rfl)
#print axioms holds
end Go.Proofs.YtolghafejibajaaDoor.linesClean

