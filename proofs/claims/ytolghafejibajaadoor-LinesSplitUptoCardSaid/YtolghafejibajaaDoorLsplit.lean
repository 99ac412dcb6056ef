import Derived.Test.YtolghafejibajaaDoorLnC
import Derived.Test.YtolghafejibajaaDoorLnX
/- Lines: LinesSplit. -/
namespace Go.Ln
open Go Go.Ev Go.Proofs
set_option linter.unusedVariables false
set_option linter.unusedSimpArgs false
variable {m : Int}

def lwSplit : AF := ⟨.seq (.reg (.seq [⟨(some (4, true)), none, .mov (.cst (.bool false) (.lit (.bool false))) .asg⟩])) [0, 1] []
  (.seq (.seq (.reg (.seq [⟨(some (5, false)), none, .mov (.tmp 0 true) .peek⟩,
      ⟨(some (6, false)), none, .len (.tmp 5 false)⟩,
      ⟨(some (7, false)), none, .bin .gtr (.tmp 6 false) (.cst (.int .i64 5000) (.lit (.int .i64 5000)))⟩,
      ⟨(some (8, false)), none, .mov (.tmp 7 false) .peek⟩,
      ⟨(some (9, false)), (some (8, false)), .mov (.tmp 1 true) .peek⟩,
      ⟨(some (10, false)), (some (8, false)), .call 27 [(.tmp 9 false), (.cst (.int .i64 500) (.lit (.int .i64 500))), (.cst (.int .i64 5000) (.lit (.int .i64 5000)))]⟩,
      ⟨(some (11, false)), (some (8, false)), .un .not (.tmp 10 false)⟩,
      ⟨(some (12, false)), none, .pick (.tmp 8 false) (.cst (.bool true) (.lit (.bool true))) (.tmp 11 false)⟩])) [0, 1, 12] []
  (.cond (.tmp 12 false)
    (.seq (.reg (.seq [⟨(some (13, false)), none, .call 16 []⟩,
      ⟨(some (4, true)), none, .mov (.tmp 13 false) .asg⟩])) [4] []
    (.ret))
    (.skip))) [0, 1] []
  (.seq (.reg (.seq [⟨(some (14, false)), none, .mov (.tmp 0 true) .peek⟩,
      ⟨(some (15, false)), none, .call 29 [(.tmp 14 false)]⟩,
      ⟨(some (16, false)), none, .mov (.tmp 0 true) .peek⟩,
      ⟨(some (17, false)), none, .call 43 [(.tmp 16 false)]⟩,
      ⟨(some (18, false)), none, .call 31 [(.tmp 15 false), (.tmp 17 false)]⟩,
      ⟨(some (19, false)), none, .mov (.tmp 18 false) .peek⟩,
      ⟨(some (20, false)), (some (19, true)), .mov (.tmp 1 true) .peek⟩,
      ⟨(some (21, false)), (some (19, true)), .call 28 [(.tmp 20 false)]⟩,
      ⟨(some (22, false)), (some (19, true)), .mov (.tmp 1 true) .peek⟩,
      ⟨(some (23, false)), (some (19, true)), .call 45 [(.tmp 22 false)]⟩,
      ⟨(some (24, false)), (some (19, true)), .bin .eql (.tmp 21 false) (.tmp 23 false)⟩,
      ⟨(some (25, false)), none, .pick (.tmp 19 false) (.tmp 24 false) (.cst (.bool false) (.lit (.bool false)))⟩,
      ⟨(some (26, false)), none, .mov (.tmp 25 false) .peek⟩,
      ⟨(some (27, false)), (some (26, true)), .mov (.tmp 0 true) .peek⟩,
      ⟨(some (28, false)), (some (26, true)), .call 44 [(.tmp 27 false)]⟩,
      ⟨(some (29, false)), (some (26, true)), .mov (.tmp 0 true) .peek⟩,
      ⟨(some (30, false)), (some (26, true)), .call 46 [(.tmp 29 false)]⟩,
      ⟨(some (31, false)), (some (26, true)), .bin .eql (.tmp 28 false) (.tmp 30 false)⟩,
      ⟨(some (32, false)), none, .pick (.tmp 26 false) (.tmp 31 false) (.cst (.bool false) (.lit (.bool false)))⟩,
      ⟨(some (33, false)), none, .mov (.tmp 32 false) .peek⟩,
      ⟨(some (34, false)), (some (33, true)), .call 16 []⟩,
      ⟨(some (35, false)), none, .pick (.tmp 33 false) (.tmp 34 false) (.cst (.bool false) (.lit (.bool false)))⟩,
      ⟨(some (4, true)), none, .mov (.tmp 35 false) .asg⟩])) [4] []
  (.ret))),
  [.tmp 4]⟩
theorem lwSplit_comp (m : Int) : compF Tryd.prog (gl m) [] Tryd.f12 = some lwSplit := by kernel_rfl
theorem split_law (s : Bs) (L : List Bs) (hs : s.length ≤ 1048576) (hL : L.length ≤ 1048576) (hf : L.flatten.length ≤ 1048576) : Snd Tryd.prog (gl m) 12 [S s, .sl .frn 1 (ss L)] (B true) := by
  refine snd_of (fn := Tryd.f12) (af := lwSplit) Tryd.func12 (lwSplit_comp m) mixed (kn_ok m) (Nat.le_of_ble_eq_true rfl) ?_
  simp only [lwSplit, eqs, reduceCtorEq, implies_true, List.map_cons, List.map_nil, kl, klL, roD, roL, Option.map_some, Option.map_none, Option.getD_some, Option.getD_none, binVal, binObl, unVal, Nat.reduceEqDiff, if_true, if_false, reduceIte, eq_self, passA, frnD, resD, content, getH, getR, getW, viaNot, viaSlot, viaBox, viaDeep, viaMem, List.contains_cons, List.contains_nil, grabs, peeks, okCells, isCell, place, cellsOf, chunk, elt, List.headD_cons, List.length_cons, List.length_nil, List.take_succ_cons, List.take_zero, List.drop_succ_cons, List.drop_zero, Nat.reduceAdd, Nat.reduceSub, Nat.reduceLeDiff, List.nil_append, List.cons_append, List.append_nil, List.all_cons, List.all_nil, plainC, takeR, setW, over, reCell, Int.reduceToNat, List.getElem?_cons_zero, List.getElem?_cons_succ, List.set_cons_zero, List.take_length, outV, resG, plainV, pack, outVG, outBx, List.set_cons_succ, Ref.idx, Ref.addOff, beq_self_eq_true, Nat.reduceBEq, bxL, Option.bind_some, writeR, isLit, viaBoxes, capsPA, boxPA, nsOf, noDup, boxesAt, argG, passG, passD, rhoIn, rhoOut, idxIn, tr, trL, List.getD_cons_zero, gives, pasOf, isPtr]
  have hll := lines_len s
  by_cases h : 5000 < s.length
  · rw [igt_t (by omega)]
    simp only [eqs, reduceCtorEq, implies_true, List.map_cons, List.map_nil, kl, klL, roD, roL, Option.map_some, Option.map_none, Option.getD_some, Option.getD_none, binVal, binObl, unVal, Nat.reduceEqDiff, if_true, if_false, reduceIte, eq_self, passA, frnD, resD, content, getH, getR, getW, viaNot, viaSlot, viaBox, viaDeep, viaMem, List.contains_cons, List.contains_nil, grabs, peeks, okCells, isCell, place, cellsOf, chunk, elt, List.headD_cons, List.length_cons, List.length_nil, List.take_succ_cons, List.take_zero, List.drop_succ_cons, List.drop_zero, Nat.reduceAdd, Nat.reduceSub, Nat.reduceLeDiff, List.nil_append, List.cons_append, List.append_nil, List.all_cons, List.all_nil, plainC, takeR, setW, over, reCell, Int.reduceToNat, List.getElem?_cons_zero, List.getElem?_cons_succ, List.set_cons_zero, List.take_length, outV, resG, plainV, pack, outVG, outBx, List.set_cons_succ, Ref.idx, Ref.addOff, beq_self_eq_true, Nat.reduceBEq, bxL, Option.bind_some, writeR, isLit, viaBoxes, capsPA, boxPA, nsOf, noDup, boxesAt, argG, passG, passD, rhoIn, rhoOut, idxIn, tr, trL, List.getD_cons_zero, gives, pasOf, isPtr]
    refine of_call lives_snd ?_
    simp only [eqs, reduceCtorEq, implies_true, List.map_cons, List.map_nil, kl, klL, roD, roL, Option.map_some, Option.map_none, Option.getD_some, Option.getD_none, binVal, binObl, unVal, Nat.reduceEqDiff, if_true, if_false, reduceIte, eq_self, passA, frnD, resD, content, getH, getR, getW, viaNot, viaSlot, viaBox, viaDeep, viaMem, List.contains_cons, List.contains_nil, grabs, peeks, okCells, isCell, place, cellsOf, chunk, elt, List.headD_cons, List.length_cons, List.length_nil, List.take_succ_cons, List.take_zero, List.drop_succ_cons, List.drop_zero, Nat.reduceAdd, Nat.reduceSub, Nat.reduceLeDiff, List.nil_append, List.cons_append, List.append_nil, List.all_cons, List.all_nil, plainC, takeR, setW, over, reCell, Int.reduceToNat, List.getElem?_cons_zero, List.getElem?_cons_succ, List.set_cons_zero, List.take_length, outV, resG, plainV, pack, outVG, outBx, List.set_cons_succ, Ref.idx, Ref.addOff, beq_self_eq_true, Nat.reduceBEq, bxL, Option.bind_some, writeR, isLit, viaBoxes, capsPA, boxPA, nsOf, noDup, boxesAt, argG, passG, passD, rhoIn, rhoOut, idxIn, tr, trL, List.getD_cons_zero, gives, pasOf, isPtr]
  · rw [igt_f (by omega)]
    simp only [eqs, reduceCtorEq, implies_true, List.map_cons, List.map_nil, kl, klL, roD, roL, Option.map_some, Option.map_none, Option.getD_some, Option.getD_none, binVal, binObl, unVal, Nat.reduceEqDiff, if_true, if_false, reduceIte, eq_self, passA, frnD, resD, content, getH, getR, getW, viaNot, viaSlot, viaBox, viaDeep, viaMem, List.contains_cons, List.contains_nil, grabs, peeks, okCells, isCell, place, cellsOf, chunk, elt, List.headD_cons, List.length_cons, List.length_nil, List.take_succ_cons, List.take_zero, List.drop_succ_cons, List.drop_zero, Nat.reduceAdd, Nat.reduceSub, Nat.reduceLeDiff, List.nil_append, List.cons_append, List.append_nil, List.all_cons, List.all_nil, plainC, takeR, setW, over, reCell, Int.reduceToNat, List.getElem?_cons_zero, List.getElem?_cons_succ, List.set_cons_zero, List.take_length, outV, resG, plainV, pack, outVG, outBx, List.set_cons_succ, Ref.idx, Ref.addOff, beq_self_eq_true, Nat.reduceBEq, bxL, Option.bind_some, writeR, isLit, viaBoxes, capsPA, boxPA, nsOf, noDup, boxesAt, argG, passG, passD, rhoIn, rhoOut, idxIn, tr, trL, List.getD_cons_zero, gives, pasOf, isPtr]
    refine of_call (rshort_snd L 500 5000 hL hf) ?_
    simp only [eqs, reduceCtorEq, implies_true, List.map_cons, List.map_nil, kl, klL, roD, roL, Option.map_some, Option.map_none, Option.getD_some, Option.getD_none, binVal, binObl, unVal, Nat.reduceEqDiff, if_true, if_false, reduceIte, eq_self, passA, frnD, resD, content, getH, getR, getW, viaNot, viaSlot, viaBox, viaDeep, viaMem, List.contains_cons, List.contains_nil, grabs, peeks, okCells, isCell, place, cellsOf, chunk, elt, List.headD_cons, List.length_cons, List.length_nil, List.take_succ_cons, List.take_zero, List.drop_succ_cons, List.drop_zero, Nat.reduceAdd, Nat.reduceSub, Nat.reduceLeDiff, List.nil_append, List.cons_append, List.append_nil, List.all_cons, List.all_nil, plainC, takeR, setW, over, reCell, Int.reduceToNat, List.getElem?_cons_zero, List.getElem?_cons_succ, List.set_cons_zero, List.take_length, outV, resG, plainV, pack, outVG, outBx, List.set_cons_succ, Ref.idx, Ref.addOff, beq_self_eq_true, Nat.reduceBEq, bxL, Option.bind_some, writeR, isLit, viaBoxes, capsPA, boxPA, nsOf, noDup, boxesAt, argG, passG, passD, rhoIn, rhoOut, idxIn, tr, trL, List.getD_cons_zero, gives, pasOf, isPtr]
    cases hsh : short L 500 5000 with
    | false =>
      simp only [eqs, reduceCtorEq, implies_true, List.map_cons, List.map_nil, kl, klL, roD, roL, Option.map_some, Option.map_none, Option.getD_some, Option.getD_none, binVal, binObl, unVal, Nat.reduceEqDiff, if_true, if_false, reduceIte, eq_self, passA, frnD, resD, content, getH, getR, getW, viaNot, viaSlot, viaBox, viaDeep, viaMem, List.contains_cons, List.contains_nil, grabs, peeks, okCells, isCell, place, cellsOf, chunk, elt, List.headD_cons, List.length_cons, List.length_nil, List.take_succ_cons, List.take_zero, List.drop_succ_cons, List.drop_zero, Nat.reduceAdd, Nat.reduceSub, Nat.reduceLeDiff, List.nil_append, List.cons_append, List.append_nil, List.all_cons, List.all_nil, plainC, takeR, setW, over, reCell, Int.reduceToNat, List.getElem?_cons_zero, List.getElem?_cons_succ, List.set_cons_zero, List.take_length, outV, resG, plainV, pack, outVG, outBx, List.set_cons_succ, Ref.idx, Ref.addOff, beq_self_eq_true, Nat.reduceBEq, bxL, Option.bind_some, writeR, isLit, viaBoxes, capsPA, boxPA, nsOf, noDup, boxesAt, argG, passG, passD, rhoIn, rhoOut, idxIn, tr, trL, List.getD_cons_zero, gives, pasOf, isPtr]
      refine of_call lives_snd ?_
      simp only [eqs, reduceCtorEq, implies_true, List.map_cons, List.map_nil, kl, klL, roD, roL, Option.map_some, Option.map_none, Option.getD_some, Option.getD_none, binVal, binObl, unVal, Nat.reduceEqDiff, if_true, if_false, reduceIte, eq_self, passA, frnD, resD, content, getH, getR, getW, viaNot, viaSlot, viaBox, viaDeep, viaMem, List.contains_cons, List.contains_nil, grabs, peeks, okCells, isCell, place, cellsOf, chunk, elt, List.headD_cons, List.length_cons, List.length_nil, List.take_succ_cons, List.take_zero, List.drop_succ_cons, List.drop_zero, Nat.reduceAdd, Nat.reduceSub, Nat.reduceLeDiff, List.nil_append, List.cons_append, List.append_nil, List.all_cons, List.all_nil, plainC, takeR, setW, over, reCell, Int.reduceToNat, List.getElem?_cons_zero, List.getElem?_cons_succ, List.set_cons_zero, List.take_length, outV, resG, plainV, pack, outVG, outBx, List.set_cons_succ, Ref.idx, Ref.addOff, beq_self_eq_true, Nat.reduceBEq, bxL, Option.bind_some, writeR, isLit, viaBoxes, capsPA, boxPA, nsOf, noDup, boxesAt, argG, passG, passD, rhoIn, rhoOut, idxIn, tr, trL, List.getD_cons_zero, gives, pasOf, isPtr]
    | true =>
      simp only [eqs, reduceCtorEq, implies_true, List.map_cons, List.map_nil, kl, klL, roD, roL, Option.map_some, Option.map_none, Option.getD_some, Option.getD_none, binVal, binObl, unVal, Nat.reduceEqDiff, if_true, if_false, reduceIte, eq_self, passA, frnD, resD, content, getH, getR, getW, viaNot, viaSlot, viaBox, viaDeep, viaMem, List.contains_cons, List.contains_nil, grabs, peeks, okCells, isCell, place, cellsOf, chunk, elt, List.headD_cons, List.length_cons, List.length_nil, List.take_succ_cons, List.take_zero, List.drop_succ_cons, List.drop_zero, Nat.reduceAdd, Nat.reduceSub, Nat.reduceLeDiff, List.nil_append, List.cons_append, List.append_nil, List.all_cons, List.all_nil, plainC, takeR, setW, over, reCell, Int.reduceToNat, List.getElem?_cons_zero, List.getElem?_cons_succ, List.set_cons_zero, List.take_length, outV, resG, plainV, pack, outVG, outBx, List.set_cons_succ, Ref.idx, Ref.addOff, beq_self_eq_true, Nat.reduceBEq, bxL, Option.bind_some, writeR, isLit, viaBoxes, capsPA, boxPA, nsOf, noDup, boxesAt, argG, passG, passD, rhoIn, rhoOut, idxIn, tr, trL, List.getD_cons_zero, gives, pasOf, isPtr]
      refine of_call (psplit_snd s hs) ?_
      simp only [eqs, reduceCtorEq, implies_true, List.map_cons, List.map_nil, kl, klL, roD, roL, Option.map_some, Option.map_none, Option.getD_some, Option.getD_none, binVal, binObl, unVal, Nat.reduceEqDiff, if_true, if_false, reduceIte, eq_self, passA, frnD, resD, content, getH, getR, getW, viaNot, viaSlot, viaBox, viaDeep, viaMem, List.contains_cons, List.contains_nil, grabs, peeks, okCells, isCell, place, cellsOf, chunk, elt, List.headD_cons, List.length_cons, List.length_nil, List.take_succ_cons, List.take_zero, List.drop_succ_cons, List.drop_zero, Nat.reduceAdd, Nat.reduceSub, Nat.reduceLeDiff, List.nil_append, List.cons_append, List.append_nil, List.all_cons, List.all_nil, plainC, takeR, setW, over, reCell, Int.reduceToNat, List.getElem?_cons_zero, List.getElem?_cons_succ, List.set_cons_zero, List.take_length, outV, resG, plainV, pack, outVG, outBx, List.set_cons_succ, Ref.idx, Ref.addOff, beq_self_eq_true, Nat.reduceBEq, bxL, Option.bind_some, writeR, isLit, viaBoxes, capsPA, boxPA, nsOf, noDup, boxesAt, argG, passG, passD, rhoIn, rhoOut, idxIn, tr, trL, List.getD_cons_zero, gives, pasOf, isPtr]
      refine of_call (rsplit_snd s hs) ?_
      simp only [eqs, reduceCtorEq, implies_true, List.map_cons, List.map_nil, kl, klL, roD, roL, Option.map_some, Option.map_none, Option.getD_some, Option.getD_none, binVal, binObl, unVal, Nat.reduceEqDiff, if_true, if_false, reduceIte, eq_self, passA, frnD, resD, content, getH, getR, getW, viaNot, viaSlot, viaBox, viaDeep, viaMem, List.contains_cons, List.contains_nil, grabs, peeks, okCells, isCell, place, cellsOf, chunk, elt, List.headD_cons, List.length_cons, List.length_nil, List.take_succ_cons, List.take_zero, List.drop_succ_cons, List.drop_zero, Nat.reduceAdd, Nat.reduceSub, Nat.reduceLeDiff, List.nil_append, List.cons_append, List.append_nil, List.all_cons, List.all_nil, plainC, takeR, setW, over, reCell, Int.reduceToNat, List.getElem?_cons_zero, List.getElem?_cons_succ, List.set_cons_zero, List.take_length, outV, resG, plainV, pack, outVG, outBx, List.set_cons_succ, Ref.idx, Ref.addOff, beq_self_eq_true, Nat.reduceBEq, bxL, Option.bind_some, writeR, isLit, viaBoxes, capsPA, boxPA, nsOf, noDup, boxesAt, argG, passG, passD, rhoIn, rhoOut, idxIn, tr, trL, List.getD_cons_zero, gives, pasOf, isPtr]
      refine of_call (rsame_snd (lines s) (lines s) (by omega) (by omega)) ?_
      simp only [eqs, reduceCtorEq, implies_true, List.map_cons, List.map_nil, kl, klL, roD, roL, Option.map_some, Option.map_none, Option.getD_some, Option.getD_none, binVal, binObl, unVal, Nat.reduceEqDiff, if_true, if_false, reduceIte, eq_self, passA, frnD, resD, content, getH, getR, getW, viaNot, viaSlot, viaBox, viaDeep, viaMem, List.contains_cons, List.contains_nil, grabs, peeks, okCells, isCell, place, cellsOf, chunk, elt, List.headD_cons, List.length_cons, List.length_nil, List.take_succ_cons, List.take_zero, List.drop_succ_cons, List.drop_zero, Nat.reduceAdd, Nat.reduceSub, Nat.reduceLeDiff, List.nil_append, List.cons_append, List.append_nil, List.all_cons, List.all_nil, plainC, takeR, setW, over, reCell, Int.reduceToNat, List.getElem?_cons_zero, List.getElem?_cons_succ, List.set_cons_zero, List.take_length, outV, resG, plainV, pack, outVG, outBx, List.set_cons_succ, Ref.idx, Ref.addOff, beq_self_eq_true, Nat.reduceBEq, bxL, Option.bind_some, writeR, isLit, viaBoxes, capsPA, boxPA, nsOf, noDup, boxesAt, argG, passG, passD, rhoIn, rhoOut, idxIn, tr, trL, List.getD_cons_zero, gives, pasOf, isPtr]
      refine of_call (pjoin_snd L hL hf) ?_
      simp only [eqs, reduceCtorEq, implies_true, List.map_cons, List.map_nil, kl, klL, roD, roL, Option.map_some, Option.map_none, Option.getD_some, Option.getD_none, binVal, binObl, unVal, Nat.reduceEqDiff, if_true, if_false, reduceIte, eq_self, passA, frnD, resD, content, getH, getR, getW, viaNot, viaSlot, viaBox, viaDeep, viaMem, List.contains_cons, List.contains_nil, grabs, peeks, okCells, isCell, place, cellsOf, chunk, elt, List.headD_cons, List.length_cons, List.length_nil, List.take_succ_cons, List.take_zero, List.drop_succ_cons, List.drop_zero, Nat.reduceAdd, Nat.reduceSub, Nat.reduceLeDiff, List.nil_append, List.cons_append, List.append_nil, List.all_cons, List.all_nil, plainC, takeR, setW, over, reCell, Int.reduceToNat, List.getElem?_cons_zero, List.getElem?_cons_succ, List.set_cons_zero, List.take_length, outV, resG, plainV, pack, outVG, outBx, List.set_cons_succ, Ref.idx, Ref.addOff, beq_self_eq_true, Nat.reduceBEq, bxL, Option.bind_some, writeR, isLit, viaBoxes, capsPA, boxPA, nsOf, noDup, boxesAt, argG, passG, passD, rhoIn, rhoOut, idxIn, tr, trL, List.getD_cons_zero, gives, pasOf, isPtr]
      refine of_call (rjoin_snd L hL hf) ?_
      simp only [eqs, reduceCtorEq, implies_true, List.map_cons, List.map_nil, kl, klL, roD, roL, Option.map_some, Option.map_none, Option.getD_some, Option.getD_none, binVal, binObl, unVal, Nat.reduceEqDiff, if_true, if_false, reduceIte, eq_self, passA, frnD, resD, content, getH, getR, getW, viaNot, viaSlot, viaBox, viaDeep, viaMem, List.contains_cons, List.contains_nil, grabs, peeks, okCells, isCell, place, cellsOf, chunk, elt, List.headD_cons, List.length_cons, List.length_nil, List.take_succ_cons, List.take_zero, List.drop_succ_cons, List.drop_zero, Nat.reduceAdd, Nat.reduceSub, Nat.reduceLeDiff, List.nil_append, List.cons_append, List.append_nil, List.all_cons, List.all_nil, plainC, takeR, setW, over, reCell, Int.reduceToNat, List.getElem?_cons_zero, List.getElem?_cons_succ, List.set_cons_zero, List.take_length, outV, resG, plainV, pack, outVG, outBx, List.set_cons_succ, Ref.idx, Ref.addOff, beq_self_eq_true, Nat.reduceBEq, bxL, Option.bind_some, writeR, isLit, viaBoxes, capsPA, boxPA, nsOf, noDup, boxesAt, argG, passG, passD, rhoIn, rhoOut, idxIn, tr, trL, List.getD_cons_zero, gives, pasOf, isPtr]
      refine of_call (pfirst_snd s hs) ?_
      simp only [eqs, reduceCtorEq, implies_true, List.map_cons, List.map_nil, kl, klL, roD, roL, Option.map_some, Option.map_none, Option.getD_some, Option.getD_none, binVal, binObl, unVal, Nat.reduceEqDiff, if_true, if_false, reduceIte, eq_self, passA, frnD, resD, content, getH, getR, getW, viaNot, viaSlot, viaBox, viaDeep, viaMem, List.contains_cons, List.contains_nil, grabs, peeks, okCells, isCell, place, cellsOf, chunk, elt, List.headD_cons, List.length_cons, List.length_nil, List.take_succ_cons, List.take_zero, List.drop_succ_cons, List.drop_zero, Nat.reduceAdd, Nat.reduceSub, Nat.reduceLeDiff, List.nil_append, List.cons_append, List.append_nil, List.all_cons, List.all_nil, plainC, takeR, setW, over, reCell, Int.reduceToNat, List.getElem?_cons_zero, List.getElem?_cons_succ, List.set_cons_zero, List.take_length, outV, resG, plainV, pack, outVG, outBx, List.set_cons_succ, Ref.idx, Ref.addOff, beq_self_eq_true, Nat.reduceBEq, bxL, Option.bind_some, writeR, isLit, viaBoxes, capsPA, boxPA, nsOf, noDup, boxesAt, argG, passG, passD, rhoIn, rhoOut, idxIn, tr, trL, List.getD_cons_zero, gives, pasOf, isPtr]
      refine of_call (rfirst_snd s hs) ?_
      simp only [eqs, reduceCtorEq, implies_true, List.map_cons, List.map_nil, kl, klL, roD, roL, Option.map_some, Option.map_none, Option.getD_some, Option.getD_none, binVal, binObl, unVal, Nat.reduceEqDiff, if_true, if_false, reduceIte, eq_self, passA, frnD, resD, content, getH, getR, getW, viaNot, viaSlot, viaBox, viaDeep, viaMem, List.contains_cons, List.contains_nil, grabs, peeks, okCells, isCell, place, cellsOf, chunk, elt, List.headD_cons, List.length_cons, List.length_nil, List.take_succ_cons, List.take_zero, List.drop_succ_cons, List.drop_zero, Nat.reduceAdd, Nat.reduceSub, Nat.reduceLeDiff, List.nil_append, List.cons_append, List.append_nil, List.all_cons, List.all_nil, plainC, takeR, setW, over, reCell, Int.reduceToNat, List.getElem?_cons_zero, List.getElem?_cons_succ, List.set_cons_zero, List.take_length, outV, resG, plainV, pack, outVG, outBx, List.set_cons_succ, Ref.idx, Ref.addOff, beq_self_eq_true, Nat.reduceBEq, bxL, Option.bind_some, writeR, isLit, viaBoxes, capsPA, boxPA, nsOf, noDup, boxesAt, argG, passG, passD, rhoIn, rhoOut, idxIn, tr, trL, List.getD_cons_zero, gives, pasOf, isPtr]
      refine of_call lives_snd ?_
      simp only [eqs, reduceCtorEq, implies_true, List.map_cons, List.map_nil, kl, klL, roD, roL, Option.map_some, Option.map_none, Option.getD_some, Option.getD_none, binVal, binObl, unVal, Nat.reduceEqDiff, if_true, if_false, reduceIte, eq_self, passA, frnD, resD, content, getH, getR, getW, viaNot, viaSlot, viaBox, viaDeep, viaMem, List.contains_cons, List.contains_nil, grabs, peeks, okCells, isCell, place, cellsOf, chunk, elt, List.headD_cons, List.length_cons, List.length_nil, List.take_succ_cons, List.take_zero, List.drop_succ_cons, List.drop_zero, Nat.reduceAdd, Nat.reduceSub, Nat.reduceLeDiff, List.nil_append, List.cons_append, List.append_nil, List.all_cons, List.all_nil, plainC, takeR, setW, over, reCell, Int.reduceToNat, List.getElem?_cons_zero, List.getElem?_cons_succ, List.set_cons_zero, List.take_length, outV, resG, plainV, pack, outVG, outBx, List.set_cons_succ, Ref.idx, Ref.addOff, beq_self_eq_true, Nat.reduceBEq, bxL, Option.bind_some, writeR, isLit, viaBoxes, capsPA, boxPA, nsOf, noDup, boxesAt, argG, passG, passD, rhoIn, rhoOut, idxIn, tr, trL, List.getD_cons_zero, gives, pasOf, isPtr]
end Go.Ln

/- LinesSplit: the card, by the second form. -/
namespace Go.Proofs.YtolghafejibajaaDoor.linesSplit
open Go.ChangeShapes Go.WideShapes Go.ChangeAt Go.RowKit
open Go.ChangeMaps (open_string shut_string)
open Go.Ev (X0 old Bs ss TabsAt RelT)
set_option linter.unusedVariables false

theorem contract (H : Type) (enc : TypeId × Value → H) (W : World) (base : Nat) (args : Array Value) (ds gs : List (DataW H)) (before : List MemPlace)
    (hval : ∀ (j : Nat) t v, Tryd.f12.params[j]? = some t → args[j]? = some v → Value.okWide Tryd.prog W .any base t v)
    (hW : DataW.Whole enc Tryd.prog Tryd.f12.params.toList Rows.linesSplitSpec.vars false W args.toList ds gs before) (hk : Rows.uptoSmall H (ds ++ gs) = true) (hsh : W.ShapedOpen Tryd.prog) :
    Calls Tryd.prog 12 args W fun e W' => ∃ v, e = .returned v ∧ Rows.linesSplitSpec.post enc Tryd.prog Tryd.f12 false true false false W args v W' := by
  refine Ev.contract_law laidOut (by kernel_rfl) rfl (tb := 4) (by kernel_rfl) (by kernel_rfl) Tryd.underlying4 (fun ds hd => ?_) hW ?_
  · rw [Tryd.params12] at hd
    match ds, hd with
    | [d0, d1], _ => rfl
  · obtain ⟨p, q, hA0, hV, rfl, hfz, hnd⟩ := hW
    have hA : DataW.TrodAll enc Tryd.prog W 0 (fun _ => true) true Tryd.f12.params.toList args.toList ds p := hA0
    rw [Tryd.params12] at hA hval
    obtain ⟨v0, vs0, d0, ds0, p0, q0, hargs, rfl, rfl, h0, r0⟩ := trodAll_cons hA
    obtain ⟨v1, vs1, d1, ds1, p1, q1, rfl, rfl, rfl, h1, r1⟩ := trodAll_cons r0
    obtain ⟨rfl, rfl, rfl⟩ := trodAll_nil r1
    obtain rfl : args = #[v0, v1] := by cases args; simp_all
    obtain ⟨rfl, rfl⟩ := trodVars_none hV
    obtain ⟨s0, rfl, rfl, rfl, hmax0⟩ := open_string Tryd.underlying9 (hval 0 9 v0 rfl rfl) h0
    obtain ⟨L1, hr1, hd1⟩ := Ev.rel_strings Tryd.underlying25 Tryd.underlying9 cells9 (hval 1 25 v1 rfl rfl) h1
    obtain ⟨m, hm⟩ := maxLen_at hsh
    have hb0 := bulk_small hk
    simp only [List.append_nil] at hb0
    have hb1 := bulk_string hb0
    have hb2 := bulk_strings hd1 (Nat.le_trans (Nat.le_add_left _ _) hb1)
    exact Ev.calls_law (Ln.split_law s0.data.toList L1 (by omega) (by omega) (by omega)) (tabs hm) (.cons _ _ _ [] _ _ [] Ev.rel_string (.cons _ _ _ [] _ _ [] hr1 (.nil _) (fun b hb => (List.not_mem_nil hb).elim)) (fun b hb => (List.not_mem_nil hb).elim))

theorem reads (os : Os) {H : Type} (enc : TypeId × Value → H) : ∃ places, DataW.whole enc Tryd.prog ((laidWorld os).forCall (fun _ _ => 0) ⟨#[], #[.string ⟨#[]⟩, .slice none 0 0], []⟩).memory Tryd.f12.params.toList Rows.linesSplitSpec.vars false #[Value.string ⟨#[]⟩, Value.slice none 0 0].toList 8 = some ([.lit (.string []), .nil], [], places) :=
  ⟨[], by kernel_rfl⟩

set_option maxRecDepth 100000 in
theorem lifted (os : Os) (started : os.Started) (H : Type) (enc : TypeId × Value → H) (F : Stop.Interp) :
    ReturnsInHanded {} Tryd.checked os 12 .any ((Rows.OpenSpec.upto Rows.linesSplitSpec).preRow enc Tryd.prog Tryd.f12 Rows.linesSplitUptoRow.domain false Rows.linesSplitUptoRow.laid) (((Rows.OpenSpec.upto Rows.linesSplitSpec).at F).post enc Tryd.prog Tryd.f12 false true false false) := by
  obtain ⟨places, hx⟩ := reads os enc
  refine returnsInHanded_of_row (C := Tryd.checked) (s := Rows.OpenSpec.upto Rows.linesSplitSpec) own started (by kernel_rfl) Tryd.func12
    (witness_row_at (enc := enc) (C := Tryd.checked) false (laidWorld os) #[.string ⟨#[]⟩, .slice none 0 0] rfl (by kernel_rfl) (by kernel_rfl) (by kernel_rfl)
      (OpenSpec.preRow_of_cond 8 hx (by kernel_rfl) (fun k hk => by cases hk; kernel_rfl) (by kernel_rfl) (laid_met os _))) ?_
  intro W base args ds gs before hval hW _ hcond _ hL hsh _
  exact contract H enc W base args ds gs before hval hW (hcond _ rfl) hsh

theorem said : Rows.LinesSplitUptoSaid :=
  OpenClaim.holds_of_cond 12 Tryd.f12 rfl rfl rfl rfl rfl rfl rfl ⟨rfl, rfl, rfl, rfl, rfl⟩ rfl rfl rfl rfl rfl (by kernel_rfl) Tryd.func12 (by kernel_rfl)
    (of_decide_eq_true (by kernel_rfl)) (by unfold Func.isWrapper; first | (rw [if_pos (by decide +kernel)]; kernel_rfl) | (rw [if_neg (by decide +kernel)]; exact ⟨rfl, rfl⟩))
    (fun os started H enc _ F => by rw [OpenClaim.pre_eq_preRow]; exact lifted os started H enc F)

theorem plain (f : FuncId) (fn : Func) (hf : Tryd.pinned.checked.prog.funcNamed "graftage/graftagelaw05.LinesSplit" = some f) (hfn : Tryd.pinned.checked.prog.funcs[f]? = some fn) :
    false = Tryd.pinned.checked.prog.looks [] ∧ ∀ (j : Nat) t, fn.params[j]? = some t → Tryd.pinned.checked.prog.wantsStandIn t = false := by
  obtain rfl : f = 12 := Option.some.inj ((show Tryd.prog.funcNamed "graftage/graftagelaw05.LinesSplit" = some 12 by kernel_rfl).symm.trans hf) |>.symm
  obtain rfl : fn = Tryd.f12 := (Option.some.inj (Tryd.func12.symm.trans hfn)).symm
  refine ⟨by kernel_rfl, fun j t ht => ?_⟩
  rw [Tryd.params12] at ht
  have ht := Array.mem_of_getElem? ht
  simp only [Array.mem_def, List.mem_cons, List.not_mem_nil, or_false] at ht
  rcases ht with rfl | rfl
  · exact (show Tryd.prog.wantsStandIn 9 = false by kernel_rfl)
  · exact (show Tryd.prog.wantsStandIn 25 = false by kernel_rfl)

theorem holds : Rows.LinesSplitUptoCardSaid :=
  Claim7.holds_tied_plain_at .later [] _ _ _ _ said (fun _ h => by cases h) (by kernel_rfl) (fun _ h => by cases h) linesSplitUpto_row_tie rfl ⟨rfl, rfl⟩ (by kernel_rfl) rfl plain (by kernel_rfl)
#print axioms holds
end Go.Proofs.YtolghafejibajaaDoor.linesSplit

