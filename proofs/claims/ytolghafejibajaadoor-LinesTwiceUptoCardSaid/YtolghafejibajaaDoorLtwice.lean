import Derived.Test.YtolghafejibajaaDoorLnC
import Derived.Test.YtolghafejibajaaDoorLnD
import Derived.Test.YtolghafejibajaaDoorLnX
/- Lines: LinesTwice. -/
namespace Go.Ln
open Go Go.Ev Go.Proofs
set_option linter.unusedVariables false
set_option linter.unusedSimpArgs false
variable {m : Int}

def lwTwice_l0' : AC := .seq (.reg (.seq [⟨(some (14, false)), none, .bin .lss (.tmp 13 true) (.tmp 12 true)⟩])) [0, 3, 12, 13, 14] []
  (.seq (.cond (.tmp 14 false)
    (.skip)
    (.exit 0)) [0, 3, 12, 13] []
  (.seq (.block 1 (.seq (.reg (.seq [⟨(some (15, false)), none, .mov (.tmp 13 true) .take⟩,
      ⟨(some (4, true)), none, .mov (.tmp 15 false) .asg⟩])) [0, 3, 4, 12, 13] []
    (.reg (.seq [⟨(some (16, false)), none, .mov (.tmp 3 true) .peek⟩,
      ⟨(some (17, false)), none, .mov (.tmp 16 false) .peek⟩,
      ⟨(some (18, false)), (some (17, true)), .mov (.tmp 0 true) .peek⟩,
      ⟨(some (19, false)), (some (17, true)), .mov (.tmp 4 true) .peek⟩,
      ⟨(some (20, false)), (some (17, true)), .idx (.tmp 18 false) (.tmp 19 false)⟩,
      ⟨(some (21, false)), (some (17, true)), .bin .neq (.tmp 20 false) (.cst (.int .u8 13) (.lit (.int .u8 13)))⟩,
      ⟨(some (22, false)), none, .pick (.tmp 17 false) (.tmp 21 false) (.cst (.bool false) (.lit (.bool false)))⟩,
      ⟨(some (3, true)), none, .mov (.tmp 22 false) .asg⟩])))) [0, 3, 12, 13] []
  (.reg (.seq [⟨(some (23, false)), none, .bin .add (.tmp 13 true) (.cst (.int .i64 1) (.lit (.int .i64 1)))⟩,
      ⟨(some (13, true)), none, .mov (.tmp 23 false) .peek⟩]))))
def lwTwice_l0 : AC := lwTwice_l0'
theorem lwTwice_l0_w (C : Kn) (K : Ex → St → Prop) (s : St) : vcC C lwTwice_l0 K s = vcC C lwTwice_l0' K s := nr rfl
def lwTwice_k1' : AC := .seq (.reg (.seq [⟨(some (24, false)), none, .mov (.tmp 0 true) .peek⟩,
      ⟨(some (25, false)), none, .call 19 [(.tmp 24 false)]⟩,
      ⟨(some (5, true)), none, .mov (.tmp 25 false) .asg⟩])) [0, 3, 5] []
  (.seq (.reg (.seq [⟨(some (26, false)), none, .mov (.tmp 0 true) .peek⟩,
      ⟨(some (27, false)), none, .call 17 [(.tmp 26 false)]⟩,
      ⟨(some (6, true)), none, .mov (.tmp 27 false) .asg⟩])) [0, 3, 5, 6] []
  (.seq (.reg (.seq [⟨(some (28, false)), none, .mov (.tmp 3 true) .peek⟩,
      ⟨(some (29, false)), none, .un .not (.tmp 28 false)⟩,
      ⟨(some (30, false)), none, .mov (.tmp 29 false) .peek⟩,
      ⟨(some (31, false)), (some (30, false)), .mov (.tmp 0 true) .peek⟩,
      ⟨(some (32, false)), (some (30, false)), .call 20 [(.tmp 31 false)]⟩,
      ⟨(some (33, false)), (some (30, false)), .mov (.tmp 0 true) .peek⟩,
      ⟨(some (34, false)), (some (30, false)), .bin .eql (.tmp 32 false) (.tmp 33 false)⟩,
      ⟨(some (35, false)), none, .pick (.tmp 30 false) (.cst (.bool true) (.lit (.bool true))) (.tmp 34 false)⟩,
      ⟨(some (36, false)), none, .mov (.tmp 35 false) .peek⟩,
      ⟨(some (37, false)), (some (36, true)), .mov (.tmp 5 true) .peek⟩,
      ⟨(some (38, false)), (some (36, true)), .call 19 [(.tmp 37 false)]⟩,
      ⟨(some (39, false)), (some (36, true)), .mov (.tmp 5 true) .peek⟩,
      ⟨(some (40, false)), (some (36, true)), .bin .eql (.tmp 38 false) (.tmp 39 false)⟩,
      ⟨(some (41, false)), none, .pick (.tmp 36 false) (.tmp 40 false) (.cst (.bool false) (.lit (.bool false)))⟩,
      ⟨(some (42, false)), none, .mov (.tmp 41 false) .peek⟩,
      ⟨(some (43, false)), (some (42, true)), .mov (.tmp 6 true) .peek⟩,
      ⟨(some (44, false)), (some (42, true)), .call 17 [(.tmp 43 false)]⟩,
      ⟨(some (45, false)), (some (42, true)), .mov (.tmp 6 true) .peek⟩,
      ⟨(some (46, false)), (some (42, true)), .bin .eql (.tmp 44 false) (.tmp 45 false)⟩,
      ⟨(some (47, false)), none, .pick (.tmp 42 false) (.tmp 46 false) (.cst (.bool false) (.lit (.bool false)))⟩,
      ⟨(some (48, false)), none, .mov (.tmp 47 false) .peek⟩,
      ⟨(some (49, false)), (some (48, true)), .mov (.tmp 5 true) .peek⟩,
      ⟨(some (50, false)), (some (48, true)), .call 20 [(.tmp 49 false)]⟩,
      ⟨(some (51, false)), (some (48, true)), .mov (.tmp 0 true) .peek⟩,
      ⟨(some (52, false)), (some (48, true)), .call 20 [(.tmp 51 false)]⟩,
      ⟨(some (53, false)), (some (48, true)), .bin .eql (.tmp 50 false) (.tmp 52 false)⟩,
      ⟨(some (54, false)), none, .pick (.tmp 48 false) (.tmp 53 false) (.cst (.bool false) (.lit (.bool false)))⟩,
      ⟨(some (55, false)), none, .mov (.tmp 54 false) .peek⟩,
      ⟨(some (56, false)), (some (55, true)), .call 16 []⟩,
      ⟨(some (57, false)), none, .pick (.tmp 55 false) (.tmp 56 false) (.cst (.bool false) (.lit (.bool false)))⟩,
      ⟨(some (2, true)), none, .mov (.tmp 57 false) .asg⟩])) [2] []
  (.ret)))
def lwTwice_k1 : AC := lwTwice_k1'
theorem lwTwice_k1_w (C : Kn) (K : Ex → St → Prop) (s : St) : vcC C lwTwice_k1 K s = vcC C lwTwice_k1' K s := nr rfl
def lwTwice : AF := ⟨.seq (.reg (.seq [⟨(some (2, true)), none, .mov (.cst (.bool false) (.lit (.bool false))) .asg⟩])) [0] []
  (.seq (.seq (.reg (.seq [⟨(some (7, false)), none, .mov (.tmp 0 true) .peek⟩,
      ⟨(some (8, false)), none, .len (.tmp 7 false)⟩,
      ⟨(some (9, false)), none, .bin .gtr (.tmp 8 false) (.cst (.int .i64 5000) (.lit (.int .i64 5000)))⟩])) [0, 9] []
  (.cond (.tmp 9 false)
    (.seq (.reg (.seq [⟨(some (10, false)), none, .call 16 []⟩,
      ⟨(some (2, true)), none, .mov (.tmp 10 false) .asg⟩])) [2] []
    (.ret))
    (.skip))) [0] []
  (.seq (.reg (.seq [⟨(some (3, true)), none, .mov (.cst (.bool true) (.lit (.bool true))) .asg⟩])) [0, 3] []
  (.seq (.seq (.reg (.seq [⟨(some (11, false)), none, .mov (.tmp 0 true) .peek⟩,
      ⟨(some (12, true)), none, .len (.tmp 11 false)⟩,
      ⟨(some (13, true)), none, .mov (.cst (.int .i64 0) (.lit (.int .i64 0))) .peek⟩])) [0, 3, 12, 13] []
  (.block 0 (.loop [0, 3, 12, 13] [] lwTwice_l0))) [0, 3] [] lwTwice_k1))),
  [.tmp 2]⟩
theorem lwTwice_comp (m : Int) : compF Tryd.prog (gl m) [] Tryd.f4 = some lwTwice := by kernel_rfl
theorem free_step {s : Bs} {i : Nat} (h : i < s.length) : decide (13 ∉ s.take (i + 1)) = (decide (13 ∉ s.take i) && decide (s[i] ≠ 13)) := by
  have e : 13 ∈ s.take (i + 1) ↔ 13 ∈ s.take i ∨ s[i] = 13 := by
    rw [List.take_succ_eq_append_getElem h, List.mem_append, List.mem_singleton]
    exact ⟨fun q => q.imp id Eq.symm, fun q => q.imp id Eq.symm⟩
  rw [Bool.eq_iff_iff, Bool.and_eq_true, decide_eq_true_iff, decide_eq_true_iff, decide_eq_true_iff, e, not_or]
theorem twice_end (s : Bs) (hs : s.length ≤ 5000) : vcC (kn m) lwTwice_k1 (outOk [.tmp 2] (B true)) (mkS [(0, S s), (3, B (decide (13 ∉ s)))] []) := by
  simp only [lwTwice_k1_w, lwTwice_k1', eqs, reduceCtorEq, implies_true, List.map_cons, List.map_nil, kl, klL, roD, roL, Option.map_some, Option.map_none, Option.getD_some, Option.getD_none, binVal, binObl, unVal, Nat.reduceEqDiff, if_true, if_false, reduceIte, eq_self, passA, frnD, resD, content, getH, getR, getW, viaNot, viaSlot, viaBox, viaDeep, viaMem, List.contains_cons, List.contains_nil, grabs, peeks, okCells, isCell, place, cellsOf, chunk, elt, List.headD_cons, List.length_cons, List.length_nil, List.take_succ_cons, List.take_zero, List.drop_succ_cons, List.drop_zero, Nat.reduceAdd, Nat.reduceSub, Nat.reduceLeDiff, List.nil_append, List.cons_append, List.append_nil, List.all_cons, List.all_nil, plainC, takeR, setW, over, reCell, Int.reduceToNat, List.getElem?_cons_zero, List.getElem?_cons_succ, List.set_cons_zero, List.take_length, outV, resG, plainV, pack, outVG, outBx, List.set_cons_succ, Ref.idx, Ref.addOff, beq_self_eq_true, Nat.reduceBEq, bxL, Option.bind_some, writeR, isLit, viaBoxes, capsPA, boxPA, nsOf, noDup, boxesAt, argG, passG, passD, rhoIn, rhoOut, idxIn, tr, trL, List.getD_cons_zero, gives, pasOf, isPtr]
  have h1 := crlf_len 0 s
  have h2 := cleanP_len s
  refine of_call (tocrlf_snd s (by omega)) ?_
  simp only [eqs, reduceCtorEq, implies_true, List.map_cons, List.map_nil, kl, klL, roD, roL, Option.map_some, Option.map_none, Option.getD_some, Option.getD_none, binVal, binObl, unVal, Nat.reduceEqDiff, if_true, if_false, reduceIte, eq_self, passA, frnD, resD, content, getH, getR, getW, viaNot, viaSlot, viaBox, viaDeep, viaMem, List.contains_cons, List.contains_nil, grabs, peeks, okCells, isCell, place, cellsOf, chunk, elt, List.headD_cons, List.length_cons, List.length_nil, List.take_succ_cons, List.take_zero, List.drop_succ_cons, List.drop_zero, Nat.reduceAdd, Nat.reduceSub, Nat.reduceLeDiff, List.nil_append, List.cons_append, List.append_nil, List.all_cons, List.all_nil, plainC, takeR, setW, over, reCell, Int.reduceToNat, List.getElem?_cons_zero, List.getElem?_cons_succ, List.set_cons_zero, List.take_length, outV, resG, plainV, pack, outVG, outBx, List.set_cons_succ, Ref.idx, Ref.addOff, beq_self_eq_true, Nat.reduceBEq, bxL, Option.bind_some, writeR, isLit, viaBoxes, capsPA, boxPA, nsOf, noDup, boxesAt, argG, passG, passD, rhoIn, rhoOut, idxIn, tr, trL, List.getD_cons_zero, gives, pasOf, isPtr]
  refine of_call (pclean_snd s (by omega)) ?_
  simp only [unVal, eqs, reduceCtorEq, implies_true, List.map_cons, List.map_nil, kl, klL, roD, roL, Option.map_some, Option.map_none, Option.getD_some, Option.getD_none, binVal, binObl, unVal, Nat.reduceEqDiff, if_true, if_false, reduceIte, eq_self, passA, frnD, resD, content, getH, getR, getW, viaNot, viaSlot, viaBox, viaDeep, viaMem, List.contains_cons, List.contains_nil, grabs, peeks, okCells, isCell, place, cellsOf, chunk, elt, List.headD_cons, List.length_cons, List.length_nil, List.take_succ_cons, List.take_zero, List.drop_succ_cons, List.drop_zero, Nat.reduceAdd, Nat.reduceSub, Nat.reduceLeDiff, List.nil_append, List.cons_append, List.append_nil, List.all_cons, List.all_nil, plainC, takeR, setW, over, reCell, Int.reduceToNat, List.getElem?_cons_zero, List.getElem?_cons_succ, List.set_cons_zero, List.take_length, outV, resG, plainV, pack, outVG, outBx, List.set_cons_succ, Ref.idx, Ref.addOff, beq_self_eq_true, Nat.reduceBEq, bxL, Option.bind_some, writeR, isLit, viaBoxes, capsPA, boxPA, nsOf, noDup, boxesAt, argG, passG, passD, rhoIn, rhoOut, idxIn, tr, trL, List.getD_cons_zero, gives, pasOf, isPtr]
  cases hd : decide (13 ∉ s) with
  | false =>
    simp only [eqs, reduceCtorEq, implies_true, List.map_cons, List.map_nil, kl, klL, roD, roL, Option.map_some, Option.map_none, Option.getD_some, Option.getD_none, binVal, binObl, unVal, Nat.reduceEqDiff, if_true, if_false, reduceIte, eq_self, passA, frnD, resD, content, getH, getR, getW, viaNot, viaSlot, viaBox, viaDeep, viaMem, List.contains_cons, List.contains_nil, grabs, peeks, okCells, isCell, place, cellsOf, chunk, elt, List.headD_cons, List.length_cons, List.length_nil, List.take_succ_cons, List.take_zero, List.drop_succ_cons, List.drop_zero, Nat.reduceAdd, Nat.reduceSub, Nat.reduceLeDiff, List.nil_append, List.cons_append, List.append_nil, List.all_cons, List.all_nil, plainC, takeR, setW, over, reCell, Int.reduceToNat, List.getElem?_cons_zero, List.getElem?_cons_succ, List.set_cons_zero, List.take_length, outV, resG, plainV, pack, outVG, outBx, List.set_cons_succ, Ref.idx, Ref.addOff, beq_self_eq_true, Nat.reduceBEq, bxL, Option.bind_some, writeR, isLit, viaBoxes, capsPA, boxPA, nsOf, noDup, boxesAt, argG, passG, passD, rhoIn, rhoOut, idxIn, tr, trL, List.getD_cons_zero, gives, pasOf, isPtr]
    refine of_call (tocrlf_snd (crlf 0 s) (by omega)) ?_
    rw [crlf_crlf]
    simp only [eqs, reduceCtorEq, implies_true, List.map_cons, List.map_nil, kl, klL, roD, roL, Option.map_some, Option.map_none, Option.getD_some, Option.getD_none, binVal, binObl, unVal, Nat.reduceEqDiff, if_true, if_false, reduceIte, eq_self, passA, frnD, resD, content, getH, getR, getW, viaNot, viaSlot, viaBox, viaDeep, viaMem, List.contains_cons, List.contains_nil, grabs, peeks, okCells, isCell, place, cellsOf, chunk, elt, List.headD_cons, List.length_cons, List.length_nil, List.take_succ_cons, List.take_zero, List.drop_succ_cons, List.drop_zero, Nat.reduceAdd, Nat.reduceSub, Nat.reduceLeDiff, List.nil_append, List.cons_append, List.append_nil, List.all_cons, List.all_nil, plainC, takeR, setW, over, reCell, Int.reduceToNat, List.getElem?_cons_zero, List.getElem?_cons_succ, List.set_cons_zero, List.take_length, outV, resG, plainV, pack, outVG, outBx, List.set_cons_succ, Ref.idx, Ref.addOff, beq_self_eq_true, Nat.reduceBEq, bxL, Option.bind_some, writeR, isLit, viaBoxes, capsPA, boxPA, nsOf, noDup, boxesAt, argG, passG, passD, rhoIn, rhoOut, idxIn, tr, trL, List.getD_cons_zero, gives, pasOf, isPtr]
    refine of_call (pclean_snd (cleanP s) (by omega)) ?_
    rw [clean_twice]
    simp only [eqs, reduceCtorEq, implies_true, List.map_cons, List.map_nil, kl, klL, roD, roL, Option.map_some, Option.map_none, Option.getD_some, Option.getD_none, binVal, binObl, unVal, Nat.reduceEqDiff, if_true, if_false, reduceIte, eq_self, passA, frnD, resD, content, getH, getR, getW, viaNot, viaSlot, viaBox, viaDeep, viaMem, List.contains_cons, List.contains_nil, grabs, peeks, okCells, isCell, place, cellsOf, chunk, elt, List.headD_cons, List.length_cons, List.length_nil, List.take_succ_cons, List.take_zero, List.drop_succ_cons, List.drop_zero, Nat.reduceAdd, Nat.reduceSub, Nat.reduceLeDiff, List.nil_append, List.cons_append, List.append_nil, List.all_cons, List.all_nil, plainC, takeR, setW, over, reCell, Int.reduceToNat, List.getElem?_cons_zero, List.getElem?_cons_succ, List.set_cons_zero, List.take_length, outV, resG, plainV, pack, outVG, outBx, List.set_cons_succ, Ref.idx, Ref.addOff, beq_self_eq_true, Nat.reduceBEq, bxL, Option.bind_some, writeR, isLit, viaBoxes, capsPA, boxPA, nsOf, noDup, boxesAt, argG, passG, passD, rhoIn, rhoOut, idxIn, tr, trL, List.getD_cons_zero, gives, pasOf, isPtr]
    refine of_call (tolf_snd (crlf 0 s) (by omega)) ?_
    rw [lf_crlf]
    simp only [eqs, reduceCtorEq, implies_true, List.map_cons, List.map_nil, kl, klL, roD, roL, Option.map_some, Option.map_none, Option.getD_some, Option.getD_none, binVal, binObl, unVal, Nat.reduceEqDiff, if_true, if_false, reduceIte, eq_self, passA, frnD, resD, content, getH, getR, getW, viaNot, viaSlot, viaBox, viaDeep, viaMem, List.contains_cons, List.contains_nil, grabs, peeks, okCells, isCell, place, cellsOf, chunk, elt, List.headD_cons, List.length_cons, List.length_nil, List.take_succ_cons, List.take_zero, List.drop_succ_cons, List.drop_zero, Nat.reduceAdd, Nat.reduceSub, Nat.reduceLeDiff, List.nil_append, List.cons_append, List.append_nil, List.all_cons, List.all_nil, plainC, takeR, setW, over, reCell, Int.reduceToNat, List.getElem?_cons_zero, List.getElem?_cons_succ, List.set_cons_zero, List.take_length, outV, resG, plainV, pack, outVG, outBx, List.set_cons_succ, Ref.idx, Ref.addOff, beq_self_eq_true, Nat.reduceBEq, bxL, Option.bind_some, writeR, isLit, viaBoxes, capsPA, boxPA, nsOf, noDup, boxesAt, argG, passG, passD, rhoIn, rhoOut, idxIn, tr, trL, List.getD_cons_zero, gives, pasOf, isPtr]
    refine of_call (tolf_snd s (by omega)) ?_
    simp only [eqs, reduceCtorEq, implies_true, List.map_cons, List.map_nil, kl, klL, roD, roL, Option.map_some, Option.map_none, Option.getD_some, Option.getD_none, binVal, binObl, unVal, Nat.reduceEqDiff, if_true, if_false, reduceIte, eq_self, passA, frnD, resD, content, getH, getR, getW, viaNot, viaSlot, viaBox, viaDeep, viaMem, List.contains_cons, List.contains_nil, grabs, peeks, okCells, isCell, place, cellsOf, chunk, elt, List.headD_cons, List.length_cons, List.length_nil, List.take_succ_cons, List.take_zero, List.drop_succ_cons, List.drop_zero, Nat.reduceAdd, Nat.reduceSub, Nat.reduceLeDiff, List.nil_append, List.cons_append, List.append_nil, List.all_cons, List.all_nil, plainC, takeR, setW, over, reCell, Int.reduceToNat, List.getElem?_cons_zero, List.getElem?_cons_succ, List.set_cons_zero, List.take_length, outV, resG, plainV, pack, outVG, outBx, List.set_cons_succ, Ref.idx, Ref.addOff, beq_self_eq_true, Nat.reduceBEq, bxL, Option.bind_some, writeR, isLit, viaBoxes, capsPA, boxPA, nsOf, noDup, boxesAt, argG, passG, passD, rhoIn, rhoOut, idxIn, tr, trL, List.getD_cons_zero, gives, pasOf, isPtr]
    refine of_call lives_snd ?_
    simp only [eqs, reduceCtorEq, implies_true, List.map_cons, List.map_nil, kl, klL, roD, roL, Option.map_some, Option.map_none, Option.getD_some, Option.getD_none, binVal, binObl, unVal, Nat.reduceEqDiff, if_true, if_false, reduceIte, eq_self, passA, frnD, resD, content, getH, getR, getW, viaNot, viaSlot, viaBox, viaDeep, viaMem, List.contains_cons, List.contains_nil, grabs, peeks, okCells, isCell, place, cellsOf, chunk, elt, List.headD_cons, List.length_cons, List.length_nil, List.take_succ_cons, List.take_zero, List.drop_succ_cons, List.drop_zero, Nat.reduceAdd, Nat.reduceSub, Nat.reduceLeDiff, List.nil_append, List.cons_append, List.append_nil, List.all_cons, List.all_nil, plainC, takeR, setW, over, reCell, Int.reduceToNat, List.getElem?_cons_zero, List.getElem?_cons_succ, List.set_cons_zero, List.take_length, outV, resG, plainV, pack, outVG, outBx, List.set_cons_succ, Ref.idx, Ref.addOff, beq_self_eq_true, Nat.reduceBEq, bxL, Option.bind_some, writeR, isLit, viaBoxes, capsPA, boxPA, nsOf, noDup, boxesAt, argG, passG, passD, rhoIn, rhoOut, idxIn, tr, trL, List.getD_cons_zero, gives, pasOf, isPtr]
  | true =>
    simp only [eqs, reduceCtorEq, implies_true, List.map_cons, List.map_nil, kl, klL, roD, roL, Option.map_some, Option.map_none, Option.getD_some, Option.getD_none, binVal, binObl, unVal, Nat.reduceEqDiff, if_true, if_false, reduceIte, eq_self, passA, frnD, resD, content, getH, getR, getW, viaNot, viaSlot, viaBox, viaDeep, viaMem, List.contains_cons, List.contains_nil, grabs, peeks, okCells, isCell, place, cellsOf, chunk, elt, List.headD_cons, List.length_cons, List.length_nil, List.take_succ_cons, List.take_zero, List.drop_succ_cons, List.drop_zero, Nat.reduceAdd, Nat.reduceSub, Nat.reduceLeDiff, List.nil_append, List.cons_append, List.append_nil, List.all_cons, List.all_nil, plainC, takeR, setW, over, reCell, Int.reduceToNat, List.getElem?_cons_zero, List.getElem?_cons_succ, List.set_cons_zero, List.take_length, outV, resG, plainV, pack, outVG, outBx, List.set_cons_succ, Ref.idx, Ref.addOff, beq_self_eq_true, Nat.reduceBEq, bxL, Option.bind_some, writeR, isLit, viaBoxes, capsPA, boxPA, nsOf, noDup, boxesAt, argG, passG, passD, rhoIn, rhoOut, idxIn, tr, trL, List.getD_cons_zero, gives, pasOf, isPtr]
    refine of_call (tolf_snd s (by omega)) ?_
    rw [lf_free (of_decide_eq_true hd)]
    simp only [eqs, reduceCtorEq, implies_true, List.map_cons, List.map_nil, kl, klL, roD, roL, Option.map_some, Option.map_none, Option.getD_some, Option.getD_none, binVal, binObl, unVal, Nat.reduceEqDiff, if_true, if_false, reduceIte, eq_self, passA, frnD, resD, content, getH, getR, getW, viaNot, viaSlot, viaBox, viaDeep, viaMem, List.contains_cons, List.contains_nil, grabs, peeks, okCells, isCell, place, cellsOf, chunk, elt, List.headD_cons, List.length_cons, List.length_nil, List.take_succ_cons, List.take_zero, List.drop_succ_cons, List.drop_zero, Nat.reduceAdd, Nat.reduceSub, Nat.reduceLeDiff, List.nil_append, List.cons_append, List.append_nil, List.all_cons, List.all_nil, plainC, takeR, setW, over, reCell, Int.reduceToNat, List.getElem?_cons_zero, List.getElem?_cons_succ, List.set_cons_zero, List.take_length, outV, resG, plainV, pack, outVG, outBx, List.set_cons_succ, Ref.idx, Ref.addOff, beq_self_eq_true, Nat.reduceBEq, bxL, Option.bind_some, writeR, isLit, viaBoxes, capsPA, boxPA, nsOf, noDup, boxesAt, argG, passG, passD, rhoIn, rhoOut, idxIn, tr, trL, List.getD_cons_zero, gives, pasOf, isPtr]
    refine of_call (tocrlf_snd (crlf 0 s) (by omega)) ?_
    rw [crlf_crlf]
    simp only [eqs, reduceCtorEq, implies_true, List.map_cons, List.map_nil, kl, klL, roD, roL, Option.map_some, Option.map_none, Option.getD_some, Option.getD_none, binVal, binObl, unVal, Nat.reduceEqDiff, if_true, if_false, reduceIte, eq_self, passA, frnD, resD, content, getH, getR, getW, viaNot, viaSlot, viaBox, viaDeep, viaMem, List.contains_cons, List.contains_nil, grabs, peeks, okCells, isCell, place, cellsOf, chunk, elt, List.headD_cons, List.length_cons, List.length_nil, List.take_succ_cons, List.take_zero, List.drop_succ_cons, List.drop_zero, Nat.reduceAdd, Nat.reduceSub, Nat.reduceLeDiff, List.nil_append, List.cons_append, List.append_nil, List.all_cons, List.all_nil, plainC, takeR, setW, over, reCell, Int.reduceToNat, List.getElem?_cons_zero, List.getElem?_cons_succ, List.set_cons_zero, List.take_length, outV, resG, plainV, pack, outVG, outBx, List.set_cons_succ, Ref.idx, Ref.addOff, beq_self_eq_true, Nat.reduceBEq, bxL, Option.bind_some, writeR, isLit, viaBoxes, capsPA, boxPA, nsOf, noDup, boxesAt, argG, passG, passD, rhoIn, rhoOut, idxIn, tr, trL, List.getD_cons_zero, gives, pasOf, isPtr]
    refine of_call (pclean_snd (cleanP s) (by omega)) ?_
    rw [clean_twice]
    simp only [eqs, reduceCtorEq, implies_true, List.map_cons, List.map_nil, kl, klL, roD, roL, Option.map_some, Option.map_none, Option.getD_some, Option.getD_none, binVal, binObl, unVal, Nat.reduceEqDiff, if_true, if_false, reduceIte, eq_self, passA, frnD, resD, content, getH, getR, getW, viaNot, viaSlot, viaBox, viaDeep, viaMem, List.contains_cons, List.contains_nil, grabs, peeks, okCells, isCell, place, cellsOf, chunk, elt, List.headD_cons, List.length_cons, List.length_nil, List.take_succ_cons, List.take_zero, List.drop_succ_cons, List.drop_zero, Nat.reduceAdd, Nat.reduceSub, Nat.reduceLeDiff, List.nil_append, List.cons_append, List.append_nil, List.all_cons, List.all_nil, plainC, takeR, setW, over, reCell, Int.reduceToNat, List.getElem?_cons_zero, List.getElem?_cons_succ, List.set_cons_zero, List.take_length, outV, resG, plainV, pack, outVG, outBx, List.set_cons_succ, Ref.idx, Ref.addOff, beq_self_eq_true, Nat.reduceBEq, bxL, Option.bind_some, writeR, isLit, viaBoxes, capsPA, boxPA, nsOf, noDup, boxesAt, argG, passG, passD, rhoIn, rhoOut, idxIn, tr, trL, List.getD_cons_zero, gives, pasOf, isPtr]
    refine of_call (tolf_snd (crlf 0 s) (by omega)) ?_
    rw [lf_crlf]
    simp only [eqs, reduceCtorEq, implies_true, List.map_cons, List.map_nil, kl, klL, roD, roL, Option.map_some, Option.map_none, Option.getD_some, Option.getD_none, binVal, binObl, unVal, Nat.reduceEqDiff, if_true, if_false, reduceIte, eq_self, passA, frnD, resD, content, getH, getR, getW, viaNot, viaSlot, viaBox, viaDeep, viaMem, List.contains_cons, List.contains_nil, grabs, peeks, okCells, isCell, place, cellsOf, chunk, elt, List.headD_cons, List.length_cons, List.length_nil, List.take_succ_cons, List.take_zero, List.drop_succ_cons, List.drop_zero, Nat.reduceAdd, Nat.reduceSub, Nat.reduceLeDiff, List.nil_append, List.cons_append, List.append_nil, List.all_cons, List.all_nil, plainC, takeR, setW, over, reCell, Int.reduceToNat, List.getElem?_cons_zero, List.getElem?_cons_succ, List.set_cons_zero, List.take_length, outV, resG, plainV, pack, outVG, outBx, List.set_cons_succ, Ref.idx, Ref.addOff, beq_self_eq_true, Nat.reduceBEq, bxL, Option.bind_some, writeR, isLit, viaBoxes, capsPA, boxPA, nsOf, noDup, boxesAt, argG, passG, passD, rhoIn, rhoOut, idxIn, tr, trL, List.getD_cons_zero, gives, pasOf, isPtr]
    refine of_call (tolf_snd s (by omega)) ?_
    simp only [eqs, reduceCtorEq, implies_true, List.map_cons, List.map_nil, kl, klL, roD, roL, Option.map_some, Option.map_none, Option.getD_some, Option.getD_none, binVal, binObl, unVal, Nat.reduceEqDiff, if_true, if_false, reduceIte, eq_self, passA, frnD, resD, content, getH, getR, getW, viaNot, viaSlot, viaBox, viaDeep, viaMem, List.contains_cons, List.contains_nil, grabs, peeks, okCells, isCell, place, cellsOf, chunk, elt, List.headD_cons, List.length_cons, List.length_nil, List.take_succ_cons, List.take_zero, List.drop_succ_cons, List.drop_zero, Nat.reduceAdd, Nat.reduceSub, Nat.reduceLeDiff, List.nil_append, List.cons_append, List.append_nil, List.all_cons, List.all_nil, plainC, takeR, setW, over, reCell, Int.reduceToNat, List.getElem?_cons_zero, List.getElem?_cons_succ, List.set_cons_zero, List.take_length, outV, resG, plainV, pack, outVG, outBx, List.set_cons_succ, Ref.idx, Ref.addOff, beq_self_eq_true, Nat.reduceBEq, bxL, Option.bind_some, writeR, isLit, viaBoxes, capsPA, boxPA, nsOf, noDup, boxesAt, argG, passG, passD, rhoIn, rhoOut, idxIn, tr, trL, List.getD_cons_zero, gives, pasOf, isPtr]
    refine of_call lives_snd ?_
    simp only [eqs, reduceCtorEq, implies_true, List.map_cons, List.map_nil, kl, klL, roD, roL, Option.map_some, Option.map_none, Option.getD_some, Option.getD_none, binVal, binObl, unVal, Nat.reduceEqDiff, if_true, if_false, reduceIte, eq_self, passA, frnD, resD, content, getH, getR, getW, viaNot, viaSlot, viaBox, viaDeep, viaMem, List.contains_cons, List.contains_nil, grabs, peeks, okCells, isCell, place, cellsOf, chunk, elt, List.headD_cons, List.length_cons, List.length_nil, List.take_succ_cons, List.take_zero, List.drop_succ_cons, List.drop_zero, Nat.reduceAdd, Nat.reduceSub, Nat.reduceLeDiff, List.nil_append, List.cons_append, List.append_nil, List.all_cons, List.all_nil, plainC, takeR, setW, over, reCell, Int.reduceToNat, List.getElem?_cons_zero, List.getElem?_cons_succ, List.set_cons_zero, List.take_length, outV, resG, plainV, pack, outVG, outBx, List.set_cons_succ, Ref.idx, Ref.addOff, beq_self_eq_true, Nat.reduceBEq, bxL, Option.bind_some, writeR, isLit, viaBoxes, capsPA, boxPA, nsOf, noDup, boxesAt, argG, passG, passD, rhoIn, rhoOut, idxIn, tr, trL, List.getD_cons_zero, gives, pasOf, isPtr]
theorem twice_loop (s : Bs) (hs : s.length ≤ 5000) (n : Nat) : ∀ (i : Nat) (hn : s.length - i = n) (hi : i ≤ s.length),
    vcL (kn m) [0, 3, 12, 13] [] lwTwice_l0 (blockK 0 (seqK (kn m) [0, 3] [] lwTwice_k1 (outOk [.tmp 2] (B true)))) (mkS [(0, S s), (3, B (decide (13 ∉ s.take i))), (12, N s.length), (13, N i)] []) := by
  induction n with
  | zero =>
    intro i hn hi
    have hil : i = s.length := by omega
    subst hil
    apply round
    simp only [lwTwice_l0_w, lwTwice_l0', eqs, reduceCtorEq, implies_true, List.map_cons, List.map_nil, kl, klL, roD, roL, Option.map_some, Option.map_none, Option.getD_some, Option.getD_none, binVal, binObl, unVal, Nat.reduceEqDiff, if_true, if_false, reduceIte, eq_self, passA, frnD, resD, content, getH, getR, getW, viaNot, viaSlot, viaBox, viaDeep, viaMem, List.contains_cons, List.contains_nil, grabs, peeks, okCells, isCell, place, cellsOf, chunk, elt, List.headD_cons, List.length_cons, List.length_nil, List.take_succ_cons, List.take_zero, List.drop_succ_cons, List.drop_zero, Nat.reduceAdd, Nat.reduceSub, Nat.reduceLeDiff, List.nil_append, List.cons_append, List.append_nil, List.all_cons, List.all_nil, plainC, takeR, setW, over, reCell, Int.reduceToNat, List.getElem?_cons_zero, List.getElem?_cons_succ, List.set_cons_zero, List.take_length, outV, resG, plainV, pack, outVG, outBx, List.set_cons_succ, Ref.idx, Ref.addOff, beq_self_eq_true, Nat.reduceBEq, bxL, Option.bind_some, writeR, isLit, viaBoxes, capsPA, boxPA, nsOf, noDup, boxesAt, argG, passG, passD, rhoIn, rhoOut, idxIn, tr, trL, List.getD_cons_zero, gives, pasOf, isPtr]
    rw [lt_f (by omega)]
    simp only [eqs, reduceCtorEq, implies_true, List.map_cons, List.map_nil, kl, klL, roD, roL, Option.map_some, Option.map_none, Option.getD_some, Option.getD_none, binVal, binObl, unVal, Nat.reduceEqDiff, if_true, if_false, reduceIte, eq_self, passA, frnD, resD, content, getH, getR, getW, viaNot, viaSlot, viaBox, viaDeep, viaMem, List.contains_cons, List.contains_nil, grabs, peeks, okCells, isCell, place, cellsOf, chunk, elt, List.headD_cons, List.length_cons, List.length_nil, List.take_succ_cons, List.take_zero, List.drop_succ_cons, List.drop_zero, Nat.reduceAdd, Nat.reduceSub, Nat.reduceLeDiff, List.nil_append, List.cons_append, List.append_nil, List.all_cons, List.all_nil, plainC, takeR, setW, over, reCell, Int.reduceToNat, List.getElem?_cons_zero, List.getElem?_cons_succ, List.set_cons_zero, List.take_length, outV, resG, plainV, pack, outVG, outBx, List.set_cons_succ, Ref.idx, Ref.addOff, beq_self_eq_true, Nat.reduceBEq, bxL, Option.bind_some, writeR, isLit, viaBoxes, capsPA, boxPA, nsOf, noDup, boxesAt, argG, passG, passD, rhoIn, rhoOut, idxIn, tr, trL, List.getD_cons_zero, gives, pasOf, isPtr]
    exact twice_end s hs
  | succ n ih =>
    intro i hn hi
    have hil : i < s.length := by omega
    have hw : IntKind.i64.wrap ((i : Int) + 1) = ((i + 1 : Nat) : Int) := wrapN (i + 1) (by omega) (by omega)
    apply round
    simp only [lwTwice_l0_w, lwTwice_l0', eqs, reduceCtorEq, implies_true, List.map_cons, List.map_nil, kl, klL, roD, roL, Option.map_some, Option.map_none, Option.getD_some, Option.getD_none, binVal, binObl, unVal, Nat.reduceEqDiff, if_true, if_false, reduceIte, eq_self, passA, frnD, resD, content, getH, getR, getW, viaNot, viaSlot, viaBox, viaDeep, viaMem, List.contains_cons, List.contains_nil, grabs, peeks, okCells, isCell, place, cellsOf, chunk, elt, List.headD_cons, List.length_cons, List.length_nil, List.take_succ_cons, List.take_zero, List.drop_succ_cons, List.drop_zero, Nat.reduceAdd, Nat.reduceSub, Nat.reduceLeDiff, List.nil_append, List.cons_append, List.append_nil, List.all_cons, List.all_nil, plainC, takeR, setW, over, reCell, Int.reduceToNat, List.getElem?_cons_zero, List.getElem?_cons_succ, List.set_cons_zero, List.take_length, outV, resG, plainV, pack, outVG, outBx, List.set_cons_succ, Ref.idx, Ref.addOff, beq_self_eq_true, Nat.reduceBEq, bxL, Option.bind_some, writeR, isLit, viaBoxes, capsPA, boxPA, nsOf, noDup, boxesAt, argG, passG, passD, rhoIn, rhoOut, idxIn, tr, trL, List.getD_cons_zero, gives, pasOf, isPtr]
    rw [lt_t hil]
    have := ih (i + 1) (by omega) (by omega)
    rw [free_step hil] at this
    simp only [getE hil, eqs, reduceCtorEq, implies_true, List.map_cons, List.map_nil, kl, klL, roD, roL, Option.map_some, Option.map_none, Option.getD_some, Option.getD_none, binVal, binObl, unVal, Nat.reduceEqDiff, if_true, if_false, reduceIte, eq_self, passA, frnD, resD, content, getH, getR, getW, viaNot, viaSlot, viaBox, viaDeep, viaMem, List.contains_cons, List.contains_nil, grabs, peeks, okCells, isCell, place, cellsOf, chunk, elt, List.headD_cons, List.length_cons, List.length_nil, List.take_succ_cons, List.take_zero, List.drop_succ_cons, List.drop_zero, Nat.reduceAdd, Nat.reduceSub, Nat.reduceLeDiff, List.nil_append, List.cons_append, List.append_nil, List.all_cons, List.all_nil, plainC, takeR, setW, over, reCell, Int.reduceToNat, List.getElem?_cons_zero, List.getElem?_cons_succ, List.set_cons_zero, List.take_length, outV, resG, plainV, pack, outVG, outBx, List.set_cons_succ, Ref.idx, Ref.addOff, beq_self_eq_true, Nat.reduceBEq, bxL, Option.bind_some, writeR, isLit, viaBoxes, capsPA, boxPA, nsOf, noDup, boxesAt, argG, passG, passD, rhoIn, rhoOut, idxIn, tr, trL, List.getD_cons_zero, gives, pasOf, isPtr]
    cases hd : decide (13 ∉ s.take i) with
    | false =>
      simp only [hw, eqs, reduceCtorEq, implies_true, List.map_cons, List.map_nil, kl, klL, roD, roL, Option.map_some, Option.map_none, Option.getD_some, Option.getD_none, binVal, binObl, unVal, Nat.reduceEqDiff, if_true, if_false, reduceIte, eq_self, passA, frnD, resD, content, getH, getR, getW, viaNot, viaSlot, viaBox, viaDeep, viaMem, List.contains_cons, List.contains_nil, grabs, peeks, okCells, isCell, place, cellsOf, chunk, elt, List.headD_cons, List.length_cons, List.length_nil, List.take_succ_cons, List.take_zero, List.drop_succ_cons, List.drop_zero, Nat.reduceAdd, Nat.reduceSub, Nat.reduceLeDiff, List.nil_append, List.cons_append, List.append_nil, List.all_cons, List.all_nil, plainC, takeR, setW, over, reCell, Int.reduceToNat, List.getElem?_cons_zero, List.getElem?_cons_succ, List.set_cons_zero, List.take_length, outV, resG, plainV, pack, outVG, outBx, List.set_cons_succ, Ref.idx, Ref.addOff, beq_self_eq_true, Nat.reduceBEq, bxL, Option.bind_some, writeR, isLit, viaBoxes, capsPA, boxPA, nsOf, noDup, boxesAt, argG, passG, passD, rhoIn, rhoOut, idxIn, tr, trL, List.getD_cons_zero, gives, pasOf, isPtr]
      rw [hd, Bool.false_and] at this
      exact this
    | true =>
      simp only [getE hil, eqs, reduceCtorEq, implies_true, List.map_cons, List.map_nil, kl, klL, roD, roL, Option.map_some, Option.map_none, Option.getD_some, Option.getD_none, binVal, binObl, unVal, Nat.reduceEqDiff, if_true, if_false, reduceIte, eq_self, passA, frnD, resD, content, getH, getR, getW, viaNot, viaSlot, viaBox, viaDeep, viaMem, List.contains_cons, List.contains_nil, grabs, peeks, okCells, isCell, place, cellsOf, chunk, elt, List.headD_cons, List.length_cons, List.length_nil, List.take_succ_cons, List.take_zero, List.drop_succ_cons, List.drop_zero, Nat.reduceAdd, Nat.reduceSub, Nat.reduceLeDiff, List.nil_append, List.cons_append, List.append_nil, List.all_cons, List.all_nil, plainC, takeR, setW, over, reCell, Int.reduceToNat, List.getElem?_cons_zero, List.getElem?_cons_succ, List.set_cons_zero, List.take_length, outV, resG, plainV, pack, outVG, outBx, List.set_cons_succ, Ref.idx, Ref.addOff, beq_self_eq_true, Nat.reduceBEq, bxL, Option.bind_some, writeR, isLit, viaBoxes, capsPA, boxPA, nsOf, noDup, boxesAt, argG, passG, passD, rhoIn, rhoOut, idxIn, tr, trL, List.getD_cons_zero, gives, pasOf, isPtr]
      refine ⟨by omega, ?_⟩
      rw [hd, Bool.true_and] at this
      by_cases h13 : s[i] = 13
      · rw [u8n_f (n := 13) h13 rfl]
        simp only [hw, eqs, reduceCtorEq, implies_true, List.map_cons, List.map_nil, kl, klL, roD, roL, Option.map_some, Option.map_none, Option.getD_some, Option.getD_none, binVal, binObl, unVal, Nat.reduceEqDiff, if_true, if_false, reduceIte, eq_self, passA, frnD, resD, content, getH, getR, getW, viaNot, viaSlot, viaBox, viaDeep, viaMem, List.contains_cons, List.contains_nil, grabs, peeks, okCells, isCell, place, cellsOf, chunk, elt, List.headD_cons, List.length_cons, List.length_nil, List.take_succ_cons, List.take_zero, List.drop_succ_cons, List.drop_zero, Nat.reduceAdd, Nat.reduceSub, Nat.reduceLeDiff, List.nil_append, List.cons_append, List.append_nil, List.all_cons, List.all_nil, plainC, takeR, setW, over, reCell, Int.reduceToNat, List.getElem?_cons_zero, List.getElem?_cons_succ, List.set_cons_zero, List.take_length, outV, resG, plainV, pack, outVG, outBx, List.set_cons_succ, Ref.idx, Ref.addOff, beq_self_eq_true, Nat.reduceBEq, bxL, Option.bind_some, writeR, isLit, viaBoxes, capsPA, boxPA, nsOf, noDup, boxesAt, argG, passG, passD, rhoIn, rhoOut, idxIn, tr, trL, List.getD_cons_zero, gives, pasOf, isPtr]
        rw [decide_eq_false (by simpa using h13)] at this
        exact this
      · rw [u8n_t (n := 13) h13 rfl]
        simp only [hw, eqs, reduceCtorEq, implies_true, List.map_cons, List.map_nil, kl, klL, roD, roL, Option.map_some, Option.map_none, Option.getD_some, Option.getD_none, binVal, binObl, unVal, Nat.reduceEqDiff, if_true, if_false, reduceIte, eq_self, passA, frnD, resD, content, getH, getR, getW, viaNot, viaSlot, viaBox, viaDeep, viaMem, List.contains_cons, List.contains_nil, grabs, peeks, okCells, isCell, place, cellsOf, chunk, elt, List.headD_cons, List.length_cons, List.length_nil, List.take_succ_cons, List.take_zero, List.drop_succ_cons, List.drop_zero, Nat.reduceAdd, Nat.reduceSub, Nat.reduceLeDiff, List.nil_append, List.cons_append, List.append_nil, List.all_cons, List.all_nil, plainC, takeR, setW, over, reCell, Int.reduceToNat, List.getElem?_cons_zero, List.getElem?_cons_succ, List.set_cons_zero, List.take_length, outV, resG, plainV, pack, outVG, outBx, List.set_cons_succ, Ref.idx, Ref.addOff, beq_self_eq_true, Nat.reduceBEq, bxL, Option.bind_some, writeR, isLit, viaBoxes, capsPA, boxPA, nsOf, noDup, boxesAt, argG, passG, passD, rhoIn, rhoOut, idxIn, tr, trL, List.getD_cons_zero, gives, pasOf, isPtr]
        rw [decide_eq_true h13] at this
        exact this
theorem twice_law (s : Bs) (hs : s.length ≤ 1048576) : Snd Tryd.prog (gl m) 4 [S s] (B true) := by
  refine snd_of (fn := Tryd.f4) (af := lwTwice) Tryd.func4 (lwTwice_comp m) mixed (kn_ok m) (Nat.le_of_ble_eq_true rfl) ?_
  simp only [lwTwice, eqs, reduceCtorEq, implies_true, List.map_cons, List.map_nil, kl, klL, roD, roL, Option.map_some, Option.map_none, Option.getD_some, Option.getD_none, binVal, binObl, unVal, Nat.reduceEqDiff, if_true, if_false, reduceIte, eq_self, passA, frnD, resD, content, getH, getR, getW, viaNot, viaSlot, viaBox, viaDeep, viaMem, List.contains_cons, List.contains_nil, grabs, peeks, okCells, isCell, place, cellsOf, chunk, elt, List.headD_cons, List.length_cons, List.length_nil, List.take_succ_cons, List.take_zero, List.drop_succ_cons, List.drop_zero, Nat.reduceAdd, Nat.reduceSub, Nat.reduceLeDiff, List.nil_append, List.cons_append, List.append_nil, List.all_cons, List.all_nil, plainC, takeR, setW, over, reCell, Int.reduceToNat, List.getElem?_cons_zero, List.getElem?_cons_succ, List.set_cons_zero, List.take_length, outV, resG, plainV, pack, outVG, outBx, List.set_cons_succ, Ref.idx, Ref.addOff, beq_self_eq_true, Nat.reduceBEq, bxL, Option.bind_some, writeR, isLit, viaBoxes, capsPA, boxPA, nsOf, noDup, boxesAt, argG, passG, passD, rhoIn, rhoOut, idxIn, tr, trL, List.getD_cons_zero, gives, pasOf, isPtr]
  by_cases h : 5000 < s.length
  · rw [igt_t (by omega)]
    simp only [eqs, reduceCtorEq, implies_true, List.map_cons, List.map_nil, kl, klL, roD, roL, Option.map_some, Option.map_none, Option.getD_some, Option.getD_none, binVal, binObl, unVal, Nat.reduceEqDiff, if_true, if_false, reduceIte, eq_self, passA, frnD, resD, content, getH, getR, getW, viaNot, viaSlot, viaBox, viaDeep, viaMem, List.contains_cons, List.contains_nil, grabs, peeks, okCells, isCell, place, cellsOf, chunk, elt, List.headD_cons, List.length_cons, List.length_nil, List.take_succ_cons, List.take_zero, List.drop_succ_cons, List.drop_zero, Nat.reduceAdd, Nat.reduceSub, Nat.reduceLeDiff, List.nil_append, List.cons_append, List.append_nil, List.all_cons, List.all_nil, plainC, takeR, setW, over, reCell, Int.reduceToNat, List.getElem?_cons_zero, List.getElem?_cons_succ, List.set_cons_zero, List.take_length, outV, resG, plainV, pack, outVG, outBx, List.set_cons_succ, Ref.idx, Ref.addOff, beq_self_eq_true, Nat.reduceBEq, bxL, Option.bind_some, writeR, isLit, viaBoxes, capsPA, boxPA, nsOf, noDup, boxesAt, argG, passG, passD, rhoIn, rhoOut, idxIn, tr, trL, List.getD_cons_zero, gives, pasOf, isPtr]
    refine of_call lives_snd ?_
    simp only [eqs, reduceCtorEq, implies_true, List.map_cons, List.map_nil, kl, klL, roD, roL, Option.map_some, Option.map_none, Option.getD_some, Option.getD_none, binVal, binObl, unVal, Nat.reduceEqDiff, if_true, if_false, reduceIte, eq_self, passA, frnD, resD, content, getH, getR, getW, viaNot, viaSlot, viaBox, viaDeep, viaMem, List.contains_cons, List.contains_nil, grabs, peeks, okCells, isCell, place, cellsOf, chunk, elt, List.headD_cons, List.length_cons, List.length_nil, List.take_succ_cons, List.take_zero, List.drop_succ_cons, List.drop_zero, Nat.reduceAdd, Nat.reduceSub, Nat.reduceLeDiff, List.nil_append, List.cons_append, List.append_nil, List.all_cons, List.all_nil, plainC, takeR, setW, over, reCell, Int.reduceToNat, List.getElem?_cons_zero, List.getElem?_cons_succ, List.set_cons_zero, List.take_length, outV, resG, plainV, pack, outVG, outBx, List.set_cons_succ, Ref.idx, Ref.addOff, beq_self_eq_true, Nat.reduceBEq, bxL, Option.bind_some, writeR, isLit, viaBoxes, capsPA, boxPA, nsOf, noDup, boxesAt, argG, passG, passD, rhoIn, rhoOut, idxIn, tr, trL, List.getD_cons_zero, gives, pasOf, isPtr]
  · rw [igt_f (by omega)]
    simp only [eqs, reduceCtorEq, implies_true, List.map_cons, List.map_nil, kl, klL, roD, roL, Option.map_some, Option.map_none, Option.getD_some, Option.getD_none, binVal, binObl, unVal, Nat.reduceEqDiff, if_true, if_false, reduceIte, eq_self, passA, frnD, resD, content, getH, getR, getW, viaNot, viaSlot, viaBox, viaDeep, viaMem, List.contains_cons, List.contains_nil, grabs, peeks, okCells, isCell, place, cellsOf, chunk, elt, List.headD_cons, List.length_cons, List.length_nil, List.take_succ_cons, List.take_zero, List.drop_succ_cons, List.drop_zero, Nat.reduceAdd, Nat.reduceSub, Nat.reduceLeDiff, List.nil_append, List.cons_append, List.append_nil, List.all_cons, List.all_nil, plainC, takeR, setW, over, reCell, Int.reduceToNat, List.getElem?_cons_zero, List.getElem?_cons_succ, List.set_cons_zero, List.take_length, outV, resG, plainV, pack, outVG, outBx, List.set_cons_succ, Ref.idx, Ref.addOff, beq_self_eq_true, Nat.reduceBEq, bxL, Option.bind_some, writeR, isLit, viaBoxes, capsPA, boxPA, nsOf, noDup, boxesAt, argG, passG, passD, rhoIn, rhoOut, idxIn, tr, trL, List.getD_cons_zero, gives, pasOf, isPtr]
    have := twice_loop (m := m) s (by omega) _ 0 rfl (by omega)
    rw [List.take_zero, decide_eq_true (by simp)] at this
    exact this
end Go.Ln

/- LinesTwice: the card, by the second form. -/
namespace Go.Proofs.YtolghafejibajaaDoor.linesTwice
open Go.ChangeShapes Go.WideShapes Go.ChangeAt Go.RowKit
open Go.ChangeMaps (open_string shut_string)
open Go.Ev (X0 old Bs ss TabsAt RelT)
set_option linter.unusedVariables false

theorem contract (H : Type) (enc : TypeId × Value → H) (W : World) (base : Nat) (args : Array Value) (ds gs : List (DataW H)) (before : List MemPlace)
    (hval : ∀ (j : Nat) t v, Tryd.f4.params[j]? = some t → args[j]? = some v → Value.okWide Tryd.prog W .any base t v)
    (hW : DataW.Whole enc Tryd.prog Tryd.f4.params.toList Rows.linesTwiceSpec.vars false W args.toList ds gs before) (hk : Rows.uptoSmall H (ds ++ gs) = true) (hsh : W.ShapedOpen Tryd.prog) :
    Calls Tryd.prog 4 args W fun e W' => ∃ v, e = .returned v ∧ Rows.linesTwiceSpec.post enc Tryd.prog Tryd.f4 false true false false W args v W' := by
  refine Ev.contract_law laidOut (by kernel_rfl) rfl (tb := 4) (by kernel_rfl) (by kernel_rfl) Tryd.underlying4 (fun ds hd => ?_) hW ?_
  · rw [Tryd.params4] at hd
    match ds, hd with
    | [d0], _ => rfl
  · obtain ⟨p, q, hA0, hV, rfl, hfz, hnd⟩ := hW
    have hA : DataW.TrodAll enc Tryd.prog W 0 (fun _ => true) true Tryd.f4.params.toList args.toList ds p := hA0
    rw [Tryd.params4] at hA hval
    obtain ⟨v0, vs0, d0, ds0, p0, q0, hargs, rfl, rfl, h0, r0⟩ := trodAll_cons hA
    obtain ⟨rfl, rfl, rfl⟩ := trodAll_nil r0
    obtain rfl : args = #[v0] := by cases args; simp_all
    obtain ⟨rfl, rfl⟩ := trodVars_none hV
    obtain ⟨s0, rfl, rfl, rfl, hmax0⟩ := open_string Tryd.underlying9 (hval 0 9 v0 rfl rfl) h0
    obtain ⟨m, hm⟩ := maxLen_at hsh
    have hb0 := bulk_small hk
    simp only [List.append_nil] at hb0
    have hb1 := bulk_string hb0
    exact Ev.calls_law (Ln.twice_law s0.data.toList (by omega)) (tabs hm) (.cons _ _ _ [] _ _ [] Ev.rel_string (.nil _) (fun b hb => (List.not_mem_nil hb).elim))

theorem reads (os : Os) {H : Type} (enc : TypeId × Value → H) : ∃ places, DataW.whole enc Tryd.prog ((laidWorld os).forCall (fun _ _ => 0) ⟨#[], #[.string ⟨#[]⟩], []⟩).memory Tryd.f4.params.toList Rows.linesTwiceSpec.vars false #[Value.string ⟨#[]⟩].toList 8 = some ([.lit (.string [])], [], places) :=
  ⟨[], by kernel_rfl⟩

set_option maxRecDepth 100000 in
theorem lifted (os : Os) (started : os.Started) (H : Type) (enc : TypeId × Value → H) (F : Stop.Interp) :
    ReturnsInHanded {} Tryd.checked os 4 .any ((Rows.OpenSpec.upto Rows.linesTwiceSpec).preRow enc Tryd.prog Tryd.f4 Rows.linesTwiceUptoRow.domain false Rows.linesTwiceUptoRow.laid) (((Rows.OpenSpec.upto Rows.linesTwiceSpec).at F).post enc Tryd.prog Tryd.f4 false true false false) := by
  obtain ⟨places, hx⟩ := reads os enc
  refine returnsInHanded_of_row (C := Tryd.checked) (s := Rows.OpenSpec.upto Rows.linesTwiceSpec) own started (by kernel_rfl) Tryd.func4
    (witness_row_at (enc := enc) (C := Tryd.checked) false (laidWorld os) #[.string ⟨#[]⟩] rfl (by kernel_rfl) (by kernel_rfl) (by kernel_rfl)
      (OpenSpec.preRow_of_cond 8 hx (by kernel_rfl) (fun k hk => by cases hk; kernel_rfl) (by kernel_rfl) (laid_met os _))) ?_
  intro W base args ds gs before hval hW _ hcond _ hL hsh _
  exact contract H enc W base args ds gs before hval hW (hcond _ rfl) hsh

theorem said : Rows.LinesTwiceUptoSaid :=
  OpenClaim.holds_of_cond 4 Tryd.f4 rfl rfl rfl rfl rfl rfl rfl ⟨rfl, rfl, rfl, rfl, rfl⟩ rfl rfl rfl rfl rfl (by kernel_rfl) Tryd.func4 (by kernel_rfl)
    (of_decide_eq_true (by kernel_rfl)) (by unfold Func.isWrapper; first | (rw [if_pos (by decide +kernel)]; kernel_rfl) | (rw [if_neg (by decide +kernel)]; exact ⟨rfl, rfl⟩))
    (fun os started H enc _ F => by rw [OpenClaim.pre_eq_preRow]; exact lifted os started H enc F)

theorem plain (f : FuncId) (fn : Func) (hf : Tryd.pinned.checked.prog.funcNamed "graftage/graftagelaw05.LinesTwice" = some f) (hfn : Tryd.pinned.checked.prog.funcs[f]? = some fn) :
    false = Tryd.pinned.checked.prog.looks [] ∧ ∀ (j : Nat) t, fn.params[j]? = some t → Tryd.pinned.checked.prog.wantsStandIn t = false := by
  obtain rfl : f = 4 := Option.some.inj ((show Tryd.prog.funcNamed "graftage/graftagelaw05.LinesTwice" = some 4 by kernel_rfl).symm.trans hf) |>.symm
  obtain rfl : fn = Tryd.f4 := (Option.some.inj (Tryd.func4.symm.trans hfn)).symm
  refine ⟨by kernel_rfl, fun j t ht => ?_⟩
  rw [Tryd.params4] at ht
  have ht := Array.mem_of_getElem? ht
  simp only [Array.mem_def, List.mem_cons, List.not_mem_nil, or_false] at ht
  rcases ht with rfl
  exact (show Tryd.prog.wantsStandIn 9 = false by kernel_rfl)

theorem holds : Rows.LinesTwiceUptoCardSaid :=
  Claim7.holds_tied_plain_at .later [] _ _ _ _ said (fun _ h => by cases h) (by kernel_rfl) (fun _ h => by cases h) linesTwiceUpto_row_tie rfl ⟨rfl, rfl⟩ (by kernel_rfl) rfl plain (by kernel_rfl)
#print axioms holds
end Go.Proofs.YtolghafejibajaaDoor.linesTwice

