import Derived.Test.YtolghafejibajaaDoorLnC
import Derived.Test.YtolghafejibajaaDoorLnD
import Derived.Test.YtolghafejibajaaDoorLnX
/- Lines: LinesTidy. -/
namespace Go.Ln
open Go Go.Ev Go.Proofs
set_option linter.unusedVariables false
set_option linter.unusedSimpArgs false
variable {m : Int}

def lwTidy_l0' : AC := .seq (.reg (.seq [⟨(some (17, false)), none, .bin .lss (.tmp 16 true) (.tmp 15 true)⟩])) [3, 4, 15, 16, 17] []
  (.seq (.cond (.tmp 17 false)
    (.skip)
    (.exit 0)) [3, 4, 15, 16] []
  (.seq (.block 1 (.seq (.reg (.seq [⟨(some (18, false)), none, .mov (.tmp 16 true) .take⟩,
      ⟨(some (5, true)), none, .mov (.tmp 18 false) .asg⟩])) [3, 4, 5, 15, 16] []
    (.seq (.reg (.draw [⟨(some (19, false)), none, .mov (.tmp 4 true) .peek⟩,
      ⟨(some (20, false)), none, .mov (.tmp 5 true) .peek⟩,
      ⟨(some (21, false)), none, .iad (.tmp 19 false) (.tmp 20 false) 1⟩,
      ⟨(some (22, false)), none, .load (.tmp 21 false) 1 false false⟩,
      ⟨(some (23, false)), none, .idx (.tmp 22 false) (.cst (.int .i64 0) (.lit (.int .i64 0)))⟩,
      ⟨(some (24, false)), none, .bin .eql (.tmp 23 false) (.cst (.int .u8 35) (.lit (.int .u8 35)))⟩,
      ⟨(some (25, false)), none, .mov (.tmp 24 false) .peek⟩,
      ⟨(some (26, false)), (some (25, false)), .mov (.tmp 4 true) .peek⟩,
      ⟨(some (27, false)), (some (25, false)), .mov (.tmp 5 true) .peek⟩,
      ⟨(some (28, false)), (some (25, false)), .iad (.tmp 26 false) (.tmp 27 false) 1⟩,
      ⟨(some (29, false)), (some (25, false)), .load (.tmp 28 false) 1 false false⟩,
      ⟨(some (30, false)), (some (25, false)), .mov (.tmp 4 true) .peek⟩,
      ⟨(some (31, false)), (some (25, false)), .mov (.tmp 5 true) .peek⟩,
      ⟨(some (32, false)), (some (25, false)), .iad (.tmp 30 false) (.tmp 31 false) 1⟩,
      ⟨(some (33, false)), (some (25, false)), .load (.tmp 32 false) 1 false false⟩,
      ⟨(some (34, false)), (some (25, false)), .len (.tmp 33 false)⟩,
      ⟨(some (35, false)), (some (25, false)), .bin .sub (.tmp 34 false) (.cst (.int .i64 1) (.lit (.int .i64 1)))⟩,
      ⟨(some (36, false)), (some (25, false)), .idx (.tmp 29 false) (.tmp 35 false)⟩,
      ⟨(some (37, false)), (some (25, false)), .bin .neq (.tmp 36 false) (.cst (.int .u8 10) (.lit (.int .u8 10)))⟩,
      ⟨(some (38, false)), none, .pick (.tmp 25 false) (.cst (.bool true) (.lit (.bool true))) (.tmp 37 false)⟩,
      ⟨(some (39, false)), none, .mov (.tmp 38 false) .peek⟩,
      ⟨(some (40, false)), (some (39, false)), .mov (.tmp 4 true) .peek⟩,
      ⟨(some (41, false)), (some (39, false)), .mov (.tmp 5 true) .peek⟩,
      ⟨(some (42, false)), (some (39, false)), .iad (.tmp 40 false) (.tmp 41 false) 1⟩,
      ⟨(some (43, false)), (some (39, false)), .load (.tmp 42 false) 1 false false⟩,
      ⟨(some (44, false)), (some (39, false)), .bin .eql (.tmp 43 false) (.cst (.string (str [10])) (.lit (.string (str [10]))))⟩,
      ⟨(some (45, false)), (some (39, false)), .mov (.tmp 44 false) .peek⟩,
      ⟨(some (46, false)), (some (45, true)), .mov (.tmp 5 true) .peek⟩,
      ⟨(some (47, false)), (some (45, true)), .bin .eql (.tmp 46 false) (.cst (.int .i64 0) (.lit (.int .i64 0)))⟩,
      ⟨(some (48, false)), (some (45, true)), .mov (.tmp 47 false) .peek⟩,
      ⟨(some (49, false)), (some (48, false)), .mov (.tmp 5 true) .peek⟩,
      ⟨(some (50, false)), (some (48, false)), .mov (.tmp 4 true) .peek⟩,
      ⟨(some (51, false)), (some (48, false)), .lenL (.tmp 50 false)⟩,
      ⟨(some (52, false)), (some (48, false)), .bin .sub (.tmp 51 false) (.cst (.int .i64 1) (.lit (.int .i64 1)))⟩,
      ⟨(some (53, false)), (some (48, false)), .bin .eql (.tmp 49 false) (.tmp 52 false)⟩,
      ⟨(some (54, false)), (some (45, true)), .pick (.tmp 48 false) (.cst (.bool true) (.lit (.bool true))) (.tmp 53 false)⟩,
      ⟨(some (55, false)), (some (45, true)), .mov (.tmp 54 false) .peek⟩,
      ⟨(some (56, false)), (some (55, false)), .mov (.tmp 4 true) .peek⟩,
      ⟨(some (57, false)), (some (55, false)), .mov (.tmp 5 true) .peek⟩,
      ⟨(some (58, false)), (some (55, false)), .bin .sub (.tmp 57 false) (.cst (.int .i64 1) (.lit (.int .i64 1)))⟩,
      ⟨(some (59, false)), (some (55, false)), .iad (.tmp 56 false) (.tmp 58 false) 1⟩,
      ⟨(some (60, false)), (some (55, false)), .load (.tmp 59 false) 1 false false⟩,
      ⟨(some (61, false)), (some (55, false)), .bin .eql (.tmp 60 false) (.cst (.string (str [10])) (.lit (.string (str [10]))))⟩,
      ⟨(some (62, false)), (some (45, true)), .pick (.tmp 55 false) (.cst (.bool true) (.lit (.bool true))) (.tmp 61 false)⟩,
      ⟨(some (63, false)), (some (39, false)), .pick (.tmp 45 false) (.tmp 62 false) (.cst (.bool false) (.lit (.bool false)))⟩,
      ⟨(some (64, false)), none, .pick (.tmp 39 false) (.cst (.bool true) (.lit (.bool true))) (.tmp 63 false)⟩] [])) [3, 4, 15, 16, 64] []
    (.cond (.tmp 64 false)
      (.seq (.reg (.seq [⟨(some (2, true)), none, .mov (.cst (.bool false) (.lit (.bool false))) .asg⟩])) [2] []
      (.ret))
      (.skip))))) [3, 4, 15, 16] []
  (.reg (.seq [⟨(some (65, false)), none, .bin .add (.tmp 16 true) (.cst (.int .i64 1) (.lit (.int .i64 1)))⟩,
      ⟨(some (16, true)), none, .mov (.tmp 65 false) .peek⟩]))))
def lwTidy_l0 : AC := lwTidy_l0'
theorem lwTidy_l0_w (C : Kn) (K : Ex → St → Prop) (s : St) : vcC C lwTidy_l0 K s = vcC C lwTidy_l0' K s := nr rfl
def lwTidy_k1' : AC := .seq (.reg (.draw [⟨(some (66, false)), none, .mov (.tmp 4 true) .peek⟩,
      ⟨(some (67, false)), none, .lenL (.tmp 66 false)⟩,
      ⟨(some (68, false)), none, .bin .eql (.tmp 67 false) (.cst (.int .i64 0) (.lit (.int .i64 0)))⟩,
      ⟨(some (69, false)), none, .mov (.tmp 68 false) .peek⟩,
      ⟨(some (70, false)), (some (69, true)), .mov (.tmp 3 true) .peek⟩,
      ⟨(some (71, false)), (some (69, true)), .call 44 [(.tmp 70 false)]⟩,
      ⟨(some (72, false)), (some (69, true)), .bin .eql (.tmp 71 false) (.cst (.string (str [])) (.lit (.string (str []))))⟩,
      ⟨(some (73, false)), none, .pick (.tmp 69 false) (.tmp 72 false) (.cst (.bool false) (.lit (.bool false)))⟩,
      ⟨(some (74, false)), none, .mov (.tmp 73 false) .peek⟩,
      ⟨(some (75, false)), (some (74, false)), .mov (.tmp 4 true) .peek⟩,
      ⟨(some (76, false)), (some (74, false)), .lenL (.tmp 75 false)⟩,
      ⟨(some (77, false)), (some (74, false)), .bin .gtr (.tmp 76 false) (.cst (.int .i64 0) (.lit (.int .i64 0)))⟩,
      ⟨(some (78, false)), (some (74, false)), .mov (.tmp 77 false) .peek⟩,
      ⟨(some (79, false)), (some (78, true)), .mov (.tmp 3 true) .peek⟩,
      ⟨(some (80, false)), (some (78, true)), .call 44 [(.tmp 79 false)]⟩,
      ⟨(some (81, false)), (some (78, true)), .bin .add (.tmp 80 false) (.cst (.string (str [10])) (.lit (.string (str [10]))))⟩,
      ⟨(some (82, false)), (some (78, true)), .mov (.tmp 4 true) .peek⟩,
      ⟨(some (83, false)), (some (78, true)), .iad (.tmp 82 false) (.cst (.int .i64 0) (.lit (.int .i64 0))) 1⟩,
      ⟨(some (84, false)), (some (78, true)), .load (.tmp 83 false) 1 false false⟩,
      ⟨(some (85, false)), (some (78, true)), .bin .eql (.tmp 81 false) (.tmp 84 false)⟩,
      ⟨(some (86, false)), (some (74, false)), .pick (.tmp 78 false) (.tmp 85 false) (.cst (.bool false) (.lit (.bool false)))⟩,
      ⟨(some (87, false)), none, .pick (.tmp 74 false) (.cst (.bool true) (.lit (.bool true))) (.tmp 86 false)⟩,
      ⟨(some (88, false)), none, .mov (.tmp 87 false) .peek⟩,
      ⟨(some (89, false)), (some (88, true)), .call 16 []⟩,
      ⟨(some (90, false)), none, .pick (.tmp 88 false) (.tmp 89 false) (.cst (.bool false) (.lit (.bool false)))⟩] [(⟨(some (2, true)), none, .mov (.tmp 90 false) .asg⟩, [])])) [2] []
  (.ret)
def lwTidy_k1 : AC := lwTidy_k1'
theorem lwTidy_k1_w (C : Kn) (K : Ex → St → Prop) (s : St) : vcC C lwTidy_k1 K s = vcC C lwTidy_k1' K s := nr rfl
def lwTidy : AF := ⟨.seq (.reg (.seq [⟨(some (2, true)), none, .mov (.cst (.bool false) (.lit (.bool false))) .asg⟩])) [0] []
  (.seq (.seq (.reg (.seq [⟨(some (6, false)), none, .mov (.tmp 0 true) .peek⟩,
      ⟨(some (7, false)), none, .len (.tmp 6 false)⟩,
      ⟨(some (8, false)), none, .bin .gtr (.tmp 7 false) (.cst (.int .i64 5000) (.lit (.int .i64 5000)))⟩])) [0, 8] []
  (.cond (.tmp 8 false)
    (.seq (.reg (.seq [⟨(some (9, false)), none, .call 16 []⟩,
      ⟨(some (2, true)), none, .mov (.tmp 9 false) .asg⟩])) [2] []
    (.ret))
    (.skip))) [0] []
  (.seq (.reg (.seq [⟨(some (10, false)), none, .mov (.tmp 0 true) .peek⟩,
      ⟨(some (11, false)), none, .call 17 [(.tmp 10 false)]⟩,
      ⟨(some (3, true)), none, .mov (.tmp 11 false) .asg⟩])) [3] []
  (.seq (.reg (.seq [⟨(some (12, false)), none, .mov (.tmp 3 true) .peek⟩,
      ⟨(some (13, false)), none, .call 43 [(.tmp 12 false)]⟩,
      ⟨(some (4, true)), none, .mov (.tmp 13 false) .asg⟩])) [3, 4] []
  (.seq (.seq (.reg (.seq [⟨(some (14, false)), none, .mov (.tmp 4 true) .peek⟩,
      ⟨(some (15, true)), none, .lenL (.tmp 14 false)⟩,
      ⟨(some (16, true)), none, .mov (.cst (.int .i64 0) (.lit (.int .i64 0))) .peek⟩])) [3, 4, 15, 16] []
  (.block 0 (.loop [3, 4, 15, 16] [] lwTidy_l0))) [3, 4] [] lwTidy_k1)))),
  [.tmp 2]⟩
theorem lwTidy_comp (m : Int) : compF Tryd.prog (gl m) [] Tryd.f11 = some lwTidy := by kernel_rfl
structure Neat (M : List Bs) : Prop where
  pos : ∀ (i : Nat) (h : i < M.length), 0 < M[i].length
  fst : ∀ (i : Nat) (h : i < M.length) (h2 : 0 < M[i].length), M[i][0] ≠ 35
  lst : ∀ (i : Nat) (h : i < M.length) (h2 : M[i].length - 1 < M[i].length), M[i][M[i].length - 1] = 10
  emp : ∀ (i : Nat) (h : i < M.length), M[i] = [10] → i ≠ 0 ∧ i ≠ M.length - 1 ∧ ∀ h2 : i - 1 < M.length, M[i - 1] ≠ [10]
theorem neat_of {K : List Bs} (h : Tidy K) : Neat (K.map (· ++ [10])) where
  pos i hi := by simp
  fst i hi h2 := by
    have hk : i < K.length := by simpa using hi
    have hh := h.hash _ (List.getElem_mem hk)
    have gen : ∀ (x : Bs), starts x = false → ∀ h2 : 0 < (x ++ [10]).length, (x ++ [10])[0] ≠ 35 := by
      intro x hx h2
      cases x with
      | nil => simp
      | cons c x => simpa [starts] using hx
    have e : (K.map (· ++ [10]))[i] = K[i] ++ [10] := List.getElem_map _
    revert h2
    rw [e]
    exact gen _ hh
  lst i hi h2 := by simp
  emp i hi he := by
    have hk : i < K.length := by simpa using hi
    simp only [List.getElem_map, List.append_left_eq_self] at he
    have := h.emp i (by rw [getX hk, he])
    refine ⟨this.1, by rw [List.length_map]; omega, fun h2 e => this.2.1 ?_⟩
    have hk2 : i - 1 < K.length := by omega
    simp only [List.getElem_map, List.append_left_eq_self] at e
    rw [getX hk2, e]
theorem first_neat {K : List Bs} (h : Tidy K) (hk : 0 < K.length) : (first (K.map (· ++ [10])) ++ [10] : Bs) = K[0] ++ [10] := by
  cases K with
  | nil => simp at hk
  | cons x K =>
    have hx : x ≠ [] := fun e => (h.emp 0 (by simp [e])).1 rfl
    have hu : unfeed (x ++ [10]) = x := by rw [unfeed, if_pos (by simp), List.dropLast_concat]
    simp only [List.map_cons, first, hu, ne_eq, hx, not_false_eq_true, if_true, List.getElem_cons_zero]
theorem tidy_end (K : List Bs) (hT : Tidy K) (hk : (feeds K).length ≤ 1048576) : vcC (kn m) lwTidy_k1 (outOk [.tmp 2] (B true)) (mkS [(3, S (feeds K)), (4, .sl .own 1 (ss (K.map (· ++ [10]))))] []) := by
  have hl : lines (feeds K) = K.map (· ++ [10]) := lines_map hT.no10
  have hkl := feeds_len (K := K)
  by_cases h0 : K.length = 0
  · have : K = [] := len_0 h0
    subst this
    simp only [lwTidy_k1_w, lwTidy_k1', eqs, reduceCtorEq, implies_true, List.map_cons, List.map_nil, kl, klL, roD, roL, Option.map_some, Option.map_none, Option.getD_some, Option.getD_none, binVal, binObl, unVal, Nat.reduceEqDiff, if_true, if_false, reduceIte, eq_self, passA, frnD, resD, content, getH, getR, getW, viaNot, viaSlot, viaBox, viaDeep, viaMem, List.contains_cons, List.contains_nil, grabs, peeks, okCells, isCell, place, cellsOf, chunk, elt, List.headD_cons, List.length_cons, List.length_nil, List.take_succ_cons, List.take_zero, List.drop_succ_cons, List.drop_zero, Nat.reduceAdd, Nat.reduceSub, Nat.reduceLeDiff, List.nil_append, List.cons_append, List.append_nil, List.all_cons, List.all_nil, plainC, takeR, setW, over, reCell, Int.reduceToNat, List.getElem?_cons_zero, List.getElem?_cons_succ, List.set_cons_zero, List.take_length, outV, resG, plainV, pack, outVG, outBx, List.set_cons_succ, Ref.idx, Ref.addOff, beq_self_eq_true, Nat.reduceBEq, bxL, Option.bind_some, writeR, isLit, viaBoxes, capsPA, boxPA, nsOf, noDup, boxesAt, argG, passG, passD, rhoIn, rhoOut, idxIn, tr, trL, List.getD_cons_zero, gives, pasOf, isPtr]
    rw [show (((0 : Nat) : Int) == 0) = true from rfl]
    simp only [eqs, reduceCtorEq, implies_true, List.map_cons, List.map_nil, kl, klL, roD, roL, Option.map_some, Option.map_none, Option.getD_some, Option.getD_none, binVal, binObl, unVal, Nat.reduceEqDiff, if_true, if_false, reduceIte, eq_self, passA, frnD, resD, content, getH, getR, getW, viaNot, viaSlot, viaBox, viaDeep, viaMem, List.contains_cons, List.contains_nil, grabs, peeks, okCells, isCell, place, cellsOf, chunk, elt, List.headD_cons, List.length_cons, List.length_nil, List.take_succ_cons, List.take_zero, List.drop_succ_cons, List.drop_zero, Nat.reduceAdd, Nat.reduceSub, Nat.reduceLeDiff, List.nil_append, List.cons_append, List.append_nil, List.all_cons, List.all_nil, plainC, takeR, setW, over, reCell, Int.reduceToNat, List.getElem?_cons_zero, List.getElem?_cons_succ, List.set_cons_zero, List.take_length, outV, resG, plainV, pack, outVG, outBx, List.set_cons_succ, Ref.idx, Ref.addOff, beq_self_eq_true, Nat.reduceBEq, bxL, Option.bind_some, writeR, isLit, viaBoxes, capsPA, boxPA, nsOf, noDup, boxesAt, argG, passG, passD, rhoIn, rhoOut, idxIn, tr, trL, List.getD_cons_zero, gives, pasOf, isPtr]
    refine of_call (pfirst_snd _ hk) ?_
    rw [hl]
    simp only [first, eqs, reduceCtorEq, implies_true, List.map_cons, List.map_nil, kl, klL, roD, roL, Option.map_some, Option.map_none, Option.getD_some, Option.getD_none, binVal, binObl, unVal, Nat.reduceEqDiff, if_true, if_false, reduceIte, eq_self, passA, frnD, resD, content, getH, getR, getW, viaNot, viaSlot, viaBox, viaDeep, viaMem, List.contains_cons, List.contains_nil, grabs, peeks, okCells, isCell, place, cellsOf, chunk, elt, List.headD_cons, List.length_cons, List.length_nil, List.take_succ_cons, List.take_zero, List.drop_succ_cons, List.drop_zero, Nat.reduceAdd, Nat.reduceSub, Nat.reduceLeDiff, List.nil_append, List.cons_append, List.append_nil, List.all_cons, List.all_nil, plainC, takeR, setW, over, reCell, Int.reduceToNat, List.getElem?_cons_zero, List.getElem?_cons_succ, List.set_cons_zero, List.take_length, outV, resG, plainV, pack, outVG, outBx, List.set_cons_succ, Ref.idx, Ref.addOff, beq_self_eq_true, Nat.reduceBEq, bxL, Option.bind_some, writeR, isLit, viaBoxes, capsPA, boxPA, nsOf, noDup, boxesAt, argG, passG, passD, rhoIn, rhoOut, idxIn, tr, trL, List.getD_cons_zero, gives, pasOf, isPtr]
    refine of_call lives_snd ?_
    simp only [eqs, reduceCtorEq, implies_true, List.map_cons, List.map_nil, kl, klL, roD, roL, Option.map_some, Option.map_none, Option.getD_some, Option.getD_none, binVal, binObl, unVal, Nat.reduceEqDiff, if_true, if_false, reduceIte, eq_self, passA, frnD, resD, content, getH, getR, getW, viaNot, viaSlot, viaBox, viaDeep, viaMem, List.contains_cons, List.contains_nil, grabs, peeks, okCells, isCell, place, cellsOf, chunk, elt, List.headD_cons, List.length_cons, List.length_nil, List.take_succ_cons, List.take_zero, List.drop_succ_cons, List.drop_zero, Nat.reduceAdd, Nat.reduceSub, Nat.reduceLeDiff, List.nil_append, List.cons_append, List.append_nil, List.all_cons, List.all_nil, plainC, takeR, setW, over, reCell, Int.reduceToNat, List.getElem?_cons_zero, List.getElem?_cons_succ, List.set_cons_zero, List.take_length, outV, resG, plainV, pack, outVG, outBx, List.set_cons_succ, Ref.idx, Ref.addOff, beq_self_eq_true, Nat.reduceBEq, bxL, Option.bind_some, writeR, isLit, viaBoxes, capsPA, boxPA, nsOf, noDup, boxesAt, argG, passG, passD, rhoIn, rhoOut, idxIn, tr, trL, List.getD_cons_zero, gives, pasOf, isPtr]
  · have hk0 : 0 < (K.map (· ++ [10])).length := by rw [List.length_map]; omega
    have hf := first_neat hT (by omega)
    have hg : (K.map (· ++ [10]))[0] = K[0] ++ [10] := by simp
    rw [← hg] at hf
    have hfl : (first (K.map (· ++ [10]))).length ≤ 1048576 := by
      have h1 := congrArg List.length hf
      have h2 := mem_len (List.getElem_mem hk0)
      rw [List.length_append] at h1
      have h3 : (feeds K).length = (K.map (· ++ [10])).flatten.length := rfl
      omega
    revert hl hf hfl
    generalize K.map (· ++ [10]) = M at hk0
    intro hl hf hfl
    simp only [lwTidy_k1_w, lwTidy_k1', eqs, reduceCtorEq, implies_true, List.map_cons, List.map_nil, kl, klL, roD, roL, Option.map_some, Option.map_none, Option.getD_some, Option.getD_none, binVal, binObl, unVal, Nat.reduceEqDiff, if_true, if_false, reduceIte, eq_self, passA, frnD, resD, content, getH, getR, getW, viaNot, viaSlot, viaBox, viaDeep, viaMem, List.contains_cons, List.contains_nil, grabs, peeks, okCells, isCell, place, cellsOf, chunk, elt, List.headD_cons, List.length_cons, List.length_nil, List.take_succ_cons, List.take_zero, List.drop_succ_cons, List.drop_zero, Nat.reduceAdd, Nat.reduceSub, Nat.reduceLeDiff, List.nil_append, List.cons_append, List.append_nil, List.all_cons, List.all_nil, plainC, takeR, setW, over, reCell, Int.reduceToNat, List.getElem?_cons_zero, List.getElem?_cons_succ, List.set_cons_zero, List.take_length, outV, resG, plainV, pack, outVG, outBx, List.set_cons_succ, Ref.idx, Ref.addOff, beq_self_eq_true, Nat.reduceBEq, bxL, Option.bind_some, writeR, isLit, viaBoxes, capsPA, boxPA, nsOf, noDup, boxesAt, argG, passG, passD, rhoIn, rhoOut, idxIn, tr, trL, List.getD_cons_zero, gives, pasOf, isPtr]
    rw [eq_f (by omega : (M.length : Int) ≠ 0)]
    simp only [eqs, reduceCtorEq, implies_true, List.map_cons, List.map_nil, kl, klL, roD, roL, Option.map_some, Option.map_none, Option.getD_some, Option.getD_none, binVal, binObl, unVal, Nat.reduceEqDiff, if_true, if_false, reduceIte, eq_self, passA, frnD, resD, content, getH, getR, getW, viaNot, viaSlot, viaBox, viaDeep, viaMem, List.contains_cons, List.contains_nil, grabs, peeks, okCells, isCell, place, cellsOf, chunk, elt, List.headD_cons, List.length_cons, List.length_nil, List.take_succ_cons, List.take_zero, List.drop_succ_cons, List.drop_zero, Nat.reduceAdd, Nat.reduceSub, Nat.reduceLeDiff, List.nil_append, List.cons_append, List.append_nil, List.all_cons, List.all_nil, plainC, takeR, setW, over, reCell, Int.reduceToNat, List.getElem?_cons_zero, List.getElem?_cons_succ, List.set_cons_zero, List.take_length, outV, resG, plainV, pack, outVG, outBx, List.set_cons_succ, Ref.idx, Ref.addOff, beq_self_eq_true, Nat.reduceBEq, bxL, Option.bind_some, writeR, isLit, viaBoxes, capsPA, boxPA, nsOf, noDup, boxesAt, argG, passG, passD, rhoIn, rhoOut, idxIn, tr, trL, List.getD_cons_zero, gives, pasOf, isPtr]
    rw [igt_t (by omega)]
    simp only [eqs, reduceCtorEq, implies_true, List.map_cons, List.map_nil, kl, klL, roD, roL, Option.map_some, Option.map_none, Option.getD_some, Option.getD_none, binVal, binObl, unVal, Nat.reduceEqDiff, if_true, if_false, reduceIte, eq_self, passA, frnD, resD, content, getH, getR, getW, viaNot, viaSlot, viaBox, viaDeep, viaMem, List.contains_cons, List.contains_nil, grabs, peeks, okCells, isCell, place, cellsOf, chunk, elt, List.headD_cons, List.length_cons, List.length_nil, List.take_succ_cons, List.take_zero, List.drop_succ_cons, List.drop_zero, Nat.reduceAdd, Nat.reduceSub, Nat.reduceLeDiff, List.nil_append, List.cons_append, List.append_nil, List.all_cons, List.all_nil, plainC, takeR, setW, over, reCell, Int.reduceToNat, List.getElem?_cons_zero, List.getElem?_cons_succ, List.set_cons_zero, List.take_length, outV, resG, plainV, pack, outVG, outBx, List.set_cons_succ, Ref.idx, Ref.addOff, beq_self_eq_true, Nat.reduceBEq, bxL, Option.bind_some, writeR, isLit, viaBoxes, capsPA, boxPA, nsOf, noDup, boxesAt, argG, passG, passD, rhoIn, rhoOut, idxIn, tr, trL, List.getD_cons_zero, gives, pasOf, isPtr]
    refine of_call (pfirst_snd _ hk) ?_
    rw [hl]
    simp only [ssE M hk0, eqs, reduceCtorEq, implies_true, List.map_cons, List.map_nil, kl, klL, roD, roL, Option.map_some, Option.map_none, Option.getD_some, Option.getD_none, binVal, binObl, unVal, Nat.reduceEqDiff, if_true, if_false, reduceIte, eq_self, passA, frnD, resD, content, getH, getR, getW, viaNot, viaSlot, viaBox, viaDeep, viaMem, List.contains_cons, List.contains_nil, grabs, peeks, okCells, isCell, place, cellsOf, chunk, elt, List.headD_cons, List.length_cons, List.length_nil, List.take_succ_cons, List.take_zero, List.drop_succ_cons, List.drop_zero, Nat.reduceAdd, Nat.reduceSub, Nat.reduceLeDiff, List.nil_append, List.cons_append, List.append_nil, List.all_cons, List.all_nil, plainC, takeR, setW, over, reCell, Int.reduceToNat, List.getElem?_cons_zero, List.getElem?_cons_succ, List.set_cons_zero, List.take_length, outV, resG, plainV, pack, outVG, outBx, List.set_cons_succ, Ref.idx, Ref.addOff, beq_self_eq_true, Nat.reduceBEq, bxL, Option.bind_some, writeR, isLit, viaBoxes, capsPA, boxPA, nsOf, noDup, boxesAt, argG, passG, passD, rhoIn, rhoOut, idxIn, tr, trL, List.getD_cons_zero, gives, pasOf, isPtr]
    rw [hf]
    simp only [eqs, reduceCtorEq, implies_true, List.map_cons, List.map_nil, kl, klL, roD, roL, Option.map_some, Option.map_none, Option.getD_some, Option.getD_none, binVal, binObl, unVal, Nat.reduceEqDiff, if_true, if_false, reduceIte, eq_self, passA, frnD, resD, content, getH, getR, getW, viaNot, viaSlot, viaBox, viaDeep, viaMem, List.contains_cons, List.contains_nil, grabs, peeks, okCells, isCell, place, cellsOf, chunk, elt, List.headD_cons, List.length_cons, List.length_nil, List.take_succ_cons, List.take_zero, List.drop_succ_cons, List.drop_zero, Nat.reduceAdd, Nat.reduceSub, Nat.reduceLeDiff, List.nil_append, List.cons_append, List.append_nil, List.all_cons, List.all_nil, plainC, takeR, setW, over, reCell, Int.reduceToNat, List.getElem?_cons_zero, List.getElem?_cons_succ, List.set_cons_zero, List.take_length, outV, resG, plainV, pack, outVG, outBx, List.set_cons_succ, Ref.idx, Ref.addOff, beq_self_eq_true, Nat.reduceBEq, bxL, Option.bind_some, writeR, isLit, viaBoxes, capsPA, boxPA, nsOf, noDup, boxesAt, argG, passG, passD, rhoIn, rhoOut, idxIn, tr, trL, List.getD_cons_zero, gives, pasOf, isPtr]
    repeat (refine ⟨by (try simp only [List.length_append, List.length_cons, List.length_nil]); omega, ?_⟩)
    refine of_call lives_snd ?_
    simp only [eqs, reduceCtorEq, implies_true, List.map_cons, List.map_nil, kl, klL, roD, roL, Option.map_some, Option.map_none, Option.getD_some, Option.getD_none, binVal, binObl, unVal, Nat.reduceEqDiff, if_true, if_false, reduceIte, eq_self, passA, frnD, resD, content, getH, getR, getW, viaNot, viaSlot, viaBox, viaDeep, viaMem, List.contains_cons, List.contains_nil, grabs, peeks, okCells, isCell, place, cellsOf, chunk, elt, List.headD_cons, List.length_cons, List.length_nil, List.take_succ_cons, List.take_zero, List.drop_succ_cons, List.drop_zero, Nat.reduceAdd, Nat.reduceSub, Nat.reduceLeDiff, List.nil_append, List.cons_append, List.append_nil, List.all_cons, List.all_nil, plainC, takeR, setW, over, reCell, Int.reduceToNat, List.getElem?_cons_zero, List.getElem?_cons_succ, List.set_cons_zero, List.take_length, outV, resG, plainV, pack, outVG, outBx, List.set_cons_succ, Ref.idx, Ref.addOff, beq_self_eq_true, Nat.reduceBEq, bxL, Option.bind_some, writeR, isLit, viaBoxes, capsPA, boxPA, nsOf, noDup, boxesAt, argG, passG, passD, rhoIn, rhoOut, idxIn, tr, trL, List.getD_cons_zero, gives, pasOf, isPtr]
set_option maxRecDepth 10000 in
theorem tidy_loop (K M : List Bs) (hM : M = K.map (· ++ [10])) (hT : Tidy K) (hN : Neat M) (hk : (feeds K).length ≤ 1048576) (hML : M.length ≤ 1048576) (hb : ∀ l, l ∈ M → l.length ≤ 1048576) (n : Nat) : ∀ (i : Nat) (hn : M.length - i = n) (hi : i ≤ M.length),
    vcL (kn m) [3, 4, 15, 16] [] lwTidy_l0 (blockK 0 (seqK (kn m) [3, 4] [] lwTidy_k1 (outOk [.tmp 2] (B true)))) (mkS [(3, S (feeds K)), (4, .sl .own 1 (ss M)), (15, N M.length), (16, N i)] []) := by
  induction n with
  | zero =>
    intro i hn hi
    have hil : i = M.length := by omega
    subst hil
    apply round
    simp only [lwTidy_l0_w, lwTidy_l0', eqs, reduceCtorEq, implies_true, List.map_cons, List.map_nil, kl, klL, roD, roL, Option.map_some, Option.map_none, Option.getD_some, Option.getD_none, binVal, binObl, unVal, Nat.reduceEqDiff, if_true, if_false, reduceIte, eq_self, passA, frnD, resD, content, getH, getR, getW, viaNot, viaSlot, viaBox, viaDeep, viaMem, List.contains_cons, List.contains_nil, grabs, peeks, okCells, isCell, place, cellsOf, chunk, elt, List.headD_cons, List.length_cons, List.length_nil, List.take_succ_cons, List.take_zero, List.drop_succ_cons, List.drop_zero, Nat.reduceAdd, Nat.reduceSub, Nat.reduceLeDiff, List.nil_append, List.cons_append, List.append_nil, List.all_cons, List.all_nil, plainC, takeR, setW, over, reCell, Int.reduceToNat, List.getElem?_cons_zero, List.getElem?_cons_succ, List.set_cons_zero, List.take_length, outV, resG, plainV, pack, outVG, outBx, List.set_cons_succ, Ref.idx, Ref.addOff, beq_self_eq_true, Nat.reduceBEq, bxL, Option.bind_some, writeR, isLit, viaBoxes, capsPA, boxPA, nsOf, noDup, boxesAt, argG, passG, passD, rhoIn, rhoOut, idxIn, tr, trL, List.getD_cons_zero, gives, pasOf, isPtr]
    rw [lt_f (by omega)]
    simp only [eqs, reduceCtorEq, implies_true, List.map_cons, List.map_nil, kl, klL, roD, roL, Option.map_some, Option.map_none, Option.getD_some, Option.getD_none, binVal, binObl, unVal, Nat.reduceEqDiff, if_true, if_false, reduceIte, eq_self, passA, frnD, resD, content, getH, getR, getW, viaNot, viaSlot, viaBox, viaDeep, viaMem, List.contains_cons, List.contains_nil, grabs, peeks, okCells, isCell, place, cellsOf, chunk, elt, List.headD_cons, List.length_cons, List.length_nil, List.take_succ_cons, List.take_zero, List.drop_succ_cons, List.drop_zero, Nat.reduceAdd, Nat.reduceSub, Nat.reduceLeDiff, List.nil_append, List.cons_append, List.append_nil, List.all_cons, List.all_nil, plainC, takeR, setW, over, reCell, Int.reduceToNat, List.getElem?_cons_zero, List.getElem?_cons_succ, List.set_cons_zero, List.take_length, outV, resG, plainV, pack, outVG, outBx, List.set_cons_succ, Ref.idx, Ref.addOff, beq_self_eq_true, Nat.reduceBEq, bxL, Option.bind_some, writeR, isLit, viaBoxes, capsPA, boxPA, nsOf, noDup, boxesAt, argG, passG, passD, rhoIn, rhoOut, idxIn, tr, trL, List.getD_cons_zero, gives, pasOf, isPtr]
    rw [hM]
    exact tidy_end K hT hk
  | succ n ih =>
    intro i hn hi
    have hil : i < M.length := by omega
    have hw : IntKind.i64.wrap ((i : Int) + 1) = ((i + 1 : Nat) : Int) := wrapN (i + 1) (by omega) (by omega)
    have hpos := hN.pos i hil
    have hlb := hb _ (List.getElem_mem hil)
    have hk1 : M[i].length - 1 < M[i].length := by omega
    have hw2 : IntKind.i64.wrap ((M[i].length : Int) - 1) = ((M[i].length - 1 : Nat) : Int) := wrapN (M[i].length - 1) (by omega) (by omega)
    have hw3 : IntKind.i64.wrap ((M.length : Int) - 1) = ((M.length - 1 : Nat) : Int) := wrapN (M.length - 1) (by omega) (by omega)
    have e1 := u8b_f (n := 35) (hN.fst i hil hpos) rfl
    have e2 := u8n_f (n := 10) (hN.lst i hil hk1) rfl
    apply round
    simp only [lwTidy_l0_w, lwTidy_l0', eqs, reduceCtorEq, implies_true, List.map_cons, List.map_nil, kl, klL, roD, roL, Option.map_some, Option.map_none, Option.getD_some, Option.getD_none, binVal, binObl, unVal, Nat.reduceEqDiff, if_true, if_false, reduceIte, eq_self, passA, frnD, resD, content, getH, getR, getW, viaNot, viaSlot, viaBox, viaDeep, viaMem, List.contains_cons, List.contains_nil, grabs, peeks, okCells, isCell, place, cellsOf, chunk, elt, List.headD_cons, List.length_cons, List.length_nil, List.take_succ_cons, List.take_zero, List.drop_succ_cons, List.drop_zero, Nat.reduceAdd, Nat.reduceSub, Nat.reduceLeDiff, List.nil_append, List.cons_append, List.append_nil, List.all_cons, List.all_nil, plainC, takeR, setW, over, reCell, Int.reduceToNat, List.getElem?_cons_zero, List.getElem?_cons_succ, List.set_cons_zero, List.take_length, outV, resG, plainV, pack, outVG, outBx, List.set_cons_succ, Ref.idx, Ref.addOff, beq_self_eq_true, Nat.reduceBEq, bxL, Option.bind_some, writeR, isLit, viaBoxes, capsPA, boxPA, nsOf, noDup, boxesAt, argG, passG, passD, rhoIn, rhoOut, idxIn, tr, trL, List.getD_cons_zero, gives, pasOf, isPtr]
    rw [lt_t hil]
    by_cases he : M[i] = [10]
    · obtain ⟨h1, h2, h3⟩ := hN.emp i hil he
      have hi1 : i - 1 < M.length := by omega
      have hw4 : IntKind.i64.wrap ((i : Int) - 1) = ((i - 1 : Nat) : Int) := wrapN (i - 1) (by omega) (by omega)
      have e3 := se_t he
      have e4 := eq_f (by omega : (i : Int) ≠ 0)
      have e5 := eq_f (by omega : (i : Int) ≠ ((M.length - 1 : Nat) : Int))
      have e6 := se_f (h3 hi1)
      simp only [ssE M hil, getE hpos, e1, hw2, hw3, hw4, getE hk1, e2, e3, e4, e5, ssE M hi1, e6, hw, eqs, reduceCtorEq, implies_true, List.map_cons, List.map_nil, kl, klL, roD, roL, Option.map_some, Option.map_none, Option.getD_some, Option.getD_none, binVal, binObl, unVal, Nat.reduceEqDiff, if_true, if_false, reduceIte, eq_self, passA, frnD, resD, content, getH, getR, getW, viaNot, viaSlot, viaBox, viaDeep, viaMem, List.contains_cons, List.contains_nil, grabs, peeks, okCells, isCell, place, cellsOf, chunk, elt, List.headD_cons, List.length_cons, List.length_nil, List.take_succ_cons, List.take_zero, List.drop_succ_cons, List.drop_zero, Nat.reduceAdd, Nat.reduceSub, Nat.reduceLeDiff, List.nil_append, List.cons_append, List.append_nil, List.all_cons, List.all_nil, plainC, takeR, setW, over, reCell, Int.reduceToNat, List.getElem?_cons_zero, List.getElem?_cons_succ, List.set_cons_zero, List.take_length, outV, resG, plainV, pack, outVG, outBx, List.set_cons_succ, Ref.idx, Ref.addOff, beq_self_eq_true, Nat.reduceBEq, bxL, Option.bind_some, writeR, isLit, viaBoxes, capsPA, boxPA, nsOf, noDup, boxesAt, argG, passG, passD, rhoIn, rhoOut, idxIn, tr, trL, List.getD_cons_zero, gives, pasOf, isPtr]
      repeat (refine ⟨by (try simp only [List.length_append, List.length_cons, List.length_nil]); omega, ?_⟩)
      exact ih (i + 1) (by omega) (by omega)
    · have e3 := se_f he
      simp only [ssE M hil, getE hpos, e1, hw2, hw3, getE hk1, e2, e3, hw, eqs, reduceCtorEq, implies_true, List.map_cons, List.map_nil, kl, klL, roD, roL, Option.map_some, Option.map_none, Option.getD_some, Option.getD_none, binVal, binObl, unVal, Nat.reduceEqDiff, if_true, if_false, reduceIte, eq_self, passA, frnD, resD, content, getH, getR, getW, viaNot, viaSlot, viaBox, viaDeep, viaMem, List.contains_cons, List.contains_nil, grabs, peeks, okCells, isCell, place, cellsOf, chunk, elt, List.headD_cons, List.length_cons, List.length_nil, List.take_succ_cons, List.take_zero, List.drop_succ_cons, List.drop_zero, Nat.reduceAdd, Nat.reduceSub, Nat.reduceLeDiff, List.nil_append, List.cons_append, List.append_nil, List.all_cons, List.all_nil, plainC, takeR, setW, over, reCell, Int.reduceToNat, List.getElem?_cons_zero, List.getElem?_cons_succ, List.set_cons_zero, List.take_length, outV, resG, plainV, pack, outVG, outBx, List.set_cons_succ, Ref.idx, Ref.addOff, beq_self_eq_true, Nat.reduceBEq, bxL, Option.bind_some, writeR, isLit, viaBoxes, capsPA, boxPA, nsOf, noDup, boxesAt, argG, passG, passD, rhoIn, rhoOut, idxIn, tr, trL, List.getD_cons_zero, gives, pasOf, isPtr]
      repeat (refine ⟨by (try simp only [List.length_append, List.length_cons, List.length_nil]); omega, ?_⟩)
      exact ih (i + 1) (by omega) (by omega)
theorem tidy_law (s : Bs) (hs : s.length ≤ 1048576) : Snd Tryd.prog (gl m) 11 [S s] (B true) := by
  refine snd_of (fn := Tryd.f11) (af := lwTidy) Tryd.func11 (lwTidy_comp m) mixed (kn_ok m) (Nat.le_of_ble_eq_true rfl) ?_
  simp only [lwTidy, eqs, reduceCtorEq, implies_true, List.map_cons, List.map_nil, kl, klL, roD, roL, Option.map_some, Option.map_none, Option.getD_some, Option.getD_none, binVal, binObl, unVal, Nat.reduceEqDiff, if_true, if_false, reduceIte, eq_self, passA, frnD, resD, content, getH, getR, getW, viaNot, viaSlot, viaBox, viaDeep, viaMem, List.contains_cons, List.contains_nil, grabs, peeks, okCells, isCell, place, cellsOf, chunk, elt, List.headD_cons, List.length_cons, List.length_nil, List.take_succ_cons, List.take_zero, List.drop_succ_cons, List.drop_zero, Nat.reduceAdd, Nat.reduceSub, Nat.reduceLeDiff, List.nil_append, List.cons_append, List.append_nil, List.all_cons, List.all_nil, plainC, takeR, setW, over, reCell, Int.reduceToNat, List.getElem?_cons_zero, List.getElem?_cons_succ, List.set_cons_zero, List.take_length, outV, resG, plainV, pack, outVG, outBx, List.set_cons_succ, Ref.idx, Ref.addOff, beq_self_eq_true, Nat.reduceBEq, bxL, Option.bind_some, writeR, isLit, viaBoxes, capsPA, boxPA, nsOf, noDup, boxesAt, argG, passG, passD, rhoIn, rhoOut, idxIn, tr, trL, List.getD_cons_zero, gives, pasOf, isPtr]
  by_cases h : 5000 < s.length
  · rw [igt_t (by omega)]
    simp only [eqs, reduceCtorEq, implies_true, List.map_cons, List.map_nil, kl, klL, roD, roL, Option.map_some, Option.map_none, Option.getD_some, Option.getD_none, binVal, binObl, unVal, Nat.reduceEqDiff, if_true, if_false, reduceIte, eq_self, passA, frnD, resD, content, getH, getR, getW, viaNot, viaSlot, viaBox, viaDeep, viaMem, List.contains_cons, List.contains_nil, grabs, peeks, okCells, isCell, place, cellsOf, chunk, elt, List.headD_cons, List.length_cons, List.length_nil, List.take_succ_cons, List.take_zero, List.drop_succ_cons, List.drop_zero, Nat.reduceAdd, Nat.reduceSub, Nat.reduceLeDiff, List.nil_append, List.cons_append, List.append_nil, List.all_cons, List.all_nil, plainC, takeR, setW, over, reCell, Int.reduceToNat, List.getElem?_cons_zero, List.getElem?_cons_succ, List.set_cons_zero, List.take_length, outV, resG, plainV, pack, outVG, outBx, List.set_cons_succ, Ref.idx, Ref.addOff, beq_self_eq_true, Nat.reduceBEq, bxL, Option.bind_some, writeR, isLit, viaBoxes, capsPA, boxPA, nsOf, noDup, boxesAt, argG, passG, passD, rhoIn, rhoOut, idxIn, tr, trL, List.getD_cons_zero, gives, pasOf, isPtr]
    refine of_call lives_snd ?_
    simp only [eqs, reduceCtorEq, implies_true, List.map_cons, List.map_nil, kl, klL, roD, roL, Option.map_some, Option.map_none, Option.getD_some, Option.getD_none, binVal, binObl, unVal, Nat.reduceEqDiff, if_true, if_false, reduceIte, eq_self, passA, frnD, resD, content, getH, getR, getW, viaNot, viaSlot, viaBox, viaDeep, viaMem, List.contains_cons, List.contains_nil, grabs, peeks, okCells, isCell, place, cellsOf, chunk, elt, List.headD_cons, List.length_cons, List.length_nil, List.take_succ_cons, List.take_zero, List.drop_succ_cons, List.drop_zero, Nat.reduceAdd, Nat.reduceSub, Nat.reduceLeDiff, List.nil_append, List.cons_append, List.append_nil, List.all_cons, List.all_nil, plainC, takeR, setW, over, reCell, Int.reduceToNat, List.getElem?_cons_zero, List.getElem?_cons_succ, List.set_cons_zero, List.take_length, outV, resG, plainV, pack, outVG, outBx, List.set_cons_succ, Ref.idx, Ref.addOff, beq_self_eq_true, Nat.reduceBEq, bxL, Option.bind_some, writeR, isLit, viaBoxes, capsPA, boxPA, nsOf, noDup, boxesAt, argG, passG, passD, rhoIn, rhoOut, idxIn, tr, trL, List.getD_cons_zero, gives, pasOf, isPtr]
  · rw [igt_f (by omega)]
    simp only [eqs, reduceCtorEq, implies_true, List.map_cons, List.map_nil, kl, klL, roD, roL, Option.map_some, Option.map_none, Option.getD_some, Option.getD_none, binVal, binObl, unVal, Nat.reduceEqDiff, if_true, if_false, reduceIte, eq_self, passA, frnD, resD, content, getH, getR, getW, viaNot, viaSlot, viaBox, viaDeep, viaMem, List.contains_cons, List.contains_nil, grabs, peeks, okCells, isCell, place, cellsOf, chunk, elt, List.headD_cons, List.length_cons, List.length_nil, List.take_succ_cons, List.take_zero, List.drop_succ_cons, List.drop_zero, Nat.reduceAdd, Nat.reduceSub, Nat.reduceLeDiff, List.nil_append, List.cons_append, List.append_nil, List.all_cons, List.all_nil, plainC, takeR, setW, over, reCell, Int.reduceToNat, List.getElem?_cons_zero, List.getElem?_cons_succ, List.set_cons_zero, List.take_length, outV, resG, plainV, pack, outVG, outBx, List.set_cons_succ, Ref.idx, Ref.addOff, beq_self_eq_true, Nat.reduceBEq, bxL, Option.bind_some, writeR, isLit, viaBoxes, capsPA, boxPA, nsOf, noDup, boxesAt, argG, passG, passD, rhoIn, rhoOut, idxIn, tr, trL, List.getD_cons_zero, gives, pasOf, isPtr]
    have hcl := cleanP_len s
    obtain ⟨K, hT, hK, _⟩ := clean_both s
    refine of_call (pclean_snd s hs) ?_
    rw [hK] at hcl ⊢
    simp only [eqs, reduceCtorEq, implies_true, List.map_cons, List.map_nil, kl, klL, roD, roL, Option.map_some, Option.map_none, Option.getD_some, Option.getD_none, binVal, binObl, unVal, Nat.reduceEqDiff, if_true, if_false, reduceIte, eq_self, passA, frnD, resD, content, getH, getR, getW, viaNot, viaSlot, viaBox, viaDeep, viaMem, List.contains_cons, List.contains_nil, grabs, peeks, okCells, isCell, place, cellsOf, chunk, elt, List.headD_cons, List.length_cons, List.length_nil, List.take_succ_cons, List.take_zero, List.drop_succ_cons, List.drop_zero, Nat.reduceAdd, Nat.reduceSub, Nat.reduceLeDiff, List.nil_append, List.cons_append, List.append_nil, List.all_cons, List.all_nil, plainC, takeR, setW, over, reCell, Int.reduceToNat, List.getElem?_cons_zero, List.getElem?_cons_succ, List.set_cons_zero, List.take_length, outV, resG, plainV, pack, outVG, outBx, List.set_cons_succ, Ref.idx, Ref.addOff, beq_self_eq_true, Nat.reduceBEq, bxL, Option.bind_some, writeR, isLit, viaBoxes, capsPA, boxPA, nsOf, noDup, boxesAt, argG, passG, passD, rhoIn, rhoOut, idxIn, tr, trL, List.getD_cons_zero, gives, pasOf, isPtr]
    refine of_call (rsplit_snd (feeds K) (by omega)) ?_
    rw [show lines (feeds K) = K.map (· ++ [10]) from lines_map hT.no10]
    simp only [eqs, reduceCtorEq, implies_true, List.map_cons, List.map_nil, kl, klL, roD, roL, Option.map_some, Option.map_none, Option.getD_some, Option.getD_none, binVal, binObl, unVal, Nat.reduceEqDiff, if_true, if_false, reduceIte, eq_self, passA, frnD, resD, content, getH, getR, getW, viaNot, viaSlot, viaBox, viaDeep, viaMem, List.contains_cons, List.contains_nil, grabs, peeks, okCells, isCell, place, cellsOf, chunk, elt, List.headD_cons, List.length_cons, List.length_nil, List.take_succ_cons, List.take_zero, List.drop_succ_cons, List.drop_zero, Nat.reduceAdd, Nat.reduceSub, Nat.reduceLeDiff, List.nil_append, List.cons_append, List.append_nil, List.all_cons, List.all_nil, plainC, takeR, setW, over, reCell, Int.reduceToNat, List.getElem?_cons_zero, List.getElem?_cons_succ, List.set_cons_zero, List.take_length, outV, resG, plainV, pack, outVG, outBx, List.set_cons_succ, Ref.idx, Ref.addOff, beq_self_eq_true, Nat.reduceBEq, bxL, Option.bind_some, writeR, isLit, viaBoxes, capsPA, boxPA, nsOf, noDup, boxesAt, argG, passG, passD, rhoIn, rhoOut, idxIn, tr, trL, List.getD_cons_zero, gives, pasOf, isPtr]
    have h3 : (feeds K).length = (K.map (· ++ [10])).flatten.length := rfl
    have hkl := feeds_len (K := K)
    exact tidy_loop K _ rfl hT (neat_of hT) (by omega) (by rw [List.length_map]; omega) (fun l hl => by have := mem_len hl; omega) _ 0 rfl (by omega)
end Go.Ln

/- LinesTidy: the card, by the second form. -/
namespace Go.Proofs.YtolghafejibajaaDoor.linesTidy
open Go.ChangeShapes Go.WideShapes Go.ChangeAt Go.RowKit
open Go.ChangeMaps (open_string shut_string)
open Go.Ev (X0 old Bs ss TabsAt RelT)
set_option linter.unusedVariables false

theorem contract (H : Type) (enc : TypeId × Value → H) (W : World) (base : Nat) (args : Array Value) (ds gs : List (DataW H)) (before : List MemPlace)
    (hval : ∀ (j : Nat) t v, Tryd.f11.params[j]? = some t → args[j]? = some v → Value.okWide Tryd.prog W .any base t v)
    (hW : DataW.Whole enc Tryd.prog Tryd.f11.params.toList Rows.linesTidySpec.vars false W args.toList ds gs before) (hk : Rows.uptoSmall H (ds ++ gs) = true) (hsh : W.ShapedOpen Tryd.prog) :
    Calls Tryd.prog 11 args W fun e W' => ∃ v, e = .returned v ∧ Rows.linesTidySpec.post enc Tryd.prog Tryd.f11 false true false false W args v W' := by
  refine Ev.contract_law laidOut (by kernel_rfl) rfl (tb := 4) (by kernel_rfl) (by kernel_rfl) Tryd.underlying4 (fun ds hd => ?_) hW ?_
  · rw [Tryd.params11] at hd
    match ds, hd with
    | [d0], _ => rfl
  · obtain ⟨p, q, hA0, hV, rfl, hfz, hnd⟩ := hW
    have hA : DataW.TrodAll enc Tryd.prog W 0 (fun _ => true) true Tryd.f11.params.toList args.toList ds p := hA0
    rw [Tryd.params11] at hA hval
    obtain ⟨v0, vs0, d0, ds0, p0, q0, hargs, rfl, rfl, h0, r0⟩ := trodAll_cons hA
    obtain ⟨rfl, rfl, rfl⟩ := trodAll_nil r0
    obtain rfl : args = #[v0] := by cases args; simp_all
    obtain ⟨rfl, rfl⟩ := trodVars_none hV
    obtain ⟨s0, rfl, rfl, rfl, hmax0⟩ := open_string Tryd.underlying9 (hval 0 9 v0 rfl rfl) h0
    obtain ⟨m, hm⟩ := maxLen_at hsh
    have hb0 := bulk_small hk
    simp only [List.append_nil] at hb0
    have hb1 := bulk_string hb0
    exact Ev.calls_law (Ln.tidy_law s0.data.toList (by omega)) (tabs hm) (.cons _ _ _ [] _ _ [] Ev.rel_string (.nil _) (fun b hb => (List.not_mem_nil hb).elim))

theorem reads (os : Os) {H : Type} (enc : TypeId × Value → H) : ∃ places, DataW.whole enc Tryd.prog ((laidWorld os).forCall (fun _ _ => 0) ⟨#[], #[.string ⟨#[]⟩], []⟩).memory Tryd.f11.params.toList Rows.linesTidySpec.vars false #[Value.string ⟨#[]⟩].toList 8 = some ([.lit (.string [])], [], places) :=
  ⟨[], by kernel_rfl⟩

set_option maxRecDepth 100000 in
theorem lifted (os : Os) (started : os.Started) (H : Type) (enc : TypeId × Value → H) (F : Stop.Interp) :
    ReturnsInHanded {} Tryd.checked os 11 .any ((Rows.OpenSpec.upto Rows.linesTidySpec).preRow enc Tryd.prog Tryd.f11 Rows.linesTidyUptoRow.domain false Rows.linesTidyUptoRow.laid) (((Rows.OpenSpec.upto Rows.linesTidySpec).at F).post enc Tryd.prog Tryd.f11 false true false false) := by
  obtain ⟨places, hx⟩ := reads os enc
  refine returnsInHanded_of_row (C := Tryd.checked) (s := Rows.OpenSpec.upto Rows.linesTidySpec) own started (by kernel_rfl) Tryd.func11
    (witness_row_at (enc := enc) (C := Tryd.checked) false (laidWorld os) #[.string ⟨#[]⟩] rfl (by kernel_rfl) (by kernel_rfl) (by kernel_rfl)
      (OpenSpec.preRow_of_cond 8 hx (by kernel_rfl) (fun k hk => by cases hk; kernel_rfl) (by kernel_rfl) (laid_met os _))) ?_
  intro W base args ds gs before hval hW _ hcond _ hL hsh _
  exact contract H enc W base args ds gs before hval hW (hcond _ rfl) hsh

theorem said : Rows.LinesTidyUptoSaid :=
  OpenClaim.holds_of_cond 11 Tryd.f11 rfl rfl rfl rfl rfl rfl rfl ⟨rfl, rfl, rfl, rfl, rfl⟩ rfl rfl rfl rfl rfl (by kernel_rfl) Tryd.func11 (by kernel_rfl)
    (of_decide_eq_true (by kernel_rfl)) (by unfold Func.isWrapper; first | (rw [if_pos (by decide +kernel)]; kernel_rfl) | (rw [if_neg (by decide +kernel)]; exact ⟨rfl, rfl⟩))
    (fun os started H enc _ F => by rw [OpenClaim.pre_eq_preRow]; exact lifted os started H enc F)

theorem plain (f : FuncId) (fn : Func) (hf : Tryd.pinned.checked.prog.funcNamed "graftage/graftagelaw05.LinesTidy" = some f) (hfn : Tryd.pinned.checked.prog.funcs[f]? = some fn) :
    false = Tryd.pinned.checked.prog.looks [] ∧ ∀ (j : Nat) t, fn.params[j]? = some t → Tryd.pinned.checked.prog.wantsStandIn t = false := by
  obtain rfl : f = 11 := Option.some.inj ((show Tryd.prog.funcNamed "graftage/graftagelaw05.LinesTidy" = some 11 by kernel_rfl).symm.trans hf) |>.symm
  obtain rfl : fn = Tryd.f11 := (Option.some.inj (Tryd.func11.symm.trans hfn)).symm
  refine ⟨by kernel_rfl, fun j t ht => ?_⟩
  rw [Tryd.params11] at ht
  have ht := Array.mem_of_getElem? ht
  simp only [Array.mem_def, List.mem_cons, List.not_mem_nil, or_false] at ht
  rcases ht with rfl
  exact (show Tryd.prog.wantsStandIn 9 = false by kernel_rfl)

theorem holds : Rows.LinesTidyUptoCardSaid :=
  Claim7.holds_tied_plain_at .later [] _ _ _ _ said (fun _ h => by cases h) (by kernel_rfl) (fun _ h => by cases h) linesTidyUpto_row_tie rfl ⟨rfl, rfl⟩ (by kernel_rfl) rfl plain (by kernel_rfl)
#print axioms holds
end Go.Proofs.YtolghafejibajaaDoor.linesTidy

