import Derived.Test.YtcahaecjjochbaaDoorAtI
set_option linter.unusedVariables false
set_option linter.unusedSimpArgs false
/- Ignore: the reference's Is; sameness; Files; the examples. -/
namespace Go.At
open Go Go.Ev Go.Proofs
open Go.Ln (u8b_t u8b_f lines lines_len line_len lf crlf binary idx idx_eq unfeed unfeed_len)
open Go.Gb (isPath isPat matchF pieces pieces_ne pieces_len piece_len parts pis_snd ris_snd rparts_snd)
set_option linter.unusedVariables false
set_option linter.unusedSimpArgs false
attribute [local go_sem] eqs implies_true List.map_cons List.map_nil kl klL roD roL Option.map_some Option.map_none Option.getD_some Option.getD_none binVal binObl unVal if_true if_false eq_self passA frnD resD content getH getR getW viaNot viaSlot viaBox viaDeep viaMem List.contains_cons List.contains_nil grabs peeks okCells isCell place cellsOf chunk elt List.headD_cons List.length_cons List.length_nil List.take_succ_cons List.take_zero List.drop_succ_cons List.drop_zero List.nil_append List.cons_append List.append_nil List.all_cons List.all_nil plainC takeR setW over reCell List.getElem?_cons_zero List.getElem?_cons_succ List.set_cons_zero List.take_length outV resG plainV pack outVG outBx List.set_cons_succ Ref.idx Ref.addOff beq_self_eq_true bxL Option.bind_some writeR isLit viaBoxes capsPA boxPA nsOf noDup boxesAt argG passG passD rhoIn rhoOut idxIn tr trL List.getD_cons_zero gives pasOf isPtr Ins.d List.getD_cons_succ resL frnL List.getLast?_nil frnL_fs roL_fs resL_fs passL_fs klL_fs trL_fs map_roD_fs fs_length ruleT
variable {m : Int}
def iopen : AF := ⟨.seq (.reg (.seq [⟨(some (4, true)), none, .mov (.cst (.bool false) (.lit (.bool false))) .asg⟩])) [0, 1] []
  (.seq (.reg (.seq [⟨(some (6, false)), none, .mov (.tmp 1 true) .peek⟩,
      ⟨(some (7, false)), none, .call 41 [(.tmp 6 false)]⟩,
      ⟨(some (5, true)), none, .mov (.tmp 7 false) .asg⟩])) [0, 5] []
  (.seq (.reg (.seq [⟨(some (8, false)), none, .mov (.tmp 5 true) .peek⟩,
      ⟨(some (9, false)), none, .bin .eql (.tmp 8 false) (.cst (.string (str [])) (.lit (.string (str []))))⟩,
      ⟨(some (10, false)), none, .mov (.tmp 9 false) .peek⟩,
      ⟨(some (11, false)), (some (10, false)), .mov (.tmp 0 true) .peek⟩,
      ⟨(some (12, false)), (some (10, false)), .mov (.tmp 5 true) .peek⟩,
      ⟨(some (13, false)), (some (10, false)), .call 38 [(.tmp 11 false), (.tmp 12 false), (.cst (.bool true) (.lit (.bool true)))]⟩,
      ⟨(some (14, false)), (some (10, false)), .un .not (.tmp 13 false)⟩,
      ⟨(some (15, false)), none, .pick (.tmp 10 false) (.cst (.bool true) (.lit (.bool true))) (.tmp 14 false)⟩,
      ⟨(some (4, true)), none, .mov (.tmp 15 false) .asg⟩])) [4] []
  (.ret))),
  [.tmp 4]⟩
theorem iopen_comp (m : Int) : compF Tryd.prog (gl m) [] Tryd.f40 = some iopen := by kernel_rfl
def ilives : AF := ⟨.seq (.reg (.seq [⟨(some (0, true)), none, .mov (.cst (.bool false) (.lit (.bool false))) .asg⟩])) [] []
  (.seq (.reg (.seq [⟨(some (2, false)), none, .call 31 [(.cst (.string (str [42, 46, 111, 10, 33, 97, 46, 111, 10, 47, 98, 47, 10, 99, 47, 100, 10])) (.lit (.string (str [42, 46, 111, 10, 33, 97, 46, 111, 10, 47, 98, 47, 10, 99, 47, 100, 10])))), (.cst (.string (str [])) (.lit (.string (str []))))]⟩,
      ⟨(some (1, true)), none, .mov (.tmp 2 false) .asg⟩])) [1] []
  (.seq (.reg (.seq [⟨(some (3, false)), none, .mov (.tmp 1 true) .peek⟩,
      ⟨(some (4, false)), none, .lenL (.tmp 3 false)⟩,
      ⟨(some (5, false)), none, .bin .eql (.tmp 4 false) (.cst (.int .i64 4) (.lit (.int .i64 4)))⟩,
      ⟨(some (6, false)), none, .mov (.tmp 5 false) .peek⟩,
      ⟨(some (7, false)), (some (6, true)), .mov (.tmp 1 true) .peek⟩,
      ⟨(some (8, false)), (some (6, true)), .call 38 [(.tmp 7 false), (.cst (.string (str [120, 46, 111])) (.lit (.string (str [120, 46, 111])))), (.cst (.bool false) (.lit (.bool false)))]⟩,
      ⟨(some (9, false)), none, .pick (.tmp 6 false) (.tmp 8 false) (.cst (.bool false) (.lit (.bool false)))⟩,
      ⟨(some (10, false)), none, .mov (.tmp 9 false) .peek⟩,
      ⟨(some (11, false)), (some (10, true)), .mov (.tmp 1 true) .peek⟩,
      ⟨(some (12, false)), (some (10, true)), .call 38 [(.tmp 11 false), (.cst (.string (str [97, 46, 111])) (.lit (.string (str [97, 46, 111])))), (.cst (.bool false) (.lit (.bool false)))]⟩,
      ⟨(some (13, false)), (some (10, true)), .un .not (.tmp 12 false)⟩,
      ⟨(some (14, false)), none, .pick (.tmp 10 false) (.tmp 13 false) (.cst (.bool false) (.lit (.bool false)))⟩,
      ⟨(some (15, false)), none, .mov (.tmp 14 false) .peek⟩,
      ⟨(some (16, false)), (some (15, true)), .mov (.tmp 1 true) .peek⟩,
      ⟨(some (17, false)), (some (15, true)), .call 38 [(.tmp 16 false), (.cst (.string (str [98, 47, 120])) (.lit (.string (str [98, 47, 120])))), (.cst (.bool false) (.lit (.bool false)))]⟩,
      ⟨(some (18, false)), none, .pick (.tmp 15 false) (.tmp 17 false) (.cst (.bool false) (.lit (.bool false)))⟩,
      ⟨(some (19, false)), none, .mov (.tmp 18 false) .peek⟩,
      ⟨(some (20, false)), (some (19, true)), .mov (.tmp 1 true) .peek⟩,
      ⟨(some (21, false)), (some (19, true)), .call 38 [(.tmp 20 false), (.cst (.string (str [121, 47, 98, 47, 120])) (.lit (.string (str [121, 47, 98, 47, 120])))), (.cst (.bool false) (.lit (.bool false)))]⟩,
      ⟨(some (22, false)), (some (19, true)), .un .not (.tmp 21 false)⟩,
      ⟨(some (23, false)), none, .pick (.tmp 19 false) (.tmp 22 false) (.cst (.bool false) (.lit (.bool false)))⟩,
      ⟨(some (24, false)), none, .mov (.tmp 23 false) .peek⟩,
      ⟨(some (25, false)), (some (24, true)), .mov (.tmp 1 true) .peek⟩,
      ⟨(some (26, false)), (some (24, true)), .call 38 [(.tmp 25 false), (.cst (.string (str [99, 47, 100])) (.lit (.string (str [99, 47, 100])))), (.cst (.bool false) (.lit (.bool false)))]⟩,
      ⟨(some (27, false)), none, .pick (.tmp 24 false) (.tmp 26 false) (.cst (.bool false) (.lit (.bool false)))⟩,
      ⟨(some (28, false)), none, .mov (.tmp 27 false) .peek⟩,
      ⟨(some (29, false)), (some (28, true)), .mov (.tmp 1 true) .peek⟩,
      ⟨(some (30, false)), (some (28, true)), .call 38 [(.tmp 29 false), (.cst (.string (str [120, 47, 99, 47, 100])) (.lit (.string (str [120, 47, 99, 47, 100])))), (.cst (.bool false) (.lit (.bool false)))]⟩,
      ⟨(some (31, false)), (some (28, true)), .un .not (.tmp 30 false)⟩,
      ⟨(some (32, false)), none, .pick (.tmp 28 false) (.tmp 31 false) (.cst (.bool false) (.lit (.bool false)))⟩,
      ⟨(some (0, true)), none, .mov (.tmp 32 false) .asg⟩])) [0] []
  (.ret))),
  [.tmp 0]⟩
theorem ilives_comp (m : Int) : compF Tryd.prog (gl m) [] Tryd.f29 = some ilives := by kernel_rfl
theorem iopen_snd (l : List Rule) (p : Bs) (hl : okRules l) (hp : p.length ≤ 1048575) : Snd Tryd.prog (gl m) 40 [.sl .frn 5 (fs fR l), S p] (B (decide (dirOf p = []) || !isI l (dirOf p) true)) := by
  refine snd_of (fn := Tryd.f40) (af := iopen) Tryd.func40 (iopen_comp m) mixed (kn_ok m) (Nat.le_of_ble_eq_true rfl) ?_
  simp only [iopen, go_sem, reduceCtorEq, Nat.reduceEqDiff, reduceIte, Nat.reduceAdd, Nat.reduceSub, Nat.reduceLeDiff, Int.reduceToNat, Nat.reduceBEq]
  repeat ((with_reducible apply And.intro); (case left => first | omega | (simp only [List.length_append, List.length_cons, List.length_nil, List.length_drop, List.length_take, List.length_tail, List.length_dropLast, fs_length, ss_length, bs_length, ns_length]; omega)))
  refine of_call (rdir_snd p (by omega)) ?_
  simp only [go_sem, reduceCtorEq, Nat.reduceEqDiff, reduceIte, Nat.reduceAdd, Nat.reduceSub, Nat.reduceLeDiff, Int.reduceToNat, Nat.reduceBEq]
  repeat ((with_reducible apply And.intro); (case left => first | omega | (simp only [List.length_append, List.length_cons, List.length_nil, List.length_drop, List.length_take, List.length_tail, List.length_dropLast, fs_length, ss_length, bs_length, ns_length]; omega)))
  have hd : (dirOf p).length ≤ 1048575 := by
    by_cases h : dirOf p = []
    · rw [h]; simp
    · have := dirOf_len h; omega
  generalize dirOf p = d at hd ⊢
  by_cases h : d = []
  · simp only [se_t h, decide_eq_true h, Bool.true_or, go_sem, reduceCtorEq, Nat.reduceEqDiff, reduceIte, Nat.reduceAdd, Nat.reduceSub, Nat.reduceLeDiff, Int.reduceToNat, Nat.reduceBEq]
    repeat ((with_reducible apply And.intro); (case left => first | omega | (simp only [List.length_append, List.length_cons, List.length_nil, List.length_drop, List.length_take, List.length_tail, List.length_dropLast, fs_length, ss_length, bs_length, ns_length]; omega)))
    try rfl
  · simp only [se_f h, decide_eq_false h, Bool.false_or, go_sem, reduceCtorEq, Nat.reduceEqDiff, reduceIte, Nat.reduceAdd, Nat.reduceSub, Nat.reduceLeDiff, Int.reduceToNat, Nat.reduceBEq]
    repeat ((with_reducible apply And.intro); (case left => first | omega | (simp only [List.length_append, List.length_cons, List.length_nil, List.length_drop, List.length_take, List.length_tail, List.length_dropLast, fs_length, ss_length, bs_length, ns_length]; omega)))
    repeat ((with_reducible apply And.intro); (case left => first | omega | (simp only [List.length_append, List.length_cons, List.length_nil, List.length_drop, List.length_take, List.length_tail, List.length_dropLast, fs_length, ss_length, bs_length, ns_length]; omega)))
    refine of_call (is_snd l d true hl hd) ?_
    simp only [go_sem, reduceCtorEq, Nat.reduceEqDiff, reduceIte, Nat.reduceAdd, Nat.reduceSub, Nat.reduceLeDiff, Int.reduceToNat, Nat.reduceBEq]
    repeat ((with_reducible apply And.intro); (case left => first | omega | (simp only [List.length_append, List.length_cons, List.length_nil, List.length_drop, List.length_take, List.length_tail, List.length_dropLast, fs_length, ss_length, bs_length, ns_length]; omega)))
    try simp only [unVal, go_sem, reduceCtorEq, Nat.reduceEqDiff, reduceIte, Nat.reduceAdd, Nat.reduceSub, Nat.reduceLeDiff, Int.reduceToNat, Nat.reduceBEq]
    try rfl
/-! the examples -/
def exI : List Rule := [([42, 46, 111], [], false, false, false), ([97, 46, 111], [], true, false, false), ([98], [], false, true, true), ([99, 47, 100], [], false, false, true)]
theorem exI_parse : parseI [42, 46, 111, 10, 33, 97, 46, 111, 10, 47, 98, 47, 10, 99, 47, 100, 10] [] = exI := by decide +kernel
theorem exI_ok : okRules exI := ⟨by decide, by decide⟩
theorem ilives_snd : Snd Tryd.prog (gl m) 29 [] (B true) := by
  refine snd_of (fn := Tryd.f29) (af := ilives) Tryd.func29 (ilives_comp m) mixed (kn_ok m) (Nat.le_of_ble_eq_true rfl) ?_
  simp only [ilives, go_sem, reduceCtorEq, Nat.reduceEqDiff, reduceIte, Nat.reduceAdd, Nat.reduceSub, Nat.reduceLeDiff, Int.reduceToNat, Nat.reduceBEq]
  refine of_call (iparse_snd [42, 46, 111, 10, 33, 97, 46, 111, 10, 47, 98, 47, 10, 99, 47, 100, 10] [] (by decide) (by decide)) ?_
  rw [exI_parse]
  simp only [eq_t (show ((exI.length : Nat) : Int) = 4 from rfl), go_sem, reduceCtorEq, Nat.reduceEqDiff, reduceIte, Nat.reduceAdd, Nat.reduceSub, Nat.reduceLeDiff, Int.reduceToNat, Nat.reduceBEq]
  refine of_call (is_snd exI [120, 46, 111] false exI_ok (by decide)) ?_
  rw [show isI exI [120, 46, 111] false = true by decide +kernel]
  simp only [go_sem, reduceCtorEq, Nat.reduceEqDiff, reduceIte, Nat.reduceAdd, Nat.reduceSub, Nat.reduceLeDiff, Int.reduceToNat, Nat.reduceBEq]
  repeat ((with_reducible apply And.intro); (case left => first | omega | (simp only [List.length_append, List.length_cons, List.length_nil, List.length_drop, List.length_take, List.length_tail, List.length_dropLast, fs_length, ss_length, bs_length, ns_length]; omega)))
  refine of_call (is_snd exI [97, 46, 111] false exI_ok (by decide)) ?_
  rw [show isI exI [97, 46, 111] false = false by decide +kernel]
  simp only [unVal, Bool.not_false, go_sem, reduceCtorEq, Nat.reduceEqDiff, reduceIte, Nat.reduceAdd, Nat.reduceSub, Nat.reduceLeDiff, Int.reduceToNat, Nat.reduceBEq]
  repeat ((with_reducible apply And.intro); (case left => first | omega | (simp only [List.length_append, List.length_cons, List.length_nil, List.length_drop, List.length_take, List.length_tail, List.length_dropLast, fs_length, ss_length, bs_length, ns_length]; omega)))
  refine of_call (is_snd exI [98, 47, 120] false exI_ok (by decide)) ?_
  rw [show isI exI [98, 47, 120] false = true by decide +kernel]
  simp only [go_sem, reduceCtorEq, Nat.reduceEqDiff, reduceIte, Nat.reduceAdd, Nat.reduceSub, Nat.reduceLeDiff, Int.reduceToNat, Nat.reduceBEq]
  repeat ((with_reducible apply And.intro); (case left => first | omega | (simp only [List.length_append, List.length_cons, List.length_nil, List.length_drop, List.length_take, List.length_tail, List.length_dropLast, fs_length, ss_length, bs_length, ns_length]; omega)))
  refine of_call (is_snd exI [121, 47, 98, 47, 120] false exI_ok (by decide)) ?_
  rw [show isI exI [121, 47, 98, 47, 120] false = false by decide +kernel]
  simp only [unVal, Bool.not_false, go_sem, reduceCtorEq, Nat.reduceEqDiff, reduceIte, Nat.reduceAdd, Nat.reduceSub, Nat.reduceLeDiff, Int.reduceToNat, Nat.reduceBEq]
  repeat ((with_reducible apply And.intro); (case left => first | omega | (simp only [List.length_append, List.length_cons, List.length_nil, List.length_drop, List.length_take, List.length_tail, List.length_dropLast, fs_length, ss_length, bs_length, ns_length]; omega)))
  refine of_call (is_snd exI [99, 47, 100] false exI_ok (by decide)) ?_
  rw [show isI exI [99, 47, 100] false = true by decide +kernel]
  simp only [go_sem, reduceCtorEq, Nat.reduceEqDiff, reduceIte, Nat.reduceAdd, Nat.reduceSub, Nat.reduceLeDiff, Int.reduceToNat, Nat.reduceBEq]
  repeat ((with_reducible apply And.intro); (case left => first | omega | (simp only [List.length_append, List.length_cons, List.length_nil, List.length_drop, List.length_take, List.length_tail, List.length_dropLast, fs_length, ss_length, bs_length, ns_length]; omega)))
  refine of_call (is_snd exI [120, 47, 99, 47, 100] false exI_ok (by decide)) ?_
  rw [show isI exI [120, 47, 99, 47, 100] false = false by decide +kernel]
  simp only [unVal, Bool.not_false, go_sem, reduceCtorEq, Nat.reduceEqDiff, reduceIte, Nat.reduceAdd, Nat.reduceSub, Nat.reduceLeDiff, Int.reduceToNat, Nat.reduceBEq]
  repeat ((with_reducible apply And.intro); (case left => first | omega | (simp only [List.length_append, List.length_cons, List.length_nil, List.length_drop, List.length_take, List.length_tail, List.length_dropLast, fs_length, ss_length, bs_length, ns_length]; omega)))
  try rfl
end Go.At
/- Ignore: the laws' own functions. -/
namespace Go.At
open Go Go.Ev Go.Proofs
open Go.Ln (u8b_t u8b_f lines lines_len line_len lf crlf binary idx idx_eq unfeed unfeed_len)
open Go.Gb (isPath isPat matchF pieces pieces_ne pieces_len piece_len parts pis_snd ris_snd rparts_snd)
set_option linter.unusedVariables false
set_option linter.unusedSimpArgs false
attribute [local go_sem] eqs implies_true List.map_cons List.map_nil kl klL roD roL Option.map_some Option.map_none Option.getD_some Option.getD_none binVal binObl unVal if_true if_false eq_self passA frnD resD content getH getR getW viaNot viaSlot viaBox viaDeep viaMem List.contains_cons List.contains_nil grabs peeks okCells isCell place cellsOf chunk elt List.headD_cons List.length_cons List.length_nil List.take_succ_cons List.take_zero List.drop_succ_cons List.drop_zero List.nil_append List.cons_append List.append_nil List.all_cons List.all_nil plainC takeR setW over reCell List.getElem?_cons_zero List.getElem?_cons_succ List.set_cons_zero List.take_length outV resG plainV pack outVG outBx List.set_cons_succ Ref.idx Ref.addOff beq_self_eq_true bxL Option.bind_some writeR isLit viaBoxes capsPA boxPA nsOf noDup boxesAt argG passG passD rhoIn rhoOut idxIn tr trL List.getD_cons_zero gives pasOf isPtr Ins.d List.getD_cons_succ resL frnL List.getLast?_nil frnL_fs roL_fs resL_fs passL_fs klL_fs trL_fs map_roD_fs fs_length ruleT
variable {m : Int}
def lwLast_k0' : AC := .cond (.tmp 22 false)
    (.seq (.reg (.seq [⟨(some (23, false)), none, .call 29 []⟩,
      ⟨(some (6, true)), none, .mov (.tmp 23 false) .asg⟩])) [6] []
    (.ret))
    (.skip)
def lwLast_k0 : AC := lwLast_k0'
theorem lwLast_k0_w (C : Kn) (K : Ex → St → Prop) (s : St) : vcC C lwLast_k0 K s = vcC C lwLast_k0' K s := nr rfl
def lwLast_k1' : AC := .cond (.tmp 46 false)
    (.seq (.reg (.seq [⟨(some (6, true)), none, .mov (.cst (.bool false) (.lit (.bool false))) .asg⟩])) [6] []
    (.ret))
    (.skip)
def lwLast_k1 : AC := lwLast_k1'
theorem lwLast_k1_w (C : Kn) (K : Ex → St → Prop) (s : St) : vcC C lwLast_k1 K s = vcC C lwLast_k1' K s := nr rfl
def lwLast_k2' : AC := .seq (.block 1 (.reg (.seq [⟨(some (53, false)), none, .mov (.tmp 8 true) .peek⟩,
      ⟨(some (54, false)), none, .mov (.tmp 53 false) .peek⟩,
      ⟨(some (55, false)), (some (54, false)), .load (.tmp 4 true) 5 true false⟩,
      ⟨(some (56, false)), (some (54, false)), .mov (.tmp 9 true) .peek⟩,
      ⟨(some (57, false)), (some (54, false)), .call 34 [(.tmp 55 false), (.tmp 56 false), (.cst (.bool true) (.lit (.bool true)))]⟩,
      ⟨(some (58, false)), none, .pick (.tmp 54 false) (.cst (.bool true) (.lit (.bool true))) (.tmp 57 false)⟩,
      ⟨(some (8, true)), none, .mov (.tmp 58 false) .asg⟩]))) [0, 2, 4, 7, 8, 9] [4]
  (.reg (.seq [⟨(some (51, false)), none, .mov (.tmp 9 true) .peek⟩,
      ⟨(some (52, false)), none, .call 41 [(.tmp 51 false)]⟩,
      ⟨(some (9, true)), none, .mov (.tmp 52 false) .asg⟩]))
def lwLast_k2 : AC := lwLast_k2'
theorem lwLast_k2_w (C : Kn) (K : Ex → St → Prop) (s : St) : vcC C lwLast_k2 K s = vcC C lwLast_k2' K s := nr rfl
def lwLast_l3' : AC := .seq (.seq (.reg (.seq [⟨(some (49, false)), none, .mov (.tmp 9 true) .peek⟩,
      ⟨(some (50, false)), none, .bin .neq (.tmp 49 false) (.cst (.string (str [])) (.lit (.string (str []))))⟩])) [0, 2, 4, 7, 8, 9, 50] [4]
  (.cond (.tmp 50 false)
    (.skip)
    (.exit 0))) [0, 2, 4, 7, 8, 9] [4] lwLast_k2
def lwLast_l3 : AC := lwLast_l3'
theorem lwLast_l3_w (C : Kn) (K : Ex → St → Prop) (s : St) : vcC C lwLast_l3 K s = vcC C lwLast_l3' K s := nr rfl
def lwLast_k4' : AC := .ret
def lwLast_k4 : AC := lwLast_k4'
theorem lwLast_k4_w (C : Kn) (K : Ex → St → Prop) (s : St) : vcC C lwLast_k4 K s = vcC C lwLast_k4' K s := nr rfl
def lwLast_k5' : AC := .seq (.reg (.seq [⟨(some (59, false)), none, .mov (.tmp 8 true) .peek⟩,
      ⟨(some (60, false)), none, .mov (.tmp 59 false) .peek⟩,
      ⟨(some (61, false)), (some (60, false)), .mov (.tmp 7 true) .peek⟩,
      ⟨(some (62, false)), (some (60, false)), .mov (.tmp 2 true) .peek⟩,
      ⟨(some (63, false)), (some (60, false)), .call 38 [(.tmp 61 false), (.tmp 62 false), (.cst (.bool false) (.lit (.bool false)))]⟩,
      ⟨(some (64, false)), (some (60, false)), .mov (.tmp 0 true) .peek⟩,
      ⟨(some (65, false)), (some (60, false)), .mov (.tmp 2 true) .peek⟩,
      ⟨(some (66, false)), (some (60, false)), .call 38 [(.tmp 64 false), (.tmp 65 false), (.cst (.bool false) (.lit (.bool false)))]⟩,
      ⟨(some (67, false)), (some (60, false)), .eqb false (.tmp 63 false) (.tmp 66 false)⟩,
      ⟨(some (68, false)), none, .pick (.tmp 60 false) (.cst (.bool true) (.lit (.bool true))) (.tmp 67 false)⟩,
      ⟨(some (69, false)), none, .mov (.tmp 68 false) .peek⟩,
      ⟨(some (70, false)), (some (69, true)), .call 29 []⟩,
      ⟨(some (71, false)), none, .pick (.tmp 69 false) (.tmp 70 false) (.cst (.bool false) (.lit (.bool false)))⟩,
      ⟨(some (6, true)), none, .mov (.tmp 71 false) .asg⟩])) [6] [] lwLast_k4
def lwLast_k5 : AC := lwLast_k5'
theorem lwLast_k5_w (C : Kn) (K : Ex → St → Prop) (s : St) : vcC C lwLast_k5 K s = vcC C lwLast_k5' K s := nr rfl
def lwLast_k6' : AC := .seq (.seq (.reg (.seq [⟨(some (47, false)), none, .mov (.tmp 2 true) .peek⟩,
      ⟨(some (48, false)), none, .call 41 [(.tmp 47 false)]⟩,
      ⟨(some (9, true)), none, .mov (.tmp 48 false) .asg⟩])) [0, 2, 4, 7, 8, 9] [4]
  (.block 0 (.loop [0, 2, 4, 7, 8, 9] [4] lwLast_l3))) [0, 2, 7, 8] [] lwLast_k5
def lwLast_k6 : AC := lwLast_k6'
theorem lwLast_k6_w (C : Kn) (K : Ex → St → Prop) (s : St) : vcC C lwLast_k6 K s = vcC C lwLast_k6' K s := nr rfl
def lwLast_k7' : AC := .seq (.reg (.draw [⟨(some (25, false)), none, .mov (.tmp 0 true) .peek⟩,
      ⟨(some (27, false)), none, .load (.tmp 4 true) 5 true false⟩] (.alt ⟨(some (24, false)), none, .buildS 5 0 [] []⟩ [⟨(some (25, false)), none, .mov (.tmp 0 true) .peek⟩,
      ⟨(some (27, false)), none, .load (.tmp 4 true) 5 true false⟩]
      (.alt ⟨(some (26, false)), none, .app 5 40 (.tmp 24 false) (.tmp 25 false)⟩ [⟨(some (27, false)), none, .load (.tmp 4 true) 5 true false⟩]
      (.alt ⟨(some (28, false)), none, .buildS 5 1 [(.lit (.string (str []))), (.lit (.string (str []))), (.lit (.bool false)), (.lit (.bool false)), (.lit (.bool false))] [(0, 5, (.tmp 27 false))]⟩ [⟨(some (25, false)), none, .mov (.tmp 0 true) .peek⟩]
      (.alt ⟨(some (29, false)), none, .app 5 40 (.tmp 26 false) (.tmp 28 false)⟩ []
      (.alt ⟨(some (7, true)), none, .mov (.tmp 29 false) .asg⟩ []
      .done .no) .no) .no) (.alt ⟨(some (28, false)), none, .buildS 5 1 [(.lit (.string (str []))), (.lit (.string (str []))), (.lit (.bool false)), (.lit (.bool false)), (.lit (.bool false))] [(0, 5, (.tmp 27 false))]⟩ [⟨(some (25, false)), none, .mov (.tmp 0 true) .peek⟩]
      (.alt ⟨(some (26, false)), none, .app 5 40 (.tmp 24 false) (.tmp 25 false)⟩ [⟨(some (27, false)), none, .load (.tmp 4 true) 5 true false⟩]
      (.alt ⟨(some (29, false)), none, .app 5 40 (.tmp 26 false) (.tmp 28 false)⟩ []
      (.alt ⟨(some (7, true)), none, .mov (.tmp 29 false) .asg⟩ []
      .done .no) .no) .no) .no)) (.alt ⟨(some (28, false)), none, .buildS 5 1 [(.lit (.string (str []))), (.lit (.string (str []))), (.lit (.bool false)), (.lit (.bool false)), (.lit (.bool false))] [(0, 5, (.tmp 27 false))]⟩ [⟨(some (25, false)), none, .mov (.tmp 0 true) .peek⟩]
      (.alt ⟨(some (24, false)), none, .buildS 5 0 [] []⟩ [⟨(some (25, false)), none, .mov (.tmp 0 true) .peek⟩,
      ⟨(some (27, false)), none, .load (.tmp 4 true) 5 true false⟩]
      (.alt ⟨(some (26, false)), none, .app 5 40 (.tmp 24 false) (.tmp 25 false)⟩ [⟨(some (27, false)), none, .load (.tmp 4 true) 5 true false⟩]
      (.alt ⟨(some (29, false)), none, .app 5 40 (.tmp 26 false) (.tmp 28 false)⟩ []
      (.alt ⟨(some (7, true)), none, .mov (.tmp 29 false) .asg⟩ []
      .done .no) .no) .no) .no) .no)))) [0, 2, 4, 7] [4]
  (.seq (.reg (.seq [⟨(some (30, false)), none, .load (.tmp 4 true) 5 true false⟩,
      ⟨(some (31, false)), none, .mov (.tmp 2 true) .peek⟩,
      ⟨(some (32, false)), none, .call 34 [(.tmp 30 false), (.tmp 31 false), (.cst (.bool false) (.lit (.bool false)))]⟩,
      ⟨(some (8, true)), none, .mov (.tmp 32 false) .asg⟩])) [0, 2, 4, 7, 8] [4]
  (.seq (.seq (.reg (.draw [⟨(some (33, false)), none, .mov (.tmp 8 true) .peek⟩,
      ⟨(some (34, false)), none, .mov (.tmp 33 false) .peek⟩,
      ⟨(some (35, false)), (some (34, true)), .mov (.tmp 7 true) .peek⟩,
      ⟨(some (36, false)), (some (34, true)), .mov (.tmp 2 true) .peek⟩,
      ⟨(some (37, false)), (some (34, true)), .call 40 [(.tmp 35 false), (.tmp 36 false)]⟩,
      ⟨(some (38, false)), none, .pick (.tmp 34 false) (.tmp 37 false) (.cst (.bool false) (.lit (.bool false)))⟩,
      ⟨(some (39, false)), none, .mov (.tmp 38 false) .peek⟩,
      ⟨(some (40, false)), (some (39, true)), .mov (.tmp 7 true) .peek⟩,
      ⟨(some (41, false)), (some (39, true)), .mov (.tmp 2 true) .peek⟩,
      ⟨(some (42, false)), (some (39, true)), .call 38 [(.tmp 40 false), (.tmp 41 false), (.cst (.bool false) (.lit (.bool false)))]⟩,
      ⟨(some (43, false)), (some (39, true)), .fad (.tmp 4 true) 2⟩,
      ⟨(some (44, false)), (some (39, true)), .load (.tmp 43 false) 1 false false⟩,
      ⟨(some (45, false)), (some (39, true)), .eqb false (.tmp 42 false) (.tmp 44 false)⟩,
      ⟨(some (46, false)), none, .pick (.tmp 39 false) (.tmp 45 false) (.cst (.bool false) (.lit (.bool false)))⟩] .done)) [0, 2, 4, 7, 8, 46] [4] lwLast_k1) [0, 2, 4, 7, 8] [4] lwLast_k6))
def lwLast_k7 : AC := lwLast_k7'
theorem lwLast_k7_w (C : Kn) (K : Ex → St → Prop) (s : St) : vcC C lwLast_k7 K s = vcC C lwLast_k7' K s := nr rfl
def lwLast : AF := ⟨.seq (.reg (.seq [⟨(some (4, true)), none, .box (.tmp 1 true)⟩,
      ⟨(some (6, true)), none, .mov (.cst (.bool false) (.lit (.bool false))) .asg⟩])) [0, 2, 4] [4]
  (.seq (.seq (.reg (.seq [⟨(some (10, false)), none, .mov (.tmp 0 true) .peek⟩,
      ⟨(some (11, false)), none, .lenL (.tmp 10 false)⟩,
      ⟨(some (12, false)), none, .bin .gtr (.tmp 11 false) (.cst (.int .i64 12) (.lit (.int .i64 12)))⟩,
      ⟨(some (13, false)), none, .mov (.tmp 12 false) .peek⟩,
      ⟨(some (14, false)), (some (13, false)), .mov (.tmp 2 true) .peek⟩,
      ⟨(some (15, false)), (some (13, false)), .len (.tmp 14 false)⟩,
      ⟨(some (16, false)), (some (13, false)), .bin .gtr (.tmp 15 false) (.cst (.int .i64 200) (.lit (.int .i64 200)))⟩,
      ⟨(some (17, false)), none, .pick (.tmp 13 false) (.cst (.bool true) (.lit (.bool true))) (.tmp 16 false)⟩,
      ⟨(some (18, false)), none, .mov (.tmp 17 false) .peek⟩,
      ⟨(some (19, false)), (some (18, false)), .mov (.tmp 2 true) .peek⟩,
      ⟨(some (20, false)), (some (18, false)), .call 14 [(.tmp 19 false)]⟩,
      ⟨(some (21, false)), (some (18, false)), .un .not (.tmp 20 false)⟩,
      ⟨(some (22, false)), none, .pick (.tmp 18 false) (.cst (.bool true) (.lit (.bool true))) (.tmp 21 false)⟩])) [0, 2, 4, 22] [4] lwLast_k0) [0, 2, 4] [4] lwLast_k7),
  [.tmp 6]⟩
theorem lwLast_comp (m : Int) : compF Tryd.prog (gl m) [] Tryd.f10 = some lwLast := by kernel_rfl
/-! IgnoreLast -/
abbrev P4' : AV := .ptr ⟨.box 4 0, []⟩
abbrev bx4 (r : Rule) : List (Nat × Option (List AV)) := [(4, some [S r.1, S r.2.1, B r.2.2.1, B r.2.2.2.1, B r.2.2.2.2])]
theorem lwLast_k5_v (l : List Rule) (r : Rule) (p : Bs) (has : Bool) (hl : okRules (l ++ [r])) (hl' : okRules l) (hp : p.length ≤ 1048575) (h : has = true ∨ isI (l ++ [r]) p false = isI l p false) :
    vcC (kn m) lwLast_k5 (outOk [.tmp 6] (B true)) (mkS [(0, .sl .frn 5 (fs fR l)), (2, S p), (7, .sl .own 5 (fs fR (l ++ [r]))), (8, B has)] []) := by
  simp only [lwLast_k5_w, lwLast_k5', lwLast_k4_w, lwLast_k4', go_sem, reduceCtorEq, Nat.reduceEqDiff, reduceIte, Nat.reduceAdd, Nat.reduceSub, Nat.reduceLeDiff, Int.reduceToNat, Nat.reduceBEq]
  repeat ((with_reducible apply And.intro); (case left => first | omega | (simp only [List.length_append, List.length_cons, List.length_nil, List.length_drop, List.length_take, List.length_tail, List.length_dropLast, fs_length, ss_length, bs_length, ns_length]; omega)))
  cases has with
  | true =>
    simp only [go_sem, reduceCtorEq, Nat.reduceEqDiff, reduceIte, Nat.reduceAdd, Nat.reduceSub, Nat.reduceLeDiff, Int.reduceToNat, Nat.reduceBEq]
    repeat ((with_reducible apply And.intro); (case left => first | omega | (simp only [List.length_append, List.length_cons, List.length_nil, List.length_drop, List.length_take, List.length_tail, List.length_dropLast, fs_length, ss_length, bs_length, ns_length]; omega)))
    repeat ((with_reducible apply And.intro); (case left => first | omega | (simp only [List.length_append, List.length_cons, List.length_nil, List.length_drop, List.length_take, List.length_tail, List.length_dropLast, fs_length, ss_length, bs_length, ns_length]; omega)))
    refine of_call (ilives_snd) ?_
    simp only [go_sem, reduceCtorEq, Nat.reduceEqDiff, reduceIte, Nat.reduceAdd, Nat.reduceSub, Nat.reduceLeDiff, Int.reduceToNat, Nat.reduceBEq]
    repeat ((with_reducible apply And.intro); (case left => first | omega | (simp only [List.length_append, List.length_cons, List.length_nil, List.length_drop, List.length_take, List.length_tail, List.length_dropLast, fs_length, ss_length, bs_length, ns_length]; omega)))
    try simp only [lwLast_k4_w, lwLast_k4', go_sem, reduceCtorEq, Nat.reduceEqDiff, reduceIte, Nat.reduceAdd, Nat.reduceSub, Nat.reduceLeDiff, Int.reduceToNat, Nat.reduceBEq]
    try rfl
  | false =>
    have h := h.resolve_left (by simp)
    simp only [go_sem, reduceCtorEq, Nat.reduceEqDiff, reduceIte, Nat.reduceAdd, Nat.reduceSub, Nat.reduceLeDiff, Int.reduceToNat, Nat.reduceBEq]
    repeat ((with_reducible apply And.intro); (case left => first | omega | (simp only [List.length_append, List.length_cons, List.length_nil, List.length_drop, List.length_take, List.length_tail, List.length_dropLast, fs_length, ss_length, bs_length, ns_length]; omega)))
    repeat ((with_reducible apply And.intro); (case left => first | omega | (simp only [List.length_append, List.length_cons, List.length_nil, List.length_drop, List.length_take, List.length_tail, List.length_dropLast, fs_length, ss_length, bs_length, ns_length]; omega)))
    refine of_call (is_snd (l ++ [r]) p false hl hp) ?_
    simp only [go_sem, reduceCtorEq, Nat.reduceEqDiff, reduceIte, Nat.reduceAdd, Nat.reduceSub, Nat.reduceLeDiff, Int.reduceToNat, Nat.reduceBEq]
    repeat ((with_reducible apply And.intro); (case left => first | omega | (simp only [List.length_append, List.length_cons, List.length_nil, List.length_drop, List.length_take, List.length_tail, List.length_dropLast, fs_length, ss_length, bs_length, ns_length]; omega)))
    repeat ((with_reducible apply And.intro); (case left => first | omega | (simp only [List.length_append, List.length_cons, List.length_nil, List.length_drop, List.length_take, List.length_tail, List.length_dropLast, fs_length, ss_length, bs_length, ns_length]; omega)))
    refine of_call (is_snd l p false hl' hp) ?_
    simp only [go_sem, reduceCtorEq, Nat.reduceEqDiff, reduceIte, Nat.reduceAdd, Nat.reduceSub, Nat.reduceLeDiff, Int.reduceToNat, Nat.reduceBEq]
    repeat ((with_reducible apply And.intro); (case left => first | omega | (simp only [List.length_append, List.length_cons, List.length_nil, List.length_drop, List.length_take, List.length_tail, List.length_dropLast, fs_length, ss_length, bs_length, ns_length]; omega)))
    simp only [h, beq_self_eq_true, go_sem, reduceCtorEq, Nat.reduceEqDiff, reduceIte, Nat.reduceAdd, Nat.reduceSub, Nat.reduceLeDiff, Int.reduceToNat, Nat.reduceBEq]
    repeat ((with_reducible apply And.intro); (case left => first | omega | (simp only [List.length_append, List.length_cons, List.length_nil, List.length_drop, List.length_take, List.length_tail, List.length_dropLast, fs_length, ss_length, bs_length, ns_length]; omega)))
    repeat ((with_reducible apply And.intro); (case left => first | omega | (simp only [List.length_append, List.length_cons, List.length_nil, List.length_drop, List.length_take, List.length_tail, List.length_dropLast, fs_length, ss_length, bs_length, ns_length]; omega)))
    refine of_call (ilives_snd) ?_
    simp only [go_sem, reduceCtorEq, Nat.reduceEqDiff, reduceIte, Nat.reduceAdd, Nat.reduceSub, Nat.reduceLeDiff, Int.reduceToNat, Nat.reduceBEq]
    repeat ((with_reducible apply And.intro); (case left => first | omega | (simp only [List.length_append, List.length_cons, List.length_nil, List.length_drop, List.length_take, List.length_tail, List.length_dropLast, fs_length, ss_length, bs_length, ns_length]; omega)))
    try simp only [lwLast_k4_w, lwLast_k4', go_sem, reduceCtorEq, Nat.reduceEqDiff, reduceIte, Nat.reduceAdd, Nat.reduceSub, Nat.reduceLeDiff, Int.reduceToNat, Nat.reduceBEq]
    try rfl
theorem lwLast_k6_v (l : List Rule) (r : Rule) (p : Bs) (has : Bool) (hl : okRules (l ++ [r])) (hl' : okRules l) (hp : p.length ≤ 1048575) (hpp : isPath p = true) (hh : has = true ∨ hasI r p false = false) :
    vcC (kn m) lwLast_k6 (outOk [.tmp 6] (B true)) (mkS [(0, .sl .frn 5 (fs fR l)), (2, S p), (4, P4'), (7, .sl .own 5 (fs fR (l ++ [r]))), (8, B has)] (bx4 r)) := by
  have hr := hl.2 r (by simp)
  simp only [lwLast_k6_w, lwLast_k6', P4', bx4, go_sem, reduceCtorEq, Nat.reduceEqDiff, reduceIte, Nat.reduceAdd, Nat.reduceSub, Nat.reduceLeDiff, Int.reduceToNat, Nat.reduceBEq]
  repeat ((with_reducible apply And.intro); (case left => first | omega | (simp only [List.length_append, List.length_cons, List.length_nil, List.length_drop, List.length_take, List.length_tail, List.length_dropLast, fs_length, ss_length, bs_length, ns_length]; omega)))
  repeat ((with_reducible apply And.intro); (case left => first | omega | (simp only [List.length_append, List.length_cons, List.length_nil, List.length_drop, List.length_take, List.length_tail, List.length_dropLast, fs_length, ss_length, bs_length, ns_length]; omega)))
  refine of_call (rdir_snd p (by omega)) ?_
  simp only [go_sem, reduceCtorEq, Nat.reduceEqDiff, reduceIte, Nat.reduceAdd, Nat.reduceSub, Nat.reduceLeDiff, Int.reduceToNat, Nat.reduceBEq]
  repeat ((with_reducible apply And.intro); (case left => first | omega | (simp only [List.length_append, List.length_cons, List.length_nil, List.length_drop, List.length_take, List.length_tail, List.length_dropLast, fs_length, ss_length, bs_length, ns_length]; omega)))
  have hdl : (dirOf p).length ≤ 1048575 := by
    by_cases h : dirOf p = []
    · rw [h]; simp
    · have := dirOf_len h; omega
  refine loop_wf (fun x : Bool × Bs => x.2.length) (fun x => mkS [(0, .sl .frn 5 (fs fR l)), (2, S p), (4, P4'), (7, .sl .own 5 (fs fR (l ++ [r]))), (8, B x.1), (9, S x.2)] (bx4 r))
    (fun x => x.2.length ≤ 1048575 ∧ (x.1 = true ∨ (hasI r p false = false ∧ ∀ d, d ∈ dirs p → hasI r d true = false ∨ d = x.2 ∨ d ∈ dirs x.2))) (has, dirOf p) rfl ⟨hdl, ?_⟩ ?_
  · refine hh.imp id fun h => ⟨h, fun d hd => .inr ?_⟩
    cases hs : lastS p with
    | none => rw [dirs_none hs] at hd; cases hd
    | some n =>
      rw [dirs_dirOf (by rw [hs]; simp), List.mem_append, List.mem_singleton] at hd
      exact hd.symm
  · rintro ⟨has, d⟩ ⟨hd, hI⟩ ih
    simp only at hd hI ih
    simp only [P4', bx4, lwLast_l3_w, lwLast_l3', go_sem, reduceCtorEq, Nat.reduceEqDiff, reduceIte, Nat.reduceAdd, Nat.reduceSub, Nat.reduceLeDiff, Int.reduceToNat, Nat.reduceBEq]
    repeat ((with_reducible apply And.intro); (case left => first | omega | (simp only [List.length_append, List.length_cons, List.length_nil, List.length_drop, List.length_take, List.length_tail, List.length_dropLast, fs_length, ss_length, bs_length, ns_length]; omega)))
    by_cases h0 : d = []
    · simp only [sn_f h0, go_sem, reduceCtorEq, Nat.reduceEqDiff, reduceIte, Nat.reduceAdd, Nat.reduceSub, Nat.reduceLeDiff, Int.reduceToNat, Nat.reduceBEq]
      repeat ((with_reducible apply And.intro); (case left => first | omega | (simp only [List.length_append, List.length_cons, List.length_nil, List.length_drop, List.length_take, List.length_tail, List.length_dropLast, fs_length, ss_length, bs_length, ns_length]; omega)))
      refine lwLast_k5_v l r p has hl hl' hp ?_
      refine hI.imp id fun ⟨h1, h2⟩ => isI_same h1 fun x hx => ?_
      rcases h2 x hx with h | h | h
      · exact h
      · subst h0; exact absurd h (path_ne (dirs_path hpp hx))
      · subst h0; cases h
    · simp only [sn_t h0, lwLast_k2_w, lwLast_k2', go_sem, reduceCtorEq, Nat.reduceEqDiff, reduceIte, Nat.reduceAdd, Nat.reduceSub, Nat.reduceLeDiff, Int.reduceToNat, Nat.reduceBEq]
      repeat ((with_reducible apply And.intro); (case left => first | omega | (simp only [List.length_append, List.length_cons, List.length_nil, List.length_drop, List.length_take, List.length_tail, List.length_dropLast, fs_length, ss_length, bs_length, ns_length]; omega)))
      have hdo : (dirOf d).length ≤ 1048575 := by
        by_cases h : dirOf d = []
        · rw [h]; simp
        · have := dirOf_len h; omega
      have hlt : (dirOf d).length < d.length := by
        by_cases h : dirOf d = []
        · rw [h]; exact List.length_pos_iff.2 h0
        · exact dirOf_len h
      have next : ∀ b, (has = true ∨ hasI r d true = false → b = has) → (has = false → b = hasI r d true) → (b = true ∨ (hasI r p false = false ∧ ∀ x, x ∈ dirs p → hasI r x true = false ∨ x = dirOf d ∨ x ∈ dirs (dirOf d))) := by
        intro b hb1 hb2
        cases hb : b with
        | true => exact .inl rfl
        | false =>
          subst hb
          cases has with
          | true => have := hb1 (.inl rfl); cases this
          | false =>
            have hf := (hb2 rfl).symm
            refine .inr ⟨(hI.resolve_left (by simp)).1, fun x hx => ?_⟩
            rcases (hI.resolve_left (by simp)).2 x hx with h | h | h
            · exact .inl h
            · exact .inl (by rw [h]; exact hf)
            · refine .inr ?_
              cases hs : lastS d with
              | none => rw [dirs_none hs] at h; cases h
              | some n =>
                rw [dirs_dirOf (by rw [hs]; simp), List.mem_append, List.mem_singleton] at h
                exact h.symm
      cases has with
      | true =>
        simp only [go_sem, reduceCtorEq, Nat.reduceEqDiff, reduceIte, Nat.reduceAdd, Nat.reduceSub, Nat.reduceLeDiff, Int.reduceToNat, Nat.reduceBEq]
        repeat ((with_reducible apply And.intro); (case left => first | omega | (simp only [List.length_append, List.length_cons, List.length_nil, List.length_drop, List.length_take, List.length_tail, List.length_dropLast, fs_length, ss_length, bs_length, ns_length]; omega)))
        repeat ((with_reducible apply And.intro); (case left => first | omega | (simp only [List.length_append, List.length_cons, List.length_nil, List.length_drop, List.length_take, List.length_tail, List.length_dropLast, fs_length, ss_length, bs_length, ns_length]; omega)))
        refine of_call (rdir_snd d (by omega)) ?_
        simp only [go_sem, reduceCtorEq, Nat.reduceEqDiff, reduceIte, Nat.reduceAdd, Nat.reduceSub, Nat.reduceLeDiff, Int.reduceToNat, Nat.reduceBEq]
        repeat ((with_reducible apply And.intro); (case left => first | omega | (simp only [List.length_append, List.length_cons, List.length_nil, List.length_drop, List.length_take, List.length_tail, List.length_dropLast, fs_length, ss_length, bs_length, ns_length]; omega)))
        exact ih (true, dirOf d) hlt ⟨hdo, next true (fun _ => rfl) (fun h => by cases h)⟩
      | false =>
        simp only [go_sem, reduceCtorEq, Nat.reduceEqDiff, reduceIte, Nat.reduceAdd, Nat.reduceSub, Nat.reduceLeDiff, Int.reduceToNat, Nat.reduceBEq]
        repeat ((with_reducible apply And.intro); (case left => first | omega | (simp only [List.length_append, List.length_cons, List.length_nil, List.length_drop, List.length_take, List.length_tail, List.length_dropLast, fs_length, ss_length, bs_length, ns_length]; omega)))
        repeat ((with_reducible apply And.intro); (case left => first | omega | (simp only [List.length_append, List.length_cons, List.length_nil, List.length_drop, List.length_take, List.length_tail, List.length_dropLast, fs_length, ss_length, bs_length, ns_length]; omega)))
        refine of_call (ihas_snd r d true hr.1 hr.2 hd) ?_
        simp only [go_sem, reduceCtorEq, Nat.reduceEqDiff, reduceIte, Nat.reduceAdd, Nat.reduceSub, Nat.reduceLeDiff, Int.reduceToNat, Nat.reduceBEq]
        repeat ((with_reducible apply And.intro); (case left => first | omega | (simp only [List.length_append, List.length_cons, List.length_nil, List.length_drop, List.length_take, List.length_tail, List.length_dropLast, fs_length, ss_length, bs_length, ns_length]; omega)))
        repeat ((with_reducible apply And.intro); (case left => first | omega | (simp only [List.length_append, List.length_cons, List.length_nil, List.length_drop, List.length_take, List.length_tail, List.length_dropLast, fs_length, ss_length, bs_length, ns_length]; omega)))
        refine of_call (rdir_snd d (by omega)) ?_
        simp only [go_sem, reduceCtorEq, Nat.reduceEqDiff, reduceIte, Nat.reduceAdd, Nat.reduceSub, Nat.reduceLeDiff, Int.reduceToNat, Nat.reduceBEq]
        repeat ((with_reducible apply And.intro); (case left => first | omega | (simp only [List.length_append, List.length_cons, List.length_nil, List.length_drop, List.length_take, List.length_tail, List.length_dropLast, fs_length, ss_length, bs_length, ns_length]; omega)))
        exact ih (hasI r d true, dirOf d) hlt ⟨hdo, next _ (fun h => by rcases h with h | h; cases h; exact h) (fun _ => rfl)⟩
theorem lwLast_k7_v (l : List Rule) (r : Rule) (p : Bs) (hl : okRules (l ++ [r])) (hl' : okRules l) (hp : p.length ≤ 1048575) (hpp : isPath p = true) :
    vcC (kn m) lwLast_k7 (outOk [.tmp 6] (B true)) (mkS [(0, .sl .frn 5 (fs fR l)), (2, S p), (4, P4')] (bx4 r)) := by
  have hr := hl.2 r (by simp)
  have hll := hl'.1
  simp only [P4', bx4, lwLast_k7_w, lwLast_k7', fs_snocR, go_sem, reduceCtorEq, Nat.reduceEqDiff, reduceIte, Nat.reduceAdd, Nat.reduceSub, Nat.reduceLeDiff, Int.reduceToNat, Nat.reduceBEq]
  repeat ((with_reducible apply And.intro); (case left => first | omega | (simp only [List.length_append, List.length_cons, List.length_nil, List.length_drop, List.length_take, List.length_tail, List.length_dropLast, fs_length, ss_length, bs_length, ns_length]; omega)))
  repeat ((with_reducible apply And.intro); (case left => first | omega | (simp only [List.length_append, List.length_cons, List.length_nil, List.length_drop, List.length_take, List.length_tail, List.length_dropLast, fs_length, ss_length, bs_length, ns_length]; omega)))
  refine of_call (ihas_snd r p false hr.1 hr.2 hp) ?_
  simp only [go_sem, reduceCtorEq, Nat.reduceEqDiff, reduceIte, Nat.reduceAdd, Nat.reduceSub, Nat.reduceLeDiff, Int.reduceToNat, Nat.reduceBEq]
  repeat ((with_reducible apply And.intro); (case left => first | omega | (simp only [List.length_append, List.length_cons, List.length_nil, List.length_drop, List.length_take, List.length_tail, List.length_dropLast, fs_length, ss_length, bs_length, ns_length]; omega)))
  cases hh : hasI r p false with
  | false =>
    simp only [lwLast_k1_w, lwLast_k1', go_sem, reduceCtorEq, Nat.reduceEqDiff, reduceIte, Nat.reduceAdd, Nat.reduceSub, Nat.reduceLeDiff, Int.reduceToNat, Nat.reduceBEq]
    repeat ((with_reducible apply And.intro); (case left => first | omega | (simp only [List.length_append, List.length_cons, List.length_nil, List.length_drop, List.length_take, List.length_tail, List.length_dropLast, fs_length, ss_length, bs_length, ns_length]; omega)))
    exact lwLast_k6_v l r p false hl hl' hp hpp (.inr hh)
  | true =>
    simp only [go_sem, reduceCtorEq, Nat.reduceEqDiff, reduceIte, Nat.reduceAdd, Nat.reduceSub, Nat.reduceLeDiff, Int.reduceToNat, Nat.reduceBEq]
    repeat ((with_reducible apply And.intro); (case left => first | omega | (simp only [List.length_append, List.length_cons, List.length_nil, List.length_drop, List.length_take, List.length_tail, List.length_dropLast, fs_length, ss_length, bs_length, ns_length]; omega)))
    repeat ((with_reducible apply And.intro); (case left => first | omega | (simp only [List.length_append, List.length_cons, List.length_nil, List.length_drop, List.length_take, List.length_tail, List.length_dropLast, fs_length, ss_length, bs_length, ns_length]; omega)))
    refine of_call (iopen_snd (l ++ [r]) p hl hp) ?_
    simp only [go_sem, reduceCtorEq, Nat.reduceEqDiff, reduceIte, Nat.reduceAdd, Nat.reduceSub, Nat.reduceLeDiff, Int.reduceToNat, Nat.reduceBEq]
    repeat ((with_reducible apply And.intro); (case left => first | omega | (simp only [List.length_append, List.length_cons, List.length_nil, List.length_drop, List.length_take, List.length_tail, List.length_dropLast, fs_length, ss_length, bs_length, ns_length]; omega)))
    cases ho : (decide (dirOf p = []) || !isI (l ++ [r]) (dirOf p) true) with
    | false =>
      simp only [lwLast_k1_w, lwLast_k1', go_sem, reduceCtorEq, Nat.reduceEqDiff, reduceIte, Nat.reduceAdd, Nat.reduceSub, Nat.reduceLeDiff, Int.reduceToNat, Nat.reduceBEq]
      repeat ((with_reducible apply And.intro); (case left => first | omega | (simp only [List.length_append, List.length_cons, List.length_nil, List.length_drop, List.length_take, List.length_tail, List.length_dropLast, fs_length, ss_length, bs_length, ns_length]; omega)))
      exact lwLast_k6_v l r p true hl hl' hp hpp (.inl rfl)
    | true =>
      have hi := isI_last hpp hh (by
        rw [Bool.or_eq_true, decide_eq_true_eq, Bool.not_eq_true'] at ho; exact ho)
      simp only [go_sem, reduceCtorEq, Nat.reduceEqDiff, reduceIte, Nat.reduceAdd, Nat.reduceSub, Nat.reduceLeDiff, Int.reduceToNat, Nat.reduceBEq]
      repeat ((with_reducible apply And.intro); (case left => first | omega | (simp only [List.length_append, List.length_cons, List.length_nil, List.length_drop, List.length_take, List.length_tail, List.length_dropLast, fs_length, ss_length, bs_length, ns_length]; omega)))
      repeat ((with_reducible apply And.intro); (case left => first | omega | (simp only [List.length_append, List.length_cons, List.length_nil, List.length_drop, List.length_take, List.length_tail, List.length_dropLast, fs_length, ss_length, bs_length, ns_length]; omega)))
      refine of_call (is_snd (l ++ [r]) p false hl hp) ?_
      simp only [go_sem, reduceCtorEq, Nat.reduceEqDiff, reduceIte, Nat.reduceAdd, Nat.reduceSub, Nat.reduceLeDiff, Int.reduceToNat, Nat.reduceBEq]
      repeat ((with_reducible apply And.intro); (case left => first | omega | (simp only [List.length_append, List.length_cons, List.length_nil, List.length_drop, List.length_take, List.length_tail, List.length_dropLast, fs_length, ss_length, bs_length, ns_length]; omega)))
      have e : ((!r.2.2.1) == r.2.2.1) = false := by cases r.2.2.1 <;> rfl
      simp only [hi, e, lwLast_k1_w, lwLast_k1', go_sem, reduceCtorEq, Nat.reduceEqDiff, reduceIte, Nat.reduceAdd, Nat.reduceSub, Nat.reduceLeDiff, Int.reduceToNat, Nat.reduceBEq]
      repeat ((with_reducible apply And.intro); (case left => first | omega | (simp only [List.length_append, List.length_cons, List.length_nil, List.length_drop, List.length_take, List.length_tail, List.length_dropLast, fs_length, ss_length, bs_length, ns_length]; omega)))
      exact lwLast_k6_v l r p true hl hl' hp hpp (.inl rfl)
theorem lwLast_snd (l : List Rule) (r : Rule) (p : Bs) (hl : okRules l) (h1 : r.1.length ≤ 1048575) (h2 : r.2.1.length ≤ 1048575) (hp : p.length ≤ 1048575) : Snd Tryd.prog (gl m) 10 [.sl .frn 5 (fs fR l), ruleT r, S p] (B true) := by
  refine snd_of (fn := Tryd.f10) (af := lwLast) Tryd.func10 (lwLast_comp m) mixed (kn_ok m) (Nat.le_of_ble_eq_true rfl) ?_
  simp only [lwLast, go_sem, reduceCtorEq, Nat.reduceEqDiff, reduceIte, Nat.reduceAdd, Nat.reduceSub, Nat.reduceLeDiff, Int.reduceToNat, Nat.reduceBEq]
  have hll := hl.1
  by_cases h3 : 12 < l.length
  · simp only [igt_t (show (12 : Int) < (l.length : Int) by omega), lwLast_k0_w, lwLast_k0', lwLast_k4_w, lwLast_k4', go_sem, reduceCtorEq, Nat.reduceEqDiff, reduceIte, Nat.reduceAdd, Nat.reduceSub, Nat.reduceLeDiff, Int.reduceToNat, Nat.reduceBEq]
    repeat ((with_reducible apply And.intro); (case left => first | omega | (simp only [List.length_append, List.length_cons, List.length_nil, List.length_drop, List.length_take, List.length_tail, List.length_dropLast, fs_length, ss_length, bs_length, ns_length]; omega)))
    repeat ((with_reducible apply And.intro); (case left => first | omega | (simp only [List.length_append, List.length_cons, List.length_nil, List.length_drop, List.length_take, List.length_tail, List.length_dropLast, fs_length, ss_length, bs_length, ns_length]; omega)))
    refine of_call (ilives_snd) ?_
    simp only [go_sem, reduceCtorEq, Nat.reduceEqDiff, reduceIte, Nat.reduceAdd, Nat.reduceSub, Nat.reduceLeDiff, Int.reduceToNat, Nat.reduceBEq]
    repeat ((with_reducible apply And.intro); (case left => first | omega | (simp only [List.length_append, List.length_cons, List.length_nil, List.length_drop, List.length_take, List.length_tail, List.length_dropLast, fs_length, ss_length, bs_length, ns_length]; omega)))
    try simp only [lwLast_k4_w, lwLast_k4', go_sem, reduceCtorEq, Nat.reduceEqDiff, reduceIte, Nat.reduceAdd, Nat.reduceSub, Nat.reduceLeDiff, Int.reduceToNat, Nat.reduceBEq]
    try rfl
  by_cases h4 : 200 < p.length
  · simp only [igt_f (show ¬ (12 : Int) < (l.length : Int) by omega), igt_t (show (200 : Int) < (p.length : Int) by omega), lwLast_k0_w, lwLast_k0', lwLast_k4_w, lwLast_k4', go_sem, reduceCtorEq, Nat.reduceEqDiff, reduceIte, Nat.reduceAdd, Nat.reduceSub, Nat.reduceLeDiff, Int.reduceToNat, Nat.reduceBEq]
    repeat ((with_reducible apply And.intro); (case left => first | omega | (simp only [List.length_append, List.length_cons, List.length_nil, List.length_drop, List.length_take, List.length_tail, List.length_dropLast, fs_length, ss_length, bs_length, ns_length]; omega)))
    repeat ((with_reducible apply And.intro); (case left => first | omega | (simp only [List.length_append, List.length_cons, List.length_nil, List.length_drop, List.length_take, List.length_tail, List.length_dropLast, fs_length, ss_length, bs_length, ns_length]; omega)))
    refine of_call (ilives_snd) ?_
    simp only [go_sem, reduceCtorEq, Nat.reduceEqDiff, reduceIte, Nat.reduceAdd, Nat.reduceSub, Nat.reduceLeDiff, Int.reduceToNat, Nat.reduceBEq]
    repeat ((with_reducible apply And.intro); (case left => first | omega | (simp only [List.length_append, List.length_cons, List.length_nil, List.length_drop, List.length_take, List.length_tail, List.length_dropLast, fs_length, ss_length, bs_length, ns_length]; omega)))
    try simp only [lwLast_k4_w, lwLast_k4', go_sem, reduceCtorEq, Nat.reduceEqDiff, reduceIte, Nat.reduceAdd, Nat.reduceSub, Nat.reduceLeDiff, Int.reduceToNat, Nat.reduceBEq]
    try rfl
  simp only [igt_f (show ¬ (12 : Int) < (l.length : Int) by omega), igt_f (show ¬ (200 : Int) < (p.length : Int) by omega), go_sem, reduceCtorEq, Nat.reduceEqDiff, reduceIte, Nat.reduceAdd, Nat.reduceSub, Nat.reduceLeDiff, Int.reduceToNat, Nat.reduceBEq]
  repeat ((with_reducible apply And.intro); (case left => first | omega | (simp only [List.length_append, List.length_cons, List.length_nil, List.length_drop, List.length_take, List.length_tail, List.length_dropLast, fs_length, ss_length, bs_length, ns_length]; omega)))
  repeat ((with_reducible apply And.intro); (case left => first | omega | (simp only [List.length_append, List.length_cons, List.length_nil, List.length_drop, List.length_take, List.length_tail, List.length_dropLast, fs_length, ss_length, bs_length, ns_length]; omega)))
  refine of_call (ris_snd p hp) ?_
  simp only [go_sem, reduceCtorEq, Nat.reduceEqDiff, reduceIte, Nat.reduceAdd, Nat.reduceSub, Nat.reduceLeDiff, Int.reduceToNat, Nat.reduceBEq]
  repeat ((with_reducible apply And.intro); (case left => first | omega | (simp only [List.length_append, List.length_cons, List.length_nil, List.length_drop, List.length_take, List.length_tail, List.length_dropLast, fs_length, ss_length, bs_length, ns_length]; omega)))
  cases hpp : isPath p with
  | false =>
    simp only [unVal, Bool.not_false, lwLast_k0_w, lwLast_k0', lwLast_k4_w, lwLast_k4', go_sem, reduceCtorEq, Nat.reduceEqDiff, reduceIte, Nat.reduceAdd, Nat.reduceSub, Nat.reduceLeDiff, Int.reduceToNat, Nat.reduceBEq]
    repeat ((with_reducible apply And.intro); (case left => first | omega | (simp only [List.length_append, List.length_cons, List.length_nil, List.length_drop, List.length_take, List.length_tail, List.length_dropLast, fs_length, ss_length, bs_length, ns_length]; omega)))
    repeat ((with_reducible apply And.intro); (case left => first | omega | (simp only [List.length_append, List.length_cons, List.length_nil, List.length_drop, List.length_take, List.length_tail, List.length_dropLast, fs_length, ss_length, bs_length, ns_length]; omega)))
    refine of_call (ilives_snd) ?_
    simp only [go_sem, reduceCtorEq, Nat.reduceEqDiff, reduceIte, Nat.reduceAdd, Nat.reduceSub, Nat.reduceLeDiff, Int.reduceToNat, Nat.reduceBEq]
    repeat ((with_reducible apply And.intro); (case left => first | omega | (simp only [List.length_append, List.length_cons, List.length_nil, List.length_drop, List.length_take, List.length_tail, List.length_dropLast, fs_length, ss_length, bs_length, ns_length]; omega)))
    try simp only [lwLast_k4_w, lwLast_k4', go_sem, reduceCtorEq, Nat.reduceEqDiff, reduceIte, Nat.reduceAdd, Nat.reduceSub, Nat.reduceLeDiff, Int.reduceToNat, Nat.reduceBEq]
    try rfl
  | true =>
    simp only [unVal, Bool.not_true, lwLast_k0_w, lwLast_k0', go_sem, reduceCtorEq, Nat.reduceEqDiff, reduceIte, Nat.reduceAdd, Nat.reduceSub, Nat.reduceLeDiff, Int.reduceToNat, Nat.reduceBEq]
    repeat ((with_reducible apply And.intro); (case left => first | omega | (simp only [List.length_append, List.length_cons, List.length_nil, List.length_drop, List.length_take, List.length_tail, List.length_dropLast, fs_length, ss_length, bs_length, ns_length]; omega)))
    refine lwLast_k7_v l r p ⟨by simp only [List.length_append, List.length_cons, List.length_nil]; omega, fun x hx => ?_⟩ hl hp hpp
    rcases List.mem_append.1 hx with hx | hx
    · exact hl.2 x hx
    · rw [List.mem_singleton.1 hx]; exact ⟨h1, h2⟩
end Go.At

