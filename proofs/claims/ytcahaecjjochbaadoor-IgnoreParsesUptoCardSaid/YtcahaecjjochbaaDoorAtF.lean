import Derived.Test.YtcahaecjjochbaaDoorAtI
set_option linter.unusedVariables false
set_option linter.unusedSimpArgs false
/- Ignore: the reference's Is; sameness; Files; the examples. -/
namespace Go.At
open Go Go.Ev Go.Proofs
open Go.Ln (u8b_t u8b_f lines lines_len line_len lf crlf binary idx idx_eq unfeed unfeed_len)
open Go.Gb (isPath isPat matchF pieces pieces_ne pieces_len piece_len parts pis_snd ris_snd rparts_snd)
set_option linter.unusedVariables false
set_option linter.unusedSimpArgs false
attribute [local go_sem] eqs implies_true List.map_cons List.map_nil kl klL roD roL Option.map_some Option.map_none Option.getD_some Option.getD_none binVal binObl unVal if_true if_false eq_self passA frnD resD content getH getR getW viaNot viaSlot viaBox viaDeep viaMem List.contains_cons List.contains_nil grabs peeks okCells isCell place cellsOf chunk elt List.headD_cons List.length_cons List.length_nil List.take_succ_cons List.take_zero List.drop_succ_cons List.drop_zero List.nil_append List.cons_append List.append_nil List.all_cons List.all_nil plainC takeR setW over reCell List.getElem?_cons_zero List.getElem?_cons_succ List.set_cons_zero List.take_length outV resG plainV pack outVG outBx List.set_cons_succ Ref.idx Ref.addOff beq_self_eq_true bxL Option.bind_some writeR isLit viaBoxes capsPA boxPA nsOf noDup boxesAt argG passG passD rhoIn rhoOut idxIn tr trL List.getD_cons_zero gives pasOf isPtr Ins.d List.getD_cons_succ resL frnL List.getLast?_nil frnL_fs roL_fs resL_fs passL_fs klL_fs trL_fs map_roD_fs fs_length ruleT
variable {m : Int}
def rsame30_l0' : AC := .seq (.seq (.reg (.seq [⟨(some (11, false)), none, .mov (.tmp 5 true) .peek⟩,
      ⟨(some (12, false)), none, .mov (.tmp 0 true) .peek⟩,
      ⟨(some (13, false)), none, .lenL (.tmp 12 false)⟩,
      ⟨(some (14, false)), none, .bin .lss (.tmp 11 false) (.tmp 13 false)⟩])) [0, 1, 5, 14] []
  (.cond (.tmp 14 false)
    (.skip)
    (.exit 0))) [0, 1, 5] []
  (.seq (.block 1 (.seq (.reg (.draw [⟨(some (17, false)), none, .mov (.tmp 0 true) .peek⟩,
      ⟨(some (18, false)), none, .mov (.tmp 5 true) .peek⟩,
      ⟨(some (19, false)), none, .iad (.tmp 17 false) (.tmp 18 false) 5⟩,
      ⟨(some (20, false)), none, .load (.tmp 19 false) 5 true false⟩,
      ⟨(some (21, false)), none, .mov (.tmp 1 true) .peek⟩,
      ⟨(some (22, false)), none, .mov (.tmp 5 true) .peek⟩,
      ⟨(some (23, false)), none, .iad (.tmp 21 false) (.tmp 22 false) 5⟩,
      ⟨(some (24, false)), none, .load (.tmp 23 false) 5 true false⟩,
      ⟨(some (25, false)), none, .eqS [1, 1, 2, 2, 2] true (.tmp 20 false) (.tmp 24 false)⟩] .done)) [0, 1, 5, 25] []
    (.cond (.tmp 25 false)
      (.seq (.reg (.seq [⟨(some (4, true)), none, .mov (.cst (.bool false) (.lit (.bool false))) .asg⟩])) [4] []
      (.ret))
      (.skip)))) [0, 1, 5] []
  (.reg (.seq [⟨(some (15, false)), none, .mov (.tmp 5 true) .peek⟩,
      ⟨(some (16, false)), none, .bin .add (.tmp 15 false) (.cst (.int .i64 1) (.lit (.int .i64 1)))⟩,
      ⟨(some (5, true)), none, .mov (.tmp 16 false) .asg⟩])))
def rsame30_l0 : AC := rsame30_l0'
theorem rsame30_l0_w (C : Kn) (K : Ex → St → Prop) (s : St) : vcC C rsame30_l0 K s = vcC C rsame30_l0' K s := nr rfl
def rsame30_k1' : AC := .seq (.reg (.seq [⟨(some (4, true)), none, .mov (.cst (.bool true) (.lit (.bool true))) .asg⟩])) [4] []
  (.ret)
def rsame30_k1 : AC := rsame30_k1'
theorem rsame30_k1_w (C : Kn) (K : Ex → St → Prop) (s : St) : vcC C rsame30_k1 K s = vcC C rsame30_k1' K s := nr rfl
def rsame30 : AF := ⟨.seq (.reg (.seq [⟨(some (4, true)), none, .mov (.cst (.bool false) (.lit (.bool false))) .asg⟩])) [0, 1] []
  (.seq (.seq (.reg (.seq [⟨(some (6, false)), none, .mov (.tmp 0 true) .peek⟩,
      ⟨(some (7, false)), none, .lenL (.tmp 6 false)⟩,
      ⟨(some (8, false)), none, .mov (.tmp 1 true) .peek⟩,
      ⟨(some (9, false)), none, .lenL (.tmp 8 false)⟩,
      ⟨(some (10, false)), none, .bin .neq (.tmp 7 false) (.tmp 9 false)⟩])) [0, 1, 10] []
  (.cond (.tmp 10 false)
    (.seq (.reg (.seq [⟨(some (4, true)), none, .mov (.cst (.bool false) (.lit (.bool false))) .asg⟩])) [4] []
    (.ret))
    (.skip))) [0, 1] []
  (.seq (.seq (.reg (.seq [⟨(some (5, true)), none, .mov (.cst (.int .i64 0) (.lit (.int .i64 0))) .asg⟩])) [0, 1, 5] []
  (.block 0 (.loop [0, 1, 5] [] rsame30_l0))) [] [] rsame30_k1)),
  [.tmp 4]⟩
theorem rsame30_comp (m : Int) : compF Tryd.prog (gl m) [] Tryd.f30 = some rsame30 := by kernel_rfl
def ilives : AF := ⟨.seq (.reg (.seq [⟨(some (0, true)), none, .mov (.cst (.bool false) (.lit (.bool false))) .asg⟩])) [] []
  (.seq (.reg (.seq [⟨(some (2, false)), none, .call 31 [(.cst (.string (str [42, 46, 111, 10, 33, 97, 46, 111, 10, 47, 98, 47, 10, 99, 47, 100, 10])) (.lit (.string (str [42, 46, 111, 10, 33, 97, 46, 111, 10, 47, 98, 47, 10, 99, 47, 100, 10])))), (.cst (.string (str [])) (.lit (.string (str []))))]⟩,
      ⟨(some (1, true)), none, .mov (.tmp 2 false) .asg⟩])) [1] []
  (.seq (.reg (.seq [⟨(some (3, false)), none, .mov (.tmp 1 true) .peek⟩,
      ⟨(some (4, false)), none, .lenL (.tmp 3 false)⟩,
      ⟨(some (5, false)), none, .bin .eql (.tmp 4 false) (.cst (.int .i64 4) (.lit (.int .i64 4)))⟩,
      ⟨(some (6, false)), none, .mov (.tmp 5 false) .peek⟩,
      ⟨(some (7, false)), (some (6, true)), .mov (.tmp 1 true) .peek⟩,
      ⟨(some (8, false)), (some (6, true)), .call 38 [(.tmp 7 false), (.cst (.string (str [120, 46, 111])) (.lit (.string (str [120, 46, 111])))), (.cst (.bool false) (.lit (.bool false)))]⟩,
      ⟨(some (9, false)), none, .pick (.tmp 6 false) (.tmp 8 false) (.cst (.bool false) (.lit (.bool false)))⟩,
      ⟨(some (10, false)), none, .mov (.tmp 9 false) .peek⟩,
      ⟨(some (11, false)), (some (10, true)), .mov (.tmp 1 true) .peek⟩,
      ⟨(some (12, false)), (some (10, true)), .call 38 [(.tmp 11 false), (.cst (.string (str [97, 46, 111])) (.lit (.string (str [97, 46, 111])))), (.cst (.bool false) (.lit (.bool false)))]⟩,
      ⟨(some (13, false)), (some (10, true)), .un .not (.tmp 12 false)⟩,
      ⟨(some (14, false)), none, .pick (.tmp 10 false) (.tmp 13 false) (.cst (.bool false) (.lit (.bool false)))⟩,
      ⟨(some (15, false)), none, .mov (.tmp 14 false) .peek⟩,
      ⟨(some (16, false)), (some (15, true)), .mov (.tmp 1 true) .peek⟩,
      ⟨(some (17, false)), (some (15, true)), .call 38 [(.tmp 16 false), (.cst (.string (str [98, 47, 120])) (.lit (.string (str [98, 47, 120])))), (.cst (.bool false) (.lit (.bool false)))]⟩,
      ⟨(some (18, false)), none, .pick (.tmp 15 false) (.tmp 17 false) (.cst (.bool false) (.lit (.bool false)))⟩,
      ⟨(some (19, false)), none, .mov (.tmp 18 false) .peek⟩,
      ⟨(some (20, false)), (some (19, true)), .mov (.tmp 1 true) .peek⟩,
      ⟨(some (21, false)), (some (19, true)), .call 38 [(.tmp 20 false), (.cst (.string (str [121, 47, 98, 47, 120])) (.lit (.string (str [121, 47, 98, 47, 120])))), (.cst (.bool false) (.lit (.bool false)))]⟩,
      ⟨(some (22, false)), (some (19, true)), .un .not (.tmp 21 false)⟩,
      ⟨(some (23, false)), none, .pick (.tmp 19 false) (.tmp 22 false) (.cst (.bool false) (.lit (.bool false)))⟩,
      ⟨(some (24, false)), none, .mov (.tmp 23 false) .peek⟩,
      ⟨(some (25, false)), (some (24, true)), .mov (.tmp 1 true) .peek⟩,
      ⟨(some (26, false)), (some (24, true)), .call 38 [(.tmp 25 false), (.cst (.string (str [99, 47, 100])) (.lit (.string (str [99, 47, 100])))), (.cst (.bool false) (.lit (.bool false)))]⟩,
      ⟨(some (27, false)), none, .pick (.tmp 24 false) (.tmp 26 false) (.cst (.bool false) (.lit (.bool false)))⟩,
      ⟨(some (28, false)), none, .mov (.tmp 27 false) .peek⟩,
      ⟨(some (29, false)), (some (28, true)), .mov (.tmp 1 true) .peek⟩,
      ⟨(some (30, false)), (some (28, true)), .call 38 [(.tmp 29 false), (.cst (.string (str [120, 47, 99, 47, 100])) (.lit (.string (str [120, 47, 99, 47, 100])))), (.cst (.bool false) (.lit (.bool false)))]⟩,
      ⟨(some (31, false)), (some (28, true)), .un .not (.tmp 30 false)⟩,
      ⟨(some (32, false)), none, .pick (.tmp 28 false) (.tmp 31 false) (.cst (.bool false) (.lit (.bool false)))⟩,
      ⟨(some (0, true)), none, .mov (.tmp 32 false) .asg⟩])) [0] []
  (.ret))),
  [.tmp 0]⟩
theorem ilives_comp (m : Int) : compF Tryd.prog (gl m) [] Tryd.f29 = some ilives := by kernel_rfl
theorem eqR (r r' : Rule) : eqC [1, 1, 2, 2, 2] [S r.1, S r.2.1, B r.2.2.1, B r.2.2.2.1, B r.2.2.2.2] [S r'.1, S r'.2.1, B r'.2.2.1, B r'.2.2.2.1, B r'.2.2.2.2] = some (r == r') := by
  obtain ⟨a, b, c, d, e⟩ := r; obtain ⟨a', b', c', d', e'⟩ := r'
  simp only [eqC, Option.map_some, str_toList, Bool.and_true]; rfl
theorem rsame_refl (l : List Rule) (hl : l.length ≤ 1048576) : Snd Tryd.prog (gl m) 30 [.sl .frn 5 (fs fR l), .sl .frn 5 (fs fR l)] (B true) := by
  refine snd_of (fn := Tryd.f30) (af := rsame30) Tryd.func30 (rsame30_comp m) mixed (kn_ok m) (Nat.le_of_ble_eq_true rfl) ?_
  simp only [rsame30, go_sem, reduceCtorEq, Nat.reduceEqDiff, reduceIte, Nat.reduceAdd, Nat.reduceSub, Nat.reduceLeDiff, Int.reduceToNat, Nat.reduceBEq]
  simp only [ne_f (show (l.length : Int) = l.length from rfl), go_sem, reduceCtorEq, Nat.reduceEqDiff, reduceIte, Nat.reduceAdd, Nat.reduceSub, Nat.reduceLeDiff, Int.reduceToNat, Nat.reduceBEq]
  repeat ((with_reducible apply And.intro); (case left => first | omega | (simp only [List.length_append, List.length_cons, List.length_nil, List.length_drop, List.length_take, List.length_tail, List.length_dropLast, fs_length, ss_length, bs_length, ns_length]; omega)))
  refine loop_up l.length (fun i => mkS [(0, .sl .frn 5 (fs fR l)), (1, .sl .frn 5 (fs fR l)), (5, N i)] []) rfl ?_
  intro i hi ih
  simp only [rsame30_l0_w, rsame30_l0', go_sem, reduceCtorEq, Nat.reduceEqDiff, reduceIte, Nat.reduceAdd, Nat.reduceSub, Nat.reduceLeDiff, Int.reduceToNat, Nat.reduceBEq]
  repeat ((with_reducible apply And.intro); (case left => first | omega | (simp only [List.length_append, List.length_cons, List.length_nil, List.length_drop, List.length_take, List.length_tail, List.length_dropLast, fs_length, ss_length, bs_length, ns_length]; omega)))
  by_cases h : i < l.length
  · have g := fs_getR h
    have q1 : IntKind.i64.wrap ((i : Int) + 1) = ((i + 1 : Nat) : Int) := wrapN _ (by omega) (by omega)
    have e := eqR l[i] l[i]
    rw [beq_self_eq_true] at e
    simp only [lt_t h, g, Int.toNat_natCast, e, q1, Bool.not_true, go_sem, reduceCtorEq, Nat.reduceEqDiff, reduceIte, Nat.reduceAdd, Nat.reduceSub, Nat.reduceLeDiff, Int.reduceToNat, Nat.reduceBEq]
    repeat ((with_reducible apply And.intro); (case left => first | omega | (simp only [List.length_append, List.length_cons, List.length_nil, List.length_drop, List.length_take, List.length_tail, List.length_dropLast, fs_length, ss_length, bs_length, ns_length]; omega)))
    exact ih h
  · simp only [lt_f h, rsame30_k1_w, rsame30_k1', go_sem, reduceCtorEq, Nat.reduceEqDiff, reduceIte, Nat.reduceAdd, Nat.reduceSub, Nat.reduceLeDiff, Int.reduceToNat, Nat.reduceBEq]
    try rfl
/-! the examples -/
def exI : List Rule := [([42, 46, 111], [], false, false, false), ([97, 46, 111], [], true, false, false), ([98], [], false, true, true), ([99, 47, 100], [], false, false, true)]
theorem exI_parse : parseI [42, 46, 111, 10, 33, 97, 46, 111, 10, 47, 98, 47, 10, 99, 47, 100, 10] [] = exI := by decide +kernel
theorem exI_ok : okRules exI := ⟨by decide, by decide⟩
theorem ilives_snd : Snd Tryd.prog (gl m) 29 [] (B true) := by
  refine snd_of (fn := Tryd.f29) (af := ilives) Tryd.func29 (ilives_comp m) mixed (kn_ok m) (Nat.le_of_ble_eq_true rfl) ?_
  simp only [ilives, go_sem, reduceCtorEq, Nat.reduceEqDiff, reduceIte, Nat.reduceAdd, Nat.reduceSub, Nat.reduceLeDiff, Int.reduceToNat, Nat.reduceBEq]
  refine of_call (iparse_snd [42, 46, 111, 10, 33, 97, 46, 111, 10, 47, 98, 47, 10, 99, 47, 100, 10] [] (by decide) (by decide)) ?_
  rw [exI_parse]
  simp only [eq_t (show ((exI.length : Nat) : Int) = 4 from rfl), go_sem, reduceCtorEq, Nat.reduceEqDiff, reduceIte, Nat.reduceAdd, Nat.reduceSub, Nat.reduceLeDiff, Int.reduceToNat, Nat.reduceBEq]
  refine of_call (is_snd exI [120, 46, 111] false exI_ok (by decide)) ?_
  rw [show isI exI [120, 46, 111] false = true by decide +kernel]
  simp only [go_sem, reduceCtorEq, Nat.reduceEqDiff, reduceIte, Nat.reduceAdd, Nat.reduceSub, Nat.reduceLeDiff, Int.reduceToNat, Nat.reduceBEq]
  repeat ((with_reducible apply And.intro); (case left => first | omega | (simp only [List.length_append, List.length_cons, List.length_nil, List.length_drop, List.length_take, List.length_tail, List.length_dropLast, fs_length, ss_length, bs_length, ns_length]; omega)))
  refine of_call (is_snd exI [97, 46, 111] false exI_ok (by decide)) ?_
  rw [show isI exI [97, 46, 111] false = false by decide +kernel]
  simp only [unVal, Bool.not_false, go_sem, reduceCtorEq, Nat.reduceEqDiff, reduceIte, Nat.reduceAdd, Nat.reduceSub, Nat.reduceLeDiff, Int.reduceToNat, Nat.reduceBEq]
  repeat ((with_reducible apply And.intro); (case left => first | omega | (simp only [List.length_append, List.length_cons, List.length_nil, List.length_drop, List.length_take, List.length_tail, List.length_dropLast, fs_length, ss_length, bs_length, ns_length]; omega)))
  refine of_call (is_snd exI [98, 47, 120] false exI_ok (by decide)) ?_
  rw [show isI exI [98, 47, 120] false = true by decide +kernel]
  simp only [go_sem, reduceCtorEq, Nat.reduceEqDiff, reduceIte, Nat.reduceAdd, Nat.reduceSub, Nat.reduceLeDiff, Int.reduceToNat, Nat.reduceBEq]
  repeat ((with_reducible apply And.intro); (case left => first | omega | (simp only [List.length_append, List.length_cons, List.length_nil, List.length_drop, List.length_take, List.length_tail, List.length_dropLast, fs_length, ss_length, bs_length, ns_length]; omega)))
  refine of_call (is_snd exI [121, 47, 98, 47, 120] false exI_ok (by decide)) ?_
  rw [show isI exI [121, 47, 98, 47, 120] false = false by decide +kernel]
  simp only [unVal, Bool.not_false, go_sem, reduceCtorEq, Nat.reduceEqDiff, reduceIte, Nat.reduceAdd, Nat.reduceSub, Nat.reduceLeDiff, Int.reduceToNat, Nat.reduceBEq]
  repeat ((with_reducible apply And.intro); (case left => first | omega | (simp only [List.length_append, List.length_cons, List.length_nil, List.length_drop, List.length_take, List.length_tail, List.length_dropLast, fs_length, ss_length, bs_length, ns_length]; omega)))
  refine of_call (is_snd exI [99, 47, 100] false exI_ok (by decide)) ?_
  rw [show isI exI [99, 47, 100] false = true by decide +kernel]
  simp only [go_sem, reduceCtorEq, Nat.reduceEqDiff, reduceIte, Nat.reduceAdd, Nat.reduceSub, Nat.reduceLeDiff, Int.reduceToNat, Nat.reduceBEq]
  repeat ((with_reducible apply And.intro); (case left => first | omega | (simp only [List.length_append, List.length_cons, List.length_nil, List.length_drop, List.length_take, List.length_tail, List.length_dropLast, fs_length, ss_length, bs_length, ns_length]; omega)))
  refine of_call (is_snd exI [120, 47, 99, 47, 100] false exI_ok (by decide)) ?_
  rw [show isI exI [120, 47, 99, 47, 100] false = false by decide +kernel]
  simp only [unVal, Bool.not_false, go_sem, reduceCtorEq, Nat.reduceEqDiff, reduceIte, Nat.reduceAdd, Nat.reduceSub, Nat.reduceLeDiff, Int.reduceToNat, Nat.reduceBEq]
  repeat ((with_reducible apply And.intro); (case left => first | omega | (simp only [List.length_append, List.length_cons, List.length_nil, List.length_drop, List.length_take, List.length_tail, List.length_dropLast, fs_length, ss_length, bs_length, ns_length]; omega)))
  try rfl
end Go.At
/- Ignore: the laws' own functions. -/
namespace Go.At
open Go Go.Ev Go.Proofs
open Go.Ln (u8b_t u8b_f lines lines_len line_len lf crlf binary idx idx_eq unfeed unfeed_len)
open Go.Gb (isPath isPat matchF pieces pieces_ne pieces_len piece_len parts pis_snd ris_snd rparts_snd)
set_option linter.unusedVariables false
set_option linter.unusedSimpArgs false
attribute [local go_sem] eqs implies_true List.map_cons List.map_nil kl klL roD roL Option.map_some Option.map_none Option.getD_some Option.getD_none binVal binObl unVal if_true if_false eq_self passA frnD resD content getH getR getW viaNot viaSlot viaBox viaDeep viaMem List.contains_cons List.contains_nil grabs peeks okCells isCell place cellsOf chunk elt List.headD_cons List.length_cons List.length_nil List.take_succ_cons List.take_zero List.drop_succ_cons List.drop_zero List.nil_append List.cons_append List.append_nil List.all_cons List.all_nil plainC takeR setW over reCell List.getElem?_cons_zero List.getElem?_cons_succ List.set_cons_zero List.take_length outV resG plainV pack outVG outBx List.set_cons_succ Ref.idx Ref.addOff beq_self_eq_true bxL Option.bind_some writeR isLit viaBoxes capsPA boxPA nsOf noDup boxesAt argG passG passD rhoIn rhoOut idxIn tr trL List.getD_cons_zero gives pasOf isPtr Ins.d List.getD_cons_succ resL frnL List.getLast?_nil frnL_fs roL_fs resL_fs passL_fs klL_fs trL_fs map_roD_fs fs_length ruleT
variable {m : Int}
def lwParses : AF := ⟨.seq (.reg (.seq [⟨(some (4, true)), none, .mov (.cst (.bool false) (.lit (.bool false))) .asg⟩])) [0, 1] []
  (.seq (.seq (.reg (.seq [⟨(some (5, false)), none, .mov (.tmp 0 true) .peek⟩,
      ⟨(some (6, false)), none, .len (.tmp 5 false)⟩,
      ⟨(some (7, false)), none, .bin .gtr (.tmp 6 false) (.cst (.int .i64 1000) (.lit (.int .i64 1000)))⟩,
      ⟨(some (8, false)), none, .mov (.tmp 7 false) .peek⟩,
      ⟨(some (9, false)), (some (8, false)), .mov (.tmp 1 true) .peek⟩,
      ⟨(some (10, false)), (some (8, false)), .len (.tmp 9 false)⟩,
      ⟨(some (11, false)), (some (8, false)), .bin .gtr (.tmp 10 false) (.cst (.int .i64 300) (.lit (.int .i64 300)))⟩,
      ⟨(some (12, false)), none, .pick (.tmp 8 false) (.cst (.bool true) (.lit (.bool true))) (.tmp 11 false)⟩])) [0, 1, 12] []
  (.cond (.tmp 12 false)
    (.seq (.reg (.seq [⟨(some (13, false)), none, .call 29 []⟩,
      ⟨(some (4, true)), none, .mov (.tmp 13 false) .asg⟩])) [4] []
    (.ret))
    (.skip))) [0, 1] []
  (.seq (.reg (.seq [⟨(some (14, false)), none, .mov (.tmp 0 true) .peek⟩,
      ⟨(some (15, false)), none, .mov (.tmp 1 true) .peek⟩,
      ⟨(some (16, false)), none, .call 31 [(.tmp 14 false), (.tmp 15 false)]⟩,
      ⟨(some (17, false)), none, .mov (.tmp 0 true) .peek⟩,
      ⟨(some (18, false)), none, .mov (.tmp 1 true) .peek⟩,
      ⟨(some (19, false)), none, .call 32 [(.tmp 17 false), (.tmp 18 false)]⟩,
      ⟨(some (20, false)), none, .call 30 [(.tmp 16 false), (.tmp 19 false)]⟩,
      ⟨(some (21, false)), none, .mov (.tmp 20 false) .peek⟩,
      ⟨(some (22, false)), (some (21, true)), .call 29 []⟩,
      ⟨(some (23, false)), none, .pick (.tmp 21 false) (.tmp 22 false) (.cst (.bool false) (.lit (.bool false)))⟩,
      ⟨(some (4, true)), none, .mov (.tmp 23 false) .asg⟩])) [4] []
  (.ret))),
  [.tmp 4]⟩
theorem lwParses_comp (m : Int) : compF Tryd.prog (gl m) [] Tryd.f8 = some lwParses := by kernel_rfl
theorem parseI_len (s dir : Bs) : (parseI s dir).length ≤ s.length := by
  unfold parseI; split
  · simp
  · exact Nat.le_trans (List.length_filterMap_le _ _) (lines_len s)
theorem lwParses_snd (s dir : Bs) (hs : s.length ≤ 1048575) (hd : dir.length ≤ 1048575) : Snd Tryd.prog (gl m) 8 [S s, S dir] (B true) := by
  refine snd_of (fn := Tryd.f8) (af := lwParses) Tryd.func8 (lwParses_comp m) mixed (kn_ok m) (Nat.le_of_ble_eq_true rfl) ?_
  simp only [lwParses, go_sem, reduceCtorEq, Nat.reduceEqDiff, reduceIte, Nat.reduceAdd, Nat.reduceSub, Nat.reduceLeDiff, Int.reduceToNat, Nat.reduceBEq]
  by_cases h1 : 1000 < s.length
  · simp only [igt_t (show (1000 : Int) < (s.length : Int) by omega), go_sem, reduceCtorEq, Nat.reduceEqDiff, reduceIte, Nat.reduceAdd, Nat.reduceSub, Nat.reduceLeDiff, Int.reduceToNat, Nat.reduceBEq]
    repeat ((with_reducible apply And.intro); (case left => first | omega | (simp only [List.length_append, List.length_cons, List.length_nil, List.length_drop, List.length_take, List.length_tail, List.length_dropLast, fs_length, ss_length, bs_length, ns_length]; omega)))
    repeat ((with_reducible apply And.intro); (case left => first | omega | (simp only [List.length_append, List.length_cons, List.length_nil, List.length_drop, List.length_take, List.length_tail, List.length_dropLast, fs_length, ss_length, bs_length, ns_length]; omega)))
    refine of_call (ilives_snd) ?_
    simp only [go_sem, reduceCtorEq, Nat.reduceEqDiff, reduceIte, Nat.reduceAdd, Nat.reduceSub, Nat.reduceLeDiff, Int.reduceToNat, Nat.reduceBEq]
    repeat ((with_reducible apply And.intro); (case left => first | omega | (simp only [List.length_append, List.length_cons, List.length_nil, List.length_drop, List.length_take, List.length_tail, List.length_dropLast, fs_length, ss_length, bs_length, ns_length]; omega)))
    try rfl
  by_cases h2 : 300 < dir.length
  · simp only [igt_f (show ¬ (1000 : Int) < (s.length : Int) by omega), igt_t (show (300 : Int) < (dir.length : Int) by omega), go_sem, reduceCtorEq, Nat.reduceEqDiff, reduceIte, Nat.reduceAdd, Nat.reduceSub, Nat.reduceLeDiff, Int.reduceToNat, Nat.reduceBEq]
    repeat ((with_reducible apply And.intro); (case left => first | omega | (simp only [List.length_append, List.length_cons, List.length_nil, List.length_drop, List.length_take, List.length_tail, List.length_dropLast, fs_length, ss_length, bs_length, ns_length]; omega)))
    repeat ((with_reducible apply And.intro); (case left => first | omega | (simp only [List.length_append, List.length_cons, List.length_nil, List.length_drop, List.length_take, List.length_tail, List.length_dropLast, fs_length, ss_length, bs_length, ns_length]; omega)))
    refine of_call (ilives_snd) ?_
    simp only [go_sem, reduceCtorEq, Nat.reduceEqDiff, reduceIte, Nat.reduceAdd, Nat.reduceSub, Nat.reduceLeDiff, Int.reduceToNat, Nat.reduceBEq]
    repeat ((with_reducible apply And.intro); (case left => first | omega | (simp only [List.length_append, List.length_cons, List.length_nil, List.length_drop, List.length_take, List.length_tail, List.length_dropLast, fs_length, ss_length, bs_length, ns_length]; omega)))
    try rfl
  simp only [igt_f (show ¬ (1000 : Int) < (s.length : Int) by omega), igt_f (show ¬ (300 : Int) < (dir.length : Int) by omega), go_sem, reduceCtorEq, Nat.reduceEqDiff, reduceIte, Nat.reduceAdd, Nat.reduceSub, Nat.reduceLeDiff, Int.reduceToNat, Nat.reduceBEq]
  repeat ((with_reducible apply And.intro); (case left => first | omega | (simp only [List.length_append, List.length_cons, List.length_nil, List.length_drop, List.length_take, List.length_tail, List.length_dropLast, fs_length, ss_length, bs_length, ns_length]; omega)))
  repeat ((with_reducible apply And.intro); (case left => first | omega | (simp only [List.length_append, List.length_cons, List.length_nil, List.length_drop, List.length_take, List.length_tail, List.length_dropLast, fs_length, ss_length, bs_length, ns_length]; omega)))
  refine of_call (iparse_snd s dir hs hd) ?_
  simp only [go_sem, reduceCtorEq, Nat.reduceEqDiff, reduceIte, Nat.reduceAdd, Nat.reduceSub, Nat.reduceLeDiff, Int.reduceToNat, Nat.reduceBEq]
  repeat ((with_reducible apply And.intro); (case left => first | omega | (simp only [List.length_append, List.length_cons, List.length_nil, List.length_drop, List.length_take, List.length_tail, List.length_dropLast, fs_length, ss_length, bs_length, ns_length]; omega)))
  repeat ((with_reducible apply And.intro); (case left => first | omega | (simp only [List.length_append, List.length_cons, List.length_nil, List.length_drop, List.length_take, List.length_tail, List.length_dropLast, fs_length, ss_length, bs_length, ns_length]; omega)))
  refine of_call (rparse_snd s dir hs hd) ?_
  simp only [go_sem, reduceCtorEq, Nat.reduceEqDiff, reduceIte, Nat.reduceAdd, Nat.reduceSub, Nat.reduceLeDiff, Int.reduceToNat, Nat.reduceBEq]
  repeat ((with_reducible apply And.intro); (case left => first | omega | (simp only [List.length_append, List.length_cons, List.length_nil, List.length_drop, List.length_take, List.length_tail, List.length_dropLast, fs_length, ss_length, bs_length, ns_length]; omega)))
  repeat ((with_reducible apply And.intro); (case left => first | omega | (simp only [List.length_append, List.length_cons, List.length_nil, List.length_drop, List.length_take, List.length_tail, List.length_dropLast, fs_length, ss_length, bs_length, ns_length]; omega)))
  refine of_call (rsame_refl (parseI s dir) (by have := parseI_len s dir; omega)) ?_
  simp only [go_sem, reduceCtorEq, Nat.reduceEqDiff, reduceIte, Nat.reduceAdd, Nat.reduceSub, Nat.reduceLeDiff, Int.reduceToNat, Nat.reduceBEq]
  repeat ((with_reducible apply And.intro); (case left => first | omega | (simp only [List.length_append, List.length_cons, List.length_nil, List.length_drop, List.length_take, List.length_tail, List.length_dropLast, fs_length, ss_length, bs_length, ns_length]; omega)))
  repeat ((with_reducible apply And.intro); (case left => first | omega | (simp only [List.length_append, List.length_cons, List.length_nil, List.length_drop, List.length_take, List.length_tail, List.length_dropLast, fs_length, ss_length, bs_length, ns_length]; omega)))
  refine of_call (ilives_snd) ?_
  simp only [go_sem, reduceCtorEq, Nat.reduceEqDiff, reduceIte, Nat.reduceAdd, Nat.reduceSub, Nat.reduceLeDiff, Int.reduceToNat, Nat.reduceBEq]
  repeat ((with_reducible apply And.intro); (case left => first | omega | (simp only [List.length_append, List.length_cons, List.length_nil, List.length_drop, List.length_take, List.length_tail, List.length_dropLast, fs_length, ss_length, bs_length, ns_length]; omega)))
  try rfl
end Go.At

