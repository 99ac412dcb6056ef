import Derived.Test.YtcahaecjjochbaaDoorAtI
set_option linter.unusedVariables false
set_option linter.unusedSimpArgs false
/- Ignore: the reference's Is; sameness; Files; the examples. -/
namespace Go.At
open Go Go.Ev Go.Proofs
open Go.Ln (u8b_t u8b_f lines lines_len line_len lf crlf binary idx idx_eq unfeed unfeed_len)
open Go.Gb (isPath isPat matchF pieces pieces_ne pieces_len piece_len parts pis_snd ris_snd rparts_snd)
set_option linter.unusedVariables false
set_option linter.unusedSimpArgs false
attribute [local go_sem] eqs implies_true List.map_cons List.map_nil kl klL roD roL Option.map_some Option.map_none Option.getD_some Option.getD_none binVal binObl unVal if_true if_false eq_self passA frnD resD content getH getR getW viaNot viaSlot viaBox viaDeep viaMem List.contains_cons List.contains_nil grabs peeks okCells isCell place cellsOf chunk elt List.headD_cons List.length_cons List.length_nil List.take_succ_cons List.take_zero List.drop_succ_cons List.drop_zero List.nil_append List.cons_append List.append_nil List.all_cons List.all_nil plainC takeR setW over reCell List.getElem?_cons_zero List.getElem?_cons_succ List.set_cons_zero List.take_length outV resG plainV pack outVG outBx List.set_cons_succ Ref.idx Ref.addOff beq_self_eq_true bxL Option.bind_some writeR isLit viaBoxes capsPA boxPA nsOf noDup boxesAt argG passG passD rhoIn rhoOut idxIn tr trL List.getD_cons_zero gives pasOf isPtr Ins.d List.getD_cons_succ resL frnL List.getLast?_nil frnL_fs roL_fs resL_fs passL_fs klL_fs trL_fs map_roD_fs fs_length ruleT
variable {m : Int}
def ifiles_l0' : AC := .seq (.reg (.seq [⟨(some (11, false)), none, .bin .lss (.tmp 10 true) (.tmp 9 true)⟩])) [0, 1, 5, 8, 9, 10, 11] []
  (.seq (.cond (.tmp 11 false)
    (.skip)
    (.exit 0)) [0, 1, 5, 8, 9, 10] []
  (.seq (.block 1 (.seq (.reg (.seq [⟨(some (12, false)), none, .iad (.tmp 8 true) (.tmp 10 true) 3⟩,
      ⟨(some (13, false)), none, .load (.tmp 12 false) 3 true true⟩,
      ⟨(some (7, true)), none, .new [(.lit (.string (str []))), (.lit (.int .i64 0)), (.lit (.string (str [])))]⟩,
      ⟨none, none, .store (.tmp 7 true) (.tmp 13 false) 3⟩])) [0, 1, 5, 7, 8, 9, 10] [7]
    (.seq (.reg (.seq [⟨(some (14, false)), none, .mov (.tmp 0 true) .peek⟩,
      ⟨(some (15, false)), none, .fad (.tmp 7 true) 0⟩,
      ⟨(some (16, false)), none, .load (.tmp 15 false) 1 false false⟩,
      ⟨(some (17, false)), none, .call 38 [(.tmp 14 false), (.tmp 16 false), (.cst (.bool false) (.lit (.bool false)))]⟩,
      ⟨(some (18, false)), none, .un .not (.tmp 17 false)⟩])) [0, 1, 5, 7, 8, 9, 10, 18] [7]
    (.cond (.tmp 18 false)
      (.reg (.seq [⟨(some (19, false)), none, .mov (.tmp 5 true) .take⟩,
      ⟨(some (20, false)), none, .load (.tmp 7 true) 3 true true⟩,
      ⟨(some (21, false)), none, .buildS 3 1 [(.lit (.string (str []))), (.lit (.int .i64 0)), (.lit (.string (str [])))] [(0, 3, (.tmp 20 false))]⟩,
      ⟨(some (22, false)), none, .app 3 40 (.tmp 19 false) (.tmp 21 false)⟩,
      ⟨(some (5, true)), none, .mov (.tmp 22 false) .asg⟩]))
      (.skip))))) [0, 1, 5, 8, 9, 10] []
  (.reg (.seq [⟨(some (23, false)), none, .bin .add (.tmp 10 true) (.cst (.int .i64 1) (.lit (.int .i64 1)))⟩,
      ⟨(some (10, true)), none, .mov (.tmp 23 false) .peek⟩]))))
def ifiles_l0 : AC := ifiles_l0'
theorem ifiles_l0_w (C : Kn) (K : Ex → St → Prop) (s : St) : vcC C ifiles_l0 K s = vcC C ifiles_l0' K s := nr rfl
def ifiles_k1' : AC := .seq (.reg (.seq [⟨(some (24, false)), none, .mov (.tmp 5 true) .take⟩,
      ⟨(some (4, true)), none, .mov (.tmp 24 false) .asg⟩])) [4, 5] []
  (.ret)
def ifiles_k1 : AC := ifiles_k1'
theorem ifiles_k1_w (C : Kn) (K : Ex → St → Prop) (s : St) : vcC C ifiles_k1 K s = vcC C ifiles_k1' K s := nr rfl
def ifiles : AF := ⟨.seq (.reg (.seq [⟨(some (4, true)), none, .mov (.cst (.slice none 0 0) (.sl .own 3 [])) .asg⟩])) [0, 1] []
  (.seq (.reg (.seq [⟨(some (5, true)), none, .mov (.cst (.slice none 0 0) (.sl .own 3 [])) .asg⟩])) [0, 1, 5] []
  (.seq (.seq (.reg (.seq [⟨(some (8, true)), none, .mov (.tmp 1 true) .peek⟩,
      ⟨(some (9, true)), none, .lenL (.tmp 8 true)⟩,
      ⟨(some (10, true)), none, .mov (.cst (.int .i64 0) (.lit (.int .i64 0))) .peek⟩])) [0, 1, 5, 8, 9, 10] []
  (.block 0 (.loop [0, 1, 5, 8, 9, 10] [] ifiles_l0))) [5] [] ifiles_k1)),
  [.tmp 4]⟩
theorem ifiles_comp (m : Int) : compF Tryd.prog (gl m) [] Tryd.f42 = some ifiles := by kernel_rfl
def ilives : AF := ⟨.seq (.reg (.seq [⟨(some (0, true)), none, .mov (.cst (.bool false) (.lit (.bool false))) .asg⟩])) [] []
  (.seq (.reg (.seq [⟨(some (2, false)), none, .call 31 [(.cst (.string (str [42, 46, 111, 10, 33, 97, 46, 111, 10, 47, 98, 47, 10, 99, 47, 100, 10])) (.lit (.string (str [42, 46, 111, 10, 33, 97, 46, 111, 10, 47, 98, 47, 10, 99, 47, 100, 10])))), (.cst (.string (str [])) (.lit (.string (str []))))]⟩,
      ⟨(some (1, true)), none, .mov (.tmp 2 false) .asg⟩])) [1] []
  (.seq (.reg (.seq [⟨(some (3, false)), none, .mov (.tmp 1 true) .peek⟩,
      ⟨(some (4, false)), none, .lenL (.tmp 3 false)⟩,
      ⟨(some (5, false)), none, .bin .eql (.tmp 4 false) (.cst (.int .i64 4) (.lit (.int .i64 4)))⟩,
      ⟨(some (6, false)), none, .mov (.tmp 5 false) .peek⟩,
      ⟨(some (7, false)), (some (6, true)), .mov (.tmp 1 true) .peek⟩,
      ⟨(some (8, false)), (some (6, true)), .call 38 [(.tmp 7 false), (.cst (.string (str [120, 46, 111])) (.lit (.string (str [120, 46, 111])))), (.cst (.bool false) (.lit (.bool false)))]⟩,
      ⟨(some (9, false)), none, .pick (.tmp 6 false) (.tmp 8 false) (.cst (.bool false) (.lit (.bool false)))⟩,
      ⟨(some (10, false)), none, .mov (.tmp 9 false) .peek⟩,
      ⟨(some (11, false)), (some (10, true)), .mov (.tmp 1 true) .peek⟩,
      ⟨(some (12, false)), (some (10, true)), .call 38 [(.tmp 11 false), (.cst (.string (str [97, 46, 111])) (.lit (.string (str [97, 46, 111])))), (.cst (.bool false) (.lit (.bool false)))]⟩,
      ⟨(some (13, false)), (some (10, true)), .un .not (.tmp 12 false)⟩,
      ⟨(some (14, false)), none, .pick (.tmp 10 false) (.tmp 13 false) (.cst (.bool false) (.lit (.bool false)))⟩,
      ⟨(some (15, false)), none, .mov (.tmp 14 false) .peek⟩,
      ⟨(some (16, false)), (some (15, true)), .mov (.tmp 1 true) .peek⟩,
      ⟨(some (17, false)), (some (15, true)), .call 38 [(.tmp 16 false), (.cst (.string (str [98, 47, 120])) (.lit (.string (str [98, 47, 120])))), (.cst (.bool false) (.lit (.bool false)))]⟩,
      ⟨(some (18, false)), none, .pick (.tmp 15 false) (.tmp 17 false) (.cst (.bool false) (.lit (.bool false)))⟩,
      ⟨(some (19, false)), none, .mov (.tmp 18 false) .peek⟩,
      ⟨(some (20, false)), (some (19, true)), .mov (.tmp 1 true) .peek⟩,
      ⟨(some (21, false)), (some (19, true)), .call 38 [(.tmp 20 false), (.cst (.string (str [121, 47, 98, 47, 120])) (.lit (.string (str [121, 47, 98, 47, 120])))), (.cst (.bool false) (.lit (.bool false)))]⟩,
      ⟨(some (22, false)), (some (19, true)), .un .not (.tmp 21 false)⟩,
      ⟨(some (23, false)), none, .pick (.tmp 19 false) (.tmp 22 false) (.cst (.bool false) (.lit (.bool false)))⟩,
      ⟨(some (24, false)), none, .mov (.tmp 23 false) .peek⟩,
      ⟨(some (25, false)), (some (24, true)), .mov (.tmp 1 true) .peek⟩,
      ⟨(some (26, false)), (some (24, true)), .call 38 [(.tmp 25 false), (.cst (.string (str [99, 47, 100])) (.lit (.string (str [99, 47, 100])))), (.cst (.bool false) (.lit (.bool false)))]⟩,
      ⟨(some (27, false)), none, .pick (.tmp 24 false) (.tmp 26 false) (.cst (.bool false) (.lit (.bool false)))⟩,
      ⟨(some (28, false)), none, .mov (.tmp 27 false) .peek⟩,
      ⟨(some (29, false)), (some (28, true)), .mov (.tmp 1 true) .peek⟩,
      ⟨(some (30, false)), (some (28, true)), .call 38 [(.tmp 29 false), (.cst (.string (str [120, 47, 99, 47, 100])) (.lit (.string (str [120, 47, 99, 47, 100])))), (.cst (.bool false) (.lit (.bool false)))]⟩,
      ⟨(some (31, false)), (some (28, true)), .un .not (.tmp 30 false)⟩,
      ⟨(some (32, false)), none, .pick (.tmp 28 false) (.tmp 31 false) (.cst (.bool false) (.lit (.bool false)))⟩,
      ⟨(some (0, true)), none, .mov (.tmp 32 false) .asg⟩])) [0] []
  (.ret))),
  [.tmp 0]⟩
theorem ilives_comp (m : Int) : compF Tryd.prog (gl m) [] Tryd.f29 = some ilives := by kernel_rfl
theorem ifiles_one (l : List Rule) (q : Bs) (k : Int) (hl : okRules l) (hq : q.length ≤ 1048575) (h : isI l q false = true) : Snd Tryd.prog (gl m) 42 [.sl .frn 5 (fs fR l), .sl .frn 3 [.agg [S q, I k, S []]]] (.sl .own 3 []) := by
  refine snd_of (fn := Tryd.f42) (af := ifiles) Tryd.func42 (ifiles_comp m) mixed (kn_ok m) (Nat.le_of_ble_eq_true rfl) ?_
  simp only [ifiles, go_sem, reduceCtorEq, Nat.reduceEqDiff, reduceIte, Nat.reduceAdd, Nat.reduceSub, Nat.reduceLeDiff, Int.reduceToNat, Nat.reduceBEq]
  refine loop_up 1 (fun i => mkS [(0, .sl .frn 5 (fs fR l)), (1, .sl .frn 3 [.agg [S q, I k, S []]]), (5, .sl .own 3 []), (8, .sl .frn 3 [.agg [S q, I k, S []]]), (9, I 1), (10, N i)] []) rfl ?_
  intro i hi ih
  simp only [ifiles_l0_w, ifiles_l0', go_sem, reduceCtorEq, Nat.reduceEqDiff, reduceIte, Nat.reduceAdd, Nat.reduceSub, Nat.reduceLeDiff, Int.reduceToNat, Nat.reduceBEq]
  repeat ((with_reducible apply And.intro); (case left => first | omega | (simp only [List.length_append, List.length_cons, List.length_nil, List.length_drop, List.length_take, List.length_tail, List.length_dropLast, fs_length, ss_length, bs_length, ns_length]; omega)))
  by_cases h0 : i = 0
  · subst h0
    simp only [ilt_t (show ((0 : Nat) : Int) < 1 by omega), Int.toNat_natCast, go_sem, reduceCtorEq, Nat.reduceEqDiff, reduceIte, Nat.reduceAdd, Nat.reduceSub, Nat.reduceLeDiff, Int.reduceToNat, Nat.reduceBEq]
    repeat ((with_reducible apply And.intro); (case left => first | omega | (simp only [List.length_append, List.length_cons, List.length_nil, List.length_drop, List.length_take, List.length_tail, List.length_dropLast, fs_length, ss_length, bs_length, ns_length]; omega)))
    repeat ((with_reducible apply And.intro); (case left => first | omega | (simp only [List.length_append, List.length_cons, List.length_nil, List.length_drop, List.length_take, List.length_tail, List.length_dropLast, fs_length, ss_length, bs_length, ns_length]; omega)))
    refine of_call (is_snd l q false hl hq) ?_
    simp only [go_sem, reduceCtorEq, Nat.reduceEqDiff, reduceIte, Nat.reduceAdd, Nat.reduceSub, Nat.reduceLeDiff, Int.reduceToNat, Nat.reduceBEq]
    repeat ((with_reducible apply And.intro); (case left => first | omega | (simp only [List.length_append, List.length_cons, List.length_nil, List.length_drop, List.length_take, List.length_tail, List.length_dropLast, fs_length, ss_length, bs_length, ns_length]; omega)))
    rw [h]
    simp only [unVal, go_sem, reduceCtorEq, Nat.reduceEqDiff, reduceIte, Nat.reduceAdd, Nat.reduceSub, Nat.reduceLeDiff, Int.reduceToNat, Nat.reduceBEq]
    repeat ((with_reducible apply And.intro); (case left => first | omega | (simp only [List.length_append, List.length_cons, List.length_nil, List.length_drop, List.length_take, List.length_tail, List.length_dropLast, fs_length, ss_length, bs_length, ns_length]; omega)))
    exact ih (by omega)
  · obtain rfl : i = 1 := by omega
    simp only [ilt_f (show ¬ ((1 : Nat) : Int) < 1 by omega), ifiles_k1_w, ifiles_k1', go_sem, reduceCtorEq, Nat.reduceEqDiff, reduceIte, Nat.reduceAdd, Nat.reduceSub, Nat.reduceLeDiff, Int.reduceToNat, Nat.reduceBEq]
    try rfl
/-! the examples -/
def exI : List Rule := [([42, 46, 111], [], false, false, false), ([97, 46, 111], [], true, false, false), ([98], [], false, true, true), ([99, 47, 100], [], false, false, true)]
theorem exI_parse : parseI [42, 46, 111, 10, 33, 97, 46, 111, 10, 47, 98, 47, 10, 99, 47, 100, 10] [] = exI := by decide +kernel
theorem exI_ok : okRules exI := ⟨by decide, by decide⟩
theorem ilives_snd : Snd Tryd.prog (gl m) 29 [] (B true) := by
  refine snd_of (fn := Tryd.f29) (af := ilives) Tryd.func29 (ilives_comp m) mixed (kn_ok m) (Nat.le_of_ble_eq_true rfl) ?_
  simp only [ilives, go_sem, reduceCtorEq, Nat.reduceEqDiff, reduceIte, Nat.reduceAdd, Nat.reduceSub, Nat.reduceLeDiff, Int.reduceToNat, Nat.reduceBEq]
  refine of_call (iparse_snd [42, 46, 111, 10, 33, 97, 46, 111, 10, 47, 98, 47, 10, 99, 47, 100, 10] [] (by decide) (by decide)) ?_
  rw [exI_parse]
  simp only [eq_t (show ((exI.length : Nat) : Int) = 4 from rfl), go_sem, reduceCtorEq, Nat.reduceEqDiff, reduceIte, Nat.reduceAdd, Nat.reduceSub, Nat.reduceLeDiff, Int.reduceToNat, Nat.reduceBEq]
  refine of_call (is_snd exI [120, 46, 111] false exI_ok (by decide)) ?_
  rw [show isI exI [120, 46, 111] false = true by decide +kernel]
  simp only [go_sem, reduceCtorEq, Nat.reduceEqDiff, reduceIte, Nat.reduceAdd, Nat.reduceSub, Nat.reduceLeDiff, Int.reduceToNat, Nat.reduceBEq]
  repeat ((with_reducible apply And.intro); (case left => first | omega | (simp only [List.length_append, List.length_cons, List.length_nil, List.length_drop, List.length_take, List.length_tail, List.length_dropLast, fs_length, ss_length, bs_length, ns_length]; omega)))
  refine of_call (is_snd exI [97, 46, 111] false exI_ok (by decide)) ?_
  rw [show isI exI [97, 46, 111] false = false by decide +kernel]
  simp only [unVal, Bool.not_false, go_sem, reduceCtorEq, Nat.reduceEqDiff, reduceIte, Nat.reduceAdd, Nat.reduceSub, Nat.reduceLeDiff, Int.reduceToNat, Nat.reduceBEq]
  repeat ((with_reducible apply And.intro); (case left => first | omega | (simp only [List.length_append, List.length_cons, List.length_nil, List.length_drop, List.length_take, List.length_tail, List.length_dropLast, fs_length, ss_length, bs_length, ns_length]; omega)))
  refine of_call (is_snd exI [98, 47, 120] false exI_ok (by decide)) ?_
  rw [show isI exI [98, 47, 120] false = true by decide +kernel]
  simp only [go_sem, reduceCtorEq, Nat.reduceEqDiff, reduceIte, Nat.reduceAdd, Nat.reduceSub, Nat.reduceLeDiff, Int.reduceToNat, Nat.reduceBEq]
  repeat ((with_reducible apply And.intro); (case left => first | omega | (simp only [List.length_append, List.length_cons, List.length_nil, List.length_drop, List.length_take, List.length_tail, List.length_dropLast, fs_length, ss_length, bs_length, ns_length]; omega)))
  refine of_call (is_snd exI [121, 47, 98, 47, 120] false exI_ok (by decide)) ?_
  rw [show isI exI [121, 47, 98, 47, 120] false = false by decide +kernel]
  simp only [unVal, Bool.not_false, go_sem, reduceCtorEq, Nat.reduceEqDiff, reduceIte, Nat.reduceAdd, Nat.reduceSub, Nat.reduceLeDiff, Int.reduceToNat, Nat.reduceBEq]
  repeat ((with_reducible apply And.intro); (case left => first | omega | (simp only [List.length_append, List.length_cons, List.length_nil, List.length_drop, List.length_take, List.length_tail, List.length_dropLast, fs_length, ss_length, bs_length, ns_length]; omega)))
  refine of_call (is_snd exI [99, 47, 100] false exI_ok (by decide)) ?_
  rw [show isI exI [99, 47, 100] false = true by decide +kernel]
  simp only [go_sem, reduceCtorEq, Nat.reduceEqDiff, reduceIte, Nat.reduceAdd, Nat.reduceSub, Nat.reduceLeDiff, Int.reduceToNat, Nat.reduceBEq]
  repeat ((with_reducible apply And.intro); (case left => first | omega | (simp only [List.length_append, List.length_cons, List.length_nil, List.length_drop, List.length_take, List.length_tail, List.length_dropLast, fs_length, ss_length, bs_length, ns_length]; omega)))
  refine of_call (is_snd exI [120, 47, 99, 47, 100] false exI_ok (by decide)) ?_
  rw [show isI exI [120, 47, 99, 47, 100] false = false by decide +kernel]
  simp only [unVal, Bool.not_false, go_sem, reduceCtorEq, Nat.reduceEqDiff, reduceIte, Nat.reduceAdd, Nat.reduceSub, Nat.reduceLeDiff, Int.reduceToNat, Nat.reduceBEq]
  repeat ((with_reducible apply And.intro); (case left => first | omega | (simp only [List.length_append, List.length_cons, List.length_nil, List.length_drop, List.length_take, List.length_tail, List.length_dropLast, fs_length, ss_length, bs_length, ns_length]; omega)))
  try rfl
end Go.At
/- Ignore: the laws' own functions. -/
namespace Go.At
open Go Go.Ev Go.Proofs
open Go.Ln (u8b_t u8b_f lines lines_len line_len lf crlf binary idx idx_eq unfeed unfeed_len)
open Go.Gb (isPath isPat matchF pieces pieces_ne pieces_len piece_len parts pis_snd ris_snd rparts_snd)
set_option linter.unusedVariables false
set_option linter.unusedSimpArgs false
attribute [local go_sem] eqs implies_true List.map_cons List.map_nil kl klL roD roL Option.map_some Option.map_none Option.getD_some Option.getD_none binVal binObl unVal if_true if_false eq_self passA frnD resD content getH getR getW viaNot viaSlot viaBox viaDeep viaMem List.contains_cons List.contains_nil grabs peeks okCells isCell place cellsOf chunk elt List.headD_cons List.length_cons List.length_nil List.take_succ_cons List.take_zero List.drop_succ_cons List.drop_zero List.nil_append List.cons_append List.append_nil List.all_cons List.all_nil plainC takeR setW over reCell List.getElem?_cons_zero List.getElem?_cons_succ List.set_cons_zero List.take_length outV resG plainV pack outVG outBx List.set_cons_succ Ref.idx Ref.addOff beq_self_eq_true bxL Option.bind_some writeR isLit viaBoxes capsPA boxPA nsOf noDup boxesAt argG passG passD rhoIn rhoOut idxIn tr trL List.getD_cons_zero gives pasOf isPtr Ins.d List.getD_cons_succ resL frnL List.getLast?_nil frnL_fs roL_fs resL_fs passL_fs klL_fs trL_fs map_roD_fs fs_length ruleT
variable {m : Int}
def lwBelow : AF := ⟨.seq (.reg (.seq [⟨(some (1, true)), none, .box (.tmp 0 true)⟩,
      ⟨(some (2, true)), none, .mov (.cst (.bool false) (.lit (.bool false))) .asg⟩])) [1] [1]
  (.seq (.reg (.seq [⟨(some (4, false)), none, .fad (.tmp 1 true) 1⟩,
      ⟨(some (5, false)), none, .load (.tmp 4 false) 1 false false⟩,
      ⟨(some (6, false)), none, .bin .add (.tmp 5 false) (.cst (.string (str [47])) (.lit (.string (str [47]))))⟩,
      ⟨(some (7, false)), none, .fad (.tmp 1 true) 2⟩,
      ⟨(some (8, false)), none, .load (.tmp 7 false) 1 false false⟩,
      ⟨(some (9, false)), none, .bin .add (.tmp 6 false) (.tmp 8 false)⟩,
      ⟨(some (3, true)), none, .mov (.tmp 9 false) .asg⟩])) [1, 3] [1]
  (.seq (.seq (.reg (.seq [⟨(some (10, false)), none, .fad (.tmp 1 true) 0⟩,
      ⟨(some (11, false)), none, .load (.tmp 10 false) 1 false false⟩,
      ⟨(some (12, false)), none, .lenL (.tmp 11 false)⟩,
      ⟨(some (13, false)), none, .bin .gtr (.tmp 12 false) (.cst (.int .i64 12) (.lit (.int .i64 12)))⟩,
      ⟨(some (14, false)), none, .mov (.tmp 13 false) .peek⟩,
      ⟨(some (15, false)), (some (14, false)), .mov (.tmp 3 true) .peek⟩,
      ⟨(some (16, false)), (some (14, false)), .len (.tmp 15 false)⟩,
      ⟨(some (17, false)), (some (14, false)), .bin .gtr (.tmp 16 false) (.cst (.int .i64 200) (.lit (.int .i64 200)))⟩,
      ⟨(some (18, false)), none, .pick (.tmp 14 false) (.cst (.bool true) (.lit (.bool true))) (.tmp 17 false)⟩,
      ⟨(some (19, false)), none, .mov (.tmp 18 false) .peek⟩,
      ⟨(some (20, false)), (some (19, false)), .mov (.tmp 3 true) .peek⟩,
      ⟨(some (21, false)), (some (19, false)), .call 14 [(.tmp 20 false)]⟩,
      ⟨(some (22, false)), (some (19, false)), .un .not (.tmp 21 false)⟩,
      ⟨(some (23, false)), none, .pick (.tmp 19 false) (.cst (.bool true) (.lit (.bool true))) (.tmp 22 false)⟩,
      ⟨(some (24, false)), none, .mov (.tmp 23 false) .peek⟩,
      ⟨(some (25, false)), (some (24, false)), .fad (.tmp 1 true) 0⟩,
      ⟨(some (26, false)), (some (24, false)), .load (.tmp 25 false) 1 false false⟩,
      ⟨(some (27, false)), (some (24, false)), .fad (.tmp 1 true) 1⟩,
      ⟨(some (28, false)), (some (24, false)), .load (.tmp 27 false) 1 false false⟩,
      ⟨(some (29, false)), (some (24, false)), .call 38 [(.tmp 26 false), (.tmp 28 false), (.cst (.bool true) (.lit (.bool true)))]⟩,
      ⟨(some (30, false)), (some (24, false)), .un .not (.tmp 29 false)⟩,
      ⟨(some (31, false)), none, .pick (.tmp 24 false) (.cst (.bool true) (.lit (.bool true))) (.tmp 30 false)⟩])) [1, 3, 31] [1]
  (.cond (.tmp 31 false)
    (.seq (.reg (.seq [⟨(some (32, false)), none, .call 29 []⟩,
      ⟨(some (2, true)), none, .mov (.tmp 32 false) .asg⟩])) [2] []
    (.ret))
    (.skip))) [1, 3] [1]
  (.seq (.reg (.seq [⟨(some (33, false)), none, .fad (.tmp 1 true) 0⟩,
      ⟨(some (34, false)), none, .load (.tmp 33 false) 1 false false⟩,
      ⟨(some (35, false)), none, .mov (.tmp 3 true) .peek⟩,
      ⟨(some (36, false)), none, .fad (.tmp 1 true) 3⟩,
      ⟨(some (37, false)), none, .load (.tmp 36 false) 1 false false⟩,
      ⟨(some (38, false)), none, .call 38 [(.tmp 34 false), (.tmp 35 false), (.tmp 37 false)]⟩,
      ⟨(some (39, false)), none, .mov (.tmp 38 false) .peek⟩,
      ⟨(some (40, false)), (some (39, true)), .fad (.tmp 1 true) 0⟩,
      ⟨(some (41, false)), (some (39, true)), .load (.tmp 40 false) 1 false false⟩,
      ⟨(some (42, false)), (some (39, true)), .mov (.tmp 3 true) .take⟩,
      ⟨(some (43, false)), (some (39, true)), .build [(.lit (.string (str []))), (.lit (.int .i64 0)), (.lit (.string (str [])))] [(0, 1, (.tmp 42 false)), (1, 1, (.cst (.int .i64 1) (.lit (.int .i64 1))))]⟩,
      ⟨(some (44, false)), (some (39, true)), .buildS 3 1 [(.lit (.string (str []))), (.lit (.int .i64 0)), (.lit (.string (str [])))] [(0, 3, (.tmp 43 false))]⟩,
      ⟨(some (45, false)), (some (39, true)), .call 42 [(.tmp 41 false), (.tmp 44 false)]⟩,
      ⟨(some (46, false)), (some (39, true)), .lenL (.tmp 45 false)⟩,
      ⟨(some (47, false)), (some (39, true)), .bin .eql (.tmp 46 false) (.cst (.int .i64 0) (.lit (.int .i64 0)))⟩,
      ⟨(some (48, false)), none, .pick (.tmp 39 false) (.tmp 47 false) (.cst (.bool false) (.lit (.bool false)))⟩,
      ⟨(some (49, false)), none, .mov (.tmp 48 false) .peek⟩,
      ⟨(some (50, false)), (some (49, true)), .call 29 []⟩,
      ⟨(some (51, false)), none, .pick (.tmp 49 false) (.tmp 50 false) (.cst (.bool false) (.lit (.bool false)))⟩,
      ⟨(some (2, true)), none, .mov (.tmp 51 false) .asg⟩])) [2] []
  (.ret)))),
  [.tmp 2]⟩
theorem lwBelow_comp (m : Int) : compF Tryd.prog (gl m) [] Tryd.f12 = some lwBelow := by kernel_rfl
theorem lwBelow_snd (l : List Rule) (p r : Bs) (f : Bool) (hl : okRules l) (hp : p.length + r.length ≤ 1048573) : Snd Tryd.prog (gl m) 12 [.agg [.sl .frn 5 (fs fR l), S p, S r, B f]] (B true) := by
  refine snd_of (fn := Tryd.f12) (af := lwBelow) Tryd.func12 (lwBelow_comp m) mixed (kn_ok m) (Nat.le_of_ble_eq_true rfl) ?_
  simp only [lwBelow, go_sem, reduceCtorEq, Nat.reduceEqDiff, reduceIte, Nat.reduceAdd, Nat.reduceSub, Nat.reduceLeDiff, Int.reduceToNat, Nat.reduceBEq]
  have hll := hl.1
  have ea : p ++ [47] ++ r = p ++ 47 :: r := by simp
  have hq : (p ++ 47 :: r).length ≤ 1048575 := by simp only [List.length_append, List.length_cons]; omega
  by_cases h1 : 12 < l.length
  · simp only [ea, igt_t (show (12 : Int) < (l.length : Int) by omega), go_sem, reduceCtorEq, Nat.reduceEqDiff, reduceIte, Nat.reduceAdd, Nat.reduceSub, Nat.reduceLeDiff, Int.reduceToNat, Nat.reduceBEq]
    repeat ((with_reducible apply And.intro); (case left => first | omega | (simp only [List.length_append, List.length_cons, List.length_nil, List.length_drop, List.length_take, List.length_tail, List.length_dropLast, fs_length, ss_length, bs_length, ns_length]; omega)))
    repeat ((with_reducible apply And.intro); (case left => first | omega | (simp only [List.length_append, List.length_cons, List.length_nil, List.length_drop, List.length_take, List.length_tail, List.length_dropLast, fs_length, ss_length, bs_length, ns_length]; omega)))
    refine of_call (ilives_snd) ?_
    simp only [go_sem, reduceCtorEq, Nat.reduceEqDiff, reduceIte, Nat.reduceAdd, Nat.reduceSub, Nat.reduceLeDiff, Int.reduceToNat, Nat.reduceBEq]
    repeat ((with_reducible apply And.intro); (case left => first | omega | (simp only [List.length_append, List.length_cons, List.length_nil, List.length_drop, List.length_take, List.length_tail, List.length_dropLast, fs_length, ss_length, bs_length, ns_length]; omega)))
    try rfl
  have key : isI l p true = true → isPath (p ++ 47 :: r) = true → ∀ f, isI l (p ++ 47 :: r) f = true := fun a b f => isI_below b a
  simp only [igt_f (show ¬ (12 : Int) < (l.length : Int) by omega), go_sem, reduceCtorEq, Nat.reduceEqDiff, reduceIte, Nat.reduceAdd, Nat.reduceSub, Nat.reduceLeDiff, Int.reduceToNat, Nat.reduceBEq]
  repeat ((with_reducible apply And.intro); (case left => first | omega | (simp only [List.length_append, List.length_cons, List.length_nil, List.length_drop, List.length_take, List.length_tail, List.length_dropLast, fs_length, ss_length, bs_length, ns_length]; omega)))
  rw [ea]
  generalize p ++ 47 :: r = q at hq key ⊢
  by_cases h2 : 200 < q.length
  · simp only [igt_t (show (200 : Int) < (q.length : Int) by omega), go_sem, reduceCtorEq, Nat.reduceEqDiff, reduceIte, Nat.reduceAdd, Nat.reduceSub, Nat.reduceLeDiff, Int.reduceToNat, Nat.reduceBEq]
    repeat ((with_reducible apply And.intro); (case left => first | omega | (simp only [List.length_append, List.length_cons, List.length_nil, List.length_drop, List.length_take, List.length_tail, List.length_dropLast, fs_length, ss_length, bs_length, ns_length]; omega)))
    repeat ((with_reducible apply And.intro); (case left => first | omega | (simp only [List.length_append, List.length_cons, List.length_nil, List.length_drop, List.length_take, List.length_tail, List.length_dropLast, fs_length, ss_length, bs_length, ns_length]; omega)))
    refine of_call (ilives_snd) ?_
    simp only [go_sem, reduceCtorEq, Nat.reduceEqDiff, reduceIte, Nat.reduceAdd, Nat.reduceSub, Nat.reduceLeDiff, Int.reduceToNat, Nat.reduceBEq]
    repeat ((with_reducible apply And.intro); (case left => first | omega | (simp only [List.length_append, List.length_cons, List.length_nil, List.length_drop, List.length_take, List.length_tail, List.length_dropLast, fs_length, ss_length, bs_length, ns_length]; omega)))
    try rfl
  simp only [igt_f (show ¬ (200 : Int) < (q.length : Int) by omega), go_sem, reduceCtorEq, Nat.reduceEqDiff, reduceIte, Nat.reduceAdd, Nat.reduceSub, Nat.reduceLeDiff, Int.reduceToNat, Nat.reduceBEq]
  repeat ((with_reducible apply And.intro); (case left => first | omega | (simp only [List.length_append, List.length_cons, List.length_nil, List.length_drop, List.length_take, List.length_tail, List.length_dropLast, fs_length, ss_length, bs_length, ns_length]; omega)))
  repeat ((with_reducible apply And.intro); (case left => first | omega | (simp only [List.length_append, List.length_cons, List.length_nil, List.length_drop, List.length_take, List.length_tail, List.length_dropLast, fs_length, ss_length, bs_length, ns_length]; omega)))
  refine of_call (ris_snd q hq) ?_
  simp only [go_sem, reduceCtorEq, Nat.reduceEqDiff, reduceIte, Nat.reduceAdd, Nat.reduceSub, Nat.reduceLeDiff, Int.reduceToNat, Nat.reduceBEq]
  repeat ((with_reducible apply And.intro); (case left => first | omega | (simp only [List.length_append, List.length_cons, List.length_nil, List.length_drop, List.length_take, List.length_tail, List.length_dropLast, fs_length, ss_length, bs_length, ns_length]; omega)))
  cases h3 : isPath q with
  | false =>
    simp only [unVal, Bool.not_false, go_sem, reduceCtorEq, Nat.reduceEqDiff, reduceIte, Nat.reduceAdd, Nat.reduceSub, Nat.reduceLeDiff, Int.reduceToNat, Nat.reduceBEq]
    repeat ((with_reducible apply And.intro); (case left => first | omega | (simp only [List.length_append, List.length_cons, List.length_nil, List.length_drop, List.length_take, List.length_tail, List.length_dropLast, fs_length, ss_length, bs_length, ns_length]; omega)))
    repeat ((with_reducible apply And.intro); (case left => first | omega | (simp only [List.length_append, List.length_cons, List.length_nil, List.length_drop, List.length_take, List.length_tail, List.length_dropLast, fs_length, ss_length, bs_length, ns_length]; omega)))
    refine of_call (ilives_snd) ?_
    simp only [go_sem, reduceCtorEq, Nat.reduceEqDiff, reduceIte, Nat.reduceAdd, Nat.reduceSub, Nat.reduceLeDiff, Int.reduceToNat, Nat.reduceBEq]
    repeat ((with_reducible apply And.intro); (case left => first | omega | (simp only [List.length_append, List.length_cons, List.length_nil, List.length_drop, List.length_take, List.length_tail, List.length_dropLast, fs_length, ss_length, bs_length, ns_length]; omega)))
    try rfl
  | true =>
    simp only [unVal, Bool.not_true, go_sem, reduceCtorEq, Nat.reduceEqDiff, reduceIte, Nat.reduceAdd, Nat.reduceSub, Nat.reduceLeDiff, Int.reduceToNat, Nat.reduceBEq]
    repeat ((with_reducible apply And.intro); (case left => first | omega | (simp only [List.length_append, List.length_cons, List.length_nil, List.length_drop, List.length_take, List.length_tail, List.length_dropLast, fs_length, ss_length, bs_length, ns_length]; omega)))
    repeat ((with_reducible apply And.intro); (case left => first | omega | (simp only [List.length_append, List.length_cons, List.length_nil, List.length_drop, List.length_take, List.length_tail, List.length_dropLast, fs_length, ss_length, bs_length, ns_length]; omega)))
    refine of_call (is_snd l p true hl (by omega)) ?_
    simp only [go_sem, reduceCtorEq, Nat.reduceEqDiff, reduceIte, Nat.reduceAdd, Nat.reduceSub, Nat.reduceLeDiff, Int.reduceToNat, Nat.reduceBEq]
    repeat ((with_reducible apply And.intro); (case left => first | omega | (simp only [List.length_append, List.length_cons, List.length_nil, List.length_drop, List.length_take, List.length_tail, List.length_dropLast, fs_length, ss_length, bs_length, ns_length]; omega)))
    cases h4 : isI l p true with
    | false =>
      simp only [unVal, Bool.not_false, go_sem, reduceCtorEq, Nat.reduceEqDiff, reduceIte, Nat.reduceAdd, Nat.reduceSub, Nat.reduceLeDiff, Int.reduceToNat, Nat.reduceBEq]
      repeat ((with_reducible apply And.intro); (case left => first | omega | (simp only [List.length_append, List.length_cons, List.length_nil, List.length_drop, List.length_take, List.length_tail, List.length_dropLast, fs_length, ss_length, bs_length, ns_length]; omega)))
      repeat ((with_reducible apply And.intro); (case left => first | omega | (simp only [List.length_append, List.length_cons, List.length_nil, List.length_drop, List.length_take, List.length_tail, List.length_dropLast, fs_length, ss_length, bs_length, ns_length]; omega)))
      refine of_call (ilives_snd) ?_
      simp only [go_sem, reduceCtorEq, Nat.reduceEqDiff, reduceIte, Nat.reduceAdd, Nat.reduceSub, Nat.reduceLeDiff, Int.reduceToNat, Nat.reduceBEq]
      repeat ((with_reducible apply And.intro); (case left => first | omega | (simp only [List.length_append, List.length_cons, List.length_nil, List.length_drop, List.length_take, List.length_tail, List.length_dropLast, fs_length, ss_length, bs_length, ns_length]; omega)))
      try rfl
    | true =>
      have key := key h4 h3
      simp only [unVal, Bool.not_true, go_sem, reduceCtorEq, Nat.reduceEqDiff, reduceIte, Nat.reduceAdd, Nat.reduceSub, Nat.reduceLeDiff, Int.reduceToNat, Nat.reduceBEq]
      repeat ((with_reducible apply And.intro); (case left => first | omega | (simp only [List.length_append, List.length_cons, List.length_nil, List.length_drop, List.length_take, List.length_tail, List.length_dropLast, fs_length, ss_length, bs_length, ns_length]; omega)))
      repeat ((with_reducible apply And.intro); (case left => first | omega | (simp only [List.length_append, List.length_cons, List.length_nil, List.length_drop, List.length_take, List.length_tail, List.length_dropLast, fs_length, ss_length, bs_length, ns_length]; omega)))
      refine of_call (is_snd l q f hl hq) ?_
      simp only [go_sem, reduceCtorEq, Nat.reduceEqDiff, reduceIte, Nat.reduceAdd, Nat.reduceSub, Nat.reduceLeDiff, Int.reduceToNat, Nat.reduceBEq]
      repeat ((with_reducible apply And.intro); (case left => first | omega | (simp only [List.length_append, List.length_cons, List.length_nil, List.length_drop, List.length_take, List.length_tail, List.length_dropLast, fs_length, ss_length, bs_length, ns_length]; omega)))
      rw [key f]
      simp only [go_sem, reduceCtorEq, Nat.reduceEqDiff, reduceIte, Nat.reduceAdd, Nat.reduceSub, Nat.reduceLeDiff, Int.reduceToNat, Nat.reduceBEq]
      repeat ((with_reducible apply And.intro); (case left => first | omega | (simp only [List.length_append, List.length_cons, List.length_nil, List.length_drop, List.length_take, List.length_tail, List.length_dropLast, fs_length, ss_length, bs_length, ns_length]; omega)))
      repeat ((with_reducible apply And.intro); (case left => first | omega | (simp only [List.length_append, List.length_cons, List.length_nil, List.length_drop, List.length_take, List.length_tail, List.length_dropLast, fs_length, ss_length, bs_length, ns_length]; omega)))
      refine of_call (ifiles_one l q 1 hl hq (key false)) ?_
      simp only [go_sem, reduceCtorEq, Nat.reduceEqDiff, reduceIte, Nat.reduceAdd, Nat.reduceSub, Nat.reduceLeDiff, Int.reduceToNat, Nat.reduceBEq]
      repeat ((with_reducible apply And.intro); (case left => first | omega | (simp only [List.length_append, List.length_cons, List.length_nil, List.length_drop, List.length_take, List.length_tail, List.length_dropLast, fs_length, ss_length, bs_length, ns_length]; omega)))
      simp only [eq_t (show ((0 : Nat) : Int) = 0 from rfl), go_sem, reduceCtorEq, Nat.reduceEqDiff, reduceIte, Nat.reduceAdd, Nat.reduceSub, Nat.reduceLeDiff, Int.reduceToNat, Nat.reduceBEq]
      repeat ((with_reducible apply And.intro); (case left => first | omega | (simp only [List.length_append, List.length_cons, List.length_nil, List.length_drop, List.length_take, List.length_tail, List.length_dropLast, fs_length, ss_length, bs_length, ns_length]; omega)))
      repeat ((with_reducible apply And.intro); (case left => first | omega | (simp only [List.length_append, List.length_cons, List.length_nil, List.length_drop, List.length_take, List.length_tail, List.length_dropLast, fs_length, ss_length, bs_length, ns_length]; omega)))
      refine of_call (ilives_snd) ?_
      simp only [go_sem, reduceCtorEq, Nat.reduceEqDiff, reduceIte, Nat.reduceAdd, Nat.reduceSub, Nat.reduceLeDiff, Int.reduceToNat, Nat.reduceBEq]
      repeat ((with_reducible apply And.intro); (case left => first | omega | (simp only [List.length_append, List.length_cons, List.length_nil, List.length_drop, List.length_take, List.length_tail, List.length_dropLast, fs_length, ss_length, bs_length, ns_length]; omega)))
      try rfl
end Go.At

