import Derived.Test.YtcahaecjjochbaaDoorAtI
set_option linter.unusedVariables false
set_option linter.unusedSimpArgs false
/- Ignore: the reference's Is; sameness; Files; the examples. -/
namespace Go.At
open Go Go.Ev Go.Proofs
open Go.Ln (u8b_t u8b_f lines lines_len line_len lf crlf binary idx idx_eq unfeed unfeed_len)
open Go.Gb (isPath isPat matchF pieces pieces_ne pieces_len piece_len parts pis_snd ris_snd rparts_snd)
set_option linter.unusedVariables false
set_option linter.unusedSimpArgs false
attribute [local go_sem] eqs implies_true List.map_cons List.map_nil kl klL roD roL Option.map_some Option.map_none Option.getD_some Option.getD_none binVal binObl unVal if_true if_false eq_self passA frnD resD content getH getR getW viaNot viaSlot viaBox viaDeep viaMem List.contains_cons List.contains_nil grabs peeks okCells isCell place cellsOf chunk elt List.headD_cons List.length_cons List.length_nil List.take_succ_cons List.take_zero List.drop_succ_cons List.drop_zero List.nil_append List.cons_append List.append_nil List.all_cons List.all_nil plainC takeR setW over reCell List.getElem?_cons_zero List.getElem?_cons_succ List.set_cons_zero List.take_length outV resG plainV pack outVG outBx List.set_cons_succ Ref.idx Ref.addOff beq_self_eq_true bxL Option.bind_some writeR isLit viaBoxes capsPA boxPA nsOf noDup boxesAt argG passG passD rhoIn rhoOut idxIn tr trL List.getD_cons_zero gives pasOf isPtr Ins.d List.getD_cons_succ resL frnL List.getLast?_nil frnL_fs roL_fs resL_fs passL_fs klL_fs trL_fs map_roD_fs fs_length ruleT
variable {m : Int}
def ilives : AF := ⟨.seq (.reg (.seq [⟨(some (0, true)), none, .mov (.cst (.bool false) (.lit (.bool false))) .asg⟩])) [] []
  (.seq (.reg (.seq [⟨(some (2, false)), none, .call 31 [(.cst (.string (str [42, 46, 111, 10, 33, 97, 46, 111, 10, 47, 98, 47, 10, 99, 47, 100, 10])) (.lit (.string (str [42, 46, 111, 10, 33, 97, 46, 111, 10, 47, 98, 47, 10, 99, 47, 100, 10])))), (.cst (.string (str [])) (.lit (.string (str []))))]⟩,
      ⟨(some (1, true)), none, .mov (.tmp 2 false) .asg⟩])) [1] []
  (.seq (.reg (.seq [⟨(some (3, false)), none, .mov (.tmp 1 true) .peek⟩,
      ⟨(some (4, false)), none, .lenL (.tmp 3 false)⟩,
      ⟨(some (5, false)), none, .bin .eql (.tmp 4 false) (.cst (.int .i64 4) (.lit (.int .i64 4)))⟩,
      ⟨(some (6, false)), none, .mov (.tmp 5 false) .peek⟩,
      ⟨(some (7, false)), (some (6, true)), .mov (.tmp 1 true) .peek⟩,
      ⟨(some (8, false)), (some (6, true)), .call 38 [(.tmp 7 false), (.cst (.string (str [120, 46, 111])) (.lit (.string (str [120, 46, 111])))), (.cst (.bool false) (.lit (.bool false)))]⟩,
      ⟨(some (9, false)), none, .pick (.tmp 6 false) (.tmp 8 false) (.cst (.bool false) (.lit (.bool false)))⟩,
      ⟨(some (10, false)), none, .mov (.tmp 9 false) .peek⟩,
      ⟨(some (11, false)), (some (10, true)), .mov (.tmp 1 true) .peek⟩,
      ⟨(some (12, false)), (some (10, true)), .call 38 [(.tmp 11 false), (.cst (.string (str [97, 46, 111])) (.lit (.string (str [97, 46, 111])))), (.cst (.bool false) (.lit (.bool false)))]⟩,
      ⟨(some (13, false)), (some (10, true)), .un .not (.tmp 12 false)⟩,
      ⟨(some (14, false)), none, .pick (.tmp 10 false) (.tmp 13 false) (.cst (.bool false) (.lit (.bool false)))⟩,
      ⟨(some (15, false)), none, .mov (.tmp 14 false) .peek⟩,
      ⟨(some (16, false)), (some (15, true)), .mov (.tmp 1 true) .peek⟩,
      ⟨(some (17, false)), (some (15, true)), .call 38 [(.tmp 16 false), (.cst (.string (str [98, 47, 120])) (.lit (.string (str [98, 47, 120])))), (.cst (.bool false) (.lit (.bool false)))]⟩,
      ⟨(some (18, false)), none, .pick (.tmp 15 false) (.tmp 17 false) (.cst (.bool false) (.lit (.bool false)))⟩,
      ⟨(some (19, false)), none, .mov (.tmp 18 false) .peek⟩,
      ⟨(some (20, false)), (some (19, true)), .mov (.tmp 1 true) .peek⟩,
      ⟨(some (21, false)), (some (19, true)), .call 38 [(.tmp 20 false), (.cst (.string (str [121, 47, 98, 47, 120])) (.lit (.string (str [121, 47, 98, 47, 120])))), (.cst (.bool false) (.lit (.bool false)))]⟩,
      ⟨(some (22, false)), (some (19, true)), .un .not (.tmp 21 false)⟩,
      ⟨(some (23, false)), none, .pick (.tmp 19 false) (.tmp 22 false) (.cst (.bool false) (.lit (.bool false)))⟩,
      ⟨(some (24, false)), none, .mov (.tmp 23 false) .peek⟩,
      ⟨(some (25, false)), (some (24, true)), .mov (.tmp 1 true) .peek⟩,
      ⟨(some (26, false)), (some (24, true)), .call 38 [(.tmp 25 false), (.cst (.string (str [99, 47, 100])) (.lit (.string (str [99, 47, 100])))), (.cst (.bool false) (.lit (.bool false)))]⟩,
      ⟨(some (27, false)), none, .pick (.tmp 24 false) (.tmp 26 false) (.cst (.bool false) (.lit (.bool false)))⟩,
      ⟨(some (28, false)), none, .mov (.tmp 27 false) .peek⟩,
      ⟨(some (29, false)), (some (28, true)), .mov (.tmp 1 true) .peek⟩,
      ⟨(some (30, false)), (some (28, true)), .call 38 [(.tmp 29 false), (.cst (.string (str [120, 47, 99, 47, 100])) (.lit (.string (str [120, 47, 99, 47, 100])))), (.cst (.bool false) (.lit (.bool false)))]⟩,
      ⟨(some (31, false)), (some (28, true)), .un .not (.tmp 30 false)⟩,
      ⟨(some (32, false)), none, .pick (.tmp 28 false) (.tmp 31 false) (.cst (.bool false) (.lit (.bool false)))⟩,
      ⟨(some (0, true)), none, .mov (.tmp 32 false) .asg⟩])) [0] []
  (.ret))),
  [.tmp 0]⟩
theorem ilives_comp (m : Int) : compF Tryd.prog (gl m) [] Tryd.f29 = some ilives := by kernel_rfl
/-! the examples -/
def exI : List Rule := [([42, 46, 111], [], false, false, false), ([97, 46, 111], [], true, false, false), ([98], [], false, true, true), ([99, 47, 100], [], false, false, true)]
theorem exI_parse : parseI [42, 46, 111, 10, 33, 97, 46, 111, 10, 47, 98, 47, 10, 99, 47, 100, 10] [] = exI := by decide +kernel
theorem exI_ok : okRules exI := ⟨by decide, by decide⟩
theorem ilives_snd : Snd Tryd.prog (gl m) 29 [] (B true) := by
  refine snd_of (fn := Tryd.f29) (af := ilives) Tryd.func29 (ilives_comp m) mixed (kn_ok m) (Nat.le_of_ble_eq_true rfl) ?_
  simp only [ilives, go_sem, reduceCtorEq, Nat.reduceEqDiff, reduceIte, Nat.reduceAdd, Nat.reduceSub, Nat.reduceLeDiff, Int.reduceToNat, Nat.reduceBEq]
  refine of_call (iparse_snd [42, 46, 111, 10, 33, 97, 46, 111, 10, 47, 98, 47, 10, 99, 47, 100, 10] [] (by decide) (by decide)) ?_
  rw [exI_parse]
  simp only [eq_t (show ((exI.length : Nat) : Int) = 4 from rfl), go_sem, reduceCtorEq, Nat.reduceEqDiff, reduceIte, Nat.reduceAdd, Nat.reduceSub, Nat.reduceLeDiff, Int.reduceToNat, Nat.reduceBEq]
  refine of_call (is_snd exI [120, 46, 111] false exI_ok (by decide)) ?_
  rw [show isI exI [120, 46, 111] false = true by decide +kernel]
  simp only [go_sem, reduceCtorEq, Nat.reduceEqDiff, reduceIte, Nat.reduceAdd, Nat.reduceSub, Nat.reduceLeDiff, Int.reduceToNat, Nat.reduceBEq]
  repeat ((with_reducible apply And.intro); (case left => first | omega | (simp only [List.length_append, List.length_cons, List.length_nil, List.length_drop, List.length_take, List.length_tail, List.length_dropLast, fs_length, ss_length, bs_length, ns_length]; omega)))
  refine of_call (is_snd exI [97, 46, 111] false exI_ok (by decide)) ?_
  rw [show isI exI [97, 46, 111] false = false by decide +kernel]
  simp only [unVal, Bool.not_false, go_sem, reduceCtorEq, Nat.reduceEqDiff, reduceIte, Nat.reduceAdd, Nat.reduceSub, Nat.reduceLeDiff, Int.reduceToNat, Nat.reduceBEq]
  repeat ((with_reducible apply And.intro); (case left => first | omega | (simp only [List.length_append, List.length_cons, List.length_nil, List.length_drop, List.length_take, List.length_tail, List.length_dropLast, fs_length, ss_length, bs_length, ns_length]; omega)))
  refine of_call (is_snd exI [98, 47, 120] false exI_ok (by decide)) ?_
  rw [show isI exI [98, 47, 120] false = true by decide +kernel]
  simp only [go_sem, reduceCtorEq, Nat.reduceEqDiff, reduceIte, Nat.reduceAdd, Nat.reduceSub, Nat.reduceLeDiff, Int.reduceToNat, Nat.reduceBEq]
  repeat ((with_reducible apply And.intro); (case left => first | omega | (simp only [List.length_append, List.length_cons, List.length_nil, List.length_drop, List.length_take, List.length_tail, List.length_dropLast, fs_length, ss_length, bs_length, ns_length]; omega)))
  refine of_call (is_snd exI [121, 47, 98, 47, 120] false exI_ok (by decide)) ?_
  rw [show isI exI [121, 47, 98, 47, 120] false = false by decide +kernel]
  simp only [unVal, Bool.not_false, go_sem, reduceCtorEq, Nat.reduceEqDiff, reduceIte, Nat.reduceAdd, Nat.reduceSub, Nat.reduceLeDiff, Int.reduceToNat, Nat.reduceBEq]
  repeat ((with_reducible apply And.intro); (case left => first | omega | (simp only [List.length_append, List.length_cons, List.length_nil, List.length_drop, List.length_take, List.length_tail, List.length_dropLast, fs_length, ss_length, bs_length, ns_length]; omega)))
  refine of_call (is_snd exI [99, 47, 100] false exI_ok (by decide)) ?_
  rw [show isI exI [99, 47, 100] false = true by decide +kernel]
  simp only [go_sem, reduceCtorEq, Nat.reduceEqDiff, reduceIte, Nat.reduceAdd, Nat.reduceSub, Nat.reduceLeDiff, Int.reduceToNat, Nat.reduceBEq]
  repeat ((with_reducible apply And.intro); (case left => first | omega | (simp only [List.length_append, List.length_cons, List.length_nil, List.length_drop, List.length_take, List.length_tail, List.length_dropLast, fs_length, ss_length, bs_length, ns_length]; omega)))
  refine of_call (is_snd exI [120, 47, 99, 47, 100] false exI_ok (by decide)) ?_
  rw [show isI exI [120, 47, 99, 47, 100] false = false by decide +kernel]
  simp only [unVal, Bool.not_false, go_sem, reduceCtorEq, Nat.reduceEqDiff, reduceIte, Nat.reduceAdd, Nat.reduceSub, Nat.reduceLeDiff, Int.reduceToNat, Nat.reduceBEq]
  repeat ((with_reducible apply And.intro); (case left => first | omega | (simp only [List.length_append, List.length_cons, List.length_nil, List.length_drop, List.length_take, List.length_tail, List.length_dropLast, fs_length, ss_length, bs_length, ns_length]; omega)))
  try rfl
end Go.At
/- Ignore: the laws' own functions. -/
namespace Go.At
open Go Go.Ev Go.Proofs
open Go.Ln (u8b_t u8b_f lines lines_len line_len lf crlf binary idx idx_eq unfeed unfeed_len)
open Go.Gb (isPath isPat matchF pieces pieces_ne pieces_len piece_len parts pis_snd ris_snd rparts_snd)
set_option linter.unusedVariables false
set_option linter.unusedSimpArgs false
attribute [local go_sem] eqs implies_true List.map_cons List.map_nil kl klL roD roL Option.map_some Option.map_none Option.getD_some Option.getD_none binVal binObl unVal if_true if_false eq_self passA frnD resD content getH getR getW viaNot viaSlot viaBox viaDeep viaMem List.contains_cons List.contains_nil grabs peeks okCells isCell place cellsOf chunk elt List.headD_cons List.length_cons List.length_nil List.take_succ_cons List.take_zero List.drop_succ_cons List.drop_zero List.nil_append List.cons_append List.append_nil List.all_cons List.all_nil plainC takeR setW over reCell List.getElem?_cons_zero List.getElem?_cons_succ List.set_cons_zero List.take_length outV resG plainV pack outVG outBx List.set_cons_succ Ref.idx Ref.addOff beq_self_eq_true bxL Option.bind_some writeR isLit viaBoxes capsPA boxPA nsOf noDup boxesAt argG passG passD rhoIn rhoOut idxIn tr trL List.getD_cons_zero gives pasOf isPtr Ins.d List.getD_cons_succ resL frnL List.getLast?_nil frnL_fs roL_fs resL_fs passL_fs klL_fs trL_fs map_roD_fs fs_length ruleT
variable {m : Int}
def lwElse : AF := ⟨.seq (.reg (.seq [⟨(some (6, true)), none, .mov (.cst (.bool false) (.lit (.bool false))) .asg⟩])) [0, 1, 2] []
  (.seq (.seq (.reg (.seq [⟨(some (8, false)), none, .mov (.tmp 0 true) .peek⟩,
      ⟨(some (9, false)), none, .len (.tmp 8 false)⟩,
      ⟨(some (10, false)), none, .bin .gtr (.tmp 9 false) (.cst (.int .i64 300) (.lit (.int .i64 300)))⟩,
      ⟨(some (11, false)), none, .mov (.tmp 10 false) .peek⟩,
      ⟨(some (12, false)), (some (11, false)), .mov (.tmp 2 true) .peek⟩,
      ⟨(some (13, false)), (some (11, false)), .len (.tmp 12 false)⟩,
      ⟨(some (14, false)), (some (11, false)), .bin .gtr (.tmp 13 false) (.cst (.int .i64 200) (.lit (.int .i64 200)))⟩,
      ⟨(some (15, false)), none, .pick (.tmp 11 false) (.cst (.bool true) (.lit (.bool true))) (.tmp 14 false)⟩,
      ⟨(some (16, false)), none, .mov (.tmp 15 false) .peek⟩,
      ⟨(some (17, false)), (some (16, false)), .mov (.tmp 1 true) .peek⟩,
      ⟨(some (18, false)), (some (16, false)), .mov (.tmp 2 true) .peek⟩,
      ⟨(some (19, false)), (some (16, false)), .call 18 [(.tmp 17 false), (.tmp 18 false)]⟩,
      ⟨(some (20, false)), none, .pick (.tmp 16 false) (.cst (.bool true) (.lit (.bool true))) (.tmp 19 false)⟩])) [0, 1, 2, 20] []
  (.cond (.tmp 20 false)
    (.seq (.reg (.seq [⟨(some (21, false)), none, .call 29 []⟩,
      ⟨(some (6, true)), none, .mov (.tmp 21 false) .asg⟩])) [6] []
    (.ret))
    (.skip))) [0, 1, 2] []
  (.seq (.reg (.seq [⟨(some (22, false)), none, .mov (.tmp 0 true) .peek⟩,
      ⟨(some (23, false)), none, .mov (.tmp 1 true) .peek⟩,
      ⟨(some (24, false)), none, .call 31 [(.tmp 22 false), (.tmp 23 false)]⟩,
      ⟨(some (7, true)), none, .mov (.tmp 24 false) .asg⟩])) [2, 7] []
  (.seq (.reg (.seq [⟨(some (25, false)), none, .mov (.tmp 7 true) .peek⟩,
      ⟨(some (26, false)), none, .mov (.tmp 2 true) .peek⟩,
      ⟨(some (27, false)), none, .call 36 [(.tmp 25 false), (.tmp 26 false), (.cst (.bool true) (.lit (.bool true)))]⟩,
      ⟨(some (28, false)), none, .bin .eql (.tmp 27 false) (.cst (.int .i64 (-1)) (.lit (.int .i64 (-1))))⟩,
      ⟨(some (29, false)), none, .mov (.tmp 28 false) .peek⟩,
      ⟨(some (30, false)), (some (29, true)), .mov (.tmp 7 true) .peek⟩,
      ⟨(some (31, false)), (some (29, true)), .mov (.tmp 2 true) .peek⟩,
      ⟨(some (32, false)), (some (29, true)), .call 38 [(.tmp 30 false), (.tmp 31 false), (.cst (.bool false) (.lit (.bool false)))]⟩,
      ⟨(some (33, false)), (some (29, true)), .un .not (.tmp 32 false)⟩,
      ⟨(some (34, false)), none, .pick (.tmp 29 false) (.tmp 33 false) (.cst (.bool false) (.lit (.bool false)))⟩,
      ⟨(some (35, false)), none, .mov (.tmp 34 false) .peek⟩,
      ⟨(some (36, false)), (some (35, true)), .call 29 []⟩,
      ⟨(some (37, false)), none, .pick (.tmp 35 false) (.tmp 36 false) (.cst (.bool false) (.lit (.bool false)))⟩,
      ⟨(some (6, true)), none, .mov (.tmp 37 false) .asg⟩])) [6] []
  (.ret)))),
  [.tmp 6]⟩
theorem lwElse_comp (m : Int) : compF Tryd.prog (gl m) [] Tryd.f11 = some lwElse := by kernel_rfl
theorem parseI_len (s dir : Bs) : (parseI s dir).length ≤ s.length := by
  unfold parseI; split
  · simp
  · exact Nat.le_trans (List.length_filterMap_le _ _) (lines_len s)
theorem ruleOf_pat (dir s : Bs) : (ruleOf dir s).1.1.length ≤ s.length := by
  rw [r8_eq]
  have h0 := chopS_len s
  generalize chopS s = t at h0 ⊢
  have ht : ∀ (b : Prop) [Decidable b] (x : Bs), (if b then x.tail else x).length ≤ x.length := by
    intro b _ x; split <;> simp
  have hd : ∀ (b : Prop) [Decidable b] (x : Bs), (if b then x.dropLast else x).length ≤ x.length := by
    intro b _ x; split <;> simp
  unfold r8
  split
  · simp
  · simp only [r7, r6, r5, r4, r3]
    refine Nat.le_trans (ht _ _) (Nat.le_trans (hd _ _) (Nat.le_trans (ht _ _) (Nat.le_trans (ht _ _) h0)))
theorem parseI_ok {s dir : Bs} (hs : s.length ≤ 1048575) (hd : dir.length ≤ 1048575) : okRules (parseI s dir) := by
  refine ⟨by have := parseI_len s dir; omega, fun r hr => ⟨?_, by rw [parseI_dir hr]; exact hd⟩⟩
  unfold parseI at hr
  split at hr
  · cases hr
  · obtain ⟨x, hx, he⟩ := List.mem_filterMap.1 hr
    split at he
    · injection he with he
      subst he
      have h1 := ruleOf_pat dir (unfeed x)
      have h2 := unfeed_len x
      have h3 := line_len hx
      omega
    · cases he
theorem lastF_none {p : Bs} {f : Bool} {l : List Rule} (h : ∀ r, r ∈ l → hasI r p f = false) (n : Nat) (hn : n ≤ l.length) : lastF p f l n = -1 := by
  induction n with
  | zero => rfl
  | succ n ih => rw [lastF_step (by omega), h _ (List.getElem_mem _), if_neg (by simp), ih (by omega)]
theorem lwElse_snd (s dir p : Bs) (hs : s.length ≤ 1048575) (hd : dir.length ≤ 1048575) (hp : p.length ≤ 1048575) : Snd Tryd.prog (gl m) 11 [S s, S dir, S p] (B true) := by
  refine snd_of (fn := Tryd.f11) (af := lwElse) Tryd.func11 (lwElse_comp m) mixed (kn_ok m) (Nat.le_of_ble_eq_true rfl) ?_
  simp only [lwElse, go_sem, reduceCtorEq, Nat.reduceEqDiff, reduceIte, Nat.reduceAdd, Nat.reduceSub, Nat.reduceLeDiff, Int.reduceToNat, Nat.reduceBEq]
  by_cases h1 : 300 < s.length
  · simp only [igt_t (show (300 : Int) < (s.length : Int) by omega), go_sem, reduceCtorEq, Nat.reduceEqDiff, reduceIte, Nat.reduceAdd, Nat.reduceSub, Nat.reduceLeDiff, Int.reduceToNat, Nat.reduceBEq]
    repeat ((with_reducible apply And.intro); (case left => first | omega | (simp only [List.length_append, List.length_cons, List.length_nil, List.length_drop, List.length_take, List.length_tail, List.length_dropLast, fs_length, ss_length, bs_length, ns_length]; omega)))
    repeat ((with_reducible apply And.intro); (case left => first | omega | (simp only [List.length_append, List.length_cons, List.length_nil, List.length_drop, List.length_take, List.length_tail, List.length_dropLast, fs_length, ss_length, bs_length, ns_length]; omega)))
    refine of_call (ilives_snd) ?_
    simp only [go_sem, reduceCtorEq, Nat.reduceEqDiff, reduceIte, Nat.reduceAdd, Nat.reduceSub, Nat.reduceLeDiff, Int.reduceToNat, Nat.reduceBEq]
    repeat ((with_reducible apply And.intro); (case left => first | omega | (simp only [List.length_append, List.length_cons, List.length_nil, List.length_drop, List.length_take, List.length_tail, List.length_dropLast, fs_length, ss_length, bs_length, ns_length]; omega)))
    try rfl
  by_cases h2 : 200 < p.length
  · simp only [igt_f (show ¬ (300 : Int) < (s.length : Int) by omega), igt_t (show (200 : Int) < (p.length : Int) by omega), go_sem, reduceCtorEq, Nat.reduceEqDiff, reduceIte, Nat.reduceAdd, Nat.reduceSub, Nat.reduceLeDiff, Int.reduceToNat, Nat.reduceBEq]
    repeat ((with_reducible apply And.intro); (case left => first | omega | (simp only [List.length_append, List.length_cons, List.length_nil, List.length_drop, List.length_take, List.length_tail, List.length_dropLast, fs_length, ss_length, bs_length, ns_length]; omega)))
    repeat ((with_reducible apply And.intro); (case left => first | omega | (simp only [List.length_append, List.length_cons, List.length_nil, List.length_drop, List.length_take, List.length_tail, List.length_dropLast, fs_length, ss_length, bs_length, ns_length]; omega)))
    refine of_call (ilives_snd) ?_
    simp only [go_sem, reduceCtorEq, Nat.reduceEqDiff, reduceIte, Nat.reduceAdd, Nat.reduceSub, Nat.reduceLeDiff, Int.reduceToNat, Nat.reduceBEq]
    repeat ((with_reducible apply And.intro); (case left => first | omega | (simp only [List.length_append, List.length_cons, List.length_nil, List.length_drop, List.length_take, List.length_tail, List.length_dropLast, fs_length, ss_length, bs_length, ns_length]; omega)))
    try rfl
  simp only [igt_f (show ¬ (300 : Int) < (s.length : Int) by omega), igt_f (show ¬ (200 : Int) < (p.length : Int) by omega), go_sem, reduceCtorEq, Nat.reduceEqDiff, reduceIte, Nat.reduceAdd, Nat.reduceSub, Nat.reduceLeDiff, Int.reduceToNat, Nat.reduceBEq]
  repeat ((with_reducible apply And.intro); (case left => first | omega | (simp only [List.length_append, List.length_cons, List.length_nil, List.length_drop, List.length_take, List.length_tail, List.length_dropLast, fs_length, ss_length, bs_length, ns_length]; omega)))
  repeat ((with_reducible apply And.intro); (case left => first | omega | (simp only [List.length_append, List.length_cons, List.length_nil, List.length_drop, List.length_take, List.length_tail, List.length_dropLast, fs_length, ss_length, bs_length, ns_length]; omega)))
  refine of_call (rwithin_snd dir p (by omega) (by omega)) ?_
  simp only [go_sem, reduceCtorEq, Nat.reduceEqDiff, reduceIte, Nat.reduceAdd, Nat.reduceSub, Nat.reduceLeDiff, Int.reduceToNat, Nat.reduceBEq]
  repeat ((with_reducible apply And.intro); (case left => first | omega | (simp only [List.length_append, List.length_cons, List.length_nil, List.length_drop, List.length_take, List.length_tail, List.length_dropLast, fs_length, ss_length, bs_length, ns_length]; omega)))
  cases hw : within dir p with
  | true =>
    simp only [go_sem, reduceCtorEq, Nat.reduceEqDiff, reduceIte, Nat.reduceAdd, Nat.reduceSub, Nat.reduceLeDiff, Int.reduceToNat, Nat.reduceBEq]
    repeat ((with_reducible apply And.intro); (case left => first | omega | (simp only [List.length_append, List.length_cons, List.length_nil, List.length_drop, List.length_take, List.length_tail, List.length_dropLast, fs_length, ss_length, bs_length, ns_length]; omega)))
    repeat ((with_reducible apply And.intro); (case left => first | omega | (simp only [List.length_append, List.length_cons, List.length_nil, List.length_drop, List.length_take, List.length_tail, List.length_dropLast, fs_length, ss_length, bs_length, ns_length]; omega)))
    refine of_call (ilives_snd) ?_
    simp only [go_sem, reduceCtorEq, Nat.reduceEqDiff, reduceIte, Nat.reduceAdd, Nat.reduceSub, Nat.reduceLeDiff, Int.reduceToNat, Nat.reduceBEq]
    repeat ((with_reducible apply And.intro); (case left => first | omega | (simp only [List.length_append, List.length_cons, List.length_nil, List.length_drop, List.length_take, List.length_tail, List.length_dropLast, fs_length, ss_length, bs_length, ns_length]; omega)))
    try rfl
  | false =>
    simp only [go_sem, reduceCtorEq, Nat.reduceEqDiff, reduceIte, Nat.reduceAdd, Nat.reduceSub, Nat.reduceLeDiff, Int.reduceToNat, Nat.reduceBEq]
    repeat ((with_reducible apply And.intro); (case left => first | omega | (simp only [List.length_append, List.length_cons, List.length_nil, List.length_drop, List.length_take, List.length_tail, List.length_dropLast, fs_length, ss_length, bs_length, ns_length]; omega)))
    have hdir : ∀ r, r ∈ parseI s dir → r.2.1 = dir := fun r hr => parseI_dir hr
    have hok := parseI_ok hs hd
    repeat ((with_reducible apply And.intro); (case left => first | omega | (simp only [List.length_append, List.length_cons, List.length_nil, List.length_drop, List.length_take, List.length_tail, List.length_dropLast, fs_length, ss_length, bs_length, ns_length]; omega)))
    refine of_call (iparse_snd s dir hs hd) ?_
    simp only [go_sem, reduceCtorEq, Nat.reduceEqDiff, reduceIte, Nat.reduceAdd, Nat.reduceSub, Nat.reduceLeDiff, Int.reduceToNat, Nat.reduceBEq]
    repeat ((with_reducible apply And.intro); (case left => first | omega | (simp only [List.length_append, List.length_cons, List.length_nil, List.length_drop, List.length_take, List.length_tail, List.length_dropLast, fs_length, ss_length, bs_length, ns_length]; omega)))
    generalize parseI s dir = l at hdir hok ⊢
    have e1 : lastN l p true = -1 := lastF_none (fun r hr => by
      cases hc : hasI r p true with
      | false => rfl
      | true => have := (hasI_path hc).2; rw [hdir r hr, hw] at this; cases this) l.length (Nat.le_refl _)
    have e2 := (elsewhere hdir hw).2
    repeat ((with_reducible apply And.intro); (case left => first | omega | (simp only [List.length_append, List.length_cons, List.length_nil, List.length_drop, List.length_take, List.length_tail, List.length_dropLast, fs_length, ss_length, bs_length, ns_length]; omega)))
    refine of_call (ilast_snd l p true hok hp) ?_
    simp only [go_sem, reduceCtorEq, Nat.reduceEqDiff, reduceIte, Nat.reduceAdd, Nat.reduceSub, Nat.reduceLeDiff, Int.reduceToNat, Nat.reduceBEq]
    repeat ((with_reducible apply And.intro); (case left => first | omega | (simp only [List.length_append, List.length_cons, List.length_nil, List.length_drop, List.length_take, List.length_tail, List.length_dropLast, fs_length, ss_length, bs_length, ns_length]; omega)))
    simp only [e1, eq_t (show (-1 : Int) = -1 from rfl), go_sem, reduceCtorEq, Nat.reduceEqDiff, reduceIte, Nat.reduceAdd, Nat.reduceSub, Nat.reduceLeDiff, Int.reduceToNat, Nat.reduceBEq]
    repeat ((with_reducible apply And.intro); (case left => first | omega | (simp only [List.length_append, List.length_cons, List.length_nil, List.length_drop, List.length_take, List.length_tail, List.length_dropLast, fs_length, ss_length, bs_length, ns_length]; omega)))
    repeat ((with_reducible apply And.intro); (case left => first | omega | (simp only [List.length_append, List.length_cons, List.length_nil, List.length_drop, List.length_take, List.length_tail, List.length_dropLast, fs_length, ss_length, bs_length, ns_length]; omega)))
    refine of_call (is_snd l p false hok hp) ?_
    simp only [go_sem, reduceCtorEq, Nat.reduceEqDiff, reduceIte, Nat.reduceAdd, Nat.reduceSub, Nat.reduceLeDiff, Int.reduceToNat, Nat.reduceBEq]
    repeat ((with_reducible apply And.intro); (case left => first | omega | (simp only [List.length_append, List.length_cons, List.length_nil, List.length_drop, List.length_take, List.length_tail, List.length_dropLast, fs_length, ss_length, bs_length, ns_length]; omega)))
    simp only [e2, unVal, Bool.not_false, go_sem, reduceCtorEq, Nat.reduceEqDiff, reduceIte, Nat.reduceAdd, Nat.reduceSub, Nat.reduceLeDiff, Int.reduceToNat, Nat.reduceBEq]
    repeat ((with_reducible apply And.intro); (case left => first | omega | (simp only [List.length_append, List.length_cons, List.length_nil, List.length_drop, List.length_take, List.length_tail, List.length_dropLast, fs_length, ss_length, bs_length, ns_length]; omega)))
    repeat ((with_reducible apply And.intro); (case left => first | omega | (simp only [List.length_append, List.length_cons, List.length_nil, List.length_drop, List.length_take, List.length_tail, List.length_dropLast, fs_length, ss_length, bs_length, ns_length]; omega)))
    refine of_call (ilives_snd) ?_
    simp only [go_sem, reduceCtorEq, Nat.reduceEqDiff, reduceIte, Nat.reduceAdd, Nat.reduceSub, Nat.reduceLeDiff, Int.reduceToNat, Nat.reduceBEq]
    repeat ((with_reducible apply And.intro); (case left => first | omega | (simp only [List.length_append, List.length_cons, List.length_nil, List.length_drop, List.length_take, List.length_tail, List.length_dropLast, fs_length, ss_length, bs_length, ns_length]; omega)))
    try rfl
end Go.At

