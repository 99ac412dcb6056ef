import Derived.Test.YtfkggoohajdabaaDoorWB
set_option linter.unusedVariables false
set_option linter.unusedSimpArgs false
/- Hunks: the way back. -/
namespace Go.Hk
open Go Go.Ev Go.Proofs
set_option linter.unusedVariables false
set_option linter.unusedSimpArgs false
set_option maxHeartbeats 4000000
attribute [local go_sem] eqs implies_true List.map_cons List.map_nil kl klL roD roL Option.map_some Option.map_none Option.getD_some Option.getD_none binVal binObl unVal if_true if_false eq_self passA frnD resD content getH getR getW viaNot viaSlot viaBox viaDeep viaMem List.contains_cons List.contains_nil grabs peeks okCells isCell place cellsOf chunk elt List.headD_cons List.length_cons List.length_nil List.take_succ_cons List.take_zero List.drop_succ_cons List.drop_zero List.nil_append List.cons_append List.append_nil List.all_cons List.all_nil plainC takeR setW over reCell List.getElem?_cons_zero List.getElem?_cons_succ List.set_cons_zero List.take_length outV resG plainV pack outVG outBx List.set_cons_succ Ref.idx Ref.addOff beq_self_eq_true bxL Option.bind_some writeR isLit viaBoxes capsPA boxPA nsOf noDup boxesAt argG passG passD rhoIn rhoOut idxIn tr trL List.getD_cons_zero gives pasOf isPtr Ins.d List.getD_cons_succ resL frnL partB_f partB_t partB_p partB_s St.setP mixR v_slcT List.getLast?_nil List.getLast?_singleton List.dropLast_singleton List.nil_append frnL_fs roL_fs resL_fs passL_fs klL_fs trL_fs map_roD_fs fs_length hS_length frnL_hS roL_hS_own roL_hS_frn roL_hS_ro resL_hS_own resL_hS_ro klL_hS klL_hS_own klL_hS_frn passL_hS_own passL_hS_frn trL_hS_own trL_hS_frn
variable {m : Int × Bool}
end Go.Hk
namespace Go.Hk
open Go Go.Ev Go.Proofs
set_option linter.unusedVariables false
set_option linter.unusedSimpArgs false
set_option maxHeartbeats 4000000
attribute [local go_sem] eqs implies_true List.map_cons List.map_nil kl klL roD roL Option.map_some Option.map_none Option.getD_some Option.getD_none binVal binObl unVal if_true if_false eq_self passA frnD resD content getH getR getW viaNot viaSlot viaBox viaDeep viaMem List.contains_cons List.contains_nil grabs peeks okCells isCell place cellsOf chunk elt List.headD_cons List.length_cons List.length_nil List.take_succ_cons List.take_zero List.drop_succ_cons List.drop_zero List.nil_append List.cons_append List.append_nil List.all_cons List.all_nil plainC takeR setW over reCell List.getElem?_cons_zero List.getElem?_cons_succ List.set_cons_zero List.take_length outV resG plainV pack outVG outBx List.set_cons_succ Ref.idx Ref.addOff beq_self_eq_true bxL Option.bind_some writeR isLit viaBoxes capsPA boxPA nsOf noDup boxesAt argG passG passD rhoIn rhoOut idxIn tr trL List.getD_cons_zero gives pasOf isPtr Ins.d List.getD_cons_succ resL frnL partB_f partB_t partB_p partB_s St.setP mixR v_slcT List.getLast?_nil List.getLast?_singleton List.dropLast_singleton List.nil_append frnL_fs roL_fs resL_fs passL_fs klL_fs trL_fs map_roD_fs fs_length hS_length frnL_hS roL_hS_own roL_hS_frn roL_hS_ro resL_hS_own resL_hS_ro klL_hS klL_hS_own klL_hS_frn passL_hS_own passL_hS_frn trL_hS_own trL_hS_frn
variable {m : Int × Bool}
def same05_l0' : AC := .seq (.reg (.seq [⟨some (14, false), none, .bin .lss (.tmp 13 true) (.tmp 12 true)⟩])) [0, 1, 12, 13, 14] []
  (.seq (.cond (.tmp 14 false)
    (.skip)
    (.exit 0)) [0, 1, 12, 13] []
  (.seq (.block 1 (.seq (.reg (.seq [⟨some (15, false), none, .mov (.tmp 13 true) .take⟩,⟨some (5, true), none, .mov (.tmp 15 false) .asg⟩])) [0, 1, 5, 12, 13] []
    (.seq (.reg (.draw [⟨some (16, false), none, .mov (.tmp 0 true) .peek⟩,⟨some (17, false), none, .mov (.tmp 5 true) .peek⟩,⟨some (18, false), none, .iad (.tmp 16 false) (.tmp 17 false) 1⟩,⟨some (19, false), none, .load (.tmp 18 false) 1 false false⟩,⟨some (20, false), none, .mov (.tmp 1 true) .peek⟩,⟨some (21, false), none, .mov (.tmp 5 true) .peek⟩,⟨some (22, false), none, .iad (.tmp 20 false) (.tmp 21 false) 1⟩,⟨some (23, false), none, .load (.tmp 22 false) 1 false false⟩,⟨some (24, false), none, .bin .neq (.tmp 19 false) (.tmp 23 false)⟩] .done)) [0, 1, 12, 13, 24] []
    (.cond (.tmp 24 false)
      (.seq (.reg (.seq [⟨some (4, true), none, .mov (.cst (.bool false) (.lit (.bool false))) .asg⟩])) [4] []
      (.ret))
      (.skip))))) [0, 1, 12, 13] []
  (.reg (.seq [⟨some (25, false), none, .bin .add (.tmp 13 true) (.cst (.int .i64 1) (.lit (.int .i64 1)))⟩,⟨some (13, true), none, .mov (.tmp 25 false) .peek⟩]))))
def same05_l0 : AC := same05_l0'
theorem same05_l0_w (C : Kn) (K : Ex → St → Prop) (s : St) : vcC C same05_l0 K s = vcC C same05_l0' K s := nr rfl
def same05_k1' : AC := .seq (.reg (.seq [⟨some (4, true), none, .mov (.cst (.bool true) (.lit (.bool true))) .asg⟩])) [4] []
  (.ret)
def same05_k1 : AC := same05_k1'
theorem same05_k1_w (C : Kn) (K : Ex → St → Prop) (s : St) : vcC C same05_k1 K s = vcC C same05_k1' K s := nr rfl
def same05 : AF := ⟨.seq (.reg (.seq [⟨some (4, true), none, .mov (.cst (.bool false) (.lit (.bool false))) .asg⟩])) [0, 1] []
  (.seq (.seq (.reg (.seq [⟨some (6, false), none, .mov (.tmp 0 true) .peek⟩,⟨some (7, false), none, .lenL (.tmp 6 false)⟩,⟨some (8, false), none, .mov (.tmp 1 true) .peek⟩,⟨some (9, false), none, .lenL (.tmp 8 false)⟩,⟨some (10, false), none, .bin .neq (.tmp 7 false) (.tmp 9 false)⟩])) [0, 1, 10] []
  (.cond (.tmp 10 false)
    (.seq (.reg (.seq [⟨some (4, true), none, .mov (.cst (.bool false) (.lit (.bool false))) .asg⟩])) [4] []
    (.ret))
    (.skip))) [0, 1] []
  (.seq (.seq (.reg (.seq [⟨some (11, false), none, .mov (.tmp 0 true) .peek⟩,⟨some (12, true), none, .lenL (.tmp 11 false)⟩,⟨some (13, true), none, .mov (.cst (.int .i64 0) (.lit (.int .i64 0))) .peek⟩])) [0, 1, 12, 13] []
  (.block 0 (.loop [0, 1, 12, 13] [] same05_l0))) [] [] same05_k1)),
  [.tmp 4]⟩
theorem same05_comp (m : Int × Bool) : compF Tryd.prog (gl m) [] Tryd.f13 = some same05 := by kernel_rfl
def sequal_l0' : AC := .seq (.reg (.seq [⟨some (14, false), none, .bin .lss (.tmp 13 true) (.tmp 12 true)⟩])) [0, 1, 12, 13, 14] []
  (.seq (.cond (.tmp 14 false)
    (.skip)
    (.exit 0)) [0, 1, 12, 13] []
  (.seq (.block 1 (.seq (.reg (.seq [⟨some (15, false), none, .mov (.tmp 13 true) .take⟩,⟨some (5, true), none, .mov (.tmp 15 false) .asg⟩])) [0, 1, 5, 12, 13] []
    (.seq (.reg (.draw [⟨some (16, false), none, .mov (.tmp 0 true) .peek⟩,⟨some (17, false), none, .mov (.tmp 5 true) .peek⟩,⟨some (18, false), none, .iad (.tmp 16 false) (.tmp 17 false) 1⟩,⟨some (19, false), none, .load (.tmp 18 false) 1 false false⟩,⟨some (20, false), none, .mov (.tmp 1 true) .peek⟩,⟨some (21, false), none, .mov (.tmp 5 true) .peek⟩,⟨some (22, false), none, .iad (.tmp 20 false) (.tmp 21 false) 1⟩,⟨some (23, false), none, .load (.tmp 22 false) 1 false false⟩,⟨some (24, false), none, .bin .neq (.tmp 19 false) (.tmp 23 false)⟩] .done)) [0, 1, 12, 13, 24] []
    (.cond (.tmp 24 false)
      (.seq (.reg (.seq [⟨some (4, true), none, .mov (.cst (.bool false) (.lit (.bool false))) .asg⟩])) [4] []
      (.ret))
      (.skip))))) [0, 1, 12, 13] []
  (.reg (.seq [⟨some (25, false), none, .bin .add (.tmp 13 true) (.cst (.int .i64 1) (.lit (.int .i64 1)))⟩,⟨some (13, true), none, .mov (.tmp 25 false) .peek⟩]))))
def sequal_l0 : AC := sequal_l0'
theorem sequal_l0_w (C : Kn) (K : Ex → St → Prop) (s : St) : vcC C sequal_l0 K s = vcC C sequal_l0' K s := nr rfl
def sequal_k1' : AC := .seq (.reg (.seq [⟨some (4, true), none, .mov (.cst (.bool true) (.lit (.bool true))) .asg⟩])) [4] []
  (.ret)
def sequal_k1 : AC := sequal_k1'
theorem sequal_k1_w (C : Kn) (K : Ex → St → Prop) (s : St) : vcC C sequal_k1 K s = vcC C sequal_k1' K s := nr rfl
def sequal : AF := ⟨.seq (.reg (.seq [⟨some (4, true), none, .mov (.cst (.bool false) (.lit (.bool false))) .asg⟩])) [0, 1] []
  (.seq (.seq (.reg (.seq [⟨some (6, false), none, .mov (.tmp 0 true) .peek⟩,⟨some (7, false), none, .lenL (.tmp 6 false)⟩,⟨some (8, false), none, .mov (.tmp 1 true) .peek⟩,⟨some (9, false), none, .lenL (.tmp 8 false)⟩,⟨some (10, false), none, .bin .neq (.tmp 7 false) (.tmp 9 false)⟩])) [0, 1, 10] []
  (.cond (.tmp 10 false)
    (.seq (.reg (.seq [⟨some (4, true), none, .mov (.cst (.bool false) (.lit (.bool false))) .asg⟩])) [4] []
    (.ret))
    (.skip))) [0, 1] []
  (.seq (.seq (.reg (.seq [⟨some (11, false), none, .mov (.tmp 0 true) .peek⟩,⟨some (12, true), none, .lenL (.tmp 11 false)⟩,⟨some (13, true), none, .mov (.cst (.int .i64 0) (.lit (.int .i64 0))) .peek⟩])) [0, 1, 12, 13] []
  (.block 0 (.loop [0, 1, 12, 13] [] sequal_l0))) [] [] sequal_k1)),
  [.tmp 4]⟩
theorem sequal_comp (m : Int × Bool) : compF Tryd.prog (gl m) [] Tryd.f68 = some sequal := by kernel_rfl
def hfew : AF := ⟨.seq (.reg (.seq [⟨some (4, true), none, .mov (.cst (.bool false) (.lit (.bool false))) .asg⟩])) [0, 1] []
  (.seq (.reg (.seq [⟨some (5, false), none, .mov (.tmp 0 true) .peek⟩,⟨some (6, false), none, .lenL (.tmp 5 false)⟩,⟨some (7, false), none, .bin .leq (.tmp 6 false) (.cst (.int .i64 40) (.lit (.int .i64 40)))⟩,⟨some (8, false), none, .mov (.tmp 7 false) .peek⟩,⟨some (9, false), (some (8, true)), .mov (.tmp 1 true) .peek⟩,⟨some (10, false), (some (8, true)), .lenL (.tmp 9 false)⟩,⟨some (11, false), (some (8, true)), .bin .leq (.tmp 10 false) (.cst (.int .i64 40) (.lit (.int .i64 40)))⟩,⟨some (12, false), none, .pick (.tmp 8 false) (.tmp 11 false) (.cst (.bool false) (.lit (.bool false)))⟩,⟨some (4, true), none, .mov (.tmp 12 false) .asg⟩])) [4] []
  (.ret)),
  [.tmp 4]⟩
theorem hfew_comp (m : Int × Bool) : compF Tryd.prog (gl m) [] Tryd.f15 = some hfew := by kernel_rfl
def pside_l0' : AC := .seq (.reg (.seq [⟨some (12, false), none, .bin .lss (.tmp 11 true) (.tmp 10 true)⟩])) [1, 5, 9, 10, 11, 12] []
  (.seq (.cond (.tmp 12 false)
    (.skip)
    (.exit 0)) [1, 5, 9, 10, 11] []
  (.seq (.block 1 (.seq (.reg (.seq [⟨some (13, false), none, .iad (.tmp 9 true) (.tmp 11 true) 2⟩,⟨some (14, false), none, .load (.tmp 13 false) 2 true false⟩,⟨some (7, true), none, .new [(.lit (.int .i64 0)), (.lit (.string (str [])))]⟩,⟨none, none, .store (.tmp 7 true) (.tmp 14 false) 2⟩])) [1, 5, 7, 9, 10, 11] [7]
    (.seq (.reg (.seq [⟨some (15, false), none, .fad (.tmp 7 true) 0⟩,⟨some (16, false), none, .load (.tmp 15 false) 1 false false⟩,⟨some (17, false), none, .mov (.tmp 1 true) .peek⟩,⟨some (18, false), none, .bin .neq (.tmp 16 false) (.tmp 17 false)⟩])) [1, 5, 7, 9, 10, 11, 18] [7]
    (.cond (.tmp 18 false)
      (.reg (.seq [⟨some (19, false), none, .mov (.tmp 5 true) .take⟩,⟨some (20, false), none, .fad (.tmp 7 true) 1⟩,⟨some (21, false), none, .load (.tmp 20 false) 1 false true⟩,⟨some (22, false), none, .buildS 1 1 [(.lit (.string (str [])))] [(0, 1, (.tmp 21 false))]⟩,⟨some (23, false), none, .app 1 16 (.tmp 19 false) (.tmp 22 false)⟩,⟨some (5, true), none, .mov (.tmp 23 false) .asg⟩]))
      (.skip))))) [1, 5, 9, 10, 11] []
  (.reg (.seq [⟨some (24, false), none, .bin .add (.tmp 11 true) (.cst (.int .i64 1) (.lit (.int .i64 1)))⟩,⟨some (11, true), none, .mov (.tmp 24 false) .peek⟩]))))
def pside_l0 : AC := pside_l0'
theorem pside_l0_w (C : Kn) (K : Ex → St → Prop) (s : St) : vcC C pside_l0 K s = vcC C pside_l0' K s := nr rfl
def pside_k1' : AC := .seq (.reg (.seq [⟨some (25, false), none, .mov (.tmp 5 true) .take⟩,⟨some (4, true), none, .mov (.tmp 25 false) .asg⟩])) [4, 5] []
  (.ret)
def pside_k1 : AC := pside_k1'
theorem pside_k1_w (C : Kn) (K : Ex → St → Prop) (s : St) : vcC C pside_k1 K s = vcC C pside_k1' K s := nr rfl
def pside : AF := ⟨.seq (.reg (.seq [⟨some (2, true), none, .box (.tmp 0 true)⟩,⟨some (4, true), none, .mov (.cst (.slice none 0 0) (.sl .own 1 [])) .asg⟩])) [1, 2] [2]
  (.seq (.reg (.seq [⟨some (5, true), none, .mov (.cst (.slice none 0 0) (.sl .own 1 [])) .asg⟩])) [1, 2, 5] [2]
  (.seq (.seq (.reg (.seq [⟨some (8, false), none, .fad (.tmp 2 true) 2⟩,⟨some (9, true), none, .load (.tmp 8 false) 1 false false⟩,⟨some (10, true), none, .lenL (.tmp 9 true)⟩,⟨some (11, true), none, .mov (.cst (.int .i64 0) (.lit (.int .i64 0))) .peek⟩])) [1, 5, 9, 10, 11] []
  (.block 0 (.loop [1, 5, 9, 10, 11] [] pside_l0))) [5] [] pside_k1)),
  [.tmp 4]⟩
theorem pside_comp (m : Int × Bool) : compF Tryd.prog (gl m) [] Tryd.f36 = some pside := by kernel_rfl
theorem sideL_len (l : List HL) (but : Int) : (sideL l but).length ≤ l.length := by rw [sideL, List.length_map]; exact List.length_filter_le _ _
theorem ss_snocH (l : List Bs) (x : Bs) : ss l ++ [S x] = ss (l ++ [x]) := by simp [ss]
theorem take_eq_step {α : Type} {L M : List α} {i : Nat} (h : L.take i = M.take i) (h1 : i < L.length) (h2 : i < M.length) (he : L[i] = M[i]) : L.take (i + 1) = M.take (i + 1) := by
  rw [take_snoc h1, take_snoc h2, h, he]
theorem eq_of_take {α : Type} {L M : List α} (h : L.take L.length = M.take L.length) (hl : L.length = M.length) : L = M := by
  rw [List.take_length, hl, List.take_length] at h; exact h
theorem same05_snd (L M : List Bs) (hl : L.length ≤ 4398046511104) (hm : M.length ≤ 4398046511104) : Snd Tryd.prog (gl m) 13 [.sl .frn 1 (ss L), .sl .frn 1 (ss M)] (B (decide (L = M))) := by
  refine snd_of (fn := Tryd.f13) (af := same05) Tryd.func13 (same05_comp m) mixed (kn_ok m) (Nat.le_of_ble_eq_true rfl) ?_
  simp only [same05, go_sem, reduceCtorEq, Nat.reduceEqDiff, reduceIte, Nat.reduceAdd, Nat.reduceSub, Nat.reduceLeDiff, Int.reduceToNat, Nat.reduceBEq]
  by_cases hlen : L.length = M.length
  · simp only [ne_f (show ((L.length : Nat) : Int) = ((M.length : Nat) : Int) by omega), ss_length, go_sem, reduceCtorEq, Nat.reduceEqDiff, reduceIte, Nat.reduceAdd, Nat.reduceSub, Nat.reduceLeDiff, Int.reduceToNat, Nat.reduceBEq]
    refine loop_inv L.length (fun i => mkS [(0, .sl .frn 1 (ss L)), (1, .sl .frn 1 (ss M)), (12, N L.length), (13, N i)] []) (fun i => L.take i = M.take i) rfl rfl ?_
    intro i hi hI ih
    simp only [same05_l0_w, same05_l0', go_sem, reduceCtorEq, Nat.reduceEqDiff, reduceIte, Nat.reduceAdd, Nat.reduceSub, Nat.reduceLeDiff, Int.reduceToNat, Nat.reduceBEq]
    repeat ((with_reducible apply And.intro); (case left => first | omega | (simp only [List.length_append, List.length_cons, List.length_nil, List.length_drop, List.length_take, List.length_tail, List.length_dropLast, fs_length, ss_length, bs_length, ns_length]; omega)))
    by_cases h : i < L.length
    · have g := ssE L h
      have g2 := ssE M (show i < M.length by omega)
      have q1 : IntKind.i64.wrap ((i : Int) + 1) = ((i + 1 : Nat) : Int) := wrapN _ (by omega) (by omega)
      have h2 : i < M.length := by omega
      have hst : L[i] = M[i] → L.take (i + 1) = M.take (i + 1) := fun he => take_eq_step hI h h2 he
      have hne : L[i] ≠ M[i] → L ≠ M := fun hn e => hn (by subst e; rfl)
      generalize L[i] = x at g hst hne
      generalize M[i] = y at g2 hst hne
      simp only [lt_t h, g, g2, Int.toNat_natCast, go_sem, reduceCtorEq, Nat.reduceEqDiff, reduceIte, Nat.reduceAdd, Nat.reduceSub, Nat.reduceLeDiff, Int.reduceToNat, Nat.reduceBEq]
      repeat ((with_reducible apply And.intro); (case left => first | omega | (simp only [List.length_append, List.length_cons, List.length_nil, List.length_drop, List.length_take, List.length_tail, List.length_dropLast, fs_length, ss_length, bs_length, ns_length]; omega)))
      by_cases he : x = y
      · subst he
        simp only [beq_self_eq_true, Bool.not_true, q1, go_sem, reduceCtorEq, Nat.reduceEqDiff, reduceIte, Nat.reduceAdd, Nat.reduceSub, Nat.reduceLeDiff, Int.reduceToNat, Nat.reduceBEq]
        exact ih h (hst rfl)
      · rw [decide_eq_false (hne he)]
        simp only [beq_false_of_ne he, Bool.not_false, go_sem, reduceCtorEq, Nat.reduceEqDiff, reduceIte, Nat.reduceAdd, Nat.reduceSub, Nat.reduceLeDiff, Int.reduceToNat, Nat.reduceBEq]
        first | rfl | omega | trace_state
    · obtain rfl : i = L.length := by omega
      rw [decide_eq_true (eq_of_take hI hlen)]
      simp only [lt_f h, same05_k1_w, same05_k1', go_sem, reduceCtorEq, Nat.reduceEqDiff, reduceIte, Nat.reduceAdd, Nat.reduceSub, Nat.reduceLeDiff, Int.reduceToNat, Nat.reduceBEq]
      first | rfl | omega | trace_state
  · have hne : L ≠ M := fun e => hlen (by rw [e])
    rw [decide_eq_false hne]
    simp only [ne_t (show ((L.length : Nat) : Int) ≠ ((M.length : Nat) : Int) by omega), ss_length, go_sem, reduceCtorEq, Nat.reduceEqDiff, reduceIte, Nat.reduceAdd, Nat.reduceSub, Nat.reduceLeDiff, Int.reduceToNat, Nat.reduceBEq]
    first | rfl | omega | trace_state
theorem sequal_snd (L M : List Bs) (hl : L.length ≤ 1048576) (hm : M.length ≤ 1048576) : Snd Tryd.prog (gl m) 68 [.sl .frn 1 (ss L), .sl .frn 1 (ss M)] (B (decide (L = M))) := by
  refine snd_of (fn := Tryd.f68) (af := sequal) Tryd.func68 (sequal_comp m) mixed (kn_ok m) (Nat.le_of_ble_eq_true rfl) ?_
  simp only [sequal, go_sem, reduceCtorEq, Nat.reduceEqDiff, reduceIte, Nat.reduceAdd, Nat.reduceSub, Nat.reduceLeDiff, Int.reduceToNat, Nat.reduceBEq]
  by_cases hlen : L.length = M.length
  · simp only [ne_f (show ((L.length : Nat) : Int) = ((M.length : Nat) : Int) by omega), ss_length, go_sem, reduceCtorEq, Nat.reduceEqDiff, reduceIte, Nat.reduceAdd, Nat.reduceSub, Nat.reduceLeDiff, Int.reduceToNat, Nat.reduceBEq]
    refine loop_inv L.length (fun i => mkS [(0, .sl .frn 1 (ss L)), (1, .sl .frn 1 (ss M)), (12, N L.length), (13, N i)] []) (fun i => L.take i = M.take i) rfl rfl ?_
    intro i hi hI ih
    simp only [sequal_l0_w, sequal_l0', go_sem, reduceCtorEq, Nat.reduceEqDiff, reduceIte, Nat.reduceAdd, Nat.reduceSub, Nat.reduceLeDiff, Int.reduceToNat, Nat.reduceBEq]
    repeat ((with_reducible apply And.intro); (case left => first | omega | (simp only [List.length_append, List.length_cons, List.length_nil, List.length_drop, List.length_take, List.length_tail, List.length_dropLast, fs_length, ss_length, bs_length, ns_length]; omega)))
    by_cases h : i < L.length
    · have g := ssE L h
      have g2 := ssE M (show i < M.length by omega)
      have q1 : IntKind.i64.wrap ((i : Int) + 1) = ((i + 1 : Nat) : Int) := wrapN _ (by omega) (by omega)
      have h2 : i < M.length := by omega
      have hst : L[i] = M[i] → L.take (i + 1) = M.take (i + 1) := fun he => take_eq_step hI h h2 he
      have hne : L[i] ≠ M[i] → L ≠ M := fun hn e => hn (by subst e; rfl)
      generalize L[i] = x at g hst hne
      generalize M[i] = y at g2 hst hne
      simp only [lt_t h, g, g2, Int.toNat_natCast, go_sem, reduceCtorEq, Nat.reduceEqDiff, reduceIte, Nat.reduceAdd, Nat.reduceSub, Nat.reduceLeDiff, Int.reduceToNat, Nat.reduceBEq]
      repeat ((with_reducible apply And.intro); (case left => first | omega | (simp only [List.length_append, List.length_cons, List.length_nil, List.length_drop, List.length_take, List.length_tail, List.length_dropLast, fs_length, ss_length, bs_length, ns_length]; omega)))
      by_cases he : x = y
      · subst he
        simp only [beq_self_eq_true, Bool.not_true, q1, go_sem, reduceCtorEq, Nat.reduceEqDiff, reduceIte, Nat.reduceAdd, Nat.reduceSub, Nat.reduceLeDiff, Int.reduceToNat, Nat.reduceBEq]
        exact ih h (hst rfl)
      · rw [decide_eq_false (hne he)]
        simp only [beq_false_of_ne he, Bool.not_false, go_sem, reduceCtorEq, Nat.reduceEqDiff, reduceIte, Nat.reduceAdd, Nat.reduceSub, Nat.reduceLeDiff, Int.reduceToNat, Nat.reduceBEq]
        first | rfl | omega | trace_state
    · obtain rfl : i = L.length := by omega
      rw [decide_eq_true (eq_of_take hI hlen)]
      simp only [lt_f h, sequal_k1_w, sequal_k1', go_sem, reduceCtorEq, Nat.reduceEqDiff, reduceIte, Nat.reduceAdd, Nat.reduceSub, Nat.reduceLeDiff, Int.reduceToNat, Nat.reduceBEq]
      first | rfl | omega | trace_state
  · have hne : L ≠ M := fun e => hlen (by rw [e])
    rw [decide_eq_false hne]
    simp only [ne_t (show ((L.length : Nat) : Int) ≠ ((M.length : Nat) : Int) by omega), ss_length, go_sem, reduceCtorEq, Nat.reduceEqDiff, reduceIte, Nat.reduceAdd, Nat.reduceSub, Nat.reduceLeDiff, Int.reduceToNat, Nat.reduceBEq]
    first | rfl | omega | trace_state
theorem hfew_snd (L M : List Bs) (hl : L.length ≤ 1048576) (hm : M.length ≤ 1048576) : Snd Tryd.prog (gl m) 15 [.sl .frn 1 (ss L), .sl .frn 1 (ss M)] (B (decide (L.length ≤ 40) && decide (M.length ≤ 40))) := by
  refine snd_of (fn := Tryd.f15) (af := hfew) Tryd.func15 (hfew_comp m) mixed (kn_ok m) (Nat.le_of_ble_eq_true rfl) ?_
  simp only [hfew, go_sem, reduceCtorEq, Nat.reduceEqDiff, reduceIte, Nat.reduceAdd, Nat.reduceSub, Nat.reduceLeDiff, Int.reduceToNat, Nat.reduceBEq]
  have e1 : decide ((L.length : Int) ≤ 40) = decide (L.length ≤ 40) := by
    by_cases h : L.length ≤ 40
    · rw [decide_eq_true h, decide_eq_true (by omega)]
    · rw [decide_eq_false h, decide_eq_false (by omega)]
  have e2 : decide ((M.length : Int) ≤ 40) = decide (M.length ≤ 40) := by
    by_cases h : M.length ≤ 40
    · rw [decide_eq_true h, decide_eq_true (by omega)]
    · rw [decide_eq_false h, decide_eq_false (by omega)]
  cases c1 : decide (L.length ≤ 40) <;> simp only [ss_length, e1, c1, e2, go_sem, reduceCtorEq, Nat.reduceEqDiff, reduceIte, Nat.reduceAdd, Nat.reduceSub, Nat.reduceLeDiff, Int.reduceToNat, Nat.reduceBEq]
  all_goals first | rfl | omega | trace_state
theorem pside_snd (h : Hk) (but : Int) (hl : okL h.2.2) : Snd Tryd.prog (gl m) 36 [hT .frn h, I but] (.sl .own 1 (ss (sideL h.2.2 but))) := by
  refine snd_of (fn := Tryd.f36) (af := pside) Tryd.func36 (pside_comp m) mixed (kn_ok m) (Nat.le_of_ble_eq_true rfl) ?_
  simp only [pside, go_sem, reduceCtorEq, Nat.reduceEqDiff, reduceIte, Nat.reduceAdd, Nat.reduceSub, Nat.reduceLeDiff, Int.reduceToNat, Nat.reduceBEq]
  obtain ⟨f, t, l⟩ := h
  have hll := hl.1
  dsimp only at hll ⊢
  repeat ((with_reducible apply And.intro); (case left => first | omega | (simp only [List.length_append, List.length_cons, List.length_nil, List.length_drop, List.length_take, List.length_tail, List.length_dropLast, fs_length, ss_length, bs_length, ns_length]; omega)))
  refine loop_up l.length (fun i => mkS [(1, I but), (5, .sl .own 1 (ss (sideL (l.take i) but))), (9, .sl .frn 2 (fs fL l)), (10, N l.length), (11, N i)] []) rfl ?_
  intro i hi ih
  simp only [pside_l0_w, pside_l0', go_sem, reduceCtorEq, Nat.reduceEqDiff, reduceIte, Nat.reduceAdd, Nat.reduceSub, Nat.reduceLeDiff, Int.reduceToNat, Nat.reduceBEq]
  repeat ((with_reducible apply And.intro); (case left => first | omega | (simp only [List.length_append, List.length_cons, List.length_nil, List.length_drop, List.length_take, List.length_tail, List.length_dropLast, fs_length, ss_length, bs_length, ns_length]; omega)))
  by_cases h : i < l.length
  · have g := fs_getL h
    have q1 : IntKind.i64.wrap ((i : Int) + 1) = ((i + 1 : Nat) : Int) := wrapN _ (by omega) (by omega)
    have hlen := sideL_len (l.take i) but
    rw [List.length_take] at hlen
    rw [take_snoc h, sideL_snoc] at ih
    generalize l[i] = x at g ih
    generalize sideL (l.take i) but = o at ih hlen ⊢
    simp only [lt_t h, g, Int.toNat_natCast, go_sem, reduceCtorEq, Nat.reduceEqDiff, reduceIte, Nat.reduceAdd, Nat.reduceSub, Nat.reduceLeDiff, Int.reduceToNat, Nat.reduceBEq]
    repeat ((with_reducible apply And.intro); (case left => first | omega | (simp only [List.length_append, List.length_cons, List.length_nil, List.length_drop, List.length_take, List.length_tail, List.length_dropLast, fs_length, ss_length, bs_length, ns_length]; omega)))
    by_cases hk : x.1 = but
    · rw [if_pos hk] at ih
      simp only [ne_f hk, q1, go_sem, reduceCtorEq, Nat.reduceEqDiff, reduceIte, Nat.reduceAdd, Nat.reduceSub, Nat.reduceLeDiff, Int.reduceToNat, Nat.reduceBEq]
      exact ih h
    · rw [if_neg hk] at ih
      simp only [ne_t hk, q1, ss_snocH, go_sem, reduceCtorEq, Nat.reduceEqDiff, reduceIte, Nat.reduceAdd, Nat.reduceSub, Nat.reduceLeDiff, Int.reduceToNat, Nat.reduceBEq]
      repeat ((with_reducible apply And.intro); (case left => first | omega | (simp only [List.length_append, List.length_cons, List.length_nil, List.length_drop, List.length_take, List.length_tail, List.length_dropLast, fs_length, ss_length, bs_length, ns_length]; omega)))
      exact ih h
  · obtain rfl : i = l.length := by omega
    rw [List.take_length]
    simp only [lt_f h, pside_k1_w, pside_k1', go_sem, reduceCtorEq, Nat.reduceEqDiff, reduceIte, Nat.reduceAdd, Nat.reduceSub, Nat.reduceLeDiff, Int.reduceToNat, Nat.reduceBEq]
    first | rfl | omega | trace_state
end Go.Hk
namespace Go.Hk
open Go Go.Ev Go.Proofs
set_option linter.unusedVariables false
set_option linter.unusedSimpArgs false
set_option maxHeartbeats 4000000
attribute [local go_sem] eqs implies_true List.map_cons List.map_nil kl klL roD roL Option.map_some Option.map_none Option.getD_some Option.getD_none binVal binObl unVal if_true if_false eq_self passA frnD resD content getH getR getW viaNot viaSlot viaBox viaDeep viaMem List.contains_cons List.contains_nil grabs peeks okCells isCell place cellsOf chunk elt List.headD_cons List.length_cons List.length_nil List.take_succ_cons List.take_zero List.drop_succ_cons List.drop_zero List.nil_append List.cons_append List.append_nil List.all_cons List.all_nil plainC takeR setW over reCell List.getElem?_cons_zero List.getElem?_cons_succ List.set_cons_zero List.take_length outV resG plainV pack outVG outBx List.set_cons_succ Ref.idx Ref.addOff beq_self_eq_true bxL Option.bind_some writeR isLit viaBoxes capsPA boxPA nsOf noDup boxesAt argG passG passD rhoIn rhoOut idxIn tr trL List.getD_cons_zero gives pasOf isPtr Ins.d List.getD_cons_succ resL frnL partB_f partB_t partB_p partB_s St.setP mixR v_slcT List.getLast?_nil List.getLast?_singleton List.dropLast_singleton List.nil_append frnL_fs roL_fs resL_fs passL_fs klL_fs trL_fs map_roD_fs fs_length hS_length frnL_hS roL_hS_own roL_hS_frn roL_hS_ro resL_hS_own resL_hS_ro klL_hS klL_hS_own klL_hS_frn passL_hS_own passL_hS_frn trL_hS_own trL_hS_frn
variable {m : Int × Bool}
def pstands : AF := ⟨.seq (.reg (.seq [⟨some (6, true), none, .mov (.cst (.bool false) (.lit (.bool false))) .asg⟩])) [0, 1, 2] []
  (.seq (.reg (.seq [⟨some (7, false), none, .mov (.tmp 2 true) .peek⟩,⟨some (8, false), none, .bin .geq (.tmp 7 false) (.cst (.int .i64 0) (.lit (.int .i64 0)))⟩,⟨some (9, false), none, .mov (.tmp 8 false) .peek⟩,⟨some (10, false), (some (9, true)), .mov (.tmp 2 true) .peek⟩,⟨some (11, false), (some (9, true)), .mov (.tmp 1 true) .peek⟩,⟨some (12, false), (some (9, true)), .lenL (.tmp 11 false)⟩,⟨some (13, false), (some (9, true)), .bin .add (.tmp 10 false) (.tmp 12 false)⟩,⟨some (14, false), (some (9, true)), .mov (.tmp 0 true) .peek⟩,⟨some (15, false), (some (9, true)), .lenL (.tmp 14 false)⟩,⟨some (16, false), (some (9, true)), .bin .leq (.tmp 13 false) (.tmp 15 false)⟩,⟨some (17, false), none, .pick (.tmp 9 false) (.tmp 16 false) (.cst (.bool false) (.lit (.bool false)))⟩,⟨some (18, false), none, .mov (.tmp 17 false) .peek⟩,⟨some (19, false), (some (18, true)), .mov (.tmp 0 true) .peek⟩,⟨some (20, false), (some (18, true)), .mov (.tmp 2 true) .peek⟩,⟨some (21, false), (some (18, true)), .mov (.tmp 2 true) .peek⟩,⟨some (22, false), (some (18, true)), .mov (.tmp 1 true) .peek⟩,⟨some (23, false), (some (18, true)), .lenL (.tmp 22 false)⟩,⟨some (24, false), (some (18, true)), .bin .add (.tmp 21 false) (.tmp 23 false)⟩,⟨some (25, false), (some (18, true)), .slc 1 (.tmp 19 false) (some (.tmp 20 false)) (some (.tmp 24 false))⟩,⟨some (26, false), (some (18, true)), .mov (.tmp 1 true) .peek⟩,⟨some (27, false), (some (18, true)), .call 68 [.tmp 25 false, .tmp 26 false]⟩,⟨some (28, false), none, .pick (.tmp 18 false) (.tmp 27 false) (.cst (.bool false) (.lit (.bool false)))⟩,⟨some (6, true), none, .mov (.tmp 28 false) .asg⟩])) [6] []
  (.ret)),
  [.tmp 6]⟩
theorem pstands_comp (m : Int × Bool) : compF Tryd.prog (gl m) [] Tryd.f65 = some pstands := by kernel_rfl
def pnear_k0' : AC := .cond (.tmp 34 false)
      (.seq (.reg (.seq [⟨some (35, false), none, .mov (.tmp 2 true) .peek⟩,⟨some (36, false), none, .mov (.tmp 10 true) .peek⟩,⟨some (37, false), none, .bin .sub (.tmp 35 false) (.tmp 36 false)⟩,⟨some (8, true), none, .mov (.tmp 37 false) .asg⟩,⟨some (9, true), none, .mov (.cst (.bool true) (.lit (.bool true))) .asg⟩])) [8, 9] []
      (.ret))
      (.skip)
def pnear_k0 : AC := pnear_k0'
theorem pnear_k0_w (C : Kn) (K : Ex → St → Prop) (s : St) : vcC C pnear_k0 K s = vcC C pnear_k0' K s := nr rfl
def pnear_k1' : AC := .cond (.tmp 50 false)
      (.seq (.reg (.seq [⟨some (51, false), none, .mov (.tmp 2 true) .peek⟩,⟨some (52, false), none, .mov (.tmp 10 true) .peek⟩,⟨some (53, false), none, .bin .add (.tmp 51 false) (.tmp 52 false)⟩,⟨some (8, true), none, .mov (.tmp 53 false) .asg⟩,⟨some (9, true), none, .mov (.cst (.bool true) (.lit (.bool true))) .asg⟩])) [8, 9] []
      (.ret))
      (.skip)
def pnear_k1 : AC := pnear_k1'
theorem pnear_k1_w (C : Kn) (K : Ex → St → Prop) (s : St) : vcC C pnear_k1 K s = vcC C pnear_k1' K s := nr rfl
def pnear_k2' : AC := .seq (.reg (.seq [⟨some (38, false), none, .mov (.tmp 2 true) .peek⟩,⟨some (39, false), none, .mov (.tmp 10 true) .peek⟩,⟨some (40, false), none, .bin .add (.tmp 38 false) (.tmp 39 false)⟩,⟨some (41, false), none, .mov (.tmp 3 true) .peek⟩,⟨some (42, false), none, .bin .geq (.tmp 40 false) (.tmp 41 false)⟩,⟨some (43, false), none, .mov (.tmp 42 false) .peek⟩,⟨some (44, false), (some (43, true)), .mov (.tmp 0 true) .peek⟩,⟨some (45, false), (some (43, true)), .mov (.tmp 1 true) .peek⟩,⟨some (46, false), (some (43, true)), .mov (.tmp 2 true) .peek⟩,⟨some (47, false), (some (43, true)), .mov (.tmp 10 true) .peek⟩,⟨some (48, false), (some (43, true)), .bin .add (.tmp 46 false) (.tmp 47 false)⟩,⟨some (49, false), (some (43, true)), .call 65 [.tmp 44 false, .tmp 45 false, .tmp 48 false]⟩,⟨some (50, false), none, .pick (.tmp 43 false) (.tmp 49 false) (.cst (.bool false) (.lit (.bool false)))⟩])) [0, 1, 2, 3, 10, 50] [] pnear_k1
def pnear_k2 : AC := pnear_k2'
theorem pnear_k2_w (C : Kn) (K : Ex → St → Prop) (s : St) : vcC C pnear_k2 K s = vcC C pnear_k2' K s := nr rfl
def pnear_k3' : AC := .reg (.seq [⟨some (20, false), none, .mov (.tmp 10 true) .peek⟩,⟨some (21, false), none, .bin .add (.tmp 20 false) (.cst (.int .i64 1) (.lit (.int .i64 1)))⟩,⟨some (10, true), none, .mov (.tmp 21 false) .asg⟩])
def pnear_k3 : AC := pnear_k3'
theorem pnear_k3_w (C : Kn) (K : Ex → St → Prop) (s : St) : vcC C pnear_k3 K s = vcC C pnear_k3' K s := nr rfl
def pnear_k4' : AC := .seq (.block 1 (.seq (.seq (.reg (.seq [⟨some (22, false), none, .mov (.tmp 2 true) .peek⟩,⟨some (23, false), none, .mov (.tmp 10 true) .peek⟩,⟨some (24, false), none, .bin .sub (.tmp 22 false) (.tmp 23 false)⟩,⟨some (25, false), none, .mov (.tmp 3 true) .peek⟩,⟨some (26, false), none, .bin .geq (.tmp 24 false) (.tmp 25 false)⟩,⟨some (27, false), none, .mov (.tmp 26 false) .peek⟩,⟨some (28, false), (some (27, true)), .mov (.tmp 0 true) .peek⟩,⟨some (29, false), (some (27, true)), .mov (.tmp 1 true) .peek⟩,⟨some (30, false), (some (27, true)), .mov (.tmp 2 true) .peek⟩,⟨some (31, false), (some (27, true)), .mov (.tmp 10 true) .peek⟩,⟨some (32, false), (some (27, true)), .bin .sub (.tmp 30 false) (.tmp 31 false)⟩,⟨some (33, false), (some (27, true)), .call 65 [.tmp 28 false, .tmp 29 false, .tmp 32 false]⟩,⟨some (34, false), none, .pick (.tmp 27 false) (.tmp 33 false) (.cst (.bool false) (.lit (.bool false)))⟩])) [0, 1, 2, 3, 10, 34] [] pnear_k0) [0, 1, 2, 3, 10] [] pnear_k2)) [0, 1, 2, 3, 10] [] pnear_k3
def pnear_k4 : AC := pnear_k4'
theorem pnear_k4_w (C : Kn) (K : Ex → St → Prop) (s : St) : vcC C pnear_k4 K s = vcC C pnear_k4' K s := nr rfl
def pnear_l5' : AC := .seq (.seq (.reg (.seq [⟨some (11, false), none, .mov (.tmp 10 true) .peek⟩,⟨some (12, false), none, .mov (.tmp 0 true) .peek⟩,⟨some (13, false), none, .lenL (.tmp 12 false)⟩,⟨some (14, false), none, .mov (.tmp 2 true) .peek⟩,⟨some (15, false), none, .mov (.tmp 2 true) .peek⟩,⟨some (16, false), none, .un .neg (.tmp 15 false)⟩,⟨some (17, false), none, .mx true (.tmp 14 false) (.tmp 16 false)⟩,⟨some (18, false), none, .bin .add (.tmp 13 false) (.tmp 17 false)⟩,⟨some (19, false), none, .bin .leq (.tmp 11 false) (.tmp 18 false)⟩])) [0, 1, 2, 3, 10, 19] []
  (.cond (.tmp 19 false)
    (.skip)
    (.exit 0))) [0, 1, 2, 3, 10] [] pnear_k4
def pnear_l5 : AC := pnear_l5'
theorem pnear_l5_w (C : Kn) (K : Ex → St → Prop) (s : St) : vcC C pnear_l5 K s = vcC C pnear_l5' K s := nr rfl
def pnear_k6' : AC := .seq (.reg (.seq [⟨some (8, true), none, .mov (.cst (.int .i64 0) (.lit (.int .i64 0))) .asg⟩,⟨some (9, true), none, .mov (.cst (.bool false) (.lit (.bool false))) .asg⟩])) [8, 9] []
  (.ret)
def pnear_k6 : AC := pnear_k6'
theorem pnear_k6_w (C : Kn) (K : Ex → St → Prop) (s : St) : vcC C pnear_k6 K s = vcC C pnear_k6' K s := nr rfl
def pnear : AF := ⟨.seq (.reg (.seq [⟨some (8, true), none, .mov (.cst (.int .i64 0) (.lit (.int .i64 0))) .asg⟩,⟨some (9, true), none, .mov (.cst (.bool false) (.lit (.bool false))) .asg⟩])) [0, 1, 2, 3] []
  (.seq (.seq (.reg (.seq [⟨some (10, true), none, .mov (.cst (.int .i64 0) (.lit (.int .i64 0))) .asg⟩])) [0, 1, 2, 3, 10] []
  (.block 0 (.loop [0, 1, 2, 3, 10] [] pnear_l5))) [] [] pnear_k6),
  [.tmp 8, .tmp 9]⟩
theorem pnear_comp (m : Int × Bool) : compF Tryd.prog (gl m) [] Tryd.f37 = some pnear := by kernel_rfl
theorem take_drop_eq (a : List Bs) (p k : Nat) : (a.take (p + k)).drop p = (a.drop p).take k := by
  rw [List.drop_take, Nat.add_sub_cancel_left]
theorem stands_fail {a old : List Bs} {p : Nat} (h : ¬ p + old.length ≤ a.length) : standsA a old p = false := by rw [standsA, decide_eq_false h]; rfl
theorem stands_eq {a old : List Bs} {p : Nat} (h : p + old.length ≤ a.length) : standsA a old p = decide ((a.drop p).take old.length = old) := by rw [standsA, decide_eq_true h]; rfl
theorem pstands_snd (a old : List Bs) (at_ : Int) (ha : a.length ≤ 1048576) (ho : old.length ≤ 1048576) (h1 : -8388608 ≤ at_) (h2 : at_ ≤ 8388608) : Snd Tryd.prog (gl m) 65 [.sl .frn 1 (ss a), .sl .frn 1 (ss old), I at_] (B (decide (0 ≤ at_) && standsA a old at_.toNat)) := by
  refine snd_of (fn := Tryd.f65) (af := pstands) Tryd.func65 (pstands_comp m) mixed (kn_ok m) (Nat.le_of_ble_eq_true rfl) ?_
  simp only [pstands, go_sem, reduceCtorEq, Nat.reduceEqDiff, reduceIte, Nat.reduceAdd, Nat.reduceSub, Nat.reduceLeDiff, Int.reduceToNat, Nat.reduceBEq]
  by_cases h0 : 0 ≤ at_
  · obtain ⟨p, rfl⟩ : ∃ p : Nat, at_ = (p : Int) := ⟨at_.toNat, by omega⟩
    rw [Int.toNat_natCast, decide_eq_true h0, Bool.true_and]
    have q1 : IntKind.i64.wrap ((p : Int) + ((old.length : Nat) : Int)) = ((p + old.length : Nat) : Int) := wrapN _ (by omega) (by omega)
    by_cases hp : p + old.length ≤ a.length
    · rw [stands_eq hp]
      simp only [decide_eq_true (show ((p : Nat) : Int) ≥ 0 from h0), ss_length, q1, decide_eq_true (show ((p + old.length : Nat) : Int) ≤ ((a.length : Nat) : Int) by omega), Int.toNat_natCast, ss_take, ss_drop, take_drop_eq, go_sem, reduceCtorEq, Nat.reduceEqDiff, reduceIte, Nat.reduceAdd, Nat.reduceSub, Nat.reduceLeDiff, Int.reduceToNat, Nat.reduceBEq]
      repeat ((with_reducible apply And.intro); (case left => first | omega | (simp only [List.length_append, List.length_cons, List.length_nil, List.length_drop, List.length_take, List.length_tail, List.length_dropLast, fs_length, ss_length, bs_length, ns_length]; omega)))
      have hs := sequal_snd (m := m) ((a.drop p).take old.length) old (by rw [List.length_take, List.length_drop]; omega) ho
      refine of_call hs ?_
      simp only [go_sem, reduceCtorEq, Nat.reduceEqDiff, reduceIte, Nat.reduceAdd, Nat.reduceSub, Nat.reduceLeDiff, Int.reduceToNat, Nat.reduceBEq]
      first | rfl | omega | trace_state
    · rw [stands_fail hp]
      simp only [decide_eq_true (show ((p : Nat) : Int) ≥ 0 from h0), ss_length, q1, decide_eq_false (show ¬ ((p + old.length : Nat) : Int) ≤ ((a.length : Nat) : Int) by omega), go_sem, reduceCtorEq, Nat.reduceEqDiff, reduceIte, Nat.reduceAdd, Nat.reduceSub, Nat.reduceLeDiff, Int.reduceToNat, Nat.reduceBEq]
      first | rfl | omega | trace_state
  · rw [decide_eq_false h0, Bool.false_and]
    simp only [decide_eq_false (show ¬ at_ ≥ 0 from h0), go_sem, reduceCtorEq, Nat.reduceEqDiff, reduceIte, Nat.reduceAdd, Nat.reduceSub, Nat.reduceLeDiff, Int.reduceToNat, Nat.reduceBEq]
    first | rfl | omega | trace_state
def nearR (b : Option Nat) : AV := match b with | none => .tup [I 0, B false] | some p => .tup [N p, B true]
theorem pnear_snd (a old : List Bs) (w : Int) (e : Nat) (ha : a.length ≤ 1048576) (ho : old.length ≤ 1048576) (h1 : -2097152 ≤ w) (h2 : w ≤ 2097152) (he : e ≤ 1048576) : Snd Tryd.prog (gl m) 37 [.sl .frn 1 (ss a), .sl .frn 1 (ss old), I w, N e] (nearR (nearF a old e w)) := by
  refine snd_of (fn := Tryd.f37) (af := pnear) Tryd.func37 (pnear_comp m) mixed (kn_ok m) (Nat.le_of_ble_eq_true rfl) ?_
  simp only [pnear, go_sem, reduceCtorEq, Nat.reduceEqDiff, reduceIte, Nat.reduceAdd, Nat.reduceSub, Nat.reduceLeDiff, Int.reduceToNat, Nat.reduceBEq]
  have qm : IntKind.i64.wrap (0 - w) = -w := by rw [Int.zero_sub]; exact wrap_in (by omega) (by omega)
  have qt : IntKind.i64.wrap (((a.length : Nat) : Int) + max w (-w)) = ((a.length : Nat) : Int) + max w (-w) := wrap_in (by omega) (by omega)
  refine loop_inv (a.length + (max w (-w)).toNat + 1) (fun d => mkS [(0, .sl .frn 1 (ss a)), (1, .sl .frn 1 (ss old)), (2, I w), (3, N e), (10, N d)] []) (fun d => ∀ p, e ≤ p → standsA a old p = true → (d : Int) ≤ dist p w) rfl (fun p _ _ => by rw [dist]; omega) ?_
  intro d hd hI ih
  simp only [pnear_l5_w, pnear_l5', go_sem, reduceCtorEq, Nat.reduceEqDiff, reduceIte, Nat.reduceAdd, Nat.reduceSub, Nat.reduceLeDiff, Int.reduceToNat, Nat.reduceBEq]
  repeat ((with_reducible apply And.intro); (case left => first | omega | (simp only [List.length_append, List.length_cons, List.length_nil, List.length_drop, List.length_take, List.length_tail, List.length_dropLast, fs_length, ss_length, bs_length, ns_length]; omega)))
  try simp only [ss_length, qm, qt, unVal, go_sem, reduceCtorEq, Nat.reduceEqDiff, reduceIte, Nat.reduceAdd, Nat.reduceSub, Nat.reduceLeDiff, Int.reduceToNat, Nat.reduceBEq]
  by_cases h : (d : Int) ≤ ((a.length : Nat) : Int) + max w (-w)
  · have q1 : IntKind.i64.wrap (w - (d : Int)) = w - d := wrap_in (by omega) (by omega)
    have q2 : IntKind.i64.wrap (w + (d : Int)) = w + d := wrap_in (by omega) (by omega)
    have qd : IntKind.i64.wrap ((d : Int) + 1) = ((d + 1 : Nat) : Int) := wrapN _ (by omega) (by omega)
    have second : (∀ p, e ≤ p → standsA a old p = true → (p : Int) ≠ w - d) → vcC (kn m) pnear_k2 (blockK 1 (seqK (kn m) [0, 1, 2, 3, 10] [] pnear_k3 (loopK (kn m) [0, 1, 2, 3, 10] [] pnear_l5 (blockK 0 (seqK (kn m) [] [] pnear_k6 (outOk [ROd.tmp 8, ROd.tmp 9] (nearR (nearF a old e w)))))))) (mkS [(0, .sl .frn 1 (ss a)), (1, .sl .frn 1 (ss old)), (2, I w), (3, N e), (10, N d)] []) := by
      intro hno
      simp only [pnear_k2_w, pnear_k2', q2, go_sem, reduceCtorEq, Nat.reduceEqDiff, reduceIte, Nat.reduceAdd, Nat.reduceSub, Nat.reduceLeDiff, Int.reduceToNat, Nat.reduceBEq]
      by_cases c2 : w + (d : Int) ≥ (e : Int)
      · simp only [decide_eq_true c2, q2, go_sem, reduceCtorEq, Nat.reduceEqDiff, reduceIte, Nat.reduceAdd, Nat.reduceSub, Nat.reduceLeDiff, Int.reduceToNat, Nat.reduceBEq]
        refine of_call (pstands_snd a old (w + d) ha ho (by omega) (by omega)) ?_
        rw [decide_eq_true (show 0 ≤ w + (d : Int) by omega), Bool.true_and]
        cases hs : standsA a old (w + (d : Int)).toNat with
        | true =>
          have hn : nearF a old e w = some (w + (d : Int)).toNat := near_at (by omega) hs fun p hp hps => by
            have g1 := hI p hp hps
            have g2 := hno p hp hps
            simp only [dist] at g1 ⊢
            omega
          rw [hn, nearR]
          simp only [q2, pnear_k1_w, pnear_k1', go_sem, reduceCtorEq, Nat.reduceEqDiff, reduceIte, Nat.reduceAdd, Nat.reduceSub, Nat.reduceLeDiff, Int.reduceToNat, Nat.reduceBEq]
          show some (AV.tup [I (w + (d : Int)), B true]) = some (AV.tup [I (((w + (d : Int)).toNat : Nat) : Int), B true])
          rw [show (((w + (d : Int)).toNat : Nat) : Int) = w + d by omega]
        | false =>
          simp only [qd, pnear_k1_w, pnear_k1', pnear_k3_w, pnear_k3', go_sem, reduceCtorEq, Nat.reduceEqDiff, reduceIte, Nat.reduceAdd, Nat.reduceSub, Nat.reduceLeDiff, Int.reduceToNat, Nat.reduceBEq]
          refine ih (by omega) fun p hp hps => ?_
          have g1 := hI p hp hps
          have g2 := hno p hp hps
          have g3 : (p : Int) ≠ w + d := by
            intro e'
            have : (w + (d : Int)).toNat = p := by omega
            rw [this, hps] at hs; cases hs
          simp only [dist] at g1 ⊢
          omega
      · simp only [decide_eq_false c2, qd, pnear_k1_w, pnear_k1', pnear_k3_w, pnear_k3', go_sem, reduceCtorEq, Nat.reduceEqDiff, reduceIte, Nat.reduceAdd, Nat.reduceSub, Nat.reduceLeDiff, Int.reduceToNat, Nat.reduceBEq]
        refine ih (by omega) fun p hp hps => ?_
        have g1 := hI p hp hps
        have g2 := hno p hp hps
        simp only [dist] at g1 ⊢
        omega
    simp only [decide_eq_true h, pnear_k4_w, pnear_k4', q1, go_sem, reduceCtorEq, Nat.reduceEqDiff, reduceIte, Nat.reduceAdd, Nat.reduceSub, Nat.reduceLeDiff, Int.reduceToNat, Nat.reduceBEq]
    by_cases c1 : w - (d : Int) ≥ (e : Int)
    · simp only [decide_eq_true c1, q1, go_sem, reduceCtorEq, Nat.reduceEqDiff, reduceIte, Nat.reduceAdd, Nat.reduceSub, Nat.reduceLeDiff, Int.reduceToNat, Nat.reduceBEq]
      refine of_call (pstands_snd a old (w - d) ha ho (by omega) (by omega)) ?_
      rw [decide_eq_true (show 0 ≤ w - (d : Int) by omega), Bool.true_and]
      cases hs : standsA a old (w - (d : Int)).toNat with
      | true =>
        have hn : nearF a old e w = some (w - (d : Int)).toNat := near_at (by omega) hs fun p hp hps => by
          have g1 := hI p hp hps
          simp only [dist] at g1 ⊢
          omega
        rw [hn, nearR]
        simp only [q1, pnear_k0_w, pnear_k0', go_sem, reduceCtorEq, Nat.reduceEqDiff, reduceIte, Nat.reduceAdd, Nat.reduceSub, Nat.reduceLeDiff, Int.reduceToNat, Nat.reduceBEq]
        show some (AV.tup [I (w - (d : Int)), B true]) = some (AV.tup [I (((w - (d : Int)).toNat : Nat) : Int), B true])
        rw [show (((w - (d : Int)).toNat : Nat) : Int) = w - d by omega]
      | false =>
        simp only [pnear_k0_w, pnear_k0', go_sem, reduceCtorEq, Nat.reduceEqDiff, reduceIte, Nat.reduceAdd, Nat.reduceSub, Nat.reduceLeDiff, Int.reduceToNat, Nat.reduceBEq]
        refine second fun p hp hps e' => ?_
        have : (w - (d : Int)).toNat = p := by omega
        rw [this, hps] at hs; cases hs
    · simp only [decide_eq_false c1, pnear_k0_w, pnear_k0', go_sem, reduceCtorEq, Nat.reduceEqDiff, reduceIte, Nat.reduceAdd, Nat.reduceSub, Nat.reduceLeDiff, Int.reduceToNat, Nat.reduceBEq]
      exact second fun p hp hps e' => by omega
  · have hn : nearF a old e w = none := near_no fun p hp => by
      cases hps : standsA a old p with
      | false => rfl
      | true =>
        have g1 := hI p hp hps
        have g2 := stands_le hps
        simp only [dist] at g1
        omega
    rw [hn, nearR]
    simp only [decide_eq_false h, pnear_k6_w, pnear_k6', go_sem, reduceCtorEq, Nat.reduceEqDiff, reduceIte, Nat.reduceAdd, Nat.reduceSub, Nat.reduceLeDiff, Int.reduceToNat, Nat.reduceBEq]
    first | rfl | omega | trace_state
end Go.Hk

