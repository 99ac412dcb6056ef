import Derived.Test.YtolghafejibajaaDoorGbB
/- Glob: paths; Match, Part. -/
namespace Go.Gb
open Go Go.Ev Go.Proofs
open Go.Ln (u8b_t u8b_f u8n_t u8n_f getX idx idx_eq)
set_option linter.unusedVariables false
set_option linter.unusedSimpArgs false
attribute [local go_sem] eqs implies_true List.map_cons List.map_nil kl klL roD roL Option.map_some Option.map_none Option.getD_some Option.getD_none binVal binObl unVal if_true if_false eq_self passA frnD resD content getH getR getW viaNot viaSlot viaBox viaDeep viaMem List.contains_cons List.contains_nil grabs peeks okCells isCell place cellsOf chunk elt List.headD_cons List.length_cons List.length_nil List.take_succ_cons List.take_zero List.drop_succ_cons List.drop_zero List.nil_append List.cons_append List.append_nil List.all_cons List.all_nil plainC takeR setW over reCell List.getElem?_cons_zero List.getElem?_cons_succ List.set_cons_zero List.take_length outV resG plainV pack outVG outBx List.set_cons_succ Ref.idx Ref.addOff beq_self_eq_true bxL Option.bind_some writeR isLit viaBoxes capsPA boxPA nsOf noDup boxesAt argG passG passD rhoIn rhoOut idxIn tr trL List.getD_cons_zero gives pasOf isPtr Ins.d List.getD_cons_succ resL frnL
variable {m : Int}

def ppart_l0' : AC := .seq (.reg (.seq [⟨(some (27, false)), none, .bin .lss (.tmp 26 true) (.tmp 25 true)⟩])) [0, 25, 26, 27] []
  (.seq (.cond (.tmp 27 false)
    (.skip)
    (.exit 0)) [0, 25, 26] []
  (.seq (.block 1 (.seq (.reg (.seq [⟨(some (28, false)), none, .mov (.tmp 26 true) .take⟩,
      ⟨(some (3, true)), none, .mov (.tmp 28 false) .asg⟩])) [0, 3, 25, 26] []
    (.seq (.reg (.seq [⟨(some (29, false)), none, .mov (.tmp 0 true) .peek⟩,
      ⟨(some (30, false)), none, .mov (.tmp 3 true) .peek⟩,
      ⟨(some (31, false)), none, .idx (.tmp 29 false) (.tmp 30 false)⟩,
      ⟨(some (32, false)), none, .bin .lss (.tmp 31 false) (.cst (.int .u8 32) (.lit (.int .u8 32)))⟩])) [0, 25, 26, 32] []
    (.cond (.tmp 32 false)
      (.seq (.reg (.seq [⟨(some (2, true)), none, .mov (.cst (.bool false) (.lit (.bool false))) .asg⟩])) [2] []
      (.ret))
      (.skip))))) [0, 25, 26] []
  (.reg (.seq [⟨(some (33, false)), none, .bin .add (.tmp 26 true) (.cst (.int .i64 1) (.lit (.int .i64 1)))⟩,
      ⟨(some (26, true)), none, .mov (.tmp 33 false) .peek⟩]))))
def ppart_l0 : AC := ppart_l0'
theorem ppart_l0_w (C : Kn) (K : Ex → St → Prop) (s : St) : vcC C ppart_l0 K s = vcC C ppart_l0' K s := nr rfl
def ppart_k1' : AC := .seq (.reg (.seq [⟨(some (2, true)), none, .mov (.cst (.bool true) (.lit (.bool true))) .asg⟩])) [2] []
  (.ret)
def ppart_k1 : AC := ppart_k1'
theorem ppart_k1_w (C : Kn) (K : Ex → St → Prop) (s : St) : vcC C ppart_k1 K s = vcC C ppart_k1' K s := nr rfl
def ppart : AF := ⟨.seq (.reg (.seq [⟨(some (2, true)), none, .mov (.cst (.bool false) (.lit (.bool false))) .asg⟩])) [0] []
  (.seq (.seq (.reg (.seq [⟨(some (4, false)), none, .mov (.tmp 0 true) .peek⟩,
      ⟨(some (5, false)), none, .len (.tmp 4 false)⟩,
      ⟨(some (6, false)), none, .bin .lss (.tmp 5 false) (.cst (.int .i64 1) (.lit (.int .i64 1)))⟩,
      ⟨(some (7, false)), none, .mov (.tmp 6 false) .peek⟩,
      ⟨(some (8, false)), (some (7, false)), .mov (.tmp 0 true) .peek⟩,
      ⟨(some (9, false)), (some (7, false)), .len (.tmp 8 false)⟩,
      ⟨(some (10, false)), (some (7, false)), .bin .gtr (.tmp 9 false) (.cst (.int .i64 64) (.lit (.int .i64 64)))⟩,
      ⟨(some (11, false)), none, .pick (.tmp 7 false) (.cst (.bool true) (.lit (.bool true))) (.tmp 10 false)⟩,
      ⟨(some (12, false)), none, .mov (.tmp 11 false) .peek⟩,
      ⟨(some (13, false)), (some (12, false)), .mov (.tmp 0 true) .peek⟩,
      ⟨(some (14, false)), (some (12, false)), .bin .eql (.tmp 13 false) (.cst (.string (str [46])) (.lit (.string (str [46]))))⟩,
      ⟨(some (15, false)), none, .pick (.tmp 12 false) (.cst (.bool true) (.lit (.bool true))) (.tmp 14 false)⟩,
      ⟨(some (16, false)), none, .mov (.tmp 15 false) .peek⟩,
      ⟨(some (17, false)), (some (16, false)), .mov (.tmp 0 true) .peek⟩,
      ⟨(some (18, false)), (some (16, false)), .bin .eql (.tmp 17 false) (.cst (.string (str [46, 46])) (.lit (.string (str [46, 46]))))⟩,
      ⟨(some (19, false)), none, .pick (.tmp 16 false) (.cst (.bool true) (.lit (.bool true))) (.tmp 18 false)⟩,
      ⟨(some (20, false)), none, .mov (.tmp 19 false) .peek⟩,
      ⟨(some (21, false)), (some (20, false)), .mov (.tmp 0 true) .peek⟩,
      ⟨(some (22, false)), (some (20, false)), .bin .eql (.tmp 21 false) (.cst (.string (str [46, 103, 114, 97, 102, 116])) (.lit (.string (str [46, 103, 114, 97, 102, 116]))))⟩,
      ⟨(some (23, false)), none, .pick (.tmp 20 false) (.cst (.bool true) (.lit (.bool true))) (.tmp 22 false)⟩])) [0, 23] []
  (.cond (.tmp 23 false)
    (.seq (.reg (.seq [⟨(some (2, true)), none, .mov (.cst (.bool false) (.lit (.bool false))) .asg⟩])) [2] []
    (.ret))
    (.skip))) [0] []
  (.seq (.seq (.reg (.seq [⟨(some (24, false)), none, .mov (.tmp 0 true) .peek⟩,
      ⟨(some (25, true)), none, .len (.tmp 24 false)⟩,
      ⟨(some (26, true)), none, .mov (.cst (.int .i64 0) (.lit (.int .i64 0))) .peek⟩])) [0, 25, 26] []
  (.block 0 (.loop [0, 25, 26] [] ppart_l0))) [] [] ppart_k1)),
  [.tmp 2]⟩
theorem ppart_comp (m : Int) : compF Tryd.prog (gl m) [] Tryd.f85 = some ppart := by kernel_rfl
def pis_l0' : AC := .seq (.reg (.seq [⟨(some (18, false)), none, .bin .lss (.tmp 17 true) (.tmp 16 true)⟩])) [3, 15, 16, 17, 18] []
  (.seq (.cond (.tmp 18 false)
    (.skip)
    (.exit 0)) [3, 15, 16, 17] []
  (.seq (.block 1 (.seq (.reg (.seq [⟨(some (19, false)), none, .iad (.tmp 15 true) (.tmp 17 true) 1⟩,
      ⟨(some (20, false)), none, .load (.tmp 19 false) 1 false false⟩,
      ⟨(some (5, true)), none, .mov (.tmp 20 false) .asg⟩])) [3, 5, 15, 16, 17] []
    (.seq (.reg (.seq [⟨(some (21, false)), none, .mov (.tmp 5 true) .peek⟩,
      ⟨(some (22, false)), none, .call 85 [(.tmp 21 false)]⟩,
      ⟨(some (23, false)), none, .un .not (.tmp 22 false)⟩])) [3, 15, 16, 17, 23] []
    (.cond (.tmp 23 false)
      (.seq (.reg (.seq [⟨(some (2, true)), none, .mov (.cst (.bool false) (.lit (.bool false))) .asg⟩])) [2] []
      (.ret))
      (.skip))))) [3, 15, 16, 17] []
  (.reg (.seq [⟨(some (24, false)), none, .bin .add (.tmp 17 true) (.cst (.int .i64 1) (.lit (.int .i64 1)))⟩,
      ⟨(some (17, true)), none, .mov (.tmp 24 false) .peek⟩]))))
def pis_l0 : AC := pis_l0'
theorem pis_l0_w (C : Kn) (K : Ex → St → Prop) (s : St) : vcC C pis_l0 K s = vcC C pis_l0' K s := nr rfl
def pis_k1' : AC := .seq (.reg (.seq [⟨(some (25, false)), none, .mov (.tmp 3 true) .peek⟩,
      ⟨(some (26, false)), none, .lenL (.tmp 25 false)⟩,
      ⟨(some (27, false)), none, .bin .leq (.tmp 26 false) (.cst (.int .i64 16) (.lit (.int .i64 16)))⟩,
      ⟨(some (2, true)), none, .mov (.tmp 27 false) .asg⟩])) [2] []
  (.ret)
def pis_k1 : AC := pis_k1'
theorem pis_k1_w (C : Kn) (K : Ex → St → Prop) (s : St) : vcC C pis_k1 K s = vcC C pis_k1' K s := nr rfl
def pis : AF := ⟨.seq (.reg (.seq [⟨(some (2, true)), none, .mov (.cst (.bool false) (.lit (.bool false))) .asg⟩])) [0] []
  (.seq (.seq (.reg (.seq [⟨(some (6, false)), none, .mov (.tmp 0 true) .peek⟩,
      ⟨(some (7, false)), none, .bin .eql (.tmp 6 false) (.cst (.string (str [])) (.lit (.string (str []))))⟩,
      ⟨(some (8, false)), none, .mov (.tmp 7 false) .peek⟩,
      ⟨(some (9, false)), (some (8, false)), .mov (.tmp 0 true) .peek⟩,
      ⟨(some (10, false)), (some (8, false)), .len (.tmp 9 false)⟩,
      ⟨(some (11, false)), (some (8, false)), .bin .gtr (.tmp 10 false) (.cst (.int .i64 255) (.lit (.int .i64 255)))⟩,
      ⟨(some (12, false)), none, .pick (.tmp 8 false) (.cst (.bool true) (.lit (.bool true))) (.tmp 11 false)⟩])) [0, 12] []
  (.cond (.tmp 12 false)
    (.seq (.reg (.seq [⟨(some (2, true)), none, .mov (.cst (.bool false) (.lit (.bool false))) .asg⟩])) [2] []
    (.ret))
    (.skip))) [0] []
  (.seq (.reg (.seq [⟨(some (13, false)), none, .mov (.tmp 0 true) .peek⟩,
      ⟨(some (14, false)), none, .call 62 [(.tmp 13 false), (.cst (.string (str [47])) (.lit (.string (str [47]))))]⟩,
      ⟨(some (3, true)), none, .mov (.tmp 14 false) .asg⟩])) [3] []
  (.seq (.seq (.reg (.seq [⟨(some (15, true)), none, .mov (.tmp 3 true) .peek⟩,
      ⟨(some (16, true)), none, .lenL (.tmp 15 true)⟩,
      ⟨(some (17, true)), none, .mov (.cst (.int .i64 0) (.lit (.int .i64 0))) .peek⟩])) [3, 15, 16, 17] []
  (.block 0 (.loop [3, 15, 16, 17] [] pis_l0))) [3] [] pis_k1))),
  [.tmp 2]⟩
theorem pis_comp (m : Int) : compF Tryd.prog (gl m) [] Tryd.f59 = some pis := by kernel_rfl
def pparts : AF := ⟨.seq (.reg (.seq [⟨(some (2, true)), none, .mov (.cst (.slice none 0 0) (.sl .own 1 [])) .asg⟩])) [0] []
  (.seq (.seq (.reg (.seq [⟨(some (3, false)), none, .mov (.tmp 0 true) .peek⟩,
      ⟨(some (4, false)), none, .bin .eql (.tmp 3 false) (.cst (.string (str [])) (.lit (.string (str []))))⟩])) [0, 4] []
  (.cond (.tmp 4 false)
    (.seq (.reg (.seq [⟨(some (2, true)), none, .mov (.cst (.slice none 0 0) (.sl .own 1 [])) .asg⟩])) [2] []
    (.ret))
    (.skip))) [0] []
  (.seq (.reg (.seq [⟨(some (5, false)), none, .mov (.tmp 0 true) .peek⟩,
      ⟨(some (6, false)), none, .call 62 [(.tmp 5 false), (.cst (.string (str [47])) (.lit (.string (str [47]))))]⟩,
      ⟨(some (2, true)), none, .mov (.tmp 6 false) .asg⟩])) [2] []
  (.ret))),
  [.tmp 2]⟩
theorem pparts_comp (m : Int) : compF Tryd.prog (gl m) [] Tryd.f67 = some pparts := by kernel_rfl
def gmatch : AF := ⟨.seq (.reg (.seq [⟨(some (4, true)), none, .mov (.cst (.bool false) (.lit (.bool false))) .asg⟩])) [0, 1] []
  (.seq (.reg (.seq [⟨(some (5, false)), none, .mov (.tmp 0 true) .peek⟩,
      ⟨(some (6, false)), none, .call 35 [(.tmp 5 false)]⟩,
      ⟨(some (7, false)), none, .mov (.tmp 6 false) .peek⟩,
      ⟨(some (8, false)), (some (7, true)), .mov (.tmp 1 true) .peek⟩,
      ⟨(some (9, false)), (some (7, true)), .call 59 [(.tmp 8 false)]⟩,
      ⟨(some (10, false)), none, .pick (.tmp 7 false) (.tmp 9 false) (.cst (.bool false) (.lit (.bool false)))⟩,
      ⟨(some (11, false)), none, .mov (.tmp 10 false) .peek⟩,
      ⟨(some (12, false)), (some (11, true)), .mov (.tmp 0 true) .peek⟩,
      ⟨(some (13, false)), (some (11, true)), .call 62 [(.tmp 12 false), (.cst (.string (str [47])) (.lit (.string (str [47]))))]⟩,
      ⟨(some (14, false)), (some (11, true)), .mov (.tmp 1 true) .peek⟩,
      ⟨(some (15, false)), (some (11, true)), .call 67 [(.tmp 14 false)]⟩,
      ⟨(some (16, false)), (some (11, true)), .call 66 [(.tmp 13 false), (.tmp 15 false)]⟩,
      ⟨(some (17, false)), none, .pick (.tmp 11 false) (.tmp 16 false) (.cst (.bool false) (.lit (.bool false)))⟩,
      ⟨(some (4, true)), none, .mov (.tmp 17 false) .asg⟩])) [4] []
  (.ret)),
  [.tmp 4]⟩
theorem gmatch_comp (m : Int) : compF Tryd.prog (gl m) [] Tryd.f38 = some gmatch := by kernel_rfl
def gPart2 : AF := ⟨.seq (.reg (.seq [⟨(some (4, true)), none, .mov (.cst (.bool false) (.lit (.bool false))) .asg⟩])) [0, 1] []
  (.seq (.reg (.seq [⟨(some (5, false)), none, .mov (.tmp 0 true) .peek⟩,
      ⟨(some (6, false)), none, .call 35 [(.tmp 5 false)]⟩,
      ⟨(some (7, false)), none, .mov (.tmp 6 false) .peek⟩,
      ⟨(some (8, false)), (some (7, true)), .mov (.tmp 0 true) .peek⟩,
      ⟨(some (9, false)), (some (7, true)), .call 70 [(.tmp 8 false), (.cst (.string (str [47])) (.lit (.string (str [47]))))]⟩,
      ⟨(some (10, false)), (some (7, true)), .un .not (.tmp 9 false)⟩,
      ⟨(some (11, false)), none, .pick (.tmp 7 false) (.tmp 10 false) (.cst (.bool false) (.lit (.bool false)))⟩,
      ⟨(some (12, false)), none, .mov (.tmp 11 false) .peek⟩,
      ⟨(some (13, false)), (some (12, true)), .mov (.tmp 1 true) .peek⟩,
      ⟨(some (14, false)), (some (12, true)), .call 70 [(.tmp 13 false), (.cst (.string (str [47])) (.lit (.string (str [47]))))]⟩,
      ⟨(some (15, false)), (some (12, true)), .un .not (.tmp 14 false)⟩,
      ⟨(some (16, false)), none, .pick (.tmp 12 false) (.tmp 15 false) (.cst (.bool false) (.lit (.bool false)))⟩,
      ⟨(some (17, false)), none, .mov (.tmp 16 false) .peek⟩,
      ⟨(some (18, false)), (some (17, true)), .mov (.tmp 0 true) .peek⟩,
      ⟨(some (19, false)), (some (17, true)), .mov (.tmp 1 true) .peek⟩,
      ⟨(some (20, false)), (some (17, true)), .call 71 [(.tmp 18 false), (.tmp 19 false)]⟩,
      ⟨(some (21, false)), none, .pick (.tmp 17 false) (.tmp 20 false) (.cst (.bool false) (.lit (.bool false)))⟩,
      ⟨(some (4, true)), none, .mov (.tmp 21 false) .asg⟩])) [4] []
  (.ret)),
  [.tmp 4]⟩
theorem gPart2_comp (m : Int) : compF Tryd.prog (gl m) [] Tryd.f47 = some gPart2 := by kernel_rfl
theorem le32 (c : UInt8) : decide ((c.toNat : Int) < 32) = !decide (32 ≤ c) := by
  rw [Bool.eq_iff_iff, decide_eq_true_iff, Bool.not_eq_true', decide_eq_false_iff_not, UInt8.le_iff_toNat_le]
  have : (32 : UInt8).toNat = 32 := rfl
  omega
theorem ppart_loop (s : Ln.Bs) (hs : s.length ≤ 1048576) (n : Nat) : ∀ (i : Nat) (hn : s.length - i = n) (hi : i ≤ s.length),
    vcL (kn m) [0, 25, 26] [] ppart_l0 (blockK 0 (seqK (kn m) [] [] ppart_k1 (outOk [.tmp 2] (B ((s.drop i).all fun c => decide (32 ≤ c)))))) (mkS [(0, S s), (25, N s.length), (26, N i)] []) := by
  induction n with
  | zero =>
    intro i hn hi
    apply round
    simp only [ppart_l0_w, ppart_l0', go_sem, reduceCtorEq, Nat.reduceEqDiff, reduceIte, Nat.reduceAdd, Nat.reduceSub, Nat.reduceLeDiff, Int.reduceToNat, Nat.reduceBEq]
    rw [lt_f (by omega), List.drop_of_length_le (by omega)]
    simp only [ppart_k1_w, ppart_k1', go_sem, reduceCtorEq, Nat.reduceEqDiff, reduceIte, Nat.reduceAdd, Nat.reduceSub, Nat.reduceLeDiff, Int.reduceToNat, Nat.reduceBEq]
  | succ n ih =>
    intro i hn hi
    have hil : i < s.length := by omega
    have hw : IntKind.i64.wrap ((i : Int) + 1) = ((i + 1 : Nat) : Int) := wrapN (i + 1) (by omega) (by omega)
    rw [List.drop_eq_getElem_cons hil, List.all_cons]
    apply round
    simp only [ppart_l0_w, ppart_l0', go_sem, reduceCtorEq, Nat.reduceEqDiff, reduceIte, Nat.reduceAdd, Nat.reduceSub, Nat.reduceLeDiff, Int.reduceToNat, Nat.reduceBEq]
    rw [lt_t hil]
    simp only [getE hil, le32, go_sem, reduceCtorEq, Nat.reduceEqDiff, reduceIte, Nat.reduceAdd, Nat.reduceSub, Nat.reduceLeDiff, Int.reduceToNat, Nat.reduceBEq]
    refine ⟨by omega, ?_⟩
    cases hd : decide (32 ≤ s[i]) with
    | true =>
      simp only [hw, go_sem, reduceCtorEq, Nat.reduceEqDiff, reduceIte, Nat.reduceAdd, Nat.reduceSub, Nat.reduceLeDiff, Int.reduceToNat, Nat.reduceBEq]
      exact ih (i + 1) (by omega) (by omega)
    | false =>
      simp only [Bool.false_and, go_sem, reduceCtorEq, Nat.reduceEqDiff, reduceIte, Nat.reduceAdd, Nat.reduceSub, Nat.reduceLeDiff, Int.reduceToNat, Nat.reduceBEq]
theorem ppart_snd (s : Ln.Bs) (hs : s.length ≤ 1048576) : Snd Tryd.prog (gl m) 85 [S s] (B (okPart s)) := by
  refine snd_of (fn := Tryd.f85) (af := ppart) Tryd.func85 (ppart_comp m) mixed (kn_ok m) (Nat.le_of_ble_eq_true rfl) ?_
  simp only [ppart, go_sem, reduceCtorEq, Nat.reduceEqDiff, reduceIte, Nat.reduceAdd, Nat.reduceSub, Nat.reduceLeDiff, Int.reduceToNat, Nat.reduceBEq]
  by_cases h1 : 1 ≤ s.length
  · rw [ilt_f (by omega)]
    simp only [go_sem, reduceCtorEq, Nat.reduceEqDiff, reduceIte, Nat.reduceAdd, Nat.reduceSub, Nat.reduceLeDiff, Int.reduceToNat, Nat.reduceBEq]
    by_cases h2 : s.length ≤ 64
    · rw [igt_f (by omega)]
      simp only [go_sem, reduceCtorEq, Nat.reduceEqDiff, reduceIte, Nat.reduceAdd, Nat.reduceSub, Nat.reduceLeDiff, Int.reduceToNat, Nat.reduceBEq]
      by_cases h3 : s = [46]
      · rw [se_t h3, show okPart s = false by rw [h3]; rfl]
        simp only [go_sem, reduceCtorEq, Nat.reduceEqDiff, reduceIte, Nat.reduceAdd, Nat.reduceSub, Nat.reduceLeDiff, Int.reduceToNat, Nat.reduceBEq]
      · rw [se_f h3]
        simp only [go_sem, reduceCtorEq, Nat.reduceEqDiff, reduceIte, Nat.reduceAdd, Nat.reduceSub, Nat.reduceLeDiff, Int.reduceToNat, Nat.reduceBEq]
        by_cases h4 : s = [46, 46]
        · rw [se_t h4, show okPart s = false by rw [h4]; rfl]
          simp only [go_sem, reduceCtorEq, Nat.reduceEqDiff, reduceIte, Nat.reduceAdd, Nat.reduceSub, Nat.reduceLeDiff, Int.reduceToNat, Nat.reduceBEq]
        · rw [se_f h4]
          simp only [go_sem, reduceCtorEq, Nat.reduceEqDiff, reduceIte, Nat.reduceAdd, Nat.reduceSub, Nat.reduceLeDiff, Int.reduceToNat, Nat.reduceBEq]
          by_cases h5 : s = [46, 103, 114, 97, 102, 116]
          · rw [se_t h5, show okPart s = false by rw [h5]; rfl]
            simp only [go_sem, reduceCtorEq, Nat.reduceEqDiff, reduceIte, Nat.reduceAdd, Nat.reduceSub, Nat.reduceLeDiff, Int.reduceToNat, Nat.reduceBEq]
          · rw [se_f h5]
            simp only [go_sem, reduceCtorEq, Nat.reduceEqDiff, reduceIte, Nat.reduceAdd, Nat.reduceSub, Nat.reduceLeDiff, Int.reduceToNat, Nat.reduceBEq]
            rw [show okPart s = (s.drop 0).all fun c => decide (32 ≤ c) by simp [okPart, h1, h2, h3, h4, h5]]
            exact ppart_loop s hs _ 0 rfl (by omega)
    · rw [igt_t (by omega), show okPart s = false by simp [okPart, h2]]
      simp only [go_sem, reduceCtorEq, Nat.reduceEqDiff, reduceIte, Nat.reduceAdd, Nat.reduceSub, Nat.reduceLeDiff, Int.reduceToNat, Nat.reduceBEq]
  · rw [ilt_t (by omega), show okPart s = false by simp [okPart, h1]]
    simp only [go_sem, reduceCtorEq, Nat.reduceEqDiff, reduceIte, Nat.reduceAdd, Nat.reduceSub, Nat.reduceLeDiff, Int.reduceToNat, Nat.reduceBEq]
theorem pis_loop (L : List Ln.Bs) (hL : L.length ≤ 1048576) (hb : ∀ l, l ∈ L → l.length ≤ 1048576) (n : Nat) : ∀ (i : Nat) (hn : L.length - i = n) (hi : i ≤ L.length),
    vcL (kn m) [3, 15, 16, 17] [] pis_l0 (blockK 0 (seqK (kn m) [3] [] pis_k1 (outOk [.tmp 2] (B ((L.drop i).all okPart && decide (L.length ≤ 16)))))) (mkS [(3, .sl .own 1 (ss L)), (15, .bor ⟨.slot 3, []⟩), (16, N L.length), (17, N i)] []) := by
  induction n with
  | zero =>
    intro i hn hi
    apply round
    simp only [pis_l0_w, pis_l0', go_sem, reduceCtorEq, Nat.reduceEqDiff, reduceIte, Nat.reduceAdd, Nat.reduceSub, Nat.reduceLeDiff, Int.reduceToNat, Nat.reduceBEq]
    rw [lt_f (by omega), List.drop_of_length_le (by omega)]
    simp only [pis_k1_w, pis_k1', go_sem, reduceCtorEq, Nat.reduceEqDiff, reduceIte, Nat.reduceAdd, Nat.reduceSub, Nat.reduceLeDiff, Int.reduceToNat, Nat.reduceBEq]
    have e : decide ((L.length : Int) ≤ 16) = decide (L.length ≤ 16) := by rw [Bool.eq_iff_iff, decide_eq_true_iff, decide_eq_true_iff]; omega
    rw [e]
  | succ n ih =>
    intro i hn hi
    have hil : i < L.length := by omega
    have hlb := hb _ (List.getElem_mem hil)
    have hw : IntKind.i64.wrap ((i : Int) + 1) = ((i + 1 : Nat) : Int) := wrapN (i + 1) (by omega) (by omega)
    rw [List.drop_eq_getElem_cons hil, List.all_cons]
    apply round
    simp only [pis_l0_w, pis_l0', go_sem, reduceCtorEq, Nat.reduceEqDiff, reduceIte, Nat.reduceAdd, Nat.reduceSub, Nat.reduceLeDiff, Int.reduceToNat, Nat.reduceBEq]
    rw [lt_t hil]
    simp only [ssE L hil, go_sem, reduceCtorEq, Nat.reduceEqDiff, reduceIte, Nat.reduceAdd, Nat.reduceSub, Nat.reduceLeDiff, Int.reduceToNat, Nat.reduceBEq]
    repeat (refine ⟨by (try simp only [List.length_append, List.length_cons, List.length_nil]); omega, ?_⟩)
    refine of_call (ppart_snd L[i] (by omega)) ?_
    simp only [unVal, go_sem, reduceCtorEq, Nat.reduceEqDiff, reduceIte, Nat.reduceAdd, Nat.reduceSub, Nat.reduceLeDiff, Int.reduceToNat, Nat.reduceBEq]
    cases hd : okPart L[i] with
    | true =>
      simp only [hw, go_sem, reduceCtorEq, Nat.reduceEqDiff, reduceIte, Nat.reduceAdd, Nat.reduceSub, Nat.reduceLeDiff, Int.reduceToNat, Nat.reduceBEq]
      exact ih (i + 1) (by omega) (by omega)
    | false =>
      simp only [Bool.false_and, go_sem, reduceCtorEq, Nat.reduceEqDiff, reduceIte, Nat.reduceAdd, Nat.reduceSub, Nat.reduceLeDiff, Int.reduceToNat, Nat.reduceBEq]
theorem pis_snd (p : Ln.Bs) (hp : p.length ≤ 1048576) : Snd Tryd.prog (gl m) 59 [S p] (B (isPath p)) := by
  refine snd_of (fn := Tryd.f59) (af := pis) Tryd.func59 (pis_comp m) mixed (kn_ok m) (Nat.le_of_ble_eq_true rfl) ?_
  simp only [pis, go_sem, reduceCtorEq, Nat.reduceEqDiff, reduceIte, Nat.reduceAdd, Nat.reduceSub, Nat.reduceLeDiff, Int.reduceToNat, Nat.reduceBEq]
  have hpl := pieces_len p
  by_cases h1 : p = []
  · rw [se_t h1, show isPath p = false by simp [isPath, h1]]
    simp only [go_sem, reduceCtorEq, Nat.reduceEqDiff, reduceIte, Nat.reduceAdd, Nat.reduceSub, Nat.reduceLeDiff, Int.reduceToNat, Nat.reduceBEq]
  · rw [se_f h1]
    simp only [go_sem, reduceCtorEq, Nat.reduceEqDiff, reduceIte, Nat.reduceAdd, Nat.reduceSub, Nat.reduceLeDiff, Int.reduceToNat, Nat.reduceBEq]
    by_cases h2 : p.length ≤ 255
    · rw [igt_f (by omega)]
      simp only [go_sem, reduceCtorEq, Nat.reduceEqDiff, reduceIte, Nat.reduceAdd, Nat.reduceSub, Nat.reduceLeDiff, Int.reduceToNat, Nat.reduceBEq]
      refine of_call (split_snd p hp) ?_
      simp only [go_sem, reduceCtorEq, Nat.reduceEqDiff, reduceIte, Nat.reduceAdd, Nat.reduceSub, Nat.reduceLeDiff, Int.reduceToNat, Nat.reduceBEq]
      have := pis_loop (m := m) (pieces p) (by omega) (fun l hl => by have := piece_len hl; omega) _ 0 rfl (by omega)
      rw [show isPath p = (((pieces p).drop 0).all okPart && decide ((pieces p).length ≤ 16)) by simp [isPath, h1, h2]]
      exact this
    · rw [igt_t (by omega), show isPath p = false by simp [isPath, h2]]
      simp only [go_sem, reduceCtorEq, Nat.reduceEqDiff, reduceIte, Nat.reduceAdd, Nat.reduceSub, Nat.reduceLeDiff, Int.reduceToNat, Nat.reduceBEq]
theorem pparts_snd (p : Ln.Bs) (hp : p.length ≤ 1048576) : Snd Tryd.prog (gl m) 67 [S p] (.sl .own 1 (ss (parts p))) := by
  refine snd_of (fn := Tryd.f67) (af := pparts) Tryd.func67 (pparts_comp m) mixed (kn_ok m) (Nat.le_of_ble_eq_true rfl) ?_
  simp only [pparts, go_sem, reduceCtorEq, Nat.reduceEqDiff, reduceIte, Nat.reduceAdd, Nat.reduceSub, Nat.reduceLeDiff, Int.reduceToNat, Nat.reduceBEq]
  unfold parts
  by_cases h1 : p = []
  · rw [se_t h1, if_pos h1]
    simp only [go_sem, reduceCtorEq, Nat.reduceEqDiff, reduceIte, Nat.reduceAdd, Nat.reduceSub, Nat.reduceLeDiff, Int.reduceToNat, Nat.reduceBEq]
    rfl
  · rw [se_f h1, if_neg h1]
    simp only [go_sem, reduceCtorEq, Nat.reduceEqDiff, reduceIte, Nat.reduceAdd, Nat.reduceSub, Nat.reduceLeDiff, Int.reduceToNat, Nat.reduceBEq]
    refine of_call (split_snd p hp) ?_
    simp only [go_sem, reduceCtorEq, Nat.reduceEqDiff, reduceIte, Nat.reduceAdd, Nat.reduceSub, Nat.reduceLeDiff, Int.reduceToNat, Nat.reduceBEq]
theorem good_toks {x : Ln.Bs} (h : good x = true) : ∃ L, toks x = some L := by
  simp only [good, Bool.and_eq_true] at h
  exact Option.isSome_iff_exists.1 h.2
theorem parts_len (p : Ln.Bs) : (parts p).length ≤ p.length + 1 := by
  unfold parts; split
  · simp
  · exact pieces_len p
theorem part_len {p x : Ln.Bs} (h : x ∈ parts p) : x.length ≤ p.length := by
  unfold parts at h
  split at h
  · cases h
  · exact piece_len h
theorem gmatch_snd (p s : Ln.Bs) (hp : p.length ≤ 1048575) (hs : s.length ≤ 1048575) : Snd Tryd.prog (gl m) 38 [S p, S s] (B (matchF p s)) := by
  refine snd_of (fn := Tryd.f38) (af := gmatch) Tryd.func38 (gmatch_comp m) mixed (kn_ok m) (Nat.le_of_ble_eq_true rfl) ?_
  simp only [gmatch, go_sem, reduceCtorEq, Nat.reduceEqDiff, reduceIte, Nat.reduceAdd, Nat.reduceSub, Nat.reduceLeDiff, Int.reduceToNat, Nat.reduceBEq]
  have h3 := pieces_len p
  have h4 := parts_len s
  refine of_call (gis_snd p (by omega)) ?_
  simp only [go_sem, reduceCtorEq, Nat.reduceEqDiff, reduceIte, Nat.reduceAdd, Nat.reduceSub, Nat.reduceLeDiff, Int.reduceToNat, Nat.reduceBEq]
  unfold matchF
  cases h1 : isPat p with
  | false => simp only [Bool.false_and, go_sem, reduceCtorEq, Nat.reduceEqDiff, reduceIte, Nat.reduceAdd, Nat.reduceSub, Nat.reduceLeDiff, Int.reduceToNat, Nat.reduceBEq]
  | true =>
    simp only [go_sem, reduceCtorEq, Nat.reduceEqDiff, reduceIte, Nat.reduceAdd, Nat.reduceSub, Nat.reduceLeDiff, Int.reduceToNat, Nat.reduceBEq]
    refine of_call (pis_snd s (by omega)) ?_
    simp only [go_sem, reduceCtorEq, Nat.reduceEqDiff, reduceIte, Nat.reduceAdd, Nat.reduceSub, Nat.reduceLeDiff, Int.reduceToNat, Nat.reduceBEq]
    cases h2 : isPath s with
    | false => simp only [Bool.false_and, go_sem, reduceCtorEq, Nat.reduceEqDiff, reduceIte, Nat.reduceAdd, Nat.reduceSub, Nat.reduceLeDiff, Int.reduceToNat, Nat.reduceBEq]
    | true =>
      simp only [go_sem, reduceCtorEq, Nat.reduceEqDiff, reduceIte, Nat.reduceAdd, Nat.reduceSub, Nat.reduceLeDiff, Int.reduceToNat, Nat.reduceBEq]
      refine of_call (split_snd p (by omega)) ?_
      simp only [go_sem, reduceCtorEq, Nat.reduceEqDiff, reduceIte, Nat.reduceAdd, Nat.reduceSub, Nat.reduceLeDiff, Int.reduceToNat, Nat.reduceBEq]
      refine of_call (pparts_snd s (by omega)) ?_
      simp only [go_sem, reduceCtorEq, Nat.reduceEqDiff, reduceIte, Nat.reduceAdd, Nat.reduceSub, Nat.reduceLeDiff, Int.reduceToNat, Nat.reduceBEq]
      have hg : ∀ x, x ∈ pieces p → ∃ L, toks x = some L := fun x hx => by
        simp only [isPat, Bool.and_eq_true] at h1
        exact good_toks (List.all_eq_true.1 h1.2 x hx)
      refine of_call (gparts_snd (pieces p) (parts s) (by omega) (by omega) (fun l hl => by have := part_len hl; omega) (fun l hl => by have := piece_len hl; omega) hg) ?_
      simp only [go_sem, reduceCtorEq, Nat.reduceEqDiff, reduceIte, Nat.reduceAdd, Nat.reduceSub, Nat.reduceLeDiff, Int.reduceToNat, Nat.reduceBEq]
def partP (p s : Ln.Bs) : Bool := isPat p && !p.contains 47 && !s.contains 47 && partF p s
theorem pieces_free {p : Ln.Bs} (h : p.contains 47 = false) : pieces p = [p] := by
  refine pieces_none (Ln.idx_none fun j hj e => ?_)
  rw [getE hj] at e
  injection e with e
  have : p.contains 47 = true := List.contains_iff_mem.2 (by rw [← e]; exact List.getElem_mem hj)
  rw [h] at this; cases this
theorem gPart_snd (p s : Ln.Bs) (hp : p.length ≤ 1048575) (hs : s.length ≤ 1048575) : Snd Tryd.prog (gl m) 47 [S p, S s] (B (partP p s)) := by
  refine snd_of (fn := Tryd.f47) (af := gPart2) Tryd.func47 (gPart2_comp m) mixed (kn_ok m) (Nat.le_of_ble_eq_true rfl) ?_
  simp only [gPart2, go_sem, reduceCtorEq, Nat.reduceEqDiff, reduceIte, Nat.reduceAdd, Nat.reduceSub, Nat.reduceLeDiff, Int.reduceToNat, Nat.reduceBEq]
  refine of_call (gis_snd p (by omega)) ?_
  simp only [go_sem, reduceCtorEq, Nat.reduceEqDiff, reduceIte, Nat.reduceAdd, Nat.reduceSub, Nat.reduceLeDiff, Int.reduceToNat, Nat.reduceBEq]
  unfold partP
  cases h1 : isPat p with
  | false => simp only [Bool.false_and, go_sem, reduceCtorEq, Nat.reduceEqDiff, reduceIte, Nat.reduceAdd, Nat.reduceSub, Nat.reduceLeDiff, Int.reduceToNat, Nat.reduceBEq]
  | true =>
    simp only [go_sem, reduceCtorEq, Nat.reduceEqDiff, reduceIte, Nat.reduceAdd, Nat.reduceSub, Nat.reduceLeDiff, Int.reduceToNat, Nat.reduceBEq]
    refine of_call (contains_snd p (by omega)) ?_
    simp only [unVal, go_sem, reduceCtorEq, Nat.reduceEqDiff, reduceIte, Nat.reduceAdd, Nat.reduceSub, Nat.reduceLeDiff, Int.reduceToNat, Nat.reduceBEq]
    cases h2 : p.contains 47 with
    | true => simp only [Bool.false_and, go_sem, reduceCtorEq, Nat.reduceEqDiff, reduceIte, Nat.reduceAdd, Nat.reduceSub, Nat.reduceLeDiff, Int.reduceToNat, Nat.reduceBEq]
    | false =>
      simp only [go_sem, reduceCtorEq, Nat.reduceEqDiff, reduceIte, Nat.reduceAdd, Nat.reduceSub, Nat.reduceLeDiff, Int.reduceToNat, Nat.reduceBEq]
      refine of_call (contains_snd s (by omega)) ?_
      simp only [unVal, go_sem, reduceCtorEq, Nat.reduceEqDiff, reduceIte, Nat.reduceAdd, Nat.reduceSub, Nat.reduceLeDiff, Int.reduceToNat, Nat.reduceBEq]
      cases h3 : s.contains 47 with
      | true => simp only [Bool.false_and, go_sem, reduceCtorEq, Nat.reduceEqDiff, reduceIte, Nat.reduceAdd, Nat.reduceSub, Nat.reduceLeDiff, Int.reduceToNat, Nat.reduceBEq]
      | false =>
        simp only [go_sem, reduceCtorEq, Nat.reduceEqDiff, reduceIte, Nat.reduceAdd, Nat.reduceSub, Nat.reduceLeDiff, Int.reduceToNat, Nat.reduceBEq]
        obtain ⟨L, hL⟩ : ∃ L, toks p = some L := by
          simp only [isPat, Bool.and_eq_true, pieces_free h2, List.all_cons, List.all_nil] at h1
          exact good_toks h1.2.1
        refine of_call (gpart_snd p s (by omega) (by omega) L hL) ?_
        rw [partF, hL]
        simp only [go_sem, reduceCtorEq, Nat.reduceEqDiff, reduceIte, Nat.reduceAdd, Nat.reduceSub, Nat.reduceLeDiff, Int.reduceToNat, Nat.reduceBEq]
end Go.Gb

/- Glob: Literal at one text; the library lives. -/
namespace Go.Gb
open Go Go.Ev Go.Proofs
open Go.Ln (u8b_t u8b_f u8n_t u8n_f getX idx idx_eq)
set_option linter.unusedVariables false
set_option linter.unusedSimpArgs false
attribute [local go_sem] eqs implies_true List.map_cons List.map_nil kl klL roD roL Option.map_some Option.map_none Option.getD_some Option.getD_none binVal binObl unVal if_true if_false eq_self passA frnD resD content getH getR getW viaNot viaSlot viaBox viaDeep viaMem List.contains_cons List.contains_nil grabs peeks okCells isCell place cellsOf chunk elt List.headD_cons List.length_cons List.length_nil List.take_succ_cons List.take_zero List.drop_succ_cons List.drop_zero List.nil_append List.cons_append List.append_nil List.all_cons List.all_nil plainC takeR setW over reCell List.getElem?_cons_zero List.getElem?_cons_succ List.set_cons_zero List.take_length outV resG plainV pack outVG outBx List.set_cons_succ Ref.idx Ref.addOff beq_self_eq_true bxL Option.bind_some writeR isLit viaBoxes capsPA boxPA nsOf noDup boxesAt argG passG passD rhoIn rhoOut idxIn tr trL List.getD_cons_zero gives pasOf isPtr Ins.d List.getD_cons_succ resL frnL
variable {m : Int}

def glit : AF := ⟨.seq (.reg (.seq [⟨(some (2, true)), none, .mov (.cst (.string (str [])) (.lit (.string (str [])))) .asg⟩,
      ⟨(some (3, true)), none, .mov (.cst (.bool false) (.lit (.bool false))) .asg⟩])) [0] []
  (.seq (.seq (.reg (.seq [⟨(some (4, false)), none, .mov (.tmp 0 true) .peek⟩,
      ⟨(some (5, false)), none, .call 35 [(.tmp 4 false)]⟩,
      ⟨(some (6, false)), none, .un .not (.tmp 5 false)⟩,
      ⟨(some (7, false)), none, .mov (.tmp 6 false) .peek⟩,
      ⟨(some (8, false)), (some (7, false)), .mov (.tmp 0 true) .peek⟩,
      ⟨(some (9, false)), (some (7, false)), .call 59 [(.tmp 8 false)]⟩,
      ⟨(some (10, false)), (some (7, false)), .un .not (.tmp 9 false)⟩,
      ⟨(some (11, false)), none, .pick (.tmp 7 false) (.cst (.bool true) (.lit (.bool true))) (.tmp 10 false)⟩,
      ⟨(some (12, false)), none, .mov (.tmp 11 false) .peek⟩,
      ⟨(some (13, false)), (some (12, false)), .mov (.tmp 0 true) .peek⟩,
      ⟨(some (14, false)), (some (12, false)), .call 60 [(.tmp 13 false), (.cst (.string (str [63, 42, 91, 92])) (.lit (.string (str [63, 42, 91, 92]))))]⟩,
      ⟨(some (15, false)), none, .pick (.tmp 12 false) (.cst (.bool true) (.lit (.bool true))) (.tmp 14 false)⟩])) [0, 15] []
  (.cond (.tmp 15 false)
    (.seq (.reg (.seq [⟨(some (2, true)), none, .mov (.cst (.string (str [])) (.lit (.string (str [])))) .asg⟩,
      ⟨(some (3, true)), none, .mov (.cst (.bool false) (.lit (.bool false))) .asg⟩])) [2, 3] []
    (.ret))
    (.skip))) [0] []
  (.seq (.reg (.seq [⟨(some (16, false)), none, .mov (.tmp 0 true) .take⟩,
      ⟨(some (2, true)), none, .mov (.tmp 16 false) .asg⟩,
      ⟨(some (3, true)), none, .mov (.cst (.bool true) (.lit (.bool true))) .asg⟩])) [2, 3] []
  (.ret))),
  [.tmp 2, .tmp 3]⟩
theorem glit_comp (m : Int) : compF Tryd.prog (gl m) [] Tryd.f33 = some glit := by kernel_rfl
def gcov : AF := ⟨.seq (.reg (.seq [⟨(some (4, true)), none, .mov (.cst (.bool false) (.lit (.bool false))) .asg⟩])) [0, 1] []
  (.seq (.reg (.seq [⟨(some (8, false)), none, .mov (.tmp 1 true) .peek⟩,
      ⟨(some (9, false)), none, .call 33 [(.tmp 8 false)]⟩,
      ⟨(some (7, false)), none, .mov (.tmp 9 false) .peek⟩,
      ⟨(some (10, false)), none, .ext (.tmp 7 false) 0⟩,
      ⟨(some (11, false)), none, .ext (.tmp 7 false) 1⟩,
      ⟨(some (5, true)), none, .mov (.tmp 10 false) .asg⟩,
      ⟨(some (6, true)), none, .mov (.tmp 11 false) .asg⟩])) [0, 5, 6] []
  (.seq (.reg (.seq [⟨(some (12, false)), none, .mov (.tmp 6 true) .peek⟩,
      ⟨(some (13, false)), none, .mov (.tmp 12 false) .peek⟩,
      ⟨(some (14, false)), (some (13, true)), .mov (.tmp 0 true) .peek⟩,
      ⟨(some (15, false)), (some (13, true)), .mov (.tmp 5 true) .peek⟩,
      ⟨(some (16, false)), (some (13, true)), .call 38 [(.tmp 14 false), (.tmp 15 false)]⟩,
      ⟨(some (17, false)), none, .pick (.tmp 13 false) (.tmp 16 false) (.cst (.bool false) (.lit (.bool false)))⟩,
      ⟨(some (4, true)), none, .mov (.tmp 17 false) .asg⟩])) [4] []
  (.ret))),
  [.tmp 4]⟩
theorem gcov_comp (m : Int) : compF Tryd.prog (gl m) [] Tryd.f40 = some gcov := by kernel_rfl
def glives : AF := ⟨.seq (.reg (.seq [⟨(some (0, true)), none, .mov (.cst (.bool false) (.lit (.bool false))) .asg⟩])) [] []
  (.seq (.reg (.seq [⟨(some (1, false)), none, .call 38 [(.cst (.string (str [97, 47, 42, 42])) (.lit (.string (str [97, 47, 42, 42])))), (.cst (.string (str [97])) (.lit (.string (str [97]))))]⟩,
      ⟨(some (2, false)), none, .mov (.tmp 1 false) .peek⟩,
      ⟨(some (3, false)), (some (2, true)), .call 38 [(.cst (.string (str [97, 47, 42, 42])) (.lit (.string (str [97, 47, 42, 42])))), (.cst (.string (str [97, 47, 98, 47, 99])) (.lit (.string (str [97, 47, 98, 47, 99]))))]⟩,
      ⟨(some (4, false)), none, .pick (.tmp 2 false) (.tmp 3 false) (.cst (.bool false) (.lit (.bool false)))⟩,
      ⟨(some (5, false)), none, .mov (.tmp 4 false) .peek⟩,
      ⟨(some (6, false)), (some (5, true)), .call 38 [(.cst (.string (str [91, 97, 45, 99, 93, 63])) (.lit (.string (str [91, 97, 45, 99, 93, 63])))), (.cst (.string (str [98, 49])) (.lit (.string (str [98, 49]))))]⟩,
      ⟨(some (7, false)), none, .pick (.tmp 5 false) (.tmp 6 false) (.cst (.bool false) (.lit (.bool false)))⟩,
      ⟨(some (8, false)), none, .mov (.tmp 7 false) .peek⟩,
      ⟨(some (9, false)), (some (8, true)), .call 38 [(.cst (.string (str [91, 33, 97, 93])) (.lit (.string (str [91, 33, 97, 93])))), (.cst (.string (str [97])) (.lit (.string (str [97]))))]⟩,
      ⟨(some (10, false)), (some (8, true)), .un .not (.tmp 9 false)⟩,
      ⟨(some (11, false)), none, .pick (.tmp 8 false) (.tmp 10 false) (.cst (.bool false) (.lit (.bool false)))⟩,
      ⟨(some (12, false)), none, .mov (.tmp 11 false) .peek⟩,
      ⟨(some (13, false)), (some (12, true)), .call 38 [(.cst (.string (str [97, 92, 42])) (.lit (.string (str [97, 92, 42])))), (.cst (.string (str [97, 42])) (.lit (.string (str [97, 42]))))]⟩,
      ⟨(some (14, false)), none, .pick (.tmp 12 false) (.tmp 13 false) (.cst (.bool false) (.lit (.bool false)))⟩,
      ⟨(some (15, false)), none, .mov (.tmp 14 false) .peek⟩,
      ⟨(some (16, false)), (some (15, true)), .call 38 [(.cst (.string (str [97, 92, 42])) (.lit (.string (str [97, 92, 42])))), (.cst (.string (str [97, 98])) (.lit (.string (str [97, 98]))))]⟩,
      ⟨(some (17, false)), (some (15, true)), .un .not (.tmp 16 false)⟩,
      ⟨(some (18, false)), none, .pick (.tmp 15 false) (.tmp 17 false) (.cst (.bool false) (.lit (.bool false)))⟩,
      ⟨(some (19, false)), none, .mov (.tmp 18 false) .peek⟩,
      ⟨(some (20, false)), (some (19, true)), .call 40 [(.cst (.string (str [42])) (.lit (.string (str [42])))), (.cst (.string (str [120])) (.lit (.string (str [120]))))]⟩,
      ⟨(some (21, false)), none, .pick (.tmp 19 false) (.tmp 20 false) (.cst (.bool false) (.lit (.bool false)))⟩,
      ⟨(some (0, true)), none, .mov (.tmp 21 false) .asg⟩])) [0] []
  (.ret)),
  [.tmp 0]⟩
theorem glives_comp (m : Int) : compF Tryd.prog (gl m) [] Tryd.f32 = some glives := by kernel_rfl
theorem containsAny_snd (s c : Ln.Bs) (hs : s.length ≤ 1048576) (hc : c.length ≤ 1048576) (h1 : ∀ (j : Nat) b, s[j]? = some b → b.toNat < 128) (h2 : ∀ (j : Nat) b, c[j]? = some b → b.toNat < 128) : Snd Tryd.prog (gl m) 60 [S s, S c] (B (Lib.containsAny s c)) :=
  snd_below (us := [.string (str s), .string (str c)]) rfl fun w zf h => by
    have := Tryd.strings_ContainsAny_laid (str s) (str c) w (by rw [str_size]; omega) (by rw [str_size]; omega) (by rw [str_dataL]; exact h1) (by rw [str_dataL]; exact h2)
    simp only [str_dataL] at this; exact this
theorem glit_x : Snd Tryd.prog (gl m) 33 [S [120]] (.tup [S [120], B true]) := by
  refine snd_of (fn := Tryd.f33) (af := glit) Tryd.func33 (glit_comp m) mixed (kn_ok m) (Nat.le_of_ble_eq_true rfl) ?_
  simp only [glit, go_sem, reduceCtorEq, Nat.reduceEqDiff, reduceIte, Nat.reduceAdd, Nat.reduceSub, Nat.reduceLeDiff, Int.reduceToNat, Nat.reduceBEq]
  refine of_call (gis_snd [120] (by decide)) ?_
  rw [show isPat [120] = true by decide +kernel]
  simp only [unVal, go_sem, reduceCtorEq, Nat.reduceEqDiff, reduceIte, Nat.reduceAdd, Nat.reduceSub, Nat.reduceLeDiff, Int.reduceToNat, Nat.reduceBEq]
  refine of_call (pis_snd [120] (by decide)) ?_
  rw [show isPath [120] = true by decide +kernel]
  simp only [unVal, go_sem, reduceCtorEq, Nat.reduceEqDiff, reduceIte, Nat.reduceAdd, Nat.reduceSub, Nat.reduceLeDiff, Int.reduceToNat, Nat.reduceBEq]
  refine of_call (containsAny_snd [120] [63, 42, 91, 92] (by decide) (by decide) (by intro j b h; match j with | 0 => simp at h; subst h; decide | j + 1 => simp at h) (by intro j b h; match j with | 0 | 1 | 2 | 3 => simp at h; subst h; decide | j + 4 => simp at h)) ?_
  rw [show Lib.containsAny [120] [63, 42, 91, 92] = false by decide +kernel]
  simp only [go_sem, reduceCtorEq, Nat.reduceEqDiff, reduceIte, Nat.reduceAdd, Nat.reduceSub, Nat.reduceLeDiff, Int.reduceToNat, Nat.reduceBEq]
theorem gcov_x : Snd Tryd.prog (gl m) 40 [S [42], S [120]] (B true) := by
  refine snd_of (fn := Tryd.f40) (af := gcov) Tryd.func40 (gcov_comp m) mixed (kn_ok m) (Nat.le_of_ble_eq_true rfl) ?_
  simp only [gcov, go_sem, reduceCtorEq, Nat.reduceEqDiff, reduceIte, Nat.reduceAdd, Nat.reduceSub, Nat.reduceLeDiff, Int.reduceToNat, Nat.reduceBEq]
  refine of_call glit_x ?_
  simp only [go_sem, reduceCtorEq, Nat.reduceEqDiff, reduceIte, Nat.reduceAdd, Nat.reduceSub, Nat.reduceLeDiff, Int.reduceToNat, Nat.reduceBEq]
  refine of_call (gmatch_snd [42] [120] (by decide) (by decide)) ?_
  rw [show matchF [42] [120] = true by decide +kernel]
  simp only [go_sem, reduceCtorEq, Nat.reduceEqDiff, reduceIte, Nat.reduceAdd, Nat.reduceSub, Nat.reduceLeDiff, Int.reduceToNat, Nat.reduceBEq]
theorem glives_snd : Snd Tryd.prog (gl m) 32 [] (B true) := by
  refine snd_of (fn := Tryd.f32) (af := glives) Tryd.func32 (glives_comp m) mixed (kn_ok m) (Nat.le_of_ble_eq_true rfl) ?_
  simp only [glives, go_sem, reduceCtorEq, Nat.reduceEqDiff, reduceIte, Nat.reduceAdd, Nat.reduceSub, Nat.reduceLeDiff, Int.reduceToNat, Nat.reduceBEq]
  refine of_call (gmatch_snd [97, 47, 42, 42] [97] (by decide) (by decide)) ?_
  rw [show matchF [97, 47, 42, 42] [97] = true by decide +kernel]
  simp only [go_sem, reduceCtorEq, Nat.reduceEqDiff, reduceIte, Nat.reduceAdd, Nat.reduceSub, Nat.reduceLeDiff, Int.reduceToNat, Nat.reduceBEq]
  refine of_call (gmatch_snd [97, 47, 42, 42] [97, 47, 98, 47, 99] (by decide) (by decide)) ?_
  rw [show matchF [97, 47, 42, 42] [97, 47, 98, 47, 99] = true by decide +kernel]
  simp only [go_sem, reduceCtorEq, Nat.reduceEqDiff, reduceIte, Nat.reduceAdd, Nat.reduceSub, Nat.reduceLeDiff, Int.reduceToNat, Nat.reduceBEq]
  refine of_call (gmatch_snd [91, 97, 45, 99, 93, 63] [98, 49] (by decide) (by decide)) ?_
  rw [show matchF [91, 97, 45, 99, 93, 63] [98, 49] = true by decide +kernel]
  simp only [go_sem, reduceCtorEq, Nat.reduceEqDiff, reduceIte, Nat.reduceAdd, Nat.reduceSub, Nat.reduceLeDiff, Int.reduceToNat, Nat.reduceBEq]
  refine of_call (gmatch_snd [91, 33, 97, 93] [97] (by decide) (by decide)) ?_
  rw [show matchF [91, 33, 97, 93] [97] = false by decide +kernel]
  simp only [unVal, go_sem, reduceCtorEq, Nat.reduceEqDiff, reduceIte, Nat.reduceAdd, Nat.reduceSub, Nat.reduceLeDiff, Int.reduceToNat, Nat.reduceBEq]
  refine of_call (gmatch_snd [97, 92, 42] [97, 42] (by decide) (by decide)) ?_
  rw [show matchF [97, 92, 42] [97, 42] = true by decide +kernel]
  simp only [go_sem, reduceCtorEq, Nat.reduceEqDiff, reduceIte, Nat.reduceAdd, Nat.reduceSub, Nat.reduceLeDiff, Int.reduceToNat, Nat.reduceBEq]
  refine of_call (gmatch_snd [97, 92, 42] [97, 98] (by decide) (by decide)) ?_
  rw [show matchF [97, 92, 42] [97, 98] = false by decide +kernel]
  simp only [unVal, go_sem, reduceCtorEq, Nat.reduceEqDiff, reduceIte, Nat.reduceAdd, Nat.reduceSub, Nat.reduceLeDiff, Int.reduceToNat, Nat.reduceBEq]
  refine of_call gcov_x ?_
  simp only [go_sem, reduceCtorEq, Nat.reduceEqDiff, reduceIte, Nat.reduceAdd, Nat.reduceSub, Nat.reduceLeDiff, Int.reduceToNat, Nat.reduceBEq]
end Go.Gb

