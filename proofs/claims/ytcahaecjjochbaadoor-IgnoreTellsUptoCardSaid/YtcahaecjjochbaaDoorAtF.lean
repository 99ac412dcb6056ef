import Derived.Test.YtcahaecjjochbaaDoorAtI
set_option linter.unusedVariables false
set_option linter.unusedSimpArgs false
/- Ignore: the reference's Is; sameness; Files; the examples. -/
namespace Go.At
open Go Go.Ev Go.Proofs
open Go.Ln (u8b_t u8b_f lines lines_len line_len lf crlf binary idx idx_eq unfeed unfeed_len)
open Go.Gb (isPath isPat matchF pieces pieces_ne pieces_len piece_len parts pis_snd ris_snd rparts_snd)
set_option linter.unusedVariables false
set_option linter.unusedSimpArgs false
attribute [local go_sem] eqs implies_true List.map_cons List.map_nil kl klL roD roL Option.map_some Option.map_none Option.getD_some Option.getD_none binVal binObl unVal if_true if_false eq_self passA frnD resD content getH getR getW viaNot viaSlot viaBox viaDeep viaMem List.contains_cons List.contains_nil grabs peeks okCells isCell place cellsOf chunk elt List.headD_cons List.length_cons List.length_nil List.take_succ_cons List.take_zero List.drop_succ_cons List.drop_zero List.nil_append List.cons_append List.append_nil List.all_cons List.all_nil plainC takeR setW over reCell List.getElem?_cons_zero List.getElem?_cons_succ List.set_cons_zero List.take_length outV resG plainV pack outVG outBx List.set_cons_succ Ref.idx Ref.addOff beq_self_eq_true bxL Option.bind_some writeR isLit viaBoxes capsPA boxPA nsOf noDup boxesAt argG passG passD rhoIn rhoOut idxIn tr trL List.getD_cons_zero gives pasOf isPtr Ins.d List.getD_cons_succ resL frnL List.getLast?_nil frnL_fs roL_fs resL_fs passL_fs klL_fs trL_fs map_roD_fs fs_length ruleT
variable {m : Int}
def ishort_l0' : AC := .seq (.seq (.reg (.seq [⟨(some (6, false)), none, .mov (.tmp 5 true) .peek⟩,
      ⟨(some (7, false)), none, .mov (.tmp 0 true) .peek⟩,
      ⟨(some (8, false)), none, .lenL (.tmp 7 false)⟩,
      ⟨(some (9, false)), none, .bin .lss (.tmp 6 false) (.tmp 8 false)⟩])) [0, 1, 5, 9] []
  (.cond (.tmp 9 false)
    (.skip)
    (.exit 0))) [0, 1, 5] []
  (.seq (.block 1 (.seq (.reg (.seq [⟨(some (12, false)), none, .mov (.tmp 0 true) .peek⟩,
      ⟨(some (13, false)), none, .mov (.tmp 5 true) .peek⟩,
      ⟨(some (14, false)), none, .iad (.tmp 12 false) (.tmp 13 false) 5⟩,
      ⟨(some (15, false)), none, .fad (.tmp 14 false) 0⟩,
      ⟨(some (16, false)), none, .load (.tmp 15 false) 1 false false⟩,
      ⟨(some (17, false)), none, .len (.tmp 16 false)⟩,
      ⟨(some (18, false)), none, .bin .gtr (.tmp 17 false) (.cst (.int .i64 12) (.lit (.int .i64 12)))⟩])) [0, 1, 5, 18] []
    (.cond (.tmp 18 false)
      (.seq (.reg (.seq [⟨(some (4, true)), none, .mov (.cst (.bool false) (.lit (.bool false))) .asg⟩])) [4] []
      (.ret))
      (.skip)))) [0, 1, 5] []
  (.reg (.seq [⟨(some (10, false)), none, .mov (.tmp 5 true) .peek⟩,
      ⟨(some (11, false)), none, .bin .add (.tmp 10 false) (.cst (.int .i64 1) (.lit (.int .i64 1)))⟩,
      ⟨(some (5, true)), none, .mov (.tmp 11 false) .asg⟩])))
def ishort_l0 : AC := ishort_l0'
theorem ishort_l0_w (C : Kn) (K : Ex → St → Prop) (s : St) : vcC C ishort_l0 K s = vcC C ishort_l0' K s := nr rfl
def ishort_k1' : AC := .seq (.reg (.seq [⟨(some (19, false)), none, .mov (.tmp 0 true) .peek⟩,
      ⟨(some (20, false)), none, .lenL (.tmp 19 false)⟩,
      ⟨(some (21, false)), none, .bin .leq (.tmp 20 false) (.cst (.int .i64 12) (.lit (.int .i64 12)))⟩,
      ⟨(some (22, false)), none, .mov (.tmp 21 false) .peek⟩,
      ⟨(some (23, false)), (some (22, true)), .mov (.tmp 1 true) .peek⟩,
      ⟨(some (24, false)), (some (22, true)), .len (.tmp 23 false)⟩,
      ⟨(some (25, false)), (some (22, true)), .bin .leq (.tmp 24 false) (.cst (.int .i64 14) (.lit (.int .i64 14)))⟩,
      ⟨(some (26, false)), none, .pick (.tmp 22 false) (.tmp 25 false) (.cst (.bool false) (.lit (.bool false)))⟩,
      ⟨(some (4, true)), none, .mov (.tmp 26 false) .asg⟩])) [4] []
  (.ret)
def ishort_k1 : AC := ishort_k1'
theorem ishort_k1_w (C : Kn) (K : Ex → St → Prop) (s : St) : vcC C ishort_k1 K s = vcC C ishort_k1' K s := nr rfl
def ishort : AF := ⟨.seq (.reg (.seq [⟨(some (4, true)), none, .mov (.cst (.bool false) (.lit (.bool false))) .asg⟩])) [0, 1] []
  (.seq (.seq (.reg (.seq [⟨(some (5, true)), none, .mov (.cst (.int .i64 0) (.lit (.int .i64 0))) .asg⟩])) [0, 1, 5] []
  (.block 0 (.loop [0, 1, 5] [] ishort_l0))) [0, 1] [] ishort_k1),
  [.tmp 4]⟩
theorem ishort_comp (m : Int) : compF Tryd.prog (gl m) [] Tryd.f33 = some ishort := by kernel_rfl
def rjoin6_l0' : AC := .seq (.seq (.reg (.seq [⟨(some (5, false)), none, .mov (.tmp 4 true) .peek⟩,
      ⟨(some (6, false)), none, .mov (.tmp 0 true) .peek⟩,
      ⟨(some (7, false)), none, .lenL (.tmp 6 false)⟩,
      ⟨(some (8, false)), none, .bin .lss (.tmp 5 false) (.tmp 7 false)⟩])) [0, 3, 4, 8] []
  (.cond (.tmp 8 false)
    (.skip)
    (.exit 0))) [0, 3, 4] []
  (.seq (.block 1 (.seq (.seq (.reg (.seq [⟨(some (11, false)), none, .mov (.tmp 4 true) .peek⟩,
      ⟨(some (12, false)), none, .bin .gtr (.tmp 11 false) (.cst (.int .i64 0) (.lit (.int .i64 0)))⟩])) [0, 3, 4, 12] []
    (.cond (.tmp 12 false)
      (.reg (.seq [⟨(some (13, false)), none, .mov (.tmp 3 true) .peek⟩,
      ⟨(some (14, false)), none, .bin .add (.tmp 13 false) (.cst (.string (str [47])) (.lit (.string (str [47]))))⟩,
      ⟨(some (3, true)), none, .mov (.tmp 14 false) .asg⟩]))
      (.skip))) [0, 3, 4] []
    (.reg (.seq [⟨(some (15, false)), none, .mov (.tmp 3 true) .peek⟩,
      ⟨(some (16, false)), none, .mov (.tmp 0 true) .peek⟩,
      ⟨(some (17, false)), none, .mov (.tmp 4 true) .peek⟩,
      ⟨(some (18, false)), none, .iad (.tmp 16 false) (.tmp 17 false) 1⟩,
      ⟨(some (19, false)), none, .load (.tmp 18 false) 1 false false⟩,
      ⟨(some (20, false)), none, .bin .add (.tmp 15 false) (.tmp 19 false)⟩,
      ⟨(some (3, true)), none, .mov (.tmp 20 false) .asg⟩])))) [0, 3, 4] []
  (.reg (.seq [⟨(some (9, false)), none, .mov (.tmp 4 true) .peek⟩,
      ⟨(some (10, false)), none, .bin .add (.tmp 9 false) (.cst (.int .i64 1) (.lit (.int .i64 1)))⟩,
      ⟨(some (4, true)), none, .mov (.tmp 10 false) .asg⟩])))
def rjoin6_l0 : AC := rjoin6_l0'
theorem rjoin6_l0_w (C : Kn) (K : Ex → St → Prop) (s : St) : vcC C rjoin6_l0 K s = vcC C rjoin6_l0' K s := nr rfl
def rjoin6_k1' : AC := .seq (.reg (.seq [⟨(some (21, false)), none, .mov (.tmp 3 true) .take⟩,
      ⟨(some (2, true)), none, .mov (.tmp 21 false) .asg⟩])) [2] []
  (.ret)
def rjoin6_k1 : AC := rjoin6_k1'
theorem rjoin6_k1_w (C : Kn) (K : Ex → St → Prop) (s : St) : vcC C rjoin6_k1 K s = vcC C rjoin6_k1' K s := nr rfl
def rjoin6 : AF := ⟨.seq (.reg (.seq [⟨(some (2, true)), none, .mov (.cst (.string (str [])) (.lit (.string (str [])))) .asg⟩])) [0] []
  (.seq (.reg (.seq [⟨(some (3, true)), none, .mov (.cst (.string (str [])) (.lit (.string (str [])))) .asg⟩])) [0, 3] []
  (.seq (.seq (.reg (.seq [⟨(some (4, true)), none, .mov (.cst (.int .i64 0) (.lit (.int .i64 0))) .asg⟩])) [0, 3, 4] []
  (.block 0 (.loop [0, 3, 4] [] rjoin6_l0))) [3] [] rjoin6_k1)),
  [.tmp 2]⟩
theorem rjoin6_comp (m : Int) : compF Tryd.prog (gl m) [] Tryd.f79 = some rjoin6 := by kernel_rfl
def ris30_l0' : AC := .seq (.seq (.reg (.seq [⟨(some (16, false)), none, .mov (.tmp 8 true) .peek⟩,
      ⟨(some (17, false)), none, .mov (.tmp 7 true) .peek⟩,
      ⟨(some (18, false)), none, .lenL (.tmp 17 false)⟩,
      ⟨(some (19, false)), none, .bin .lss (.tmp 16 false) (.tmp 18 false)⟩])) [0, 1, 2, 7, 8, 19] []
  (.cond (.tmp 19 false)
    (.skip)
    (.exit 0))) [0, 1, 2, 7, 8] []
  (.seq (.block 1 (.seq (.reg (.seq [⟨(some (22, false)), none, .mov (.tmp 0 true) .peek⟩,
      ⟨(some (23, false)), none, .mov (.tmp 7 true) .peek⟩,
      ⟨(some (24, false)), none, .mov (.tmp 8 true) .peek⟩,
      ⟨(some (25, false)), none, .slc 1 (.tmp 23 false) none (some (.tmp 24 false))⟩,
      ⟨(some (26, false)), none, .call 79 [(.tmp 25 false)]⟩,
      ⟨(some (27, false)), none, .call 37 [(.tmp 22 false), (.tmp 26 false), (.cst (.bool true) (.lit (.bool true)))]⟩,
      ⟨(some (9, true)), none, .mov (.tmp 27 false) .asg⟩])) [0, 1, 2, 7, 8, 9] []
    (.seq (.reg (.seq [⟨(some (28, false)), none, .mov (.tmp 9 true) .peek⟩,
      ⟨(some (29, false)), none, .bin .geq (.tmp 28 false) (.cst (.int .i64 0) (.lit (.int .i64 0)))⟩,
      ⟨(some (30, false)), none, .mov (.tmp 29 false) .peek⟩,
      ⟨(some (31, false)), (some (30, true)), .mov (.tmp 0 true) .peek⟩,
      ⟨(some (32, false)), (some (30, true)), .mov (.tmp 9 true) .peek⟩,
      ⟨(some (33, false)), (some (30, true)), .iad (.tmp 31 false) (.tmp 32 false) 5⟩,
      ⟨(some (34, false)), (some (30, true)), .fad (.tmp 33 false) 2⟩,
      ⟨(some (35, false)), (some (30, true)), .load (.tmp 34 false) 1 false false⟩,
      ⟨(some (36, false)), (some (30, true)), .un .not (.tmp 35 false)⟩,
      ⟨(some (37, false)), none, .pick (.tmp 30 false) (.tmp 36 false) (.cst (.bool false) (.lit (.bool false)))⟩])) [0, 1, 2, 7, 8, 37] []
    (.cond (.tmp 37 false)
      (.seq (.reg (.seq [⟨(some (6, true)), none, .mov (.cst (.bool true) (.lit (.bool true))) .asg⟩])) [6] []
      (.ret))
      (.skip))))) [0, 1, 2, 7, 8] []
  (.reg (.seq [⟨(some (20, false)), none, .mov (.tmp 8 true) .peek⟩,
      ⟨(some (21, false)), none, .bin .add (.tmp 20 false) (.cst (.int .i64 1) (.lit (.int .i64 1)))⟩,
      ⟨(some (8, true)), none, .mov (.tmp 21 false) .asg⟩])))
def ris30_l0 : AC := ris30_l0'
theorem ris30_l0_w (C : Kn) (K : Ex → St → Prop) (s : St) : vcC C ris30_l0 K s = vcC C ris30_l0' K s := nr rfl
def ris30_k1' : AC := .seq (.reg (.seq [⟨(some (38, false)), none, .mov (.tmp 0 true) .peek⟩,
      ⟨(some (39, false)), none, .mov (.tmp 1 true) .peek⟩,
      ⟨(some (40, false)), none, .mov (.tmp 2 true) .peek⟩,
      ⟨(some (41, false)), none, .call 37 [(.tmp 38 false), (.tmp 39 false), (.tmp 40 false)]⟩,
      ⟨(some (10, true)), none, .mov (.tmp 41 false) .asg⟩])) [0, 10] []
  (.seq (.reg (.seq [⟨(some (42, false)), none, .mov (.tmp 10 true) .peek⟩,
      ⟨(some (43, false)), none, .bin .geq (.tmp 42 false) (.cst (.int .i64 0) (.lit (.int .i64 0)))⟩,
      ⟨(some (44, false)), none, .mov (.tmp 43 false) .peek⟩,
      ⟨(some (45, false)), (some (44, true)), .mov (.tmp 0 true) .peek⟩,
      ⟨(some (46, false)), (some (44, true)), .mov (.tmp 10 true) .peek⟩,
      ⟨(some (47, false)), (some (44, true)), .iad (.tmp 45 false) (.tmp 46 false) 5⟩,
      ⟨(some (48, false)), (some (44, true)), .fad (.tmp 47 false) 2⟩,
      ⟨(some (49, false)), (some (44, true)), .load (.tmp 48 false) 1 false false⟩,
      ⟨(some (50, false)), (some (44, true)), .un .not (.tmp 49 false)⟩,
      ⟨(some (51, false)), none, .pick (.tmp 44 false) (.tmp 50 false) (.cst (.bool false) (.lit (.bool false)))⟩,
      ⟨(some (6, true)), none, .mov (.tmp 51 false) .asg⟩])) [6] []
  (.ret))
def ris30_k1 : AC := ris30_k1'
theorem ris30_k1_w (C : Kn) (K : Ex → St → Prop) (s : St) : vcC C ris30_k1 K s = vcC C ris30_k1' K s := nr rfl
def ris30 : AF := ⟨.seq (.reg (.seq [⟨(some (6, true)), none, .mov (.cst (.bool false) (.lit (.bool false))) .asg⟩])) [0, 1, 2] []
  (.seq (.seq (.reg (.seq [⟨(some (11, false)), none, .mov (.tmp 1 true) .peek⟩,
      ⟨(some (12, false)), none, .call 14 [(.tmp 11 false)]⟩,
      ⟨(some (13, false)), none, .un .not (.tmp 12 false)⟩])) [0, 1, 2, 13] []
  (.cond (.tmp 13 false)
    (.seq (.reg (.seq [⟨(some (6, true)), none, .mov (.cst (.bool false) (.lit (.bool false))) .asg⟩])) [6] []
    (.ret))
    (.skip))) [0, 1, 2] []
  (.seq (.reg (.seq [⟨(some (14, false)), none, .mov (.tmp 1 true) .peek⟩,
      ⟨(some (15, false)), none, .call 43 [(.tmp 14 false)]⟩,
      ⟨(some (7, true)), none, .mov (.tmp 15 false) .asg⟩])) [0, 1, 2, 7] []
  (.seq (.seq (.reg (.seq [⟨(some (8, true)), none, .mov (.cst (.int .i64 1) (.lit (.int .i64 1))) .asg⟩])) [0, 1, 2, 7, 8] []
  (.block 0 (.loop [0, 1, 2, 7, 8] [] ris30_l0))) [0, 1, 2] [] ris30_k1))),
  [.tmp 6]⟩
theorem ris30_comp (m : Int) : compF Tryd.prog (gl m) [] Tryd.f39 = some ris30 := by kernel_rfl
def ilives : AF := ⟨.seq (.reg (.seq [⟨(some (0, true)), none, .mov (.cst (.bool false) (.lit (.bool false))) .asg⟩])) [] []
  (.seq (.reg (.seq [⟨(some (2, false)), none, .call 31 [(.cst (.string (str [42, 46, 111, 10, 33, 97, 46, 111, 10, 47, 98, 47, 10, 99, 47, 100, 10])) (.lit (.string (str [42, 46, 111, 10, 33, 97, 46, 111, 10, 47, 98, 47, 10, 99, 47, 100, 10])))), (.cst (.string (str [])) (.lit (.string (str []))))]⟩,
      ⟨(some (1, true)), none, .mov (.tmp 2 false) .asg⟩])) [1] []
  (.seq (.reg (.seq [⟨(some (3, false)), none, .mov (.tmp 1 true) .peek⟩,
      ⟨(some (4, false)), none, .lenL (.tmp 3 false)⟩,
      ⟨(some (5, false)), none, .bin .eql (.tmp 4 false) (.cst (.int .i64 4) (.lit (.int .i64 4)))⟩,
      ⟨(some (6, false)), none, .mov (.tmp 5 false) .peek⟩,
      ⟨(some (7, false)), (some (6, true)), .mov (.tmp 1 true) .peek⟩,
      ⟨(some (8, false)), (some (6, true)), .call 38 [(.tmp 7 false), (.cst (.string (str [120, 46, 111])) (.lit (.string (str [120, 46, 111])))), (.cst (.bool false) (.lit (.bool false)))]⟩,
      ⟨(some (9, false)), none, .pick (.tmp 6 false) (.tmp 8 false) (.cst (.bool false) (.lit (.bool false)))⟩,
      ⟨(some (10, false)), none, .mov (.tmp 9 false) .peek⟩,
      ⟨(some (11, false)), (some (10, true)), .mov (.tmp 1 true) .peek⟩,
      ⟨(some (12, false)), (some (10, true)), .call 38 [(.tmp 11 false), (.cst (.string (str [97, 46, 111])) (.lit (.string (str [97, 46, 111])))), (.cst (.bool false) (.lit (.bool false)))]⟩,
      ⟨(some (13, false)), (some (10, true)), .un .not (.tmp 12 false)⟩,
      ⟨(some (14, false)), none, .pick (.tmp 10 false) (.tmp 13 false) (.cst (.bool false) (.lit (.bool false)))⟩,
      ⟨(some (15, false)), none, .mov (.tmp 14 false) .peek⟩,
      ⟨(some (16, false)), (some (15, true)), .mov (.tmp 1 true) .peek⟩,
      ⟨(some (17, false)), (some (15, true)), .call 38 [(.tmp 16 false), (.cst (.string (str [98, 47, 120])) (.lit (.string (str [98, 47, 120])))), (.cst (.bool false) (.lit (.bool false)))]⟩,
      ⟨(some (18, false)), none, .pick (.tmp 15 false) (.tmp 17 false) (.cst (.bool false) (.lit (.bool false)))⟩,
      ⟨(some (19, false)), none, .mov (.tmp 18 false) .peek⟩,
      ⟨(some (20, false)), (some (19, true)), .mov (.tmp 1 true) .peek⟩,
      ⟨(some (21, false)), (some (19, true)), .call 38 [(.tmp 20 false), (.cst (.string (str [121, 47, 98, 47, 120])) (.lit (.string (str [121, 47, 98, 47, 120])))), (.cst (.bool false) (.lit (.bool false)))]⟩,
      ⟨(some (22, false)), (some (19, true)), .un .not (.tmp 21 false)⟩,
      ⟨(some (23, false)), none, .pick (.tmp 19 false) (.tmp 22 false) (.cst (.bool false) (.lit (.bool false)))⟩,
      ⟨(some (24, false)), none, .mov (.tmp 23 false) .peek⟩,
      ⟨(some (25, false)), (some (24, true)), .mov (.tmp 1 true) .peek⟩,
      ⟨(some (26, false)), (some (24, true)), .call 38 [(.tmp 25 false), (.cst (.string (str [99, 47, 100])) (.lit (.string (str [99, 47, 100])))), (.cst (.bool false) (.lit (.bool false)))]⟩,
      ⟨(some (27, false)), none, .pick (.tmp 24 false) (.tmp 26 false) (.cst (.bool false) (.lit (.bool false)))⟩,
      ⟨(some (28, false)), none, .mov (.tmp 27 false) .peek⟩,
      ⟨(some (29, false)), (some (28, true)), .mov (.tmp 1 true) .peek⟩,
      ⟨(some (30, false)), (some (28, true)), .call 38 [(.tmp 29 false), (.cst (.string (str [120, 47, 99, 47, 100])) (.lit (.string (str [120, 47, 99, 47, 100])))), (.cst (.bool false) (.lit (.bool false)))]⟩,
      ⟨(some (31, false)), (some (28, true)), .un .not (.tmp 30 false)⟩,
      ⟨(some (32, false)), none, .pick (.tmp 28 false) (.tmp 31 false) (.cst (.bool false) (.lit (.bool false)))⟩,
      ⟨(some (0, true)), none, .mov (.tmp 32 false) .asg⟩])) [0] []
  (.ret))),
  [.tmp 0]⟩
theorem ilives_comp (m : Int) : compF Tryd.prog (gl m) [] Tryd.f29 = some ilives := by kernel_rfl
def shortI (l : List Rule) (p : Bs) : Bool := l.all (fun r => decide (r.1.length ≤ 12)) && decide (l.length ≤ 12) && decide (p.length ≤ 14)
theorem ishort_snd (l : List Rule) (p : Bs) (hl : okRules l) (hp : p.length ≤ 1048576) : Snd Tryd.prog (gl m) 33 [.sl .frn 5 (fs fR l), S p] (B (shortI l p)) := by
  refine snd_of (fn := Tryd.f33) (af := ishort) Tryd.func33 (ishort_comp m) mixed (kn_ok m) (Nat.le_of_ble_eq_true rfl) ?_
  simp only [ishort, go_sem, reduceCtorEq, Nat.reduceEqDiff, reduceIte, Nat.reduceAdd, Nat.reduceSub, Nat.reduceLeDiff, Int.reduceToNat, Nat.reduceBEq]
  refine loop_inv l.length (fun i => mkS [(0, .sl .frn 5 (fs fR l)), (1, S p), (5, N i)] []) (fun i => (l.take i).all (fun r => decide (r.1.length ≤ 12)) = true) rfl rfl ?_
  intro i hi hI ih
  have hll := hl.1
  simp only [ishort_l0_w, ishort_l0', go_sem, reduceCtorEq, Nat.reduceEqDiff, reduceIte, Nat.reduceAdd, Nat.reduceSub, Nat.reduceLeDiff, Int.reduceToNat, Nat.reduceBEq]
  repeat ((with_reducible apply And.intro); (case left => first | omega | (simp only [List.length_append, List.length_cons, List.length_nil, List.length_drop, List.length_take, List.length_tail, List.length_dropLast, fs_length, ss_length, bs_length, ns_length]; omega)))
  by_cases h : i < l.length
  · have g := fs_getR h
    have q1 : IntKind.i64.wrap ((i : Int) + 1) = ((i + 1 : Nat) : Int) := wrapN _ (by omega) (by omega)
    have hr := (hl.2 l[i] (List.getElem_mem h)).1
    have hm := List.getElem_mem h
    have ht := take_snoc h
    generalize l[i] = r at g hr hm ht
    simp only [lt_t h, g, Int.toNat_natCast, go_sem, reduceCtorEq, Nat.reduceEqDiff, reduceIte, Nat.reduceAdd, Nat.reduceSub, Nat.reduceLeDiff, Int.reduceToNat, Nat.reduceBEq]
    repeat ((with_reducible apply And.intro); (case left => first | omega | (simp only [List.length_append, List.length_cons, List.length_nil, List.length_drop, List.length_take, List.length_tail, List.length_dropLast, fs_length, ss_length, bs_length, ns_length]; omega)))
    by_cases hb : r.1.length ≤ 12
    · simp only [igt_f (show ¬ (12 : Int) < (r.1.length : Int) by omega), q1, go_sem, reduceCtorEq, Nat.reduceEqDiff, reduceIte, Nat.reduceAdd, Nat.reduceSub, Nat.reduceLeDiff, Int.reduceToNat, Nat.reduceBEq]
      repeat ((with_reducible apply And.intro); (case left => first | omega | (simp only [List.length_append, List.length_cons, List.length_nil, List.length_drop, List.length_take, List.length_tail, List.length_dropLast, fs_length, ss_length, bs_length, ns_length]; omega)))
      exact ih h (by rw [ht, List.all_append, hI]; simp [hb])
    · have e : shortI l p = false := by
        have : l.all (fun r => decide (r.1.length ≤ 12)) = false := by
          rw [List.all_eq_false]; exact ⟨r, hm, by simp; omega⟩
        rw [shortI, this]; rfl
      rw [e]
      simp only [igt_t (show (12 : Int) < (r.1.length : Int) by omega), go_sem, reduceCtorEq, Nat.reduceEqDiff, reduceIte, Nat.reduceAdd, Nat.reduceSub, Nat.reduceLeDiff, Int.reduceToNat, Nat.reduceBEq]
      try rfl
  · obtain rfl : i = l.length := by omega
    rw [List.take_length] at hI
    rw [shortI, hI, Bool.true_and]
    simp only [lt_f h, ishort_k1_w, ishort_k1', go_sem, reduceCtorEq, Nat.reduceEqDiff, reduceIte, Nat.reduceAdd, Nat.reduceSub, Nat.reduceLeDiff, Int.reduceToNat, Nat.reduceBEq]
    repeat ((with_reducible apply And.intro); (case left => first | omega | (simp only [List.length_append, List.length_cons, List.length_nil, List.length_drop, List.length_take, List.length_tail, List.length_dropLast, fs_length, ss_length, bs_length, ns_length]; omega)))
    by_cases h2 : l.length ≤ 12
    · rw [decide_eq_true h2, Bool.true_and]
      by_cases h3 : p.length ≤ 14
      · simp only [ile_t (show (l.length : Int) ≤ 12 by omega), ile_t (show (p.length : Int) ≤ 14 by omega), decide_eq_true h3, go_sem, reduceCtorEq, Nat.reduceEqDiff, reduceIte, Nat.reduceAdd, Nat.reduceSub, Nat.reduceLeDiff, Int.reduceToNat, Nat.reduceBEq]
        try rfl
      · simp only [ile_t (show (l.length : Int) ≤ 12 by omega), ile_f (show ¬ (p.length : Int) ≤ 14 by omega), decide_eq_false h3, go_sem, reduceCtorEq, Nat.reduceEqDiff, reduceIte, Nat.reduceAdd, Nat.reduceSub, Nat.reduceLeDiff, Int.reduceToNat, Nat.reduceBEq]
        try rfl
    · rw [decide_eq_false h2, Bool.false_and]
      simp only [ile_f (show ¬ (l.length : Int) ≤ 12 by omega), go_sem, reduceCtorEq, Nat.reduceEqDiff, reduceIte, Nat.reduceAdd, Nat.reduceSub, Nat.reduceLeDiff, Int.reduceToNat, Nat.reduceBEq]
      try rfl
theorem joinS_snoc (l : List Bs) (x : Bs) : joinS (l ++ [x]) = if l = [] then x else joinS l ++ 47 :: x := by
  induction l with
  | nil => rfl
  | cons y l ih =>
    rw [if_neg (by simp)]
    cases l with
    | nil => rfl
    | cons z l =>
      rw [if_neg (by simp)] at ih
      show y ++ 47 :: joinS ((z :: l) ++ [x]) = (y ++ 47 :: joinS (z :: l)) ++ 47 :: x
      rw [ih]; simp
theorem joinS_len (l : List Bs) : (joinS l).length ≤ l.flatten.length + l.length := by
  induction l with
  | nil => simp [joinS]
  | cons x l ih =>
    cases l with
    | nil => simp [joinS]
    | cons y l =>
      rw [joinS_cons x (by simp)]
      simp only [List.length_append, List.length_cons, List.flatten_cons] at ih ⊢
      omega
theorem flat_take_le (L : List Bs) (i : Nat) : (L.take i).flatten.length ≤ L.flatten.length := by
  have e : L.flatten = (L.take i).flatten ++ (L.drop i).flatten := by rw [← List.flatten_append, List.take_append_drop]
  rw [e, List.length_append]; omega
theorem rjoin_snd (L : List Bs) (hL : L.flatten.length + L.length ≤ 4194304) : Snd Tryd.prog (gl m) 79 [.sl .frn 1 (ss L)] (S (joinS L)) := by
  refine snd_of (fn := Tryd.f79) (af := rjoin6) Tryd.func79 (rjoin6_comp m) mixed (kn_ok m) (Nat.le_of_ble_eq_true rfl) ?_
  simp only [rjoin6, go_sem, reduceCtorEq, Nat.reduceEqDiff, reduceIte, Nat.reduceAdd, Nat.reduceSub, Nat.reduceLeDiff, Int.reduceToNat, Nat.reduceBEq]
  refine loop_up L.length (fun i => mkS [(0, .sl .frn 1 (ss L)), (3, S (joinS (L.take i))), (4, N i)] []) rfl ?_
  intro i hi ih
  simp only [rjoin6_l0_w, rjoin6_l0', go_sem, reduceCtorEq, Nat.reduceEqDiff, reduceIte, Nat.reduceAdd, Nat.reduceSub, Nat.reduceLeDiff, Int.reduceToNat, Nat.reduceBEq]
  repeat ((with_reducible apply And.intro); (case left => first | omega | (simp only [List.length_append, List.length_cons, List.length_nil, List.length_drop, List.length_take, List.length_tail, List.length_dropLast, fs_length, ss_length, bs_length, ns_length]; omega)))
  by_cases h : i < L.length
  · have q1 : IntKind.i64.wrap ((i : Int) + 1) = ((i + 1 : Nat) : Int) := wrapN _ (by omega) (by omega)
    have g := ssE L h
    have ih := ih h
    rw [take_snoc h, joinS_snoc] at ih
    have hj := joinS_len (L.take i)
    have hf := flat_take_le L i
    have hx : L[i].length ≤ L.flatten.length := Ln.mem_len (List.getElem_mem h)
    rw [List.length_take] at hj
    have he : (L.take i = []) ↔ i = 0 := by
      constructor
      · intro e; have := congrArg List.length e; rw [List.length_take] at this; simp only [List.length_nil] at this; omega
      · rintro rfl; rfl
    generalize L[i] = x at g ih hx
    by_cases h0 : i = 0
    · rw [if_pos (he.2 h0)] at ih
      have e : joinS (L.take i) = [] := by rw [he.2 h0]; rfl
      rw [e]
      simp only [lt_t h, igt_f (show ¬ (0 : Int) < (i : Int) by omega), g, Int.toNat_natCast, q1, go_sem, reduceCtorEq, Nat.reduceEqDiff, reduceIte, Nat.reduceAdd, Nat.reduceSub, Nat.reduceLeDiff, Int.reduceToNat, Nat.reduceBEq]
      repeat ((with_reducible apply And.intro); (case left => first | omega | (simp only [List.length_append, List.length_cons, List.length_nil, List.length_drop, List.length_take, List.length_tail, List.length_dropLast, fs_length, ss_length, bs_length, ns_length]; omega)))
      exact ih
    · rw [if_neg (fun e => h0 (he.1 e))] at ih
      generalize joinS (L.take i) = j at hj ih ⊢
      simp only [lt_t h, igt_t (show (0 : Int) < (i : Int) by omega), g, Int.toNat_natCast, q1, go_sem, reduceCtorEq, Nat.reduceEqDiff, reduceIte, Nat.reduceAdd, Nat.reduceSub, Nat.reduceLeDiff, Int.reduceToNat, Nat.reduceBEq]
      repeat ((with_reducible apply And.intro); (case left => first | omega | (simp only [List.length_append, List.length_cons, List.length_nil, List.length_drop, List.length_take, List.length_tail, List.length_dropLast, fs_length, ss_length, bs_length, ns_length]; omega)))
      rw [show j ++ [47] ++ x = j ++ 47 :: x by simp]
      exact ih
  · obtain rfl : i = L.length := by omega
    simp only [lt_f h, List.take_length, rjoin6_k1_w, rjoin6_k1', go_sem, reduceCtorEq, Nat.reduceEqDiff, reduceIte, Nat.reduceAdd, Nat.reduceSub, Nat.reduceLeDiff, Int.reduceToNat, Nat.reduceBEq]
theorem pieces_flat (s : Bs) : (pieces s).flatten.length + (pieces s).length = s.length + 1 := by
  induction s with
  | nil => simp [pieces]
  | cons c s ih =>
    simp only [pieces]
    split
    · simp only [List.flatten_cons, List.nil_append, List.length_cons]; omega
    · cases h : pieces s with
      | nil => exact absurd h (pieces_ne s)
      | cons x xs =>
        rw [h] at ih
        simp only [List.flatten_cons, List.length_append, List.length_cons] at ih ⊢; omega
theorem dirs_len {p d : Bs} (h : d ∈ dirs p) : d.length < p.length := by
  obtain ⟨r, rfl⟩ := mem_dirs h; simp only [List.length_append, List.length_cons]; omega
theorem dirs_mem {p : Bs} {n : Nat} (h : n + 1 < (pieces p).length) : joinS ((pieces p).take (n + 1)) ∈ dirs p := by
  rw [dirs_pieces]; exact List.mem_map.2 ⟨n, List.mem_range.2 (by omega), rfl⟩
theorem ris30_snd (l : List Rule) (p : Bs) (f : Bool) (hl : okRules l) (hp : p.length ≤ 1048575) : Snd Tryd.prog (gl m) 39 [.sl .frn 5 (fs fR l), S p, B f] (B (isI l p f)) := by
  refine snd_of (fn := Tryd.f39) (af := ris30) Tryd.func39 (ris30_comp m) mixed (kn_ok m) (Nat.le_of_ble_eq_true rfl) ?_
  simp only [ris30, go_sem, reduceCtorEq, Nat.reduceEqDiff, reduceIte, Nat.reduceAdd, Nat.reduceSub, Nat.reduceLeDiff, Int.reduceToNat, Nat.reduceBEq]
  unfold isI
  repeat ((with_reducible apply And.intro); (case left => first | omega | (simp only [List.length_append, List.length_cons, List.length_nil, List.length_drop, List.length_take, List.length_tail, List.length_dropLast, fs_length, ss_length, bs_length, ns_length]; omega)))
  refine of_call (ris_snd p hp) ?_
  simp only [go_sem, reduceCtorEq, Nat.reduceEqDiff, reduceIte, Nat.reduceAdd, Nat.reduceSub, Nat.reduceLeDiff, Int.reduceToNat, Nat.reduceBEq]
  repeat ((with_reducible apply And.intro); (case left => first | omega | (simp only [List.length_append, List.length_cons, List.length_nil, List.length_drop, List.length_take, List.length_tail, List.length_dropLast, fs_length, ss_length, bs_length, ns_length]; omega)))
  cases h1 : isPath p with
  | false =>
    simp only [unVal, go_sem, reduceCtorEq, Nat.reduceEqDiff, reduceIte, Nat.reduceAdd, Nat.reduceSub, Nat.reduceLeDiff, Int.reduceToNat, Nat.reduceBEq]
    repeat ((with_reducible apply And.intro); (case left => first | omega | (simp only [List.length_append, List.length_cons, List.length_nil, List.length_drop, List.length_take, List.length_tail, List.length_dropLast, fs_length, ss_length, bs_length, ns_length]; omega)))
    try rfl
  | true =>
    simp only [unVal, Bool.true_and, go_sem, reduceCtorEq, Nat.reduceEqDiff, reduceIte, Nat.reduceAdd, Nat.reduceSub, Nat.reduceLeDiff, Int.reduceToNat, Nat.reduceBEq]
    repeat ((with_reducible apply And.intro); (case left => first | omega | (simp only [List.length_append, List.length_cons, List.length_nil, List.length_drop, List.length_take, List.length_tail, List.length_dropLast, fs_length, ss_length, bs_length, ns_length]; omega)))
    refine of_call (rparts_snd p (by omega)) ?_
    simp only [go_sem, reduceCtorEq, Nat.reduceEqDiff, reduceIte, Nat.reduceAdd, Nat.reduceSub, Nat.reduceLeDiff, Int.reduceToNat, Nat.reduceBEq]
    repeat ((with_reducible apply And.intro); (case left => first | omega | (simp only [List.length_append, List.length_cons, List.length_nil, List.length_drop, List.length_take, List.length_tail, List.length_dropLast, fs_length, ss_length, bs_length, ns_length]; omega)))
    have hne := path_ne h1
    have hpp : parts p = pieces p := by unfold parts; rw [if_neg hne]
    rw [hpp, dirs_pieces]
    have hpl := pieces_len p
    have hfl : (pieces p).flatten.length + (pieces p).length ≤ 4194304 := by rw [pieces_flat]; omega
    have hdl := @dirs_mem p
    rw [← dirs_pieces]
    refine loop_from 1 (pieces p).length (List.length_pos_iff.2 (pieces_ne p)) (fun n => mkS [(0, .sl .frn 5 (fs fR l)), (1, S p), (2, B f), (7, .sl .own 1 (ss (pieces p))), (8, N n)] []) (fun n => ∀ j, j + 1 < n → says l (joinS ((pieces p).take (j + 1))) true = false) rfl (fun j hj => by omega) ?_
    intro n hn1 hn hI ih
    simp only [ris30_l0_w, ris30_l0', go_sem, reduceCtorEq, Nat.reduceEqDiff, reduceIte, Nat.reduceAdd, Nat.reduceSub, Nat.reduceLeDiff, Int.reduceToNat, Nat.reduceBEq]
    repeat ((with_reducible apply And.intro); (case left => first | omega | (simp only [List.length_append, List.length_cons, List.length_nil, List.length_drop, List.length_take, List.length_tail, List.length_dropLast, fs_length, ss_length, bs_length, ns_length]; omega)))
    by_cases h : n < (pieces p).length
    · obtain ⟨n, rfl⟩ : ∃ k, n = k + 1 := ⟨n - 1, by omega⟩
      have q1 : IntKind.i64.wrap (((n + 1 : Nat) : Int) + 1) = ((n + 1 + 1 : Nat) : Int) := wrapN _ (by omega) (by omega)
      have hft := flat_take_le (pieces p) (n + 1)
      have hm := hdl h
      have hml := dirs_len hm
      have hjl := rjoin_snd (m := m) ((pieces p).take (n + 1)) (by rw [List.length_take]; omega)
      simp only [lt_t h, go_sem, reduceCtorEq, Nat.reduceEqDiff, reduceIte, Nat.reduceAdd, Nat.reduceSub, Nat.reduceLeDiff, Int.reduceToNat, Nat.reduceBEq]
      repeat ((with_reducible apply And.intro); (case left => first | omega | (simp only [List.length_append, List.length_cons, List.length_nil, List.length_drop, List.length_take, List.length_tail, List.length_dropLast, fs_length, ss_length, bs_length, ns_length]; omega)))
      refine of_call hjl ?_
      have hI' : ∀ {b}, says l (joinS ((pieces p).take (n + 1))) true = b → b = false → ∀ j, j + 1 < n + 1 + 1 → says l (joinS ((pieces p).take (j + 1))) true = false := by
        intro b hb hf j hj
        by_cases e : j = n
        · subst e; rw [hb, hf]
        · exact hI j (by omega)
      have hT : says l (joinS ((pieces p).take (n + 1))) true = true → ((dirs p).any (says l · true) || says l p f) = true := fun hs => by
        rw [List.any_eq_true.2 ⟨_, hm, hs⟩]; rfl
      generalize joinS ((pieces p).take (n + 1)) = d at hml hI' hT ⊢
      simp only [go_sem, reduceCtorEq, Nat.reduceEqDiff, reduceIte, Nat.reduceAdd, Nat.reduceSub, Nat.reduceLeDiff, Int.reduceToNat, Nat.reduceBEq]
      repeat ((with_reducible apply And.intro); (case left => first | omega | (simp only [List.length_append, List.length_cons, List.length_nil, List.length_drop, List.length_take, List.length_tail, List.length_dropLast, fs_length, ss_length, bs_length, ns_length]; omega)))
      repeat ((with_reducible apply And.intro); (case left => first | omega | (simp only [List.length_append, List.length_cons, List.length_nil, List.length_drop, List.length_take, List.length_tail, List.length_dropLast, fs_length, ss_length, bs_length, ns_length]; omega)))
      refine of_call (rlasti_snd l d true hl (by omega)) ?_
      simp only [go_sem, reduceCtorEq, Nat.reduceEqDiff, reduceIte, Nat.reduceAdd, Nat.reduceSub, Nat.reduceLeDiff, Int.reduceToNat, Nat.reduceBEq]
      repeat ((with_reducible apply And.intro); (case left => first | omega | (simp only [List.length_append, List.length_cons, List.length_nil, List.length_drop, List.length_take, List.length_tail, List.length_dropLast, fs_length, ss_length, bs_length, ns_length]; omega)))
      rcases says_cases l d true with ⟨e1, e2⟩ | ⟨k, r, e1, e2, e3⟩
      · rw [e1]
        simp only [ige_f (show ¬ (0 : Int) ≤ -1 by omega), q1, go_sem, reduceCtorEq, Nat.reduceEqDiff, reduceIte, Nat.reduceAdd, Nat.reduceSub, Nat.reduceLeDiff, Int.reduceToNat, Nat.reduceBEq]
        repeat ((with_reducible apply And.intro); (case left => first | omega | (simp only [List.length_append, List.length_cons, List.length_nil, List.length_drop, List.length_take, List.length_tail, List.length_dropLast, fs_length, ss_length, bs_length, ns_length]; omega)))
        exact ih h (hI' e2 rfl)
      · rw [e1]
        simp only [ige_t (show (0 : Int) ≤ (k : Int) by omega), Int.toNat_natCast, e2, go_sem, reduceCtorEq, Nat.reduceEqDiff, reduceIte, Nat.reduceAdd, Nat.reduceSub, Nat.reduceLeDiff, Int.reduceToNat, Nat.reduceBEq]
        repeat ((with_reducible apply And.intro); (case left => first | omega | (simp only [List.length_append, List.length_cons, List.length_nil, List.length_drop, List.length_take, List.length_tail, List.length_dropLast, fs_length, ss_length, bs_length, ns_length]; omega)))
        cases hb : r.2.2.1 with
        | true =>
          rw [hb] at e3
          simp only [unVal, q1, Bool.not_true, go_sem, reduceCtorEq, Nat.reduceEqDiff, reduceIte, Nat.reduceAdd, Nat.reduceSub, Nat.reduceLeDiff, Int.reduceToNat, Nat.reduceBEq]
          repeat ((with_reducible apply And.intro); (case left => first | omega | (simp only [List.length_append, List.length_cons, List.length_nil, List.length_drop, List.length_take, List.length_tail, List.length_dropLast, fs_length, ss_length, bs_length, ns_length]; omega)))
          exact ih h (hI' e3 rfl)
        | false =>
          rw [hb] at e3
          rw [hT e3]
          simp only [unVal, Bool.not_false, go_sem, reduceCtorEq, Nat.reduceEqDiff, reduceIte, Nat.reduceAdd, Nat.reduceSub, Nat.reduceLeDiff, Int.reduceToNat, Nat.reduceBEq]
          repeat ((with_reducible apply And.intro); (case left => first | omega | (simp only [List.length_append, List.length_cons, List.length_nil, List.length_drop, List.length_take, List.length_tail, List.length_dropLast, fs_length, ss_length, bs_length, ns_length]; omega)))
          try rfl
    · obtain rfl : n = (pieces p).length := by omega
      have ha : (dirs p).any (says l · true) = false := by
        rw [List.any_eq_false]
        intro d hd hs
        rw [dirs_pieces] at hd
        obtain ⟨j, hj, rfl⟩ := List.mem_map.1 hd
        rw [List.mem_range] at hj
        rw [hI j (by omega)] at hs; cases hs
      rw [ha, Bool.false_or]
      simp only [lt_f h, ris30_k1_w, ris30_k1', go_sem, reduceCtorEq, Nat.reduceEqDiff, reduceIte, Nat.reduceAdd, Nat.reduceSub, Nat.reduceLeDiff, Int.reduceToNat, Nat.reduceBEq]
      repeat ((with_reducible apply And.intro); (case left => first | omega | (simp only [List.length_append, List.length_cons, List.length_nil, List.length_drop, List.length_take, List.length_tail, List.length_dropLast, fs_length, ss_length, bs_length, ns_length]; omega)))
      repeat ((with_reducible apply And.intro); (case left => first | omega | (simp only [List.length_append, List.length_cons, List.length_nil, List.length_drop, List.length_take, List.length_tail, List.length_dropLast, fs_length, ss_length, bs_length, ns_length]; omega)))
      refine of_call (rlasti_snd l p f hl hp) ?_
      simp only [go_sem, reduceCtorEq, Nat.reduceEqDiff, reduceIte, Nat.reduceAdd, Nat.reduceSub, Nat.reduceLeDiff, Int.reduceToNat, Nat.reduceBEq]
      repeat ((with_reducible apply And.intro); (case left => first | omega | (simp only [List.length_append, List.length_cons, List.length_nil, List.length_drop, List.length_take, List.length_tail, List.length_dropLast, fs_length, ss_length, bs_length, ns_length]; omega)))
      rcases says_cases l p f with ⟨e1, e2⟩ | ⟨k, r, e1, e2, e3⟩
      · rw [e1, e2]
        simp only [ige_f (show ¬ (0 : Int) ≤ -1 by omega), go_sem, reduceCtorEq, Nat.reduceEqDiff, reduceIte, Nat.reduceAdd, Nat.reduceSub, Nat.reduceLeDiff, Int.reduceToNat, Nat.reduceBEq]
        repeat ((with_reducible apply And.intro); (case left => first | omega | (simp only [List.length_append, List.length_cons, List.length_nil, List.length_drop, List.length_take, List.length_tail, List.length_dropLast, fs_length, ss_length, bs_length, ns_length]; omega)))
        try rfl
      · rw [e1, e3]
        simp only [ige_t (show (0 : Int) ≤ (k : Int) by omega), Int.toNat_natCast, e2, unVal, go_sem, reduceCtorEq, Nat.reduceEqDiff, reduceIte, Nat.reduceAdd, Nat.reduceSub, Nat.reduceLeDiff, Int.reduceToNat, Nat.reduceBEq]
        repeat ((with_reducible apply And.intro); (case left => first | omega | (simp only [List.length_append, List.length_cons, List.length_nil, List.length_drop, List.length_take, List.length_tail, List.length_dropLast, fs_length, ss_length, bs_length, ns_length]; omega)))
        try first | rfl | omega
/-! the examples -/
def exI : List Rule := [([42, 46, 111], [], false, false, false), ([97, 46, 111], [], true, false, false), ([98], [], false, true, true), ([99, 47, 100], [], false, false, true)]
theorem exI_parse : parseI [42, 46, 111, 10, 33, 97, 46, 111, 10, 47, 98, 47, 10, 99, 47, 100, 10] [] = exI := by decide +kernel
theorem exI_ok : okRules exI := ⟨by decide, by decide⟩
theorem ilives_snd : Snd Tryd.prog (gl m) 29 [] (B true) := by
  refine snd_of (fn := Tryd.f29) (af := ilives) Tryd.func29 (ilives_comp m) mixed (kn_ok m) (Nat.le_of_ble_eq_true rfl) ?_
  simp only [ilives, go_sem, reduceCtorEq, Nat.reduceEqDiff, reduceIte, Nat.reduceAdd, Nat.reduceSub, Nat.reduceLeDiff, Int.reduceToNat, Nat.reduceBEq]
  refine of_call (iparse_snd [42, 46, 111, 10, 33, 97, 46, 111, 10, 47, 98, 47, 10, 99, 47, 100, 10] [] (by decide) (by decide)) ?_
  rw [exI_parse]
  simp only [eq_t (show ((exI.length : Nat) : Int) = 4 from rfl), go_sem, reduceCtorEq, Nat.reduceEqDiff, reduceIte, Nat.reduceAdd, Nat.reduceSub, Nat.reduceLeDiff, Int.reduceToNat, Nat.reduceBEq]
  refine of_call (is_snd exI [120, 46, 111] false exI_ok (by decide)) ?_
  rw [show isI exI [120, 46, 111] false = true by decide +kernel]
  simp only [go_sem, reduceCtorEq, Nat.reduceEqDiff, reduceIte, Nat.reduceAdd, Nat.reduceSub, Nat.reduceLeDiff, Int.reduceToNat, Nat.reduceBEq]
  repeat ((with_reducible apply And.intro); (case left => first | omega | (simp only [List.length_append, List.length_cons, List.length_nil, List.length_drop, List.length_take, List.length_tail, List.length_dropLast, fs_length, ss_length, bs_length, ns_length]; omega)))
  refine of_call (is_snd exI [97, 46, 111] false exI_ok (by decide)) ?_
  rw [show isI exI [97, 46, 111] false = false by decide +kernel]
  simp only [unVal, Bool.not_false, go_sem, reduceCtorEq, Nat.reduceEqDiff, reduceIte, Nat.reduceAdd, Nat.reduceSub, Nat.reduceLeDiff, Int.reduceToNat, Nat.reduceBEq]
  repeat ((with_reducible apply And.intro); (case left => first | omega | (simp only [List.length_append, List.length_cons, List.length_nil, List.length_drop, List.length_take, List.length_tail, List.length_dropLast, fs_length, ss_length, bs_length, ns_length]; omega)))
  refine of_call (is_snd exI [98, 47, 120] false exI_ok (by decide)) ?_
  rw [show isI exI [98, 47, 120] false = true by decide +kernel]
  simp only [go_sem, reduceCtorEq, Nat.reduceEqDiff, reduceIte, Nat.reduceAdd, Nat.reduceSub, Nat.reduceLeDiff, Int.reduceToNat, Nat.reduceBEq]
  repeat ((with_reducible apply And.intro); (case left => first | omega | (simp only [List.length_append, List.length_cons, List.length_nil, List.length_drop, List.length_take, List.length_tail, List.length_dropLast, fs_length, ss_length, bs_length, ns_length]; omega)))
  refine of_call (is_snd exI [121, 47, 98, 47, 120] false exI_ok (by decide)) ?_
  rw [show isI exI [121, 47, 98, 47, 120] false = false by decide +kernel]
  simp only [unVal, Bool.not_false, go_sem, reduceCtorEq, Nat.reduceEqDiff, reduceIte, Nat.reduceAdd, Nat.reduceSub, Nat.reduceLeDiff, Int.reduceToNat, Nat.reduceBEq]
  repeat ((with_reducible apply And.intro); (case left => first | omega | (simp only [List.length_append, List.length_cons, List.length_nil, List.length_drop, List.length_take, List.length_tail, List.length_dropLast, fs_length, ss_length, bs_length, ns_length]; omega)))
  refine of_call (is_snd exI [99, 47, 100] false exI_ok (by decide)) ?_
  rw [show isI exI [99, 47, 100] false = true by decide +kernel]
  simp only [go_sem, reduceCtorEq, Nat.reduceEqDiff, reduceIte, Nat.reduceAdd, Nat.reduceSub, Nat.reduceLeDiff, Int.reduceToNat, Nat.reduceBEq]
  repeat ((with_reducible apply And.intro); (case left => first | omega | (simp only [List.length_append, List.length_cons, List.length_nil, List.length_drop, List.length_take, List.length_tail, List.length_dropLast, fs_length, ss_length, bs_length, ns_length]; omega)))
  refine of_call (is_snd exI [120, 47, 99, 47, 100] false exI_ok (by decide)) ?_
  rw [show isI exI [120, 47, 99, 47, 100] false = false by decide +kernel]
  simp only [unVal, Bool.not_false, go_sem, reduceCtorEq, Nat.reduceEqDiff, reduceIte, Nat.reduceAdd, Nat.reduceSub, Nat.reduceLeDiff, Int.reduceToNat, Nat.reduceBEq]
  repeat ((with_reducible apply And.intro); (case left => first | omega | (simp only [List.length_append, List.length_cons, List.length_nil, List.length_drop, List.length_take, List.length_tail, List.length_dropLast, fs_length, ss_length, bs_length, ns_length]; omega)))
  try rfl
end Go.At
/- Ignore: the laws' own functions. -/
namespace Go.At
open Go Go.Ev Go.Proofs
open Go.Ln (u8b_t u8b_f lines lines_len line_len lf crlf binary idx idx_eq unfeed unfeed_len)
open Go.Gb (isPath isPat matchF pieces pieces_ne pieces_len piece_len parts pis_snd ris_snd rparts_snd)
set_option linter.unusedVariables false
set_option linter.unusedSimpArgs false
attribute [local go_sem] eqs implies_true List.map_cons List.map_nil kl klL roD roL Option.map_some Option.map_none Option.getD_some Option.getD_none binVal binObl unVal if_true if_false eq_self passA frnD resD content getH getR getW viaNot viaSlot viaBox viaDeep viaMem List.contains_cons List.contains_nil grabs peeks okCells isCell place cellsOf chunk elt List.headD_cons List.length_cons List.length_nil List.take_succ_cons List.take_zero List.drop_succ_cons List.drop_zero List.nil_append List.cons_append List.append_nil List.all_cons List.all_nil plainC takeR setW over reCell List.getElem?_cons_zero List.getElem?_cons_succ List.set_cons_zero List.take_length outV resG plainV pack outVG outBx List.set_cons_succ Ref.idx Ref.addOff beq_self_eq_true bxL Option.bind_some writeR isLit viaBoxes capsPA boxPA nsOf noDup boxesAt argG passG passD rhoIn rhoOut idxIn tr trL List.getD_cons_zero gives pasOf isPtr Ins.d List.getD_cons_succ resL frnL List.getLast?_nil frnL_fs roL_fs resL_fs passL_fs klL_fs trL_fs map_roD_fs fs_length ruleT
variable {m : Int}
def lwTells_l0' : AC := .seq (.seq (.reg (.seq [⟨(some (13, false)), none, .mov (.tmp 7 true) .peek⟩,
      ⟨(some (14, false)), none, .mov (.tmp 0 true) .peek⟩,
      ⟨(some (15, false)), none, .lenL (.tmp 14 false)⟩,
      ⟨(some (16, false)), none, .bin .lss (.tmp 13 false) (.tmp 15 false)⟩])) [0, 1, 2, 7, 16] []
  (.cond (.tmp 16 false)
    (.skip)
    (.exit 0))) [0, 1, 2, 7] []
  (.seq (.block 1 (.seq (.reg (.draw [⟨(some (19, false)), none, .mov (.tmp 0 true) .peek⟩,
      ⟨(some (20, false)), none, .mov (.tmp 7 true) .peek⟩,
      ⟨(some (21, false)), none, .iad (.tmp 19 false) (.tmp 20 false) 5⟩,
      ⟨(some (22, false)), none, .load (.tmp 21 false) 5 true false⟩,
      ⟨(some (23, false)), none, .mov (.tmp 1 true) .peek⟩,
      ⟨(some (24, false)), none, .mov (.tmp 2 true) .peek⟩,
      ⟨(some (25, false)), none, .call 34 [(.tmp 22 false), (.tmp 23 false), (.tmp 24 false)]⟩,
      ⟨(some (26, false)), none, .mov (.tmp 0 true) .peek⟩,
      ⟨(some (27, false)), none, .mov (.tmp 7 true) .peek⟩,
      ⟨(some (28, false)), none, .iad (.tmp 26 false) (.tmp 27 false) 5⟩,
      ⟨(some (29, false)), none, .load (.tmp 28 false) 5 true false⟩,
      ⟨(some (30, false)), none, .mov (.tmp 1 true) .peek⟩,
      ⟨(some (31, false)), none, .mov (.tmp 2 true) .peek⟩,
      ⟨(some (32, false)), none, .call 35 [(.tmp 29 false), (.tmp 30 false), (.tmp 31 false)]⟩,
      ⟨(some (33, false)), none, .eqb true (.tmp 25 false) (.tmp 32 false)⟩] .done)) [0, 1, 2, 7, 33] []
    (.cond (.tmp 33 false)
      (.seq (.reg (.seq [⟨(some (6, true)), none, .mov (.cst (.bool false) (.lit (.bool false))) .asg⟩])) [6] []
      (.ret))
      (.skip)))) [0, 1, 2, 7] []
  (.reg (.seq [⟨(some (17, false)), none, .mov (.tmp 7 true) .peek⟩,
      ⟨(some (18, false)), none, .bin .add (.tmp 17 false) (.cst (.int .i64 1) (.lit (.int .i64 1)))⟩,
      ⟨(some (7, true)), none, .mov (.tmp 18 false) .asg⟩])))
def lwTells_l0 : AC := lwTells_l0'
theorem lwTells_l0_w (C : Kn) (K : Ex → St → Prop) (s : St) : vcC C lwTells_l0 K s = vcC C lwTells_l0' K s := nr rfl
def lwTells_k1' : AC := .seq (.reg (.seq [⟨(some (34, false)), none, .mov (.tmp 0 true) .peek⟩,
      ⟨(some (35, false)), none, .mov (.tmp 1 true) .peek⟩,
      ⟨(some (36, false)), none, .mov (.tmp 2 true) .peek⟩,
      ⟨(some (37, false)), none, .call 36 [(.tmp 34 false), (.tmp 35 false), (.tmp 36 false)]⟩,
      ⟨(some (38, false)), none, .mov (.tmp 0 true) .peek⟩,
      ⟨(some (39, false)), none, .mov (.tmp 1 true) .peek⟩,
      ⟨(some (40, false)), none, .mov (.tmp 2 true) .peek⟩,
      ⟨(some (41, false)), none, .call 37 [(.tmp 38 false), (.tmp 39 false), (.tmp 40 false)]⟩,
      ⟨(some (42, false)), none, .bin .eql (.tmp 37 false) (.tmp 41 false)⟩,
      ⟨(some (43, false)), none, .mov (.tmp 42 false) .peek⟩,
      ⟨(some (44, false)), (some (43, true)), .mov (.tmp 0 true) .peek⟩,
      ⟨(some (45, false)), (some (43, true)), .mov (.tmp 1 true) .peek⟩,
      ⟨(some (46, false)), (some (43, true)), .mov (.tmp 2 true) .peek⟩,
      ⟨(some (47, false)), (some (43, true)), .call 38 [(.tmp 44 false), (.tmp 45 false), (.tmp 46 false)]⟩,
      ⟨(some (48, false)), (some (43, true)), .mov (.tmp 0 true) .peek⟩,
      ⟨(some (49, false)), (some (43, true)), .mov (.tmp 1 true) .peek⟩,
      ⟨(some (50, false)), (some (43, true)), .mov (.tmp 2 true) .peek⟩,
      ⟨(some (51, false)), (some (43, true)), .call 39 [(.tmp 48 false), (.tmp 49 false), (.tmp 50 false)]⟩,
      ⟨(some (52, false)), (some (43, true)), .eqb false (.tmp 47 false) (.tmp 51 false)⟩,
      ⟨(some (53, false)), none, .pick (.tmp 43 false) (.tmp 52 false) (.cst (.bool false) (.lit (.bool false)))⟩,
      ⟨(some (54, false)), none, .mov (.tmp 53 false) .peek⟩,
      ⟨(some (55, false)), (some (54, true)), .call 29 []⟩,
      ⟨(some (56, false)), none, .pick (.tmp 54 false) (.tmp 55 false) (.cst (.bool false) (.lit (.bool false)))⟩,
      ⟨(some (6, true)), none, .mov (.tmp 56 false) .asg⟩])) [6] []
  (.ret)
def lwTells_k1 : AC := lwTells_k1'
theorem lwTells_k1_w (C : Kn) (K : Ex → St → Prop) (s : St) : vcC C lwTells_k1 K s = vcC C lwTells_k1' K s := nr rfl
def lwTells : AF := ⟨.seq (.reg (.seq [⟨(some (6, true)), none, .mov (.cst (.bool false) (.lit (.bool false))) .asg⟩])) [0, 1, 2] []
  (.seq (.seq (.reg (.seq [⟨(some (8, false)), none, .mov (.tmp 0 true) .peek⟩,
      ⟨(some (9, false)), none, .mov (.tmp 1 true) .peek⟩,
      ⟨(some (10, false)), none, .call 33 [(.tmp 8 false), (.tmp 9 false)]⟩,
      ⟨(some (11, false)), none, .un .not (.tmp 10 false)⟩])) [0, 1, 2, 11] []
  (.cond (.tmp 11 false)
    (.seq (.reg (.seq [⟨(some (12, false)), none, .call 29 []⟩,
      ⟨(some (6, true)), none, .mov (.tmp 12 false) .asg⟩])) [6] []
    (.ret))
    (.skip))) [0, 1, 2] []
  (.seq (.seq (.reg (.seq [⟨(some (7, true)), none, .mov (.cst (.int .i64 0) (.lit (.int .i64 0))) .asg⟩])) [0, 1, 2, 7] []
  (.block 0 (.loop [0, 1, 2, 7] [] lwTells_l0))) [0, 1, 2] [] lwTells_k1)),
  [.tmp 6]⟩
theorem lwTells_comp (m : Int) : compF Tryd.prog (gl m) [] Tryd.f9 = some lwTells := by kernel_rfl
theorem lwTells_snd (l : List Rule) (p : Bs) (f : Bool) (hl : okRules l) (hp : p.length ≤ 1048575) : Snd Tryd.prog (gl m) 9 [.sl .frn 5 (fs fR l), S p, B f] (B true) := by
  refine snd_of (fn := Tryd.f9) (af := lwTells) Tryd.func9 (lwTells_comp m) mixed (kn_ok m) (Nat.le_of_ble_eq_true rfl) ?_
  simp only [lwTells, go_sem, reduceCtorEq, Nat.reduceEqDiff, reduceIte, Nat.reduceAdd, Nat.reduceSub, Nat.reduceLeDiff, Int.reduceToNat, Nat.reduceBEq]
  repeat ((with_reducible apply And.intro); (case left => first | omega | (simp only [List.length_append, List.length_cons, List.length_nil, List.length_drop, List.length_take, List.length_tail, List.length_dropLast, fs_length, ss_length, bs_length, ns_length]; omega)))
  refine of_call (ishort_snd l p hl (by omega)) ?_
  simp only [go_sem, reduceCtorEq, Nat.reduceEqDiff, reduceIte, Nat.reduceAdd, Nat.reduceSub, Nat.reduceLeDiff, Int.reduceToNat, Nat.reduceBEq]
  repeat ((with_reducible apply And.intro); (case left => first | omega | (simp only [List.length_append, List.length_cons, List.length_nil, List.length_drop, List.length_take, List.length_tail, List.length_dropLast, fs_length, ss_length, bs_length, ns_length]; omega)))
  cases shortI l p with
  | false =>
    simp only [unVal, Bool.not_false, go_sem, reduceCtorEq, Nat.reduceEqDiff, reduceIte, Nat.reduceAdd, Nat.reduceSub, Nat.reduceLeDiff, Int.reduceToNat, Nat.reduceBEq]
    repeat ((with_reducible apply And.intro); (case left => first | omega | (simp only [List.length_append, List.length_cons, List.length_nil, List.length_drop, List.length_take, List.length_tail, List.length_dropLast, fs_length, ss_length, bs_length, ns_length]; omega)))
    repeat ((with_reducible apply And.intro); (case left => first | omega | (simp only [List.length_append, List.length_cons, List.length_nil, List.length_drop, List.length_take, List.length_tail, List.length_dropLast, fs_length, ss_length, bs_length, ns_length]; omega)))
    refine of_call (ilives_snd) ?_
    simp only [go_sem, reduceCtorEq, Nat.reduceEqDiff, reduceIte, Nat.reduceAdd, Nat.reduceSub, Nat.reduceLeDiff, Int.reduceToNat, Nat.reduceBEq]
    repeat ((with_reducible apply And.intro); (case left => first | omega | (simp only [List.length_append, List.length_cons, List.length_nil, List.length_drop, List.length_take, List.length_tail, List.length_dropLast, fs_length, ss_length, bs_length, ns_length]; omega)))
    try rfl
  | true =>
    simp only [unVal, Bool.not_true, go_sem, reduceCtorEq, Nat.reduceEqDiff, reduceIte, Nat.reduceAdd, Nat.reduceSub, Nat.reduceLeDiff, Int.reduceToNat, Nat.reduceBEq]
    repeat ((with_reducible apply And.intro); (case left => first | omega | (simp only [List.length_append, List.length_cons, List.length_nil, List.length_drop, List.length_take, List.length_tail, List.length_dropLast, fs_length, ss_length, bs_length, ns_length]; omega)))
    have hll := hl.1
    refine loop_up l.length (fun i => mkS [(0, .sl .frn 5 (fs fR l)), (1, S p), (2, B f), (7, N i)] []) rfl ?_
    intro i hi ih
    simp only [lwTells_l0_w, lwTells_l0', go_sem, reduceCtorEq, Nat.reduceEqDiff, reduceIte, Nat.reduceAdd, Nat.reduceSub, Nat.reduceLeDiff, Int.reduceToNat, Nat.reduceBEq]
    repeat ((with_reducible apply And.intro); (case left => first | omega | (simp only [List.length_append, List.length_cons, List.length_nil, List.length_drop, List.length_take, List.length_tail, List.length_dropLast, fs_length, ss_length, bs_length, ns_length]; omega)))
    by_cases h : i < l.length
    · have g := fs_getR h
      have hr := hl.2 l[i] (List.getElem_mem h)
      have q1 : IntKind.i64.wrap ((i : Int) + 1) = ((i + 1 : Nat) : Int) := wrapN _ (by omega) (by omega)
      generalize l[i] = r at g hr
      simp only [lt_t h, g, Int.toNat_natCast, go_sem, reduceCtorEq, Nat.reduceEqDiff, reduceIte, Nat.reduceAdd, Nat.reduceSub, Nat.reduceLeDiff, Int.reduceToNat, Nat.reduceBEq]
      repeat ((with_reducible apply And.intro); (case left => first | omega | (simp only [List.length_append, List.length_cons, List.length_nil, List.length_drop, List.length_take, List.length_tail, List.length_dropLast, fs_length, ss_length, bs_length, ns_length]; omega)))
      repeat ((with_reducible apply And.intro); (case left => first | omega | (simp only [List.length_append, List.length_cons, List.length_nil, List.length_drop, List.length_take, List.length_tail, List.length_dropLast, fs_length, ss_length, bs_length, ns_length]; omega)))
      refine of_call (ihas_snd r p f hr.1 hr.2 hp) ?_
      simp only [go_sem, reduceCtorEq, Nat.reduceEqDiff, reduceIte, Nat.reduceAdd, Nat.reduceSub, Nat.reduceLeDiff, Int.reduceToNat, Nat.reduceBEq]
      repeat ((with_reducible apply And.intro); (case left => first | omega | (simp only [List.length_append, List.length_cons, List.length_nil, List.length_drop, List.length_take, List.length_tail, List.length_dropLast, fs_length, ss_length, bs_length, ns_length]; omega)))
      try simp only [g, Int.toNat_natCast, go_sem, reduceCtorEq, Nat.reduceEqDiff, reduceIte, Nat.reduceAdd, Nat.reduceSub, Nat.reduceLeDiff, Int.reduceToNat, Nat.reduceBEq]
      repeat ((with_reducible apply And.intro); (case left => first | omega | (simp only [List.length_append, List.length_cons, List.length_nil, List.length_drop, List.length_take, List.length_tail, List.length_dropLast, fs_length, ss_length, bs_length, ns_length]; omega)))
      repeat ((with_reducible apply And.intro); (case left => first | omega | (simp only [List.length_append, List.length_cons, List.length_nil, List.length_drop, List.length_take, List.length_tail, List.length_dropLast, fs_length, ss_length, bs_length, ns_length]; omega)))
      refine of_call (rhas_snd r p f hr.1 hr.2 hp) ?_
      simp only [go_sem, reduceCtorEq, Nat.reduceEqDiff, reduceIte, Nat.reduceAdd, Nat.reduceSub, Nat.reduceLeDiff, Int.reduceToNat, Nat.reduceBEq]
      repeat ((with_reducible apply And.intro); (case left => first | omega | (simp only [List.length_append, List.length_cons, List.length_nil, List.length_drop, List.length_take, List.length_tail, List.length_dropLast, fs_length, ss_length, bs_length, ns_length]; omega)))
      simp only [beq_self_eq_true, Bool.not_true, q1, go_sem, reduceCtorEq, Nat.reduceEqDiff, reduceIte, Nat.reduceAdd, Nat.reduceSub, Nat.reduceLeDiff, Int.reduceToNat, Nat.reduceBEq]
      repeat ((with_reducible apply And.intro); (case left => first | omega | (simp only [List.length_append, List.length_cons, List.length_nil, List.length_drop, List.length_take, List.length_tail, List.length_dropLast, fs_length, ss_length, bs_length, ns_length]; omega)))
      exact ih h
    · simp only [lt_f h, lwTells_k1_w, lwTells_k1', go_sem, reduceCtorEq, Nat.reduceEqDiff, reduceIte, Nat.reduceAdd, Nat.reduceSub, Nat.reduceLeDiff, Int.reduceToNat, Nat.reduceBEq]
      repeat ((with_reducible apply And.intro); (case left => first | omega | (simp only [List.length_append, List.length_cons, List.length_nil, List.length_drop, List.length_take, List.length_tail, List.length_dropLast, fs_length, ss_length, bs_length, ns_length]; omega)))
      repeat ((with_reducible apply And.intro); (case left => first | omega | (simp only [List.length_append, List.length_cons, List.length_nil, List.length_drop, List.length_take, List.length_tail, List.length_dropLast, fs_length, ss_length, bs_length, ns_length]; omega)))
      refine of_call (ilast_snd l p f hl hp) ?_
      simp only [go_sem, reduceCtorEq, Nat.reduceEqDiff, reduceIte, Nat.reduceAdd, Nat.reduceSub, Nat.reduceLeDiff, Int.reduceToNat, Nat.reduceBEq]
      repeat ((with_reducible apply And.intro); (case left => first | omega | (simp only [List.length_append, List.length_cons, List.length_nil, List.length_drop, List.length_take, List.length_tail, List.length_dropLast, fs_length, ss_length, bs_length, ns_length]; omega)))
      repeat ((with_reducible apply And.intro); (case left => first | omega | (simp only [List.length_append, List.length_cons, List.length_nil, List.length_drop, List.length_take, List.length_tail, List.length_dropLast, fs_length, ss_length, bs_length, ns_length]; omega)))
      refine of_call (rlasti_snd l p f hl hp) ?_
      simp only [go_sem, reduceCtorEq, Nat.reduceEqDiff, reduceIte, Nat.reduceAdd, Nat.reduceSub, Nat.reduceLeDiff, Int.reduceToNat, Nat.reduceBEq]
      repeat ((with_reducible apply And.intro); (case left => first | omega | (simp only [List.length_append, List.length_cons, List.length_nil, List.length_drop, List.length_take, List.length_tail, List.length_dropLast, fs_length, ss_length, bs_length, ns_length]; omega)))
      try simp only [beq_self_eq_true, go_sem, reduceCtorEq, Nat.reduceEqDiff, reduceIte, Nat.reduceAdd, Nat.reduceSub, Nat.reduceLeDiff, Int.reduceToNat, Nat.reduceBEq]
      repeat ((with_reducible apply And.intro); (case left => first | omega | (simp only [List.length_append, List.length_cons, List.length_nil, List.length_drop, List.length_take, List.length_tail, List.length_dropLast, fs_length, ss_length, bs_length, ns_length]; omega)))
      repeat ((with_reducible apply And.intro); (case left => first | omega | (simp only [List.length_append, List.length_cons, List.length_nil, List.length_drop, List.length_take, List.length_tail, List.length_dropLast, fs_length, ss_length, bs_length, ns_length]; omega)))
      refine of_call (is_snd l p f hl hp) ?_
      simp only [go_sem, reduceCtorEq, Nat.reduceEqDiff, reduceIte, Nat.reduceAdd, Nat.reduceSub, Nat.reduceLeDiff, Int.reduceToNat, Nat.reduceBEq]
      repeat ((with_reducible apply And.intro); (case left => first | omega | (simp only [List.length_append, List.length_cons, List.length_nil, List.length_drop, List.length_take, List.length_tail, List.length_dropLast, fs_length, ss_length, bs_length, ns_length]; omega)))
      repeat ((with_reducible apply And.intro); (case left => first | omega | (simp only [List.length_append, List.length_cons, List.length_nil, List.length_drop, List.length_take, List.length_tail, List.length_dropLast, fs_length, ss_length, bs_length, ns_length]; omega)))
      refine of_call (ris30_snd l p f hl hp) ?_
      simp only [go_sem, reduceCtorEq, Nat.reduceEqDiff, reduceIte, Nat.reduceAdd, Nat.reduceSub, Nat.reduceLeDiff, Int.reduceToNat, Nat.reduceBEq]
      repeat ((with_reducible apply And.intro); (case left => first | omega | (simp only [List.length_append, List.length_cons, List.length_nil, List.length_drop, List.length_take, List.length_tail, List.length_dropLast, fs_length, ss_length, bs_length, ns_length]; omega)))
      try simp only [beq_self_eq_true, go_sem, reduceCtorEq, Nat.reduceEqDiff, reduceIte, Nat.reduceAdd, Nat.reduceSub, Nat.reduceLeDiff, Int.reduceToNat, Nat.reduceBEq]
      repeat ((with_reducible apply And.intro); (case left => first | omega | (simp only [List.length_append, List.length_cons, List.length_nil, List.length_drop, List.length_take, List.length_tail, List.length_dropLast, fs_length, ss_length, bs_length, ns_length]; omega)))
      repeat ((with_reducible apply And.intro); (case left => first | omega | (simp only [List.length_append, List.length_cons, List.length_nil, List.length_drop, List.length_take, List.length_tail, List.length_dropLast, fs_length, ss_length, bs_length, ns_length]; omega)))
      refine of_call (ilives_snd) ?_
      simp only [go_sem, reduceCtorEq, Nat.reduceEqDiff, reduceIte, Nat.reduceAdd, Nat.reduceSub, Nat.reduceLeDiff, Int.reduceToNat, Nat.reduceBEq]
      repeat ((with_reducible apply And.intro); (case left => first | omega | (simp only [List.length_append, List.length_cons, List.length_nil, List.length_drop, List.length_take, List.length_tail, List.length_dropLast, fs_length, ss_length, bs_length, ns_length]; omega)))
      try rfl
end Go.At

