import Derived.Test.YtcahaecjjochbaaDoorAtB
set_option linter.unusedVariables false
set_option linter.unusedSimpArgs false
/- Ignore: texts of rules; what has a path; the last that has it. -/
namespace Go.At
open Go Go.Ev Go.Proofs
open Go.Ln (u8b_t u8b_f lines lines_len line_len lf crlf binary idx idx_eq unfeed unfeed_len psplit_snd rsplit_snd)
open Go.Gb (isPath isPat matchF pis_snd ris_snd gis_snd r7is_snd gmatch_snd r7match_snd gPart_snd r7part_snd)
set_option linter.unusedVariables false
set_option linter.unusedSimpArgs false
attribute [local go_sem] eqs implies_true List.map_cons List.map_nil kl klL roD roL Option.map_some Option.map_none Option.getD_some Option.getD_none binVal binObl unVal if_true if_false eq_self passA frnD resD content getH getR getW viaNot viaSlot viaBox viaDeep viaMem List.contains_cons List.contains_nil grabs peeks okCells isCell place cellsOf chunk elt List.headD_cons List.length_cons List.length_nil List.take_succ_cons List.take_zero List.drop_succ_cons List.drop_zero List.nil_append List.cons_append List.append_nil List.all_cons List.all_nil plainC takeR setW over reCell List.getElem?_cons_zero List.getElem?_cons_succ List.set_cons_zero List.take_length outV resG plainV pack outVG outBx List.set_cons_succ Ref.idx Ref.addOff beq_self_eq_true bxL Option.bind_some writeR isLit viaBoxes capsPA boxPA nsOf noDup boxesAt argG passG passD rhoIn rhoOut idxIn tr trL List.getD_cons_zero gives pasOf isPtr Ins.d List.getD_cons_succ resL frnL List.getLast?_nil frnL_fs roL_fs resL_fs passL_fs klL_fs trL_fs map_roD_fs fs_length ruleT
variable {m : Int}
def iparse_l0' : AC := .seq (.reg (.seq [⟨(some (17, false)), none, .bin .lss (.tmp 16 true) (.tmp 15 true)⟩])) [1, 5, 14, 15, 16, 17] []
  (.seq (.cond (.tmp 17 false)
    (.skip)
    (.exit 0)) [1, 5, 14, 15, 16] []
  (.seq (.block 1 (.seq (.reg (.seq [⟨(some (18, false)), none, .iad (.tmp 14 true) (.tmp 16 true) 1⟩,
      ⟨(some (19, false)), none, .load (.tmp 18 false) 1 false false⟩,
      ⟨(some (7, true)), none, .mov (.tmp 19 false) .asg⟩])) [1, 5, 7, 14, 15, 16] []
    (.seq (.reg (.seq [⟨(some (21, false)), none, .mov (.tmp 7 true) .peek⟩,
      ⟨(some (22, false)), none, .call 65 [(.tmp 21 false), (.cst (.string (str [10])) (.lit (.string (str [10]))))]⟩,
      ⟨(some (23, false)), none, .mov (.tmp 1 true) .peek⟩,
      ⟨(some (24, false)), none, .call 64 [(.tmp 22 false), (.tmp 23 false)]⟩,
      ⟨(some (20, false)), none, .mov (.tmp 24 false) .peek⟩,
      ⟨(some (25, false)), none, .ext (.tmp 20 false) 0⟩,
      ⟨(some (26, false)), none, .ext (.tmp 20 false) 1⟩,
      ⟨(some (8, true)), none, .new [(.lit (.string (str []))), (.lit (.string (str []))), (.lit (.bool false)), (.lit (.bool false)), (.lit (.bool false))]⟩,
      ⟨none, none, .store (.tmp 8 true) (.tmp 25 false) 5⟩,
      ⟨(some (9, true)), none, .mov (.tmp 26 false) .asg⟩])) [1, 5, 8, 9, 14, 15, 16] [8]
    (.seq (.reg (.seq [⟨(some (27, false)), none, .mov (.tmp 9 true) .peek⟩])) [1, 5, 8, 14, 15, 16, 27] [8]
    (.cond (.tmp 27 false)
      (.reg (.seq [⟨(some (28, false)), none, .mov (.tmp 5 true) .take⟩,
      ⟨(some (29, false)), none, .load (.tmp 8 true) 5 true true⟩,
      ⟨(some (30, false)), none, .buildS 5 1 [(.lit (.string (str []))), (.lit (.string (str []))), (.lit (.bool false)), (.lit (.bool false)), (.lit (.bool false))] [(0, 5, (.tmp 29 false))]⟩,
      ⟨(some (31, false)), none, .app 5 40 (.tmp 28 false) (.tmp 30 false)⟩,
      ⟨(some (5, true)), none, .mov (.tmp 31 false) .asg⟩]))
      (.skip)))))) [1, 5, 14, 15, 16] []
  (.reg (.seq [⟨(some (32, false)), none, .bin .add (.tmp 16 true) (.cst (.int .i64 1) (.lit (.int .i64 1)))⟩,
      ⟨(some (16, true)), none, .mov (.tmp 32 false) .peek⟩]))))
def iparse_l0 : AC := iparse_l0'
theorem iparse_l0_w (C : Kn) (K : Ex → St → Prop) (s : St) : vcC C iparse_l0 K s = vcC C iparse_l0' K s := nr rfl
def iparse_k1' : AC := .seq (.reg (.seq [⟨(some (33, false)), none, .mov (.tmp 5 true) .take⟩,
      ⟨(some (4, true)), none, .mov (.tmp 33 false) .asg⟩])) [4, 5] []
  (.ret)
def iparse_k1 : AC := iparse_k1'
theorem iparse_k1_w (C : Kn) (K : Ex → St → Prop) (s : St) : vcC C iparse_k1 K s = vcC C iparse_k1' K s := nr rfl
def iparse : AF := ⟨.seq (.reg (.seq [⟨(some (4, true)), none, .mov (.cst (.slice none 0 0) (.sl .own 5 [])) .asg⟩])) [0, 1] []
  (.seq (.seq (.reg (.seq [⟨(some (10, false)), none, .mov (.tmp 1 true) .peek⟩,
      ⟨(some (11, false)), none, .call 63 [(.tmp 10 false)]⟩,
      ⟨(some (12, false)), none, .un .not (.tmp 11 false)⟩])) [0, 1, 12] []
  (.cond (.tmp 12 false)
    (.seq (.reg (.seq [⟨(some (4, true)), none, .mov (.cst (.slice none 0 0) (.sl .own 5 [])) .asg⟩])) [4, 5] []
    (.ret))
    (.skip))) [0, 1] []
  (.seq (.reg (.seq [⟨(some (5, true)), none, .mov (.cst (.slice none 0 0) (.sl .own 5 [])) .asg⟩])) [0, 1, 5] []
  (.seq (.seq (.reg (.seq [⟨(some (13, false)), none, .mov (.tmp 0 true) .peek⟩,
      ⟨(some (14, true)), none, .call 49 [(.tmp 13 false)]⟩,
      ⟨(some (15, true)), none, .lenL (.tmp 14 true)⟩,
      ⟨(some (16, true)), none, .mov (.cst (.int .i64 0) (.lit (.int .i64 0))) .peek⟩])) [1, 5, 14, 15, 16] []
  (.block 0 (.loop [1, 5, 14, 15, 16] [] iparse_l0))) [5] [] iparse_k1))),
  [.tmp 4]⟩
theorem iparse_comp (m : Int) : compF Tryd.prog (gl m) [] Tryd.f31 = some iparse := by kernel_rfl
def ihas_k0' : AC := .cond (.tmp 7 false)
      (.seq (.reg (.seq [⟨(some (6, true)), none, .mov (.cst (.bool false) (.lit (.bool false))) .asg⟩])) [6] []
      (.ret))
      (.seq (.reg (.seq [⟨(some (33, false)), none, .fad (.tmp 3 true) 4⟩,
      ⟨(some (34, false)), none, .load (.tmp 33 false) 1 false false⟩,
      ⟨(some (35, false)), none, .un .not (.tmp 34 false)⟩,
      ⟨(some (32, false)), none, .mov (.tmp 35 false) .asg⟩])) [1, 3, 32] [3]
      (.cond (.tmp 32 false)
        (.seq (.reg (.draw [⟨(some (36, false)), none, .fad (.tmp 3 true) 0⟩,
      ⟨(some (37, false)), none, .load (.tmp 36 false) 1 false false⟩,
      ⟨(some (38, false)), none, .mov (.tmp 1 true) .peek⟩,
      ⟨(some (39, false)), none, .call 72 [(.tmp 38 false)]⟩,
      ⟨(some (40, false)), none, .call 71 [(.tmp 37 false), (.tmp 39 false)]⟩] (.alt ⟨(some (6, true)), none, .mov (.tmp 40 false) .asg⟩ []
      .done .no))) [6] []
        (.ret))
        (.seq (.reg (.seq [⟨(some (42, false)), none, .fad (.tmp 3 true) 1⟩,
      ⟨(some (43, false)), none, .load (.tmp 42 false) 1 false false⟩,
      ⟨(some (44, false)), none, .bin .eql (.tmp 43 false) (.cst (.string (str [])) (.lit (.string (str []))))⟩,
      ⟨(some (41, false)), none, .mov (.tmp 44 false) .asg⟩])) [1, 3, 41] [3]
        (.cond (.tmp 41 false)
          (.seq (.reg (.seq [⟨(some (45, false)), none, .fad (.tmp 3 true) 0⟩,
      ⟨(some (46, false)), none, .load (.tmp 45 false) 1 false false⟩,
      ⟨(some (47, false)), none, .mov (.tmp 1 true) .peek⟩,
      ⟨(some (48, false)), none, .call 73 [(.tmp 46 false), (.tmp 47 false)]⟩,
      ⟨(some (6, true)), none, .mov (.tmp 48 false) .asg⟩])) [6] []
          (.ret))
          (.skip)))))
def ihas_k0 : AC := ihas_k0'
theorem ihas_k0_w (C : Kn) (K : Ex → St → Prop) (s : St) : vcC C ihas_k0 K s = vcC C ihas_k0' K s := nr rfl
def ihas_k1' : AC := .ret
def ihas_k1 : AC := ihas_k1'
theorem ihas_k1_w (C : Kn) (K : Ex → St → Prop) (s : St) : vcC C ihas_k1 K s = vcC C ihas_k1' K s := nr rfl
def ihas_k2' : AC := .seq (.reg (.draw [⟨(some (49, false)), none, .fad (.tmp 3 true) 0⟩,
      ⟨(some (50, false)), none, .load (.tmp 49 false) 1 false false⟩,
      ⟨(some (51, false)), none, .mov (.tmp 1 true) .peek⟩,
      ⟨(some (52, false)), none, .fad (.tmp 3 true) 1⟩,
      ⟨(some (53, false)), none, .load (.tmp 52 false) 1 false false⟩,
      ⟨(some (54, false)), none, .len (.tmp 53 false)⟩,
      ⟨(some (55, false)), none, .bin .add (.tmp 54 false) (.cst (.int .i64 1) (.lit (.int .i64 1)))⟩,
      ⟨(some (56, false)), none, .sub (.tmp 51 false) (some (.tmp 55 false)) none⟩,
      ⟨(some (57, false)), none, .call 73 [(.tmp 50 false), (.tmp 56 false)]⟩] (.alt ⟨(some (6, true)), none, .mov (.tmp 57 false) .asg⟩ []
      .done .no))) [6] [] ihas_k1
def ihas_k2 : AC := ihas_k2'
theorem ihas_k2_w (C : Kn) (K : Ex → St → Prop) (s : St) : vcC C ihas_k2 K s = vcC C ihas_k2' K s := nr rfl
def ihas : AF := ⟨.seq (.reg (.seq [⟨(some (3, true)), none, .box (.tmp 0 true)⟩,
      ⟨(some (6, true)), none, .mov (.cst (.bool false) (.lit (.bool false))) .asg⟩])) [1, 2, 3] [3]
  (.seq (.block 0 (.seq (.reg (.seq [⟨(some (8, false)), none, .mov (.tmp 1 true) .peek⟩,
      ⟨(some (9, false)), none, .call 69 [(.tmp 8 false)]⟩,
      ⟨(some (10, false)), none, .un .not (.tmp 9 false)⟩,
      ⟨(some (11, false)), none, .mov (.tmp 10 false) .peek⟩,
      ⟨(some (12, false)), (some (11, false)), .fad (.tmp 3 true) 1⟩,
      ⟨(some (13, false)), (some (11, false)), .load (.tmp 12 false) 1 false false⟩,
      ⟨(some (14, false)), (some (11, false)), .call 63 [(.tmp 13 false)]⟩,
      ⟨(some (15, false)), (some (11, false)), .un .not (.tmp 14 false)⟩,
      ⟨(some (16, false)), none, .pick (.tmp 11 false) (.cst (.bool true) (.lit (.bool true))) (.tmp 15 false)⟩,
      ⟨(some (17, false)), none, .mov (.tmp 16 false) .peek⟩,
      ⟨(some (18, false)), (some (17, false)), .fad (.tmp 3 true) 1⟩,
      ⟨(some (19, false)), (some (17, false)), .load (.tmp 18 false) 1 false false⟩,
      ⟨(some (20, false)), (some (17, false)), .mov (.tmp 1 true) .peek⟩,
      ⟨(some (21, false)), (some (17, false)), .call 70 [(.tmp 19 false), (.tmp 20 false)]⟩,
      ⟨(some (22, false)), (some (17, false)), .un .not (.tmp 21 false)⟩,
      ⟨(some (23, false)), none, .pick (.tmp 17 false) (.cst (.bool true) (.lit (.bool true))) (.tmp 22 false)⟩,
      ⟨(some (24, false)), none, .mov (.tmp 23 false) .peek⟩,
      ⟨(some (25, false)), (some (24, false)), .fad (.tmp 3 true) 3⟩,
      ⟨(some (26, false)), (some (24, false)), .load (.tmp 25 false) 1 false false⟩,
      ⟨(some (27, false)), (some (24, false)), .mov (.tmp 26 false) .peek⟩,
      ⟨(some (28, false)), (some (27, true)), .mov (.tmp 2 true) .peek⟩,
      ⟨(some (29, false)), (some (27, true)), .un .not (.tmp 28 false)⟩,
      ⟨(some (30, false)), (some (24, false)), .pick (.tmp 27 false) (.tmp 29 false) (.cst (.bool false) (.lit (.bool false)))⟩,
      ⟨(some (31, false)), none, .pick (.tmp 24 false) (.cst (.bool true) (.lit (.bool true))) (.tmp 30 false)⟩,
      ⟨(some (7, false)), none, .mov (.tmp 31 false) .asg⟩])) [1, 3, 7] [3] ihas_k0)) [1, 3] [3] ihas_k2),
  [.tmp 6]⟩
theorem ihas_comp (m : Int) : compF Tryd.prog (gl m) [] Tryd.f34 = some ihas := by kernel_rfl
def ilast_l0' : AC := .seq (.seq (.reg (.seq [⟨(some (11, false)), none, .mov (.tmp 7 true) .peek⟩,
      ⟨(some (12, false)), none, .bin .geq (.tmp 11 false) (.cst (.int .i64 0) (.lit (.int .i64 0)))⟩])) [0, 1, 2, 7, 12] []
  (.cond (.tmp 12 false)
    (.skip)
    (.exit 0))) [0, 1, 2, 7] []
  (.seq (.block 1 (.seq (.reg (.seq [⟨(some (15, false)), none, .mov (.tmp 0 true) .peek⟩,
      ⟨(some (16, false)), none, .mov (.tmp 7 true) .peek⟩,
      ⟨(some (17, false)), none, .iad (.tmp 15 false) (.tmp 16 false) 5⟩,
      ⟨(some (18, false)), none, .load (.tmp 17 false) 5 true false⟩,
      ⟨(some (19, false)), none, .mov (.tmp 1 true) .peek⟩,
      ⟨(some (20, false)), none, .mov (.tmp 2 true) .peek⟩,
      ⟨(some (21, false)), none, .call 34 [(.tmp 18 false), (.tmp 19 false), (.tmp 20 false)]⟩])) [0, 1, 2, 7, 21] []
    (.cond (.tmp 21 false)
      (.seq (.reg (.seq [⟨(some (22, false)), none, .mov (.tmp 7 true) .take⟩,
      ⟨(some (6, true)), none, .mov (.tmp 22 false) .asg⟩])) [6] []
      (.ret))
      (.skip)))) [0, 1, 2, 7] []
  (.reg (.seq [⟨(some (13, false)), none, .mov (.tmp 7 true) .peek⟩,
      ⟨(some (14, false)), none, .bin .sub (.tmp 13 false) (.cst (.int .i64 1) (.lit (.int .i64 1)))⟩,
      ⟨(some (7, true)), none, .mov (.tmp 14 false) .asg⟩])))
def ilast_l0 : AC := ilast_l0'
theorem ilast_l0_w (C : Kn) (K : Ex → St → Prop) (s : St) : vcC C ilast_l0 K s = vcC C ilast_l0' K s := nr rfl
def ilast_k1' : AC := .seq (.reg (.seq [⟨(some (6, true)), none, .mov (.cst (.int .i64 (-1)) (.lit (.int .i64 (-1)))) .asg⟩])) [6] []
  (.ret)
def ilast_k1 : AC := ilast_k1'
theorem ilast_k1_w (C : Kn) (K : Ex → St → Prop) (s : St) : vcC C ilast_k1 K s = vcC C ilast_k1' K s := nr rfl
def ilast : AF := ⟨.seq (.reg (.seq [⟨(some (6, true)), none, .mov (.cst (.int .i64 0) (.lit (.int .i64 0))) .asg⟩])) [0, 1, 2] []
  (.seq (.seq (.reg (.seq [⟨(some (8, false)), none, .mov (.tmp 0 true) .peek⟩,
      ⟨(some (9, false)), none, .lenL (.tmp 8 false)⟩,
      ⟨(some (10, false)), none, .bin .sub (.tmp 9 false) (.cst (.int .i64 1) (.lit (.int .i64 1)))⟩,
      ⟨(some (7, true)), none, .mov (.tmp 10 false) .asg⟩])) [0, 1, 2, 7] []
  (.block 0 (.loop [0, 1, 2, 7] [] ilast_l0))) [] [] ilast_k1),
  [.tmp 6]⟩
theorem ilast_comp (m : Int) : compF Tryd.prog (gl m) [] Tryd.f36 = some ilast := by kernel_rfl
def pI (dir : Bs) (L : List Bs) : List Rule := L.filterMap fun s => if (ruleOf dir (unfeed s)).2 then some (ruleOf dir (unfeed s)).1 else none
theorem pI_snoc (dir : Bs) (L : List Bs) (s : Bs) : pI dir (L ++ [s]) = if (ruleOf dir (unfeed s)).2 then pI dir L ++ [(ruleOf dir (unfeed s)).1] else pI dir L := by
  simp only [pI, List.filterMap_append, List.filterMap_cons, List.filterMap_nil]
  cases (ruleOf dir (unfeed s)).2 <;> simp
theorem pI_len (dir : Bs) (L : List Bs) : (pI dir L).length ≤ L.length := List.length_filterMap_le _ _
theorem iparse_snd (s dir : Bs) (hs : s.length ≤ 1048575) (hd : dir.length ≤ 1048575) : Snd Tryd.prog (gl m) 31 [S s, S dir] (.sl .own 5 (fs fR (parseI s dir))) := by
  refine snd_of (fn := Tryd.f31) (af := iparse) Tryd.func31 (iparse_comp m) mixed (kn_ok m) (Nat.le_of_ble_eq_true rfl) ?_
  simp only [iparse, go_sem, reduceCtorEq, Nat.reduceEqDiff, reduceIte, Nat.reduceAdd, Nat.reduceSub, Nat.reduceLeDiff, Int.reduceToNat, Nat.reduceBEq]
  repeat ((with_reducible apply And.intro); (case left => first | omega | (simp only [List.length_append, List.length_cons, List.length_nil, List.length_drop, List.length_take, List.length_tail, List.length_dropLast, fs_length, ss_length, bs_length, ns_length]; omega)))
  refine of_call (pfolder_snd dir hd) ?_
  simp only [go_sem, reduceCtorEq, Nat.reduceEqDiff, reduceIte, Nat.reduceAdd, Nat.reduceSub, Nat.reduceLeDiff, Int.reduceToNat, Nat.reduceBEq]
  repeat ((with_reducible apply And.intro); (case left => first | omega | (simp only [List.length_append, List.length_cons, List.length_nil, List.length_drop, List.length_take, List.length_tail, List.length_dropLast, fs_length, ss_length, bs_length, ns_length]; omega)))
  unfold parseI
  cases isFolder dir with
  | false =>
    simp only [unVal, go_sem, reduceCtorEq, Nat.reduceEqDiff, reduceIte, Nat.reduceAdd, Nat.reduceSub, Nat.reduceLeDiff, Int.reduceToNat, Nat.reduceBEq]
    repeat ((with_reducible apply And.intro); (case left => first | omega | (simp only [List.length_append, List.length_cons, List.length_nil, List.length_drop, List.length_take, List.length_tail, List.length_dropLast, fs_length, ss_length, bs_length, ns_length]; omega)))
    try rfl
  | true =>
    simp only [unVal, go_sem, reduceCtorEq, Nat.reduceEqDiff, reduceIte, Nat.reduceAdd, Nat.reduceSub, Nat.reduceLeDiff, Int.reduceToNat, Nat.reduceBEq]
    repeat ((with_reducible apply And.intro); (case left => first | omega | (simp only [List.length_append, List.length_cons, List.length_nil, List.length_drop, List.length_take, List.length_tail, List.length_dropLast, fs_length, ss_length, bs_length, ns_length]; omega)))
    repeat ((with_reducible apply And.intro); (case left => first | omega | (simp only [List.length_append, List.length_cons, List.length_nil, List.length_drop, List.length_take, List.length_tail, List.length_dropLast, fs_length, ss_length, bs_length, ns_length]; omega)))
    refine of_call (psplit_snd s (by omega)) ?_
    simp only [go_sem, reduceCtorEq, Nat.reduceEqDiff, reduceIte, Nat.reduceAdd, Nat.reduceSub, Nat.reduceLeDiff, Int.reduceToNat, Nat.reduceBEq]
    repeat ((with_reducible apply And.intro); (case left => first | omega | (simp only [List.length_append, List.length_cons, List.length_nil, List.length_drop, List.length_take, List.length_tail, List.length_dropLast, fs_length, ss_length, bs_length, ns_length]; omega)))
    have hL := lines_len s
    have hl := fun l => @line_len s l
    show vcL _ _ _ _ (blockK 0 (seqK _ _ _ _ (outOk _ (.sl .own 5 (fs fR (pI dir (lines s))))))) _
    generalize lines s = L at hL hl
    refine loop_up L.length (fun i => mkS [(1, S dir), (5, .sl .own 5 (fs fR (pI dir (L.take i)))), (14, .sl .own 1 (ss L)), (15, N L.length), (16, N i)] []) rfl ?_
    intro i hi ih
    simp only [iparse_l0_w, iparse_l0', go_sem, reduceCtorEq, Nat.reduceEqDiff, reduceIte, Nat.reduceAdd, Nat.reduceSub, Nat.reduceLeDiff, Int.reduceToNat, Nat.reduceBEq]
    repeat ((with_reducible apply And.intro); (case left => first | omega | (simp only [List.length_append, List.length_cons, List.length_nil, List.length_drop, List.length_take, List.length_tail, List.length_dropLast, fs_length, ss_length, bs_length, ns_length]; omega)))
    by_cases h : i < L.length
    · have q1 : IntKind.i64.wrap ((i : Int) + 1) = ((i + 1 : Nat) : Int) := wrapN _ (by omega) (by omega)
      have g := ssE L h
      have ih := ih h
      simp only [take_snoc h, pI_snoc] at ih
      have hlx := hl L[i] (List.getElem_mem h)
      have hp := pI_len dir (L.take i)
      rw [List.length_take] at hp
      generalize pI dir (L.take i) = out at ih hp ⊢
      generalize L[i] = x at g ih hlx
      simp only [lt_t h, g, go_sem, reduceCtorEq, Nat.reduceEqDiff, reduceIte, Nat.reduceAdd, Nat.reduceSub, Nat.reduceLeDiff, Int.reduceToNat, Nat.reduceBEq]
      repeat ((with_reducible apply And.intro); (case left => first | omega | (simp only [List.length_append, List.length_cons, List.length_nil, List.length_drop, List.length_take, List.length_tail, List.length_dropLast, fs_length, ss_length, bs_length, ns_length]; omega)))
      repeat ((with_reducible apply And.intro); (case left => first | omega | (simp only [List.length_append, List.length_cons, List.length_nil, List.length_drop, List.length_take, List.length_tail, List.length_dropLast, fs_length, ss_length, bs_length, ns_length]; omega)))
      refine of_call (trimSuffix x [10] (by omega)) ?_
      simp only [go_sem, reduceCtorEq, Nat.reduceEqDiff, reduceIte, Nat.reduceAdd, Nat.reduceSub, Nat.reduceLeDiff, Int.reduceToNat, Nat.reduceBEq]
      repeat ((with_reducible apply And.intro); (case left => first | omega | (simp only [List.length_append, List.length_cons, List.length_nil, List.length_drop, List.length_take, List.length_tail, List.length_dropLast, fs_length, ss_length, bs_length, ns_length]; omega)))
      rw [unfeed_trim]
      have hu := unfeed_len x
      repeat ((with_reducible apply And.intro); (case left => first | omega | (simp only [List.length_append, List.length_cons, List.length_nil, List.length_drop, List.length_take, List.length_tail, List.length_dropLast, fs_length, ss_length, bs_length, ns_length]; omega)))
      refine of_call (prule_snd (unfeed x) dir (by omega)) ?_
      simp only [go_sem, reduceCtorEq, Nat.reduceEqDiff, reduceIte, Nat.reduceAdd, Nat.reduceSub, Nat.reduceLeDiff, Int.reduceToNat, Nat.reduceBEq]
      repeat ((with_reducible apply And.intro); (case left => first | omega | (simp only [List.length_append, List.length_cons, List.length_nil, List.length_drop, List.length_take, List.length_tail, List.length_dropLast, fs_length, ss_length, bs_length, ns_length]; omega)))
      generalize ruleOf dir (unfeed x) = r at ih ⊢
      obtain ⟨r, ok⟩ := r
      cases ok with
      | false =>
        simp only [ruleA, q1, go_sem, reduceCtorEq, Nat.reduceEqDiff, reduceIte, Nat.reduceAdd, Nat.reduceSub, Nat.reduceLeDiff, Int.reduceToNat, Nat.reduceBEq]
        repeat ((with_reducible apply And.intro); (case left => first | omega | (simp only [List.length_append, List.length_cons, List.length_nil, List.length_drop, List.length_take, List.length_tail, List.length_dropLast, fs_length, ss_length, bs_length, ns_length]; omega)))
        exact ih
      | true =>
        simp only [ruleA, q1, go_sem, reduceCtorEq, Nat.reduceEqDiff, reduceIte, Nat.reduceAdd, Nat.reduceSub, Nat.reduceLeDiff, Int.reduceToNat, Nat.reduceBEq]
        rw [fs_snocR]
        repeat ((with_reducible apply And.intro); (case left => first | omega | (simp only [List.length_append, List.length_cons, List.length_nil, List.length_drop, List.length_take, List.length_tail, List.length_dropLast, fs_length, ss_length, bs_length, ns_length]; omega)))
        exact ih
    · obtain rfl : i = L.length := by omega
      simp only [lt_f h, List.take_length, iparse_k1_w, iparse_k1', go_sem, reduceCtorEq, Nat.reduceEqDiff, reduceIte, Nat.reduceAdd, Nat.reduceSub, Nat.reduceLeDiff, Int.reduceToNat, Nat.reduceBEq]
/-! has it a path? -/
theorem name_len (p : Bs) : (name p).length ≤ p.length := by
  unfold name; split
  · simp
  · exact Nat.le_refl _
def tailI (pat dir p : Bs) (an : Bool) : Bool := if an = false then partP pat (name p) else if dir = [] then matchF pat p else matchF pat (p.drop (dir.length + 1))
abbrev hst (pat dir p : Bs) (nt fo an b : Bool) : St := mkS [(1, S p), (3, .ptr ⟨.box 3 0, []⟩), (7, B b)] [(3, some [S pat, S dir, B nt, B fo, B an])]
theorem within_lt {d p : Bs} (h : within d p = true) (hd : d ≠ []) : d.length + 1 ≤ p.length := by
  obtain ⟨r, _, rfl⟩ := (within_iff hd).1 h
  simp only [List.length_append, List.length_cons]; omega
theorem ihas_k0_v (pat dir p : Bs) (nt fo an b : Bool) (h1 : pat.length ≤ 1048575) (hp : p.length ≤ 1048575) (hw : b = false → within dir p = true) :
    vcC (kn m) ihas_k0 (blockK 0 (seqK (kn m) [1, 3] [3] ihas_k2 (outOk [.tmp 6] (B (!b && tailI pat dir p an))))) (hst pat dir p nt fo an b) := by
  have hnp := name_len p
  cases b with
  | true =>
    simp only [hst, ihas_k0_w, ihas_k0', ihas_k1_w, ihas_k1', go_sem, reduceCtorEq, Nat.reduceEqDiff, reduceIte, Nat.reduceAdd, Nat.reduceSub, Nat.reduceLeDiff, Int.reduceToNat, Nat.reduceBEq]
    repeat ((with_reducible apply And.intro); (case left => first | omega | (simp only [List.length_append, List.length_cons, List.length_nil, List.length_drop, List.length_take, List.length_tail, List.length_dropLast, fs_length, ss_length, bs_length, ns_length]; omega)))
    try rfl
  | false =>
    have hw := hw rfl
    simp only [hst, ihas_k0_w, ihas_k0', ihas_k1_w, ihas_k1', Bool.not_false, Bool.true_and, go_sem, reduceCtorEq, Nat.reduceEqDiff, reduceIte, Nat.reduceAdd, Nat.reduceSub, Nat.reduceLeDiff, Int.reduceToNat, Nat.reduceBEq]
    repeat ((with_reducible apply And.intro); (case left => first | omega | (simp only [List.length_append, List.length_cons, List.length_nil, List.length_drop, List.length_take, List.length_tail, List.length_dropLast, fs_length, ss_length, bs_length, ns_length]; omega)))
    unfold tailI
    cases an with
    | false =>
      simp only [unVal, ihas_k1_w, ihas_k1', go_sem, reduceCtorEq, Nat.reduceEqDiff, reduceIte, Nat.reduceAdd, Nat.reduceSub, Nat.reduceLeDiff, Int.reduceToNat, Nat.reduceBEq]
      repeat ((with_reducible apply And.intro); (case left => first | omega | (simp only [List.length_append, List.length_cons, List.length_nil, List.length_drop, List.length_take, List.length_tail, List.length_dropLast, fs_length, ss_length, bs_length, ns_length]; omega)))
      repeat ((with_reducible apply And.intro); (case left => first | omega | (simp only [List.length_append, List.length_cons, List.length_nil, List.length_drop, List.length_take, List.length_tail, List.length_dropLast, fs_length, ss_length, bs_length, ns_length]; omega)))
      refine of_call (pname_snd p (by omega)) ?_
      simp only [go_sem, reduceCtorEq, Nat.reduceEqDiff, reduceIte, Nat.reduceAdd, Nat.reduceSub, Nat.reduceLeDiff, Int.reduceToNat, Nat.reduceBEq]
      repeat ((with_reducible apply And.intro); (case left => first | omega | (simp only [List.length_append, List.length_cons, List.length_nil, List.length_drop, List.length_take, List.length_tail, List.length_dropLast, fs_length, ss_length, bs_length, ns_length]; omega)))
      repeat ((with_reducible apply And.intro); (case left => first | omega | (simp only [List.length_append, List.length_cons, List.length_nil, List.length_drop, List.length_take, List.length_tail, List.length_dropLast, fs_length, ss_length, bs_length, ns_length]; omega)))
      refine of_call (gPart_snd pat (name p) h1 (by omega)) ?_
      simp only [go_sem, reduceCtorEq, Nat.reduceEqDiff, reduceIte, Nat.reduceAdd, Nat.reduceSub, Nat.reduceLeDiff, Int.reduceToNat, Nat.reduceBEq]
      repeat ((with_reducible apply And.intro); (case left => first | omega | (simp only [List.length_append, List.length_cons, List.length_nil, List.length_drop, List.length_take, List.length_tail, List.length_dropLast, fs_length, ss_length, bs_length, ns_length]; omega)))
      try simp only [ihas_k1_w, ihas_k1', go_sem, reduceCtorEq, Nat.reduceEqDiff, reduceIte, Nat.reduceAdd, Nat.reduceSub, Nat.reduceLeDiff, Int.reduceToNat, Nat.reduceBEq]
      try rfl
    | true =>
      simp only [unVal, ihas_k1_w, ihas_k1', go_sem, reduceCtorEq, Nat.reduceEqDiff, reduceIte, Nat.reduceAdd, Nat.reduceSub, Nat.reduceLeDiff, Int.reduceToNat, Nat.reduceBEq]
      repeat ((with_reducible apply And.intro); (case left => first | omega | (simp only [List.length_append, List.length_cons, List.length_nil, List.length_drop, List.length_take, List.length_tail, List.length_dropLast, fs_length, ss_length, bs_length, ns_length]; omega)))
      by_cases h : dir = []
      · rw [if_pos h]
        simp only [se_t h, ihas_k1_w, ihas_k1', go_sem, reduceCtorEq, Nat.reduceEqDiff, reduceIte, Nat.reduceAdd, Nat.reduceSub, Nat.reduceLeDiff, Int.reduceToNat, Nat.reduceBEq]
        repeat ((with_reducible apply And.intro); (case left => first | omega | (simp only [List.length_append, List.length_cons, List.length_nil, List.length_drop, List.length_take, List.length_tail, List.length_dropLast, fs_length, ss_length, bs_length, ns_length]; omega)))
        repeat ((with_reducible apply And.intro); (case left => first | omega | (simp only [List.length_append, List.length_cons, List.length_nil, List.length_drop, List.length_take, List.length_tail, List.length_dropLast, fs_length, ss_length, bs_length, ns_length]; omega)))
        refine of_call (gmatch_snd pat p h1 hp) ?_
        simp only [go_sem, reduceCtorEq, Nat.reduceEqDiff, reduceIte, Nat.reduceAdd, Nat.reduceSub, Nat.reduceLeDiff, Int.reduceToNat, Nat.reduceBEq]
        repeat ((with_reducible apply And.intro); (case left => first | omega | (simp only [List.length_append, List.length_cons, List.length_nil, List.length_drop, List.length_take, List.length_tail, List.length_dropLast, fs_length, ss_length, bs_length, ns_length]; omega)))
        try simp only [ihas_k1_w, ihas_k1', go_sem, reduceCtorEq, Nat.reduceEqDiff, reduceIte, Nat.reduceAdd, Nat.reduceSub, Nat.reduceLeDiff, Int.reduceToNat, Nat.reduceBEq]
        try rfl
      · have hl := within_lt hw h
        have q1 : IntKind.i64.wrap ((dir.length : Int) + 1) = ((dir.length + 1 : Nat) : Int) := wrapN _ (by omega) (by omega)
        rw [if_neg h]
        simp only [se_f h, q1, ihas_k2_w, ihas_k2', ihas_k1_w, ihas_k1', go_sem, reduceCtorEq, Nat.reduceEqDiff, reduceIte, Nat.reduceAdd, Nat.reduceSub, Nat.reduceLeDiff, Int.reduceToNat, Nat.reduceBEq]
        repeat ((with_reducible apply And.intro); (case left => first | omega | (simp only [List.length_append, List.length_cons, List.length_nil, List.length_drop, List.length_take, List.length_tail, List.length_dropLast, fs_length, ss_length, bs_length, ns_length]; omega)))
        repeat ((with_reducible apply And.intro); (case left => first | omega | (simp only [List.length_append, List.length_cons, List.length_nil, List.length_drop, List.length_take, List.length_tail, List.length_dropLast, fs_length, ss_length, bs_length, ns_length]; omega)))
        refine of_call (gmatch_snd pat (p.drop (dir.length + 1)) h1 (by rw [List.length_drop]; omega)) ?_
        simp only [go_sem, reduceCtorEq, Nat.reduceEqDiff, reduceIte, Nat.reduceAdd, Nat.reduceSub, Nat.reduceLeDiff, Int.reduceToNat, Nat.reduceBEq]
        repeat ((with_reducible apply And.intro); (case left => first | omega | (simp only [List.length_append, List.length_cons, List.length_nil, List.length_drop, List.length_take, List.length_tail, List.length_dropLast, fs_length, ss_length, bs_length, ns_length]; omega)))
        try simp only [ihas_k1_w, ihas_k1', go_sem, reduceCtorEq, Nat.reduceEqDiff, reduceIte, Nat.reduceAdd, Nat.reduceSub, Nat.reduceLeDiff, Int.reduceToNat, Nat.reduceBEq]
        try rfl
theorem ihas_snd (r : Rule) (p : Bs) (f : Bool) (h1 : r.1.length ≤ 1048575) (h2 : r.2.1.length ≤ 1048575) (hp : p.length ≤ 1048575) : Snd Tryd.prog (gl m) 34 [ruleT r, S p, B f] (B (hasI r p f)) := by
  refine snd_of (fn := Tryd.f34) (af := ihas) Tryd.func34 (ihas_comp m) mixed (kn_ok m) (Nat.le_of_ble_eq_true rfl) ?_
  simp only [ihas, go_sem, reduceCtorEq, Nat.reduceEqDiff, reduceIte, Nat.reduceAdd, Nat.reduceSub, Nat.reduceLeDiff, Int.reduceToNat, Nat.reduceBEq]
  obtain ⟨pat, dir, nt, fo, an⟩ := r
  simp only at h1 h2
  have e : hasI (pat, dir, nt, fo, an) p f = (isPath p && within dir p && (!fo || f) && tailI pat dir p an) := rfl
  rw [e]
  repeat ((with_reducible apply And.intro); (case left => first | omega | (simp only [List.length_append, List.length_cons, List.length_nil, List.length_drop, List.length_take, List.length_tail, List.length_dropLast, fs_length, ss_length, bs_length, ns_length]; omega)))
  repeat ((with_reducible apply And.intro); (case left => first | omega | (simp only [List.length_append, List.length_cons, List.length_nil, List.length_drop, List.length_take, List.length_tail, List.length_dropLast, fs_length, ss_length, bs_length, ns_length]; omega)))
  refine of_call (pis_snd p (by omega)) ?_
  simp only [go_sem, reduceCtorEq, Nat.reduceEqDiff, reduceIte, Nat.reduceAdd, Nat.reduceSub, Nat.reduceLeDiff, Int.reduceToNat, Nat.reduceBEq]
  repeat ((with_reducible apply And.intro); (case left => first | omega | (simp only [List.length_append, List.length_cons, List.length_nil, List.length_drop, List.length_take, List.length_tail, List.length_dropLast, fs_length, ss_length, bs_length, ns_length]; omega)))
  cases h3 : isPath p with
  | false =>
    simp only [unVal, go_sem, reduceCtorEq, Nat.reduceEqDiff, reduceIte, Nat.reduceAdd, Nat.reduceSub, Nat.reduceLeDiff, Int.reduceToNat, Nat.reduceBEq]
    repeat ((with_reducible apply And.intro); (case left => first | omega | (simp only [List.length_append, List.length_cons, List.length_nil, List.length_drop, List.length_take, List.length_tail, List.length_dropLast, fs_length, ss_length, bs_length, ns_length]; omega)))
    exact ihas_k0_v pat dir p nt fo an true h1 hp (fun h => by cases h)
  | true =>
    simp only [unVal, Bool.true_and, go_sem, reduceCtorEq, Nat.reduceEqDiff, reduceIte, Nat.reduceAdd, Nat.reduceSub, Nat.reduceLeDiff, Int.reduceToNat, Nat.reduceBEq]
    repeat ((with_reducible apply And.intro); (case left => first | omega | (simp only [List.length_append, List.length_cons, List.length_nil, List.length_drop, List.length_take, List.length_tail, List.length_dropLast, fs_length, ss_length, bs_length, ns_length]; omega)))
    repeat ((with_reducible apply And.intro); (case left => first | omega | (simp only [List.length_append, List.length_cons, List.length_nil, List.length_drop, List.length_take, List.length_tail, List.length_dropLast, fs_length, ss_length, bs_length, ns_length]; omega)))
    refine of_call (pfolder_snd dir h2) ?_
    simp only [go_sem, reduceCtorEq, Nat.reduceEqDiff, reduceIte, Nat.reduceAdd, Nat.reduceSub, Nat.reduceLeDiff, Int.reduceToNat, Nat.reduceBEq]
    repeat ((with_reducible apply And.intro); (case left => first | omega | (simp only [List.length_append, List.length_cons, List.length_nil, List.length_drop, List.length_take, List.length_tail, List.length_dropLast, fs_length, ss_length, bs_length, ns_length]; omega)))
    cases h4 : isFolder dir with
    | false =>
      have hw : within dir p = false := by
        cases hw : within dir p with
        | false => rfl
        | true =>
          rcases within_path h3 hw with h | h
          · rw [isFolder, decide_eq_true h] at h4; cases h4
          · rw [isFolder, h, Bool.or_true] at h4; cases h4
      simp only [unVal, hw, go_sem, reduceCtorEq, Nat.reduceEqDiff, reduceIte, Nat.reduceAdd, Nat.reduceSub, Nat.reduceLeDiff, Int.reduceToNat, Nat.reduceBEq]
      repeat ((with_reducible apply And.intro); (case left => first | omega | (simp only [List.length_append, List.length_cons, List.length_nil, List.length_drop, List.length_take, List.length_tail, List.length_dropLast, fs_length, ss_length, bs_length, ns_length]; omega)))
      exact ihas_k0_v pat dir p nt fo an true h1 hp (fun h => by cases h)
    | true =>
      simp only [unVal, go_sem, reduceCtorEq, Nat.reduceEqDiff, reduceIte, Nat.reduceAdd, Nat.reduceSub, Nat.reduceLeDiff, Int.reduceToNat, Nat.reduceBEq]
      repeat ((with_reducible apply And.intro); (case left => first | omega | (simp only [List.length_append, List.length_cons, List.length_nil, List.length_drop, List.length_take, List.length_tail, List.length_dropLast, fs_length, ss_length, bs_length, ns_length]; omega)))
      repeat ((with_reducible apply And.intro); (case left => first | omega | (simp only [List.length_append, List.length_cons, List.length_nil, List.length_drop, List.length_take, List.length_tail, List.length_dropLast, fs_length, ss_length, bs_length, ns_length]; omega)))
      refine of_call (pwithin_snd dir p (by omega) (by omega)) ?_
      simp only [go_sem, reduceCtorEq, Nat.reduceEqDiff, reduceIte, Nat.reduceAdd, Nat.reduceSub, Nat.reduceLeDiff, Int.reduceToNat, Nat.reduceBEq]
      repeat ((with_reducible apply And.intro); (case left => first | omega | (simp only [List.length_append, List.length_cons, List.length_nil, List.length_drop, List.length_take, List.length_tail, List.length_dropLast, fs_length, ss_length, bs_length, ns_length]; omega)))
      cases h5 : within dir p with
      | false =>
        simp only [unVal, go_sem, reduceCtorEq, Nat.reduceEqDiff, reduceIte, Nat.reduceAdd, Nat.reduceSub, Nat.reduceLeDiff, Int.reduceToNat, Nat.reduceBEq]
        repeat ((with_reducible apply And.intro); (case left => first | omega | (simp only [List.length_append, List.length_cons, List.length_nil, List.length_drop, List.length_take, List.length_tail, List.length_dropLast, fs_length, ss_length, bs_length, ns_length]; omega)))
        exact ihas_k0_v pat dir p nt fo an true h1 hp (fun h => by cases h)
      | true =>
        simp only [unVal, Bool.true_and, go_sem, reduceCtorEq, Nat.reduceEqDiff, reduceIte, Nat.reduceAdd, Nat.reduceSub, Nat.reduceLeDiff, Int.reduceToNat, Nat.reduceBEq]
        repeat ((with_reducible apply And.intro); (case left => first | omega | (simp only [List.length_append, List.length_cons, List.length_nil, List.length_drop, List.length_take, List.length_tail, List.length_dropLast, fs_length, ss_length, bs_length, ns_length]; omega)))
        cases fo with
        | false =>
          simp only [unVal, go_sem, reduceCtorEq, Nat.reduceEqDiff, reduceIte, Nat.reduceAdd, Nat.reduceSub, Nat.reduceLeDiff, Int.reduceToNat, Nat.reduceBEq]
          repeat ((with_reducible apply And.intro); (case left => first | omega | (simp only [List.length_append, List.length_cons, List.length_nil, List.length_drop, List.length_take, List.length_tail, List.length_dropLast, fs_length, ss_length, bs_length, ns_length]; omega)))
          exact ihas_k0_v pat dir p nt false an false h1 hp (fun _ => h5)
        | true =>
          cases f with
          | false =>
            simp only [unVal, Bool.not_true, Bool.not_false, go_sem, reduceCtorEq, Nat.reduceEqDiff, reduceIte, Nat.reduceAdd, Nat.reduceSub, Nat.reduceLeDiff, Int.reduceToNat, Nat.reduceBEq]
            repeat ((with_reducible apply And.intro); (case left => first | omega | (simp only [List.length_append, List.length_cons, List.length_nil, List.length_drop, List.length_take, List.length_tail, List.length_dropLast, fs_length, ss_length, bs_length, ns_length]; omega)))
            exact ihas_k0_v pat dir p nt true an true h1 hp (fun h => by cases h)
          | true =>
            simp only [unVal, Bool.not_true, Bool.not_false, go_sem, reduceCtorEq, Nat.reduceEqDiff, reduceIte, Nat.reduceAdd, Nat.reduceSub, Nat.reduceLeDiff, Int.reduceToNat, Nat.reduceBEq]
            repeat ((with_reducible apply And.intro); (case left => first | omega | (simp only [List.length_append, List.length_cons, List.length_nil, List.length_drop, List.length_take, List.length_tail, List.length_dropLast, fs_length, ss_length, bs_length, ns_length]; omega)))
            exact ihas_k0_v pat dir p nt true an false h1 hp (fun _ => h5)
/-! the last that has it -/
def lastF (p : Bs) (f : Bool) (l : List Rule) : Nat → Int
  | 0 => -1
  | n + 1 => if (l[n]?.map (hasI · p f)).getD false = true then (n : Int) else lastF p f l n
def lastN (l : List Rule) (p : Bs) (f : Bool) : Int := lastF p f l l.length
theorem lastF_step {p : Bs} {f : Bool} {l : List Rule} {n : Nat} (h : n < l.length) : lastF p f l (n + 1) = if hasI l[n] p f = true then (n : Int) else lastF p f l n := by
  rw [lastF, List.getElem?_eq_getElem h]; rfl
theorem lastF_lt (p : Bs) (f : Bool) (l : List Rule) (n : Nat) : lastF p f l n < n ∧ -1 ≤ lastF p f l n := by
  induction n with
  | zero => rw [lastF]; omega
  | succ n ih => rw [lastF]; split <;> omega
theorem lastF_find (p : Bs) (f : Bool) (l : List Rule) (n : Nat) (hn : n ≤ l.length) : (l.take n).reverse.find? (hasI · p f) = if lastF p f l n < 0 then none else l[(lastF p f l n).toNat]? := by
  induction n with
  | zero => simp [lastF]
  | succ n ih =>
    have h : n < l.length := by omega
    rw [take_snoc h, List.reverse_append, lastF_step h]
    simp only [List.reverse_cons, List.reverse_nil, List.nil_append, List.cons_append, List.find?_cons]
    cases hasI l[n] p f with
    | true =>
      simp only [if_true]
      rw [if_neg (by omega), Int.toNat_natCast, List.getElem?_eq_getElem h]
    | false =>
      simp only [Bool.false_eq_true, if_false]
      exact ih (by omega)
theorem says_last (l : List Rule) (p : Bs) (f : Bool) : says l p f = if lastN l p f < 0 then false else ((l[(lastN l p f).toNat]?).map fun r => !r.2.2.1).getD false := by
  have := lastF_find p f l l.length (Nat.le_refl _)
  rw [List.take_length] at this
  rw [says, this, lastN]
  split
  · rename_i r h
    split at h
    · cases h
    · rename_i hc; rw [if_neg hc, h]; rfl
  · rename_i h
    split at h
    · rename_i hc; rw [if_pos hc]
    · rename_i hc; rw [if_neg hc, h]; rfl
def okRules (l : List Rule) : Prop := l.length ≤ 1048576 ∧ ∀ r, r ∈ l → r.1.length ≤ 1048575 ∧ r.2.1.length ≤ 1048575
theorem ilast_snd (l : List Rule) (p : Bs) (f : Bool) (hl : okRules l) (hp : p.length ≤ 1048575) : Snd Tryd.prog (gl m) 36 [.sl .frn 5 (fs fR l), S p, B f] (I (lastN l p f)) := by
  refine snd_of (fn := Tryd.f36) (af := ilast) Tryd.func36 (ilast_comp m) mixed (kn_ok m) (Nat.le_of_ble_eq_true rfl) ?_
  simp only [ilast, go_sem, reduceCtorEq, Nat.reduceEqDiff, reduceIte, Nat.reduceAdd, Nat.reduceSub, Nat.reduceLeDiff, Int.reduceToNat, Nat.reduceBEq]
  have q0 : IntKind.i64.wrap ((l.length : Int) - 1) = (l.length : Int) - 1 := wrap_in (by have := hl.1; omega) (by have := hl.1; omega)
  simp only [q0, go_sem, reduceCtorEq, Nat.reduceEqDiff, reduceIte, Nat.reduceAdd, Nat.reduceSub, Nat.reduceLeDiff, Int.reduceToNat, Nat.reduceBEq]
  repeat ((with_reducible apply And.intro); (case left => first | omega | (simp only [List.length_append, List.length_cons, List.length_nil, List.length_drop, List.length_take, List.length_tail, List.length_dropLast, fs_length, ss_length, bs_length, ns_length]; omega)))
  refine loop_wf (fun n : Nat => n) (fun n => mkS [(0, .sl .frn 5 (fs fR l)), (1, S p), (2, B f), (7, I ((n : Int) - 1))] []) (fun n => n ≤ l.length ∧ lastF p f l n = lastN l p f) l.length rfl ⟨Nat.le_refl _, rfl⟩ ?_
  rintro n ⟨hn, he⟩ ih
  simp only [ilast_l0_w, ilast_l0', go_sem, reduceCtorEq, Nat.reduceEqDiff, reduceIte, Nat.reduceAdd, Nat.reduceSub, Nat.reduceLeDiff, Int.reduceToNat, Nat.reduceBEq]
  repeat ((with_reducible apply And.intro); (case left => first | omega | (simp only [List.length_append, List.length_cons, List.length_nil, List.length_drop, List.length_take, List.length_tail, List.length_dropLast, fs_length, ss_length, bs_length, ns_length]; omega)))
  cases n with
  | zero =>
    rw [← he]
    simp only [ige_f (show ¬ (0 : Int) ≤ ((0 : Nat) : Int) - 1 by omega), ilast_k1_w, ilast_k1', go_sem, reduceCtorEq, Nat.reduceEqDiff, reduceIte, Nat.reduceAdd, Nat.reduceSub, Nat.reduceLeDiff, Int.reduceToNat, Nat.reduceBEq]
    try rfl
  | succ n =>
    have e1 : ((n + 1 : Nat) : Int) - 1 = (n : Int) := by omega
    have q1 : IntKind.i64.wrap ((n : Int) - 1) = (n : Int) - 1 := wrap_in (by have := hl.1; omega) (by have := hl.1; omega)
    have h : n < l.length := by omega
    have g := fs_getR h
    have hr := hl.2 l[n] (List.getElem_mem h)
    rw [lastF_step h] at he
    generalize l[n] = r at g hr he
    simp only [e1, ige_t (show (0 : Int) ≤ (n : Int) by omega), Int.toNat_natCast, g, go_sem, reduceCtorEq, Nat.reduceEqDiff, reduceIte, Nat.reduceAdd, Nat.reduceSub, Nat.reduceLeDiff, Int.reduceToNat, Nat.reduceBEq]
    repeat ((with_reducible apply And.intro); (case left => first | omega | (simp only [List.length_append, List.length_cons, List.length_nil, List.length_drop, List.length_take, List.length_tail, List.length_dropLast, fs_length, ss_length, bs_length, ns_length]; omega)))
    repeat ((with_reducible apply And.intro); (case left => first | omega | (simp only [List.length_append, List.length_cons, List.length_nil, List.length_drop, List.length_take, List.length_tail, List.length_dropLast, fs_length, ss_length, bs_length, ns_length]; omega)))
    refine of_call (ihas_snd r p f hr.1 hr.2 hp) ?_
    simp only [go_sem, reduceCtorEq, Nat.reduceEqDiff, reduceIte, Nat.reduceAdd, Nat.reduceSub, Nat.reduceLeDiff, Int.reduceToNat, Nat.reduceBEq]
    repeat ((with_reducible apply And.intro); (case left => first | omega | (simp only [List.length_append, List.length_cons, List.length_nil, List.length_drop, List.length_take, List.length_tail, List.length_dropLast, fs_length, ss_length, bs_length, ns_length]; omega)))
    cases hh : hasI r p f with
    | true =>
      rw [hh, if_pos rfl] at he
      rw [← he]
      simp only [go_sem, reduceCtorEq, Nat.reduceEqDiff, reduceIte, Nat.reduceAdd, Nat.reduceSub, Nat.reduceLeDiff, Int.reduceToNat, Nat.reduceBEq]
      repeat ((with_reducible apply And.intro); (case left => first | omega | (simp only [List.length_append, List.length_cons, List.length_nil, List.length_drop, List.length_take, List.length_tail, List.length_dropLast, fs_length, ss_length, bs_length, ns_length]; omega)))
      try rfl
    | false =>
      rw [hh, if_neg (by simp)] at he
      simp only [q1, go_sem, reduceCtorEq, Nat.reduceEqDiff, reduceIte, Nat.reduceAdd, Nat.reduceSub, Nat.reduceLeDiff, Int.reduceToNat, Nat.reduceBEq]
      repeat ((with_reducible apply And.intro); (case left => first | omega | (simp only [List.length_append, List.length_cons, List.length_nil, List.length_drop, List.length_take, List.length_tail, List.length_dropLast, fs_length, ss_length, bs_length, ns_length]; omega)))
      exact ih n (Nat.lt_succ_self n) ⟨by omega, he⟩
end Go.At

