import Derived.Test.YtcahaecjjochbaaDoorAtD
import Derived.Test.YtcahaecjjochbaaDoorAtB
import Derived.Test.YtcahaecjjochbaaDoorEvC
import Derived.WalkKit
import Derived.TacticsInMore
import Derived.OwnWalkIn
set_option linter.unusedVariables false
set_option linter.unusedSimpArgs false
/- Attributes: in, out, there and back; on both roads. -/
namespace Go.At
open Go Go.Ev Go.Proofs
open Go.Ln (u8b_t u8b_f lines lines_len line_len lf crlf binary idx idx_eq unfeed unfeed_len pbin_snd rbin_snd tolf_snd tocrlf_snd rlf_snd rcrlf_snd rback_snd)
set_option linter.unusedVariables false
set_option maxHeartbeats 2000000
set_option linter.unusedSimpArgs false
attribute [local go_sem] eqs implies_true List.map_cons List.map_nil kl klL roD roL Option.map_some Option.map_none Option.getD_some Option.getD_none binVal binObl unVal if_true if_false eq_self passA frnD resD content getH getR getW viaNot viaSlot viaBox viaDeep viaMem List.contains_cons List.contains_nil grabs peeks okCells isCell place cellsOf chunk elt List.headD_cons List.length_cons List.length_nil List.take_succ_cons List.take_zero List.drop_succ_cons List.drop_zero List.nil_append List.cons_append List.append_nil List.all_cons List.all_nil plainC takeR setW over reCell List.getElem?_cons_zero List.getElem?_cons_succ List.set_cons_zero List.take_length outV resG plainV pack outVG outBx List.set_cons_succ Ref.idx Ref.addOff beq_self_eq_true bxL Option.bind_some writeR isLit viaBoxes capsPA boxPA nsOf noDup boxesAt argG passG passD rhoIn rhoOut idxIn tr trL List.getD_cons_zero gives pasOf isPtr Ins.d List.getD_cons_succ resL frnL List.getLast?_nil frnL_fs roL_fs resL_fs passL_fs klL_fs trL_fs map_roD_fs fs_length
variable {m : Int}
def aisText : AF := ⟨.seq (.reg (.seq [⟨some (2, true), none, .mov (.cst (.bool false) (.lit (.bool false))) .asg⟩])) [0] []
  (.seq (.reg (.seq [⟨some (3, false), none, .mov (.tmp 0 true) .peek⟩,⟨some (4, false), none, .bin .eql (.tmp 3 false) (.cst (.int .i64 1) (.lit (.int .i64 1)))⟩,⟨some (5, false), none, .mov (.tmp 4 false) .peek⟩,⟨some (6, false), (some (5, false)), .mov (.tmp 0 true) .peek⟩,⟨some (7, false), (some (5, false)), .bin .eql (.tmp 6 false) (.cst (.int .i64 2) (.lit (.int .i64 2)))⟩,⟨some (8, false), none, .pick (.tmp 5 false) (.cst (.bool true) (.lit (.bool true))) (.tmp 7 false)⟩,⟨some (9, false), none, .mov (.tmp 8 false) .peek⟩,⟨some (10, false), (some (9, false)), .mov (.tmp 0 true) .peek⟩,⟨some (11, false), (some (9, false)), .bin .eql (.tmp 10 false) (.cst (.int .i64 3) (.lit (.int .i64 3)))⟩,⟨some (12, false), none, .pick (.tmp 9 false) (.cst (.bool true) (.lit (.bool true))) (.tmp 11 false)⟩,⟨some (2, true), none, .mov (.tmp 12 false) .asg⟩])) [2] []
  (.ret)),
  [.tmp 2]⟩
theorem aisText_comp (m : Int) : compF Tryd.prog (gl m) [] Tryd.f93 = some aisText := by kernel_rfl
def aknown : AF := ⟨.seq (.reg (.seq [⟨some (1, true), none, .box (.tmp 0 true)⟩,⟨some (2, true), none, .new [(.lit (.int .i64 0)), (.lit (.int .i64 0)), (.lit (.int .i64 0))]⟩])) [1, 2] [1, 2]
  (.seq (.seq (.reg (.seq [⟨some (3, false), none, .fad (.tmp 1 true) 0⟩,⟨some (4, false), none, .load (.tmp 3 false) 1 false false⟩,⟨some (5, false), none, .call 93 [.tmp 4 false]⟩,⟨some (6, false), none, .un .not (.tmp 5 false)⟩])) [1, 2, 6] [1, 2]
  (.cond (.tmp 6 false)
    (.reg (.seq [⟨some (7, false), none, .fad (.tmp 1 true) 0⟩,⟨none, none, .store (.tmp 7 false) (.cst (.int .i64 0) (.lit (.int .i64 0))) 1⟩]))
    (.skip))) [1, 2] [1, 2]
  (.seq (.seq (.reg (.seq [⟨some (8, false), none, .fad (.tmp 1 true) 1⟩,⟨some (9, false), none, .load (.tmp 8 false) 1 false false⟩,⟨some (10, false), none, .bin .neq (.tmp 9 false) (.cst (.int .i64 4) (.lit (.int .i64 4)))⟩,⟨some (11, false), none, .mov (.tmp 10 false) .peek⟩,⟨some (12, false), (some (11, true)), .fad (.tmp 1 true) 1⟩,⟨some (13, false), (some (11, true)), .load (.tmp 12 false) 1 false false⟩,⟨some (14, false), (some (11, true)), .bin .neq (.tmp 13 false) (.cst (.int .i64 5) (.lit (.int .i64 5)))⟩,⟨some (15, false), none, .pick (.tmp 11 false) (.tmp 14 false) (.cst (.bool false) (.lit (.bool false)))⟩])) [1, 2, 15] [1, 2]
  (.cond (.tmp 15 false)
    (.reg (.seq [⟨some (16, false), none, .fad (.tmp 1 true) 1⟩,⟨none, none, .store (.tmp 16 false) (.cst (.int .i64 0) (.lit (.int .i64 0))) 1⟩]))
    (.skip))) [1, 2] [1, 2]
  (.seq (.seq (.reg (.seq [⟨some (17, false), none, .fad (.tmp 1 true) 2⟩,⟨some (18, false), none, .load (.tmp 17 false) 1 false false⟩,⟨some (19, false), none, .bin .neq (.tmp 18 false) (.cst (.int .i64 6) (.lit (.int .i64 6)))⟩,⟨some (20, false), none, .mov (.tmp 19 false) .peek⟩,⟨some (21, false), (some (20, true)), .fad (.tmp 1 true) 2⟩,⟨some (22, false), (some (20, true)), .load (.tmp 21 false) 1 false false⟩,⟨some (23, false), (some (20, true)), .bin .neq (.tmp 22 false) (.cst (.int .i64 7) (.lit (.int .i64 7)))⟩,⟨some (24, false), none, .pick (.tmp 20 false) (.tmp 23 false) (.cst (.bool false) (.lit (.bool false)))⟩,⟨some (25, false), none, .mov (.tmp 24 false) .peek⟩,⟨some (26, false), (some (25, true)), .fad (.tmp 1 true) 2⟩,⟨some (27, false), (some (25, true)), .load (.tmp 26 false) 1 false false⟩,⟨some (28, false), (some (25, true)), .bin .neq (.tmp 27 false) (.cst (.int .i64 8) (.lit (.int .i64 8)))⟩,⟨some (29, false), none, .pick (.tmp 25 false) (.tmp 28 false) (.cst (.bool false) (.lit (.bool false)))⟩])) [1, 2, 29] [1, 2]
  (.cond (.tmp 29 false)
    (.reg (.seq [⟨some (30, false), none, .fad (.tmp 1 true) 2⟩,⟨none, none, .store (.tmp 30 false) (.cst (.int .i64 0) (.lit (.int .i64 0))) 1⟩]))
    (.skip))) [1, 2] [1, 2]
  (.seq (.reg (.seq [⟨some (31, false), none, .load (.tmp 1 true) 3 true true⟩,⟨none, none, .store (.tmp 2 true) (.tmp 31 false) 3⟩])) [2] [2]
  (.ret))))),
  [.cell 2 3 true]⟩
theorem aknown_comp (m : Int) : compF Tryd.prog (gl m) [] Tryd.f56 = some aknown := by kernel_rfl
def atext_k0' : AC := .cond (.tmp 11 false)
        (.seq (.reg (.seq [⟨some (25, false), none, .mov (.tmp 1 true) .peek⟩,⟨some (26, false), none, .call 91 [.tmp 25 false]⟩,⟨some (27, false), none, .un .not (.tmp 26 false)⟩,⟨some (4, true), none, .mov (.tmp 27 false) .asg⟩])) [4] []
        (.ret))
        (.skip)
def atext_k0 : AC := atext_k0'
theorem atext_k0_w (C : Kn) (K : Ex → St → Prop) (s : St) : vcC C atext_k0 K s = vcC C atext_k0' K s := nr rfl
def atext_k1' : AC := .seq (.reg (.seq [⟨some (4, true), none, .mov (.cst (.bool false) (.lit (.bool false))) .asg⟩])) [4] []
  (.ret)
def atext_k1 : AC := atext_k1'
theorem atext_k1_w (C : Kn) (K : Ex → St → Prop) (s : St) : vcC C atext_k1 K s = vcC C atext_k1' K s := nr rfl
def atext : AF := ⟨.seq (.reg (.seq [⟨some (2, true), none, .box (.tmp 0 true)⟩,⟨some (4, true), none, .mov (.cst (.bool false) (.lit (.bool false))) .asg⟩])) [1, 2] [2]
  (.seq (.reg (.seq [⟨some (5, false), none, .load (.tmp 2 true) 3 true false⟩,⟨some (6, false), none, .call 56 [.tmp 5 false]⟩,⟨none, none, .store (.tmp 2 true) (.tmp 6 false) 3⟩])) [1, 2] [2]
  (.seq (.block 0 (.seq (.reg (.seq [⟨some (8, false), none, .fad (.tmp 2 true) 0⟩,⟨some (9, false), none, .load (.tmp 8 false) 1 false false⟩,⟨some (10, false), none, .bin .eql (.tmp 9 false) (.cst (.int .i64 1) (.lit (.int .i64 1)))⟩,⟨some (7, false), none, .mov (.tmp 10 false) .asg⟩])) [1, 2, 7] [2]
    (.cond (.tmp 7 false)
      (.seq (.reg (.seq [⟨some (4, true), none, .mov (.cst (.bool true) (.lit (.bool true))) .asg⟩])) [4] []
      (.ret))
      (.seq (.reg (.seq [⟨some (12, false), none, .fad (.tmp 2 true) 0⟩,⟨some (13, false), none, .load (.tmp 12 false) 1 false false⟩,⟨some (14, false), none, .bin .eql (.tmp 13 false) (.cst (.int .i64 3) (.lit (.int .i64 3)))⟩,⟨some (15, false), none, .mov (.tmp 14 false) .peek⟩,⟨some (16, false), (some (15, false)), .fad (.tmp 2 true) 0⟩,⟨some (17, false), (some (15, false)), .load (.tmp 16 false) 1 false false⟩,⟨some (18, false), (some (15, false)), .bin .eql (.tmp 17 false) (.cst (.int .i64 0) (.lit (.int .i64 0)))⟩,⟨some (19, false), (some (15, false)), .mov (.tmp 18 false) .peek⟩,⟨some (20, false), (some (19, true)), .fad (.tmp 2 true) 1⟩,⟨some (21, false), (some (19, true)), .load (.tmp 20 false) 1 false false⟩,⟨some (22, false), (some (19, true)), .bin .neq (.tmp 21 false) (.cst (.int .i64 0) (.lit (.int .i64 0)))⟩,⟨some (23, false), (some (15, false)), .pick (.tmp 19 false) (.tmp 22 false) (.cst (.bool false) (.lit (.bool false)))⟩,⟨some (24, false), none, .pick (.tmp 15 false) (.cst (.bool true) (.lit (.bool true))) (.tmp 23 false)⟩,⟨some (11, false), none, .mov (.tmp 24 false) .asg⟩])) [1, 11] [] atext_k0)))) [] [] atext_k1)),
  [.tmp 4]⟩
theorem atext_comp (m : Int) : compF Tryd.prog (gl m) [] Tryd.f54 = some atext := by kernel_rfl
def ain : AF := ⟨.seq (.reg (.seq [⟨some (2, true), none, .box (.tmp 0 true)⟩,⟨some (4, true), none, .mov (.cst (.string (str [])) (.lit (.string (str [])))) .asg⟩])) [1, 2] [2]
  (.seq (.seq (.reg (.seq [⟨some (5, false), none, .load (.tmp 2 true) 3 true false⟩,⟨some (6, false), none, .mov (.tmp 1 true) .peek⟩,⟨some (7, false), none, .call 54 [.tmp 5 false, .tmp 6 false]⟩,⟨some (8, false), none, .un .not (.tmp 7 false)⟩])) [1, 8] []
  (.cond (.tmp 8 false)
    (.seq (.reg (.seq [⟨some (9, false), none, .mov (.tmp 1 true) .take⟩,⟨some (4, true), none, .mov (.tmp 9 false) .asg⟩])) [4] []
    (.ret))
    (.skip))) [1] []
  (.seq (.reg (.seq [⟨some (10, false), none, .mov (.tmp 1 true) .peek⟩,⟨some (11, false), none, .call 55 [.tmp 10 false]⟩,⟨some (4, true), none, .mov (.tmp 11 false) .asg⟩])) [4] []
  (.ret))),
  [.tmp 4]⟩
theorem ain_comp (m : Int) : compF Tryd.prog (gl m) [] Tryd.f21 = some ain := by kernel_rfl
def aout : AF := ⟨.seq (.reg (.seq [⟨some (2, true), none, .box (.tmp 0 true)⟩,⟨some (4, true), none, .mov (.cst (.string (str [])) (.lit (.string (str [])))) .asg⟩])) [1, 2] [2]
  (.seq (.seq (.reg (.seq [⟨some (5, false), none, .load (.tmp 2 true) 3 true false⟩,⟨some (6, false), none, .mov (.tmp 1 true) .peek⟩,⟨some (7, false), none, .call 54 [.tmp 5 false, .tmp 6 false]⟩,⟨some (8, false), none, .un .not (.tmp 7 false)⟩,⟨some (9, false), none, .mov (.tmp 8 false) .peek⟩,⟨some (10, false), (some (9, false)), .load (.tmp 2 true) 3 true false⟩,⟨some (11, false), (some (9, false)), .call 56 [.tmp 10 false]⟩,⟨some (12, false), (some (9, false)), .fld (.tmp 11 false) 1 1 false⟩,⟨some (13, false), (some (9, false)), .bin .neq (.tmp 12 false) (.cst (.int .i64 5) (.lit (.int .i64 5)))⟩,⟨some (14, false), none, .pick (.tmp 9 false) (.cst (.bool true) (.lit (.bool true))) (.tmp 13 false)⟩,⟨some (15, false), none, .mov (.tmp 14 false) .peek⟩,⟨some (16, false), (some (15, false)), .mov (.tmp 1 true) .peek⟩,⟨some (17, false), (some (15, false)), .call 57 [.tmp 16 false, (.cst (.string (str [13, 10])) (.lit (.string (str [13, 10]))))]⟩,⟨some (18, false), none, .pick (.tmp 15 false) (.cst (.bool true) (.lit (.bool true))) (.tmp 17 false)⟩])) [1, 18] []
  (.cond (.tmp 18 false)
    (.seq (.reg (.seq [⟨some (19, false), none, .mov (.tmp 1 true) .take⟩,⟨some (4, true), none, .mov (.tmp 19 false) .asg⟩])) [4] []
    (.ret))
    (.skip))) [1] []
  (.seq (.reg (.seq [⟨some (20, false), none, .mov (.tmp 1 true) .peek⟩,⟨some (21, false), none, .call 58 [.tmp 20 false]⟩,⟨some (4, true), none, .mov (.tmp 21 false) .asg⟩])) [4] []
  (.ret))),
  [.tmp 4]⟩
theorem aout_comp (m : Int) : compF Tryd.prog (gl m) [] Tryd.f23 = some aout := by kernel_rfl
def avalid : AF := ⟨.seq (.reg (.seq [⟨some (1, true), none, .box (.tmp 0 true)⟩,⟨some (2, true), none, .mov (.cst (.bool false) (.lit (.bool false))) .asg⟩])) [1] [1]
  (.seq (.reg (.draw [⟨some (3, false), none, .load (.tmp 1 true) 3 true false⟩,⟨some (4, false), none, .load (.tmp 1 true) 3 true false⟩,⟨some (5, false), none, .call 56 [.tmp 4 false]⟩,⟨some (6, false), none, .eqS [0, 0, 0] false (.tmp 3 false) (.tmp 5 false)⟩] (.alt ⟨some (2, true), none, .mov (.tmp 6 false) .asg⟩ []
      .done .no))) [2] []
  (.ret)),
  [.tmp 2]⟩
theorem avalid_comp (m : Int) : compF Tryd.prog (gl m) [] Tryd.f24 = some avalid := by kernel_rfl
def attT (a : Att) : AV := .agg [I a.1, I a.2.1, I a.2.2]
theorem aisText_snd (x : Int) : Snd Tryd.prog (gl m) 93 [I x] (B (okT x)) := by
  refine snd_of (fn := Tryd.f93) (af := aisText) Tryd.func93 (aisText_comp m) mixed (kn_ok m) (Nat.le_of_ble_eq_true rfl) ?_
  simp only [aisText, go_sem, reduceCtorEq, Nat.reduceEqDiff, reduceIte, Nat.reduceAdd, Nat.reduceSub, Nat.reduceLeDiff, Int.reduceToNat, Nat.reduceBEq]
  rw [okT]
  cases e1 : (x == 1) <;> cases e2 : (x == 2) <;> cases e3 : (x == 3) <;> (simp only [e1, e2, e3, Bool.or_true, Bool.or_false, go_sem, reduceCtorEq, Nat.reduceEqDiff, reduceIte, Nat.reduceAdd, Nat.reduceSub, Nat.reduceLeDiff, Int.reduceToNat, Nat.reduceBEq]; try rfl)
theorem knownT (a : Att) : attT (known a) = .agg [I (if okT a.1 then a.1 else 0), I (if okE a.2.1 then a.2.1 else 0), I (if okM a.2.2 then a.2.2 else 0)] := rfl
theorem aknown_snd (a : Att) : Snd Tryd.prog (gl m) 56 [attT a] (attT (known a)) := by
  refine snd_of (fn := Tryd.f56) (af := aknown) Tryd.func56 (aknown_comp m) mixed (kn_ok m) (Nat.le_of_ble_eq_true rfl) ?_
  simp only [aknown, go_sem, reduceCtorEq, Nat.reduceEqDiff, reduceIte, Nat.reduceAdd, Nat.reduceSub, Nat.reduceLeDiff, Int.reduceToNat, Nat.reduceBEq]
  rw [knownT]
  obtain ⟨x, y, z⟩ := a
  simp only [attT, go_sem, reduceCtorEq, Nat.reduceEqDiff, reduceIte, Nat.reduceAdd, Nat.reduceSub, Nat.reduceLeDiff, Int.reduceToNat, Nat.reduceBEq]
  repeat ((with_reducible apply And.intro); (case left => first | omega | (simp only [List.length_append, List.length_cons, List.length_nil, List.length_drop, List.length_take, List.length_tail, List.length_dropLast, fs_length, ss_length, bs_length, ns_length]; omega)))
  refine of_call (aisText_snd x) ?_
  simp only [go_sem, reduceCtorEq, Nat.reduceEqDiff, reduceIte, Nat.reduceAdd, Nat.reduceSub, Nat.reduceLeDiff, Int.reduceToNat, Nat.reduceBEq]
  repeat ((with_reducible apply And.intro); (case left => first | omega | (simp only [List.length_append, List.length_cons, List.length_nil, List.length_drop, List.length_take, List.length_tail, List.length_dropLast, fs_length, ss_length, bs_length, ns_length]; omega)))
  cases okT x <;> cases e4 : (y == 4) <;> cases e5 : (y == 5) <;> cases e6 : (z == 6) <;> cases e7 : (z == 7) <;> cases e8 : (z == 8) <;> (simp only [okE, okM, e4, e5, e6, e7, e8, bne, unVal, Bool.or_true, Bool.or_false, Bool.not_true, Bool.not_false, go_sem, reduceCtorEq, Nat.reduceEqDiff, reduceIte, Nat.reduceAdd, Nat.reduceSub, Nat.reduceLeDiff, Int.reduceToNat, Nat.reduceBEq]; try first | rfl | omega)
theorem textA_known (a : Att) (s : Bs) : textA a s = ((known a).1 == 1 || (((known a).1 == 3 || ((known a).1 == 0 && !((known a).2.1 == 0))) && !binary s)) := by
  obtain ⟨x, y, z⟩ := a
  simp only [textA, known]
  by_cases h1 : x = 1
  · subst h1; rfl
  by_cases h3 : x = 3
  · subst h3; rfl
  by_cases h2 : x = 2
  · subst h2; rfl
  have e : okT x = false := by simp [okT, h1, h2, h3]
  have e1 : (x == 1) = false := by simpa using h1
  have e2 : (x != 2) = true := by simpa using h2
  have e3 : (x == 3) = false := by simpa using h3
  simp only [e, e1, e2, e3, Bool.false_eq_true, if_false, Bool.false_or, Bool.true_and]
  by_cases h4 : y = 4
  · subst h4; rfl
  by_cases h5 : y = 5
  · subst h5; rfl
  have e' : okE y = false := by simp [okE, h4, h5]
  rw [e']; rfl
theorem atext_snd (a : Att) (s : Bs) (hs : s.length ≤ 1048576) : Snd Tryd.prog (gl m) 54 [attT a, S s] (B (textA a s)) := by
  refine snd_of (fn := Tryd.f54) (af := atext) Tryd.func54 (atext_comp m) mixed (kn_ok m) (Nat.le_of_ble_eq_true rfl) ?_
  simp only [atext, go_sem, reduceCtorEq, Nat.reduceEqDiff, reduceIte, Nat.reduceAdd, Nat.reduceSub, Nat.reduceLeDiff, Int.reduceToNat, Nat.reduceBEq]
  rw [textA_known]
  simp only [attT, go_sem, reduceCtorEq, Nat.reduceEqDiff, reduceIte, Nat.reduceAdd, Nat.reduceSub, Nat.reduceLeDiff, Int.reduceToNat, Nat.reduceBEq]
  repeat ((with_reducible apply And.intro); (case left => first | omega | (simp only [List.length_append, List.length_cons, List.length_nil, List.length_drop, List.length_take, List.length_tail, List.length_dropLast, fs_length, ss_length, bs_length, ns_length]; omega)))
  refine of_call (aknown_snd a) ?_
  simp only [go_sem, reduceCtorEq, Nat.reduceEqDiff, reduceIte, Nat.reduceAdd, Nat.reduceSub, Nat.reduceLeDiff, Int.reduceToNat, Nat.reduceBEq]
  repeat ((with_reducible apply And.intro); (case left => first | omega | (simp only [List.length_append, List.length_cons, List.length_nil, List.length_drop, List.length_take, List.length_tail, List.length_dropLast, fs_length, ss_length, bs_length, ns_length]; omega)))
  generalize known a = b
  obtain ⟨x, y, z⟩ := b
  simp only [attT, go_sem, reduceCtorEq, Nat.reduceEqDiff, reduceIte, Nat.reduceAdd, Nat.reduceSub, Nat.reduceLeDiff, Int.reduceToNat, Nat.reduceBEq]
  cases e1 : (x == 1) <;> cases e3 : (x == 3) <;> cases e0 : (x == 0) <;> cases e4 : (y == 0) <;> simp only [e1, e3, e0, e4, bne, unVal, atext_k0_w, atext_k0', atext_k1_w, atext_k1', Bool.not_true, Bool.not_false, Bool.true_or, Bool.false_or, Bool.true_and, Bool.false_and, go_sem, reduceCtorEq, Nat.reduceEqDiff, reduceIte, Nat.reduceAdd, Nat.reduceSub, Nat.reduceLeDiff, Int.reduceToNat, Nat.reduceBEq]
  all_goals try (first | rfl | omega)
  all_goals ((repeat ((with_reducible apply And.intro); (case left => first | omega | (simp only [List.length_append, List.length_cons, List.length_nil, List.length_drop, List.length_take, List.length_tail, List.length_dropLast, fs_length, ss_length, bs_length, ns_length]; omega)))); refine of_call (pbin_snd s hs) ?_; simp only [unVal, Bool.not_true, Bool.not_false, go_sem, reduceCtorEq, Nat.reduceEqDiff, reduceIte, Nat.reduceAdd, Nat.reduceSub, Nat.reduceLeDiff, Int.reduceToNat, Nat.reduceBEq]; try first | rfl | omega)
theorem ain_snd (a : Att) (s : Bs) (hs : s.length ≤ 1048576) : Snd Tryd.prog (gl m) 21 [attT a, S s] (S (inA a s)) := by
  refine snd_of (fn := Tryd.f21) (af := ain) Tryd.func21 (ain_comp m) mixed (kn_ok m) (Nat.le_of_ble_eq_true rfl) ?_
  simp only [ain, go_sem, reduceCtorEq, Nat.reduceEqDiff, reduceIte, Nat.reduceAdd, Nat.reduceSub, Nat.reduceLeDiff, Int.reduceToNat, Nat.reduceBEq]
  simp only [attT, go_sem, reduceCtorEq, Nat.reduceEqDiff, reduceIte, Nat.reduceAdd, Nat.reduceSub, Nat.reduceLeDiff, Int.reduceToNat, Nat.reduceBEq]
  repeat ((with_reducible apply And.intro); (case left => first | omega | (simp only [List.length_append, List.length_cons, List.length_nil, List.length_drop, List.length_take, List.length_tail, List.length_dropLast, fs_length, ss_length, bs_length, ns_length]; omega)))
  refine of_call (atext_snd a s hs) ?_
  simp only [go_sem, reduceCtorEq, Nat.reduceEqDiff, reduceIte, Nat.reduceAdd, Nat.reduceSub, Nat.reduceLeDiff, Int.reduceToNat, Nat.reduceBEq]
  repeat ((with_reducible apply And.intro); (case left => first | omega | (simp only [List.length_append, List.length_cons, List.length_nil, List.length_drop, List.length_take, List.length_tail, List.length_dropLast, fs_length, ss_length, bs_length, ns_length]; omega)))
  rw [inA]
  cases textA a s with
  | false =>
    simp only [unVal, go_sem, reduceCtorEq, Nat.reduceEqDiff, reduceIte, Nat.reduceAdd, Nat.reduceSub, Nat.reduceLeDiff, Int.reduceToNat, Nat.reduceBEq]
    repeat ((with_reducible apply And.intro); (case left => first | omega | (simp only [List.length_append, List.length_cons, List.length_nil, List.length_drop, List.length_take, List.length_tail, List.length_dropLast, fs_length, ss_length, bs_length, ns_length]; omega)))
    try rfl
  | true =>
    simp only [unVal, go_sem, reduceCtorEq, Nat.reduceEqDiff, reduceIte, Nat.reduceAdd, Nat.reduceSub, Nat.reduceLeDiff, Int.reduceToNat, Nat.reduceBEq]
    repeat ((with_reducible apply And.intro); (case left => first | omega | (simp only [List.length_append, List.length_cons, List.length_nil, List.length_drop, List.length_take, List.length_tail, List.length_dropLast, fs_length, ss_length, bs_length, ns_length]; omega)))
    repeat ((with_reducible apply And.intro); (case left => first | omega | (simp only [List.length_append, List.length_cons, List.length_nil, List.length_drop, List.length_take, List.length_tail, List.length_dropLast, fs_length, ss_length, bs_length, ns_length]; omega)))
    refine of_call (tolf_snd s hs) ?_
    simp only [go_sem, reduceCtorEq, Nat.reduceEqDiff, reduceIte, Nat.reduceAdd, Nat.reduceSub, Nat.reduceLeDiff, Int.reduceToNat, Nat.reduceBEq]
    repeat ((with_reducible apply And.intro); (case left => first | omega | (simp only [List.length_append, List.length_cons, List.length_nil, List.length_drop, List.length_take, List.length_tail, List.length_dropLast, fs_length, ss_length, bs_length, ns_length]; omega)))
    try rfl
theorem occ_crlf (s : Bs) (i : Nat) : Lib.occAt s [13, 10] i = true ↔ s[i]? = some 13 ∧ s[i + 1]? = some 10 := by
  have e0 : s[i]? = (s.drop i)[0]? := by rw [List.getElem?_drop]; rfl
  have e1 : s[i + 1]? = (s.drop i)[1]? := by rw [List.getElem?_drop]
  rw [e0, e1, Lib.occAt]
  generalize s.drop i = t
  cases t with
  | nil => simp
  | cons a t =>
    cases t with
    | nil => simp
    | cons b t =>
      have h1 : ((13 : UInt8) == a) = true ↔ a = 13 := by rw [beq_iff_eq]; exact eq_comm
      have h2 : ((10 : UInt8) == b) = true ↔ b = 10 := by rw [beq_iff_eq]; exact eq_comm
      simp only [List.isPrefixOf, Bool.and_true, Bool.and_eq_true, h1, h2, List.getElem?_cons_zero, List.getElem?_cons_succ, Option.some.injEq]
theorem contains_crlf (s : Bs) : Lib.contains s [13, 10] = hasCrlf s := by
  rw [Lib.contains]
  rcases Lib.index_spec s [13, 10] with ⟨e, h⟩ | ⟨i, e, hi, ho, _⟩
  · rw [e, show decide (0 ≤ (-1 : Int)) = false from rfl]
    symm; rw [Bool.eq_false_iff]
    intro hc
    obtain ⟨i, h1, h2⟩ := hasCrlf_iff.1 hc
    have hi : i ≤ s.length := by
      rcases Nat.lt_or_ge i s.length with hh | hh
      · omega
      · rw [List.getElem?_eq_none hh] at h1; cases h1
    have := h i hi
    rw [(occ_crlf s i).2 ⟨h1, h2⟩] at this; cases this
  · rw [e, hasCrlf_iff.2 ⟨i, (occ_crlf s i).1 ho⟩]
    exact decide_eq_true (by omega)
theorem contains2_snd (s : Bs) (hs : s.length ≤ 1048576) : Snd Tryd.prog (gl m) 57 [S s, S [13, 10]] (B (hasCrlf s)) :=
  snd_same (us := [.string (str s), .string (str [13, 10])]) rfl fun w zf h => by
    have := Tryd.strings_Contains (str s) (str [13, 10]) m w (by rw [str_size]; omega) (tab0 h)
    simp only [str_dataL] at this
    rw [contains_crlf] at this; exact this
theorem outA_known (a : Att) (s : Bs) : outA a s = if textA a s = true then (if ((known a).2.1 == 5) = true then (if hasCrlf s = true then s else crlf 0 s) else s) else s := by
  have e : ((known a).2.1 == 5) = (a.2.1 == 5) := by
    obtain ⟨x, y, z⟩ := a
    simp only [known]
    by_cases h5 : y = 5
    · subst h5; rfl
    have e5 : (y == 5) = false := by simpa using h5
    rw [e5]
    split
    · exact e5
    · rfl
  rw [e, outA]
  cases textA a s <;> cases (a.2.1 == 5) <;> cases hasCrlf s <;> rfl
theorem aout_snd (a : Att) (s : Bs) (hs : s.length ≤ 524288) : Snd Tryd.prog (gl m) 23 [attT a, S s] (S (outA a s)) := by
  refine snd_of (fn := Tryd.f23) (af := aout) Tryd.func23 (aout_comp m) mixed (kn_ok m) (Nat.le_of_ble_eq_true rfl) ?_
  simp only [aout, go_sem, reduceCtorEq, Nat.reduceEqDiff, reduceIte, Nat.reduceAdd, Nat.reduceSub, Nat.reduceLeDiff, Int.reduceToNat, Nat.reduceBEq]
  rw [outA_known]
  simp only [attT, go_sem, reduceCtorEq, Nat.reduceEqDiff, reduceIte, Nat.reduceAdd, Nat.reduceSub, Nat.reduceLeDiff, Int.reduceToNat, Nat.reduceBEq]
  repeat ((with_reducible apply And.intro); (case left => first | omega | (simp only [List.length_append, List.length_cons, List.length_nil, List.length_drop, List.length_take, List.length_tail, List.length_dropLast, fs_length, ss_length, bs_length, ns_length]; omega)))
  refine of_call (atext_snd a s (by omega)) ?_
  simp only [go_sem, reduceCtorEq, Nat.reduceEqDiff, reduceIte, Nat.reduceAdd, Nat.reduceSub, Nat.reduceLeDiff, Int.reduceToNat, Nat.reduceBEq]
  repeat ((with_reducible apply And.intro); (case left => first | omega | (simp only [List.length_append, List.length_cons, List.length_nil, List.length_drop, List.length_take, List.length_tail, List.length_dropLast, fs_length, ss_length, bs_length, ns_length]; omega)))
  cases textA a s with
  | false =>
    simp only [unVal, go_sem, reduceCtorEq, Nat.reduceEqDiff, reduceIte, Nat.reduceAdd, Nat.reduceSub, Nat.reduceLeDiff, Int.reduceToNat, Nat.reduceBEq]
    repeat ((with_reducible apply And.intro); (case left => first | omega | (simp only [List.length_append, List.length_cons, List.length_nil, List.length_drop, List.length_take, List.length_tail, List.length_dropLast, fs_length, ss_length, bs_length, ns_length]; omega)))
    try rfl
  | true =>
    simp only [unVal, go_sem, reduceCtorEq, Nat.reduceEqDiff, reduceIte, Nat.reduceAdd, Nat.reduceSub, Nat.reduceLeDiff, Int.reduceToNat, Nat.reduceBEq]
    repeat ((with_reducible apply And.intro); (case left => first | omega | (simp only [List.length_append, List.length_cons, List.length_nil, List.length_drop, List.length_take, List.length_tail, List.length_dropLast, fs_length, ss_length, bs_length, ns_length]; omega)))
    repeat ((with_reducible apply And.intro); (case left => first | omega | (simp only [List.length_append, List.length_cons, List.length_nil, List.length_drop, List.length_take, List.length_tail, List.length_dropLast, fs_length, ss_length, bs_length, ns_length]; omega)))
    refine of_call (aknown_snd a) ?_
    simp only [go_sem, reduceCtorEq, Nat.reduceEqDiff, reduceIte, Nat.reduceAdd, Nat.reduceSub, Nat.reduceLeDiff, Int.reduceToNat, Nat.reduceBEq]
    repeat ((with_reducible apply And.intro); (case left => first | omega | (simp only [List.length_append, List.length_cons, List.length_nil, List.length_drop, List.length_take, List.length_tail, List.length_dropLast, fs_length, ss_length, bs_length, ns_length]; omega)))
    generalize known a = b
    obtain ⟨x, y, z⟩ := b
    cases e5 : (y == 5) with
    | false =>
      simp only [attT, e5, bne, unVal, go_sem, reduceCtorEq, Nat.reduceEqDiff, reduceIte, Nat.reduceAdd, Nat.reduceSub, Nat.reduceLeDiff, Int.reduceToNat, Nat.reduceBEq]
      repeat ((with_reducible apply And.intro); (case left => first | omega | (simp only [List.length_append, List.length_cons, List.length_nil, List.length_drop, List.length_take, List.length_tail, List.length_dropLast, fs_length, ss_length, bs_length, ns_length]; omega)))
      try rfl
    | true =>
      simp only [attT, e5, bne, unVal, go_sem, reduceCtorEq, Nat.reduceEqDiff, reduceIte, Nat.reduceAdd, Nat.reduceSub, Nat.reduceLeDiff, Int.reduceToNat, Nat.reduceBEq]
      repeat ((with_reducible apply And.intro); (case left => first | omega | (simp only [List.length_append, List.length_cons, List.length_nil, List.length_drop, List.length_take, List.length_tail, List.length_dropLast, fs_length, ss_length, bs_length, ns_length]; omega)))
      repeat ((with_reducible apply And.intro); (case left => first | omega | (simp only [List.length_append, List.length_cons, List.length_nil, List.length_drop, List.length_take, List.length_tail, List.length_dropLast, fs_length, ss_length, bs_length, ns_length]; omega)))
      refine of_call (contains2_snd s (by omega)) ?_
      simp only [go_sem, reduceCtorEq, Nat.reduceEqDiff, reduceIte, Nat.reduceAdd, Nat.reduceSub, Nat.reduceLeDiff, Int.reduceToNat, Nat.reduceBEq]
      repeat ((with_reducible apply And.intro); (case left => first | omega | (simp only [List.length_append, List.length_cons, List.length_nil, List.length_drop, List.length_take, List.length_tail, List.length_dropLast, fs_length, ss_length, bs_length, ns_length]; omega)))
      cases hasCrlf s with
      | true =>
        simp only [unVal, go_sem, reduceCtorEq, Nat.reduceEqDiff, reduceIte, Nat.reduceAdd, Nat.reduceSub, Nat.reduceLeDiff, Int.reduceToNat, Nat.reduceBEq]
        repeat ((with_reducible apply And.intro); (case left => first | omega | (simp only [List.length_append, List.length_cons, List.length_nil, List.length_drop, List.length_take, List.length_tail, List.length_dropLast, fs_length, ss_length, bs_length, ns_length]; omega)))
        try rfl
      | false =>
        simp only [unVal, go_sem, reduceCtorEq, Nat.reduceEqDiff, reduceIte, Nat.reduceAdd, Nat.reduceSub, Nat.reduceLeDiff, Int.reduceToNat, Nat.reduceBEq]
        repeat ((with_reducible apply And.intro); (case left => first | omega | (simp only [List.length_append, List.length_cons, List.length_nil, List.length_drop, List.length_take, List.length_tail, List.length_dropLast, fs_length, ss_length, bs_length, ns_length]; omega)))
        repeat ((with_reducible apply And.intro); (case left => first | omega | (simp only [List.length_append, List.length_cons, List.length_nil, List.length_drop, List.length_take, List.length_tail, List.length_dropLast, fs_length, ss_length, bs_length, ns_length]; omega)))
        refine of_call (tocrlf_snd s (by omega)) ?_
        simp only [go_sem, reduceCtorEq, Nat.reduceEqDiff, reduceIte, Nat.reduceAdd, Nat.reduceSub, Nat.reduceLeDiff, Int.reduceToNat, Nat.reduceBEq]
        repeat ((with_reducible apply And.intro); (case left => first | omega | (simp only [List.length_append, List.length_cons, List.length_nil, List.length_drop, List.length_take, List.length_tail, List.length_dropLast, fs_length, ss_length, bs_length, ns_length]; omega)))
        try rfl
theorem eqA (a b : Att) : eqC [0, 0, 0] [I a.1, I a.2.1, I a.2.2] [I b.1, I b.2.1, I b.2.2] = some (a == b) := by
  obtain ⟨x, y, z⟩ := a; obtain ⟨x', y', z'⟩ := b
  simp only [eqC, Option.map_some, Bool.and_true]; rfl
theorem avalid_snd (a : Att) : Snd Tryd.prog (gl m) 24 [attT a] (B (validA a)) := by
  refine snd_of (fn := Tryd.f24) (af := avalid) Tryd.func24 (avalid_comp m) mixed (kn_ok m) (Nat.le_of_ble_eq_true rfl) ?_
  simp only [avalid, go_sem, reduceCtorEq, Nat.reduceEqDiff, reduceIte, Nat.reduceAdd, Nat.reduceSub, Nat.reduceLeDiff, Int.reduceToNat, Nat.reduceBEq]
  simp only [attT, go_sem, reduceCtorEq, Nat.reduceEqDiff, reduceIte, Nat.reduceAdd, Nat.reduceSub, Nat.reduceLeDiff, Int.reduceToNat, Nat.reduceBEq]
  repeat ((with_reducible apply And.intro); (case left => first | omega | (simp only [List.length_append, List.length_cons, List.length_nil, List.length_drop, List.length_take, List.length_tail, List.length_dropLast, fs_length, ss_length, bs_length, ns_length]; omega)))
  refine of_call (aknown_snd a) ?_
  simp only [go_sem, reduceCtorEq, Nat.reduceEqDiff, reduceIte, Nat.reduceAdd, Nat.reduceSub, Nat.reduceLeDiff, Int.reduceToNat, Nat.reduceBEq]
  repeat ((with_reducible apply And.intro); (case left => first | omega | (simp only [List.length_append, List.length_cons, List.length_nil, List.length_drop, List.length_take, List.length_tail, List.length_dropLast, fs_length, ss_length, bs_length, ns_length]; omega)))
  rw [← known_valid]
  simp only [attT, eqA, go_sem, reduceCtorEq, Nat.reduceEqDiff, reduceIte, Nat.reduceAdd, Nat.reduceSub, Nat.reduceLeDiff, Int.reduceToNat, Nat.reduceBEq]
end Go.At
namespace Go.At
open Go Go.Ev Go.Proofs
open Go.Ln (u8b_t u8b_f lines lines_len line_len lf crlf binary idx idx_eq unfeed unfeed_len pbin_snd rbin_snd tolf_snd tocrlf_snd rlf_snd rcrlf_snd rback_snd)
set_option linter.unusedVariables false
set_option maxHeartbeats 1000000
set_option linter.unusedSimpArgs false
attribute [local go_sem] eqs implies_true List.map_cons List.map_nil kl klL roD roL Option.map_some Option.map_none Option.getD_some Option.getD_none binVal binObl unVal if_true if_false eq_self passA frnD resD content getH getR getW viaNot viaSlot viaBox viaDeep viaMem List.contains_cons List.contains_nil grabs peeks okCells isCell place cellsOf chunk elt List.headD_cons List.length_cons List.length_nil List.take_succ_cons List.take_zero List.drop_succ_cons List.drop_zero List.nil_append List.cons_append List.append_nil List.all_cons List.all_nil plainC takeR setW over reCell List.getElem?_cons_zero List.getElem?_cons_succ List.set_cons_zero List.take_length outV resG plainV pack outVG outBx List.set_cons_succ Ref.idx Ref.addOff beq_self_eq_true bxL Option.bind_some writeR isLit viaBoxes capsPA boxPA nsOf noDup boxesAt argG passG passD rhoIn rhoOut idxIn tr trL List.getD_cons_zero gives pasOf isPtr Ins.d List.getD_cons_succ resL frnL List.getLast?_nil frnL_fs roL_fs resL_fs passL_fs klL_fs trL_fs map_roD_fs fs_length
variable {m : Int}
end Go.At
namespace Go.At
open Go Go.Ev Go.Proofs Go.RowKit Go.Shelf
open Go.Ln (u8b_t u8b_f lines lines_len line_len lf crlf binary idx idx_eq unfeed unfeed_len pbin_snd rbin_snd tolf_snd tocrlf_snd rlf_snd rcrlf_snd rback_snd)
open Go.Gb (isPath isPat matchF gis_snd)
set_option linter.unusedVariables false
set_option maxHeartbeats 1000000
set_option linter.unusedSimpArgs false
attribute [local go_sem] eqs implies_true List.map_cons List.map_nil kl klL roD roL Option.map_some Option.map_none Option.getD_some Option.getD_none binVal binObl unVal if_true if_false eq_self passA frnD resD content getH getR getW viaNot viaSlot viaBox viaDeep viaMem List.contains_cons List.contains_nil grabs peeks okCells isCell place cellsOf chunk elt List.headD_cons List.length_cons List.length_nil List.take_succ_cons List.take_zero List.drop_succ_cons List.drop_zero List.nil_append List.cons_append List.append_nil List.all_cons List.all_nil plainC takeR setW over reCell List.getElem?_cons_zero List.getElem?_cons_succ List.set_cons_zero List.take_length outV resG plainV pack outVG outBx List.set_cons_succ Ref.idx Ref.addOff beq_self_eq_true bxL Option.bind_some writeR isLit viaBoxes capsPA boxPA nsOf noDup boxesAt argG passG passD rhoIn rhoOut idxIn tr trL List.getD_cons_zero gives pasOf isPtr Ins.d List.getD_cons_succ resL frnL List.getLast?_nil frnL_fs roL_fs resL_fs passL_fs klL_fs trL_fs map_roD_fs fs_length
variable {m : Int}
def amay : AF := ⟨.seq (.reg (.seq [⟨some (2, true), none, .mov (.cst (.bool false) (.lit (.bool false))) .asg⟩])) [0] []
  (.seq (.reg (.seq [⟨some (3, false), none, .mov (.tmp 0 true) .peek⟩,⟨some (4, false), none, .call 87 [.tmp 3 false, (.cst (.string (str [35])) (.lit (.string (str [35]))))]⟩,⟨some (5, false), none, .un .not (.tmp 4 false)⟩,⟨some (6, false), none, .mov (.tmp 5 false) .peek⟩,⟨some (7, false), (some (6, true)), .mov (.tmp 0 true) .peek⟩,⟨some (8, false), (some (6, true)), .call 88 [.tmp 7 false, (.cst (.string (str [47])) (.lit (.string (str [47]))))]⟩,⟨some (9, false), (some (6, true)), .un .not (.tmp 8 false)⟩,⟨some (10, false), none, .pick (.tmp 6 false) (.tmp 9 false) (.cst (.bool false) (.lit (.bool false)))⟩,⟨some (11, false), none, .mov (.tmp 10 false) .peek⟩,⟨some (12, false), (some (11, true)), .mov (.tmp 0 true) .peek⟩,⟨some (13, false), (some (11, true)), .call 82 [.tmp 12 false, (.cst (.string (str [47])) (.lit (.string (str [47]))))]⟩,⟨some (14, false), (some (11, true)), .call 89 [.tmp 13 false]⟩,⟨some (15, false), none, .pick (.tmp 11 false) (.tmp 14 false) (.cst (.bool false) (.lit (.bool false)))⟩,⟨some (2, true), none, .mov (.tmp 15 false) .asg⟩])) [2] []
  (.ret)),
  [.tmp 2]⟩
theorem amay_comp (m : Int) : compF Tryd.prog (gl m) [] Tryd.f52 = some amay := by kernel_rfl
def cor_l0' : AC := .seq (.reg (.seq [⟨some (9, false), none, .bin .lss (.tmp 8 true) (.tmp 7 true)⟩])) [0, 3, 6, 7, 8, 9] []
  (.seq (.cond (.tmp 9 false)
    (.skip)
    (.exit 0)) [0, 3, 6, 7, 8] []
  (.seq (.block 1 (.seq (.reg (.seq [⟨some (10, false), none, .iad (.tmp 6 true) (.tmp 8 true) 1⟩,⟨some (11, false), none, .load (.tmp 10 false) 1 false false⟩,⟨some (5, true), none, .mov (.tmp 11 false) .asg⟩])) [0, 3, 5, 6, 7, 8] []
    (.seq (.reg (.seq [⟨some (12, false), none, .mov (.tmp 5 true) .peek⟩,⟨some (13, false), none, .mov (.tmp 3 true) .peek⟩,⟨some (14, false), none, .bin .neq (.tmp 12 false) (.tmp 13 false)⟩])) [0, 3, 5, 6, 7, 8, 14] []
    (.cond (.tmp 14 false)
      (.seq (.reg (.seq [⟨some (15, false), none, .mov (.tmp 5 true) .take⟩,⟨some (2, true), none, .mov (.tmp 15 false) .asg⟩])) [2] []
      (.ret))
      (.skip))))) [0, 3, 6, 7, 8] []
  (.reg (.seq [⟨some (16, false), none, .bin .add (.tmp 8 true) (.cst (.int .i64 1) (.lit (.int .i64 1)))⟩,⟨some (8, true), none, .mov (.tmp 16 false) .peek⟩]))))
def cor_l0 : AC := cor_l0'
theorem cor_l0_w (C : Kn) (K : Ex → St → Prop) (s : St) : vcC C cor_l0 K s = vcC C cor_l0' K s := nr rfl
def cor_k1' : AC := .seq (.reg (.seq [⟨some (17, false), none, .mov (.tmp 3 true) .take⟩,⟨some (2, true), none, .mov (.tmp 17 false) .asg⟩])) [2] []
  (.ret)
def cor_k1 : AC := cor_k1'
theorem cor_k1_w (C : Kn) (K : Ex → St → Prop) (s : St) : vcC C cor_k1 K s = vcC C cor_k1' K s := nr rfl
def cor : AF := ⟨.seq (.reg (.seq [⟨some (2, true), none, .mov (.cst (.int .i64 0) (.lit (.int .i64 0))) .asg⟩])) [0] []
  (.seq (.reg (.seq [⟨some (3, true), none, .mov (.cst (.int .i64 0) (.lit (.int .i64 0))) .asg⟩])) [0, 3] []
  (.seq (.seq (.reg (.seq [⟨some (6, true), none, .mov (.tmp 0 true) .peek⟩,⟨some (7, true), none, .lenL (.tmp 6 true)⟩,⟨some (8, true), none, .mov (.cst (.int .i64 0) (.lit (.int .i64 0))) .peek⟩])) [0, 3, 6, 7, 8] []
  (.block 0 (.loop [0, 3, 6, 7, 8] [] cor_l0))) [3] [] cor_k1)),
  [.tmp 2]⟩
theorem cor_comp (m : Int) : compF Tryd.prog (gl m) [] Tryd.f83 = some cor := by kernel_rfl
def blankR (x : Int) : Bool := x == 32 || x == 9 || x == 13 || x == 10
theorem back_owned {w w' : World} {zf : Nat → Nat → Prop} (hzf : ∀ b i, zf b i → b < w.heap.size) {us : List Value} (hu : ∀ u, u ∈ us → scalar u = true ∧ isCell u = true) {e : TypeId} {v : Value} (hb : Below w.heap.size w w')
    (ho : w'.ownsRow w.heap.size e 1 v us.length us) : Back w zf (.sl .own 1 (us.map .lit)) v w' := by
  obtain ⟨_, ⟨rfl, h0⟩ | ⟨g, cap, cur, rfl, hg, hh, hn, hm, hs, ht⟩⟩ := ho
  · have : us = [] := List.length_eq_zero_iff.1 h0
    subst this
    exact ⟨keep_below hb, { w := w', b0 := w.heap.size, bd := fun _ => none, bxc := fun _ _ => False, zf := zf, res := fun _ => none, hold := fun _ => none }, [], rfl, rfl, rfl, fun _ _ => rfl, .nil _ _ _ _, fun b hb => (List.not_mem_nil hb).elim⟩
  · refine ⟨keep_below hb, { w := w', b0 := w.heap.size, bd := fun b => if b = g then some us.length else none, bxc := fun _ _ => False, zf := zf, res := fun _ => none, hold := fun _ => none }, [g], rfl, rfl, rfl, fun b hb => if_neg (by omega), ?_, fun b hb => by simp at hb; omega⟩
    have := Rel.own (X := { w := w', b0 := w.heap.size, bd := fun b => if b = g then some us.length else none, bxc := fun _ _ => False, zf := zf, res := fun _ => none, hold := fun _ => none })
      false (us.map .lit) g 0 cap 1 cur e (0, 0) us [] hh (fun i _ => by simp) (by omega) (by simpa using hn) (by intro x hx; obtain ⟨u, _, rfl⟩ := List.mem_map.1 hx; rfl)
      (fun k v hk => by
        have hk' : k < us.length := (List.getElem?_eq_some_iff.1 hk).1
        have h2 : (cur.toList.take (us.length * 1))[k]? = some v := by rw [ht]; exact hk
        rw [List.getElem?_take] at h2
        rw [if_pos (by omega)] at h2
        simpa using h2) (by rw [flat_lits]; exact lits_rel us hu) (by simp) (by simp) (fun i hz => by have := hzf _ _ hz; omega)
    simpa using this
attribute [local go_sem] Oper.semAt_some in
theorem blank_gives (W : World) (x : Nat) : FnGives Tryd.prog 51 #[] #[encR x] (.bool (blankR x)) W := by
  refine callsIn_wide.1 (callsIn_of_wp (n := 1) Tryd.func51 rfl trivial ?_ rfl)
  simp only [Tryd.ntmps51, List.size_toArray, List.length_cons, List.length_nil, Nat.reduceAdd, Nat.reduceSub, Array.replicate_succ, Array.replicate_zero, List.push_toArray, List.append_toArray, List.nil_append, List.cons_append]
  by_cases h1 : (x : Int) = 32
  · have e1 : ((x : Int) == 32) = true := by simpa using h1
    rw [show blankR x = true by simp only [blankR, e1, Bool.true_or]]
    clear e1
    gi_wp2
    exact bodyPost_ret (results_tmp rfl _ _ _) rfl ⟨rfl, 0, rfl⟩
  have e1 : ((x : Int) == 32) = false := by simpa using h1
  by_cases h2 : (x : Int) = 9
  · have e2 : ((x : Int) == 9) = true := by simpa using h2
    rw [show blankR x = true by simp only [blankR, e1, e2, Bool.true_or, Bool.false_or]]
    clear e2
    gi_wp2
    exact bodyPost_ret (results_tmp rfl _ _ _) rfl ⟨rfl, 0, rfl⟩
  have e2 : ((x : Int) == 9) = false := by simpa using h2
  by_cases h3 : (x : Int) = 13
  · have e3 : ((x : Int) == 13) = true := by simpa using h3
    rw [show blankR x = true by simp only [blankR, e1, e2, e3, Bool.true_or, Bool.false_or]]
    clear e3
    gi_wp2
    exact bodyPost_ret (results_tmp rfl _ _ _) rfl ⟨rfl, 0, rfl⟩
  have e3 : ((x : Int) == 13) = false := by simpa using h3
  by_cases h4 : (x : Int) = 10
  · have e4 : ((x : Int) == 10) = true := by simpa using h4
    rw [show blankR x = true by simp only [blankR, e1, e2, e3, e4, Bool.true_or, Bool.false_or]]
    clear e4
    gi_wp2
    exact bodyPost_ret (results_tmp rfl _ _ _) rfl ⟨rfl, 0, rfl⟩
  have e4 : ((x : Int) == 10) = false := by simpa using h4
  rw [show blankR x = false by simp only [blankR, e1, e2, e3, e4, Bool.false_or]]
  gi_wp2
  exact bodyPost_ret (results_tmp rfl _ _ _) rfl ⟨rfl, 0, rfl⟩
abbrev F51 : AV := .lit (.func (.func 51) #[] #[])
def blankN (x : Nat) : Bool := blankR x
def fieldsL (s : Bs) : List Bs := (Lib.goFieldsP blankN (str s)).map fun b => b.data.toList
theorem fields_snd (s : Bs) (hs : s.length ≤ 1048576) : Snd Tryd.prog (gl m) 50 [S s, F51] (.sl .own 1 (ss (fieldsL s))) := by
  intro w vals zf hzf ht hargs
  have hvals : vals = #[.string (str s), .func (.func 51) #[] #[]] := by
    have := relT_lits (us := [.string (str s), .func (.func 51) #[] #[]]) hargs
    cases vals; simp at this; subst this; rfl
  subst hvals
  refine (Tryd.strings_FieldsFunc_runes 51 #[] (enters_of Tryd.func51 (by kernel_rfl) rfl) blankN (str s) w (by rw [str_size]; omega) (fun W x _ _ => blank_gives W x)).mono ?_
  rintro e w' ⟨A, rfl, hA, ho, hb⟩
  refine ⟨_, rfl, ?_⟩
  have := back_owned (us := (Lib.goFieldsP blankN (str s)).map Value.string) hzf (fun u hu => by obtain ⟨b, _, rfl⟩ := List.mem_map.1 hu; exact ⟨rfl, rfl⟩) hb (by rw [List.length_map]; exact ho)
  rw [List.map_map] at this
  have e : (S ∘ fun b : ByteArray => b.data.toList) = AV.lit ∘ Value.string := by funext b; rfl
  rw [fieldsL, ss, List.map_map, e]
  exact this
def mayA (p : Bs) : Bool := !(p.head? == some 35) && !(p.getLast? == some 47) && isPat (headP p)
theorem headP_tp (p : Bs) : Lib.trimPrefix p [47] = headP p := by
  rw [tp1, headP]
  by_cases h : p.head? = some 47
  · rw [if_pos h, if_pos (by rw [h]; rfl)]
  · rw [if_neg h, if_neg (by simpa using h)]
theorem headP_len (p : Bs) : (headP p).length ≤ p.length := by
  rw [headP]; split
  · rw [List.length_tail]; omega
  · omega
theorem amay_snd (p : Bs) (hp : p.length ≤ 1048576) : Snd Tryd.prog (gl m) 52 [S p] (B (mayA p)) := by
  refine snd_of (fn := Tryd.f52) (af := amay) Tryd.func52 (amay_comp m) mixed (kn_ok m) (Nat.le_of_ble_eq_true rfl) ?_
  simp only [amay, go_sem, reduceCtorEq, Nat.reduceEqDiff, reduceIte, Nat.reduceAdd, Nat.reduceSub, Nat.reduceLeDiff, Int.reduceToNat, Nat.reduceBEq]
  repeat ((with_reducible apply And.intro); (case left => first | omega | (simp only [List.length_append, List.length_cons, List.length_nil, List.length_drop, List.length_take, List.length_tail, List.length_dropLast, fs_length, ss_length, bs_length, ns_length]; omega)))
  refine of_call (hasPrefix p [35]) ?_
  simp only [go_sem, reduceCtorEq, Nat.reduceEqDiff, reduceIte, Nat.reduceAdd, Nat.reduceSub, Nat.reduceLeDiff, Int.reduceToNat, Nat.reduceBEq]
  repeat ((with_reducible apply And.intro); (case left => first | omega | (simp only [List.length_append, List.length_cons, List.length_nil, List.length_drop, List.length_take, List.length_tail, List.length_dropLast, fs_length, ss_length, bs_length, ns_length]; omega)))
  rw [hp1, mayA]
  cases (p.head? == some 35) with
  | true =>
    simp only [unVal, Bool.not_true, Bool.false_and, go_sem, reduceCtorEq, Nat.reduceEqDiff, reduceIte, Nat.reduceAdd, Nat.reduceSub, Nat.reduceLeDiff, Int.reduceToNat, Nat.reduceBEq]
    repeat ((with_reducible apply And.intro); (case left => first | omega | (simp only [List.length_append, List.length_cons, List.length_nil, List.length_drop, List.length_take, List.length_tail, List.length_dropLast, fs_length, ss_length, bs_length, ns_length]; omega)))
    try rfl
  | false =>
    simp only [unVal, Bool.not_false, Bool.true_and, go_sem, reduceCtorEq, Nat.reduceEqDiff, reduceIte, Nat.reduceAdd, Nat.reduceSub, Nat.reduceLeDiff, Int.reduceToNat, Nat.reduceBEq]
    repeat ((with_reducible apply And.intro); (case left => first | omega | (simp only [List.length_append, List.length_cons, List.length_nil, List.length_drop, List.length_take, List.length_tail, List.length_dropLast, fs_length, ss_length, bs_length, ns_length]; omega)))
    repeat ((with_reducible apply And.intro); (case left => first | omega | (simp only [List.length_append, List.length_cons, List.length_nil, List.length_drop, List.length_take, List.length_tail, List.length_dropLast, fs_length, ss_length, bs_length, ns_length]; omega)))
    refine of_call (hasSuffix_snd p [47] (by omega)) ?_
    simp only [go_sem, reduceCtorEq, Nat.reduceEqDiff, reduceIte, Nat.reduceAdd, Nat.reduceSub, Nat.reduceLeDiff, Int.reduceToNat, Nat.reduceBEq]
    repeat ((with_reducible apply And.intro); (case left => first | omega | (simp only [List.length_append, List.length_cons, List.length_nil, List.length_drop, List.length_take, List.length_tail, List.length_dropLast, fs_length, ss_length, bs_length, ns_length]; omega)))
    rw [hs1]
    cases (p.getLast? == some 47) with
    | true =>
      simp only [unVal, Bool.not_true, Bool.false_and, go_sem, reduceCtorEq, Nat.reduceEqDiff, reduceIte, Nat.reduceAdd, Nat.reduceSub, Nat.reduceLeDiff, Int.reduceToNat, Nat.reduceBEq]
      repeat ((with_reducible apply And.intro); (case left => first | omega | (simp only [List.length_append, List.length_cons, List.length_nil, List.length_drop, List.length_take, List.length_tail, List.length_dropLast, fs_length, ss_length, bs_length, ns_length]; omega)))
      try rfl
    | false =>
      simp only [unVal, Bool.not_false, Bool.true_and, go_sem, reduceCtorEq, Nat.reduceEqDiff, reduceIte, Nat.reduceAdd, Nat.reduceSub, Nat.reduceLeDiff, Int.reduceToNat, Nat.reduceBEq]
      repeat ((with_reducible apply And.intro); (case left => first | omega | (simp only [List.length_append, List.length_cons, List.length_nil, List.length_drop, List.length_take, List.length_tail, List.length_dropLast, fs_length, ss_length, bs_length, ns_length]; omega)))
      repeat ((with_reducible apply And.intro); (case left => first | omega | (simp only [List.length_append, List.length_cons, List.length_nil, List.length_drop, List.length_take, List.length_tail, List.length_dropLast, fs_length, ss_length, bs_length, ns_length]; omega)))
      refine of_call (trimPrefix_snd p [47]) ?_
      simp only [go_sem, reduceCtorEq, Nat.reduceEqDiff, reduceIte, Nat.reduceAdd, Nat.reduceSub, Nat.reduceLeDiff, Int.reduceToNat, Nat.reduceBEq]
      repeat ((with_reducible apply And.intro); (case left => first | omega | (simp only [List.length_append, List.length_cons, List.length_nil, List.length_drop, List.length_take, List.length_tail, List.length_dropLast, fs_length, ss_length, bs_length, ns_length]; omega)))
      rw [headP_tp]
      repeat ((with_reducible apply And.intro); (case left => first | omega | (simp only [List.length_append, List.length_cons, List.length_nil, List.length_drop, List.length_take, List.length_tail, List.length_dropLast, fs_length, ss_length, bs_length, ns_length]; omega)))
      refine of_call (gis_snd (headP p) (by have := headP_len p; omega)) ?_
      simp only [go_sem, reduceCtorEq, Nat.reduceEqDiff, reduceIte, Nat.reduceAdd, Nat.reduceSub, Nat.reduceLeDiff, Int.reduceToNat, Nat.reduceBEq]
      repeat ((with_reducible apply And.intro); (case left => first | omega | (simp only [List.length_append, List.length_cons, List.length_nil, List.length_drop, List.length_take, List.length_tail, List.length_dropLast, fs_length, ss_length, bs_length, ns_length]; omega)))
      try rfl
theorem cor_snd (a b : Int) : Snd Tryd.prog (gl m) 83 [.sl .frn 1 [I a, I b]] (I (if a = 0 then b else a)) := by
  refine snd_of (fn := Tryd.f83) (af := cor) Tryd.func83 (cor_comp m) mixed (kn_ok m) (Nat.le_of_ble_eq_true rfl) ?_
  simp only [cor, go_sem, reduceCtorEq, Nat.reduceEqDiff, reduceIte, Nat.reduceAdd, Nat.reduceSub, Nat.reduceLeDiff, Int.reduceToNat, Nat.reduceBEq]
  have d0 : decide ((0 : Int) < ((2 : Nat) : Int)) = true := by decide
  have d1 : decide ((1 : Int) < ((2 : Nat) : Int)) = true := by decide
  have d2 : decide ((2 : Int) < ((2 : Nat) : Int)) = false := by decide
  have w1 : IntKind.i64.wrap (0 + 1) = 1 := by decide
  have w2 : IntKind.i64.wrap (1 + 1) = 2 := by decide
  apply round
  simp only [cor_l0_w, cor_l0', go_sem, reduceCtorEq, Nat.reduceEqDiff, reduceIte, Nat.reduceAdd, Nat.reduceSub, Nat.reduceLeDiff, Int.reduceToNat, Nat.reduceBEq]
  repeat ((with_reducible apply And.intro); (case left => first | omega | (simp only [List.length_append, List.length_cons, List.length_nil, List.length_drop, List.length_take, List.length_tail, List.length_dropLast, fs_length, ss_length, bs_length, ns_length]; omega)))
  by_cases h : a = 0
  · subst h
    simp only [if_true, d0, w1, ne_f (show (0 : Int) = 0 from rfl), List.getElem?_cons_zero, Int.toNat_zero, go_sem, reduceCtorEq, Nat.reduceEqDiff, reduceIte, Nat.reduceAdd, Nat.reduceSub, Nat.reduceLeDiff, Int.reduceToNat, Nat.reduceBEq]
    repeat ((with_reducible apply And.intro); (case left => first | omega | (simp only [List.length_append, List.length_cons, List.length_nil, List.length_drop, List.length_take, List.length_tail, List.length_dropLast, fs_length, ss_length, bs_length, ns_length]; omega)))
    apply round
    simp only [cor_l0_w, cor_l0', go_sem, reduceCtorEq, Nat.reduceEqDiff, reduceIte, Nat.reduceAdd, Nat.reduceSub, Nat.reduceLeDiff, Int.reduceToNat, Nat.reduceBEq]
    by_cases h : b = 0
    · subst h
      simp only [d1, w2, ne_f (show (0 : Int) = 0 from rfl), show Int.toNat 1 = 1 from rfl, List.getElem?_cons_zero, List.getElem?_cons_succ, go_sem, reduceCtorEq, Nat.reduceEqDiff, reduceIte, Nat.reduceAdd, Nat.reduceSub, Nat.reduceLeDiff, Int.reduceToNat, Nat.reduceBEq]
      repeat ((with_reducible apply And.intro); (case left => first | omega | (simp only [List.length_append, List.length_cons, List.length_nil, List.length_drop, List.length_take, List.length_tail, List.length_dropLast, fs_length, ss_length, bs_length, ns_length]; omega)))
      apply round
      simp only [cor_l0_w, cor_l0', go_sem, reduceCtorEq, Nat.reduceEqDiff, reduceIte, Nat.reduceAdd, Nat.reduceSub, Nat.reduceLeDiff, Int.reduceToNat, Nat.reduceBEq]
      simp only [d2, cor_k1_w, cor_k1', go_sem, reduceCtorEq, Nat.reduceEqDiff, reduceIte, Nat.reduceAdd, Nat.reduceSub, Nat.reduceLeDiff, Int.reduceToNat, Nat.reduceBEq]
      try rfl
    · simp only [d1, w2, ne_t h, show Int.toNat 1 = 1 from rfl, List.getElem?_cons_zero, List.getElem?_cons_succ, go_sem, reduceCtorEq, Nat.reduceEqDiff, reduceIte, Nat.reduceAdd, Nat.reduceSub, Nat.reduceLeDiff, Int.reduceToNat, Nat.reduceBEq]
      omega
  · simp only [if_neg h, d0, ne_t h, List.getElem?_cons_zero, Int.toNat_zero, go_sem, reduceCtorEq, Nat.reduceEqDiff, reduceIte, Nat.reduceAdd, Nat.reduceSub, Nat.reduceLeDiff, Int.reduceToNat, Nat.reduceBEq]
    omega
end Go.At
namespace Go.At
open Go Go.Ev Go.Proofs
set_option linter.unusedVariables false
set_option maxHeartbeats 4000000
set_option linter.unusedSimpArgs false
attribute [local go_sem] eqs implies_true List.map_cons List.map_nil kl klL roD roL Option.map_some Option.map_none Option.getD_some Option.getD_none binVal binObl unVal if_true if_false eq_self passA frnD resD content getH getR getW viaNot viaSlot viaBox viaDeep viaMem List.contains_cons List.contains_nil grabs peeks okCells isCell place cellsOf chunk elt List.headD_cons List.length_cons List.length_nil List.take_succ_cons List.take_zero List.drop_succ_cons List.drop_zero List.nil_append List.cons_append List.append_nil List.all_cons List.all_nil plainC takeR setW over reCell List.getElem?_cons_zero List.getElem?_cons_succ List.set_cons_zero List.take_length outV resG plainV pack outVG outBx List.set_cons_succ Ref.idx Ref.addOff beq_self_eq_true bxL Option.bind_some writeR isLit viaBoxes capsPA boxPA nsOf noDup boxesAt argG passG passD rhoIn rhoOut idxIn tr trL List.getD_cons_zero gives pasOf isPtr Ins.d List.getD_cons_succ resL frnL List.getLast?_nil frnL_fs roL_fs resL_fs passL_fs klL_fs trL_fs map_roD_fs fs_length
variable {m : Int}
def aover_t0' : CT := (.alt ⟨none, none, .store (.tmp 4 true) (.tmp 23 false) 3⟩ []
      .done .no)
def aover_t0 : CT := aover_t0'
theorem aover_t0_w (C : Kn) (K : St → Prop) (s : St) : vcT C aover_t0 s K = vcT C aover_t0' s K := nr rfl
def aover_t1' : CT := (.alt ⟨some (23, false), none, .buildP [(.lit (.int .i64 0)), (.lit (.int .i64 0)), (.lit (.int .i64 0))] [(0, 1, (.tmp 10 false)), (1, 1, (.tmp 16 false)), (2, 1, (.tmp 22 false))]⟩ []
      aover_t0 .no)
def aover_t1 : CT := aover_t1'
theorem aover_t1_w (C : Kn) (K : St → Prop) (s : St) : vcT C aover_t1 s K = vcT C aover_t1' s K := nr rfl
def aover_t2' : CT := (.alt ⟨some (22, false), none, .call 83 [.tmp 21 false]⟩ []
      aover_t1 .no)
def aover_t2 : CT := aover_t2'
theorem aover_t2_w (C : Kn) (K : St → Prop) (s : St) : vcT C aover_t2 s K = vcT C aover_t2' s K := nr rfl
def aover_t3' : CT := (.alt ⟨some (21, false), none, .buildS 1 2 [(.lit (.int .i64 0)), (.lit (.int .i64 0))] [(0, 1, (.tmp 18 false)), (1, 1, (.tmp 20 false))]⟩ [⟨some (5, false), none, .fad (.tmp 3 true) 0⟩,⟨some (6, false), none, .load (.tmp 5 false) 1 false false⟩,⟨some (7, false), none, .fad (.tmp 2 true) 0⟩,⟨some (8, false), none, .load (.tmp 7 false) 1 false false⟩,⟨some (11, false), none, .fad (.tmp 3 true) 1⟩,⟨some (12, false), none, .load (.tmp 11 false) 1 false false⟩,⟨some (13, false), none, .fad (.tmp 2 true) 1⟩,⟨some (14, false), none, .load (.tmp 13 false) 1 false false⟩]
      aover_t2 .no)
def aover_t3 : CT := aover_t3'
theorem aover_t3_w (C : Kn) (K : St → Prop) (s : St) : vcT C aover_t3 s K = vcT C aover_t3' s K := nr rfl
def aover_t4' : CT := (.alt ⟨some (16, false), none, .call 83 [.tmp 15 false]⟩ [⟨some (17, false), none, .fad (.tmp 3 true) 2⟩,⟨some (18, false), none, .load (.tmp 17 false) 1 false false⟩,⟨some (19, false), none, .fad (.tmp 2 true) 2⟩,⟨some (20, false), none, .load (.tmp 19 false) 1 false false⟩]
      aover_t2 .no)
def aover_t4 : CT := aover_t4'
theorem aover_t4_w (C : Kn) (K : St → Prop) (s : St) : vcT C aover_t4 s K = vcT C aover_t4' s K := nr rfl
def aover_t5' : CT := (.alt ⟨some (21, false), none, .buildS 1 2 [(.lit (.int .i64 0)), (.lit (.int .i64 0))] [(0, 1, (.tmp 18 false)), (1, 1, (.tmp 20 false))]⟩ [⟨some (5, false), none, .fad (.tmp 3 true) 0⟩,⟨some (6, false), none, .load (.tmp 5 false) 1 false false⟩,⟨some (7, false), none, .fad (.tmp 2 true) 0⟩,⟨some (8, false), none, .load (.tmp 7 false) 1 false false⟩,⟨some (11, false), none, .fad (.tmp 3 true) 1⟩,⟨some (12, false), none, .load (.tmp 11 false) 1 false false⟩,⟨some (13, false), none, .fad (.tmp 2 true) 1⟩,⟨some (14, false), none, .load (.tmp 13 false) 1 false false⟩]
      aover_t4 .no)
def aover_t5 : CT := aover_t5'
theorem aover_t5_w (C : Kn) (K : St → Prop) (s : St) : vcT C aover_t5 s K = vcT C aover_t5' s K := nr rfl
def aover_t6' : CT := (.alt ⟨some (16, false), none, .call 83 [.tmp 15 false]⟩ [⟨some (17, false), none, .fad (.tmp 3 true) 2⟩,⟨some (18, false), none, .load (.tmp 17 false) 1 false false⟩,⟨some (19, false), none, .fad (.tmp 2 true) 2⟩,⟨some (20, false), none, .load (.tmp 19 false) 1 false false⟩]
      aover_t3 aover_t5)
def aover_t6 : CT := aover_t6'
theorem aover_t6_w (C : Kn) (K : St → Prop) (s : St) : vcT C aover_t6 s K = vcT C aover_t6' s K := nr rfl
def aover_t7' : CT := (.alt ⟨some (15, false), none, .buildS 1 2 [(.lit (.int .i64 0)), (.lit (.int .i64 0))] [(0, 1, (.tmp 12 false)), (1, 1, (.tmp 14 false))]⟩ [⟨some (5, false), none, .fad (.tmp 3 true) 0⟩,⟨some (6, false), none, .load (.tmp 5 false) 1 false false⟩,⟨some (7, false), none, .fad (.tmp 2 true) 0⟩,⟨some (8, false), none, .load (.tmp 7 false) 1 false false⟩,⟨some (17, false), none, .fad (.tmp 3 true) 2⟩,⟨some (18, false), none, .load (.tmp 17 false) 1 false false⟩,⟨some (19, false), none, .fad (.tmp 2 true) 2⟩,⟨some (20, false), none, .load (.tmp 19 false) 1 false false⟩]
      aover_t4 .no)
def aover_t7 : CT := aover_t7'
theorem aover_t7_w (C : Kn) (K : St → Prop) (s : St) : vcT C aover_t7 s K = vcT C aover_t7' s K := nr rfl
def aover_t8' : CT := (.alt ⟨some (21, false), none, .buildS 1 2 [(.lit (.int .i64 0)), (.lit (.int .i64 0))] [(0, 1, (.tmp 18 false)), (1, 1, (.tmp 20 false))]⟩ [⟨some (5, false), none, .fad (.tmp 3 true) 0⟩,⟨some (6, false), none, .load (.tmp 5 false) 1 false false⟩,⟨some (7, false), none, .fad (.tmp 2 true) 0⟩,⟨some (8, false), none, .load (.tmp 7 false) 1 false false⟩,⟨some (11, false), none, .fad (.tmp 3 true) 1⟩,⟨some (12, false), none, .load (.tmp 11 false) 1 false false⟩,⟨some (13, false), none, .fad (.tmp 2 true) 1⟩,⟨some (14, false), none, .load (.tmp 13 false) 1 false false⟩]
      aover_t7 .no)
def aover_t8 : CT := aover_t8'
theorem aover_t8_w (C : Kn) (K : St → Prop) (s : St) : vcT C aover_t8 s K = vcT C aover_t8' s K := nr rfl
def aover_t9' : CT := (.alt ⟨some (15, false), none, .buildS 1 2 [(.lit (.int .i64 0)), (.lit (.int .i64 0))] [(0, 1, (.tmp 12 false)), (1, 1, (.tmp 14 false))]⟩ [⟨some (5, false), none, .fad (.tmp 3 true) 0⟩,⟨some (6, false), none, .load (.tmp 5 false) 1 false false⟩,⟨some (7, false), none, .fad (.tmp 2 true) 0⟩,⟨some (8, false), none, .load (.tmp 7 false) 1 false false⟩,⟨some (17, false), none, .fad (.tmp 3 true) 2⟩,⟨some (18, false), none, .load (.tmp 17 false) 1 false false⟩,⟨some (19, false), none, .fad (.tmp 2 true) 2⟩,⟨some (20, false), none, .load (.tmp 19 false) 1 false false⟩]
      aover_t6 aover_t8)
def aover_t9 : CT := aover_t9'
theorem aover_t9_w (C : Kn) (K : St → Prop) (s : St) : vcT C aover_t9 s K = vcT C aover_t9' s K := nr rfl
def aover_t10' : CT := (.alt ⟨some (10, false), none, .call 83 [.tmp 9 false]⟩ [⟨some (11, false), none, .fad (.tmp 3 true) 1⟩,⟨some (12, false), none, .load (.tmp 11 false) 1 false false⟩,⟨some (13, false), none, .fad (.tmp 2 true) 1⟩,⟨some (14, false), none, .load (.tmp 13 false) 1 false false⟩,⟨some (17, false), none, .fad (.tmp 3 true) 2⟩,⟨some (18, false), none, .load (.tmp 17 false) 1 false false⟩,⟨some (19, false), none, .fad (.tmp 2 true) 2⟩,⟨some (20, false), none, .load (.tmp 19 false) 1 false false⟩]
      aover_t4 .no)
def aover_t10 : CT := aover_t10'
theorem aover_t10_w (C : Kn) (K : St → Prop) (s : St) : vcT C aover_t10 s K = vcT C aover_t10' s K := nr rfl
def aover_t11' : CT := (.alt ⟨some (21, false), none, .buildS 1 2 [(.lit (.int .i64 0)), (.lit (.int .i64 0))] [(0, 1, (.tmp 18 false)), (1, 1, (.tmp 20 false))]⟩ [⟨some (5, false), none, .fad (.tmp 3 true) 0⟩,⟨some (6, false), none, .load (.tmp 5 false) 1 false false⟩,⟨some (7, false), none, .fad (.tmp 2 true) 0⟩,⟨some (8, false), none, .load (.tmp 7 false) 1 false false⟩,⟨some (11, false), none, .fad (.tmp 3 true) 1⟩,⟨some (12, false), none, .load (.tmp 11 false) 1 false false⟩,⟨some (13, false), none, .fad (.tmp 2 true) 1⟩,⟨some (14, false), none, .load (.tmp 13 false) 1 false false⟩]
      aover_t10 .no)
def aover_t11 : CT := aover_t11'
theorem aover_t11_w (C : Kn) (K : St → Prop) (s : St) : vcT C aover_t11 s K = vcT C aover_t11' s K := nr rfl
def aover_t12' : CT := (.alt ⟨some (10, false), none, .call 83 [.tmp 9 false]⟩ [⟨some (11, false), none, .fad (.tmp 3 true) 1⟩,⟨some (12, false), none, .load (.tmp 11 false) 1 false false⟩,⟨some (13, false), none, .fad (.tmp 2 true) 1⟩,⟨some (14, false), none, .load (.tmp 13 false) 1 false false⟩,⟨some (17, false), none, .fad (.tmp 3 true) 2⟩,⟨some (18, false), none, .load (.tmp 17 false) 1 false false⟩,⟨some (19, false), none, .fad (.tmp 2 true) 2⟩,⟨some (20, false), none, .load (.tmp 19 false) 1 false false⟩]
      aover_t6 aover_t11)
def aover_t12 : CT := aover_t12'
theorem aover_t12_w (C : Kn) (K : St → Prop) (s : St) : vcT C aover_t12 s K = vcT C aover_t12' s K := nr rfl
def aover_t13' : CT := (.alt ⟨some (15, false), none, .buildS 1 2 [(.lit (.int .i64 0)), (.lit (.int .i64 0))] [(0, 1, (.tmp 12 false)), (1, 1, (.tmp 14 false))]⟩ [⟨some (5, false), none, .fad (.tmp 3 true) 0⟩,⟨some (6, false), none, .load (.tmp 5 false) 1 false false⟩,⟨some (7, false), none, .fad (.tmp 2 true) 0⟩,⟨some (8, false), none, .load (.tmp 7 false) 1 false false⟩,⟨some (17, false), none, .fad (.tmp 3 true) 2⟩,⟨some (18, false), none, .load (.tmp 17 false) 1 false false⟩,⟨some (19, false), none, .fad (.tmp 2 true) 2⟩,⟨some (20, false), none, .load (.tmp 19 false) 1 false false⟩]
      aover_t10 .no)
def aover_t13 : CT := aover_t13'
theorem aover_t13_w (C : Kn) (K : St → Prop) (s : St) : vcT C aover_t13 s K = vcT C aover_t13' s K := nr rfl
def aover_t14' : CT := (.alt ⟨some (10, false), none, .call 83 [.tmp 9 false]⟩ [⟨some (11, false), none, .fad (.tmp 3 true) 1⟩,⟨some (12, false), none, .load (.tmp 11 false) 1 false false⟩,⟨some (13, false), none, .fad (.tmp 2 true) 1⟩,⟨some (14, false), none, .load (.tmp 13 false) 1 false false⟩,⟨some (17, false), none, .fad (.tmp 3 true) 2⟩,⟨some (18, false), none, .load (.tmp 17 false) 1 false false⟩,⟨some (19, false), none, .fad (.tmp 2 true) 2⟩,⟨some (20, false), none, .load (.tmp 19 false) 1 false false⟩]
      aover_t7 aover_t13)
def aover_t14 : CT := aover_t14'
theorem aover_t14_w (C : Kn) (K : St → Prop) (s : St) : vcT C aover_t14 s K = vcT C aover_t14' s K := nr rfl
def aover_t15' : CT := (.alt ⟨some (21, false), none, .buildS 1 2 [(.lit (.int .i64 0)), (.lit (.int .i64 0))] [(0, 1, (.tmp 18 false)), (1, 1, (.tmp 20 false))]⟩ [⟨some (5, false), none, .fad (.tmp 3 true) 0⟩,⟨some (6, false), none, .load (.tmp 5 false) 1 false false⟩,⟨some (7, false), none, .fad (.tmp 2 true) 0⟩,⟨some (8, false), none, .load (.tmp 7 false) 1 false false⟩,⟨some (11, false), none, .fad (.tmp 3 true) 1⟩,⟨some (12, false), none, .load (.tmp 11 false) 1 false false⟩,⟨some (13, false), none, .fad (.tmp 2 true) 1⟩,⟨some (14, false), none, .load (.tmp 13 false) 1 false false⟩]
      aover_t14 .no)
def aover_t15 : CT := aover_t15'
theorem aover_t15_w (C : Kn) (K : St → Prop) (s : St) : vcT C aover_t15 s K = vcT C aover_t15' s K := nr rfl
def aover_t16' : CT := (.alt ⟨some (15, false), none, .buildS 1 2 [(.lit (.int .i64 0)), (.lit (.int .i64 0))] [(0, 1, (.tmp 12 false)), (1, 1, (.tmp 14 false))]⟩ [⟨some (5, false), none, .fad (.tmp 3 true) 0⟩,⟨some (6, false), none, .load (.tmp 5 false) 1 false false⟩,⟨some (7, false), none, .fad (.tmp 2 true) 0⟩,⟨some (8, false), none, .load (.tmp 7 false) 1 false false⟩,⟨some (17, false), none, .fad (.tmp 3 true) 2⟩,⟨some (18, false), none, .load (.tmp 17 false) 1 false false⟩,⟨some (19, false), none, .fad (.tmp 2 true) 2⟩,⟨some (20, false), none, .load (.tmp 19 false) 1 false false⟩]
      aover_t12 aover_t15)
def aover_t16 : CT := aover_t16'
theorem aover_t16_w (C : Kn) (K : St → Prop) (s : St) : vcT C aover_t16 s K = vcT C aover_t16' s K := nr rfl
def aover_t17' : CT := (.alt ⟨some (10, false), none, .call 83 [.tmp 9 false]⟩ [⟨some (11, false), none, .fad (.tmp 3 true) 1⟩,⟨some (12, false), none, .load (.tmp 11 false) 1 false false⟩,⟨some (13, false), none, .fad (.tmp 2 true) 1⟩,⟨some (14, false), none, .load (.tmp 13 false) 1 false false⟩,⟨some (17, false), none, .fad (.tmp 3 true) 2⟩,⟨some (18, false), none, .load (.tmp 17 false) 1 false false⟩,⟨some (19, false), none, .fad (.tmp 2 true) 2⟩,⟨some (20, false), none, .load (.tmp 19 false) 1 false false⟩]
      aover_t9 aover_t16)
def aover_t17 : CT := aover_t17'
theorem aover_t17_w (C : Kn) (K : St → Prop) (s : St) : vcT C aover_t17 s K = vcT C aover_t17' s K := nr rfl
def aover_t18' : CT := (.alt ⟨some (9, false), none, .buildS 1 2 [(.lit (.int .i64 0)), (.lit (.int .i64 0))] [(0, 1, (.tmp 6 false)), (1, 1, (.tmp 8 false))]⟩ [⟨some (11, false), none, .fad (.tmp 3 true) 1⟩,⟨some (12, false), none, .load (.tmp 11 false) 1 false false⟩,⟨some (13, false), none, .fad (.tmp 2 true) 1⟩,⟨some (14, false), none, .load (.tmp 13 false) 1 false false⟩,⟨some (17, false), none, .fad (.tmp 3 true) 2⟩,⟨some (18, false), none, .load (.tmp 17 false) 1 false false⟩,⟨some (19, false), none, .fad (.tmp 2 true) 2⟩,⟨some (20, false), none, .load (.tmp 19 false) 1 false false⟩]
      aover_t10 .no)
def aover_t18 : CT := aover_t18'
theorem aover_t18_w (C : Kn) (K : St → Prop) (s : St) : vcT C aover_t18 s K = vcT C aover_t18' s K := nr rfl
def aover_t19' : CT := (.alt ⟨some (21, false), none, .buildS 1 2 [(.lit (.int .i64 0)), (.lit (.int .i64 0))] [(0, 1, (.tmp 18 false)), (1, 1, (.tmp 20 false))]⟩ [⟨some (5, false), none, .fad (.tmp 3 true) 0⟩,⟨some (6, false), none, .load (.tmp 5 false) 1 false false⟩,⟨some (7, false), none, .fad (.tmp 2 true) 0⟩,⟨some (8, false), none, .load (.tmp 7 false) 1 false false⟩,⟨some (11, false), none, .fad (.tmp 3 true) 1⟩,⟨some (12, false), none, .load (.tmp 11 false) 1 false false⟩,⟨some (13, false), none, .fad (.tmp 2 true) 1⟩,⟨some (14, false), none, .load (.tmp 13 false) 1 false false⟩]
      aover_t18 .no)
def aover_t19 : CT := aover_t19'
theorem aover_t19_w (C : Kn) (K : St → Prop) (s : St) : vcT C aover_t19 s K = vcT C aover_t19' s K := nr rfl
def aover_t20' : CT := (.alt ⟨some (9, false), none, .buildS 1 2 [(.lit (.int .i64 0)), (.lit (.int .i64 0))] [(0, 1, (.tmp 6 false)), (1, 1, (.tmp 8 false))]⟩ [⟨some (11, false), none, .fad (.tmp 3 true) 1⟩,⟨some (12, false), none, .load (.tmp 11 false) 1 false false⟩,⟨some (13, false), none, .fad (.tmp 2 true) 1⟩,⟨some (14, false), none, .load (.tmp 13 false) 1 false false⟩,⟨some (17, false), none, .fad (.tmp 3 true) 2⟩,⟨some (18, false), none, .load (.tmp 17 false) 1 false false⟩,⟨some (19, false), none, .fad (.tmp 2 true) 2⟩,⟨some (20, false), none, .load (.tmp 19 false) 1 false false⟩]
      aover_t12 aover_t19)
def aover_t20 : CT := aover_t20'
theorem aover_t20_w (C : Kn) (K : St → Prop) (s : St) : vcT C aover_t20 s K = vcT C aover_t20' s K := nr rfl
def aover_t21' : CT := (.alt ⟨some (15, false), none, .buildS 1 2 [(.lit (.int .i64 0)), (.lit (.int .i64 0))] [(0, 1, (.tmp 12 false)), (1, 1, (.tmp 14 false))]⟩ [⟨some (5, false), none, .fad (.tmp 3 true) 0⟩,⟨some (6, false), none, .load (.tmp 5 false) 1 false false⟩,⟨some (7, false), none, .fad (.tmp 2 true) 0⟩,⟨some (8, false), none, .load (.tmp 7 false) 1 false false⟩,⟨some (17, false), none, .fad (.tmp 3 true) 2⟩,⟨some (18, false), none, .load (.tmp 17 false) 1 false false⟩,⟨some (19, false), none, .fad (.tmp 2 true) 2⟩,⟨some (20, false), none, .load (.tmp 19 false) 1 false false⟩]
      aover_t18 .no)
def aover_t21 : CT := aover_t21'
theorem aover_t21_w (C : Kn) (K : St → Prop) (s : St) : vcT C aover_t21 s K = vcT C aover_t21' s K := nr rfl
def aover_t22' : CT := (.alt ⟨some (9, false), none, .buildS 1 2 [(.lit (.int .i64 0)), (.lit (.int .i64 0))] [(0, 1, (.tmp 6 false)), (1, 1, (.tmp 8 false))]⟩ [⟨some (11, false), none, .fad (.tmp 3 true) 1⟩,⟨some (12, false), none, .load (.tmp 11 false) 1 false false⟩,⟨some (13, false), none, .fad (.tmp 2 true) 1⟩,⟨some (14, false), none, .load (.tmp 13 false) 1 false false⟩,⟨some (17, false), none, .fad (.tmp 3 true) 2⟩,⟨some (18, false), none, .load (.tmp 17 false) 1 false false⟩,⟨some (19, false), none, .fad (.tmp 2 true) 2⟩,⟨some (20, false), none, .load (.tmp 19 false) 1 false false⟩]
      aover_t14 aover_t21)
def aover_t22 : CT := aover_t22'
theorem aover_t22_w (C : Kn) (K : St → Prop) (s : St) : vcT C aover_t22 s K = vcT C aover_t22' s K := nr rfl
def aover_t23' : CT := (.alt ⟨some (21, false), none, .buildS 1 2 [(.lit (.int .i64 0)), (.lit (.int .i64 0))] [(0, 1, (.tmp 18 false)), (1, 1, (.tmp 20 false))]⟩ [⟨some (5, false), none, .fad (.tmp 3 true) 0⟩,⟨some (6, false), none, .load (.tmp 5 false) 1 false false⟩,⟨some (7, false), none, .fad (.tmp 2 true) 0⟩,⟨some (8, false), none, .load (.tmp 7 false) 1 false false⟩,⟨some (11, false), none, .fad (.tmp 3 true) 1⟩,⟨some (12, false), none, .load (.tmp 11 false) 1 false false⟩,⟨some (13, false), none, .fad (.tmp 2 true) 1⟩,⟨some (14, false), none, .load (.tmp 13 false) 1 false false⟩]
      aover_t22 .no)
def aover_t23 : CT := aover_t23'
theorem aover_t23_w (C : Kn) (K : St → Prop) (s : St) : vcT C aover_t23 s K = vcT C aover_t23' s K := nr rfl
def aover_t24' : CT := (.alt ⟨some (15, false), none, .buildS 1 2 [(.lit (.int .i64 0)), (.lit (.int .i64 0))] [(0, 1, (.tmp 12 false)), (1, 1, (.tmp 14 false))]⟩ [⟨some (5, false), none, .fad (.tmp 3 true) 0⟩,⟨some (6, false), none, .load (.tmp 5 false) 1 false false⟩,⟨some (7, false), none, .fad (.tmp 2 true) 0⟩,⟨some (8, false), none, .load (.tmp 7 false) 1 false false⟩,⟨some (17, false), none, .fad (.tmp 3 true) 2⟩,⟨some (18, false), none, .load (.tmp 17 false) 1 false false⟩,⟨some (19, false), none, .fad (.tmp 2 true) 2⟩,⟨some (20, false), none, .load (.tmp 19 false) 1 false false⟩]
      aover_t20 aover_t23)
def aover_t24 : CT := aover_t24'
theorem aover_t24_w (C : Kn) (K : St → Prop) (s : St) : vcT C aover_t24 s K = vcT C aover_t24' s K := nr rfl
def aover_t25' : CT := (.alt ⟨some (9, false), none, .buildS 1 2 [(.lit (.int .i64 0)), (.lit (.int .i64 0))] [(0, 1, (.tmp 6 false)), (1, 1, (.tmp 8 false))]⟩ [⟨some (11, false), none, .fad (.tmp 3 true) 1⟩,⟨some (12, false), none, .load (.tmp 11 false) 1 false false⟩,⟨some (13, false), none, .fad (.tmp 2 true) 1⟩,⟨some (14, false), none, .load (.tmp 13 false) 1 false false⟩,⟨some (17, false), none, .fad (.tmp 3 true) 2⟩,⟨some (18, false), none, .load (.tmp 17 false) 1 false false⟩,⟨some (19, false), none, .fad (.tmp 2 true) 2⟩,⟨some (20, false), none, .load (.tmp 19 false) 1 false false⟩]
      aover_t17 aover_t24)
def aover_t25 : CT := aover_t25'
theorem aover_t25_w (C : Kn) (K : St → Prop) (s : St) : vcT C aover_t25 s K = vcT C aover_t25' s K := nr rfl
def aover_k0' : AC := .ret
def aover_k0 : AC := aover_k0'
theorem aover_k0_w (C : Kn) (K : Ex → St → Prop) (s : St) : vcC C aover_k0 K s = vcC C aover_k0' K s := nr rfl
def aover : AF := ⟨.seq (.reg (.seq [⟨some (2, true), none, .box (.tmp 0 true)⟩,⟨some (3, true), none, .box (.tmp 1 true)⟩,⟨some (4, true), none, .new [(.lit (.int .i64 0)), (.lit (.int .i64 0)), (.lit (.int .i64 0))]⟩])) [2, 3, 4] [2, 3, 4]
  (.seq (.reg (.draw [⟨some (5, false), none, .fad (.tmp 3 true) 0⟩,⟨some (6, false), none, .load (.tmp 5 false) 1 false false⟩,⟨some (7, false), none, .fad (.tmp 2 true) 0⟩,⟨some (8, false), none, .load (.tmp 7 false) 1 false false⟩,⟨some (11, false), none, .fad (.tmp 3 true) 1⟩,⟨some (12, false), none, .load (.tmp 11 false) 1 false false⟩,⟨some (13, false), none, .fad (.tmp 2 true) 1⟩,⟨some (14, false), none, .load (.tmp 13 false) 1 false false⟩,⟨some (17, false), none, .fad (.tmp 3 true) 2⟩,⟨some (18, false), none, .load (.tmp 17 false) 1 false false⟩,⟨some (19, false), none, .fad (.tmp 2 true) 2⟩,⟨some (20, false), none, .load (.tmp 19 false) 1 false false⟩] aover_t25)) [4] [4] aover_k0),
  [.cell 4 3 true]⟩
theorem aover_comp (m : Int) : compF Tryd.prog (gl m) [] Tryd.f47 = some aover := by kernel_rfl
theorem aover_snd (a b : Att) : Snd Tryd.prog (gl m) 47 [attT a, attT b] (attT (over a b)) := by
  refine snd_of (fn := Tryd.f47) (af := aover) Tryd.func47 (aover_comp m) mixed (kn_ok m) (Nat.le_of_ble_eq_true rfl) ?_
  rw [aover]
  simp only [attT, go_sem, reduceCtorEq, Nat.reduceEqDiff, reduceIte, Nat.reduceAdd, Nat.reduceSub, Nat.reduceLeDiff, Int.reduceToNat, Nat.reduceBEq]
  repeat' first | exact True.intro | rfl | omega | with_reducible apply And.intro | refine of_call (cor_snd _ _) ?_ | simp only [aover_t0_w, aover_t0', aover_t1_w, aover_t1', aover_t2_w, aover_t2', aover_t3_w, aover_t3', aover_t4_w, aover_t4', aover_t5_w, aover_t5', aover_t6_w, aover_t6', aover_t7_w, aover_t7', aover_t8_w, aover_t8', aover_t9_w, aover_t9', aover_t10_w, aover_t10', aover_t11_w, aover_t11', aover_t12_w, aover_t12', aover_t13_w, aover_t13', aover_t14_w, aover_t14', aover_t15_w, aover_t15', aover_t16_w, aover_t16', aover_t17_w, aover_t17', aover_t18_w, aover_t18', aover_t19_w, aover_t19', aover_t20_w, aover_t20', aover_t21_w, aover_t21', aover_t22_w, aover_t22', aover_t23_w, aover_t23', aover_t24_w, aover_t24', aover_t25_w, aover_t25', aover_k0_w, aover_k0', go_sem, reduceCtorEq, Nat.reduceEqDiff, reduceIte, Nat.reduceAdd, Nat.reduceSub, Nat.reduceLeDiff, Int.reduceToNat, Nat.reduceBEq]
  all_goals trace_state
end Go.At

