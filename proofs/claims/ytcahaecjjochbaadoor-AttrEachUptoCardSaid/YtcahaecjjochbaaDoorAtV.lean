import Derived.Test.YtcahaecjjochbaaDoorAtU
import Derived.Test.YtcahaecjjochbaaDoorEvC
import Derived.Test.YtcahaecjjochbaaDoorAtA
import Derived.LaidSub
import Derived.Test.YtcahaecjjochbaaDoorCards
import Derived.Test.YtcahaecjjochbaaDoorTie
import Derived.WalkKit
import Derived.ProofKit
import Derived.OpenShut
import Derived.Deep.DeepHandedRow
import Derived.Deep.DeepWitnessRowRef
import Derived.Lib.LaidIn
import Derived.Lib.LaidU8
import Derived.Shelf.Vars
set_option linter.unusedVariables false
set_option linter.unusedSimpArgs false
/- Attributes: what is asked of a path: the laws' own functions (Asks, Below, Each). -/
namespace Go.At
open Go Go.Ev Go.Proofs
open Go.Ln (u8b_t u8b_f lines lines_len line_len lf crlf binary)
open Go.Gb (isPath isPat matchF ris_snd)
set_option linter.unusedVariables false
set_option linter.unusedSimpArgs false
set_option maxHeartbeats 2000000
attribute [local go_sem] eqs implies_true List.map_cons List.map_nil kl klL roD roL Option.map_some Option.map_none Option.getD_some Option.getD_none binVal binObl unVal if_true if_false eq_self passA frnD resD content getH getR getW viaNot viaSlot viaBox viaDeep viaMem List.contains_cons List.contains_nil grabs peeks okCells isCell place cellsOf chunk elt List.headD_cons List.length_cons List.length_nil List.take_succ_cons List.take_zero List.drop_succ_cons List.drop_zero List.nil_append List.cons_append List.append_nil List.all_cons List.all_nil plainC takeR setW over reCell List.getElem?_cons_zero List.getElem?_cons_succ List.set_cons_zero List.take_length outV resG plainV pack outVG outBx List.set_cons_succ Ref.idx Ref.addOff beq_self_eq_true bxL Option.bind_some writeR isLit viaBoxes capsPA boxPA nsOf noDup boxesAt argG passG passD rhoIn rhoOut idxIn tr trL List.getD_cons_zero gives pasOf isPtr Ins.d List.getD_cons_succ resL frnL List.getLast?_nil List.getLast?_singleton List.dropLast_singleton List.nil_append frnL_fs roL_fs resL_fs passL_fs klL_fs trL_fs map_roD_fs fs_length
variable {m : Int}
def lwEach_k0' : AC := .cond (.tmp 25 false)
    (.seq (.reg (.seq [⟨some (26, false), none, .call 15 []⟩,⟨some (6, true), none, .mov (.tmp 26 false) .asg⟩])) [6] []
    (.ret))
    (.skip)
def lwEach_k0 : AC := lwEach_k0'
theorem lwEach_k0_w (C : Kn) (K : Ex → St → Prop) (s : St) : vcC C lwEach_k0 K s = vcC C lwEach_k0' K s := nr rfl
def lwEach_k1' : AC := .seq (.block 1 (.seq (.reg (.seq [⟨some (36, false), none, .mov (.tmp 34 true) .take⟩,⟨some (9, true), none, .mov (.tmp 36 false) .asg⟩])) [0, 1, 2, 7, 8, 9, 33, 34] []
    (.reg (.seq [⟨some (37, false), none, .mov (.tmp 7 true) .peek⟩,⟨some (38, false), none, .mov (.tmp 37 false) .peek⟩,⟨some (39, false), (some (38, true)), .mov (.tmp 8 true) .peek⟩,⟨some (40, false), (some (38, true)), .mov (.tmp 9 true) .peek⟩,⟨some (41, false), (some (38, true)), .iad (.tmp 39 false) (.tmp 40 false) 5⟩,⟨some (42, false), (some (38, true)), .fad (.tmp 41 false) 1⟩,⟨some (43, false), (some (38, true)), .load (.tmp 42 false) 1 false false⟩,⟨some (44, false), (some (38, true)), .bin .eql (.tmp 43 false) (.cst (.string (str [])) (.lit (.string (str []))))⟩,⟨some (45, false), (some (38, true)), .mov (.tmp 44 false) .peek⟩,⟨some (46, false), (some (45, false)), .mov (.tmp 8 true) .peek⟩,⟨some (47, false), (some (45, false)), .mov (.tmp 9 true) .peek⟩,⟨some (48, false), (some (45, false)), .iad (.tmp 46 false) (.tmp 47 false) 5⟩,⟨some (49, false), (some (45, false)), .fad (.tmp 48 false) 1⟩,⟨some (50, false), (some (45, false)), .load (.tmp 49 false) 1 false false⟩,⟨some (51, false), (some (45, false)), .call 14 [.tmp 50 false]⟩,⟨some (52, false), (some (38, true)), .pick (.tmp 45 false) (.cst (.bool true) (.lit (.bool true))) (.tmp 51 false)⟩,⟨some (53, false), none, .pick (.tmp 38 false) (.tmp 52 false) (.cst (.bool false) (.lit (.bool false)))⟩,⟨some (54, false), none, .mov (.tmp 53 false) .peek⟩,⟨some (55, false), (some (54, true)), .mov (.tmp 8 true) .peek⟩,⟨some (56, false), (some (54, true)), .mov (.tmp 9 true) .peek⟩,⟨some (57, false), (some (54, true)), .iad (.tmp 55 false) (.tmp 56 false) 5⟩,⟨some (58, false), (some (54, true)), .fad (.tmp 57 false) 2⟩,⟨some (59, false), (some (54, true)), .load (.tmp 58 false) 3 true false⟩,⟨some (60, false), (some (54, true)), .call 24 [.tmp 59 false]⟩,⟨some (61, false), none, .pick (.tmp 54 false) (.tmp 60 false) (.cst (.bool false) (.lit (.bool false)))⟩,⟨some (7, true), none, .mov (.tmp 61 false) .asg⟩])))) [0, 1, 2, 7, 8, 33, 34] []
  (.reg (.seq [⟨some (62, false), none, .bin .add (.tmp 34 true) (.cst (.int .i64 1) (.lit (.int .i64 1)))⟩,⟨some (34, true), none, .mov (.tmp 62 false) .peek⟩]))
def lwEach_k1 : AC := lwEach_k1'
theorem lwEach_k1_w (C : Kn) (K : Ex → St → Prop) (s : St) : vcC C lwEach_k1 K s = vcC C lwEach_k1' K s := nr rfl
def lwEach_l2' : AC := .seq (.reg (.seq [⟨some (35, false), none, .bin .lss (.tmp 34 true) (.tmp 33 true)⟩])) [0, 1, 2, 7, 8, 33, 34, 35] []
  (.seq (.cond (.tmp 35 false)
    (.skip)
    (.exit 0)) [0, 1, 2, 7, 8, 33, 34] [] lwEach_k1)
def lwEach_l2 : AC := lwEach_l2'
theorem lwEach_l2_w (C : Kn) (K : Ex → St → Prop) (s : St) : vcC C lwEach_l2 K s = vcC C lwEach_l2' K s := nr rfl
def lwEach_k3' : AC := .seq (.reg (.seq [⟨some (93, false), none, .load (.tmp 12 true) 3 true false⟩,⟨some (94, false), none, .load (.tmp 10 true) 3 true false⟩,⟨some (95, false), none, .eqS [0, 0, 0] false (.tmp 93 false) (.tmp 94 false)⟩,⟨some (96, false), none, .mov (.tmp 95 false) .peek⟩,⟨some (97, false), (some (96, true)), .load (.tmp 12 true) 3 true false⟩,⟨some (98, false), (some (96, true)), .call 24 [.tmp 97 false]⟩,⟨some (99, false), none, .pick (.tmp 96 false) (.tmp 98 false) (.cst (.bool false) (.lit (.bool false)))⟩,⟨some (100, false), none, .mov (.tmp 99 false) .peek⟩,⟨some (101, false), (some (100, true)), .call 15 []⟩,⟨some (102, false), none, .pick (.tmp 100 false) (.tmp 101 false) (.cst (.bool false) (.lit (.bool false)))⟩,⟨some (6, true), none, .mov (.tmp 102 false) .asg⟩])) [6] []
  (.ret)
def lwEach_k3 : AC := lwEach_k3'
theorem lwEach_k3_w (C : Kn) (K : Ex → St → Prop) (s : St) : vcC C lwEach_k3 K s = vcC C lwEach_k3' K s := nr rfl
def lwEach_k4' : AC := .seq (.seq (.reg (.seq [⟨some (87, false), none, .fad (.tmp 11 true) 2⟩,⟨some (88, false), none, .load (.tmp 87 false) 1 false false⟩,⟨some (89, false), none, .bin .neq (.tmp 88 false) (.cst (.int .i64 0) (.lit (.int .i64 0)))⟩])) [10, 11, 12, 89] [10, 11, 12]
  (.cond (.tmp 89 false)
    (.reg (.seq [⟨some (90, false), none, .fad (.tmp 11 true) 2⟩,⟨some (91, false), none, .load (.tmp 90 false) 1 false true⟩,⟨some (92, false), none, .fad (.tmp 10 true) 2⟩,⟨none, none, .store (.tmp 92 false) (.tmp 91 false) 1⟩]))
    (.skip))) [10, 12] [10, 12] lwEach_k3
def lwEach_k4 : AC := lwEach_k4'
theorem lwEach_k4_w (C : Kn) (K : Ex → St → Prop) (s : St) : vcC C lwEach_k4 K s = vcC C lwEach_k4' K s := nr rfl
def lwEach_k5' : AC := .seq (.seq (.reg (.seq [⟨some (81, false), none, .fad (.tmp 11 true) 1⟩,⟨some (82, false), none, .load (.tmp 81 false) 1 false false⟩,⟨some (83, false), none, .bin .neq (.tmp 82 false) (.cst (.int .i64 0) (.lit (.int .i64 0)))⟩])) [10, 11, 12, 83] [10, 11, 12]
  (.cond (.tmp 83 false)
    (.reg (.seq [⟨some (84, false), none, .fad (.tmp 11 true) 1⟩,⟨some (85, false), none, .load (.tmp 84 false) 1 false true⟩,⟨some (86, false), none, .fad (.tmp 10 true) 1⟩,⟨none, none, .store (.tmp 86 false) (.tmp 85 false) 1⟩]))
    (.skip))) [10, 11, 12] [10, 11, 12] lwEach_k4
def lwEach_k5 : AC := lwEach_k5'
theorem lwEach_k5_w (C : Kn) (K : Ex → St → Prop) (s : St) : vcC C lwEach_k5 K s = vcC C lwEach_k5' K s := nr rfl
def lwEach_k6' : AC := .seq (.seq (.reg (.seq [⟨some (75, false), none, .fad (.tmp 11 true) 0⟩,⟨some (76, false), none, .load (.tmp 75 false) 1 false false⟩,⟨some (77, false), none, .bin .neq (.tmp 76 false) (.cst (.int .i64 0) (.lit (.int .i64 0)))⟩])) [10, 11, 12, 77] [10, 11, 12]
  (.cond (.tmp 77 false)
    (.reg (.seq [⟨some (78, false), none, .fad (.tmp 11 true) 0⟩,⟨some (79, false), none, .load (.tmp 78 false) 1 false true⟩,⟨some (80, false), none, .fad (.tmp 10 true) 0⟩,⟨none, none, .store (.tmp 80 false) (.tmp 79 false) 1⟩]))
    (.skip))) [10, 11, 12] [10, 11, 12] lwEach_k5
def lwEach_k6 : AC := lwEach_k6'
theorem lwEach_k6_w (C : Kn) (K : Ex → St → Prop) (s : St) : vcC C lwEach_k6 K s = vcC C lwEach_k6' K s := nr rfl
def lwEach_k7' : AC := .seq (.reg (.seq [⟨some (66, false), none, .mov (.tmp 0 true) .peek⟩,⟨some (67, false), none, .mov (.tmp 2 true) .peek⟩,⟨some (68, false), none, .call 16 [.tmp 66 false, .tmp 67 false]⟩,⟨some (69, false), none, .mov (.tmp 1 true) .peek⟩,⟨some (70, false), none, .mov (.tmp 2 true) .peek⟩,⟨some (71, false), none, .call 16 [.tmp 69 false, .tmp 70 false]⟩,⟨some (72, false), none, .mov (.tmp 8 true) .peek⟩,⟨some (73, false), none, .mov (.tmp 2 true) .peek⟩,⟨some (74, false), none, .call 16 [.tmp 72 false, .tmp 73 false]⟩,⟨some (10, true), none, .new [(.lit (.int .i64 0)), (.lit (.int .i64 0)), (.lit (.int .i64 0))]⟩,⟨some (11, true), none, .new [(.lit (.int .i64 0)), (.lit (.int .i64 0)), (.lit (.int .i64 0))]⟩,⟨some (12, true), none, .new [(.lit (.int .i64 0)), (.lit (.int .i64 0)), (.lit (.int .i64 0))]⟩,⟨none, none, .store (.tmp 10 true) (.tmp 68 false) 3⟩,⟨none, none, .store (.tmp 11 true) (.tmp 71 false) 3⟩,⟨none, none, .store (.tmp 12 true) (.tmp 74 false) 3⟩])) [10, 11, 12] [10, 11, 12] lwEach_k6
def lwEach_k7 : AC := lwEach_k7'
theorem lwEach_k7_w (C : Kn) (K : Ex → St → Prop) (s : St) : vcC C lwEach_k7 K s = vcC C lwEach_k7' K s := nr rfl
def lwEach_k8' : AC := .seq (.seq (.reg (.seq [⟨some (63, false), none, .mov (.tmp 7 true) .peek⟩,⟨some (64, false), none, .un .not (.tmp 63 false)⟩])) [0, 1, 2, 8, 64] []
  (.cond (.tmp 64 false)
    (.seq (.reg (.seq [⟨some (65, false), none, .call 15 []⟩,⟨some (6, true), none, .mov (.tmp 65 false) .asg⟩])) [6] []
    (.ret))
    (.skip))) [0, 1, 2, 8] [] lwEach_k7
def lwEach_k8 : AC := lwEach_k8'
theorem lwEach_k8_w (C : Kn) (K : Ex → St → Prop) (s : St) : vcC C lwEach_k8 K s = vcC C lwEach_k8' K s := nr rfl
def lwEach_k9' : AC := .seq (.reg (.seq [⟨some (7, true), none, .mov (.cst (.bool true) (.lit (.bool true))) .asg⟩])) [0, 1, 2, 7] []
  (.seq (.reg (.seq [⟨some (27, false), none, .buildS 5 0 [] []⟩,⟨some (28, false), none, .mov (.tmp 0 true) .peek⟩,⟨some (29, false), none, .app 5 56 (.tmp 27 false) (.tmp 28 false)⟩,⟨some (30, false), none, .mov (.tmp 1 true) .peek⟩,⟨some (31, false), none, .app 5 56 (.tmp 29 false) (.tmp 30 false)⟩,⟨some (8, true), none, .mov (.tmp 31 false) .asg⟩])) [0, 1, 2, 7, 8] []
  (.seq (.seq (.reg (.seq [⟨some (32, false), none, .mov (.tmp 8 true) .peek⟩,⟨some (33, true), none, .lenL (.tmp 32 false)⟩,⟨some (34, true), none, .mov (.cst (.int .i64 0) (.lit (.int .i64 0))) .peek⟩])) [0, 1, 2, 7, 8, 33, 34] []
  (.block 0 (.loop [0, 1, 2, 7, 8, 33, 34] [] lwEach_l2))) [0, 1, 2, 7, 8] [] lwEach_k8))
def lwEach_k9 : AC := lwEach_k9'
theorem lwEach_k9_w (C : Kn) (K : Ex → St → Prop) (s : St) : vcC C lwEach_k9 K s = vcC C lwEach_k9' K s := nr rfl
def lwEach : AF := ⟨.seq (.reg (.seq [⟨some (6, true), none, .mov (.cst (.bool false) (.lit (.bool false))) .asg⟩])) [0, 1, 2] []
  (.seq (.seq (.reg (.seq [⟨some (13, false), none, .mov (.tmp 0 true) .peek⟩,⟨some (14, false), none, .call 13 [.tmp 13 false]⟩,⟨some (15, false), none, .un .not (.tmp 14 false)⟩,⟨some (16, false), none, .mov (.tmp 15 false) .peek⟩,⟨some (17, false), (some (16, false)), .mov (.tmp 1 true) .peek⟩,⟨some (18, false), (some (16, false)), .call 13 [.tmp 17 false]⟩,⟨some (19, false), (some (16, false)), .un .not (.tmp 18 false)⟩,⟨some (20, false), none, .pick (.tmp 16 false) (.cst (.bool true) (.lit (.bool true))) (.tmp 19 false)⟩,⟨some (21, false), none, .mov (.tmp 20 false) .peek⟩,⟨some (22, false), (some (21, false)), .mov (.tmp 2 true) .peek⟩,⟨some (23, false), (some (21, false)), .call 14 [.tmp 22 false]⟩,⟨some (24, false), (some (21, false)), .un .not (.tmp 23 false)⟩,⟨some (25, false), none, .pick (.tmp 21 false) (.cst (.bool true) (.lit (.bool true))) (.tmp 24 false)⟩])) [0, 1, 2, 25] [] lwEach_k0) [0, 1, 2] [] lwEach_k9),
  [.tmp 6]⟩
theorem lwEach_comp (m : Int) : compF Tryd.prog (gl m) [] Tryd.f6 = some lwEach := by kernel_rfl
def okA (l : List ARule) : Prop := l.length ≤ 1048576 ∧ ∀ r, r ∈ l → r.1.length ≤ 1048575 ∧ r.2.1.length ≤ 1048575
def goodA (l : List ARule) : Bool := l.all fun r => (decide (r.2.1 = []) || isPath r.2.1) && validA r.2.2
theorem few_len {l : List ARule} (h : fewA l = true) : l.length ≤ 30 := by
  rw [fewA, Bool.and_eq_true, decide_eq_true_eq] at h; exact h.2
theorem lwEach_snd (l k : List ARule) (p : Bs) (hl : okA l) (hk : okA k) (hp : p.length ≤ 1048575) : Snd Tryd.prog (gl m) 6 [.sl .frn 5 (fs fA l), .sl .frn 5 (fs fA k), S p] (B true) := by
  refine snd_of (fn := Tryd.f6) (af := lwEach) Tryd.func6 (lwEach_comp m) mixed (kn_ok m) (Nat.le_of_ble_eq_true rfl) ?_
  simp only [lwEach, go_sem, reduceCtorEq, Nat.reduceEqDiff, reduceIte, Nat.reduceAdd, Nat.reduceSub, Nat.reduceLeDiff, Int.reduceToNat, Nat.reduceBEq]
  repeat ((with_reducible apply And.intro); (case left => first | omega | (simp only [List.length_append, List.length_cons, List.length_nil, List.length_drop, List.length_take, List.length_tail, List.length_dropLast, fs_length, ss_length, bs_length, ns_length]; omega)))
  refine of_call (afew_snd l hl.1 hl.2) ?_
  simp only [go_sem, reduceCtorEq, Nat.reduceEqDiff, reduceIte, Nat.reduceAdd, Nat.reduceSub, Nat.reduceLeDiff, Int.reduceToNat, Nat.reduceBEq]
  repeat ((with_reducible apply And.intro); (case left => first | omega | (simp only [List.length_append, List.length_cons, List.length_nil, List.length_drop, List.length_take, List.length_tail, List.length_dropLast, fs_length, ss_length, bs_length, ns_length]; omega)))
  cases hf1 : fewA l with
  | false =>
    simp only [unVal, Bool.not_false, lwEach_k0_w, lwEach_k0', go_sem, reduceCtorEq, Nat.reduceEqDiff, reduceIte, Nat.reduceAdd, Nat.reduceSub, Nat.reduceLeDiff, Int.reduceToNat, Nat.reduceBEq]
    repeat ((with_reducible apply And.intro); (case left => first | omega | (simp only [List.length_append, List.length_cons, List.length_nil, List.length_drop, List.length_take, List.length_tail, List.length_dropLast, fs_length, ss_length, bs_length, ns_length]; omega)))
    repeat ((with_reducible apply And.intro); (case left => first | omega | (simp only [List.length_append, List.length_cons, List.length_nil, List.length_drop, List.length_take, List.length_tail, List.length_dropLast, fs_length, ss_length, bs_length, ns_length]; omega)))
    refine of_call (alives_snd) ?_
    simp only [go_sem, reduceCtorEq, Nat.reduceEqDiff, reduceIte, Nat.reduceAdd, Nat.reduceSub, Nat.reduceLeDiff, Int.reduceToNat, Nat.reduceBEq]
    repeat ((with_reducible apply And.intro); (case left => first | omega | (simp only [List.length_append, List.length_cons, List.length_nil, List.length_drop, List.length_take, List.length_tail, List.length_dropLast, fs_length, ss_length, bs_length, ns_length]; omega)))
    try first | rfl | trace_state
  | true =>
    simp only [unVal, Bool.not_true, go_sem, reduceCtorEq, Nat.reduceEqDiff, reduceIte, Nat.reduceAdd, Nat.reduceSub, Nat.reduceLeDiff, Int.reduceToNat, Nat.reduceBEq]
    repeat ((with_reducible apply And.intro); (case left => first | omega | (simp only [List.length_append, List.length_cons, List.length_nil, List.length_drop, List.length_take, List.length_tail, List.length_dropLast, fs_length, ss_length, bs_length, ns_length]; omega)))
    repeat ((with_reducible apply And.intro); (case left => first | omega | (simp only [List.length_append, List.length_cons, List.length_nil, List.length_drop, List.length_take, List.length_tail, List.length_dropLast, fs_length, ss_length, bs_length, ns_length]; omega)))
    refine of_call (afew_snd k hk.1 hk.2) ?_
    simp only [go_sem, reduceCtorEq, Nat.reduceEqDiff, reduceIte, Nat.reduceAdd, Nat.reduceSub, Nat.reduceLeDiff, Int.reduceToNat, Nat.reduceBEq]
    repeat ((with_reducible apply And.intro); (case left => first | omega | (simp only [List.length_append, List.length_cons, List.length_nil, List.length_drop, List.length_take, List.length_tail, List.length_dropLast, fs_length, ss_length, bs_length, ns_length]; omega)))
    cases hf2 : fewA k with
    | false =>
      simp only [unVal, Bool.not_false, lwEach_k0_w, lwEach_k0', go_sem, reduceCtorEq, Nat.reduceEqDiff, reduceIte, Nat.reduceAdd, Nat.reduceSub, Nat.reduceLeDiff, Int.reduceToNat, Nat.reduceBEq]
      repeat ((with_reducible apply And.intro); (case left => first | omega | (simp only [List.length_append, List.length_cons, List.length_nil, List.length_drop, List.length_take, List.length_tail, List.length_dropLast, fs_length, ss_length, bs_length, ns_length]; omega)))
      repeat ((with_reducible apply And.intro); (case left => first | omega | (simp only [List.length_append, List.length_cons, List.length_nil, List.length_drop, List.length_take, List.length_tail, List.length_dropLast, fs_length, ss_length, bs_length, ns_length]; omega)))
      refine of_call (alives_snd) ?_
      simp only [go_sem, reduceCtorEq, Nat.reduceEqDiff, reduceIte, Nat.reduceAdd, Nat.reduceSub, Nat.reduceLeDiff, Int.reduceToNat, Nat.reduceBEq]
      repeat ((with_reducible apply And.intro); (case left => first | omega | (simp only [List.length_append, List.length_cons, List.length_nil, List.length_drop, List.length_take, List.length_tail, List.length_dropLast, fs_length, ss_length, bs_length, ns_length]; omega)))
      try first | rfl | trace_state
    | true =>
      simp only [unVal, Bool.not_true, go_sem, reduceCtorEq, Nat.reduceEqDiff, reduceIte, Nat.reduceAdd, Nat.reduceSub, Nat.reduceLeDiff, Int.reduceToNat, Nat.reduceBEq]
      repeat ((with_reducible apply And.intro); (case left => first | omega | (simp only [List.length_append, List.length_cons, List.length_nil, List.length_drop, List.length_take, List.length_tail, List.length_dropLast, fs_length, ss_length, bs_length, ns_length]; omega)))
      repeat ((with_reducible apply And.intro); (case left => first | omega | (simp only [List.length_append, List.length_cons, List.length_nil, List.length_drop, List.length_take, List.length_tail, List.length_dropLast, fs_length, ss_length, bs_length, ns_length]; omega)))
      refine of_call (ris_snd p hp) ?_
      simp only [go_sem, reduceCtorEq, Nat.reduceEqDiff, reduceIte, Nat.reduceAdd, Nat.reduceSub, Nat.reduceLeDiff, Int.reduceToNat, Nat.reduceBEq]
      repeat ((with_reducible apply And.intro); (case left => first | omega | (simp only [List.length_append, List.length_cons, List.length_nil, List.length_drop, List.length_take, List.length_tail, List.length_dropLast, fs_length, ss_length, bs_length, ns_length]; omega)))
      cases isPath p with
      | false =>
        simp only [unVal, Bool.not_false, lwEach_k0_w, lwEach_k0', go_sem, reduceCtorEq, Nat.reduceEqDiff, reduceIte, Nat.reduceAdd, Nat.reduceSub, Nat.reduceLeDiff, Int.reduceToNat, Nat.reduceBEq]
        repeat ((with_reducible apply And.intro); (case left => first | omega | (simp only [List.length_append, List.length_cons, List.length_nil, List.length_drop, List.length_take, List.length_tail, List.length_dropLast, fs_length, ss_length, bs_length, ns_length]; omega)))
        repeat ((with_reducible apply And.intro); (case left => first | omega | (simp only [List.length_append, List.length_cons, List.length_nil, List.length_drop, List.length_take, List.length_tail, List.length_dropLast, fs_length, ss_length, bs_length, ns_length]; omega)))
        refine of_call (alives_snd) ?_
        simp only [go_sem, reduceCtorEq, Nat.reduceEqDiff, reduceIte, Nat.reduceAdd, Nat.reduceSub, Nat.reduceLeDiff, Int.reduceToNat, Nat.reduceBEq]
        repeat ((with_reducible apply And.intro); (case left => first | omega | (simp only [List.length_append, List.length_cons, List.length_nil, List.length_drop, List.length_take, List.length_tail, List.length_dropLast, fs_length, ss_length, bs_length, ns_length]; omega)))
        try first | rfl | trace_state
      | true =>
        simp only [unVal, Bool.not_true, lwEach_k0_w, lwEach_k0', lwEach_k9_w, lwEach_k9', go_sem, reduceCtorEq, Nat.reduceEqDiff, reduceIte, Nat.reduceAdd, Nat.reduceSub, Nat.reduceLeDiff, Int.reduceToNat, Nat.reduceBEq]
        repeat ((with_reducible apply And.intro); (case left => first | omega | (simp only [List.length_append, List.length_cons, List.length_nil, List.length_drop, List.length_take, List.length_tail, List.length_dropLast, fs_length, ss_length, bs_length, ns_length]; omega)))
        have hll := few_len hf1
        have hkl := few_len hf2
        repeat ((with_reducible apply And.intro); (case left => first | omega | (simp only [List.length_append, List.length_cons, List.length_nil, List.length_drop, List.length_take, List.length_tail, List.length_dropLast, fs_length, ss_length, bs_length, ns_length]; omega)))
        have ea : fs fA l ++ fs fA k = fs fA (l ++ k) := by simp only [fs, List.map_append]
        rw [ea]
        have hof : ofA (l ++ k) p = over (ofA l p) (ofA k p) := ofA_append l k p
        have hbb : ∀ r, r ∈ l ++ k → r.1.length ≤ 1048575 ∧ r.2.1.length ≤ 1048575 := fun r hr => (List.mem_append.1 hr).elim (hl.2 r) (hk.2 r)
        have hLl : (l ++ k).length ≤ 60 := by rw [List.length_append]; omega
        generalize l ++ k = L at hof hbb hLl ⊢
        refine loop_up L.length (fun i => mkS [(0, .sl .frn 5 (fs fA l)), (1, .sl .frn 5 (fs fA k)), (2, S p), (7, B (goodA (L.take i))), (8, .sl .own 5 (fs fA L)), (33, N L.length), (34, N i)] []) (by rw [fs_length]; rfl) ?_
        intro i hi ih
        simp only [lwEach_l2_w, lwEach_l2', go_sem, reduceCtorEq, Nat.reduceEqDiff, reduceIte, Nat.reduceAdd, Nat.reduceSub, Nat.reduceLeDiff, Int.reduceToNat, Nat.reduceBEq]
        repeat ((with_reducible apply And.intro); (case left => first | omega | (simp only [List.length_append, List.length_cons, List.length_nil, List.length_drop, List.length_take, List.length_tail, List.length_dropLast, fs_length, ss_length, bs_length, ns_length]; omega)))
        by_cases h : i < L.length
        · have g := fs_getA h
          have q1 : IntKind.i64.wrap ((i : Int) + 1) = ((i + 1 : Nat) : Int) := wrapN _ (by omega) (by omega)
          have hr := hbb L[i] (List.getElem_mem h)
          have ht : goodA (L.take (i + 1)) = (goodA (L.take i) && ((decide (L[i].2.1 = []) || isPath L[i].2.1) && validA L[i].2.2)) := by
            rw [take_snoc h, goodA, List.all_append]; simp [goodA]
          rw [ht] at ih
          generalize L[i] = r at g hr ih
          generalize goodA (L.take i) = b at ih ⊢
          cases b with
          | false =>
            simp only [lt_t h, lwEach_k1_w, lwEach_k1', q1, go_sem, reduceCtorEq, Nat.reduceEqDiff, reduceIte, Nat.reduceAdd, Nat.reduceSub, Nat.reduceLeDiff, Int.reduceToNat, Nat.reduceBEq]
            first | exact ih h | trace_state
          | true =>
            simp only [Bool.true_and] at ih
            simp only [lt_t h, lwEach_k1_w, lwEach_k1', g, Int.toNat_natCast, go_sem, reduceCtorEq, Nat.reduceEqDiff, reduceIte, Nat.reduceAdd, Nat.reduceSub, Nat.reduceLeDiff, Int.reduceToNat, Nat.reduceBEq]
            repeat ((with_reducible apply And.intro); (case left => first | omega | (simp only [List.length_append, List.length_cons, List.length_nil, List.length_drop, List.length_take, List.length_tail, List.length_dropLast, fs_length, ss_length, bs_length, ns_length]; omega)))
            by_cases hd : r.2.1 = []
            · rw [decide_eq_true hd] at ih
              simp only [Bool.true_or, Bool.true_and] at ih
              simp only [se_t hd, g, Int.toNat_natCast, go_sem, reduceCtorEq, Nat.reduceEqDiff, reduceIte, Nat.reduceAdd, Nat.reduceSub, Nat.reduceLeDiff, Int.reduceToNat, Nat.reduceBEq]
              repeat ((with_reducible apply And.intro); (case left => first | omega | (simp only [List.length_append, List.length_cons, List.length_nil, List.length_drop, List.length_take, List.length_tail, List.length_dropLast, fs_length, ss_length, bs_length, ns_length]; omega)))
              refine of_call (avalid_snd r.2.2) ?_
              simp only [go_sem, reduceCtorEq, Nat.reduceEqDiff, reduceIte, Nat.reduceAdd, Nat.reduceSub, Nat.reduceLeDiff, Int.reduceToNat, Nat.reduceBEq]
              repeat ((with_reducible apply And.intro); (case left => first | omega | (simp only [List.length_append, List.length_cons, List.length_nil, List.length_drop, List.length_take, List.length_tail, List.length_dropLast, fs_length, ss_length, bs_length, ns_length]; omega)))
              try simp only [q1, go_sem, reduceCtorEq, Nat.reduceEqDiff, reduceIte, Nat.reduceAdd, Nat.reduceSub, Nat.reduceLeDiff, Int.reduceToNat, Nat.reduceBEq]
              exact ih h
            · rw [decide_eq_false hd] at ih
              simp only [Bool.false_or] at ih
              simp only [se_f hd, g, Int.toNat_natCast, go_sem, reduceCtorEq, Nat.reduceEqDiff, reduceIte, Nat.reduceAdd, Nat.reduceSub, Nat.reduceLeDiff, Int.reduceToNat, Nat.reduceBEq]
              repeat ((with_reducible apply And.intro); (case left => first | omega | (simp only [List.length_append, List.length_cons, List.length_nil, List.length_drop, List.length_take, List.length_tail, List.length_dropLast, fs_length, ss_length, bs_length, ns_length]; omega)))
              refine of_call (ris_snd r.2.1 hr.2) ?_
              simp only [go_sem, reduceCtorEq, Nat.reduceEqDiff, reduceIte, Nat.reduceAdd, Nat.reduceSub, Nat.reduceLeDiff, Int.reduceToNat, Nat.reduceBEq]
              repeat ((with_reducible apply And.intro); (case left => first | omega | (simp only [List.length_append, List.length_cons, List.length_nil, List.length_drop, List.length_take, List.length_tail, List.length_dropLast, fs_length, ss_length, bs_length, ns_length]; omega)))
              cases hpp : isPath r.2.1 with
              | false =>
                rw [hpp] at ih
                try simp only [q1, go_sem, reduceCtorEq, Nat.reduceEqDiff, reduceIte, Nat.reduceAdd, Nat.reduceSub, Nat.reduceLeDiff, Int.reduceToNat, Nat.reduceBEq]
                exact ih h
              | true =>
                rw [hpp] at ih
                simp only [Bool.true_and] at ih
                simp only [g, Int.toNat_natCast, go_sem, reduceCtorEq, Nat.reduceEqDiff, reduceIte, Nat.reduceAdd, Nat.reduceSub, Nat.reduceLeDiff, Int.reduceToNat, Nat.reduceBEq]
                repeat ((with_reducible apply And.intro); (case left => first | omega | (simp only [List.length_append, List.length_cons, List.length_nil, List.length_drop, List.length_take, List.length_tail, List.length_dropLast, fs_length, ss_length, bs_length, ns_length]; omega)))
                refine of_call (avalid_snd r.2.2) ?_
                simp only [go_sem, reduceCtorEq, Nat.reduceEqDiff, reduceIte, Nat.reduceAdd, Nat.reduceSub, Nat.reduceLeDiff, Int.reduceToNat, Nat.reduceBEq]
                repeat ((with_reducible apply And.intro); (case left => first | omega | (simp only [List.length_append, List.length_cons, List.length_nil, List.length_drop, List.length_take, List.length_tail, List.length_dropLast, fs_length, ss_length, bs_length, ns_length]; omega)))
                try simp only [q1, go_sem, reduceCtorEq, Nat.reduceEqDiff, reduceIte, Nat.reduceAdd, Nat.reduceSub, Nat.reduceLeDiff, Int.reduceToNat, Nat.reduceBEq]
                exact ih h
        · obtain rfl : i = L.length := by omega
          rw [List.take_length]
          simp only [lt_f h, lwEach_k8_w, lwEach_k8', go_sem, reduceCtorEq, Nat.reduceEqDiff, reduceIte, Nat.reduceAdd, Nat.reduceSub, Nat.reduceLeDiff, Int.reduceToNat, Nat.reduceBEq]
          cases hg : goodA L with
          | false =>
            simp only [unVal, Bool.not_false, go_sem, reduceCtorEq, Nat.reduceEqDiff, reduceIte, Nat.reduceAdd, Nat.reduceSub, Nat.reduceLeDiff, Int.reduceToNat, Nat.reduceBEq]
            repeat ((with_reducible apply And.intro); (case left => first | omega | (simp only [List.length_append, List.length_cons, List.length_nil, List.length_drop, List.length_take, List.length_tail, List.length_dropLast, fs_length, ss_length, bs_length, ns_length]; omega)))
            repeat ((with_reducible apply And.intro); (case left => first | omega | (simp only [List.length_append, List.length_cons, List.length_nil, List.length_drop, List.length_take, List.length_tail, List.length_dropLast, fs_length, ss_length, bs_length, ns_length]; omega)))
            refine of_call (alives_snd) ?_
            simp only [go_sem, reduceCtorEq, Nat.reduceEqDiff, reduceIte, Nat.reduceAdd, Nat.reduceSub, Nat.reduceLeDiff, Int.reduceToNat, Nat.reduceBEq]
            repeat ((with_reducible apply And.intro); (case left => first | omega | (simp only [List.length_append, List.length_cons, List.length_nil, List.length_drop, List.length_take, List.length_tail, List.length_dropLast, fs_length, ss_length, bs_length, ns_length]; omega)))
            try first | rfl | trace_state
          | true =>
            have hval : validA (ofA L p) = true := ofA_valid fun x hx => by
              have := List.all_eq_true.1 hg x hx
              rw [Bool.and_eq_true] at this
              exact this.2
            simp only [unVal, Bool.not_true, lwEach_k7_w, lwEach_k7', go_sem, reduceCtorEq, Nat.reduceEqDiff, reduceIte, Nat.reduceAdd, Nat.reduceSub, Nat.reduceLeDiff, Int.reduceToNat, Nat.reduceBEq]
            repeat ((with_reducible apply And.intro); (case left => first | omega | (simp only [List.length_append, List.length_cons, List.length_nil, List.length_drop, List.length_take, List.length_tail, List.length_dropLast, fs_length, ss_length, bs_length, ns_length]; omega)))
            repeat ((with_reducible apply And.intro); (case left => first | omega | (simp only [List.length_append, List.length_cons, List.length_nil, List.length_drop, List.length_take, List.length_tail, List.length_dropLast, fs_length, ss_length, bs_length, ns_length]; omega)))
            refine of_call (of_snd l p (by omega) hl.2 hp) ?_
            simp only [go_sem, reduceCtorEq, Nat.reduceEqDiff, reduceIte, Nat.reduceAdd, Nat.reduceSub, Nat.reduceLeDiff, Int.reduceToNat, Nat.reduceBEq]
            repeat ((with_reducible apply And.intro); (case left => first | omega | (simp only [List.length_append, List.length_cons, List.length_nil, List.length_drop, List.length_take, List.length_tail, List.length_dropLast, fs_length, ss_length, bs_length, ns_length]; omega)))
            repeat ((with_reducible apply And.intro); (case left => first | omega | (simp only [List.length_append, List.length_cons, List.length_nil, List.length_drop, List.length_take, List.length_tail, List.length_dropLast, fs_length, ss_length, bs_length, ns_length]; omega)))
            refine of_call (of_snd k p (by omega) hk.2 hp) ?_
            simp only [go_sem, reduceCtorEq, Nat.reduceEqDiff, reduceIte, Nat.reduceAdd, Nat.reduceSub, Nat.reduceLeDiff, Int.reduceToNat, Nat.reduceBEq]
            repeat ((with_reducible apply And.intro); (case left => first | omega | (simp only [List.length_append, List.length_cons, List.length_nil, List.length_drop, List.length_take, List.length_tail, List.length_dropLast, fs_length, ss_length, bs_length, ns_length]; omega)))
            repeat ((with_reducible apply And.intro); (case left => first | omega | (simp only [List.length_append, List.length_cons, List.length_nil, List.length_drop, List.length_take, List.length_tail, List.length_dropLast, fs_length, ss_length, bs_length, ns_length]; omega)))
            refine of_call (of_snd L p (by omega) hbb hp) ?_
            simp only [go_sem, reduceCtorEq, Nat.reduceEqDiff, reduceIte, Nat.reduceAdd, Nat.reduceSub, Nat.reduceLeDiff, Int.reduceToNat, Nat.reduceBEq]
            repeat ((with_reducible apply And.intro); (case left => first | omega | (simp only [List.length_append, List.length_cons, List.length_nil, List.length_drop, List.length_take, List.length_tail, List.length_dropLast, fs_length, ss_length, bs_length, ns_length]; omega)))
            generalize ofA l p = a at hof ⊢
            generalize ofA k p = b at hof ⊢
            rw [hof] at hval ⊢
            obtain ⟨a1, a2, a3⟩ := a
            obtain ⟨u, v, z⟩ := b
            have q0 := eqA (over (a1, a2, a3) (u, v, z)) (over (a1, a2, a3) (u, v, z))
            rw [beq_self_eq_true] at q0
            have hav := avalid_snd (m := m) (over (a1, a2, a3) (u, v, z))
            rw [hval] at hav
            simp only [over, attT] at q0 hav
            simp only [attT, over, lwEach_k6_w, lwEach_k6', go_sem, reduceCtorEq, Nat.reduceEqDiff, reduceIte, Nat.reduceAdd, Nat.reduceSub, Nat.reduceLeDiff, Int.reduceToNat, Nat.reduceBEq]
            repeat ((with_reducible apply And.intro); (case left => first | omega | (simp only [List.length_append, List.length_cons, List.length_nil, List.length_drop, List.length_take, List.length_tail, List.length_dropLast, fs_length, ss_length, bs_length, ns_length]; omega)))
            by_cases h1 : u = 0 <;> by_cases h2 : v = 0 <;> by_cases h3 : z = 0
            all_goals (simp only [h1, h2, h3, if_true, if_false] at q0 hav)
            all_goals (first | simp only [ne_f h1, go_sem, reduceCtorEq, Nat.reduceEqDiff, reduceIte, Nat.reduceAdd, Nat.reduceSub, Nat.reduceLeDiff, Int.reduceToNat, Nat.reduceBEq] | simp only [ne_t h1, go_sem, reduceCtorEq, Nat.reduceEqDiff, reduceIte, Nat.reduceAdd, Nat.reduceSub, Nat.reduceLeDiff, Int.reduceToNat, Nat.reduceBEq])
            all_goals (try simp only [lwEach_k5_w, lwEach_k5', go_sem, reduceCtorEq, Nat.reduceEqDiff, reduceIte, Nat.reduceAdd, Nat.reduceSub, Nat.reduceLeDiff, Int.reduceToNat, Nat.reduceBEq])
            all_goals (first | simp only [ne_f h2, go_sem, reduceCtorEq, Nat.reduceEqDiff, reduceIte, Nat.reduceAdd, Nat.reduceSub, Nat.reduceLeDiff, Int.reduceToNat, Nat.reduceBEq] | simp only [ne_t h2, go_sem, reduceCtorEq, Nat.reduceEqDiff, reduceIte, Nat.reduceAdd, Nat.reduceSub, Nat.reduceLeDiff, Int.reduceToNat, Nat.reduceBEq])
            all_goals (try simp only [lwEach_k4_w, lwEach_k4', go_sem, reduceCtorEq, Nat.reduceEqDiff, reduceIte, Nat.reduceAdd, Nat.reduceSub, Nat.reduceLeDiff, Int.reduceToNat, Nat.reduceBEq])
            all_goals (first | simp only [ne_f h3, go_sem, reduceCtorEq, Nat.reduceEqDiff, reduceIte, Nat.reduceAdd, Nat.reduceSub, Nat.reduceLeDiff, Int.reduceToNat, Nat.reduceBEq] | simp only [ne_t h3, go_sem, reduceCtorEq, Nat.reduceEqDiff, reduceIte, Nat.reduceAdd, Nat.reduceSub, Nat.reduceLeDiff, Int.reduceToNat, Nat.reduceBEq])
            all_goals (try simp only [lwEach_k3_w, lwEach_k3', go_sem, reduceCtorEq, Nat.reduceEqDiff, reduceIte, Nat.reduceAdd, Nat.reduceSub, Nat.reduceLeDiff, Int.reduceToNat, Nat.reduceBEq])
            all_goals ((repeat ((with_reducible apply And.intro); (case left => first | omega | (simp only [List.length_append, List.length_cons, List.length_nil, List.length_drop, List.length_take, List.length_tail, List.length_dropLast, fs_length, ss_length, bs_length, ns_length]; omega)))); skip)
            all_goals (simp only [h1, h2, h3, if_true, if_false, q0, go_sem, reduceCtorEq, Nat.reduceEqDiff, reduceIte, Nat.reduceAdd, Nat.reduceSub, Nat.reduceLeDiff, Int.reduceToNat, Nat.reduceBEq])
            all_goals ((repeat ((with_reducible apply And.intro); (case left => first | omega | (simp only [List.length_append, List.length_cons, List.length_nil, List.length_drop, List.length_take, List.length_tail, List.length_dropLast, fs_length, ss_length, bs_length, ns_length]; omega)))); skip)
            all_goals (refine of_call hav ?_)
            all_goals (simp only [go_sem, reduceCtorEq, Nat.reduceEqDiff, reduceIte, Nat.reduceAdd, Nat.reduceSub, Nat.reduceLeDiff, Int.reduceToNat, Nat.reduceBEq])
            all_goals (refine of_call alives_snd ?_)
            all_goals (try simp only [go_sem, reduceCtorEq, Nat.reduceEqDiff, reduceIte, Nat.reduceAdd, Nat.reduceSub, Nat.reduceLeDiff, Int.reduceToNat, Nat.reduceBEq])
            all_goals (first | rfl | trace_state)
end Go.At
namespace Go.Proofs.YtcahaecjjochbaaDoor
open Go.ChangeShapes Go.WideShapes Go.ChangeAt Go.RowKit
open Go.ChangeMaps (open_string shut_string)
open Go.Ev (X0 old Bs ss TabsAt)
set_option linter.unusedVariables false
theorem own : ownKnob Tryd.prog.godebug = none := by kernel_rfl
theorem laidOut : laidOutB Tryd.prog = true := by kernel_rfl
theorem maxLen_at {W : World} (h : W.ShapedOpen Tryd.prog) : ∃ m, W.cell? ⟨0, 0, none⟩ = some (.int .i64 m) :=
  cell_of_shapedOpen_int (zero := #[.int .i64 0]) (t := 3) h (of_decide_eq_true (by kernel_rfl)) (by kernel_rfl) rfl (by kernel_rfl) (by kernel_rfl) Tryd.underlying3
noncomputable def laidWorld (os : Os) : World :=
  let w0 := World.holding Tryd.prog os ⟨#[], #[], []⟩
  let put (h : Array Obj) (g : Nat) (cs : Array Value) : Array Obj := h.modify g fun
    | .cells _ t frozen => .cells cs t frozen
    | o => o
  let h1 := put w0.heap 1 (Lib.firstTab.map fun z => Value.int .u8 z).toArray
  let h2 := put h1 2 ((List.range 16).flatMap fun i => [Value.int .u8 (Lib.accLo i), Value.int .u8 (Lib.accHi i)]).toArray
  { w0 with heap := h2 }
def laid : List (String × DataW Unit) := [("unicode/utf8.acceptRanges", Rows.laid_unicode_utf8_acceptRanges), ("unicode/utf8.first", Rows.laid_unicode_utf8_first)]
set_option maxRecDepth 100000 in
theorem laid_met (os : Os) (args : Array Value) : laidMet Tryd.prog laid ((laidWorld os).forCall (fun _ _ => 0) ⟨#[], args, []⟩).memory :=
  laidMet_of_run' 8 (by kernel_rfl) (by kernel_rfl)
theorem tabs {W : World} {m : Int} (hm : W.cell? ⟨0, 0, none⟩ = some (.int .i64 m)) (_ : laidMet Tryd.prog laid W) : TabsAt (At.gl m) W (old W) where
  lit g vs hg v hv := by
    simp only [At.gl] at hg
    split at hg
    · injection hg with hg; subst hg; simp at hv; subst hv; exact ⟨rfl, rfl⟩
    · cases hg
  cell g vs hg k v hv := by
    simp only [At.gl] at hg
    split at hg
    · rename_i h0
      injection hg with hg; subst hg; subst h0
      cases k with
      | zero => simp at hv; subst hv; exact ⟨hm, Ev.cell_lt hm⟩
      | succ k => simp at hv
    · cases hg
  size g vs hg hl := by
    simp only [At.gl] at hg
    split at hg
    · injection hg with hg; subst hg; simp at hl
    · cases hg
theorem bulk_small {H : Type} {l : List (DataW H)} (hk : Rows.uptoSmall H l = true) : Rows.uptoBulkAll l ≤ 1048576 := of_decide_eq_true hk
def ubulk {H : Type} : Ev.Bulk H := ⟨Rows.uptoBulk, Rows.uptoBulkAll, fun s => by simp [Rows.uptoBulk], fun k n => by simp [Rows.uptoBulk], fun x => by simp [Rows.uptoBulk], by simp [Rows.uptoBulk], fun e s => by simp [Rows.uptoBulk], fun ps => by simp [Rows.uptoBulk], by simp [Rows.uptoBulkAll], fun d r => by simp [Rows.uptoBulkAll]⟩
end Go.Proofs.YtcahaecjjochbaaDoor
namespace Go.At
open Go Go.Ev
theorem ksumA_mem {α : Type} (f : α → Nat) {x : α} : ∀ {l : List α}, x ∈ l → f x ≤ ksum f l
  | y :: l, h => by
    simp only [ksum]
    rcases List.mem_cons.1 h with rfl | h
    · omega
    · have := ksumA_mem f h; omega
theorem ksumA_len {α : Type} (f : α → Nat) (hf : ∀ x, 1 ≤ f x) : ∀ l : List α, l.length ≤ ksum f l
  | [] => Nat.zero_le _
  | y :: l => by
    have := hf y; have := ksumA_len f hf l
    simp only [ksum, List.length_cons]; omega
def kA : Kd := .st (.pr .str (.pr .str (.st (.pr (.int .i64) (.pr (.int .i64) (.int .i64))))))
theorem okA_kb {l : List ARule} {n : Nat} (h : kb (.sl kA) l ≤ n) (hn : n ≤ 1048576) : okA l := by
  have h : ksum (fun v : ARule => kb kA v) l + 1 ≤ n := h
  have e : ∀ r : ARule, kb kA r = r.1.length + 1 + (r.2.1.length + 1 + ((1 + (1 + 1)) + 1)) + 1 := fun r => rfl
  refine ⟨?_, fun r hr => ?_⟩
  · have := ksumA_len (fun v : ARule => kb kA v) (fun r => by show 1 ≤ kb kA r; rw [e]; omega) l
    omega
  · have := ksumA_mem (fun v : ARule => kb kA v) hr
    have h2 : kb kA r ≤ ksum (fun v : ARule => kb kA v) l := this
    rw [e] at h2
    constructor <;> omega
end Go.At

