import Derived.Test.YtcahaecjjochbaaDoorAtU
import Derived.Test.YtcahaecjjochbaaDoorEvC
import Derived.Test.YtcahaecjjochbaaDoorAtA
import Derived.LaidSub
import Derived.Test.YtcahaecjjochbaaDoorCards
import Derived.Test.YtcahaecjjochbaaDoorTie
import Derived.WalkKit
import Derived.ProofKit
import Derived.OpenShut
import Derived.Deep.DeepHandedRow
import Derived.Deep.DeepWitnessRowRef
import Derived.Lib.LaidIn
import Derived.Lib.LaidU8
import Derived.Shelf.Vars
set_option linter.unusedVariables false
set_option linter.unusedSimpArgs false
/- Attributes: what is asked of a path: the laws' own functions (Asks, Below, Each). -/
namespace Go.At
open Go Go.Ev Go.Proofs
open Go.Ln (u8b_t u8b_f lines lines_len line_len lf crlf binary)
open Go.Gb (isPath isPat matchF ris_snd)
set_option linter.unusedVariables false
set_option linter.unusedSimpArgs false
set_option maxHeartbeats 2000000
attribute [local go_sem] eqs implies_true List.map_cons List.map_nil kl klL roD roL Option.map_some Option.map_none Option.getD_some Option.getD_none binVal binObl unVal if_true if_false eq_self passA frnD resD content getH getR getW viaNot viaSlot viaBox viaDeep viaMem List.contains_cons List.contains_nil grabs peeks okCells isCell place cellsOf chunk elt List.headD_cons List.length_cons List.length_nil List.take_succ_cons List.take_zero List.drop_succ_cons List.drop_zero List.nil_append List.cons_append List.append_nil List.all_cons List.all_nil plainC takeR setW over reCell List.getElem?_cons_zero List.getElem?_cons_succ List.set_cons_zero List.take_length outV resG plainV pack outVG outBx List.set_cons_succ Ref.idx Ref.addOff beq_self_eq_true bxL Option.bind_some writeR isLit viaBoxes capsPA boxPA nsOf noDup boxesAt argG passG passD rhoIn rhoOut idxIn tr trL List.getD_cons_zero gives pasOf isPtr Ins.d List.getD_cons_succ resL frnL List.getLast?_nil List.getLast?_singleton List.dropLast_singleton List.nil_append frnL_fs roL_fs resL_fs passL_fs klL_fs trL_fs map_roD_fs fs_length
variable {m : Int}
def lwAsks_k0' : AC := .cond (.tmp 34 false)
      (.seq (.reg (.seq [⟨some (35, false), none, .call 15 []⟩,⟨some (4, true), none, .mov (.tmp 35 false) .asg⟩])) [4] []
      (.ret))
      (.skip)
def lwAsks_k0 : AC := lwAsks_k0'
theorem lwAsks_k0_w (C : Kn) (K : Ex → St → Prop) (s : St) : vcC C lwAsks_k0 K s = vcC C lwAsks_k0' K s := nr rfl
def lwAsks_k1' : AC := .reg (.seq [⟨some (36, false), none, .bin .add (.tmp 17 true) (.cst (.int .i64 1) (.lit (.int .i64 1)))⟩,⟨some (17, true), none, .mov (.tmp 36 false) .peek⟩])
def lwAsks_k1 : AC := lwAsks_k1'
theorem lwAsks_k1_w (C : Kn) (K : Ex → St → Prop) (s : St) : vcC C lwAsks_k1 K s = vcC C lwAsks_k1' K s := nr rfl
def lwAsks_k2' : AC := .seq (.block 1 (.seq (.reg (.seq [⟨some (19, false), none, .mov (.tmp 17 true) .take⟩,⟨some (5, true), none, .mov (.tmp 19 false) .asg⟩])) [0, 1, 5, 16, 17] []
    (.seq (.reg (.seq [⟨some (20, false), none, .mov (.tmp 0 true) .peek⟩,⟨some (21, false), none, .mov (.tmp 5 true) .peek⟩,⟨some (22, false), none, .iad (.tmp 20 false) (.tmp 21 false) 5⟩,⟨some (23, false), none, .fad (.tmp 22 false) 1⟩,⟨some (24, false), none, .load (.tmp 23 false) 1 false false⟩,⟨some (25, false), none, .bin .neq (.tmp 24 false) (.cst (.string (str [])) (.lit (.string (str []))))⟩,⟨some (26, false), none, .mov (.tmp 25 false) .peek⟩,⟨some (27, false), (some (26, true)), .mov (.tmp 0 true) .peek⟩,⟨some (28, false), (some (26, true)), .mov (.tmp 5 true) .peek⟩,⟨some (29, false), (some (26, true)), .iad (.tmp 27 false) (.tmp 28 false) 5⟩,⟨some (30, false), (some (26, true)), .fad (.tmp 29 false) 1⟩,⟨some (31, false), (some (26, true)), .load (.tmp 30 false) 1 false false⟩,⟨some (32, false), (some (26, true)), .call 14 [.tmp 31 false]⟩,⟨some (33, false), (some (26, true)), .un .not (.tmp 32 false)⟩,⟨some (34, false), none, .pick (.tmp 26 false) (.tmp 33 false) (.cst (.bool false) (.lit (.bool false)))⟩])) [0, 1, 16, 17, 34] [] lwAsks_k0))) [0, 1, 16, 17] [] lwAsks_k1
def lwAsks_k2 : AC := lwAsks_k2'
theorem lwAsks_k2_w (C : Kn) (K : Ex → St → Prop) (s : St) : vcC C lwAsks_k2 K s = vcC C lwAsks_k2' K s := nr rfl
def lwAsks_l3' : AC := .seq (.reg (.seq [⟨some (18, false), none, .bin .lss (.tmp 17 true) (.tmp 16 true)⟩])) [0, 1, 16, 17, 18] []
  (.seq (.cond (.tmp 18 false)
    (.skip)
    (.exit 0)) [0, 1, 16, 17] [] lwAsks_k2)
def lwAsks_l3 : AC := lwAsks_l3'
theorem lwAsks_l3_w (C : Kn) (K : Ex → St → Prop) (s : St) : vcC C lwAsks_l3 K s = vcC C lwAsks_l3' K s := nr rfl
def lwAsks_k4' : AC := .seq (.reg (.seq [⟨some (37, false), none, .mov (.tmp 0 true) .peek⟩,⟨some (38, false), none, .mov (.tmp 1 true) .peek⟩,⟨some (39, false), none, .call 16 [.tmp 37 false, .tmp 38 false]⟩,⟨some (40, false), none, .mov (.tmp 0 true) .peek⟩,⟨some (41, false), none, .mov (.tmp 1 true) .peek⟩,⟨some (42, false), none, .call 17 [.tmp 40 false, .tmp 41 false]⟩,⟨some (43, false), none, .eqS [0, 0, 0] false (.tmp 39 false) (.tmp 42 false)⟩,⟨some (44, false), none, .mov (.tmp 43 false) .peek⟩,⟨some (45, false), (some (44, true)), .call 15 []⟩,⟨some (46, false), none, .pick (.tmp 44 false) (.tmp 45 false) (.cst (.bool false) (.lit (.bool false)))⟩,⟨some (4, true), none, .mov (.tmp 46 false) .asg⟩])) [4] []
  (.ret)
def lwAsks_k4 : AC := lwAsks_k4'
theorem lwAsks_k4_w (C : Kn) (K : Ex → St → Prop) (s : St) : vcC C lwAsks_k4 K s = vcC C lwAsks_k4' K s := nr rfl
def lwAsks_k5' : AC := .seq (.seq (.reg (.seq [⟨some (15, false), none, .mov (.tmp 0 true) .peek⟩,⟨some (16, true), none, .lenL (.tmp 15 false)⟩,⟨some (17, true), none, .mov (.cst (.int .i64 0) (.lit (.int .i64 0))) .peek⟩])) [0, 1, 16, 17] []
  (.block 0 (.loop [0, 1, 16, 17] [] lwAsks_l3))) [0, 1] [] lwAsks_k4
def lwAsks_k5 : AC := lwAsks_k5'
theorem lwAsks_k5_w (C : Kn) (K : Ex → St → Prop) (s : St) : vcC C lwAsks_k5 K s = vcC C lwAsks_k5' K s := nr rfl
def lwAsks : AF := ⟨.seq (.reg (.seq [⟨some (4, true), none, .mov (.cst (.bool false) (.lit (.bool false))) .asg⟩])) [0, 1] []
  (.seq (.seq (.reg (.seq [⟨some (6, false), none, .mov (.tmp 0 true) .peek⟩,⟨some (7, false), none, .call 13 [.tmp 6 false]⟩,⟨some (8, false), none, .un .not (.tmp 7 false)⟩,⟨some (9, false), none, .mov (.tmp 8 false) .peek⟩,⟨some (10, false), (some (9, false)), .mov (.tmp 1 true) .peek⟩,⟨some (11, false), (some (9, false)), .call 14 [.tmp 10 false]⟩,⟨some (12, false), (some (9, false)), .un .not (.tmp 11 false)⟩,⟨some (13, false), none, .pick (.tmp 9 false) (.cst (.bool true) (.lit (.bool true))) (.tmp 12 false)⟩])) [0, 1, 13] []
  (.cond (.tmp 13 false)
    (.seq (.reg (.seq [⟨some (14, false), none, .call 15 []⟩,⟨some (4, true), none, .mov (.tmp 14 false) .asg⟩])) [4] []
    (.ret))
    (.skip))) [0, 1] [] lwAsks_k5),
  [.tmp 4]⟩
theorem lwAsks_comp (m : Int) : compF Tryd.prog (gl m) [] Tryd.f3 = some lwAsks := by kernel_rfl
def okA (l : List ARule) : Prop := l.length ≤ 1048576 ∧ ∀ r, r ∈ l → r.1.length ≤ 1048575 ∧ r.2.1.length ≤ 1048575
theorem lwAsks_snd (l : List ARule) (p : Bs) (hl : okA l) (hp : p.length ≤ 1048575) : Snd Tryd.prog (gl m) 3 [.sl .frn 5 (fs fA l), S p] (B true) := by
  refine snd_of (fn := Tryd.f3) (af := lwAsks) Tryd.func3 (lwAsks_comp m) mixed (kn_ok m) (Nat.le_of_ble_eq_true rfl) ?_
  simp only [lwAsks, go_sem, reduceCtorEq, Nat.reduceEqDiff, reduceIte, Nat.reduceAdd, Nat.reduceSub, Nat.reduceLeDiff, Int.reduceToNat, Nat.reduceBEq]
  repeat ((with_reducible apply And.intro); (case left => first | omega | (simp only [List.length_append, List.length_cons, List.length_nil, List.length_drop, List.length_take, List.length_tail, List.length_dropLast, fs_length, ss_length, bs_length, ns_length]; omega)))
  refine of_call (afew_snd l hl.1 hl.2) ?_
  simp only [go_sem, reduceCtorEq, Nat.reduceEqDiff, reduceIte, Nat.reduceAdd, Nat.reduceSub, Nat.reduceLeDiff, Int.reduceToNat, Nat.reduceBEq]
  repeat ((with_reducible apply And.intro); (case left => first | omega | (simp only [List.length_append, List.length_cons, List.length_nil, List.length_drop, List.length_take, List.length_tail, List.length_dropLast, fs_length, ss_length, bs_length, ns_length]; omega)))
  cases fewA l with
  | false =>
    simp only [unVal, Bool.not_false, go_sem, reduceCtorEq, Nat.reduceEqDiff, reduceIte, Nat.reduceAdd, Nat.reduceSub, Nat.reduceLeDiff, Int.reduceToNat, Nat.reduceBEq]
    repeat ((with_reducible apply And.intro); (case left => first | omega | (simp only [List.length_append, List.length_cons, List.length_nil, List.length_drop, List.length_take, List.length_tail, List.length_dropLast, fs_length, ss_length, bs_length, ns_length]; omega)))
    repeat ((with_reducible apply And.intro); (case left => first | omega | (simp only [List.length_append, List.length_cons, List.length_nil, List.length_drop, List.length_take, List.length_tail, List.length_dropLast, fs_length, ss_length, bs_length, ns_length]; omega)))
    refine of_call (alives_snd) ?_
    simp only [go_sem, reduceCtorEq, Nat.reduceEqDiff, reduceIte, Nat.reduceAdd, Nat.reduceSub, Nat.reduceLeDiff, Int.reduceToNat, Nat.reduceBEq]
    repeat ((with_reducible apply And.intro); (case left => first | omega | (simp only [List.length_append, List.length_cons, List.length_nil, List.length_drop, List.length_take, List.length_tail, List.length_dropLast, fs_length, ss_length, bs_length, ns_length]; omega)))
    try first | rfl | trace_state
  | true =>
    simp only [unVal, Bool.not_true, go_sem, reduceCtorEq, Nat.reduceEqDiff, reduceIte, Nat.reduceAdd, Nat.reduceSub, Nat.reduceLeDiff, Int.reduceToNat, Nat.reduceBEq]
    repeat ((with_reducible apply And.intro); (case left => first | omega | (simp only [List.length_append, List.length_cons, List.length_nil, List.length_drop, List.length_take, List.length_tail, List.length_dropLast, fs_length, ss_length, bs_length, ns_length]; omega)))
    repeat ((with_reducible apply And.intro); (case left => first | omega | (simp only [List.length_append, List.length_cons, List.length_nil, List.length_drop, List.length_take, List.length_tail, List.length_dropLast, fs_length, ss_length, bs_length, ns_length]; omega)))
    refine of_call (ris_snd p hp) ?_
    simp only [go_sem, reduceCtorEq, Nat.reduceEqDiff, reduceIte, Nat.reduceAdd, Nat.reduceSub, Nat.reduceLeDiff, Int.reduceToNat, Nat.reduceBEq]
    repeat ((with_reducible apply And.intro); (case left => first | omega | (simp only [List.length_append, List.length_cons, List.length_nil, List.length_drop, List.length_take, List.length_tail, List.length_dropLast, fs_length, ss_length, bs_length, ns_length]; omega)))
    cases isPath p with
    | false =>
      simp only [unVal, Bool.not_false, go_sem, reduceCtorEq, Nat.reduceEqDiff, reduceIte, Nat.reduceAdd, Nat.reduceSub, Nat.reduceLeDiff, Int.reduceToNat, Nat.reduceBEq]
      repeat ((with_reducible apply And.intro); (case left => first | omega | (simp only [List.length_append, List.length_cons, List.length_nil, List.length_drop, List.length_take, List.length_tail, List.length_dropLast, fs_length, ss_length, bs_length, ns_length]; omega)))
      repeat ((with_reducible apply And.intro); (case left => first | omega | (simp only [List.length_append, List.length_cons, List.length_nil, List.length_drop, List.length_take, List.length_tail, List.length_dropLast, fs_length, ss_length, bs_length, ns_length]; omega)))
      refine of_call (alives_snd) ?_
      simp only [go_sem, reduceCtorEq, Nat.reduceEqDiff, reduceIte, Nat.reduceAdd, Nat.reduceSub, Nat.reduceLeDiff, Int.reduceToNat, Nat.reduceBEq]
      repeat ((with_reducible apply And.intro); (case left => first | omega | (simp only [List.length_append, List.length_cons, List.length_nil, List.length_drop, List.length_take, List.length_tail, List.length_dropLast, fs_length, ss_length, bs_length, ns_length]; omega)))
      try first | rfl | trace_state
    | true =>
      have hll := hl.1
      simp only [unVal, Bool.not_true, lwAsks_k5_w, lwAsks_k5', go_sem, reduceCtorEq, Nat.reduceEqDiff, reduceIte, Nat.reduceAdd, Nat.reduceSub, Nat.reduceLeDiff, Int.reduceToNat, Nat.reduceBEq]
      repeat ((with_reducible apply And.intro); (case left => first | omega | (simp only [List.length_append, List.length_cons, List.length_nil, List.length_drop, List.length_take, List.length_tail, List.length_dropLast, fs_length, ss_length, bs_length, ns_length]; omega)))
      refine loop_up l.length (fun i => mkS [(0, .sl .frn 5 (fs fA l)), (1, S p), (16, N l.length), (17, N i)] []) rfl ?_
      intro i hi ih
      simp only [lwAsks_l3_w, lwAsks_l3', go_sem, reduceCtorEq, Nat.reduceEqDiff, reduceIte, Nat.reduceAdd, Nat.reduceSub, Nat.reduceLeDiff, Int.reduceToNat, Nat.reduceBEq]
      repeat ((with_reducible apply And.intro); (case left => first | omega | (simp only [List.length_append, List.length_cons, List.length_nil, List.length_drop, List.length_take, List.length_tail, List.length_dropLast, fs_length, ss_length, bs_length, ns_length]; omega)))
      by_cases h : i < l.length
      · have g := fs_getA h
        have q1 : IntKind.i64.wrap ((i : Int) + 1) = ((i + 1 : Nat) : Int) := wrapN _ (by omega) (by omega)
        have hr := hl.2 l[i] (List.getElem_mem h)
        generalize l[i] = r at g hr
        simp only [lt_t h, g, Int.toNat_natCast, lwAsks_k2_w, lwAsks_k2', go_sem, reduceCtorEq, Nat.reduceEqDiff, reduceIte, Nat.reduceAdd, Nat.reduceSub, Nat.reduceLeDiff, Int.reduceToNat, Nat.reduceBEq]
        repeat ((with_reducible apply And.intro); (case left => first | omega | (simp only [List.length_append, List.length_cons, List.length_nil, List.length_drop, List.length_take, List.length_tail, List.length_dropLast, fs_length, ss_length, bs_length, ns_length]; omega)))
        by_cases hd : r.2.1 = []
        · simp only [sn_f hd, lwAsks_k0_w, lwAsks_k0', lwAsks_k1_w, lwAsks_k1', q1, go_sem, reduceCtorEq, Nat.reduceEqDiff, reduceIte, Nat.reduceAdd, Nat.reduceSub, Nat.reduceLeDiff, Int.reduceToNat, Nat.reduceBEq]
          exact ih h
        · simp only [sn_t hd, g, Int.toNat_natCast, go_sem, reduceCtorEq, Nat.reduceEqDiff, reduceIte, Nat.reduceAdd, Nat.reduceSub, Nat.reduceLeDiff, Int.reduceToNat, Nat.reduceBEq]
          repeat ((with_reducible apply And.intro); (case left => first | omega | (simp only [List.length_append, List.length_cons, List.length_nil, List.length_drop, List.length_take, List.length_tail, List.length_dropLast, fs_length, ss_length, bs_length, ns_length]; omega)))
          refine of_call (ris_snd r.2.1 hr.2) ?_
          simp only [go_sem, reduceCtorEq, Nat.reduceEqDiff, reduceIte, Nat.reduceAdd, Nat.reduceSub, Nat.reduceLeDiff, Int.reduceToNat, Nat.reduceBEq]
          repeat ((with_reducible apply And.intro); (case left => first | omega | (simp only [List.length_append, List.length_cons, List.length_nil, List.length_drop, List.length_take, List.length_tail, List.length_dropLast, fs_length, ss_length, bs_length, ns_length]; omega)))
          cases isPath r.2.1 with
          | false =>
            simp only [unVal, Bool.not_false, lwAsks_k0_w, lwAsks_k0', go_sem, reduceCtorEq, Nat.reduceEqDiff, reduceIte, Nat.reduceAdd, Nat.reduceSub, Nat.reduceLeDiff, Int.reduceToNat, Nat.reduceBEq]
            repeat ((with_reducible apply And.intro); (case left => first | omega | (simp only [List.length_append, List.length_cons, List.length_nil, List.length_drop, List.length_take, List.length_tail, List.length_dropLast, fs_length, ss_length, bs_length, ns_length]; omega)))
            repeat ((with_reducible apply And.intro); (case left => first | omega | (simp only [List.length_append, List.length_cons, List.length_nil, List.length_drop, List.length_take, List.length_tail, List.length_dropLast, fs_length, ss_length, bs_length, ns_length]; omega)))
            refine of_call (alives_snd) ?_
            simp only [go_sem, reduceCtorEq, Nat.reduceEqDiff, reduceIte, Nat.reduceAdd, Nat.reduceSub, Nat.reduceLeDiff, Int.reduceToNat, Nat.reduceBEq]
            repeat ((with_reducible apply And.intro); (case left => first | omega | (simp only [List.length_append, List.length_cons, List.length_nil, List.length_drop, List.length_take, List.length_tail, List.length_dropLast, fs_length, ss_length, bs_length, ns_length]; omega)))
            try first | rfl | trace_state
          | true =>
            simp only [unVal, Bool.not_true, lwAsks_k0_w, lwAsks_k0', lwAsks_k1_w, lwAsks_k1', q1, go_sem, reduceCtorEq, Nat.reduceEqDiff, reduceIte, Nat.reduceAdd, Nat.reduceSub, Nat.reduceLeDiff, Int.reduceToNat, Nat.reduceBEq]
            repeat ((with_reducible apply And.intro); (case left => first | omega | (simp only [List.length_append, List.length_cons, List.length_nil, List.length_drop, List.length_take, List.length_tail, List.length_dropLast, fs_length, ss_length, bs_length, ns_length]; omega)))
            exact ih h
      · simp only [lt_f h, lwAsks_k4_w, lwAsks_k4', go_sem, reduceCtorEq, Nat.reduceEqDiff, reduceIte, Nat.reduceAdd, Nat.reduceSub, Nat.reduceLeDiff, Int.reduceToNat, Nat.reduceBEq]
        repeat ((with_reducible apply And.intro); (case left => first | omega | (simp only [List.length_append, List.length_cons, List.length_nil, List.length_drop, List.length_take, List.length_tail, List.length_dropLast, fs_length, ss_length, bs_length, ns_length]; omega)))
        refine of_call (of_snd l p hl.1 hl.2 hp) ?_
        simp only [go_sem, reduceCtorEq, Nat.reduceEqDiff, reduceIte, Nat.reduceAdd, Nat.reduceSub, Nat.reduceLeDiff, Int.reduceToNat, Nat.reduceBEq]
        repeat ((with_reducible apply And.intro); (case left => first | omega | (simp only [List.length_append, List.length_cons, List.length_nil, List.length_drop, List.length_take, List.length_tail, List.length_dropLast, fs_length, ss_length, bs_length, ns_length]; omega)))
        repeat ((with_reducible apply And.intro); (case left => first | omega | (simp only [List.length_append, List.length_cons, List.length_nil, List.length_drop, List.length_take, List.length_tail, List.length_dropLast, fs_length, ss_length, bs_length, ns_length]; omega)))
        refine of_call (rof31_snd l p hl.1 hl.2 hp) ?_
        simp only [go_sem, reduceCtorEq, Nat.reduceEqDiff, reduceIte, Nat.reduceAdd, Nat.reduceSub, Nat.reduceLeDiff, Int.reduceToNat, Nat.reduceBEq]
        repeat ((with_reducible apply And.intro); (case left => first | omega | (simp only [List.length_append, List.length_cons, List.length_nil, List.length_drop, List.length_take, List.length_tail, List.length_dropLast, fs_length, ss_length, bs_length, ns_length]; omega)))
        have q0 := eqA (ofA l p) (ofA l p)
        rw [beq_self_eq_true] at q0
        simp only [attT, q0, go_sem, reduceCtorEq, Nat.reduceEqDiff, reduceIte, Nat.reduceAdd, Nat.reduceSub, Nat.reduceLeDiff, Int.reduceToNat, Nat.reduceBEq]
        repeat ((with_reducible apply And.intro); (case left => first | omega | (simp only [List.length_append, List.length_cons, List.length_nil, List.length_drop, List.length_take, List.length_tail, List.length_dropLast, fs_length, ss_length, bs_length, ns_length]; omega)))
        refine of_call (alives_snd) ?_
        simp only [go_sem, reduceCtorEq, Nat.reduceEqDiff, reduceIte, Nat.reduceAdd, Nat.reduceSub, Nat.reduceLeDiff, Int.reduceToNat, Nat.reduceBEq]
        repeat ((with_reducible apply And.intro); (case left => first | omega | (simp only [List.length_append, List.length_cons, List.length_nil, List.length_drop, List.length_take, List.length_tail, List.length_dropLast, fs_length, ss_length, bs_length, ns_length]; omega)))
        try first | rfl | trace_state
end Go.At
namespace Go.Proofs.YtcahaecjjochbaaDoor
open Go.ChangeShapes Go.WideShapes Go.ChangeAt Go.RowKit
open Go.ChangeMaps (open_string shut_string)
open Go.Ev (X0 old Bs ss TabsAt)
set_option linter.unusedVariables false
theorem own : ownKnob Tryd.prog.godebug = none := by kernel_rfl
theorem laidOut : laidOutB Tryd.prog = true := by kernel_rfl
theorem maxLen_at {W : World} (h : W.ShapedOpen Tryd.prog) : ∃ m, W.cell? ⟨0, 0, none⟩ = some (.int .i64 m) :=
  cell_of_shapedOpen_int (zero := #[.int .i64 0]) (t := 3) h (of_decide_eq_true (by kernel_rfl)) (by kernel_rfl) rfl (by kernel_rfl) (by kernel_rfl) Tryd.underlying3
noncomputable def laidWorld (os : Os) : World :=
  let w0 := World.holding Tryd.prog os ⟨#[], #[], []⟩
  let put (h : Array Obj) (g : Nat) (cs : Array Value) : Array Obj := h.modify g fun
    | .cells _ t frozen => .cells cs t frozen
    | o => o
  let h1 := put w0.heap 1 (Lib.firstTab.map fun z => Value.int .u8 z).toArray
  let h2 := put h1 2 ((List.range 16).flatMap fun i => [Value.int .u8 (Lib.accLo i), Value.int .u8 (Lib.accHi i)]).toArray
  { w0 with heap := h2 }
def laid : List (String × DataW Unit) := [("unicode/utf8.acceptRanges", Rows.laid_unicode_utf8_acceptRanges), ("unicode/utf8.first", Rows.laid_unicode_utf8_first)]
set_option maxRecDepth 100000 in
theorem laid_met (os : Os) (args : Array Value) : laidMet Tryd.prog laid ((laidWorld os).forCall (fun _ _ => 0) ⟨#[], args, []⟩).memory :=
  laidMet_of_run' 8 (by kernel_rfl) (by kernel_rfl)
theorem tabs {W : World} {m : Int} (hm : W.cell? ⟨0, 0, none⟩ = some (.int .i64 m)) (_ : laidMet Tryd.prog laid W) : TabsAt (At.gl m) W (old W) where
  lit g vs hg v hv := by
    simp only [At.gl] at hg
    split at hg
    · injection hg with hg; subst hg; simp at hv; subst hv; exact ⟨rfl, rfl⟩
    · cases hg
  cell g vs hg k v hv := by
    simp only [At.gl] at hg
    split at hg
    · rename_i h0
      injection hg with hg; subst hg; subst h0
      cases k with
      | zero => simp at hv; subst hv; exact ⟨hm, Ev.cell_lt hm⟩
      | succ k => simp at hv
    · cases hg
  size g vs hg hl := by
    simp only [At.gl] at hg
    split at hg
    · injection hg with hg; subst hg; simp at hl
    · cases hg
theorem bulk_small {H : Type} {l : List (DataW H)} (hk : Rows.uptoSmall H l = true) : Rows.uptoBulkAll l ≤ 1048576 := of_decide_eq_true hk
def ubulk {H : Type} : Ev.Bulk H := ⟨Rows.uptoBulk, Rows.uptoBulkAll, fun s => by simp [Rows.uptoBulk], fun k n => by simp [Rows.uptoBulk], fun x => by simp [Rows.uptoBulk], by simp [Rows.uptoBulk], fun e s => by simp [Rows.uptoBulk], fun ps => by simp [Rows.uptoBulk], by simp [Rows.uptoBulkAll], fun d r => by simp [Rows.uptoBulkAll]⟩
end Go.Proofs.YtcahaecjjochbaaDoor
namespace Go.At
open Go Go.Ev
theorem ksumA_mem {α : Type} (f : α → Nat) {x : α} : ∀ {l : List α}, x ∈ l → f x ≤ ksum f l
  | y :: l, h => by
    simp only [ksum]
    rcases List.mem_cons.1 h with rfl | h
    · omega
    · have := ksumA_mem f h; omega
theorem ksumA_len {α : Type} (f : α → Nat) (hf : ∀ x, 1 ≤ f x) : ∀ l : List α, l.length ≤ ksum f l
  | [] => Nat.zero_le _
  | y :: l => by
    have := hf y; have := ksumA_len f hf l
    simp only [ksum, List.length_cons]; omega
def kA : Kd := .st (.pr .str (.pr .str (.st (.pr (.int .i64) (.pr (.int .i64) (.int .i64))))))
theorem okA_kb {l : List ARule} {n : Nat} (h : kb (.sl kA) l ≤ n) (hn : n ≤ 1048576) : okA l := by
  have h : ksum (fun v : ARule => kb kA v) l + 1 ≤ n := h
  have e : ∀ r : ARule, kb kA r = r.1.length + 1 + (r.2.1.length + 1 + ((1 + (1 + 1)) + 1)) + 1 := fun r => rfl
  refine ⟨?_, fun r hr => ?_⟩
  · have := ksumA_len (fun v : ARule => kb kA v) (fun r => by show 1 ≤ kb kA r; rw [e]; omega) l
    omega
  · have := ksumA_mem (fun v : ARule => kb kA v) hr
    have h2 : kb kA r ≤ ksum (fun v : ARule => kb kA v) l := this
    rw [e] at h2
    constructor <;> omega
end Go.At

