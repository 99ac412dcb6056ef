import Derived.Test.YtfkggoohajdabaaDoorWA
set_option linter.unusedVariables false
set_option linter.unusedSimpArgs false
/- Hunks: valid hunks, on both roads. -/
namespace Go.Hk
open Go Go.Ev Go.Proofs
set_option linter.unusedVariables false
set_option linter.unusedSimpArgs false
set_option maxHeartbeats 4000000
attribute [local go_sem] eqs implies_true List.map_cons List.map_nil kl klL roD roL Option.map_some Option.map_none Option.getD_some Option.getD_none binVal binObl unVal if_true if_false eq_self passA frnD resD content getH getR getW viaNot viaSlot viaBox viaDeep viaMem List.contains_cons List.contains_nil grabs peeks okCells isCell place cellsOf chunk elt List.headD_cons List.length_cons List.length_nil List.take_succ_cons List.take_zero List.drop_succ_cons List.drop_zero List.nil_append List.cons_append List.append_nil List.all_cons List.all_nil plainC takeR setW over reCell List.getElem?_cons_zero List.getElem?_cons_succ List.set_cons_zero List.take_length outV resG plainV pack outVG outBx List.set_cons_succ Ref.idx Ref.addOff beq_self_eq_true bxL Option.bind_some writeR isLit viaBoxes capsPA boxPA nsOf noDup boxesAt argG passG passD rhoIn rhoOut idxIn tr trL List.getD_cons_zero gives pasOf isPtr Ins.d List.getD_cons_succ resL frnL partB_f partB_t partB_p partB_s St.setP mixR v_slcT List.getLast?_nil List.getLast?_singleton List.dropLast_singleton List.nil_append frnL_fs roL_fs resL_fs passL_fs klL_fs trL_fs map_roD_fs fs_length hS_length frnL_hS roL_hS_own roL_hS_frn roL_hS_ro resL_hS_own resL_hS_ro klL_hS klL_hS_own klL_hS_frn passL_hS_own passL_hS_frn trL_hS_own trL_hS_frn
variable {m : Int × Bool}
def pvalid_k0' : AC := .cond (.tmp 53 false)
      (.seq (.reg (.seq [⟨some (2, true), none, .mov (.cst (.bool false) (.lit (.bool false))) .asg⟩])) [2] []
      (.ret))
      (.skip)
def pvalid_k0 : AC := pvalid_k0'
theorem pvalid_k0_w (C : Kn) (K : Ex → St → Prop) (s : St) : vcC C pvalid_k0 K s = vcC C pvalid_k0' K s := nr rfl
def pvalid_k1' : AC := .cond (.tmp 65 false)
      (.seq (.reg (.seq [⟨some (2, true), none, .mov (.cst (.bool false) (.lit (.bool false))) .asg⟩])) [2] []
      (.ret))
      (.skip)
def pvalid_k1 : AC := pvalid_k1'
theorem pvalid_k1_w (C : Kn) (K : Ex → St → Prop) (s : St) : vcC C pvalid_k1 K s = vcC C pvalid_k1' K s := nr rfl
def pvalid_k2' : AC := .reg (.seq [⟨some (66, false), none, .fad (.tmp 6 true) 0⟩,⟨some (67, false), none, .load (.tmp 66 false) 1 false false⟩,⟨some (68, false), none, .mov (.tmp 7 true) .peek⟩,⟨some (69, false), none, .bin .add (.tmp 67 false) (.tmp 68 false)⟩,⟨some (70, false), none, .mov (.tmp 4 true) .peek⟩,⟨some (71, false), none, .mov (.tmp 8 true) .peek⟩,⟨some (72, false), none, .bin .add (.tmp 70 false) (.tmp 71 false)⟩,⟨some (73, false), none, .mov (.tmp 7 true) .peek⟩,⟨some (74, false), none, .bin .sub (.tmp 72 false) (.tmp 73 false)⟩,⟨some (3, true), none, .mov (.tmp 69 false) .asg⟩,⟨some (4, true), none, .mov (.tmp 74 false) .asg⟩])
def pvalid_k2 : AC := pvalid_k2'
theorem pvalid_k2_w (C : Kn) (K : Ex → St → Prop) (s : St) : vcC C pvalid_k2 K s = vcC C pvalid_k2' K s := nr rfl
def pvalid_k3' : AC := .seq (.seq (.reg (.seq [⟨some (54, false), none, .fad (.tmp 6 true) 0⟩,⟨some (55, false), none, .load (.tmp 54 false) 1 false false⟩,⟨some (56, false), none, .mov (.tmp 7 true) .peek⟩,⟨some (57, false), none, .bin .add (.tmp 55 false) (.tmp 56 false)⟩,⟨some (58, false), none, .bin .gtr (.tmp 57 false) (.cst (.int .i64 4096) (.lit (.int .i64 4096)))⟩,⟨some (59, false), none, .mov (.tmp 58 false) .peek⟩,⟨some (60, false), (some (59, false)), .fad (.tmp 6 true) 1⟩,⟨some (61, false), (some (59, false)), .load (.tmp 60 false) 1 false false⟩,⟨some (62, false), (some (59, false)), .mov (.tmp 8 true) .peek⟩,⟨some (63, false), (some (59, false)), .bin .add (.tmp 61 false) (.tmp 62 false)⟩,⟨some (64, false), (some (59, false)), .bin .gtr (.tmp 63 false) (.cst (.int .i64 4096) (.lit (.int .i64 4096)))⟩,⟨some (65, false), none, .pick (.tmp 59 false) (.cst (.bool true) (.lit (.bool true))) (.tmp 64 false)⟩])) [0, 4, 6, 7, 8, 9, 10, 11, 65] [6] pvalid_k1) [0, 4, 6, 7, 8, 9, 10, 11] [6] pvalid_k2
def pvalid_k3 : AC := pvalid_k3'
theorem pvalid_k3_w (C : Kn) (K : Ex → St → Prop) (s : St) : vcC C pvalid_k3 K s = vcC C pvalid_k3' K s := nr rfl
def pvalid_k4' : AC := .reg (.seq [⟨some (75, false), none, .bin .add (.tmp 11 true) (.cst (.int .i64 1) (.lit (.int .i64 1)))⟩,⟨some (11, true), none, .mov (.tmp 75 false) .peek⟩])
def pvalid_k4 : AC := pvalid_k4'
theorem pvalid_k4_w (C : Kn) (K : Ex → St → Prop) (s : St) : vcC C pvalid_k4 K s = vcC C pvalid_k4' K s := nr rfl
def pvalid_k5' : AC := .seq (.block 1 (.seq (.reg (.seq [⟨some (13, false), none, .mov (.tmp 11 true) .take⟩,⟨some (14, false), none, .iad (.tmp 9 true) (.tmp 11 true) 3⟩,⟨some (15, false), none, .load (.tmp 14 false) 3 true true⟩,⟨some (6, true), none, .new [(.lit (.int .i64 0)), (.lit (.int .i64 0)), (.sl .own 2 [])]⟩,⟨some (5, true), none, .mov (.tmp 13 false) .asg⟩,⟨none, none, .store (.tmp 6 true) (.tmp 15 false) 3⟩])) [0, 3, 4, 5, 6, 9, 10, 11] [6]
    (.seq (.reg (.seq [⟨some (17, false), none, .load (.tmp 6 true) 3 true false⟩,⟨some (18, false), none, .call 48 [.tmp 17 false]⟩,⟨some (16, false), none, .mov (.tmp 18 false) .peek⟩,⟨some (19, false), none, .ext (.tmp 16 false) 0⟩,⟨some (20, false), none, .ext (.tmp 16 false) 1⟩,⟨some (7, true), none, .mov (.tmp 19 false) .asg⟩,⟨some (8, true), none, .mov (.tmp 20 false) .asg⟩])) [0, 3, 4, 5, 6, 7, 8, 9, 10, 11] [6]
    (.seq (.seq (.reg (.seq [⟨some (21, false), none, .fad (.tmp 6 true) 0⟩,⟨some (22, false), none, .load (.tmp 21 false) 1 false false⟩,⟨some (23, false), none, .bin .lss (.tmp 22 false) (.cst (.int .i64 0) (.lit (.int .i64 0)))⟩,⟨some (24, false), none, .mov (.tmp 23 false) .peek⟩,⟨some (25, false), (some (24, false)), .fad (.tmp 6 true) 0⟩,⟨some (26, false), (some (24, false)), .load (.tmp 25 false) 1 false false⟩,⟨some (27, false), (some (24, false)), .bin .gtr (.tmp 26 false) (.cst (.int .i64 4096) (.lit (.int .i64 4096)))⟩,⟨some (28, false), none, .pick (.tmp 24 false) (.cst (.bool true) (.lit (.bool true))) (.tmp 27 false)⟩,⟨some (29, false), none, .mov (.tmp 28 false) .peek⟩,⟨some (30, false), (some (29, false)), .fad (.tmp 6 true) 0⟩,⟨some (31, false), (some (29, false)), .load (.tmp 30 false) 1 false false⟩,⟨some (32, false), (some (29, false)), .mov (.tmp 3 true) .peek⟩,⟨some (33, false), (some (29, false)), .bin .leq (.tmp 31 false) (.tmp 32 false)⟩,⟨some (34, false), none, .pick (.tmp 29 false) (.cst (.bool true) (.lit (.bool true))) (.tmp 33 false)⟩,⟨some (35, false), none, .mov (.tmp 34 false) .peek⟩,⟨some (36, false), (some (35, false)), .fad (.tmp 6 true) 1⟩,⟨some (37, false), (some (35, false)), .load (.tmp 36 false) 1 false false⟩,⟨some (38, false), (some (35, false)), .fad (.tmp 6 true) 0⟩,⟨some (39, false), (some (35, false)), .load (.tmp 38 false) 1 false false⟩,⟨some (40, false), (some (35, false)), .mov (.tmp 4 true) .peek⟩,⟨some (41, false), (some (35, false)), .bin .add (.tmp 39 false) (.tmp 40 false)⟩,⟨some (42, false), (some (35, false)), .bin .neq (.tmp 37 false) (.tmp 41 false)⟩,⟨some (43, false), none, .pick (.tmp 35 false) (.cst (.bool true) (.lit (.bool true))) (.tmp 42 false)⟩,⟨some (44, false), none, .mov (.tmp 43 false) .peek⟩,⟨some (45, false), (some (44, false)), .load (.tmp 6 true) 3 true false⟩,⟨some (46, false), (some (44, false)), .mov (.tmp 5 true) .peek⟩,⟨some (47, false), (some (44, false)), .mov (.tmp 0 true) .peek⟩,⟨some (48, false), (some (44, false)), .lenL (.tmp 47 false)⟩,⟨some (49, false), (some (44, false)), .bin .sub (.tmp 48 false) (.cst (.int .i64 1) (.lit (.int .i64 1)))⟩,⟨some (50, false), (some (44, false)), .bin .eql (.tmp 46 false) (.tmp 49 false)⟩,⟨some (51, false), (some (44, false)), .call 49 [.tmp 45 false, .tmp 50 false]⟩,⟨some (52, false), (some (44, false)), .un .not (.tmp 51 false)⟩,⟨some (53, false), none, .pick (.tmp 44 false) (.cst (.bool true) (.lit (.bool true))) (.tmp 52 false)⟩])) [0, 4, 6, 7, 8, 9, 10, 11, 53] [6] pvalid_k0) [0, 4, 6, 7, 8, 9, 10, 11] [6] pvalid_k3)))) [0, 3, 4, 9, 10, 11] [] pvalid_k4
def pvalid_k5 : AC := pvalid_k5'
theorem pvalid_k5_w (C : Kn) (K : Ex → St → Prop) (s : St) : vcC C pvalid_k5 K s = vcC C pvalid_k5' K s := nr rfl
def pvalid_l6' : AC := .seq (.reg (.seq [⟨some (12, false), none, .bin .lss (.tmp 11 true) (.tmp 10 true)⟩])) [0, 3, 4, 9, 10, 11, 12] []
  (.seq (.cond (.tmp 12 false)
    (.skip)
    (.exit 0)) [0, 3, 4, 9, 10, 11] [] pvalid_k5)
def pvalid_l6 : AC := pvalid_l6'
theorem pvalid_l6_w (C : Kn) (K : Ex → St → Prop) (s : St) : vcC C pvalid_l6 K s = vcC C pvalid_l6' K s := nr rfl
def pvalid_k7' : AC := .seq (.reg (.seq [⟨some (2, true), none, .mov (.cst (.bool true) (.lit (.bool true))) .asg⟩])) [2] []
  (.ret)
def pvalid_k7 : AC := pvalid_k7'
theorem pvalid_k7_w (C : Kn) (K : Ex → St → Prop) (s : St) : vcC C pvalid_k7 K s = vcC C pvalid_k7' K s := nr rfl
def pvalid : AF := ⟨.seq (.reg (.seq [⟨some (2, true), none, .mov (.cst (.bool false) (.lit (.bool false))) .asg⟩])) [0] []
  (.seq (.reg (.seq [⟨some (3, true), none, .mov (.cst (.int .i64 (-1)) (.lit (.int .i64 (-1)))) .asg⟩,⟨some (4, true), none, .mov (.cst (.int .i64 0) (.lit (.int .i64 0))) .asg⟩])) [0, 3, 4] []
  (.seq (.seq (.reg (.seq [⟨some (9, true), none, .mov (.tmp 0 true) .peek⟩,⟨some (10, true), none, .lenL (.tmp 9 true)⟩,⟨some (11, true), none, .mov (.cst (.int .i64 0) (.lit (.int .i64 0))) .peek⟩])) [0, 3, 4, 9, 10, 11] []
  (.block 0 (.loop [0, 3, 4, 9, 10, 11] [] pvalid_l6))) [] [] pvalid_k7)),
  [.tmp 2]⟩
theorem pvalid_comp (m : Int × Bool) : compF Tryd.prog (gl m) [] Tryd.f28 = some pvalid := by kernel_rfl
def okHs (l : List Hk) : Prop := l.length ≤ 1048576 ∧ ∀ h, h ∈ l → okL h.2.2
theorem okH_iff {h : Hk} {last : Bool} {e off : Int} : okH h last e off = true ↔ 0 ≤ h.1 ∧ e < h.1 ∧ h.2.1 = h.1 + off ∧ insideB h.2.2 last = true ∧ h.1 + cntO h.2.2 ≤ 4096 ∧ h.2.1 + cntN h.2.2 ≤ 4096 := by
  simp only [okH, Bool.and_eq_true, decide_eq_true_eq, beq_iff_eq, and_assoc]
theorem val_fail {l : List Hk} {i : Nat} (h : i < l.length) {q : Int × Int} (hq : valS l i = some q) (ho : ¬ okH l[i] (i + 1 == l.length) q.1 q.2 = true) : valid l = false := by
  have : valS l (i + 1) = none := by rw [valS_step l h hq, if_neg ho]
  rw [valid, valS_none l this (show i + 1 ≤ l.length by omega)]; rfl
theorem pvalid_snd (l : List Hk) (hl : okHs l) : Snd Tryd.prog (gl m) 28 [.sl .frn 3 (hS .frn l)] (B (valid l)) := by
  refine snd_of (fn := Tryd.f28) (af := pvalid) Tryd.func28 (pvalid_comp m) mixed (kn_ok m) (Nat.le_of_ble_eq_true rfl) ?_
  simp only [pvalid, go_sem, reduceCtorEq, Nat.reduceEqDiff, reduceIte, Nat.reduceAdd, Nat.reduceSub, Nat.reduceLeDiff, Int.reduceToNat, Nat.reduceBEq]
  obtain ⟨hll, hls⟩ := hl
  refine loop_wf (fun x : Nat × Int × Int => l.length - x.1) (fun x => mkS [(0, .sl .frn 3 (hS .frn l)), (3, I x.2.1), (4, I x.2.2), (9, .sl .frn 3 (hS .frn l)), (10, N l.length), (11, N x.1)] [])
    (fun x => x.1 ≤ l.length ∧ valS l x.1 = some x.2) (0, (-1, 0)) rfl ⟨by omega, rfl⟩ ?_
  rintro ⟨i, e, off⟩ ⟨hi, hq⟩ ih
  dsimp only at hi hq ih
  simp only [pvalid_l6_w, pvalid_l6', go_sem, reduceCtorEq, Nat.reduceEqDiff, reduceIte, Nat.reduceAdd, Nat.reduceSub, Nat.reduceLeDiff, Int.reduceToNat, Nat.reduceBEq]
  repeat ((with_reducible apply And.intro); (case left => first | omega | (simp only [List.length_append, List.length_cons, List.length_nil, List.length_drop, List.length_take, List.length_tail, List.length_dropLast, fs_length, ss_length, bs_length, ns_length]; omega)))
  by_cases h : i < l.length
  · have g := hS_get (fl := .frn) h
    have q1 : IntKind.i64.wrap ((i : Int) + 1) = ((i + 1 : Nat) : Int) := wrapN _ (by omega) (by omega)
    have qn : IntKind.i64.wrap ((l.length : Int) - 1) = ((l.length - 1 : Nat) : Int) := wrapN _ (by omega) (by omega)
    have hx := hls l[i] (List.getElem_mem h)
    have hb := valS_bound hq
    have hstep := valS_step l h hq
    have hfail := val_fail h hq
    have hlast : ((i : Int) == ((l.length - 1 : Nat) : Int)) = (i + 1 == l.length) := by
      by_cases he : i + 1 = l.length
      · have e1 : (i + 1 == l.length) = true := by simpa using he
        have e2 : ((i : Int) == ((l.length - 1 : Nat) : Int)) = true := by rw [beq_iff_eq]; omega
        rw [e1, e2]
      · have e1 : (i + 1 == l.length) = false := by simpa using he
        have e2 : ((i : Int) == ((l.length - 1 : Nat) : Int)) = false := by rw [beq_eq_false_iff_ne]; omega
        rw [e1, e2]
    rw [okH_iff] at hfail
    generalize l[i] = x at g hx hstep hfail
    generalize (i + 1 == l.length) = last at hlast hstep hfail
    dsimp only at hb hstep hfail
    have hO := Nat.le_trans (cntO_le x.2.2) hx.1
    have hN := Nat.le_trans (cntN_le x.2.2) hx.1
    simp only [lt_t h, g, Int.toNat_natCast, pvalid_k0_w, pvalid_k0', pvalid_k1_w, pvalid_k1', pvalid_k2_w, pvalid_k2', pvalid_k3_w, pvalid_k3', pvalid_k4_w, pvalid_k4', pvalid_k5_w, pvalid_k5', go_sem, reduceCtorEq, Nat.reduceEqDiff, reduceIte, Nat.reduceAdd, Nat.reduceSub, Nat.reduceLeDiff, Int.reduceToNat, Nat.reduceBEq]
    repeat ((with_reducible apply And.intro); (case left => first | omega | (simp only [List.length_append, List.length_cons, List.length_nil, List.length_drop, List.length_take, List.length_tail, List.length_dropLast, fs_length, ss_length, bs_length, ns_length]; omega)))
    refine of_call (psizes_snd x hx.1) ?_
    simp only [go_sem, reduceCtorEq, Nat.reduceEqDiff, reduceIte, Nat.reduceAdd, Nat.reduceSub, Nat.reduceLeDiff, Int.reduceToNat, Nat.reduceBEq]
    repeat ((with_reducible apply And.intro); (case left => first | omega | (simp only [List.length_append, List.length_cons, List.length_nil, List.length_drop, List.length_take, List.length_tail, List.length_dropLast, fs_length, ss_length, bs_length, ns_length]; omega)))
    by_cases c1 : x.1 < 0
    · rw [hfail (by intro h; omega)]
      simp only [ilt_t c1, pvalid_k0_w, pvalid_k0', pvalid_k1_w, pvalid_k1', pvalid_k2_w, pvalid_k2', pvalid_k3_w, pvalid_k3', pvalid_k4_w, pvalid_k4', pvalid_k5_w, pvalid_k5', go_sem, reduceCtorEq, Nat.reduceEqDiff, reduceIte, Nat.reduceAdd, Nat.reduceSub, Nat.reduceLeDiff, Int.reduceToNat, Nat.reduceBEq]
      first | rfl | omega | trace_state
    by_cases c2 : 4096 < x.1
    · rw [hfail (by intro h; omega)]
      simp only [ilt_f c1, igt_t c2, pvalid_k0_w, pvalid_k0', pvalid_k1_w, pvalid_k1', pvalid_k2_w, pvalid_k2', pvalid_k3_w, pvalid_k3', pvalid_k4_w, pvalid_k4', pvalid_k5_w, pvalid_k5', go_sem, reduceCtorEq, Nat.reduceEqDiff, reduceIte, Nat.reduceAdd, Nat.reduceSub, Nat.reduceLeDiff, Int.reduceToNat, Nat.reduceBEq]
      first | rfl | omega | trace_state
    by_cases c3 : x.1 ≤ e
    · rw [hfail (by intro h; omega)]
      simp only [ilt_f c1, igt_f c2, decide_eq_true c3, pvalid_k0_w, pvalid_k0', pvalid_k1_w, pvalid_k1', pvalid_k2_w, pvalid_k2', pvalid_k3_w, pvalid_k3', pvalid_k4_w, pvalid_k4', pvalid_k5_w, pvalid_k5', go_sem, reduceCtorEq, Nat.reduceEqDiff, reduceIte, Nat.reduceAdd, Nat.reduceSub, Nat.reduceLeDiff, Int.reduceToNat, Nat.reduceBEq]
      first | rfl | omega | trace_state
    have qo : IntKind.i64.wrap (x.1 + off) = x.1 + off := wrap_in (by omega) (by omega)
    by_cases c4 : ¬ x.2.1 = x.1 + off
    · rw [hfail (by intro h; omega)]
      simp only [ilt_f c1, igt_f c2, decide_eq_false c3, qo, ne_t c4, pvalid_k0_w, pvalid_k0', pvalid_k1_w, pvalid_k1', pvalid_k2_w, pvalid_k2', pvalid_k3_w, pvalid_k3', pvalid_k4_w, pvalid_k4', pvalid_k5_w, pvalid_k5', go_sem, reduceCtorEq, Nat.reduceEqDiff, reduceIte, Nat.reduceAdd, Nat.reduceSub, Nat.reduceLeDiff, Int.reduceToNat, Nat.reduceBEq]
      first | rfl | omega | trace_state
    have c4 := Classical.not_not.1 c4
    simp only [ilt_f c1, igt_f c2, decide_eq_false c3, qo, ne_f c4, qn, hlast, pvalid_k0_w, pvalid_k0', pvalid_k1_w, pvalid_k1', pvalid_k2_w, pvalid_k2', pvalid_k3_w, pvalid_k3', pvalid_k4_w, pvalid_k4', pvalid_k5_w, pvalid_k5', go_sem, reduceCtorEq, Nat.reduceEqDiff, reduceIte, Nat.reduceAdd, Nat.reduceSub, Nat.reduceLeDiff, Int.reduceToNat, Nat.reduceBEq]
    repeat ((with_reducible apply And.intro); (case left => first | omega | (simp only [List.length_append, List.length_cons, List.length_nil, List.length_drop, List.length_take, List.length_tail, List.length_dropLast, fs_length, ss_length, bs_length, ns_length]; omega)))
    refine of_call (pins_snd x last hx) ?_
    simp only [go_sem, reduceCtorEq, Nat.reduceEqDiff, reduceIte, Nat.reduceAdd, Nat.reduceSub, Nat.reduceLeDiff, Int.reduceToNat, Nat.reduceBEq]
    repeat ((with_reducible apply And.intro); (case left => first | omega | (simp only [List.length_append, List.length_cons, List.length_nil, List.length_drop, List.length_take, List.length_tail, List.length_dropLast, fs_length, ss_length, bs_length, ns_length]; omega)))
    cases c5 : insideB x.2.2 last with
    | false =>
      rw [hfail (by rw [c5]; intro h; exact absurd h.2.2.2.1 (by simp))]
      simp only [unVal, Bool.not_false, pvalid_k0_w, pvalid_k0', pvalid_k1_w, pvalid_k1', pvalid_k2_w, pvalid_k2', pvalid_k3_w, pvalid_k3', pvalid_k4_w, pvalid_k4', pvalid_k5_w, pvalid_k5', go_sem, reduceCtorEq, Nat.reduceEqDiff, reduceIte, Nat.reduceAdd, Nat.reduceSub, Nat.reduceLeDiff, Int.reduceToNat, Nat.reduceBEq]
      first | rfl | omega | trace_state
    | true =>
      have qa : IntKind.i64.wrap (x.1 + ((cntO x.2.2 : Nat) : Int)) = x.1 + ((cntO x.2.2 : Nat) : Int) := wrap_in (by omega) (by omega)
      have qb : IntKind.i64.wrap (x.2.1 + ((cntN x.2.2 : Nat) : Int)) = x.2.1 + ((cntN x.2.2 : Nat) : Int) := wrap_in (by omega) (by omega)
      have qc : IntKind.i64.wrap (off + ((cntN x.2.2 : Nat) : Int)) = off + ((cntN x.2.2 : Nat) : Int) := wrap_in (by omega) (by omega)
      have qd : IntKind.i64.wrap (off + ((cntN x.2.2 : Nat) : Int) - ((cntO x.2.2 : Nat) : Int)) = off + ((cntN x.2.2 : Nat) : Int) - ((cntO x.2.2 : Nat) : Int) := wrap_in (by omega) (by omega)
      by_cases c6 : 4096 < x.1 + ((cntO x.2.2 : Nat) : Int)
      · rw [hfail (by intro h; omega)]
        simp only [unVal, Bool.not_true, qa, igt_t c6, pvalid_k0_w, pvalid_k0', pvalid_k1_w, pvalid_k1', pvalid_k2_w, pvalid_k2', pvalid_k3_w, pvalid_k3', pvalid_k4_w, pvalid_k4', pvalid_k5_w, pvalid_k5', go_sem, reduceCtorEq, Nat.reduceEqDiff, reduceIte, Nat.reduceAdd, Nat.reduceSub, Nat.reduceLeDiff, Int.reduceToNat, Nat.reduceBEq]
        first | rfl | omega | trace_state
      by_cases c7 : 4096 < x.2.1 + ((cntN x.2.2 : Nat) : Int)
      · rw [hfail (by intro h; omega)]
        simp only [unVal, Bool.not_true, qa, qb, igt_f c6, igt_t c7, pvalid_k0_w, pvalid_k0', pvalid_k1_w, pvalid_k1', pvalid_k2_w, pvalid_k2', pvalid_k3_w, pvalid_k3', pvalid_k4_w, pvalid_k4', pvalid_k5_w, pvalid_k5', go_sem, reduceCtorEq, Nat.reduceEqDiff, reduceIte, Nat.reduceAdd, Nat.reduceSub, Nat.reduceLeDiff, Int.reduceToNat, Nat.reduceBEq]
        first | rfl | omega | trace_state
      rw [if_pos (okH_iff.2 ⟨by omega, by omega, c4, c5, by omega, by omega⟩)] at hstep
      simp only [unVal, Bool.not_true, qa, qb, qc, qd, q1, igt_f c6, igt_f c7, pvalid_k0_w, pvalid_k0', pvalid_k1_w, pvalid_k1', pvalid_k2_w, pvalid_k2', pvalid_k3_w, pvalid_k3', pvalid_k4_w, pvalid_k4', pvalid_k5_w, pvalid_k5', go_sem, reduceCtorEq, Nat.reduceEqDiff, reduceIte, Nat.reduceAdd, Nat.reduceSub, Nat.reduceLeDiff, Int.reduceToNat, Nat.reduceBEq]
      repeat ((with_reducible apply And.intro); (case left => first | omega | (simp only [List.length_append, List.length_cons, List.length_nil, List.length_drop, List.length_take, List.length_tail, List.length_dropLast, fs_length, ss_length, bs_length, ns_length]; omega)))
      exact ih (i + 1, x.1 + ((cntO x.2.2 : Nat) : Int), off + ((cntN x.2.2 : Nat) : Int) - ((cntO x.2.2 : Nat) : Int)) (by dsimp only; omega) ⟨h, hstep⟩
  · obtain rfl : i = l.length := by omega
    have : valid l = true := by rw [valid, hq]; rfl
    rw [this]
    simp only [lt_f h, pvalid_k7_w, pvalid_k7', go_sem, reduceCtorEq, Nat.reduceEqDiff, reduceIte, Nat.reduceAdd, Nat.reduceSub, Nat.reduceLeDiff, Int.reduceToNat, Nat.reduceBEq]
    first | rfl | omega | trace_state
end Go.Hk
namespace Go.Hk
open Go Go.Ev Go.Proofs
set_option linter.unusedVariables false
set_option linter.unusedSimpArgs false
set_option maxHeartbeats 4000000
attribute [local go_sem] eqs implies_true List.map_cons List.map_nil kl klL roD roL Option.map_some Option.map_none Option.getD_some Option.getD_none binVal binObl unVal if_true if_false eq_self passA frnD resD content getH getR getW viaNot viaSlot viaBox viaDeep viaMem List.contains_cons List.contains_nil grabs peeks okCells isCell place cellsOf chunk elt List.headD_cons List.length_cons List.length_nil List.take_succ_cons List.take_zero List.drop_succ_cons List.drop_zero List.nil_append List.cons_append List.append_nil List.all_cons List.all_nil plainC takeR setW over reCell List.getElem?_cons_zero List.getElem?_cons_succ List.set_cons_zero List.take_length outV resG plainV pack outVG outBx List.set_cons_succ Ref.idx Ref.addOff beq_self_eq_true bxL Option.bind_some writeR isLit viaBoxes capsPA boxPA nsOf noDup boxesAt argG passG passD rhoIn rhoOut idxIn tr trL List.getD_cons_zero gives pasOf isPtr Ins.d List.getD_cons_succ resL frnL partB_f partB_t partB_p partB_s St.setP mixR v_slcT List.getLast?_nil List.getLast?_singleton List.dropLast_singleton List.nil_append frnL_fs roL_fs resL_fs passL_fs klL_fs trL_fs map_roD_fs fs_length hS_length frnL_hS roL_hS_own roL_hS_frn roL_hS_ro resL_hS_own resL_hS_ro klL_hS klL_hS_own klL_hS_frn passL_hS_own passL_hS_frn trL_hS_own trL_hS_frn
variable {m : Int × Bool}
end Go.Hk
namespace Go.Hk
open Go Go.Ev Go.Proofs
set_option linter.unusedVariables false
set_option linter.unusedSimpArgs false
set_option maxHeartbeats 4000000
attribute [local go_sem] eqs implies_true List.map_cons List.map_nil kl klL roD roL Option.map_some Option.map_none Option.getD_some Option.getD_none binVal binObl unVal if_true if_false eq_self passA frnD resD content getH getR getW viaNot viaSlot viaBox viaDeep viaMem List.contains_cons List.contains_nil grabs peeks okCells isCell place cellsOf chunk elt List.headD_cons List.length_cons List.length_nil List.take_succ_cons List.take_zero List.drop_succ_cons List.drop_zero List.nil_append List.cons_append List.append_nil List.all_cons List.all_nil plainC takeR setW over reCell List.getElem?_cons_zero List.getElem?_cons_succ List.set_cons_zero List.take_length outV resG plainV pack outVG outBx List.set_cons_succ Ref.idx Ref.addOff beq_self_eq_true bxL Option.bind_some writeR isLit viaBoxes capsPA boxPA nsOf noDup boxesAt argG passG passD rhoIn rhoOut idxIn tr trL List.getD_cons_zero gives pasOf isPtr Ins.d List.getD_cons_succ resL frnL partB_f partB_t partB_p partB_s St.setP mixR v_slcT List.getLast?_nil List.getLast?_singleton List.dropLast_singleton List.nil_append frnL_fs roL_fs resL_fs passL_fs klL_fs trL_fs map_roD_fs fs_length hS_length frnL_hS roL_hS_own roL_hS_frn roL_hS_ro resL_hS_own resL_hS_ro klL_hS klL_hS_own klL_hS_frn passL_hS_own passL_hS_frn trL_hS_own trL_hS_frn
variable {m : Int × Bool}
structure EdB (F T : Int) (j : Nat) (q : Ed × List Ed) (o : List Ed) : Prop where
  f : F ≤ q.1.1
  d : 0 ≤ q.1.2.1
  t : T ≤ q.1.2.2.1
  i : 0 ≤ q.1.2.2.2
  fd : q.1.1 + q.1.2.1 ≤ F + j
  ti : q.1.2.2.1 + q.1.2.2.2 ≤ T + j
  l : q.2.length ≤ o.length + j
theorem valid_from {l : List Hk} (h : valid l = true) {i : Nat} (hi : i < l.length) : 0 ≤ l[i].1 ∧ l[i].1 ≤ 4096 ∧ 0 ≤ l[i].2.1 ∧ l[i].2.1 ≤ 4096 := by
  obtain ⟨q, hq, ho, _⟩ := valid_ok h hi
  have hb := valS_bound hq
  obtain ⟨h1, h2, h3, _, h5, h6⟩ := okH_iff.1 ho
  omega
end Go.Hk
namespace Go.Hk
open Go Go.Ev Go.Proofs
set_option linter.unusedVariables false
set_option linter.unusedSimpArgs false
set_option maxHeartbeats 4000000
variable {m : Int × Bool}
abbrev P0 : AV := .ptr ⟨.box 10000 0, []⟩
def wA (j : Nat) (a : List Bs) : AV := if j = 0 then .sl .frn 1 (ss a) else if j = 1 then .sl .ro 1 (ss a) else .junk
def kj (j : Nat) : Nat := if j = 0 then 0 else 2
def tj (j : Nat) : Nat := if j = 0 then 1 else j
theorem kl_wA (p : Bool → Ref → Bool) (j : Nat) (a : List Bs) : kl p true (wA j a) = wA (kj j) a := by
  by_cases h0 : j = 0
  · subst h0; simp only [wA, kj, if_true, kl]; simp [klL_ss]
  · by_cases h1 : j = 1
    · subst h1; simp [wA, kj, kl]
    · simp [wA, kj, h0, h1, kl]
theorem kl_wA' (p : Bool → Ref → Bool) (j : Nat) (a : List Bs) : kl p false (wA j a) = wA j a := by
  by_cases h0 : j = 0
  · subst h0; simp [wA, kl]
  · by_cases h1 : j = 1
    · subst h1; simp [wA, kl]
    · simp [wA, h0, h1, kl]
theorem tr_wA (ρ : Nat → Option Nat) (j : Nat) (a : List Bs) : tr ρ true (wA j a) = wA (tj j) a := by
  by_cases h0 : j = 0
  · subst h0; simp [wA, tj, tr, trL_ss]
  · by_cases h1 : j = 1
    · subst h1; simp [wA, tj, tr, trL_ss]
    · simp [wA, tj, h0, h1, tr]
theorem tr_wA' (ρ : Nat → Option Nat) (j : Nat) (a : List Bs) : tr ρ false (wA j a) = wA j a := by
  by_cases h0 : j = 0
  · subst h0; simp [wA, tr, trL_ss]
  · by_cases h1 : j = 1
    · subst h1; simp [wA, tr, trL_ss]
    · simp [wA, h0, h1, tr]
theorem kj_kj (j : Nat) : kj (kj j) = kj j := by unfold kj; split <;> simp
theorem fs_snocL (l : List HL) (k : Int) (s : Bs) : fs fL l ++ [.agg [I k, S s]] = fs fL (l ++ [(k, s)]) := fs_snoc fL l (k, s)
theorem hS_set1 (out : List Hk) (c : Hk) (x : AV) : (hS .own (out ++ [c])).set out.length x = hS .own out ++ [x] := by
  rw [hS, List.map_append, List.set_append_right _ _ (by simp)]; simp [hS]
theorem hS_get1 (out : List Hk) (x : AV) : (hS .own out ++ [x])[out.length]? = some x := by
  rw [List.getElem?_append_right (by rw [hS_length]; exact Nat.le_refl _), hS_length, Nat.sub_self]; rfl
theorem hS_set2 (out : List Hk) (x y : AV) : (hS .own out ++ [x]).set out.length y = hS .own out ++ [y] := by
  rw [List.set_append_right _ _ (by rw [hS_length]; exact Nat.le_refl _), hS_length, Nat.sub_self]; rfl
theorem klL_hS1 (p : Bool → Ref → Bool) (out : List Hk) (x : AV) : klL p true (hS .own out ++ [x]) = hS .own out ++ [kl p true x] := by
  rw [klL_eq, List.map_append, ← klL_eq, klL_hS_own]; rfl
theorem hS_snocO (l : List Hk) (a b : Int) (L : List HL) : hS .own l ++ [.agg [I a, I b, .sl .own 2 (fs fL L)]] = hS .own (l ++ [(a, b, L)]) := hS_snoc .own l (a, b, L)
theorem stale1 (xs : List AV) (i : Nat) : staleOf [.sl .ro 2 xs] false ⟨.box 10000 3, [⟨i, 0, 3⟩]⟩ = false := rfl
theorem kL_snoc (k : Int) {L : List Bs} {i : Nat} (h : i < L.length) : kL k (L.take (i + 1)) = kL k (L.take i) ++ [(k, L[i])] := by rw [take_snoc h, kL_app]; rfl
def jf (i j : Nat) : Nat := if i = 0 then j else kj j
theorem jf_s (i j : Nat) : jf (i + 1) j = kj j := if_neg (Nat.succ_ne_zero i)
theorem kj_jf (i j : Nat) : kj (jf i j) = jf (i + 1) j := by
  rw [jf_s]
  cases i with
  | zero => rfl
  | succ i => rw [jf_s]; exact kj_kj j
end Go.Hk

