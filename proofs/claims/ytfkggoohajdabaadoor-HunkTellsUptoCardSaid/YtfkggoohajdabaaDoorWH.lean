import Derived.Test.YtfkggoohajdabaaDoorWB
import Derived.Test.YtfkggoohajdabaaDoorPA
import Derived.Test.YtfkggoohajdabaaDoorWE
import Derived.Test.YtfkggoohajdabaaDoorWF
import Derived.Test.YtfkggoohajdabaaDoorWG
set_option linter.unusedVariables false
set_option linter.unusedSimpArgs false
/- The hunks of a script are not too many, not too long. -/
namespace Go.Hk
open Go.Ln (Bs)
set_option linter.unusedVariables false
set_option linter.unusedSimpArgs false
def inAB (a b : List Bs) (L : List HL) : Prop := ∀ x, x ∈ L → x.2 ∈ a ∨ x.2 ∈ b
theorem inAB.app {a b : List Bs} {L M : List HL} (h : inAB a b L) (h' : inAB a b M) : inAB a b (L ++ M) := fun x hx => (List.mem_append.1 hx).elim (h x) (h' x)
structure OfOk (a b : List Bs) (i : Nat) (q : OfT) : Prop where
  n : q.1.length ≤ i
  o : ∀ h, h ∈ q.1 → h.2.2.length ≤ (i + 1) * (2 * a.length + b.length) ∧ inAB a b h.2.2
  c : q.2.1.2.2.length ≤ (i + 1) * (2 * a.length + b.length) ∧ inAB a b q.2.1.2.2
end Go.Hk
namespace Go.Hk
open Go Go.Ev Go.Proofs
set_option linter.unusedVariables false
set_option linter.unusedSimpArgs false
set_option maxHeartbeats 4000000
attribute [local go_sem] eqs implies_true List.map_cons List.map_nil kl klL roD roL Option.map_some Option.map_none Option.getD_some Option.getD_none binVal binObl unVal if_true if_false eq_self passA frnD resD content getH getR getW viaNot viaSlot viaBox viaDeep viaMem List.contains_cons List.contains_nil grabs peeks okCells isCell place cellsOf chunk elt List.headD_cons List.length_cons List.length_nil List.take_succ_cons List.take_zero List.drop_succ_cons List.drop_zero List.nil_append List.cons_append List.append_nil List.all_cons List.all_nil plainC takeR setW over reCell List.getElem?_cons_zero List.getElem?_cons_succ List.set_cons_zero List.take_length outV resG plainV pack outVG outBx List.set_cons_succ Ref.idx Ref.addOff beq_self_eq_true bxL Option.bind_some writeR isLit viaBoxes capsPA boxPA nsOf noDup boxesAt argG passG passD rhoIn rhoOut idxIn tr trL List.getD_cons_zero gives pasOf isPtr Ins.d List.getD_cons_succ resL frnL partB_f partB_t partB_p partB_s St.setP mixR v_slcT List.getLast?_nil List.getLast?_singleton List.dropLast_singleton List.nil_append frnL_fs roL_fs resL_fs passL_fs klL_fs trL_fs map_roD_fs fs_length hS_length frnL_hS roL_hS_own roL_hS_frn roL_hS_ro resL_hS_own resL_hS_ro klL_hS klL_hS_own klL_hS_frn passL_hS_own passL_hS_frn trL_hS_own trL_hS_frn frnL_ns resL_ns roL_ns passL_ns klL_ns
variable {m : Int × Bool}
def pTellsL_k0' : AC := .ret
def pTellsL_k0 : AC := pTellsL_k0'
theorem pTellsL_k0_w (C : Kn) (K : Ex → St → Prop) (s : St) : vcC C pTellsL_k0 K s = vcC C pTellsL_k0' K s := nr rfl
def pTellsL_k1' : AC := .seq (.reg (.seq [⟨some (7, false), none, .mov (.tmp 0 true) .peek⟩,⟨some (8, false), none, .call 28 [.tmp 7 false]⟩,⟨some (9, false), none, .mov (.tmp 0 true) .peek⟩,⟨some (10, false), none, .call 29 [.tmp 9 false]⟩,⟨some (11, false), none, .eqb false (.tmp 8 false) (.tmp 10 false)⟩,⟨some (12, false), none, .mov (.tmp 11 false) .peek⟩,⟨some (13, false), (some (12, true)), .mov (.tmp 0 true) .peek⟩,⟨some (14, false), (some (12, true)), .call 30 [.tmp 13 false]⟩,⟨some (15, false), (some (12, true)), .mov (.tmp 0 true) .peek⟩,⟨some (16, false), (some (12, true)), .call 31 [.tmp 15 false]⟩,⟨some (17, false), (some (12, true)), .bin .eql (.tmp 14 false) (.tmp 16 false)⟩,⟨some (18, false), none, .pick (.tmp 12 false) (.tmp 17 false) (.cst (.bool false) (.lit (.bool false)))⟩,⟨some (19, false), none, .mov (.tmp 18 false) .peek⟩,⟨some (20, false), (some (19, true)), .mov (.tmp 0 true) .peek⟩,⟨some (21, false), (some (19, true)), .call 26 [.tmp 20 false]⟩,⟨some (22, false), (some (19, true)), .mov (.tmp 0 true) .peek⟩,⟨some (23, false), (some (19, true)), .call 27 [.tmp 22 false]⟩,⟨some (24, false), (some (19, true)), .call 25 [.tmp 21 false, .tmp 23 false]⟩,⟨some (25, false), none, .pick (.tmp 19 false) (.tmp 24 false) (.cst (.bool false) (.lit (.bool false)))⟩,⟨some (26, false), none, .mov (.tmp 25 false) .peek⟩,⟨some (27, false), (some (26, true)), .mov (.tmp 0 true) .peek⟩,⟨some (28, false), (some (26, true)), .call 32 [.tmp 27 false]⟩,⟨some (29, false), (some (26, true)), .mov (.tmp 0 true) .peek⟩,⟨some (30, false), (some (26, true)), .call 33 [.tmp 29 false]⟩,⟨some (31, false), (some (26, true)), .call 23 [.tmp 28 false, .tmp 30 false]⟩,⟨some (32, false), none, .pick (.tmp 26 false) (.tmp 31 false) (.cst (.bool false) (.lit (.bool false)))⟩,⟨some (33, false), none, .mov (.tmp 32 false) .peek⟩,⟨some (34, false), (some (33, true)), .call 10 []⟩,⟨some (35, false), none, .pick (.tmp 33 false) (.tmp 34 false) (.cst (.bool false) (.lit (.bool false)))⟩,⟨some (2, true), none, .mov (.tmp 35 false) .asg⟩])) [2] [] pTellsL_k0
def pTellsL_k1 : AC := pTellsL_k1'
theorem pTellsL_k1_w (C : Kn) (K : Ex → St → Prop) (s : St) : vcC C pTellsL_k1 K s = vcC C pTellsL_k1' K s := nr rfl
def pTellsL : AF := ⟨.seq (.reg (.seq [⟨some (2, true), none, .mov (.cst (.bool false) (.lit (.bool false))) .asg⟩])) [0] []
  (.seq (.seq (.reg (.seq [⟨some (3, false), none, .mov (.tmp 0 true) .peek⟩,⟨some (4, false), none, .lenL (.tmp 3 false)⟩,⟨some (5, false), none, .bin .gtr (.tmp 4 false) (.cst (.int .i64 20) (.lit (.int .i64 20)))⟩])) [0, 5] []
  (.cond (.tmp 5 false)
    (.seq (.reg (.seq [⟨some (6, false), none, .call 10 []⟩,⟨some (2, true), none, .mov (.tmp 6 false) .asg⟩])) [2] []
    (.ret))
    (.skip))) [0] [] pTellsL_k1),
  [.tmp 2]⟩
theorem pTellsL_comp (m : Int × Bool) : compF Tryd.prog (gl m) [] Tryd.f7 = some pTellsL := by kernel_rfl
theorem edits_len {l : List Hk} (hl : okHs l) : (edits l).length ≤ 4398046511104 := by
  rw [edits]
  split
  · have := edsF_len l [] (fun h hh => (hl.2 h hh).1)
    have h2 : l.length * 1048577 ≤ 1048576 * 1048577 := Nat.mul_le_mul_right _ hl.1
    rw [edsF]; simp only [List.length_nil] at this; omega
  · simp
theorem back_len {l : List Hk} (hl : okHs l) : (back l).length ≤ 1048576 ∧ ∀ h, h ∈ back l → h.2.2.length ≤ 1048576 := by
  rw [back]
  split
  · refine ⟨by rw [List.length_map]; exact hl.1, fun h hh => ?_⟩
    obtain ⟨g, hg, rfl⟩ := List.mem_map.1 hh
    have := invF_len g.2.2
    have := (hl.2 g hg).1
    show (invL g.2.2).length ≤ _
    rw [invL, List.length_append]; omega
  · exact ⟨by simp, fun h hh => by simp at hh⟩
set_option maxRecDepth 8000 in
theorem pTellsL_snd (l : List Hk) (hl : okHs l) (hT : (l.flatMap hunkB).length ≤ 140737488355328) : Snd Tryd.prog (gl m) 7 [.sl .frn 3 (hS .frn l)] (B true) := by
  refine snd_of (fn := Tryd.f7) (af := pTellsL) Tryd.func7 (pTellsL_comp m) mixed (kn_ok m) (Nat.le_of_ble_eq_true rfl) ?_
  simp only [pTellsL, go_sem, reduceCtorEq, Nat.reduceEqDiff, reduceIte, Nat.reduceAdd, Nat.reduceSub, Nat.reduceLeDiff, Int.reduceToNat, Nat.reduceBEq]
  by_cases h2 : (20 : Int) < ((l.length : Nat) : Int)
  · simp only [igt_t h2, go_sem, reduceCtorEq, Nat.reduceEqDiff, reduceIte, Nat.reduceAdd, Nat.reduceSub, Nat.reduceLeDiff, Int.reduceToNat, Nat.reduceBEq]
    repeat ((with_reducible apply And.intro); (case left => first | omega | (simp only [List.length_append, List.length_cons, List.length_nil, List.length_drop, List.length_take, List.length_tail, List.length_dropLast, fs_length, ss_length, bs_length, ns_length]; omega)))
    refine of_call (lives_snd) ?_
    simp only [go_sem, reduceCtorEq, Nat.reduceEqDiff, reduceIte, Nat.reduceAdd, Nat.reduceSub, Nat.reduceLeDiff, Int.reduceToNat, Nat.reduceBEq]
    repeat ((with_reducible apply And.intro); (case left => first | omega | (simp only [List.length_append, List.length_cons, List.length_nil, List.length_drop, List.length_take, List.length_tail, List.length_dropLast, fs_length, ss_length, bs_length, ns_length]; omega)))
    try first | rfl | trace_state
  simp only [igt_f h2, pTellsL_k1_w, pTellsL_k1', go_sem, reduceCtorEq, Nat.reduceEqDiff, reduceIte, Nat.reduceAdd, Nat.reduceSub, Nat.reduceLeDiff, Int.reduceToNat, Nat.reduceBEq]
  have he := edits_len hl
  obtain ⟨hb1, hb2⟩ := back_len hl
  repeat ((with_reducible apply And.intro); (case left => first | omega | (simp only [List.length_append, List.length_cons, List.length_nil, List.length_drop, List.length_take, List.length_tail, List.length_dropLast, fs_length, ss_length, bs_length, ns_length]; omega)))
  refine of_call (pvalid_snd l hl) ?_
  simp only [go_sem, reduceCtorEq, Nat.reduceEqDiff, reduceIte, Nat.reduceAdd, Nat.reduceSub, Nat.reduceLeDiff, Int.reduceToNat, Nat.reduceBEq]
  repeat ((with_reducible apply And.intro); (case left => first | omega | (simp only [List.length_append, List.length_cons, List.length_nil, List.length_drop, List.length_take, List.length_tail, List.length_dropLast, fs_length, ss_length, bs_length, ns_length]; omega)))
  repeat ((with_reducible apply And.intro); (case left => first | omega | (simp only [List.length_append, List.length_cons, List.length_nil, List.length_drop, List.length_take, List.length_tail, List.length_dropLast, fs_length, ss_length, bs_length, ns_length]; omega)))
  refine of_call (rright_snd l hl) ?_
  simp only [go_sem, reduceCtorEq, Nat.reduceEqDiff, reduceIte, Nat.reduceAdd, Nat.reduceSub, Nat.reduceLeDiff, Int.reduceToNat, Nat.reduceBEq]
  repeat ((with_reducible apply And.intro); (case left => first | omega | (simp only [List.length_append, List.length_cons, List.length_nil, List.length_drop, List.length_take, List.length_tail, List.length_dropLast, fs_length, ss_length, bs_length, ns_length]; omega)))
  repeat ((with_reducible apply And.intro); (case left => first | omega | (simp only [List.length_append, List.length_cons, List.length_nil, List.length_drop, List.length_take, List.length_tail, List.length_dropLast, fs_length, ss_length, bs_length, ns_length]; omega)))
  refine of_call (ptext_snd l hl hT) ?_
  simp only [go_sem, reduceCtorEq, Nat.reduceEqDiff, reduceIte, Nat.reduceAdd, Nat.reduceSub, Nat.reduceLeDiff, Int.reduceToNat, Nat.reduceBEq]
  repeat ((with_reducible apply And.intro); (case left => first | omega | (simp only [List.length_append, List.length_cons, List.length_nil, List.length_drop, List.length_take, List.length_tail, List.length_dropLast, fs_length, ss_length, bs_length, ns_length]; omega)))
  repeat ((with_reducible apply And.intro); (case left => first | omega | (simp only [List.length_append, List.length_cons, List.length_nil, List.length_drop, List.length_take, List.length_tail, List.length_dropLast, fs_length, ss_length, bs_length, ns_length]; omega)))
  refine of_call (rtext_snd l hl hT) ?_
  simp only [go_sem, reduceCtorEq, Nat.reduceEqDiff, reduceIte, Nat.reduceAdd, Nat.reduceSub, Nat.reduceLeDiff, Int.reduceToNat, Nat.reduceBEq]
  repeat ((with_reducible apply And.intro); (case left => first | omega | (simp only [List.length_append, List.length_cons, List.length_nil, List.length_drop, List.length_take, List.length_tail, List.length_dropLast, fs_length, ss_length, bs_length, ns_length]; omega)))
  repeat ((with_reducible apply And.intro); (case left => first | omega | (simp only [List.length_append, List.length_cons, List.length_nil, List.length_drop, List.length_take, List.length_tail, List.length_dropLast, fs_length, ss_length, bs_length, ns_length]; omega)))
  refine of_call (pedits_snd l hl) ?_
  simp only [go_sem, reduceCtorEq, Nat.reduceEqDiff, reduceIte, Nat.reduceAdd, Nat.reduceSub, Nat.reduceLeDiff, Int.reduceToNat, Nat.reduceBEq]
  repeat ((with_reducible apply And.intro); (case left => first | omega | (simp only [List.length_append, List.length_cons, List.length_nil, List.length_drop, List.length_take, List.length_tail, List.length_dropLast, fs_length, ss_length, bs_length, ns_length]; omega)))
  repeat ((with_reducible apply And.intro); (case left => first | omega | (simp only [List.length_append, List.length_cons, List.length_nil, List.length_drop, List.length_take, List.length_tail, List.length_dropLast, fs_length, ss_length, bs_length, ns_length]; omega)))
  refine of_call (redits_snd l hl) ?_
  simp only [go_sem, reduceCtorEq, Nat.reduceEqDiff, reduceIte, Nat.reduceAdd, Nat.reduceSub, Nat.reduceLeDiff, Int.reduceToNat, Nat.reduceBEq]
  repeat ((with_reducible apply And.intro); (case left => first | omega | (simp only [List.length_append, List.length_cons, List.length_nil, List.length_drop, List.length_take, List.length_tail, List.length_dropLast, fs_length, ss_length, bs_length, ns_length]; omega)))
  repeat ((with_reducible apply And.intro); (case left => first | omega | (simp only [List.length_append, List.length_cons, List.length_nil, List.length_drop, List.length_take, List.length_tail, List.length_dropLast, fs_length, ss_length, bs_length, ns_length]; omega)))
  refine of_call (sameE_snd (edits l) he) ?_
  simp only [go_sem, reduceCtorEq, Nat.reduceEqDiff, reduceIte, Nat.reduceAdd, Nat.reduceSub, Nat.reduceLeDiff, Int.reduceToNat, Nat.reduceBEq]
  repeat ((with_reducible apply And.intro); (case left => first | omega | (simp only [List.length_append, List.length_cons, List.length_nil, List.length_drop, List.length_take, List.length_tail, List.length_dropLast, fs_length, ss_length, bs_length, ns_length]; omega)))
  repeat ((with_reducible apply And.intro); (case left => first | omega | (simp only [List.length_append, List.length_cons, List.length_nil, List.length_drop, List.length_take, List.length_tail, List.length_dropLast, fs_length, ss_length, bs_length, ns_length]; omega)))
  refine of_call (pinv_snd l hl) ?_
  simp only [go_sem, reduceCtorEq, Nat.reduceEqDiff, reduceIte, Nat.reduceAdd, Nat.reduceSub, Nat.reduceLeDiff, Int.reduceToNat, Nat.reduceBEq]
  repeat ((with_reducible apply And.intro); (case left => first | omega | (simp only [List.length_append, List.length_cons, List.length_nil, List.length_drop, List.length_take, List.length_tail, List.length_dropLast, fs_length, ss_length, bs_length, ns_length]; omega)))
  repeat ((with_reducible apply And.intro); (case left => first | omega | (simp only [List.length_append, List.length_cons, List.length_nil, List.length_drop, List.length_take, List.length_tail, List.length_dropLast, fs_length, ss_length, bs_length, ns_length]; omega)))
  refine of_call (rback_snd l hl) ?_
  simp only [go_sem, reduceCtorEq, Nat.reduceEqDiff, reduceIte, Nat.reduceAdd, Nat.reduceSub, Nat.reduceLeDiff, Int.reduceToNat, Nat.reduceBEq]
  repeat ((with_reducible apply And.intro); (case left => first | omega | (simp only [List.length_append, List.length_cons, List.length_nil, List.length_drop, List.length_take, List.length_tail, List.length_dropLast, fs_length, ss_length, bs_length, ns_length]; omega)))
  repeat ((with_reducible apply And.intro); (case left => first | omega | (simp only [List.length_append, List.length_cons, List.length_nil, List.length_drop, List.length_take, List.length_tail, List.length_dropLast, fs_length, ss_length, bs_length, ns_length]; omega)))
  refine of_call (rsame10_snd (back l) hb1 (fun h hh => by have := hb2 h hh; omega)) ?_
  simp only [go_sem, reduceCtorEq, Nat.reduceEqDiff, reduceIte, Nat.reduceAdd, Nat.reduceSub, Nat.reduceLeDiff, Int.reduceToNat, Nat.reduceBEq]
  repeat ((with_reducible apply And.intro); (case left => first | omega | (simp only [List.length_append, List.length_cons, List.length_nil, List.length_drop, List.length_take, List.length_tail, List.length_dropLast, fs_length, ss_length, bs_length, ns_length]; omega)))
  repeat ((with_reducible apply And.intro); (case left => first | omega | (simp only [List.length_append, List.length_cons, List.length_nil, List.length_drop, List.length_take, List.length_tail, List.length_dropLast, fs_length, ss_length, bs_length, ns_length]; omega)))
  refine of_call (lives_snd) ?_
  simp only [go_sem, reduceCtorEq, Nat.reduceEqDiff, reduceIte, Nat.reduceAdd, Nat.reduceSub, Nat.reduceLeDiff, Int.reduceToNat, Nat.reduceBEq]
  repeat ((with_reducible apply And.intro); (case left => first | omega | (simp only [List.length_append, List.length_cons, List.length_nil, List.length_drop, List.length_take, List.length_tail, List.length_dropLast, fs_length, ss_length, bs_length, ns_length]; omega)))
  try simp only [pTellsL_k0_w, pTellsL_k0', go_sem, reduceCtorEq, Nat.reduceEqDiff, reduceIte, Nat.reduceAdd, Nat.reduceSub, Nat.reduceLeDiff, Int.reduceToNat, Nat.reduceBEq]
  first | rfl | trace_state
end Go.Hk

