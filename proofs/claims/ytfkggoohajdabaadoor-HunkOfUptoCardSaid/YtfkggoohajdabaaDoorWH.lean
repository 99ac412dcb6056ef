import Derived.Test.YtfkggoohajdabaaDoorWB
import Derived.Test.YtfkggoohajdabaaDoorPA
import Derived.Test.YtfkggoohajdabaaDoorWE
import Derived.Test.YtfkggoohajdabaaDoorWF
import Derived.Test.YtfkggoohajdabaaDoorWG
set_option linter.unusedVariables false
set_option linter.unusedSimpArgs false
/- The hunks of a script are not too many, not too long. -/
namespace Go.Hk
open Go.Ln (Bs)
set_option linter.unusedVariables false
set_option linter.unusedSimpArgs false
theorem right_len {a b : List Bs} {l : List Ed} (h : right a b l = true) : l.length ≤ a.length + b.length := by
  have key : ∀ i, i ≤ l.length → ∀ q, scS a b l i = some q → (i : Int) ≤ q.1 + q.2 := by
    intro i
    induction i with
    | zero => intro _ q hq; cases hq; decide
    | succ i ih =>
      intro hi q hq
      obtain ⟨p, hp, hG, _, hs⟩ := good_of h (show i < l.length by omega)
      rw [hs] at hq; cases hq
      have := ih (by omega) p hp
      have g1 := hG.f; have g2 := hG.t; have g3 := hG.d; have g4 := hG.i; have g5 := hG.ne
      dsimp only
      omega
  rw [right] at h
  cases hq : scS a b l l.length with
  | none => rw [hq] at h; cases h
  | some q =>
    have := key l.length (Nat.le_refl _) q hq
    have := scS_bound hq
    omega
def inAB (a b : List Bs) (L : List HL) : Prop := ∀ x, x ∈ L → x.2 ∈ a ∨ x.2 ∈ b
theorem sl_mem {a : List Bs} {i j : Int} {s : Bs} (h : s ∈ sl a i j) : s ∈ a := List.mem_of_mem_drop (List.mem_of_mem_take h)
theorem sl_le2 (a : List Bs) (i j : Int) : (sl a i j).length ≤ a.length := by rw [sl, List.length_take, List.length_drop]; omega
theorem edLines_le2 (a b : List Bs) (at_ : Int) (e : Ed) : (edLines a b at_ e).length ≤ 2 * a.length + b.length := by
  have h1 := sl_le2 a at_ e.1
  have h2 := sl_le2 a e.1 (e.1 + e.2.1)
  have h3 := sl_le2 b e.2.2.1 (e.2.2.1 + e.2.2.2)
  rw [edLines, List.length_append, List.length_append, kL_len, kL_len, kL_len]; omega
theorem kL_mem {k : Int} {L : List Bs} {x : HL} (h : x ∈ kL k L) : x.2 ∈ L := by
  obtain ⟨s, hs, rfl⟩ := List.mem_map.1 h; exact hs
theorem edLines_in (a b : List Bs) (at_ : Int) (e : Ed) : inAB a b (edLines a b at_ e) := by
  intro x hx
  rw [edLines, List.mem_append, List.mem_append] at hx
  rcases hx with (h | h) | h
  · exact .inl (sl_mem (kL_mem h))
  · exact .inl (sl_mem (kL_mem h))
  · exact .inr (sl_mem (kL_mem h))
theorem inAB.app {a b : List Bs} {L M : List HL} (h : inAB a b L) (h' : inAB a b M) : inAB a b (L ++ M) := fun x hx => (List.mem_append.1 hx).elim (h x) (h' x)
structure OfOk (a b : List Bs) (i : Nat) (q : OfT) : Prop where
  n : q.1.length ≤ i
  o : ∀ h, h ∈ q.1 → h.2.2.length ≤ (i + 1) * (2 * a.length + b.length) ∧ inAB a b h.2.2
  c : q.2.1.2.2.length ≤ (i + 1) * (2 * a.length + b.length) ∧ inAB a b q.2.1.2.2
theorem closeP_ok {a b : List Bs} {n : Int} {cur : Hk} {e : Int} {i : Nat} (h : cur.2.2.length ≤ (i + 1) * (2 * a.length + b.length) ∧ inAB a b cur.2.2) : (closeP a n cur e).2.2.length ≤ (i + 2) * (2 * a.length + b.length) ∧ inAB a b (closeP a n cur e).2.2 := by
  have hs := sl_le2 a e (min (e + n) a.length)
  refine ⟨?_, ?_⟩
  · show (cur.2.2 ++ kL 1 _).length ≤ _
    rw [List.length_append, kL_len]
    have : (i + 2) * (2 * a.length + b.length) = (i + 1) * (2 * a.length + b.length) + (2 * a.length + b.length) := by rw [Nat.succ_mul]
    omega
  · exact h.2.app fun x hx => .inl (sl_mem (kL_mem hx))
theorem ofI_ok (a b : List Bs) (n : Int) (l : List Ed) : ∀ i, i < l.length → ∃ q, ofI a b n (l.take (i + 1)) = some q ∧ OfOk a b i q := by
  intro i
  induction i with
  | zero =>
    intro hi
    cases l with
    | nil => simp at hi
    | cons e l =>
      refine ⟨_, rfl, Nat.le_refl _, fun h hm => by simp at hm, ?_, ?_⟩
      · have := edLines_le2 a b (e.1 - min n e.1) e
        simp only [List.take_succ_cons, List.take_zero, List.foldl_nil, startP]; omega
      · exact edLines_in _ _ _ _
  | succ i ih =>
    intro hi
    obtain ⟨q, hq, h1, h2, h3⟩ := ih (by omega)
    have ht : l.take (i + 1 + 1) = l.take (i + 1) ++ [l[i + 1]] := by rw [List.take_add_one, List.getElem?_eq_getElem hi]; rfl
    rw [ht, ofI_snoc a b n _ hq]
    have hm : (i + 1 + 1) * (2 * a.length + b.length) = (i + 1) * (2 * a.length + b.length) + (2 * a.length + b.length) := by rw [Nat.succ_mul]
    refine ⟨_, rfl, ?_⟩
    rw [ofStep]
    split
    · refine ⟨by dsimp only; omega, fun h hh => ?_, ?_, ?_⟩
      · have := h2 h hh; exact ⟨by omega, this.2⟩
      · have := edLines_le2 a b q.2.2 l[i + 1]
        simp only [extP, List.length_append]; omega
      · exact h3.2.app (edLines_in _ _ _ _)
    · refine ⟨by simp; omega, fun h hh => ?_, ?_, ?_⟩
      · rcases List.mem_append.1 hh with hh | hh
        · have := h2 h hh; exact ⟨by omega, this.2⟩
        · rw [List.mem_singleton] at hh
          subst hh
          exact closeP_ok h3
      · have := edLines_le2 a b (l[i + 1].1 - min n l[i + 1].1) l[i + 1]
        simp only [startP]; omega
      · exact edLines_in _ _ _ _
theorem ofF_ok {a b : List Bs} {l : List Ed} {n : Int} (ha : a.length ≤ 40) (hb : b.length ≤ 40) (has : ∀ x, x ∈ a → x.length ≤ 1048576) (hbs : ∀ x, x ∈ b → x.length ≤ 1048576) : okHs (ofF a b l n) ∧ (ofF a b l n).length ≤ 80 ∧ ∀ h, h ∈ ofF a b l n → h.2.2.length ≤ 16384 := by
  rw [ofF]
  split
  rotate_left
  · exact ⟨⟨by simp, fun h hh => by simp at hh⟩, by simp, fun h hh => by simp at hh⟩
  rename_i hc
  have hlen := right_len hc.2.2
  rw [ofW]
  cases hl : l with
  | nil => exact ⟨⟨by simp [ofI], fun h hh => by simp [ofI] at hh⟩, by simp [ofI], fun h hh => by simp [ofI] at hh⟩
  | cons e t =>
    rw [← hl]
    obtain ⟨q, hq, h1, h2, h3⟩ := ofI_ok a b (clampN n) l (l.length - 1) (by rw [hl]; simp)
    have hl1 : l.length - 1 + 1 = l.length := by rw [hl]; simp
    rw [hl1, List.take_length] at hq
    rw [hq]
    dsimp only
    have hm : ∀ h, h ∈ q.1 ++ [closeP a (clampN n) q.2.1 q.2.2] → h.2.2.length ≤ 16384 ∧ inAB a b h.2.2 := fun h hh => by
      have big : (l.length - 1 + 2) * (2 * a.length + b.length) ≤ 82 * 120 := Nat.mul_le_mul (by omega) (by omega)
      have hmul : (l.length - 1 + 1) * (2 * a.length + b.length) ≤ (l.length - 1 + 2) * (2 * a.length + b.length) := Nat.mul_le_mul_right _ (by omega)
      rcases List.mem_append.1 hh with hh | hh
      · have := h2 h hh; exact ⟨by omega, this.2⟩
      · rw [List.mem_singleton] at hh
        subst hh
        have := closeP_ok (n := clampN n) (e := q.2.2) h3
        exact ⟨by omega, this.2⟩
    refine ⟨⟨by rw [List.length_append, List.length_singleton]; omega, fun h hh => ⟨by have := (hm h hh).1; omega, fun x hx => ?_⟩⟩, by rw [List.length_append, List.length_singleton]; omega, fun h hh => (hm h hh).1⟩
    rcases (hm h hh).2 x hx with h' | h'
    · exact has _ h'
    · exact hbs _ h'
end Go.Hk
namespace Go.Hk
open Go Go.Ev Go.Proofs
set_option linter.unusedVariables false
set_option linter.unusedSimpArgs false
set_option maxHeartbeats 4000000
attribute [local go_sem] eqs implies_true List.map_cons List.map_nil kl klL roD roL Option.map_some Option.map_none Option.getD_some Option.getD_none binVal binObl unVal if_true if_false eq_self passA frnD resD content getH getR getW viaNot viaSlot viaBox viaDeep viaMem List.contains_cons List.contains_nil grabs peeks okCells isCell place cellsOf chunk elt List.headD_cons List.length_cons List.length_nil List.take_succ_cons List.take_zero List.drop_succ_cons List.drop_zero List.nil_append List.cons_append List.append_nil List.all_cons List.all_nil plainC takeR setW over reCell List.getElem?_cons_zero List.getElem?_cons_succ List.set_cons_zero List.take_length outV resG plainV pack outVG outBx List.set_cons_succ Ref.idx Ref.addOff beq_self_eq_true bxL Option.bind_some writeR isLit viaBoxes capsPA boxPA nsOf noDup boxesAt argG passG passD rhoIn rhoOut idxIn tr trL List.getD_cons_zero gives pasOf isPtr Ins.d List.getD_cons_succ resL frnL partB_f partB_t partB_p partB_s St.setP mixR v_slcT List.getLast?_nil List.getLast?_singleton List.dropLast_singleton List.nil_append frnL_fs roL_fs resL_fs passL_fs klL_fs trL_fs map_roD_fs fs_length hS_length frnL_hS roL_hS_own roL_hS_frn roL_hS_ro resL_hS_own resL_hS_ro klL_hS klL_hS_own klL_hS_frn passL_hS_own passL_hS_frn trL_hS_own trL_hS_frn frnL_ns resL_ns roL_ns passL_ns klL_ns
variable {m : Int × Bool}
def pOfL_k0' : AC := .ret
def pOfL_k0 : AC := pOfL_k0'
theorem pOfL_k0_w (C : Kn) (K : Ex → St → Prop) (s : St) : vcC C pOfL_k0 K s = vcC C pOfL_k0' K s := nr rfl
def pOfL_k1' : AC := .seq (.reg (.seq [⟨some (11, false), none, .fad (.tmp 1 true) 0⟩,⟨some (12, false), none, .load (.tmp 11 false) 1 false false⟩,⟨some (13, false), none, .fad (.tmp 1 true) 1⟩,⟨some (14, false), none, .load (.tmp 13 false) 1 false false⟩,⟨some (15, false), none, .fad (.tmp 1 true) 2⟩,⟨some (16, false), none, .load (.tmp 15 false) 1 false false⟩,⟨some (17, false), none, .fad (.tmp 1 true) 3⟩,⟨some (18, false), none, .load (.tmp 17 false) 1 false false⟩,⟨some (19, false), none, .call 18 [.tmp 12 false, .tmp 14 false, .tmp 16 false, .tmp 18 false]⟩,⟨some (3, true), none, .mov (.tmp 19 false) .asg⟩])) [1, 3] [1]
  (.seq (.reg (.seq [⟨some (20, false), none, .mov (.tmp 3 true) .peek⟩,⟨some (21, false), none, .fad (.tmp 1 true) 0⟩,⟨some (22, false), none, .load (.tmp 21 false) 1 false false⟩,⟨some (23, false), none, .fad (.tmp 1 true) 1⟩,⟨some (24, false), none, .load (.tmp 23 false) 1 false false⟩,⟨some (25, false), none, .fad (.tmp 1 true) 2⟩,⟨some (26, false), none, .load (.tmp 25 false) 1 false false⟩,⟨some (27, false), none, .fad (.tmp 1 true) 3⟩,⟨some (28, false), none, .load (.tmp 27 false) 1 false false⟩,⟨some (29, false), none, .call 24 [.tmp 22 false, .tmp 24 false, .tmp 26 false, .tmp 28 false]⟩,⟨some (30, false), none, .call 23 [.tmp 20 false, .tmp 29 false]⟩,⟨some (31, false), none, .mov (.tmp 30 false) .peek⟩,⟨some (32, false), (some (31, true)), .mov (.tmp 3 true) .peek⟩,⟨some (33, false), (some (31, true)), .call 26 [.tmp 32 false]⟩,⟨some (34, false), (some (31, true)), .mov (.tmp 3 true) .peek⟩,⟨some (35, false), (some (31, true)), .call 27 [.tmp 34 false]⟩,⟨some (36, false), (some (31, true)), .call 25 [.tmp 33 false, .tmp 35 false]⟩,⟨some (37, false), none, .pick (.tmp 31 false) (.tmp 36 false) (.cst (.bool false) (.lit (.bool false)))⟩,⟨some (38, false), none, .mov (.tmp 37 false) .peek⟩,⟨some (39, false), (some (38, true)), .call 10 []⟩,⟨some (40, false), none, .pick (.tmp 38 false) (.tmp 39 false) (.cst (.bool false) (.lit (.bool false)))⟩,⟨some (2, true), none, .mov (.tmp 40 false) .asg⟩])) [2] [] pOfL_k0)
def pOfL_k1 : AC := pOfL_k1'
theorem pOfL_k1_w (C : Kn) (K : Ex → St → Prop) (s : St) : vcC C pOfL_k1 K s = vcC C pOfL_k1' K s := nr rfl
def pOfL : AF := ⟨.seq (.reg (.seq [⟨some (1, true), none, .box (.tmp 0 true)⟩,⟨some (2, true), none, .mov (.cst (.bool false) (.lit (.bool false))) .asg⟩])) [1] [1]
  (.seq (.seq (.reg (.seq [⟨some (4, false), none, .fad (.tmp 1 true) 0⟩,⟨some (5, false), none, .load (.tmp 4 false) 1 false false⟩,⟨some (6, false), none, .fad (.tmp 1 true) 1⟩,⟨some (7, false), none, .load (.tmp 6 false) 1 false false⟩,⟨some (8, false), none, .call 15 [.tmp 5 false, .tmp 7 false]⟩,⟨some (9, false), none, .un .not (.tmp 8 false)⟩])) [1, 9] [1]
  (.cond (.tmp 9 false)
    (.seq (.reg (.seq [⟨some (10, false), none, .call 10 []⟩,⟨some (2, true), none, .mov (.tmp 10 false) .asg⟩])) [2] []
    (.ret))
    (.skip))) [1] [1] pOfL_k1),
  [.tmp 2]⟩
theorem pOfL_comp (m : Int × Bool) : compF Tryd.prog (gl m) [] Tryd.f5 = some pOfL := by kernel_rfl
theorem edits_len {l : List Hk} (hl : okHs l) : (edits l).length ≤ 4398046511104 := by
  rw [edits]
  split
  · have := edsF_len l [] (fun h hh => (hl.2 h hh).1)
    have h2 : l.length * 1048577 ≤ 1048576 * 1048577 := Nat.mul_le_mul_right _ hl.1
    rw [edsF]; simp only [List.length_nil] at this; omega
  · simp
set_option maxRecDepth 8000 in
theorem pOfL_snd (a b : List Bs) (l : List Ed) (n : Int) (ha : a.length ≤ 1048576) (hb : b.length ≤ 1048576) (hl : l.length ≤ 1048576) (has : ∀ x, x ∈ a → x.length ≤ 1048576) (hbs : ∀ x, x ∈ b → x.length ≤ 1048576) : Snd Tryd.prog (gl m) 5 [.agg [.sl .frn 1 (ss a), .sl .frn 1 (ss b), .sl .frn 4 (fs fE l), I n]] (B true) := by
  refine snd_of (fn := Tryd.f5) (af := pOfL) Tryd.func5 (pOfL_comp m) mixed (kn_ok m) (Nat.le_of_ble_eq_true rfl) ?_
  simp only [pOfL, go_sem, reduceCtorEq, Nat.reduceEqDiff, reduceIte, Nat.reduceAdd, Nat.reduceSub, Nat.reduceLeDiff, Int.reduceToNat, Nat.reduceBEq]
  repeat ((with_reducible apply And.intro); (case left => first | omega | (simp only [List.length_append, List.length_cons, List.length_nil, List.length_drop, List.length_take, List.length_tail, List.length_dropLast, fs_length, ss_length, bs_length, ns_length]; omega)))
  repeat ((with_reducible apply And.intro); (case left => first | omega | (simp only [List.length_append, List.length_cons, List.length_nil, List.length_drop, List.length_take, List.length_tail, List.length_dropLast, fs_length, ss_length, bs_length, ns_length]; omega)))
  refine of_call (hfew_snd a b ha hb) ?_
  simp only [go_sem, reduceCtorEq, Nat.reduceEqDiff, reduceIte, Nat.reduceAdd, Nat.reduceSub, Nat.reduceLeDiff, Int.reduceToNat, Nat.reduceBEq]
  repeat ((with_reducible apply And.intro); (case left => first | omega | (simp only [List.length_append, List.length_cons, List.length_nil, List.length_drop, List.length_take, List.length_tail, List.length_dropLast, fs_length, ss_length, bs_length, ns_length]; omega)))
  by_cases hf : a.length ≤ 40 ∧ b.length ≤ 40
  rotate_left
  · have : (decide (a.length ≤ 40) && decide (b.length ≤ 40)) = false := by
      rw [Bool.and_eq_false_iff]
      by_cases h : a.length ≤ 40
      · exact .inr (decide_eq_false fun h' => hf ⟨h, h'⟩)
      · exact .inl (decide_eq_false h)
    simp only [this, unVal, Bool.not_false, go_sem, reduceCtorEq, Nat.reduceEqDiff, reduceIte, Nat.reduceAdd, Nat.reduceSub, Nat.reduceLeDiff, Int.reduceToNat, Nat.reduceBEq]
    repeat ((with_reducible apply And.intro); (case left => first | omega | (simp only [List.length_append, List.length_cons, List.length_nil, List.length_drop, List.length_take, List.length_tail, List.length_dropLast, fs_length, ss_length, bs_length, ns_length]; omega)))
    refine of_call (lives_snd) ?_
    simp only [go_sem, reduceCtorEq, Nat.reduceEqDiff, reduceIte, Nat.reduceAdd, Nat.reduceSub, Nat.reduceLeDiff, Int.reduceToNat, Nat.reduceBEq]
    repeat ((with_reducible apply And.intro); (case left => first | omega | (simp only [List.length_append, List.length_cons, List.length_nil, List.length_drop, List.length_take, List.length_tail, List.length_dropLast, fs_length, ss_length, bs_length, ns_length]; omega)))
    try first | rfl | trace_state
  have : (decide (a.length ≤ 40) && decide (b.length ≤ 40)) = true := by rw [decide_eq_true hf.1, decide_eq_true hf.2]; rfl
  simp only [this, unVal, Bool.not_true, pOfL_k1_w, pOfL_k1', go_sem, reduceCtorEq, Nat.reduceEqDiff, reduceIte, Nat.reduceAdd, Nat.reduceSub, Nat.reduceLeDiff, Int.reduceToNat, Nat.reduceBEq]
  obtain ⟨hok, hln, hlen⟩ := ofF_ok (l := l) (n := n) hf.1 hf.2 has hbs
  have he := edits_len hok
  repeat ((with_reducible apply And.intro); (case left => first | omega | (simp only [List.length_append, List.length_cons, List.length_nil, List.length_drop, List.length_take, List.length_tail, List.length_dropLast, fs_length, ss_length, bs_length, ns_length]; omega)))
  repeat ((with_reducible apply And.intro); (case left => first | omega | (simp only [List.length_append, List.length_cons, List.length_nil, List.length_drop, List.length_take, List.length_tail, List.length_dropLast, fs_length, ss_length, bs_length, ns_length]; omega)))
  refine of_call (pof_snd a b l n ha hb hl) ?_
  simp only [go_sem, reduceCtorEq, Nat.reduceEqDiff, reduceIte, Nat.reduceAdd, Nat.reduceSub, Nat.reduceLeDiff, Int.reduceToNat, Nat.reduceBEq]
  repeat ((with_reducible apply And.intro); (case left => first | omega | (simp only [List.length_append, List.length_cons, List.length_nil, List.length_drop, List.length_take, List.length_tail, List.length_dropLast, fs_length, ss_length, bs_length, ns_length]; omega)))
  repeat ((with_reducible apply And.intro); (case left => first | omega | (simp only [List.length_append, List.length_cons, List.length_nil, List.length_drop, List.length_take, List.length_tail, List.length_dropLast, fs_length, ss_length, bs_length, ns_length]; omega)))
  refine of_call (rof10_snd a b l n ha hb hl) ?_
  simp only [go_sem, reduceCtorEq, Nat.reduceEqDiff, reduceIte, Nat.reduceAdd, Nat.reduceSub, Nat.reduceLeDiff, Int.reduceToNat, Nat.reduceBEq]
  repeat ((with_reducible apply And.intro); (case left => first | omega | (simp only [List.length_append, List.length_cons, List.length_nil, List.length_drop, List.length_take, List.length_tail, List.length_dropLast, fs_length, ss_length, bs_length, ns_length]; omega)))
  generalize ofF a b l n = r at hok hln hlen he
  repeat ((with_reducible apply And.intro); (case left => first | omega | (simp only [List.length_append, List.length_cons, List.length_nil, List.length_drop, List.length_take, List.length_tail, List.length_dropLast, fs_length, ss_length, bs_length, ns_length]; omega)))
  refine of_call (rsame10_snd r (by omega) (fun h hh => by have := hlen h hh; omega)) ?_
  simp only [go_sem, reduceCtorEq, Nat.reduceEqDiff, reduceIte, Nat.reduceAdd, Nat.reduceSub, Nat.reduceLeDiff, Int.reduceToNat, Nat.reduceBEq]
  repeat ((with_reducible apply And.intro); (case left => first | omega | (simp only [List.length_append, List.length_cons, List.length_nil, List.length_drop, List.length_take, List.length_tail, List.length_dropLast, fs_length, ss_length, bs_length, ns_length]; omega)))
  repeat ((with_reducible apply And.intro); (case left => first | omega | (simp only [List.length_append, List.length_cons, List.length_nil, List.length_drop, List.length_take, List.length_tail, List.length_dropLast, fs_length, ss_length, bs_length, ns_length]; omega)))
  refine of_call (pedits_snd r hok) ?_
  simp only [go_sem, reduceCtorEq, Nat.reduceEqDiff, reduceIte, Nat.reduceAdd, Nat.reduceSub, Nat.reduceLeDiff, Int.reduceToNat, Nat.reduceBEq]
  repeat ((with_reducible apply And.intro); (case left => first | omega | (simp only [List.length_append, List.length_cons, List.length_nil, List.length_drop, List.length_take, List.length_tail, List.length_dropLast, fs_length, ss_length, bs_length, ns_length]; omega)))
  repeat ((with_reducible apply And.intro); (case left => first | omega | (simp only [List.length_append, List.length_cons, List.length_nil, List.length_drop, List.length_take, List.length_tail, List.length_dropLast, fs_length, ss_length, bs_length, ns_length]; omega)))
  refine of_call (redits_snd r hok) ?_
  simp only [go_sem, reduceCtorEq, Nat.reduceEqDiff, reduceIte, Nat.reduceAdd, Nat.reduceSub, Nat.reduceLeDiff, Int.reduceToNat, Nat.reduceBEq]
  repeat ((with_reducible apply And.intro); (case left => first | omega | (simp only [List.length_append, List.length_cons, List.length_nil, List.length_drop, List.length_take, List.length_tail, List.length_dropLast, fs_length, ss_length, bs_length, ns_length]; omega)))
  repeat ((with_reducible apply And.intro); (case left => first | omega | (simp only [List.length_append, List.length_cons, List.length_nil, List.length_drop, List.length_take, List.length_tail, List.length_dropLast, fs_length, ss_length, bs_length, ns_length]; omega)))
  refine of_call (sameE_snd (edits r) he) ?_
  simp only [go_sem, reduceCtorEq, Nat.reduceEqDiff, reduceIte, Nat.reduceAdd, Nat.reduceSub, Nat.reduceLeDiff, Int.reduceToNat, Nat.reduceBEq]
  repeat ((with_reducible apply And.intro); (case left => first | omega | (simp only [List.length_append, List.length_cons, List.length_nil, List.length_drop, List.length_take, List.length_tail, List.length_dropLast, fs_length, ss_length, bs_length, ns_length]; omega)))
  repeat ((with_reducible apply And.intro); (case left => first | omega | (simp only [List.length_append, List.length_cons, List.length_nil, List.length_drop, List.length_take, List.length_tail, List.length_dropLast, fs_length, ss_length, bs_length, ns_length]; omega)))
  refine of_call (lives_snd) ?_
  simp only [go_sem, reduceCtorEq, Nat.reduceEqDiff, reduceIte, Nat.reduceAdd, Nat.reduceSub, Nat.reduceLeDiff, Int.reduceToNat, Nat.reduceBEq]
  repeat ((with_reducible apply And.intro); (case left => first | omega | (simp only [List.length_append, List.length_cons, List.length_nil, List.length_drop, List.length_take, List.length_tail, List.length_dropLast, fs_length, ss_length, bs_length, ns_length]; omega)))
  try simp only [pOfL_k0_w, pOfL_k0', go_sem, reduceCtorEq, Nat.reduceEqDiff, reduceIte, Nat.reduceAdd, Nat.reduceSub, Nat.reduceLeDiff, Int.reduceToNat, Nat.reduceBEq]
  first | rfl | trace_state
end Go.Hk

