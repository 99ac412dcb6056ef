import Derived.Test.YtolghafejibajaaDoorGbC
import Derived.Test.YtolghafejibajaaDoorGbX
/- GlobStars -/
namespace Go.Gb
open Go Go.Ev Go.Proofs
set_option linter.unusedVariables false
set_option linter.unusedSimpArgs false
variable {m : Int}

theorem toks_app (n : Nat) : ∀ (p r : Ln.Bs) (L : List Tok), p.length ≤ n → toks p = some L → toks (p ++ r) = (toks r).map (L ++ ·) := by
  induction n with
  | zero =>
    intro p r L hp h
    have : p = [] := len_0 (by omega)
    subst this
    rw [toks_nil] at h; injection h with h; subst h
    rw [List.nil_append]; cases toks r <;> rfl
  | succ n ih =>
    intro p r L hp h
    by_cases h0 : p = []
    · subst h0
      rw [toks_nil] at h; injection h with h; subst h
      rw [List.nil_append]; cases toks r <;> rfl
    · cases ht : tok p with
      | none => rw [toks_none h0 ht] at h; cases h
      | some q =>
        obtain ⟨t, R⟩ := q
        rw [toks_some ht, Option.map_eq_some_iff] at h
        obtain ⟨L', hL', rfl⟩ := h
        obtain ⟨b, u, e, hs⟩ := tok_seg ht
        have hl := tok_len ht
        have e2 : p ++ r = b :: u ++ (R ++ r) := by rw [e, List.append_assoc]
        rw [e2, toks_some (hs (R ++ r)), ih R r L' (by omega) hL', Option.map_map]; rfl
theorem whole_cong {A B C : List Tok} (h : ∀ s, whole B s = true → whole C s = true) : ∀ s, whole (A ++ B) s = true → whole (A ++ C) s = true := by
  induction A with
  | nil => exact h
  | cons t A ih =>
    intro s hw
    rw [List.cons_append] at hw ⊢
    by_cases ht : t = .star
    · subst ht
      rw [whole_star_iff] at hw ⊢
      obtain ⟨j, h1, h2⟩ := hw
      exact ⟨j, h1, ih _ h2⟩
    · rw [whole_tok ht] at hw ⊢
      cases s with
      | nil => cases hw
      | cons c s =>
        simp only [Bool.and_eq_true] at hw ⊢
        exact ⟨hw.1, ih s hw.2⟩
theorem any_star (B : List Tok) (s : Ln.Bs) (h : whole (.any :: B) s = true) : whole (.star :: B) s = true := by
  rw [whole_tok (by simp)] at h
  cases s with
  | nil => cases h
  | cons c s =>
    simp only [Bool.and_eq_true] at h
    exact (whole_star_iff _ _).2 ⟨1, by simp, h.2⟩
theorem none_star (B : List Tok) (s : Ln.Bs) (h : whole B s = true) : whole (.star :: B) s = true := (whole_star_iff _ _).2 ⟨0, by omega, h⟩
theorem contains_app (p q : Ln.Bs) : (p ++ q).contains 47 = (p.contains 47 || q.contains 47) := by
  rw [Bool.eq_iff_iff, Bool.or_eq_true, List.contains_iff_mem, List.contains_iff_mem, List.contains_iff_mem, List.mem_append]
theorem toks_of {p : Ln.Bs} (h : p = [] ∨ isPat p = true) (hc : p.contains 47 = false) : ∃ A, toks p = some A := by
  rcases h with rfl | h
  · exact ⟨[], toks_nil⟩
  · simp only [isPat, Bool.and_eq_true, pieces_free hc, List.all_cons, List.all_nil] at h
    exact good_toks h.2.1
theorem partP_mk {x s : Ln.Bs} {L : List Tok} (h1 : 1 ≤ x.length) (h2 : x.length ≤ 255) (hc : x.contains 47 = false) (hL : toks x = some L) (hs : s.contains 47 = false) : partP x s = whole L s := by
  have hg : good x = true := by
    rw [good, hL, decide_eq_true (by rintro rfl; simp at h1)]; rfl
  rw [partP, isPat, pieces_free hc, hc, hs, partF, hL, decide_eq_true h1, decide_eq_true h2, List.all_cons, hg]; rfl
theorem partP_un {x s : Ln.Bs} (h : partP x s = true) : x.contains 47 = false ∧ s.contains 47 = false ∧ ∃ L, toks x = some L ∧ whole L s = true := by
  simp only [partP, Bool.and_eq_true, Bool.not_eq_true'] at h
  refine ⟨h.1.1.2, h.1.2, ?_⟩
  have h4 := h.2
  rw [partF] at h4
  cases hL : toks x with
  | none => rw [hL] at h4; cases h4
  | some L => rw [hL] at h4; exact ⟨L, rfl, h4⟩
theorem stars_any {p q s : Ln.Bs} (hp : p = [] ∨ isPat p = true) (hq : q = [] ∨ isPat q = true) (lp : p.length ≤ 100) (lq : q.length ≤ 100) (h : partP (p ++ [63] ++ q) s = true) : partP (p ++ [42] ++ q) s = true := by
  obtain ⟨hc, hs, L, hL, hw⟩ := partP_un h
  rw [contains_app, contains_app] at hc
  simp only [Bool.or_eq_false_iff] at hc
  obtain ⟨A, hA⟩ := toks_of hp hc.1.1
  obtain ⟨B, hB⟩ := toks_of hq hc.2
  have e1 : toks (p ++ [63] ++ q) = some (A ++ .any :: B) := by
    rw [List.append_assoc, toks_app _ p _ A (Nat.le_refl _) hA, List.cons_append, List.nil_append, toks_some (by simp [tok] : tok (63 :: q) = some (.any, q)), hB]; rfl
  have e2 : toks (p ++ [42] ++ q) = some (A ++ .star :: B) := by
    rw [List.append_assoc, toks_app _ p _ A (Nat.le_refl _) hA, List.cons_append, List.nil_append, toks_some (by simp [tok] : tok (42 :: q) = some (.star, q)), hB]; rfl
  rw [e1] at hL; injection hL with hL; subst hL
  rw [partP_mk (by simp; omega) (by simp; omega) (by rw [contains_app, contains_app, hc.1.1, hc.2]; rfl) e2 hs]
  exact whole_cong (any_star B) s hw
theorem stars_none {p q s : Ln.Bs} (hp : p = [] ∨ isPat p = true) (hq : q = [] ∨ isPat q = true) (lp : p.length ≤ 100) (lq : q.length ≤ 100) (h : partP (p ++ q) s = true) : partP (p ++ [42] ++ q) s = true := by
  obtain ⟨hc, hs, L, hL, hw⟩ := partP_un h
  rw [contains_app] at hc
  simp only [Bool.or_eq_false_iff] at hc
  obtain ⟨A, hA⟩ := toks_of hp hc.1
  obtain ⟨B, hB⟩ := toks_of hq hc.2
  have e1 : toks (p ++ q) = some (A ++ B) := by
    rw [toks_app _ p _ A (Nat.le_refl _) hA, hB]; rfl
  have e2 : toks (p ++ [42] ++ q) = some (A ++ .star :: B) := by
    rw [List.append_assoc, toks_app _ p _ A (Nat.le_refl _) hA, List.cons_append, List.nil_append, toks_some (by simp [tok] : tok (42 :: q) = some (.star, q)), hB]; rfl
  rw [e1] at hL; injection hL with hL; subst hL
  rw [partP_mk (by simp; omega) (by simp; omega) (by rw [contains_app, contains_app, hc.1, hc.2]; rfl) e2 hs]
  exact whole_cong (none_star B) s hw

def lwStars : AF := ⟨.seq (.reg (.seq [⟨(some (6, true)), none, .mov (.cst (.bool false) (.lit (.bool false))) .asg⟩])) [0, 1, 2] []
  (.seq (.seq (.reg (.seq [⟨(some (7, false)), none, .mov (.tmp 0 true) .peek⟩,
      ⟨(some (8, false)), none, .len (.tmp 7 false)⟩,
      ⟨(some (9, false)), none, .bin .gtr (.tmp 8 false) (.cst (.int .i64 100) (.lit (.int .i64 100)))⟩,
      ⟨(some (10, false)), none, .mov (.tmp 9 false) .peek⟩,
      ⟨(some (11, false)), (some (10, false)), .mov (.tmp 1 true) .peek⟩,
      ⟨(some (12, false)), (some (10, false)), .len (.tmp 11 false)⟩,
      ⟨(some (13, false)), (some (10, false)), .bin .gtr (.tmp 12 false) (.cst (.int .i64 100) (.lit (.int .i64 100)))⟩,
      ⟨(some (14, false)), none, .pick (.tmp 10 false) (.cst (.bool true) (.lit (.bool true))) (.tmp 13 false)⟩,
      ⟨(some (15, false)), none, .mov (.tmp 14 false) .peek⟩,
      ⟨(some (16, false)), (some (15, false)), .mov (.tmp 2 true) .peek⟩,
      ⟨(some (17, false)), (some (15, false)), .len (.tmp 16 false)⟩,
      ⟨(some (18, false)), (some (15, false)), .bin .gtr (.tmp 17 false) (.cst (.int .i64 300) (.lit (.int .i64 300)))⟩,
      ⟨(some (19, false)), none, .pick (.tmp 15 false) (.cst (.bool true) (.lit (.bool true))) (.tmp 18 false)⟩,
      ⟨(some (20, false)), none, .mov (.tmp 19 false) .peek⟩,
      ⟨(some (21, false)), (some (20, false)), .mov (.tmp 0 true) .peek⟩,
      ⟨(some (22, false)), (some (20, false)), .bin .neq (.tmp 21 false) (.cst (.string (str [])) (.lit (.string (str []))))⟩,
      ⟨(some (23, false)), (some (20, false)), .mov (.tmp 22 false) .peek⟩,
      ⟨(some (24, false)), (some (23, true)), .mov (.tmp 0 true) .peek⟩,
      ⟨(some (25, false)), (some (23, true)), .call 35 [(.tmp 24 false)]⟩,
      ⟨(some (26, false)), (some (23, true)), .un .not (.tmp 25 false)⟩,
      ⟨(some (27, false)), (some (20, false)), .pick (.tmp 23 false) (.tmp 26 false) (.cst (.bool false) (.lit (.bool false)))⟩,
      ⟨(some (28, false)), none, .pick (.tmp 20 false) (.cst (.bool true) (.lit (.bool true))) (.tmp 27 false)⟩,
      ⟨(some (29, false)), none, .mov (.tmp 28 false) .peek⟩,
      ⟨(some (30, false)), (some (29, false)), .mov (.tmp 1 true) .peek⟩,
      ⟨(some (31, false)), (some (29, false)), .bin .neq (.tmp 30 false) (.cst (.string (str [])) (.lit (.string (str []))))⟩,
      ⟨(some (32, false)), (some (29, false)), .mov (.tmp 31 false) .peek⟩,
      ⟨(some (33, false)), (some (32, true)), .mov (.tmp 1 true) .peek⟩,
      ⟨(some (34, false)), (some (32, true)), .call 35 [(.tmp 33 false)]⟩,
      ⟨(some (35, false)), (some (32, true)), .un .not (.tmp 34 false)⟩,
      ⟨(some (36, false)), (some (29, false)), .pick (.tmp 32 false) (.tmp 35 false) (.cst (.bool false) (.lit (.bool false)))⟩,
      ⟨(some (37, false)), none, .pick (.tmp 29 false) (.cst (.bool true) (.lit (.bool true))) (.tmp 36 false)⟩])) [0, 1, 2, 37] []
  (.cond (.tmp 37 false)
    (.seq (.reg (.seq [⟨(some (38, false)), none, .call 32 []⟩,
      ⟨(some (6, true)), none, .mov (.tmp 38 false) .asg⟩])) [6] []
    (.ret))
    (.skip))) [0, 1, 2] []
  (.seq (.seq (.reg (.seq [⟨(some (39, false)), none, .mov (.tmp 0 true) .peek⟩,
      ⟨(some (40, false)), none, .bin .add (.tmp 39 false) (.cst (.string (str [63])) (.lit (.string (str [63]))))⟩,
      ⟨(some (41, false)), none, .mov (.tmp 1 true) .peek⟩,
      ⟨(some (42, false)), none, .bin .add (.tmp 40 false) (.tmp 41 false)⟩,
      ⟨(some (43, false)), none, .mov (.tmp 2 true) .peek⟩,
      ⟨(some (44, false)), none, .call 47 [(.tmp 42 false), (.tmp 43 false)]⟩,
      ⟨(some (45, false)), none, .mov (.tmp 44 false) .peek⟩,
      ⟨(some (46, false)), (some (45, true)), .mov (.tmp 0 true) .peek⟩,
      ⟨(some (47, false)), (some (45, true)), .bin .add (.tmp 46 false) (.cst (.string (str [42])) (.lit (.string (str [42]))))⟩,
      ⟨(some (48, false)), (some (45, true)), .mov (.tmp 1 true) .peek⟩,
      ⟨(some (49, false)), (some (45, true)), .bin .add (.tmp 47 false) (.tmp 48 false)⟩,
      ⟨(some (50, false)), (some (45, true)), .mov (.tmp 2 true) .peek⟩,
      ⟨(some (51, false)), (some (45, true)), .call 47 [(.tmp 49 false), (.tmp 50 false)]⟩,
      ⟨(some (52, false)), (some (45, true)), .un .not (.tmp 51 false)⟩,
      ⟨(some (53, false)), none, .pick (.tmp 45 false) (.tmp 52 false) (.cst (.bool false) (.lit (.bool false)))⟩])) [0, 1, 2, 53] []
  (.cond (.tmp 53 false)
    (.seq (.reg (.seq [⟨(some (6, true)), none, .mov (.cst (.bool false) (.lit (.bool false))) .asg⟩])) [6] []
    (.ret))
    (.skip))) [0, 1, 2] []
  (.seq (.reg (.seq [⟨(some (54, false)), none, .mov (.tmp 0 true) .peek⟩,
      ⟨(some (55, false)), none, .mov (.tmp 1 true) .peek⟩,
      ⟨(some (56, false)), none, .bin .add (.tmp 54 false) (.tmp 55 false)⟩,
      ⟨(some (57, false)), none, .mov (.tmp 2 true) .peek⟩,
      ⟨(some (58, false)), none, .call 47 [(.tmp 56 false), (.tmp 57 false)]⟩,
      ⟨(some (59, false)), none, .un .not (.tmp 58 false)⟩,
      ⟨(some (60, false)), none, .mov (.tmp 59 false) .peek⟩,
      ⟨(some (61, false)), (some (60, false)), .mov (.tmp 0 true) .peek⟩,
      ⟨(some (62, false)), (some (60, false)), .bin .add (.tmp 61 false) (.cst (.string (str [42])) (.lit (.string (str [42]))))⟩,
      ⟨(some (63, false)), (some (60, false)), .mov (.tmp 1 true) .peek⟩,
      ⟨(some (64, false)), (some (60, false)), .bin .add (.tmp 62 false) (.tmp 63 false)⟩,
      ⟨(some (65, false)), (some (60, false)), .mov (.tmp 2 true) .peek⟩,
      ⟨(some (66, false)), (some (60, false)), .call 47 [(.tmp 64 false), (.tmp 65 false)]⟩,
      ⟨(some (67, false)), none, .pick (.tmp 60 false) (.cst (.bool true) (.lit (.bool true))) (.tmp 66 false)⟩,
      ⟨(some (68, false)), none, .mov (.tmp 67 false) .peek⟩,
      ⟨(some (69, false)), (some (68, true)), .call 32 []⟩,
      ⟨(some (70, false)), none, .pick (.tmp 68 false) (.tmp 69 false) (.cst (.bool false) (.lit (.bool false)))⟩,
      ⟨(some (6, true)), none, .mov (.tmp 70 false) .asg⟩])) [6] []
  (.ret)))),
  [.tmp 6]⟩
theorem lwStars_comp (m : Int) : compF Tryd.prog (gl m) [] Tryd.f14 = some lwStars := by kernel_rfl
set_option maxHeartbeats 4000000 in
theorem stars_law (p q s : Ln.Bs) (lp : p.length ≤ 1048576) (lq : q.length ≤ 1048576) (ls : s.length ≤ 1048576) : Snd Tryd.prog (gl m) 14 [S p, S q, S s] (B true) := by
  refine snd_of (fn := Tryd.f14) (af := lwStars) Tryd.func14 (lwStars_comp m) mixed (kn_ok m) (Nat.le_of_ble_eq_true rfl) ?_
  simp only [lwStars, eqs, reduceCtorEq, implies_true, List.map_cons, List.map_nil, kl, klL, roD, roL, Option.map_some, Option.map_none, Option.getD_some, Option.getD_none, binVal, binObl, unVal, Nat.reduceEqDiff, if_true, if_false, reduceIte, eq_self, passA, frnD, resD, content, getH, viaNot, viaSlot, viaBox, List.contains_cons, List.contains_nil, List.length_cons, List.length_nil, List.take_succ_cons, List.take_zero, List.drop_succ_cons, List.drop_zero, Nat.reduceAdd, Nat.reduceSub, Nat.reduceLeDiff, List.nil_append, List.cons_append, List.append_nil, Int.reduceToNat, List.take_length, outV, resG, plainV, pack, beq_self_eq_true, Nat.reduceBEq, Option.bind_some, resL, frnL, List.all_cons, List.all_nil, plainC]
  by_cases h1 : 100 < p.length
  · rw [igt_t (by omega)]
    simp only [eqs, reduceCtorEq, implies_true, List.map_cons, List.map_nil, kl, klL, roD, roL, Option.map_some, Option.map_none, Option.getD_some, Option.getD_none, binVal, binObl, unVal, Nat.reduceEqDiff, if_true, if_false, reduceIte, eq_self, passA, frnD, resD, content, getH, viaNot, viaSlot, viaBox, List.contains_cons, List.contains_nil, List.length_cons, List.length_nil, List.take_succ_cons, List.take_zero, List.drop_succ_cons, List.drop_zero, Nat.reduceAdd, Nat.reduceSub, Nat.reduceLeDiff, List.nil_append, List.cons_append, List.append_nil, Int.reduceToNat, List.take_length, outV, resG, plainV, pack, beq_self_eq_true, Nat.reduceBEq, Option.bind_some, resL, frnL, List.all_cons, List.all_nil, plainC]
    refine of_call glives_snd ?_
    simp only [eqs, reduceCtorEq, implies_true, List.map_cons, List.map_nil, kl, klL, roD, roL, Option.map_some, Option.map_none, Option.getD_some, Option.getD_none, binVal, binObl, unVal, Nat.reduceEqDiff, if_true, if_false, reduceIte, eq_self, passA, frnD, resD, content, getH, viaNot, viaSlot, viaBox, List.contains_cons, List.contains_nil, List.length_cons, List.length_nil, List.take_succ_cons, List.take_zero, List.drop_succ_cons, List.drop_zero, Nat.reduceAdd, Nat.reduceSub, Nat.reduceLeDiff, List.nil_append, List.cons_append, List.append_nil, Int.reduceToNat, List.take_length, outV, resG, plainV, pack, beq_self_eq_true, Nat.reduceBEq, Option.bind_some, resL, frnL, List.all_cons, List.all_nil, plainC]
  · rw [igt_f (by omega)]
    simp only [eqs, reduceCtorEq, implies_true, List.map_cons, List.map_nil, kl, klL, roD, roL, Option.map_some, Option.map_none, Option.getD_some, Option.getD_none, binVal, binObl, unVal, Nat.reduceEqDiff, if_true, if_false, reduceIte, eq_self, passA, frnD, resD, content, getH, viaNot, viaSlot, viaBox, List.contains_cons, List.contains_nil, List.length_cons, List.length_nil, List.take_succ_cons, List.take_zero, List.drop_succ_cons, List.drop_zero, Nat.reduceAdd, Nat.reduceSub, Nat.reduceLeDiff, List.nil_append, List.cons_append, List.append_nil, Int.reduceToNat, List.take_length, outV, resG, plainV, pack, beq_self_eq_true, Nat.reduceBEq, Option.bind_some, resL, frnL, List.all_cons, List.all_nil, plainC]
    by_cases h2 : 100 < q.length
    · rw [igt_t (by omega)]
      simp only [eqs, reduceCtorEq, implies_true, List.map_cons, List.map_nil, kl, klL, roD, roL, Option.map_some, Option.map_none, Option.getD_some, Option.getD_none, binVal, binObl, unVal, Nat.reduceEqDiff, if_true, if_false, reduceIte, eq_self, passA, frnD, resD, content, getH, viaNot, viaSlot, viaBox, List.contains_cons, List.contains_nil, List.length_cons, List.length_nil, List.take_succ_cons, List.take_zero, List.drop_succ_cons, List.drop_zero, Nat.reduceAdd, Nat.reduceSub, Nat.reduceLeDiff, List.nil_append, List.cons_append, List.append_nil, Int.reduceToNat, List.take_length, outV, resG, plainV, pack, beq_self_eq_true, Nat.reduceBEq, Option.bind_some, resL, frnL, List.all_cons, List.all_nil, plainC]
      refine of_call glives_snd ?_
      simp only [eqs, reduceCtorEq, implies_true, List.map_cons, List.map_nil, kl, klL, roD, roL, Option.map_some, Option.map_none, Option.getD_some, Option.getD_none, binVal, binObl, unVal, Nat.reduceEqDiff, if_true, if_false, reduceIte, eq_self, passA, frnD, resD, content, getH, viaNot, viaSlot, viaBox, List.contains_cons, List.contains_nil, List.length_cons, List.length_nil, List.take_succ_cons, List.take_zero, List.drop_succ_cons, List.drop_zero, Nat.reduceAdd, Nat.reduceSub, Nat.reduceLeDiff, List.nil_append, List.cons_append, List.append_nil, Int.reduceToNat, List.take_length, outV, resG, plainV, pack, beq_self_eq_true, Nat.reduceBEq, Option.bind_some, resL, frnL, List.all_cons, List.all_nil, plainC]
    · rw [igt_f (by omega)]
      simp only [eqs, reduceCtorEq, implies_true, List.map_cons, List.map_nil, kl, klL, roD, roL, Option.map_some, Option.map_none, Option.getD_some, Option.getD_none, binVal, binObl, unVal, Nat.reduceEqDiff, if_true, if_false, reduceIte, eq_self, passA, frnD, resD, content, getH, viaNot, viaSlot, viaBox, List.contains_cons, List.contains_nil, List.length_cons, List.length_nil, List.take_succ_cons, List.take_zero, List.drop_succ_cons, List.drop_zero, Nat.reduceAdd, Nat.reduceSub, Nat.reduceLeDiff, List.nil_append, List.cons_append, List.append_nil, Int.reduceToNat, List.take_length, outV, resG, plainV, pack, beq_self_eq_true, Nat.reduceBEq, Option.bind_some, resL, frnL, List.all_cons, List.all_nil, plainC]
      by_cases h3 : 300 < s.length
      · rw [igt_t (by omega)]
        simp only [eqs, reduceCtorEq, implies_true, List.map_cons, List.map_nil, kl, klL, roD, roL, Option.map_some, Option.map_none, Option.getD_some, Option.getD_none, binVal, binObl, unVal, Nat.reduceEqDiff, if_true, if_false, reduceIte, eq_self, passA, frnD, resD, content, getH, viaNot, viaSlot, viaBox, List.contains_cons, List.contains_nil, List.length_cons, List.length_nil, List.take_succ_cons, List.take_zero, List.drop_succ_cons, List.drop_zero, Nat.reduceAdd, Nat.reduceSub, Nat.reduceLeDiff, List.nil_append, List.cons_append, List.append_nil, Int.reduceToNat, List.take_length, outV, resG, plainV, pack, beq_self_eq_true, Nat.reduceBEq, Option.bind_some, resL, frnL, List.all_cons, List.all_nil, plainC]
        refine of_call glives_snd ?_
        simp only [eqs, reduceCtorEq, implies_true, List.map_cons, List.map_nil, kl, klL, roD, roL, Option.map_some, Option.map_none, Option.getD_some, Option.getD_none, binVal, binObl, unVal, Nat.reduceEqDiff, if_true, if_false, reduceIte, eq_self, passA, frnD, resD, content, getH, viaNot, viaSlot, viaBox, List.contains_cons, List.contains_nil, List.length_cons, List.length_nil, List.take_succ_cons, List.take_zero, List.drop_succ_cons, List.drop_zero, Nat.reduceAdd, Nat.reduceSub, Nat.reduceLeDiff, List.nil_append, List.cons_append, List.append_nil, Int.reduceToNat, List.take_length, outV, resG, plainV, pack, beq_self_eq_true, Nat.reduceBEq, Option.bind_some, resL, frnL, List.all_cons, List.all_nil, plainC]
      · rw [igt_f (by omega)]
        simp only [eqs, reduceCtorEq, implies_true, List.map_cons, List.map_nil, kl, klL, roD, roL, Option.map_some, Option.map_none, Option.getD_some, Option.getD_none, binVal, binObl, unVal, Nat.reduceEqDiff, if_true, if_false, reduceIte, eq_self, passA, frnD, resD, content, getH, viaNot, viaSlot, viaBox, List.contains_cons, List.contains_nil, List.length_cons, List.length_nil, List.take_succ_cons, List.take_zero, List.drop_succ_cons, List.drop_zero, Nat.reduceAdd, Nat.reduceSub, Nat.reduceLeDiff, List.nil_append, List.cons_append, List.append_nil, Int.reduceToNat, List.take_length, outV, resG, plainV, pack, beq_self_eq_true, Nat.reduceBEq, Option.bind_some, resL, frnL, List.all_cons, List.all_nil, plainC]
        by_cases hp0 : p = []
        · have hp : p = [] ∨ isPat p = true := .inl hp0
          rw [sn_f hp0]
          simp only [eqs, reduceCtorEq, implies_true, List.map_cons, List.map_nil, kl, klL, roD, roL, Option.map_some, Option.map_none, Option.getD_some, Option.getD_none, binVal, binObl, unVal, Nat.reduceEqDiff, if_true, if_false, reduceIte, eq_self, passA, frnD, resD, content, getH, viaNot, viaSlot, viaBox, List.contains_cons, List.contains_nil, List.length_cons, List.length_nil, List.take_succ_cons, List.take_zero, List.drop_succ_cons, List.drop_zero, Nat.reduceAdd, Nat.reduceSub, Nat.reduceLeDiff, List.nil_append, List.cons_append, List.append_nil, Int.reduceToNat, List.take_length, outV, resG, plainV, pack, beq_self_eq_true, Nat.reduceBEq, Option.bind_some, resL, frnL, List.all_cons, List.all_nil, plainC]
          by_cases hq0 : q = []
          · have hq : q = [] ∨ isPat q = true := .inl hq0
            rw [sn_f hq0]
            simp only [eqs, reduceCtorEq, implies_true, List.map_cons, List.map_nil, kl, klL, roD, roL, Option.map_some, Option.map_none, Option.getD_some, Option.getD_none, binVal, binObl, unVal, Nat.reduceEqDiff, if_true, if_false, reduceIte, eq_self, passA, frnD, resD, content, getH, viaNot, viaSlot, viaBox, List.contains_cons, List.contains_nil, List.length_cons, List.length_nil, List.take_succ_cons, List.take_zero, List.drop_succ_cons, List.drop_zero, Nat.reduceAdd, Nat.reduceSub, Nat.reduceLeDiff, List.nil_append, List.cons_append, List.append_nil, Int.reduceToNat, List.take_length, outV, resG, plainV, pack, beq_self_eq_true, Nat.reduceBEq, Option.bind_some, resL, frnL, List.all_cons, List.all_nil, plainC]
            repeat (refine ⟨by (try simp only [List.length_append, List.length_cons, List.length_nil]); omega, ?_⟩)
            refine of_call (gPart_snd (p ++ [63] ++ q) s (by simp; omega) (by omega)) ?_
            simp only [unVal, eqs, reduceCtorEq, implies_true, List.map_cons, List.map_nil, kl, klL, roD, roL, Option.map_some, Option.map_none, Option.getD_some, Option.getD_none, binVal, binObl, unVal, Nat.reduceEqDiff, if_true, if_false, reduceIte, eq_self, passA, frnD, resD, content, getH, viaNot, viaSlot, viaBox, List.contains_cons, List.contains_nil, List.length_cons, List.length_nil, List.take_succ_cons, List.take_zero, List.drop_succ_cons, List.drop_zero, Nat.reduceAdd, Nat.reduceSub, Nat.reduceLeDiff, List.nil_append, List.cons_append, List.append_nil, Int.reduceToNat, List.take_length, outV, resG, plainV, pack, beq_self_eq_true, Nat.reduceBEq, Option.bind_some, resL, frnL, List.all_cons, List.all_nil, plainC]
            cases hA : partP (p ++ [63] ++ q) s with
            | false =>
              simp only [eqs, reduceCtorEq, implies_true, List.map_cons, List.map_nil, kl, klL, roD, roL, Option.map_some, Option.map_none, Option.getD_some, Option.getD_none, binVal, binObl, unVal, Nat.reduceEqDiff, if_true, if_false, reduceIte, eq_self, passA, frnD, resD, content, getH, viaNot, viaSlot, viaBox, List.contains_cons, List.contains_nil, List.length_cons, List.length_nil, List.take_succ_cons, List.take_zero, List.drop_succ_cons, List.drop_zero, Nat.reduceAdd, Nat.reduceSub, Nat.reduceLeDiff, List.nil_append, List.cons_append, List.append_nil, Int.reduceToNat, List.take_length, outV, resG, plainV, pack, beq_self_eq_true, Nat.reduceBEq, Option.bind_some, resL, frnL, List.all_cons, List.all_nil, plainC]
              repeat (refine ⟨by (try simp only [List.length_append, List.length_cons, List.length_nil]); omega, ?_⟩)
              refine of_call (gPart_snd (p ++ q) s (by simp; omega) (by omega)) ?_
              simp only [unVal, eqs, reduceCtorEq, implies_true, List.map_cons, List.map_nil, kl, klL, roD, roL, Option.map_some, Option.map_none, Option.getD_some, Option.getD_none, binVal, binObl, unVal, Nat.reduceEqDiff, if_true, if_false, reduceIte, eq_self, passA, frnD, resD, content, getH, viaNot, viaSlot, viaBox, List.contains_cons, List.contains_nil, List.length_cons, List.length_nil, List.take_succ_cons, List.take_zero, List.drop_succ_cons, List.drop_zero, Nat.reduceAdd, Nat.reduceSub, Nat.reduceLeDiff, List.nil_append, List.cons_append, List.append_nil, Int.reduceToNat, List.take_length, outV, resG, plainV, pack, beq_self_eq_true, Nat.reduceBEq, Option.bind_some, resL, frnL, List.all_cons, List.all_nil, plainC]
              cases hB : partP (p ++ q) s with
              | false =>
                simp only [eqs, reduceCtorEq, implies_true, List.map_cons, List.map_nil, kl, klL, roD, roL, Option.map_some, Option.map_none, Option.getD_some, Option.getD_none, binVal, binObl, unVal, Nat.reduceEqDiff, if_true, if_false, reduceIte, eq_self, passA, frnD, resD, content, getH, viaNot, viaSlot, viaBox, List.contains_cons, List.contains_nil, List.length_cons, List.length_nil, List.take_succ_cons, List.take_zero, List.drop_succ_cons, List.drop_zero, Nat.reduceAdd, Nat.reduceSub, Nat.reduceLeDiff, List.nil_append, List.cons_append, List.append_nil, Int.reduceToNat, List.take_length, outV, resG, plainV, pack, beq_self_eq_true, Nat.reduceBEq, Option.bind_some, resL, frnL, List.all_cons, List.all_nil, plainC]
                refine of_call glives_snd ?_
                simp only [eqs, reduceCtorEq, implies_true, List.map_cons, List.map_nil, kl, klL, roD, roL, Option.map_some, Option.map_none, Option.getD_some, Option.getD_none, binVal, binObl, unVal, Nat.reduceEqDiff, if_true, if_false, reduceIte, eq_self, passA, frnD, resD, content, getH, viaNot, viaSlot, viaBox, List.contains_cons, List.contains_nil, List.length_cons, List.length_nil, List.take_succ_cons, List.take_zero, List.drop_succ_cons, List.drop_zero, Nat.reduceAdd, Nat.reduceSub, Nat.reduceLeDiff, List.nil_append, List.cons_append, List.append_nil, Int.reduceToNat, List.take_length, outV, resG, plainV, pack, beq_self_eq_true, Nat.reduceBEq, Option.bind_some, resL, frnL, List.all_cons, List.all_nil, plainC]
              | true =>
                simp only [eqs, reduceCtorEq, implies_true, List.map_cons, List.map_nil, kl, klL, roD, roL, Option.map_some, Option.map_none, Option.getD_some, Option.getD_none, binVal, binObl, unVal, Nat.reduceEqDiff, if_true, if_false, reduceIte, eq_self, passA, frnD, resD, content, getH, viaNot, viaSlot, viaBox, List.contains_cons, List.contains_nil, List.length_cons, List.length_nil, List.take_succ_cons, List.take_zero, List.drop_succ_cons, List.drop_zero, Nat.reduceAdd, Nat.reduceSub, Nat.reduceLeDiff, List.nil_append, List.cons_append, List.append_nil, Int.reduceToNat, List.take_length, outV, resG, plainV, pack, beq_self_eq_true, Nat.reduceBEq, Option.bind_some, resL, frnL, List.all_cons, List.all_nil, plainC]
                repeat (refine ⟨by (try simp only [List.length_append, List.length_cons, List.length_nil]); omega, ?_⟩)
                refine of_call (gPart_snd (p ++ [42] ++ q) s (by simp; omega) (by omega)) ?_
                rw [stars_none hp hq (by omega) (by omega) hB]
                simp only [eqs, reduceCtorEq, implies_true, List.map_cons, List.map_nil, kl, klL, roD, roL, Option.map_some, Option.map_none, Option.getD_some, Option.getD_none, binVal, binObl, unVal, Nat.reduceEqDiff, if_true, if_false, reduceIte, eq_self, passA, frnD, resD, content, getH, viaNot, viaSlot, viaBox, List.contains_cons, List.contains_nil, List.length_cons, List.length_nil, List.take_succ_cons, List.take_zero, List.drop_succ_cons, List.drop_zero, Nat.reduceAdd, Nat.reduceSub, Nat.reduceLeDiff, List.nil_append, List.cons_append, List.append_nil, Int.reduceToNat, List.take_length, outV, resG, plainV, pack, beq_self_eq_true, Nat.reduceBEq, Option.bind_some, resL, frnL, List.all_cons, List.all_nil, plainC]
                refine of_call glives_snd ?_
                simp only [eqs, reduceCtorEq, implies_true, List.map_cons, List.map_nil, kl, klL, roD, roL, Option.map_some, Option.map_none, Option.getD_some, Option.getD_none, binVal, binObl, unVal, Nat.reduceEqDiff, if_true, if_false, reduceIte, eq_self, passA, frnD, resD, content, getH, viaNot, viaSlot, viaBox, List.contains_cons, List.contains_nil, List.length_cons, List.length_nil, List.take_succ_cons, List.take_zero, List.drop_succ_cons, List.drop_zero, Nat.reduceAdd, Nat.reduceSub, Nat.reduceLeDiff, List.nil_append, List.cons_append, List.append_nil, Int.reduceToNat, List.take_length, outV, resG, plainV, pack, beq_self_eq_true, Nat.reduceBEq, Option.bind_some, resL, frnL, List.all_cons, List.all_nil, plainC]

            | true =>
              simp only [eqs, reduceCtorEq, implies_true, List.map_cons, List.map_nil, kl, klL, roD, roL, Option.map_some, Option.map_none, Option.getD_some, Option.getD_none, binVal, binObl, unVal, Nat.reduceEqDiff, if_true, if_false, reduceIte, eq_self, passA, frnD, resD, content, getH, viaNot, viaSlot, viaBox, List.contains_cons, List.contains_nil, List.length_cons, List.length_nil, List.take_succ_cons, List.take_zero, List.drop_succ_cons, List.drop_zero, Nat.reduceAdd, Nat.reduceSub, Nat.reduceLeDiff, List.nil_append, List.cons_append, List.append_nil, Int.reduceToNat, List.take_length, outV, resG, plainV, pack, beq_self_eq_true, Nat.reduceBEq, Option.bind_some, resL, frnL, List.all_cons, List.all_nil, plainC]
              repeat (refine ⟨by (try simp only [List.length_append, List.length_cons, List.length_nil]); omega, ?_⟩)
              refine of_call (gPart_snd (p ++ [42] ++ q) s (by simp; omega) (by omega)) ?_
              rw [stars_any hp hq (by omega) (by omega) hA]
              simp only [eqs, reduceCtorEq, implies_true, List.map_cons, List.map_nil, kl, klL, roD, roL, Option.map_some, Option.map_none, Option.getD_some, Option.getD_none, binVal, binObl, unVal, Nat.reduceEqDiff, if_true, if_false, reduceIte, eq_self, passA, frnD, resD, content, getH, viaNot, viaSlot, viaBox, List.contains_cons, List.contains_nil, List.length_cons, List.length_nil, List.take_succ_cons, List.take_zero, List.drop_succ_cons, List.drop_zero, Nat.reduceAdd, Nat.reduceSub, Nat.reduceLeDiff, List.nil_append, List.cons_append, List.append_nil, Int.reduceToNat, List.take_length, outV, resG, plainV, pack, beq_self_eq_true, Nat.reduceBEq, Option.bind_some, resL, frnL, List.all_cons, List.all_nil, plainC]
              repeat (refine ⟨by (try simp only [List.length_append, List.length_cons, List.length_nil]); omega, ?_⟩)
              refine of_call (gPart_snd (p ++ q) s (by simp; omega) (by omega)) ?_
              simp only [unVal, eqs, reduceCtorEq, implies_true, List.map_cons, List.map_nil, kl, klL, roD, roL, Option.map_some, Option.map_none, Option.getD_some, Option.getD_none, binVal, binObl, unVal, Nat.reduceEqDiff, if_true, if_false, reduceIte, eq_self, passA, frnD, resD, content, getH, viaNot, viaSlot, viaBox, List.contains_cons, List.contains_nil, List.length_cons, List.length_nil, List.take_succ_cons, List.take_zero, List.drop_succ_cons, List.drop_zero, Nat.reduceAdd, Nat.reduceSub, Nat.reduceLeDiff, List.nil_append, List.cons_append, List.append_nil, Int.reduceToNat, List.take_length, outV, resG, plainV, pack, beq_self_eq_true, Nat.reduceBEq, Option.bind_some, resL, frnL, List.all_cons, List.all_nil, plainC]
              cases hB : partP (p ++ q) s with
              | false =>
                simp only [eqs, reduceCtorEq, implies_true, List.map_cons, List.map_nil, kl, klL, roD, roL, Option.map_some, Option.map_none, Option.getD_some, Option.getD_none, binVal, binObl, unVal, Nat.reduceEqDiff, if_true, if_false, reduceIte, eq_self, passA, frnD, resD, content, getH, viaNot, viaSlot, viaBox, List.contains_cons, List.contains_nil, List.length_cons, List.length_nil, List.take_succ_cons, List.take_zero, List.drop_succ_cons, List.drop_zero, Nat.reduceAdd, Nat.reduceSub, Nat.reduceLeDiff, List.nil_append, List.cons_append, List.append_nil, Int.reduceToNat, List.take_length, outV, resG, plainV, pack, beq_self_eq_true, Nat.reduceBEq, Option.bind_some, resL, frnL, List.all_cons, List.all_nil, plainC]
                refine of_call glives_snd ?_
                simp only [eqs, reduceCtorEq, implies_true, List.map_cons, List.map_nil, kl, klL, roD, roL, Option.map_some, Option.map_none, Option.getD_some, Option.getD_none, binVal, binObl, unVal, Nat.reduceEqDiff, if_true, if_false, reduceIte, eq_self, passA, frnD, resD, content, getH, viaNot, viaSlot, viaBox, List.contains_cons, List.contains_nil, List.length_cons, List.length_nil, List.take_succ_cons, List.take_zero, List.drop_succ_cons, List.drop_zero, Nat.reduceAdd, Nat.reduceSub, Nat.reduceLeDiff, List.nil_append, List.cons_append, List.append_nil, Int.reduceToNat, List.take_length, outV, resG, plainV, pack, beq_self_eq_true, Nat.reduceBEq, Option.bind_some, resL, frnL, List.all_cons, List.all_nil, plainC]
              | true =>
                simp only [eqs, reduceCtorEq, implies_true, List.map_cons, List.map_nil, kl, klL, roD, roL, Option.map_some, Option.map_none, Option.getD_some, Option.getD_none, binVal, binObl, unVal, Nat.reduceEqDiff, if_true, if_false, reduceIte, eq_self, passA, frnD, resD, content, getH, viaNot, viaSlot, viaBox, List.contains_cons, List.contains_nil, List.length_cons, List.length_nil, List.take_succ_cons, List.take_zero, List.drop_succ_cons, List.drop_zero, Nat.reduceAdd, Nat.reduceSub, Nat.reduceLeDiff, List.nil_append, List.cons_append, List.append_nil, Int.reduceToNat, List.take_length, outV, resG, plainV, pack, beq_self_eq_true, Nat.reduceBEq, Option.bind_some, resL, frnL, List.all_cons, List.all_nil, plainC]
                repeat (refine ⟨by (try simp only [List.length_append, List.length_cons, List.length_nil]); omega, ?_⟩)
                refine of_call (gPart_snd (p ++ [42] ++ q) s (by simp; omega) (by omega)) ?_
                rw [stars_none hp hq (by omega) (by omega) hB]
                simp only [eqs, reduceCtorEq, implies_true, List.map_cons, List.map_nil, kl, klL, roD, roL, Option.map_some, Option.map_none, Option.getD_some, Option.getD_none, binVal, binObl, unVal, Nat.reduceEqDiff, if_true, if_false, reduceIte, eq_self, passA, frnD, resD, content, getH, viaNot, viaSlot, viaBox, List.contains_cons, List.contains_nil, List.length_cons, List.length_nil, List.take_succ_cons, List.take_zero, List.drop_succ_cons, List.drop_zero, Nat.reduceAdd, Nat.reduceSub, Nat.reduceLeDiff, List.nil_append, List.cons_append, List.append_nil, Int.reduceToNat, List.take_length, outV, resG, plainV, pack, beq_self_eq_true, Nat.reduceBEq, Option.bind_some, resL, frnL, List.all_cons, List.all_nil, plainC]
                refine of_call glives_snd ?_
                simp only [eqs, reduceCtorEq, implies_true, List.map_cons, List.map_nil, kl, klL, roD, roL, Option.map_some, Option.map_none, Option.getD_some, Option.getD_none, binVal, binObl, unVal, Nat.reduceEqDiff, if_true, if_false, reduceIte, eq_self, passA, frnD, resD, content, getH, viaNot, viaSlot, viaBox, List.contains_cons, List.contains_nil, List.length_cons, List.length_nil, List.take_succ_cons, List.take_zero, List.drop_succ_cons, List.drop_zero, Nat.reduceAdd, Nat.reduceSub, Nat.reduceLeDiff, List.nil_append, List.cons_append, List.append_nil, Int.reduceToNat, List.take_length, outV, resG, plainV, pack, beq_self_eq_true, Nat.reduceBEq, Option.bind_some, resL, frnL, List.all_cons, List.all_nil, plainC]

          · rw [sn_t hq0]
            simp only [eqs, reduceCtorEq, implies_true, List.map_cons, List.map_nil, kl, klL, roD, roL, Option.map_some, Option.map_none, Option.getD_some, Option.getD_none, binVal, binObl, unVal, Nat.reduceEqDiff, if_true, if_false, reduceIte, eq_self, passA, frnD, resD, content, getH, viaNot, viaSlot, viaBox, List.contains_cons, List.contains_nil, List.length_cons, List.length_nil, List.take_succ_cons, List.take_zero, List.drop_succ_cons, List.drop_zero, Nat.reduceAdd, Nat.reduceSub, Nat.reduceLeDiff, List.nil_append, List.cons_append, List.append_nil, Int.reduceToNat, List.take_length, outV, resG, plainV, pack, beq_self_eq_true, Nat.reduceBEq, Option.bind_some, resL, frnL, List.all_cons, List.all_nil, plainC]
            refine of_call (gis_snd q (by omega)) ?_
            simp only [unVal, eqs, reduceCtorEq, implies_true, List.map_cons, List.map_nil, kl, klL, roD, roL, Option.map_some, Option.map_none, Option.getD_some, Option.getD_none, binVal, binObl, unVal, Nat.reduceEqDiff, if_true, if_false, reduceIte, eq_self, passA, frnD, resD, content, getH, viaNot, viaSlot, viaBox, List.contains_cons, List.contains_nil, List.length_cons, List.length_nil, List.take_succ_cons, List.take_zero, List.drop_succ_cons, List.drop_zero, Nat.reduceAdd, Nat.reduceSub, Nat.reduceLeDiff, List.nil_append, List.cons_append, List.append_nil, Int.reduceToNat, List.take_length, outV, resG, plainV, pack, beq_self_eq_true, Nat.reduceBEq, Option.bind_some, resL, frnL, List.all_cons, List.all_nil, plainC]
            cases hqi : isPat q with
            | false =>
              simp only [eqs, reduceCtorEq, implies_true, List.map_cons, List.map_nil, kl, klL, roD, roL, Option.map_some, Option.map_none, Option.getD_some, Option.getD_none, binVal, binObl, unVal, Nat.reduceEqDiff, if_true, if_false, reduceIte, eq_self, passA, frnD, resD, content, getH, viaNot, viaSlot, viaBox, List.contains_cons, List.contains_nil, List.length_cons, List.length_nil, List.take_succ_cons, List.take_zero, List.drop_succ_cons, List.drop_zero, Nat.reduceAdd, Nat.reduceSub, Nat.reduceLeDiff, List.nil_append, List.cons_append, List.append_nil, Int.reduceToNat, List.take_length, outV, resG, plainV, pack, beq_self_eq_true, Nat.reduceBEq, Option.bind_some, resL, frnL, List.all_cons, List.all_nil, plainC]
              refine of_call glives_snd ?_
              simp only [eqs, reduceCtorEq, implies_true, List.map_cons, List.map_nil, kl, klL, roD, roL, Option.map_some, Option.map_none, Option.getD_some, Option.getD_none, binVal, binObl, unVal, Nat.reduceEqDiff, if_true, if_false, reduceIte, eq_self, passA, frnD, resD, content, getH, viaNot, viaSlot, viaBox, List.contains_cons, List.contains_nil, List.length_cons, List.length_nil, List.take_succ_cons, List.take_zero, List.drop_succ_cons, List.drop_zero, Nat.reduceAdd, Nat.reduceSub, Nat.reduceLeDiff, List.nil_append, List.cons_append, List.append_nil, Int.reduceToNat, List.take_length, outV, resG, plainV, pack, beq_self_eq_true, Nat.reduceBEq, Option.bind_some, resL, frnL, List.all_cons, List.all_nil, plainC]

            | true =>
              have hq : q = [] ∨ isPat q = true := .inr hqi
              simp only [eqs, reduceCtorEq, implies_true, List.map_cons, List.map_nil, kl, klL, roD, roL, Option.map_some, Option.map_none, Option.getD_some, Option.getD_none, binVal, binObl, unVal, Nat.reduceEqDiff, if_true, if_false, reduceIte, eq_self, passA, frnD, resD, content, getH, viaNot, viaSlot, viaBox, List.contains_cons, List.contains_nil, List.length_cons, List.length_nil, List.take_succ_cons, List.take_zero, List.drop_succ_cons, List.drop_zero, Nat.reduceAdd, Nat.reduceSub, Nat.reduceLeDiff, List.nil_append, List.cons_append, List.append_nil, Int.reduceToNat, List.take_length, outV, resG, plainV, pack, beq_self_eq_true, Nat.reduceBEq, Option.bind_some, resL, frnL, List.all_cons, List.all_nil, plainC]
              repeat (refine ⟨by (try simp only [List.length_append, List.length_cons, List.length_nil]); omega, ?_⟩)
              refine of_call (gPart_snd (p ++ [63] ++ q) s (by simp; omega) (by omega)) ?_
              simp only [unVal, eqs, reduceCtorEq, implies_true, List.map_cons, List.map_nil, kl, klL, roD, roL, Option.map_some, Option.map_none, Option.getD_some, Option.getD_none, binVal, binObl, unVal, Nat.reduceEqDiff, if_true, if_false, reduceIte, eq_self, passA, frnD, resD, content, getH, viaNot, viaSlot, viaBox, List.contains_cons, List.contains_nil, List.length_cons, List.length_nil, List.take_succ_cons, List.take_zero, List.drop_succ_cons, List.drop_zero, Nat.reduceAdd, Nat.reduceSub, Nat.reduceLeDiff, List.nil_append, List.cons_append, List.append_nil, Int.reduceToNat, List.take_length, outV, resG, plainV, pack, beq_self_eq_true, Nat.reduceBEq, Option.bind_some, resL, frnL, List.all_cons, List.all_nil, plainC]
              cases hA : partP (p ++ [63] ++ q) s with
              | false =>
                simp only [eqs, reduceCtorEq, implies_true, List.map_cons, List.map_nil, kl, klL, roD, roL, Option.map_some, Option.map_none, Option.getD_some, Option.getD_none, binVal, binObl, unVal, Nat.reduceEqDiff, if_true, if_false, reduceIte, eq_self, passA, frnD, resD, content, getH, viaNot, viaSlot, viaBox, List.contains_cons, List.contains_nil, List.length_cons, List.length_nil, List.take_succ_cons, List.take_zero, List.drop_succ_cons, List.drop_zero, Nat.reduceAdd, Nat.reduceSub, Nat.reduceLeDiff, List.nil_append, List.cons_append, List.append_nil, Int.reduceToNat, List.take_length, outV, resG, plainV, pack, beq_self_eq_true, Nat.reduceBEq, Option.bind_some, resL, frnL, List.all_cons, List.all_nil, plainC]
                repeat (refine ⟨by (try simp only [List.length_append, List.length_cons, List.length_nil]); omega, ?_⟩)
                refine of_call (gPart_snd (p ++ q) s (by simp; omega) (by omega)) ?_
                simp only [unVal, eqs, reduceCtorEq, implies_true, List.map_cons, List.map_nil, kl, klL, roD, roL, Option.map_some, Option.map_none, Option.getD_some, Option.getD_none, binVal, binObl, unVal, Nat.reduceEqDiff, if_true, if_false, reduceIte, eq_self, passA, frnD, resD, content, getH, viaNot, viaSlot, viaBox, List.contains_cons, List.contains_nil, List.length_cons, List.length_nil, List.take_succ_cons, List.take_zero, List.drop_succ_cons, List.drop_zero, Nat.reduceAdd, Nat.reduceSub, Nat.reduceLeDiff, List.nil_append, List.cons_append, List.append_nil, Int.reduceToNat, List.take_length, outV, resG, plainV, pack, beq_self_eq_true, Nat.reduceBEq, Option.bind_some, resL, frnL, List.all_cons, List.all_nil, plainC]
                cases hB : partP (p ++ q) s with
                | false =>
                  simp only [eqs, reduceCtorEq, implies_true, List.map_cons, List.map_nil, kl, klL, roD, roL, Option.map_some, Option.map_none, Option.getD_some, Option.getD_none, binVal, binObl, unVal, Nat.reduceEqDiff, if_true, if_false, reduceIte, eq_self, passA, frnD, resD, content, getH, viaNot, viaSlot, viaBox, List.contains_cons, List.contains_nil, List.length_cons, List.length_nil, List.take_succ_cons, List.take_zero, List.drop_succ_cons, List.drop_zero, Nat.reduceAdd, Nat.reduceSub, Nat.reduceLeDiff, List.nil_append, List.cons_append, List.append_nil, Int.reduceToNat, List.take_length, outV, resG, plainV, pack, beq_self_eq_true, Nat.reduceBEq, Option.bind_some, resL, frnL, List.all_cons, List.all_nil, plainC]
                  refine of_call glives_snd ?_
                  simp only [eqs, reduceCtorEq, implies_true, List.map_cons, List.map_nil, kl, klL, roD, roL, Option.map_some, Option.map_none, Option.getD_some, Option.getD_none, binVal, binObl, unVal, Nat.reduceEqDiff, if_true, if_false, reduceIte, eq_self, passA, frnD, resD, content, getH, viaNot, viaSlot, viaBox, List.contains_cons, List.contains_nil, List.length_cons, List.length_nil, List.take_succ_cons, List.take_zero, List.drop_succ_cons, List.drop_zero, Nat.reduceAdd, Nat.reduceSub, Nat.reduceLeDiff, List.nil_append, List.cons_append, List.append_nil, Int.reduceToNat, List.take_length, outV, resG, plainV, pack, beq_self_eq_true, Nat.reduceBEq, Option.bind_some, resL, frnL, List.all_cons, List.all_nil, plainC]
                | true =>
                  simp only [eqs, reduceCtorEq, implies_true, List.map_cons, List.map_nil, kl, klL, roD, roL, Option.map_some, Option.map_none, Option.getD_some, Option.getD_none, binVal, binObl, unVal, Nat.reduceEqDiff, if_true, if_false, reduceIte, eq_self, passA, frnD, resD, content, getH, viaNot, viaSlot, viaBox, List.contains_cons, List.contains_nil, List.length_cons, List.length_nil, List.take_succ_cons, List.take_zero, List.drop_succ_cons, List.drop_zero, Nat.reduceAdd, Nat.reduceSub, Nat.reduceLeDiff, List.nil_append, List.cons_append, List.append_nil, Int.reduceToNat, List.take_length, outV, resG, plainV, pack, beq_self_eq_true, Nat.reduceBEq, Option.bind_some, resL, frnL, List.all_cons, List.all_nil, plainC]
                  repeat (refine ⟨by (try simp only [List.length_append, List.length_cons, List.length_nil]); omega, ?_⟩)
                  refine of_call (gPart_snd (p ++ [42] ++ q) s (by simp; omega) (by omega)) ?_
                  rw [stars_none hp hq (by omega) (by omega) hB]
                  simp only [eqs, reduceCtorEq, implies_true, List.map_cons, List.map_nil, kl, klL, roD, roL, Option.map_some, Option.map_none, Option.getD_some, Option.getD_none, binVal, binObl, unVal, Nat.reduceEqDiff, if_true, if_false, reduceIte, eq_self, passA, frnD, resD, content, getH, viaNot, viaSlot, viaBox, List.contains_cons, List.contains_nil, List.length_cons, List.length_nil, List.take_succ_cons, List.take_zero, List.drop_succ_cons, List.drop_zero, Nat.reduceAdd, Nat.reduceSub, Nat.reduceLeDiff, List.nil_append, List.cons_append, List.append_nil, Int.reduceToNat, List.take_length, outV, resG, plainV, pack, beq_self_eq_true, Nat.reduceBEq, Option.bind_some, resL, frnL, List.all_cons, List.all_nil, plainC]
                  refine of_call glives_snd ?_
                  simp only [eqs, reduceCtorEq, implies_true, List.map_cons, List.map_nil, kl, klL, roD, roL, Option.map_some, Option.map_none, Option.getD_some, Option.getD_none, binVal, binObl, unVal, Nat.reduceEqDiff, if_true, if_false, reduceIte, eq_self, passA, frnD, resD, content, getH, viaNot, viaSlot, viaBox, List.contains_cons, List.contains_nil, List.length_cons, List.length_nil, List.take_succ_cons, List.take_zero, List.drop_succ_cons, List.drop_zero, Nat.reduceAdd, Nat.reduceSub, Nat.reduceLeDiff, List.nil_append, List.cons_append, List.append_nil, Int.reduceToNat, List.take_length, outV, resG, plainV, pack, beq_self_eq_true, Nat.reduceBEq, Option.bind_some, resL, frnL, List.all_cons, List.all_nil, plainC]

              | true =>
                simp only [eqs, reduceCtorEq, implies_true, List.map_cons, List.map_nil, kl, klL, roD, roL, Option.map_some, Option.map_none, Option.getD_some, Option.getD_none, binVal, binObl, unVal, Nat.reduceEqDiff, if_true, if_false, reduceIte, eq_self, passA, frnD, resD, content, getH, viaNot, viaSlot, viaBox, List.contains_cons, List.contains_nil, List.length_cons, List.length_nil, List.take_succ_cons, List.take_zero, List.drop_succ_cons, List.drop_zero, Nat.reduceAdd, Nat.reduceSub, Nat.reduceLeDiff, List.nil_append, List.cons_append, List.append_nil, Int.reduceToNat, List.take_length, outV, resG, plainV, pack, beq_self_eq_true, Nat.reduceBEq, Option.bind_some, resL, frnL, List.all_cons, List.all_nil, plainC]
                repeat (refine ⟨by (try simp only [List.length_append, List.length_cons, List.length_nil]); omega, ?_⟩)
                refine of_call (gPart_snd (p ++ [42] ++ q) s (by simp; omega) (by omega)) ?_
                rw [stars_any hp hq (by omega) (by omega) hA]
                simp only [eqs, reduceCtorEq, implies_true, List.map_cons, List.map_nil, kl, klL, roD, roL, Option.map_some, Option.map_none, Option.getD_some, Option.getD_none, binVal, binObl, unVal, Nat.reduceEqDiff, if_true, if_false, reduceIte, eq_self, passA, frnD, resD, content, getH, viaNot, viaSlot, viaBox, List.contains_cons, List.contains_nil, List.length_cons, List.length_nil, List.take_succ_cons, List.take_zero, List.drop_succ_cons, List.drop_zero, Nat.reduceAdd, Nat.reduceSub, Nat.reduceLeDiff, List.nil_append, List.cons_append, List.append_nil, Int.reduceToNat, List.take_length, outV, resG, plainV, pack, beq_self_eq_true, Nat.reduceBEq, Option.bind_some, resL, frnL, List.all_cons, List.all_nil, plainC]
                repeat (refine ⟨by (try simp only [List.length_append, List.length_cons, List.length_nil]); omega, ?_⟩)
                refine of_call (gPart_snd (p ++ q) s (by simp; omega) (by omega)) ?_
                simp only [unVal, eqs, reduceCtorEq, implies_true, List.map_cons, List.map_nil, kl, klL, roD, roL, Option.map_some, Option.map_none, Option.getD_some, Option.getD_none, binVal, binObl, unVal, Nat.reduceEqDiff, if_true, if_false, reduceIte, eq_self, passA, frnD, resD, content, getH, viaNot, viaSlot, viaBox, List.contains_cons, List.contains_nil, List.length_cons, List.length_nil, List.take_succ_cons, List.take_zero, List.drop_succ_cons, List.drop_zero, Nat.reduceAdd, Nat.reduceSub, Nat.reduceLeDiff, List.nil_append, List.cons_append, List.append_nil, Int.reduceToNat, List.take_length, outV, resG, plainV, pack, beq_self_eq_true, Nat.reduceBEq, Option.bind_some, resL, frnL, List.all_cons, List.all_nil, plainC]
                cases hB : partP (p ++ q) s with
                | false =>
                  simp only [eqs, reduceCtorEq, implies_true, List.map_cons, List.map_nil, kl, klL, roD, roL, Option.map_some, Option.map_none, Option.getD_some, Option.getD_none, binVal, binObl, unVal, Nat.reduceEqDiff, if_true, if_false, reduceIte, eq_self, passA, frnD, resD, content, getH, viaNot, viaSlot, viaBox, List.contains_cons, List.contains_nil, List.length_cons, List.length_nil, List.take_succ_cons, List.take_zero, List.drop_succ_cons, List.drop_zero, Nat.reduceAdd, Nat.reduceSub, Nat.reduceLeDiff, List.nil_append, List.cons_append, List.append_nil, Int.reduceToNat, List.take_length, outV, resG, plainV, pack, beq_self_eq_true, Nat.reduceBEq, Option.bind_some, resL, frnL, List.all_cons, List.all_nil, plainC]
                  refine of_call glives_snd ?_
                  simp only [eqs, reduceCtorEq, implies_true, List.map_cons, List.map_nil, kl, klL, roD, roL, Option.map_some, Option.map_none, Option.getD_some, Option.getD_none, binVal, binObl, unVal, Nat.reduceEqDiff, if_true, if_false, reduceIte, eq_self, passA, frnD, resD, content, getH, viaNot, viaSlot, viaBox, List.contains_cons, List.contains_nil, List.length_cons, List.length_nil, List.take_succ_cons, List.take_zero, List.drop_succ_cons, List.drop_zero, Nat.reduceAdd, Nat.reduceSub, Nat.reduceLeDiff, List.nil_append, List.cons_append, List.append_nil, Int.reduceToNat, List.take_length, outV, resG, plainV, pack, beq_self_eq_true, Nat.reduceBEq, Option.bind_some, resL, frnL, List.all_cons, List.all_nil, plainC]
                | true =>
                  simp only [eqs, reduceCtorEq, implies_true, List.map_cons, List.map_nil, kl, klL, roD, roL, Option.map_some, Option.map_none, Option.getD_some, Option.getD_none, binVal, binObl, unVal, Nat.reduceEqDiff, if_true, if_false, reduceIte, eq_self, passA, frnD, resD, content, getH, viaNot, viaSlot, viaBox, List.contains_cons, List.contains_nil, List.length_cons, List.length_nil, List.take_succ_cons, List.take_zero, List.drop_succ_cons, List.drop_zero, Nat.reduceAdd, Nat.reduceSub, Nat.reduceLeDiff, List.nil_append, List.cons_append, List.append_nil, Int.reduceToNat, List.take_length, outV, resG, plainV, pack, beq_self_eq_true, Nat.reduceBEq, Option.bind_some, resL, frnL, List.all_cons, List.all_nil, plainC]
                  repeat (refine ⟨by (try simp only [List.length_append, List.length_cons, List.length_nil]); omega, ?_⟩)
                  refine of_call (gPart_snd (p ++ [42] ++ q) s (by simp; omega) (by omega)) ?_
                  rw [stars_none hp hq (by omega) (by omega) hB]
                  simp only [eqs, reduceCtorEq, implies_true, List.map_cons, List.map_nil, kl, klL, roD, roL, Option.map_some, Option.map_none, Option.getD_some, Option.getD_none, binVal, binObl, unVal, Nat.reduceEqDiff, if_true, if_false, reduceIte, eq_self, passA, frnD, resD, content, getH, viaNot, viaSlot, viaBox, List.contains_cons, List.contains_nil, List.length_cons, List.length_nil, List.take_succ_cons, List.take_zero, List.drop_succ_cons, List.drop_zero, Nat.reduceAdd, Nat.reduceSub, Nat.reduceLeDiff, List.nil_append, List.cons_append, List.append_nil, Int.reduceToNat, List.take_length, outV, resG, plainV, pack, beq_self_eq_true, Nat.reduceBEq, Option.bind_some, resL, frnL, List.all_cons, List.all_nil, plainC]
                  refine of_call glives_snd ?_
                  simp only [eqs, reduceCtorEq, implies_true, List.map_cons, List.map_nil, kl, klL, roD, roL, Option.map_some, Option.map_none, Option.getD_some, Option.getD_none, binVal, binObl, unVal, Nat.reduceEqDiff, if_true, if_false, reduceIte, eq_self, passA, frnD, resD, content, getH, viaNot, viaSlot, viaBox, List.contains_cons, List.contains_nil, List.length_cons, List.length_nil, List.take_succ_cons, List.take_zero, List.drop_succ_cons, List.drop_zero, Nat.reduceAdd, Nat.reduceSub, Nat.reduceLeDiff, List.nil_append, List.cons_append, List.append_nil, Int.reduceToNat, List.take_length, outV, resG, plainV, pack, beq_self_eq_true, Nat.reduceBEq, Option.bind_some, resL, frnL, List.all_cons, List.all_nil, plainC]

        · rw [sn_t hp0]
          simp only [eqs, reduceCtorEq, implies_true, List.map_cons, List.map_nil, kl, klL, roD, roL, Option.map_some, Option.map_none, Option.getD_some, Option.getD_none, binVal, binObl, unVal, Nat.reduceEqDiff, if_true, if_false, reduceIte, eq_self, passA, frnD, resD, content, getH, viaNot, viaSlot, viaBox, List.contains_cons, List.contains_nil, List.length_cons, List.length_nil, List.take_succ_cons, List.take_zero, List.drop_succ_cons, List.drop_zero, Nat.reduceAdd, Nat.reduceSub, Nat.reduceLeDiff, List.nil_append, List.cons_append, List.append_nil, Int.reduceToNat, List.take_length, outV, resG, plainV, pack, beq_self_eq_true, Nat.reduceBEq, Option.bind_some, resL, frnL, List.all_cons, List.all_nil, plainC]
          refine of_call (gis_snd p (by omega)) ?_
          simp only [unVal, eqs, reduceCtorEq, implies_true, List.map_cons, List.map_nil, kl, klL, roD, roL, Option.map_some, Option.map_none, Option.getD_some, Option.getD_none, binVal, binObl, unVal, Nat.reduceEqDiff, if_true, if_false, reduceIte, eq_self, passA, frnD, resD, content, getH, viaNot, viaSlot, viaBox, List.contains_cons, List.contains_nil, List.length_cons, List.length_nil, List.take_succ_cons, List.take_zero, List.drop_succ_cons, List.drop_zero, Nat.reduceAdd, Nat.reduceSub, Nat.reduceLeDiff, List.nil_append, List.cons_append, List.append_nil, Int.reduceToNat, List.take_length, outV, resG, plainV, pack, beq_self_eq_true, Nat.reduceBEq, Option.bind_some, resL, frnL, List.all_cons, List.all_nil, plainC]
          cases hpi : isPat p with
          | false =>
            simp only [eqs, reduceCtorEq, implies_true, List.map_cons, List.map_nil, kl, klL, roD, roL, Option.map_some, Option.map_none, Option.getD_some, Option.getD_none, binVal, binObl, unVal, Nat.reduceEqDiff, if_true, if_false, reduceIte, eq_self, passA, frnD, resD, content, getH, viaNot, viaSlot, viaBox, List.contains_cons, List.contains_nil, List.length_cons, List.length_nil, List.take_succ_cons, List.take_zero, List.drop_succ_cons, List.drop_zero, Nat.reduceAdd, Nat.reduceSub, Nat.reduceLeDiff, List.nil_append, List.cons_append, List.append_nil, Int.reduceToNat, List.take_length, outV, resG, plainV, pack, beq_self_eq_true, Nat.reduceBEq, Option.bind_some, resL, frnL, List.all_cons, List.all_nil, plainC]
            refine of_call glives_snd ?_
            simp only [eqs, reduceCtorEq, implies_true, List.map_cons, List.map_nil, kl, klL, roD, roL, Option.map_some, Option.map_none, Option.getD_some, Option.getD_none, binVal, binObl, unVal, Nat.reduceEqDiff, if_true, if_false, reduceIte, eq_self, passA, frnD, resD, content, getH, viaNot, viaSlot, viaBox, List.contains_cons, List.contains_nil, List.length_cons, List.length_nil, List.take_succ_cons, List.take_zero, List.drop_succ_cons, List.drop_zero, Nat.reduceAdd, Nat.reduceSub, Nat.reduceLeDiff, List.nil_append, List.cons_append, List.append_nil, Int.reduceToNat, List.take_length, outV, resG, plainV, pack, beq_self_eq_true, Nat.reduceBEq, Option.bind_some, resL, frnL, List.all_cons, List.all_nil, plainC]

          | true =>
            have hp : p = [] ∨ isPat p = true := .inr hpi
            simp only [eqs, reduceCtorEq, implies_true, List.map_cons, List.map_nil, kl, klL, roD, roL, Option.map_some, Option.map_none, Option.getD_some, Option.getD_none, binVal, binObl, unVal, Nat.reduceEqDiff, if_true, if_false, reduceIte, eq_self, passA, frnD, resD, content, getH, viaNot, viaSlot, viaBox, List.contains_cons, List.contains_nil, List.length_cons, List.length_nil, List.take_succ_cons, List.take_zero, List.drop_succ_cons, List.drop_zero, Nat.reduceAdd, Nat.reduceSub, Nat.reduceLeDiff, List.nil_append, List.cons_append, List.append_nil, Int.reduceToNat, List.take_length, outV, resG, plainV, pack, beq_self_eq_true, Nat.reduceBEq, Option.bind_some, resL, frnL, List.all_cons, List.all_nil, plainC]
            by_cases hq0 : q = []
            · have hq : q = [] ∨ isPat q = true := .inl hq0
              rw [sn_f hq0]
              simp only [eqs, reduceCtorEq, implies_true, List.map_cons, List.map_nil, kl, klL, roD, roL, Option.map_some, Option.map_none, Option.getD_some, Option.getD_none, binVal, binObl, unVal, Nat.reduceEqDiff, if_true, if_false, reduceIte, eq_self, passA, frnD, resD, content, getH, viaNot, viaSlot, viaBox, List.contains_cons, List.contains_nil, List.length_cons, List.length_nil, List.take_succ_cons, List.take_zero, List.drop_succ_cons, List.drop_zero, Nat.reduceAdd, Nat.reduceSub, Nat.reduceLeDiff, List.nil_append, List.cons_append, List.append_nil, Int.reduceToNat, List.take_length, outV, resG, plainV, pack, beq_self_eq_true, Nat.reduceBEq, Option.bind_some, resL, frnL, List.all_cons, List.all_nil, plainC]
              repeat (refine ⟨by (try simp only [List.length_append, List.length_cons, List.length_nil]); omega, ?_⟩)
              refine of_call (gPart_snd (p ++ [63] ++ q) s (by simp; omega) (by omega)) ?_
              simp only [unVal, eqs, reduceCtorEq, implies_true, List.map_cons, List.map_nil, kl, klL, roD, roL, Option.map_some, Option.map_none, Option.getD_some, Option.getD_none, binVal, binObl, unVal, Nat.reduceEqDiff, if_true, if_false, reduceIte, eq_self, passA, frnD, resD, content, getH, viaNot, viaSlot, viaBox, List.contains_cons, List.contains_nil, List.length_cons, List.length_nil, List.take_succ_cons, List.take_zero, List.drop_succ_cons, List.drop_zero, Nat.reduceAdd, Nat.reduceSub, Nat.reduceLeDiff, List.nil_append, List.cons_append, List.append_nil, Int.reduceToNat, List.take_length, outV, resG, plainV, pack, beq_self_eq_true, Nat.reduceBEq, Option.bind_some, resL, frnL, List.all_cons, List.all_nil, plainC]
              cases hA : partP (p ++ [63] ++ q) s with
              | false =>
                simp only [eqs, reduceCtorEq, implies_true, List.map_cons, List.map_nil, kl, klL, roD, roL, Option.map_some, Option.map_none, Option.getD_some, Option.getD_none, binVal, binObl, unVal, Nat.reduceEqDiff, if_true, if_false, reduceIte, eq_self, passA, frnD, resD, content, getH, viaNot, viaSlot, viaBox, List.contains_cons, List.contains_nil, List.length_cons, List.length_nil, List.take_succ_cons, List.take_zero, List.drop_succ_cons, List.drop_zero, Nat.reduceAdd, Nat.reduceSub, Nat.reduceLeDiff, List.nil_append, List.cons_append, List.append_nil, Int.reduceToNat, List.take_length, outV, resG, plainV, pack, beq_self_eq_true, Nat.reduceBEq, Option.bind_some, resL, frnL, List.all_cons, List.all_nil, plainC]
                repeat (refine ⟨by (try simp only [List.length_append, List.length_cons, List.length_nil]); omega, ?_⟩)
                refine of_call (gPart_snd (p ++ q) s (by simp; omega) (by omega)) ?_
                simp only [unVal, eqs, reduceCtorEq, implies_true, List.map_cons, List.map_nil, kl, klL, roD, roL, Option.map_some, Option.map_none, Option.getD_some, Option.getD_none, binVal, binObl, unVal, Nat.reduceEqDiff, if_true, if_false, reduceIte, eq_self, passA, frnD, resD, content, getH, viaNot, viaSlot, viaBox, List.contains_cons, List.contains_nil, List.length_cons, List.length_nil, List.take_succ_cons, List.take_zero, List.drop_succ_cons, List.drop_zero, Nat.reduceAdd, Nat.reduceSub, Nat.reduceLeDiff, List.nil_append, List.cons_append, List.append_nil, Int.reduceToNat, List.take_length, outV, resG, plainV, pack, beq_self_eq_true, Nat.reduceBEq, Option.bind_some, resL, frnL, List.all_cons, List.all_nil, plainC]
                cases hB : partP (p ++ q) s with
                | false =>
                  simp only [eqs, reduceCtorEq, implies_true, List.map_cons, List.map_nil, kl, klL, roD, roL, Option.map_some, Option.map_none, Option.getD_some, Option.getD_none, binVal, binObl, unVal, Nat.reduceEqDiff, if_true, if_false, reduceIte, eq_self, passA, frnD, resD, content, getH, viaNot, viaSlot, viaBox, List.contains_cons, List.contains_nil, List.length_cons, List.length_nil, List.take_succ_cons, List.take_zero, List.drop_succ_cons, List.drop_zero, Nat.reduceAdd, Nat.reduceSub, Nat.reduceLeDiff, List.nil_append, List.cons_append, List.append_nil, Int.reduceToNat, List.take_length, outV, resG, plainV, pack, beq_self_eq_true, Nat.reduceBEq, Option.bind_some, resL, frnL, List.all_cons, List.all_nil, plainC]
                  refine of_call glives_snd ?_
                  simp only [eqs, reduceCtorEq, implies_true, List.map_cons, List.map_nil, kl, klL, roD, roL, Option.map_some, Option.map_none, Option.getD_some, Option.getD_none, binVal, binObl, unVal, Nat.reduceEqDiff, if_true, if_false, reduceIte, eq_self, passA, frnD, resD, content, getH, viaNot, viaSlot, viaBox, List.contains_cons, List.contains_nil, List.length_cons, List.length_nil, List.take_succ_cons, List.take_zero, List.drop_succ_cons, List.drop_zero, Nat.reduceAdd, Nat.reduceSub, Nat.reduceLeDiff, List.nil_append, List.cons_append, List.append_nil, Int.reduceToNat, List.take_length, outV, resG, plainV, pack, beq_self_eq_true, Nat.reduceBEq, Option.bind_some, resL, frnL, List.all_cons, List.all_nil, plainC]
                | true =>
                  simp only [eqs, reduceCtorEq, implies_true, List.map_cons, List.map_nil, kl, klL, roD, roL, Option.map_some, Option.map_none, Option.getD_some, Option.getD_none, binVal, binObl, unVal, Nat.reduceEqDiff, if_true, if_false, reduceIte, eq_self, passA, frnD, resD, content, getH, viaNot, viaSlot, viaBox, List.contains_cons, List.contains_nil, List.length_cons, List.length_nil, List.take_succ_cons, List.take_zero, List.drop_succ_cons, List.drop_zero, Nat.reduceAdd, Nat.reduceSub, Nat.reduceLeDiff, List.nil_append, List.cons_append, List.append_nil, Int.reduceToNat, List.take_length, outV, resG, plainV, pack, beq_self_eq_true, Nat.reduceBEq, Option.bind_some, resL, frnL, List.all_cons, List.all_nil, plainC]
                  repeat (refine ⟨by (try simp only [List.length_append, List.length_cons, List.length_nil]); omega, ?_⟩)
                  refine of_call (gPart_snd (p ++ [42] ++ q) s (by simp; omega) (by omega)) ?_
                  rw [stars_none hp hq (by omega) (by omega) hB]
                  simp only [eqs, reduceCtorEq, implies_true, List.map_cons, List.map_nil, kl, klL, roD, roL, Option.map_some, Option.map_none, Option.getD_some, Option.getD_none, binVal, binObl, unVal, Nat.reduceEqDiff, if_true, if_false, reduceIte, eq_self, passA, frnD, resD, content, getH, viaNot, viaSlot, viaBox, List.contains_cons, List.contains_nil, List.length_cons, List.length_nil, List.take_succ_cons, List.take_zero, List.drop_succ_cons, List.drop_zero, Nat.reduceAdd, Nat.reduceSub, Nat.reduceLeDiff, List.nil_append, List.cons_append, List.append_nil, Int.reduceToNat, List.take_length, outV, resG, plainV, pack, beq_self_eq_true, Nat.reduceBEq, Option.bind_some, resL, frnL, List.all_cons, List.all_nil, plainC]
                  refine of_call glives_snd ?_
                  simp only [eqs, reduceCtorEq, implies_true, List.map_cons, List.map_nil, kl, klL, roD, roL, Option.map_some, Option.map_none, Option.getD_some, Option.getD_none, binVal, binObl, unVal, Nat.reduceEqDiff, if_true, if_false, reduceIte, eq_self, passA, frnD, resD, content, getH, viaNot, viaSlot, viaBox, List.contains_cons, List.contains_nil, List.length_cons, List.length_nil, List.take_succ_cons, List.take_zero, List.drop_succ_cons, List.drop_zero, Nat.reduceAdd, Nat.reduceSub, Nat.reduceLeDiff, List.nil_append, List.cons_append, List.append_nil, Int.reduceToNat, List.take_length, outV, resG, plainV, pack, beq_self_eq_true, Nat.reduceBEq, Option.bind_some, resL, frnL, List.all_cons, List.all_nil, plainC]

              | true =>
                simp only [eqs, reduceCtorEq, implies_true, List.map_cons, List.map_nil, kl, klL, roD, roL, Option.map_some, Option.map_none, Option.getD_some, Option.getD_none, binVal, binObl, unVal, Nat.reduceEqDiff, if_true, if_false, reduceIte, eq_self, passA, frnD, resD, content, getH, viaNot, viaSlot, viaBox, List.contains_cons, List.contains_nil, List.length_cons, List.length_nil, List.take_succ_cons, List.take_zero, List.drop_succ_cons, List.drop_zero, Nat.reduceAdd, Nat.reduceSub, Nat.reduceLeDiff, List.nil_append, List.cons_append, List.append_nil, Int.reduceToNat, List.take_length, outV, resG, plainV, pack, beq_self_eq_true, Nat.reduceBEq, Option.bind_some, resL, frnL, List.all_cons, List.all_nil, plainC]
                repeat (refine ⟨by (try simp only [List.length_append, List.length_cons, List.length_nil]); omega, ?_⟩)
                refine of_call (gPart_snd (p ++ [42] ++ q) s (by simp; omega) (by omega)) ?_
                rw [stars_any hp hq (by omega) (by omega) hA]
                simp only [eqs, reduceCtorEq, implies_true, List.map_cons, List.map_nil, kl, klL, roD, roL, Option.map_some, Option.map_none, Option.getD_some, Option.getD_none, binVal, binObl, unVal, Nat.reduceEqDiff, if_true, if_false, reduceIte, eq_self, passA, frnD, resD, content, getH, viaNot, viaSlot, viaBox, List.contains_cons, List.contains_nil, List.length_cons, List.length_nil, List.take_succ_cons, List.take_zero, List.drop_succ_cons, List.drop_zero, Nat.reduceAdd, Nat.reduceSub, Nat.reduceLeDiff, List.nil_append, List.cons_append, List.append_nil, Int.reduceToNat, List.take_length, outV, resG, plainV, pack, beq_self_eq_true, Nat.reduceBEq, Option.bind_some, resL, frnL, List.all_cons, List.all_nil, plainC]
                repeat (refine ⟨by (try simp only [List.length_append, List.length_cons, List.length_nil]); omega, ?_⟩)
                refine of_call (gPart_snd (p ++ q) s (by simp; omega) (by omega)) ?_
                simp only [unVal, eqs, reduceCtorEq, implies_true, List.map_cons, List.map_nil, kl, klL, roD, roL, Option.map_some, Option.map_none, Option.getD_some, Option.getD_none, binVal, binObl, unVal, Nat.reduceEqDiff, if_true, if_false, reduceIte, eq_self, passA, frnD, resD, content, getH, viaNot, viaSlot, viaBox, List.contains_cons, List.contains_nil, List.length_cons, List.length_nil, List.take_succ_cons, List.take_zero, List.drop_succ_cons, List.drop_zero, Nat.reduceAdd, Nat.reduceSub, Nat.reduceLeDiff, List.nil_append, List.cons_append, List.append_nil, Int.reduceToNat, List.take_length, outV, resG, plainV, pack, beq_self_eq_true, Nat.reduceBEq, Option.bind_some, resL, frnL, List.all_cons, List.all_nil, plainC]
                cases hB : partP (p ++ q) s with
                | false =>
                  simp only [eqs, reduceCtorEq, implies_true, List.map_cons, List.map_nil, kl, klL, roD, roL, Option.map_some, Option.map_none, Option.getD_some, Option.getD_none, binVal, binObl, unVal, Nat.reduceEqDiff, if_true, if_false, reduceIte, eq_self, passA, frnD, resD, content, getH, viaNot, viaSlot, viaBox, List.contains_cons, List.contains_nil, List.length_cons, List.length_nil, List.take_succ_cons, List.take_zero, List.drop_succ_cons, List.drop_zero, Nat.reduceAdd, Nat.reduceSub, Nat.reduceLeDiff, List.nil_append, List.cons_append, List.append_nil, Int.reduceToNat, List.take_length, outV, resG, plainV, pack, beq_self_eq_true, Nat.reduceBEq, Option.bind_some, resL, frnL, List.all_cons, List.all_nil, plainC]
                  refine of_call glives_snd ?_
                  simp only [eqs, reduceCtorEq, implies_true, List.map_cons, List.map_nil, kl, klL, roD, roL, Option.map_some, Option.map_none, Option.getD_some, Option.getD_none, binVal, binObl, unVal, Nat.reduceEqDiff, if_true, if_false, reduceIte, eq_self, passA, frnD, resD, content, getH, viaNot, viaSlot, viaBox, List.contains_cons, List.contains_nil, List.length_cons, List.length_nil, List.take_succ_cons, List.take_zero, List.drop_succ_cons, List.drop_zero, Nat.reduceAdd, Nat.reduceSub, Nat.reduceLeDiff, List.nil_append, List.cons_append, List.append_nil, Int.reduceToNat, List.take_length, outV, resG, plainV, pack, beq_self_eq_true, Nat.reduceBEq, Option.bind_some, resL, frnL, List.all_cons, List.all_nil, plainC]
                | true =>
                  simp only [eqs, reduceCtorEq, implies_true, List.map_cons, List.map_nil, kl, klL, roD, roL, Option.map_some, Option.map_none, Option.getD_some, Option.getD_none, binVal, binObl, unVal, Nat.reduceEqDiff, if_true, if_false, reduceIte, eq_self, passA, frnD, resD, content, getH, viaNot, viaSlot, viaBox, List.contains_cons, List.contains_nil, List.length_cons, List.length_nil, List.take_succ_cons, List.take_zero, List.drop_succ_cons, List.drop_zero, Nat.reduceAdd, Nat.reduceSub, Nat.reduceLeDiff, List.nil_append, List.cons_append, List.append_nil, Int.reduceToNat, List.take_length, outV, resG, plainV, pack, beq_self_eq_true, Nat.reduceBEq, Option.bind_some, resL, frnL, List.all_cons, List.all_nil, plainC]
                  repeat (refine ⟨by (try simp only [List.length_append, List.length_cons, List.length_nil]); omega, ?_⟩)
                  refine of_call (gPart_snd (p ++ [42] ++ q) s (by simp; omega) (by omega)) ?_
                  rw [stars_none hp hq (by omega) (by omega) hB]
                  simp only [eqs, reduceCtorEq, implies_true, List.map_cons, List.map_nil, kl, klL, roD, roL, Option.map_some, Option.map_none, Option.getD_some, Option.getD_none, binVal, binObl, unVal, Nat.reduceEqDiff, if_true, if_false, reduceIte, eq_self, passA, frnD, resD, content, getH, viaNot, viaSlot, viaBox, List.contains_cons, List.contains_nil, List.length_cons, List.length_nil, List.take_succ_cons, List.take_zero, List.drop_succ_cons, List.drop_zero, Nat.reduceAdd, Nat.reduceSub, Nat.reduceLeDiff, List.nil_append, List.cons_append, List.append_nil, Int.reduceToNat, List.take_length, outV, resG, plainV, pack, beq_self_eq_true, Nat.reduceBEq, Option.bind_some, resL, frnL, List.all_cons, List.all_nil, plainC]
                  refine of_call glives_snd ?_
                  simp only [eqs, reduceCtorEq, implies_true, List.map_cons, List.map_nil, kl, klL, roD, roL, Option.map_some, Option.map_none, Option.getD_some, Option.getD_none, binVal, binObl, unVal, Nat.reduceEqDiff, if_true, if_false, reduceIte, eq_self, passA, frnD, resD, content, getH, viaNot, viaSlot, viaBox, List.contains_cons, List.contains_nil, List.length_cons, List.length_nil, List.take_succ_cons, List.take_zero, List.drop_succ_cons, List.drop_zero, Nat.reduceAdd, Nat.reduceSub, Nat.reduceLeDiff, List.nil_append, List.cons_append, List.append_nil, Int.reduceToNat, List.take_length, outV, resG, plainV, pack, beq_self_eq_true, Nat.reduceBEq, Option.bind_some, resL, frnL, List.all_cons, List.all_nil, plainC]

            · rw [sn_t hq0]
              simp only [eqs, reduceCtorEq, implies_true, List.map_cons, List.map_nil, kl, klL, roD, roL, Option.map_some, Option.map_none, Option.getD_some, Option.getD_none, binVal, binObl, unVal, Nat.reduceEqDiff, if_true, if_false, reduceIte, eq_self, passA, frnD, resD, content, getH, viaNot, viaSlot, viaBox, List.contains_cons, List.contains_nil, List.length_cons, List.length_nil, List.take_succ_cons, List.take_zero, List.drop_succ_cons, List.drop_zero, Nat.reduceAdd, Nat.reduceSub, Nat.reduceLeDiff, List.nil_append, List.cons_append, List.append_nil, Int.reduceToNat, List.take_length, outV, resG, plainV, pack, beq_self_eq_true, Nat.reduceBEq, Option.bind_some, resL, frnL, List.all_cons, List.all_nil, plainC]
              refine of_call (gis_snd q (by omega)) ?_
              simp only [unVal, eqs, reduceCtorEq, implies_true, List.map_cons, List.map_nil, kl, klL, roD, roL, Option.map_some, Option.map_none, Option.getD_some, Option.getD_none, binVal, binObl, unVal, Nat.reduceEqDiff, if_true, if_false, reduceIte, eq_self, passA, frnD, resD, content, getH, viaNot, viaSlot, viaBox, List.contains_cons, List.contains_nil, List.length_cons, List.length_nil, List.take_succ_cons, List.take_zero, List.drop_succ_cons, List.drop_zero, Nat.reduceAdd, Nat.reduceSub, Nat.reduceLeDiff, List.nil_append, List.cons_append, List.append_nil, Int.reduceToNat, List.take_length, outV, resG, plainV, pack, beq_self_eq_true, Nat.reduceBEq, Option.bind_some, resL, frnL, List.all_cons, List.all_nil, plainC]
              cases hqi : isPat q with
              | false =>
                simp only [eqs, reduceCtorEq, implies_true, List.map_cons, List.map_nil, kl, klL, roD, roL, Option.map_some, Option.map_none, Option.getD_some, Option.getD_none, binVal, binObl, unVal, Nat.reduceEqDiff, if_true, if_false, reduceIte, eq_self, passA, frnD, resD, content, getH, viaNot, viaSlot, viaBox, List.contains_cons, List.contains_nil, List.length_cons, List.length_nil, List.take_succ_cons, List.take_zero, List.drop_succ_cons, List.drop_zero, Nat.reduceAdd, Nat.reduceSub, Nat.reduceLeDiff, List.nil_append, List.cons_append, List.append_nil, Int.reduceToNat, List.take_length, outV, resG, plainV, pack, beq_self_eq_true, Nat.reduceBEq, Option.bind_some, resL, frnL, List.all_cons, List.all_nil, plainC]
                refine of_call glives_snd ?_
                simp only [eqs, reduceCtorEq, implies_true, List.map_cons, List.map_nil, kl, klL, roD, roL, Option.map_some, Option.map_none, Option.getD_some, Option.getD_none, binVal, binObl, unVal, Nat.reduceEqDiff, if_true, if_false, reduceIte, eq_self, passA, frnD, resD, content, getH, viaNot, viaSlot, viaBox, List.contains_cons, List.contains_nil, List.length_cons, List.length_nil, List.take_succ_cons, List.take_zero, List.drop_succ_cons, List.drop_zero, Nat.reduceAdd, Nat.reduceSub, Nat.reduceLeDiff, List.nil_append, List.cons_append, List.append_nil, Int.reduceToNat, List.take_length, outV, resG, plainV, pack, beq_self_eq_true, Nat.reduceBEq, Option.bind_some, resL, frnL, List.all_cons, List.all_nil, plainC]

              | true =>
                have hq : q = [] ∨ isPat q = true := .inr hqi
                simp only [eqs, reduceCtorEq, implies_true, List.map_cons, List.map_nil, kl, klL, roD, roL, Option.map_some, Option.map_none, Option.getD_some, Option.getD_none, binVal, binObl, unVal, Nat.reduceEqDiff, if_true, if_false, reduceIte, eq_self, passA, frnD, resD, content, getH, viaNot, viaSlot, viaBox, List.contains_cons, List.contains_nil, List.length_cons, List.length_nil, List.take_succ_cons, List.take_zero, List.drop_succ_cons, List.drop_zero, Nat.reduceAdd, Nat.reduceSub, Nat.reduceLeDiff, List.nil_append, List.cons_append, List.append_nil, Int.reduceToNat, List.take_length, outV, resG, plainV, pack, beq_self_eq_true, Nat.reduceBEq, Option.bind_some, resL, frnL, List.all_cons, List.all_nil, plainC]
                repeat (refine ⟨by (try simp only [List.length_append, List.length_cons, List.length_nil]); omega, ?_⟩)
                refine of_call (gPart_snd (p ++ [63] ++ q) s (by simp; omega) (by omega)) ?_
                simp only [unVal, eqs, reduceCtorEq, implies_true, List.map_cons, List.map_nil, kl, klL, roD, roL, Option.map_some, Option.map_none, Option.getD_some, Option.getD_none, binVal, binObl, unVal, Nat.reduceEqDiff, if_true, if_false, reduceIte, eq_self, passA, frnD, resD, content, getH, viaNot, viaSlot, viaBox, List.contains_cons, List.contains_nil, List.length_cons, List.length_nil, List.take_succ_cons, List.take_zero, List.drop_succ_cons, List.drop_zero, Nat.reduceAdd, Nat.reduceSub, Nat.reduceLeDiff, List.nil_append, List.cons_append, List.append_nil, Int.reduceToNat, List.take_length, outV, resG, plainV, pack, beq_self_eq_true, Nat.reduceBEq, Option.bind_some, resL, frnL, List.all_cons, List.all_nil, plainC]
                cases hA : partP (p ++ [63] ++ q) s with
                | false =>
                  simp only [eqs, reduceCtorEq, implies_true, List.map_cons, List.map_nil, kl, klL, roD, roL, Option.map_some, Option.map_none, Option.getD_some, Option.getD_none, binVal, binObl, unVal, Nat.reduceEqDiff, if_true, if_false, reduceIte, eq_self, passA, frnD, resD, content, getH, viaNot, viaSlot, viaBox, List.contains_cons, List.contains_nil, List.length_cons, List.length_nil, List.take_succ_cons, List.take_zero, List.drop_succ_cons, List.drop_zero, Nat.reduceAdd, Nat.reduceSub, Nat.reduceLeDiff, List.nil_append, List.cons_append, List.append_nil, Int.reduceToNat, List.take_length, outV, resG, plainV, pack, beq_self_eq_true, Nat.reduceBEq, Option.bind_some, resL, frnL, List.all_cons, List.all_nil, plainC]
                  repeat (refine ⟨by (try simp only [List.length_append, List.length_cons, List.length_nil]); omega, ?_⟩)
                  refine of_call (gPart_snd (p ++ q) s (by simp; omega) (by omega)) ?_
                  simp only [unVal, eqs, reduceCtorEq, implies_true, List.map_cons, List.map_nil, kl, klL, roD, roL, Option.map_some, Option.map_none, Option.getD_some, Option.getD_none, binVal, binObl, unVal, Nat.reduceEqDiff, if_true, if_false, reduceIte, eq_self, passA, frnD, resD, content, getH, viaNot, viaSlot, viaBox, List.contains_cons, List.contains_nil, List.length_cons, List.length_nil, List.take_succ_cons, List.take_zero, List.drop_succ_cons, List.drop_zero, Nat.reduceAdd, Nat.reduceSub, Nat.reduceLeDiff, List.nil_append, List.cons_append, List.append_nil, Int.reduceToNat, List.take_length, outV, resG, plainV, pack, beq_self_eq_true, Nat.reduceBEq, Option.bind_some, resL, frnL, List.all_cons, List.all_nil, plainC]
                  cases hB : partP (p ++ q) s with
                  | false =>
                    simp only [eqs, reduceCtorEq, implies_true, List.map_cons, List.map_nil, kl, klL, roD, roL, Option.map_some, Option.map_none, Option.getD_some, Option.getD_none, binVal, binObl, unVal, Nat.reduceEqDiff, if_true, if_false, reduceIte, eq_self, passA, frnD, resD, content, getH, viaNot, viaSlot, viaBox, List.contains_cons, List.contains_nil, List.length_cons, List.length_nil, List.take_succ_cons, List.take_zero, List.drop_succ_cons, List.drop_zero, Nat.reduceAdd, Nat.reduceSub, Nat.reduceLeDiff, List.nil_append, List.cons_append, List.append_nil, Int.reduceToNat, List.take_length, outV, resG, plainV, pack, beq_self_eq_true, Nat.reduceBEq, Option.bind_some, resL, frnL, List.all_cons, List.all_nil, plainC]
                    refine of_call glives_snd ?_
                    simp only [eqs, reduceCtorEq, implies_true, List.map_cons, List.map_nil, kl, klL, roD, roL, Option.map_some, Option.map_none, Option.getD_some, Option.getD_none, binVal, binObl, unVal, Nat.reduceEqDiff, if_true, if_false, reduceIte, eq_self, passA, frnD, resD, content, getH, viaNot, viaSlot, viaBox, List.contains_cons, List.contains_nil, List.length_cons, List.length_nil, List.take_succ_cons, List.take_zero, List.drop_succ_cons, List.drop_zero, Nat.reduceAdd, Nat.reduceSub, Nat.reduceLeDiff, List.nil_append, List.cons_append, List.append_nil, Int.reduceToNat, List.take_length, outV, resG, plainV, pack, beq_self_eq_true, Nat.reduceBEq, Option.bind_some, resL, frnL, List.all_cons, List.all_nil, plainC]
                  | true =>
                    simp only [eqs, reduceCtorEq, implies_true, List.map_cons, List.map_nil, kl, klL, roD, roL, Option.map_some, Option.map_none, Option.getD_some, Option.getD_none, binVal, binObl, unVal, Nat.reduceEqDiff, if_true, if_false, reduceIte, eq_self, passA, frnD, resD, content, getH, viaNot, viaSlot, viaBox, List.contains_cons, List.contains_nil, List.length_cons, List.length_nil, List.take_succ_cons, List.take_zero, List.drop_succ_cons, List.drop_zero, Nat.reduceAdd, Nat.reduceSub, Nat.reduceLeDiff, List.nil_append, List.cons_append, List.append_nil, Int.reduceToNat, List.take_length, outV, resG, plainV, pack, beq_self_eq_true, Nat.reduceBEq, Option.bind_some, resL, frnL, List.all_cons, List.all_nil, plainC]
                    repeat (refine ⟨by (try simp only [List.length_append, List.length_cons, List.length_nil]); omega, ?_⟩)
                    refine of_call (gPart_snd (p ++ [42] ++ q) s (by simp; omega) (by omega)) ?_
                    rw [stars_none hp hq (by omega) (by omega) hB]
                    simp only [eqs, reduceCtorEq, implies_true, List.map_cons, List.map_nil, kl, klL, roD, roL, Option.map_some, Option.map_none, Option.getD_some, Option.getD_none, binVal, binObl, unVal, Nat.reduceEqDiff, if_true, if_false, reduceIte, eq_self, passA, frnD, resD, content, getH, viaNot, viaSlot, viaBox, List.contains_cons, List.contains_nil, List.length_cons, List.length_nil, List.take_succ_cons, List.take_zero, List.drop_succ_cons, List.drop_zero, Nat.reduceAdd, Nat.reduceSub, Nat.reduceLeDiff, List.nil_append, List.cons_append, List.append_nil, Int.reduceToNat, List.take_length, outV, resG, plainV, pack, beq_self_eq_true, Nat.reduceBEq, Option.bind_some, resL, frnL, List.all_cons, List.all_nil, plainC]
                    refine of_call glives_snd ?_
                    simp only [eqs, reduceCtorEq, implies_true, List.map_cons, List.map_nil, kl, klL, roD, roL, Option.map_some, Option.map_none, Option.getD_some, Option.getD_none, binVal, binObl, unVal, Nat.reduceEqDiff, if_true, if_false, reduceIte, eq_self, passA, frnD, resD, content, getH, viaNot, viaSlot, viaBox, List.contains_cons, List.contains_nil, List.length_cons, List.length_nil, List.take_succ_cons, List.take_zero, List.drop_succ_cons, List.drop_zero, Nat.reduceAdd, Nat.reduceSub, Nat.reduceLeDiff, List.nil_append, List.cons_append, List.append_nil, Int.reduceToNat, List.take_length, outV, resG, plainV, pack, beq_self_eq_true, Nat.reduceBEq, Option.bind_some, resL, frnL, List.all_cons, List.all_nil, plainC]

                | true =>
                  simp only [eqs, reduceCtorEq, implies_true, List.map_cons, List.map_nil, kl, klL, roD, roL, Option.map_some, Option.map_none, Option.getD_some, Option.getD_none, binVal, binObl, unVal, Nat.reduceEqDiff, if_true, if_false, reduceIte, eq_self, passA, frnD, resD, content, getH, viaNot, viaSlot, viaBox, List.contains_cons, List.contains_nil, List.length_cons, List.length_nil, List.take_succ_cons, List.take_zero, List.drop_succ_cons, List.drop_zero, Nat.reduceAdd, Nat.reduceSub, Nat.reduceLeDiff, List.nil_append, List.cons_append, List.append_nil, Int.reduceToNat, List.take_length, outV, resG, plainV, pack, beq_self_eq_true, Nat.reduceBEq, Option.bind_some, resL, frnL, List.all_cons, List.all_nil, plainC]
                  repeat (refine ⟨by (try simp only [List.length_append, List.length_cons, List.length_nil]); omega, ?_⟩)
                  refine of_call (gPart_snd (p ++ [42] ++ q) s (by simp; omega) (by omega)) ?_
                  rw [stars_any hp hq (by omega) (by omega) hA]
                  simp only [eqs, reduceCtorEq, implies_true, List.map_cons, List.map_nil, kl, klL, roD, roL, Option.map_some, Option.map_none, Option.getD_some, Option.getD_none, binVal, binObl, unVal, Nat.reduceEqDiff, if_true, if_false, reduceIte, eq_self, passA, frnD, resD, content, getH, viaNot, viaSlot, viaBox, List.contains_cons, List.contains_nil, List.length_cons, List.length_nil, List.take_succ_cons, List.take_zero, List.drop_succ_cons, List.drop_zero, Nat.reduceAdd, Nat.reduceSub, Nat.reduceLeDiff, List.nil_append, List.cons_append, List.append_nil, Int.reduceToNat, List.take_length, outV, resG, plainV, pack, beq_self_eq_true, Nat.reduceBEq, Option.bind_some, resL, frnL, List.all_cons, List.all_nil, plainC]
                  repeat (refine ⟨by (try simp only [List.length_append, List.length_cons, List.length_nil]); omega, ?_⟩)
                  refine of_call (gPart_snd (p ++ q) s (by simp; omega) (by omega)) ?_
                  simp only [unVal, eqs, reduceCtorEq, implies_true, List.map_cons, List.map_nil, kl, klL, roD, roL, Option.map_some, Option.map_none, Option.getD_some, Option.getD_none, binVal, binObl, unVal, Nat.reduceEqDiff, if_true, if_false, reduceIte, eq_self, passA, frnD, resD, content, getH, viaNot, viaSlot, viaBox, List.contains_cons, List.contains_nil, List.length_cons, List.length_nil, List.take_succ_cons, List.take_zero, List.drop_succ_cons, List.drop_zero, Nat.reduceAdd, Nat.reduceSub, Nat.reduceLeDiff, List.nil_append, List.cons_append, List.append_nil, Int.reduceToNat, List.take_length, outV, resG, plainV, pack, beq_self_eq_true, Nat.reduceBEq, Option.bind_some, resL, frnL, List.all_cons, List.all_nil, plainC]
                  cases hB : partP (p ++ q) s with
                  | false =>
                    simp only [eqs, reduceCtorEq, implies_true, List.map_cons, List.map_nil, kl, klL, roD, roL, Option.map_some, Option.map_none, Option.getD_some, Option.getD_none, binVal, binObl, unVal, Nat.reduceEqDiff, if_true, if_false, reduceIte, eq_self, passA, frnD, resD, content, getH, viaNot, viaSlot, viaBox, List.contains_cons, List.contains_nil, List.length_cons, List.length_nil, List.take_succ_cons, List.take_zero, List.drop_succ_cons, List.drop_zero, Nat.reduceAdd, Nat.reduceSub, Nat.reduceLeDiff, List.nil_append, List.cons_append, List.append_nil, Int.reduceToNat, List.take_length, outV, resG, plainV, pack, beq_self_eq_true, Nat.reduceBEq, Option.bind_some, resL, frnL, List.all_cons, List.all_nil, plainC]
                    refine of_call glives_snd ?_
                    simp only [eqs, reduceCtorEq, implies_true, List.map_cons, List.map_nil, kl, klL, roD, roL, Option.map_some, Option.map_none, Option.getD_some, Option.getD_none, binVal, binObl, unVal, Nat.reduceEqDiff, if_true, if_false, reduceIte, eq_self, passA, frnD, resD, content, getH, viaNot, viaSlot, viaBox, List.contains_cons, List.contains_nil, List.length_cons, List.length_nil, List.take_succ_cons, List.take_zero, List.drop_succ_cons, List.drop_zero, Nat.reduceAdd, Nat.reduceSub, Nat.reduceLeDiff, List.nil_append, List.cons_append, List.append_nil, Int.reduceToNat, List.take_length, outV, resG, plainV, pack, beq_self_eq_true, Nat.reduceBEq, Option.bind_some, resL, frnL, List.all_cons, List.all_nil, plainC]
                  | true =>
                    simp only [eqs, reduceCtorEq, implies_true, List.map_cons, List.map_nil, kl, klL, roD, roL, Option.map_some, Option.map_none, Option.getD_some, Option.getD_none, binVal, binObl, unVal, Nat.reduceEqDiff, if_true, if_false, reduceIte, eq_self, passA, frnD, resD, content, getH, viaNot, viaSlot, viaBox, List.contains_cons, List.contains_nil, List.length_cons, List.length_nil, List.take_succ_cons, List.take_zero, List.drop_succ_cons, List.drop_zero, Nat.reduceAdd, Nat.reduceSub, Nat.reduceLeDiff, List.nil_append, List.cons_append, List.append_nil, Int.reduceToNat, List.take_length, outV, resG, plainV, pack, beq_self_eq_true, Nat.reduceBEq, Option.bind_some, resL, frnL, List.all_cons, List.all_nil, plainC]
                    repeat (refine ⟨by (try simp only [List.length_append, List.length_cons, List.length_nil]); omega, ?_⟩)
                    refine of_call (gPart_snd (p ++ [42] ++ q) s (by simp; omega) (by omega)) ?_
                    rw [stars_none hp hq (by omega) (by omega) hB]
                    simp only [eqs, reduceCtorEq, implies_true, List.map_cons, List.map_nil, kl, klL, roD, roL, Option.map_some, Option.map_none, Option.getD_some, Option.getD_none, binVal, binObl, unVal, Nat.reduceEqDiff, if_true, if_false, reduceIte, eq_self, passA, frnD, resD, content, getH, viaNot, viaSlot, viaBox, List.contains_cons, List.contains_nil, List.length_cons, List.length_nil, List.take_succ_cons, List.take_zero, List.drop_succ_cons, List.drop_zero, Nat.reduceAdd, Nat.reduceSub, Nat.reduceLeDiff, List.nil_append, List.cons_append, List.append_nil, Int.reduceToNat, List.take_length, outV, resG, plainV, pack, beq_self_eq_true, Nat.reduceBEq, Option.bind_some, resL, frnL, List.all_cons, List.all_nil, plainC]
                    refine of_call glives_snd ?_
                    simp only [eqs, reduceCtorEq, implies_true, List.map_cons, List.map_nil, kl, klL, roD, roL, Option.map_some, Option.map_none, Option.getD_some, Option.getD_none, binVal, binObl, unVal, Nat.reduceEqDiff, if_true, if_false, reduceIte, eq_self, passA, frnD, resD, content, getH, viaNot, viaSlot, viaBox, List.contains_cons, List.contains_nil, List.length_cons, List.length_nil, List.take_succ_cons, List.take_zero, List.drop_succ_cons, List.drop_zero, Nat.reduceAdd, Nat.reduceSub, Nat.reduceLeDiff, List.nil_append, List.cons_append, List.append_nil, Int.reduceToNat, List.take_length, outV, resG, plainV, pack, beq_self_eq_true, Nat.reduceBEq, Option.bind_some, resL, frnL, List.all_cons, List.all_nil, plainC]
end Go.Gb

/- GlobStars: the card, by the second form. -/
namespace Go.Proofs.YtolghafejibajaaDoor.globStars
open Go.ChangeShapes Go.WideShapes Go.ChangeAt Go.RowKit
open Go.ChangeMaps (open_string shut_string)
open Go.Ev (X0 old Bs ss TabsAt RelT)
set_option linter.unusedVariables false

theorem contract (H : Type) (enc : TypeId × Value → H) (W : World) (base : Nat) (args : Array Value) (ds gs : List (DataW H)) (before : List MemPlace)
    (hval : ∀ (j : Nat) t v, Tryd.f14.params[j]? = some t → args[j]? = some v → Value.okWide Tryd.prog W .any base t v)
    (hW : DataW.Whole enc Tryd.prog Tryd.f14.params.toList Rows.globStarsSpec.vars false W args.toList ds gs before) (hk : Rows.uptoSmall H (ds ++ gs) = true) (hsh : W.ShapedOpen Tryd.prog) :
    Calls Tryd.prog 14 args W fun e W' => ∃ v, e = .returned v ∧ Rows.globStarsSpec.post enc Tryd.prog Tryd.f14 false true false false W args v W' := by
  refine Ev.contract_law laidOut (by kernel_rfl) rfl (tb := 4) (by kernel_rfl) (by kernel_rfl) Tryd.underlying4 (fun ds hd => ?_) hW ?_
  · rw [Tryd.params14] at hd
    match ds, hd with
    | [d0, d1, d2], _ => rfl
  · obtain ⟨p, q, hA0, hV, rfl, hfz, hnd⟩ := hW
    have hA : DataW.TrodAll enc Tryd.prog W 0 (fun _ => true) true Tryd.f14.params.toList args.toList ds p := hA0
    rw [Tryd.params14] at hA hval
    obtain ⟨v0, vs0, d0, ds0, p0, q0, hargs, rfl, rfl, h0, r0⟩ := trodAll_cons hA
    obtain ⟨v1, vs1, d1, ds1, p1, q1, rfl, rfl, rfl, h1, r1⟩ := trodAll_cons r0
    obtain ⟨v2, vs2, d2, ds2, p2, q2, rfl, rfl, rfl, h2, r2⟩ := trodAll_cons r1
    obtain ⟨rfl, rfl, rfl⟩ := trodAll_nil r2
    obtain rfl : args = #[v0, v1, v2] := by cases args; simp_all
    obtain ⟨rfl, rfl⟩ := trodVars_none hV
    obtain ⟨s0, rfl, rfl, rfl, hmax0⟩ := open_string Tryd.underlying9 (hval 0 9 v0 rfl rfl) h0
    obtain ⟨s1, rfl, rfl, rfl, hmax1⟩ := open_string Tryd.underlying9 (hval 1 9 v1 rfl rfl) h1
    obtain ⟨s2, rfl, rfl, rfl, hmax2⟩ := open_string Tryd.underlying9 (hval 2 9 v2 rfl rfl) h2
    obtain ⟨m, hm⟩ := maxLen_at hsh
    have hb0 := bulk_small hk
    simp only [List.append_nil] at hb0
    have hb1 := bulk_string hb0
    have hb2 := bulk_string (Nat.le_trans (Nat.le_add_left _ _) hb1)
    have hb3 := bulk_string (Nat.le_trans (Nat.le_add_left _ _) hb2)
    exact Ev.calls_law (Gb.stars_law s0.data.toList s1.data.toList s2.data.toList (by omega) (by omega) (by omega)) (tabs hm) (.cons _ _ _ [] _ _ [] Ev.rel_string (.cons _ _ _ [] _ _ [] Ev.rel_string (.cons _ _ _ [] _ _ [] Ev.rel_string (.nil _) (fun b hb => (List.not_mem_nil hb).elim)) (fun b hb => (List.not_mem_nil hb).elim)) (fun b hb => (List.not_mem_nil hb).elim))

theorem reads (os : Os) {H : Type} (enc : TypeId × Value → H) : ∃ places, DataW.whole enc Tryd.prog ((laidWorld os).forCall (fun _ _ => 0) ⟨#[], #[.string ⟨#[]⟩, .string ⟨#[]⟩, .string ⟨#[]⟩], []⟩).memory Tryd.f14.params.toList Rows.globStarsSpec.vars false #[Value.string ⟨#[]⟩, Value.string ⟨#[]⟩, Value.string ⟨#[]⟩].toList 8 = some ([.lit (.string []), .lit (.string []), .lit (.string [])], [], places) :=
  ⟨[], by kernel_rfl⟩

set_option maxRecDepth 100000 in
theorem lifted (os : Os) (started : os.Started) (H : Type) (enc : TypeId × Value → H) (F : Stop.Interp) :
    ReturnsInHanded {} Tryd.checked os 14 .any ((Rows.OpenSpec.upto Rows.globStarsSpec).preRow enc Tryd.prog Tryd.f14 Rows.globStarsUptoRow.domain false Rows.globStarsUptoRow.laid) (((Rows.OpenSpec.upto Rows.globStarsSpec).at F).post enc Tryd.prog Tryd.f14 false true false false) := by
  obtain ⟨places, hx⟩ := reads os enc
  refine returnsInHanded_of_row (C := Tryd.checked) (s := Rows.OpenSpec.upto Rows.globStarsSpec) own started (by kernel_rfl) Tryd.func14
    (witness_row_at (enc := enc) (C := Tryd.checked) false (laidWorld os) #[.string ⟨#[]⟩, .string ⟨#[]⟩, .string ⟨#[]⟩] rfl (by kernel_rfl) (by kernel_rfl) (by kernel_rfl)
      (OpenSpec.preRow_of_cond 8 hx (by kernel_rfl) (fun k hk => by cases hk; kernel_rfl) (by kernel_rfl) (laid_met os _))) ?_
  intro W base args ds gs before hval hW _ hcond _ hL hsh _
  exact contract H enc W base args ds gs before hval hW (hcond _ rfl) hsh

theorem said : Rows.GlobStarsUptoSaid :=
  OpenClaim.holds_of_cond 14 Tryd.f14 rfl rfl rfl rfl rfl rfl rfl ⟨rfl, rfl, rfl, rfl, rfl⟩ rfl rfl rfl rfl rfl (by kernel_rfl) Tryd.func14 (by kernel_rfl)
    (of_decide_eq_true (by kernel_rfl)) (by unfold Func.isWrapper; first | (rw [if_pos (by decide +kernel)]; kernel_rfl) | (rw [if_neg (by decide +kernel)]; exact ⟨rfl, rfl⟩))
    (fun os started H enc _ F => by rw [OpenClaim.pre_eq_preRow]; exact lifted os started H enc F)

theorem plain (f : FuncId) (fn : Func) (hf : Tryd.pinned.checked.prog.funcNamed "graftage/graftagelaw07.GlobStars" = some f) (hfn : Tryd.pinned.checked.prog.funcs[f]? = some fn) :
    false = Tryd.pinned.checked.prog.looks [] ∧ ∀ (j : Nat) t, fn.params[j]? = some t → Tryd.pinned.checked.prog.wantsStandIn t = false := by
  obtain rfl : f = 14 := Option.some.inj ((show Tryd.prog.funcNamed "graftage/graftagelaw07.GlobStars" = some 14 by kernel_rfl).symm.trans hf) |>.symm
  obtain rfl : fn = Tryd.f14 := (Option.some.inj (Tryd.func14.symm.trans hfn)).symm
  refine ⟨by kernel_rfl, fun j t ht => ?_⟩
  rw [Tryd.params14] at ht
  have ht := Array.mem_of_getElem? ht
  simp only [Array.mem_def, List.mem_cons, List.not_mem_nil, or_false] at ht
  rcases ht with rfl | rfl | rfl
  · exact (show Tryd.prog.wantsStandIn 9 = false by kernel_rfl)
  · exact (show Tryd.prog.wantsStandIn 9 = false by kernel_rfl)
  · exact (show Tryd.prog.wantsStandIn 9 = false by kernel_rfl)

theorem holds : Rows.GlobStarsUptoCardSaid :=
  Claim7.holds_tied_plain_at .later [] _ _ _ _ said (fun _ h => by cases h) (by kernel_rfl) (fun _ h => by cases h) globStarsUpto_row_tie rfl ⟨rfl, rfl⟩ (by kernel_rfl) rfl plain (by kernel_rfl)
#print axioms holds
end Go.Proofs.YtolghafejibajaaDoor.globStars

