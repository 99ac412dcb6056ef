import Derived.Test.YtfkggoohajdabaaDoorWC
import Derived.Test.YtfkggoohajdabaaDoorWB
import Derived.Test.YtfkggoohajdabaaDoorPA
set_option linter.unusedVariables false
set_option linter.unusedSimpArgs false
/- Hunks: laid on a list. -/
namespace Go.Hk
open Go Go.Ev Go.Proofs
set_option linter.unusedVariables false
set_option linter.unusedSimpArgs false
set_option maxHeartbeats 4000000
attribute [local go_sem] eqs implies_true List.map_cons List.map_nil kl klL roD roL Option.map_some Option.map_none Option.getD_some Option.getD_none binVal binObl unVal if_true if_false eq_self passA frnD resD content getH getR getW viaNot viaSlot viaBox viaDeep viaMem List.contains_cons List.contains_nil grabs peeks okCells isCell place cellsOf chunk elt List.headD_cons List.length_cons List.length_nil List.take_succ_cons List.take_zero List.drop_succ_cons List.drop_zero List.nil_append List.cons_append List.append_nil List.all_cons List.all_nil plainC takeR setW over reCell List.getElem?_cons_zero List.getElem?_cons_succ List.set_cons_zero List.take_length outV resG plainV pack outVG outBx List.set_cons_succ Ref.idx Ref.addOff beq_self_eq_true bxL Option.bind_some writeR isLit viaBoxes capsPA boxPA nsOf noDup boxesAt argG passG passD rhoIn rhoOut idxIn tr trL List.getD_cons_zero gives pasOf isPtr Ins.d List.getD_cons_succ resL frnL partB_f partB_t partB_p partB_s St.setP mixR v_slcT List.getLast?_nil List.getLast?_singleton List.dropLast_singleton List.nil_append frnL_fs roL_fs resL_fs passL_fs klL_fs trL_fs map_roD_fs fs_length hS_length frnL_hS roL_hS_own roL_hS_frn roL_hS_ro resL_hS_own resL_hS_ro klL_hS klL_hS_own klL_hS_frn passL_hS_own passL_hS_frn trL_hS_own trL_hS_frn
variable {m : Int × Bool}
def papply_k0' : AC := .seq (.reg (.seq [⟨some (43, false), none, .mov (.tmp 14 true) .peek⟩,⟨some (44, false), none, .fad (.tmp 12 true) 0⟩,⟨some (45, false), none, .load (.tmp 44 false) 1 false false⟩,⟨some (46, false), none, .bin .sub (.tmp 43 false) (.tmp 45 false)⟩,⟨some (10, true), none, .mov (.tmp 46 false) .asg⟩])) [0, 1, 7, 8, 9, 10, 12, 13, 14, 19, 20, 21] [12]
    (.seq (.reg (.seq [⟨some (47, false), none, .mov (.tmp 8 true) .take⟩,⟨some (48, false), none, .mov (.tmp 10 true) .take⟩,⟨some (49, false), none, .buildS 1 1 [(.lit (.int .i64 0))] [(0, 1, (.tmp 48 false))]⟩,⟨some (50, false), none, .app 1 8 (.tmp 47 false) (.tmp 49 false)⟩,⟨some (8, true), none, .mov (.tmp 50 false) .asg⟩])) [0, 1, 7, 8, 9, 10, 12, 13, 14, 19, 20, 21] [12]
    (.seq (.reg (.seq [⟨some (51, false), none, .mov (.tmp 7 true) .take⟩,⟨some (52, false), none, .mov (.tmp 0 true) .peek⟩,⟨some (53, false), none, .mov (.tmp 9 true) .peek⟩,⟨some (54, false), none, .mov (.tmp 14 true) .peek⟩,⟨some (55, false), none, .slc 1 (.tmp 52 false) (some (.tmp 53 false)) (some (.tmp 54 false))⟩,⟨some (56, false), none, .app 1 16 (.tmp 51 false) (.tmp 55 false)⟩,⟨some (7, true), none, .mov (.tmp 56 false) .asg⟩])) [0, 1, 7, 8, 10, 12, 13, 14, 19, 20, 21] [12]
    (.seq (.reg (.seq [⟨some (57, false), none, .mov (.tmp 7 true) .take⟩,⟨some (58, false), none, .load (.tmp 12 true) 3 true false⟩,⟨some (59, false), none, .call 36 [.tmp 58 false, (.cst (.int .i64 2) (.lit (.int .i64 2)))]⟩,⟨some (60, false), none, .app 1 16 (.tmp 57 false) (.tmp 59 false)⟩,⟨some (7, true), none, .mov (.tmp 60 false) .asg⟩])) [0, 1, 7, 8, 10, 13, 14, 19, 20, 21] []
    (.reg (.seq [⟨some (61, false), none, .mov (.tmp 14 true) .peek⟩,⟨some (62, false), none, .mov (.tmp 13 true) .peek⟩,⟨some (63, false), none, .lenL (.tmp 62 false)⟩,⟨some (64, false), none, .bin .add (.tmp 61 false) (.tmp 63 false)⟩,⟨some (9, true), none, .mov (.tmp 64 false) .asg⟩])))))
def papply_k0 : AC := papply_k0'
theorem papply_k0_w (C : Kn) (K : Ex → St → Prop) (s : St) : vcC C papply_k0 K s = vcC C papply_k0' K s := nr rfl
def papply_k1' : AC := .seq (.seq (.reg (.seq [⟨some (39, false), none, .mov (.tmp 15 true) .peek⟩,⟨some (40, false), none, .un .not (.tmp 39 false)⟩])) [0, 1, 7, 8, 9, 11, 12, 13, 14, 19, 20, 21, 40] [12]
    (.cond (.tmp 40 false)
      (.seq (.reg (.seq [⟨some (41, false), none, .mov (.tmp 11 true) .take⟩,⟨some (42, false), none, .buildS 1 1 [(.lit (.int .i64 0))] [(0, 1, (.tmp 41 false))]⟩,⟨some (4, true), none, .mov (.cst (.slice none 0 0) (.sl .own 1 [])) .asg⟩,⟨some (5, true), none, .mov (.tmp 42 false) .asg⟩,⟨some (6, true), none, .mov (.cst (.int .i64 100) (.lit (.int .i64 100))) .asg⟩])) [4, 5, 6, 8] []
      (.ret))
      (.skip))) [0, 1, 7, 8, 9, 12, 13, 14, 19, 20, 21] [12] papply_k0
def papply_k1 : AC := papply_k1'
theorem papply_k1_w (C : Kn) (K : Ex → St → Prop) (s : St) : vcC C papply_k1 K s = vcC C papply_k1' K s := nr rfl
def papply_k2' : AC := .reg (.seq [⟨some (65, false), none, .bin .add (.tmp 21 true) (.cst (.int .i64 1) (.lit (.int .i64 1)))⟩,⟨some (21, true), none, .mov (.tmp 65 false) .peek⟩])
def papply_k2 : AC := papply_k2'
theorem papply_k2_w (C : Kn) (K : Ex → St → Prop) (s : St) : vcC C papply_k2 K s = vcC C papply_k2' K s := nr rfl
def papply_k3' : AC := .seq (.block 1 (.seq (.reg (.seq [⟨some (23, false), none, .mov (.tmp 21 true) .take⟩,⟨some (24, false), none, .iad (.tmp 19 true) (.tmp 21 true) 3⟩,⟨some (25, false), none, .load (.tmp 24 false) 3 true true⟩,⟨some (12, true), none, .new [(.lit (.int .i64 0)), (.lit (.int .i64 0)), (.sl .own 2 [])]⟩,⟨some (11, true), none, .mov (.tmp 23 false) .asg⟩,⟨none, none, .store (.tmp 12 true) (.tmp 25 false) 3⟩])) [0, 1, 7, 8, 9, 10, 11, 12, 19, 20, 21] [12]
    (.seq (.reg (.seq [⟨some (26, false), none, .load (.tmp 12 true) 3 true false⟩,⟨some (27, false), none, .call 36 [.tmp 26 false, (.cst (.int .i64 3) (.lit (.int .i64 3)))]⟩,⟨some (13, true), none, .mov (.tmp 27 false) .asg⟩])) [0, 1, 7, 8, 9, 10, 11, 12, 13, 19, 20, 21] [12]
    (.seq (.reg (.seq [⟨some (29, false), none, .mov (.tmp 0 true) .peek⟩,⟨some (30, false), none, .mov (.tmp 13 true) .peek⟩,⟨some (31, false), none, .fad (.tmp 12 true) 0⟩,⟨some (32, false), none, .load (.tmp 31 false) 1 false false⟩,⟨some (33, false), none, .mov (.tmp 10 true) .peek⟩,⟨some (34, false), none, .bin .add (.tmp 32 false) (.tmp 33 false)⟩,⟨some (35, false), none, .mov (.tmp 9 true) .peek⟩,⟨some (36, false), none, .call 37 [.tmp 29 false, .tmp 30 false, .tmp 34 false, .tmp 35 false]⟩,⟨some (28, false), none, .mov (.tmp 36 false) .peek⟩,⟨some (37, false), none, .ext (.tmp 28 false) 0⟩,⟨some (38, false), none, .ext (.tmp 28 false) 1⟩,⟨some (14, true), none, .mov (.tmp 37 false) .asg⟩,⟨some (15, true), none, .mov (.tmp 38 false) .asg⟩])) [0, 1, 7, 8, 9, 11, 12, 13, 14, 15, 19, 20, 21] [12] papply_k1)))) [0, 1, 7, 8, 9, 10, 19, 20, 21] [] papply_k2
def papply_k3 : AC := papply_k3'
theorem papply_k3_w (C : Kn) (K : Ex → St → Prop) (s : St) : vcC C papply_k3 K s = vcC C papply_k3' K s := nr rfl
def papply_l4' : AC := .seq (.reg (.seq [⟨some (22, false), none, .bin .lss (.tmp 21 true) (.tmp 20 true)⟩])) [0, 1, 7, 8, 9, 10, 19, 20, 21, 22] []
  (.seq (.cond (.tmp 22 false)
    (.skip)
    (.exit 0)) [0, 1, 7, 8, 9, 10, 19, 20, 21] [] papply_k3)
def papply_l4 : AC := papply_l4'
theorem papply_l4_w (C : Kn) (K : Ex → St → Prop) (s : St) : vcC C papply_l4 K s = vcC C papply_l4' K s := nr rfl
def papply_k5' : AC := .seq (.reg (.seq [⟨some (66, false), none, .mov (.tmp 7 true) .take⟩,⟨some (67, false), none, .mov (.tmp 0 true) .peek⟩,⟨some (68, false), none, .mov (.tmp 9 true) .peek⟩,⟨some (69, false), none, .slc 1 (.tmp 67 false) (some (.tmp 68 false)) none⟩,⟨some (70, false), none, .app 1 16 (.tmp 66 false) (.tmp 69 false)⟩,⟨some (71, false), none, .mov (.tmp 8 true) .take⟩,⟨some (4, true), none, .mov (.tmp 70 false) .asg⟩,⟨some (5, true), none, .mov (.tmp 71 false) .asg⟩,⟨some (6, true), none, .mov (.cst (.int .i64 0) (.lit (.int .i64 0))) .asg⟩])) [4, 5, 6, 8] []
  (.ret)
def papply_k5 : AC := papply_k5'
theorem papply_k5_w (C : Kn) (K : Ex → St → Prop) (s : St) : vcC C papply_k5 K s = vcC C papply_k5' K s := nr rfl
def papply_k6' : AC := .seq (.reg (.seq [⟨some (7, true), none, .mov (.cst (.slice none 0 0) (.sl .own 1 [])) .asg⟩])) [0, 1, 7] []
  (.seq (.reg (.seq [⟨some (8, true), none, .mov (.cst (.slice none 0 0) (.sl .own 1 [])) .asg⟩])) [0, 1, 7, 8] []
  (.seq (.reg (.seq [⟨some (9, true), none, .mov (.cst (.int .i64 0) (.lit (.int .i64 0))) .asg⟩,⟨some (10, true), none, .mov (.cst (.int .i64 0) (.lit (.int .i64 0))) .asg⟩])) [0, 1, 7, 8, 9, 10] []
  (.seq (.seq (.reg (.seq [⟨some (19, true), none, .mov (.tmp 1 true) .peek⟩,⟨some (20, true), none, .lenL (.tmp 19 true)⟩,⟨some (21, true), none, .mov (.cst (.int .i64 0) (.lit (.int .i64 0))) .peek⟩])) [0, 1, 7, 8, 9, 10, 19, 20, 21] []
  (.block 0 (.loop [0, 1, 7, 8, 9, 10, 19, 20, 21] [] papply_l4))) [0, 7, 8, 9] [] papply_k5)))
def papply_k6 : AC := papply_k6'
theorem papply_k6_w (C : Kn) (K : Ex → St → Prop) (s : St) : vcC C papply_k6 K s = vcC C papply_k6' K s := nr rfl
def papply : AF := ⟨.seq (.reg (.seq [⟨some (4, true), none, .mov (.cst (.slice none 0 0) (.sl .own 1 [])) .asg⟩,⟨some (5, true), none, .mov (.cst (.slice none 0 0) (.sl .own 1 [])) .asg⟩,⟨some (6, true), none, .mov (.cst (.int .i64 0) (.lit (.int .i64 0))) .asg⟩])) [0, 1] []
  (.seq (.seq (.reg (.seq [⟨some (16, false), none, .mov (.tmp 1 true) .peek⟩,⟨some (17, false), none, .call 28 [.tmp 16 false]⟩,⟨some (18, false), none, .un .not (.tmp 17 false)⟩])) [0, 1, 18] []
  (.cond (.tmp 18 false)
    (.seq (.reg (.seq [⟨some (4, true), none, .mov (.cst (.slice none 0 0) (.sl .own 1 [])) .asg⟩,⟨some (5, true), none, .mov (.cst (.slice none 0 0) (.sl .own 1 [])) .asg⟩,⟨some (6, true), none, .mov (.cst (.int .i64 2) (.lit (.int .i64 2))) .asg⟩])) [4, 5, 6, 8] []
    (.ret))
    (.skip))) [0, 1] [] papply_k6),
  [.tmp 4, .tmp 5, .tmp 6]⟩
theorem papply_comp (m : Int × Bool) : compF Tryd.prog (gl m) [] Tryd.f11 = some papply := by kernel_rfl
def apStopN (a : List Bs) (l : List Hk) : Nat → Nat
  | 0 => 0
  | n + 1 => if (apF a l (n + 1)).isSome then n + 1 else apStopN a l n
theorem apF_none {a : List Bs} {l : List Hk} {i : Nat} (h : apF a l i = none) : ∀ {j}, i ≤ j → apF a l j = none := by
  intro j hj
  induction hj with
  | refl => exact h
  | step _ ih => rw [apF, ih]
theorem apStop_at {a : List Bs} {l : List Hk} {i : Nat} {q : ApT} (h : apF a l i = some q) (h' : apF a l (i + 1) = none) : ∀ n, i ≤ n → apStopN a l n = i := by
  intro n
  induction n with
  | zero =>
    intro hn
    have h0 : i = 0 := by omega
    subst h0; rfl
  | succ n ih =>
    intro hn
    rw [apStopN]
    by_cases he : i = n + 1
    · subst he; rw [h]; rfl
    · rw [apF_none h' (show i + 1 ≤ n + 1 by omega)]
      exact ih (by omega)
def apR (a : List Bs) (l : List Hk) : AV := if valid l then (match apF a l l.length with
  | some q => .tup [.sl .own 1 (ss (q.1 ++ a.drop q.2.2.1)), .sl .own 1 (ns q.2.1), I 0]
  | none => .tup [.sl .own 1 [], .sl .own 1 (ns [((apStopN a l l.length : Nat) : Int)]), I 100]) else .tup [.sl .own 1 [], .sl .own 1 [], I 2]
theorem near_stands {a old : List Bs} {e : Nat} {w : Int} {p : Nat} (h : nearF a old e w = some p) : e ≤ p ∧ standsA a old p = true := by
  have := bestF_spec a old e w (a.length + 1 - e)
  rw [nearF] at h
  rw [h] at this
  exact ⟨this.1, this.2.2.1⟩
theorem stands_end {a old : List Bs} {p : Nat} (h : standsA a old p = true) : p + old.length ≤ a.length := by
  simp only [standsA, Bool.and_eq_true, decide_eq_true_eq] at h; exact h.1
structure ApB (a : List Bs) (i : Nat) (q : ApT) : Prop where
  e : q.2.2.1 ≤ a.length
  o1 : -4096 ≤ q.2.2.2
  o2 : q.2.2.2 ≤ a.length
  n : q.2.1.length = i
  l : q.1.length ≤ i * (a.length + 1048576)
theorem apF_step {a : List Bs} {l : List Hk} {i : Nat} (h : i < l.length) {q : ApT} (hq : apF a l i = some q) : apF a l (i + 1) = apS a q l[i] := by rw [apF, hq, List.getElem?_eq_getElem h]
theorem apF_bound {a : List Bs} {l : List Hk} (hl : okHs l) (hv : valid l = true) : ∀ i {q : ApT}, i ≤ l.length → apF a l i = some q → ApB a i q := by
  intro i
  induction i with
  | zero => intro q _ h; cases h; exact ⟨by show 0 ≤ a.length; omega, by show (-4096 : Int) ≤ 0; omega, by show (0 : Int) ≤ a.length; omega, rfl, Nat.zero_le _⟩
  | succ i ih =>
    intro q hi h
    cases hq : apF a l i with
    | none => rw [apF, hq] at h; cases h
    | some q0 =>
      have hb := ih (by omega) hq
      rw [apF_step (show i < l.length by omega) hq, apS] at h
      have hF := valid_from hv (show i < l.length by omega)
      have hs := (hl.2 l[i] (List.getElem_mem (show i < l.length by omega))).1
      have hs2 := sideL_len l[i].2.2 2
      generalize l[i] = x at h hF hs hs2
      cases hn : nearF a (sideL x.2.2 3) q0.2.2.1 (x.1 + q0.2.2.2) with
      | none => rw [hn] at h; cases h
      | some p =>
        rw [hn] at h
        cases h
        have g1 := near_stands hn
        have g2 := stands_end g1.2
        have b1 := hb.e; have b4 := hb.n; have b5 := hb.l
        refine ⟨g2, ?_, ?_, ?_, ?_⟩
        · show (-4096 : Int) ≤ (p : Int) - x.1; omega
        · show (p : Int) - x.1 ≤ a.length; omega
        · show (q0.2.1 ++ [_]).length = _; simp [b4]
        · show (q0.1 ++ (a.drop q0.2.2.1).take (p - q0.2.2.1) ++ sideL x.2.2 2).length ≤ _
          rw [List.length_append, List.length_append, List.length_take, List.length_drop, Nat.add_mul]
          omega
theorem papply_snd (a : List Bs) (l : List Hk) (ha : a.length ≤ 1048576) (hl : okHs l) : Snd Tryd.prog (gl m) 11 [.sl .frn 1 (ss a), .sl .frn 3 (hS .frn l)] (apR a l) := by
  refine snd_of (fn := Tryd.f11) (af := papply) Tryd.func11 (papply_comp m) mixed (kn_ok m) (Nat.le_of_ble_eq_true rfl) ?_
  simp only [papply, go_sem, reduceCtorEq, Nat.reduceEqDiff, reduceIte, Nat.reduceAdd, Nat.reduceSub, Nat.reduceLeDiff, Int.reduceToNat, Nat.reduceBEq]
  repeat ((with_reducible apply And.intro); (case left => first | omega | (simp only [List.length_append, List.length_cons, List.length_nil, List.length_drop, List.length_take, List.length_tail, List.length_dropLast, fs_length, ss_length, bs_length, ns_length]; omega)))
  refine of_call (pvalid_snd l hl) ?_
  simp only [go_sem, reduceCtorEq, Nat.reduceEqDiff, reduceIte, Nat.reduceAdd, Nat.reduceSub, Nat.reduceLeDiff, Int.reduceToNat, Nat.reduceBEq]
  repeat ((with_reducible apply And.intro); (case left => first | omega | (simp only [List.length_append, List.length_cons, List.length_nil, List.length_drop, List.length_take, List.length_tail, List.length_dropLast, fs_length, ss_length, bs_length, ns_length]; omega)))
  rw [apR]
  cases hv : valid l with
  | false =>
    simp only [unVal, Bool.not_false, Bool.false_eq_true, if_false, go_sem, reduceCtorEq, Nat.reduceEqDiff, reduceIte, Nat.reduceAdd, Nat.reduceSub, Nat.reduceLeDiff, Int.reduceToNat, Nat.reduceBEq]
  | true =>
    rw [if_pos rfl]
    have hll := hl.1
    have hls := hl.2
    simp only [unVal, Bool.not_true, papply_k6_w, papply_k6', go_sem, reduceCtorEq, Nat.reduceEqDiff, reduceIte, Nat.reduceAdd, Nat.reduceSub, Nat.reduceLeDiff, Int.reduceToNat, Nat.reduceBEq]
    refine loop_wf (fun x : Nat × ApT => l.length - x.1) (fun x => mkS [(0, .sl .frn 1 (ss a)), (1, .sl .frn 3 (hS .frn l)), (7, .sl .own 1 (ss x.2.1)), (8, .sl .own 1 (ns x.2.2.1)), (9, N x.2.2.2.1), (10, I x.2.2.2.2), (19, .sl .frn 3 (hS .frn l)), (20, N l.length), (21, N x.1)] [])
      (fun x => x.1 ≤ l.length ∧ apF a l x.1 = some x.2) (0, ([], [], 0, 0)) rfl ⟨by omega, rfl⟩ ?_
    rintro ⟨i, q⟩ ⟨hi, hq⟩ ih
    have hb := apF_bound hl hv i hi hq
    dsimp only at hi hq ih
    simp only [papply_l4_w, papply_l4', go_sem, reduceCtorEq, Nat.reduceEqDiff, reduceIte, Nat.reduceAdd, Nat.reduceSub, Nat.reduceLeDiff, Int.reduceToNat, Nat.reduceBEq]
    repeat ((with_reducible apply And.intro); (case left => first | omega | (simp only [List.length_append, List.length_cons, List.length_nil, List.length_drop, List.length_take, List.length_tail, List.length_dropLast, fs_length, ss_length, bs_length, ns_length]; omega)))
    by_cases h : i < l.length
    · have g := hS_get (fl := .frn) h
      have hxl := hls l[i] (List.getElem_mem h)
      have hF := valid_from hv h
      have hst := apF_step h hq
      generalize l[i] = x at g hxl hF hst
      obtain ⟨b1, b2, b3, b4, b5⟩ := hb
      obtain ⟨out, offs, e, off⟩ := q
      dsimp only at b1 b2 b3 b4 b5
      have qi : IntKind.i64.wrap ((i : Int) + 1) = ((i + 1 : Nat) : Int) := wrapN _ (by omega) (by omega)
      have qw : IntKind.i64.wrap (x.1 + off) = x.1 + off := wrap_in (by omega) (by omega)
      have hs1 := sideL_len x.2.2 3
      have hs2 := sideL_len x.2.2 2
      have hxl1 := hxl.1
      have hbig : out.length ≤ 2199023255552 := Nat.le_trans b5 (Nat.le_trans (Nat.mul_le_mul (show i ≤ 1048576 by omega) (show a.length + 1048576 ≤ 2097152 by omega)) (by decide))
      rw [apS] at hst
      dsimp only at hst
      simp only [lt_t h, g, Int.toNat_natCast, papply_k0_w, papply_k0', papply_k1_w, papply_k1', papply_k2_w, papply_k2', papply_k3_w, papply_k3', go_sem, reduceCtorEq, Nat.reduceEqDiff, reduceIte, Nat.reduceAdd, Nat.reduceSub, Nat.reduceLeDiff, Int.reduceToNat, Nat.reduceBEq]
      repeat ((with_reducible apply And.intro); (case left => first | omega | (simp only [List.length_append, List.length_cons, List.length_nil, List.length_drop, List.length_take, List.length_tail, List.length_dropLast, fs_length, ss_length, bs_length, ns_length]; omega)))
      refine of_call (pside_snd x 3 hxl) ?_
      simp only [go_sem, reduceCtorEq, Nat.reduceEqDiff, reduceIte, Nat.reduceAdd, Nat.reduceSub, Nat.reduceLeDiff, Int.reduceToNat, Nat.reduceBEq]
      repeat ((with_reducible apply And.intro); (case left => first | omega | (simp only [List.length_append, List.length_cons, List.length_nil, List.length_drop, List.length_take, List.length_tail, List.length_dropLast, fs_length, ss_length, bs_length, ns_length]; omega)))
      simp only [qw, go_sem, reduceCtorEq, Nat.reduceEqDiff, reduceIte, Nat.reduceAdd, Nat.reduceSub, Nat.reduceLeDiff, Int.reduceToNat, Nat.reduceBEq]
      repeat ((with_reducible apply And.intro); (case left => first | omega | (simp only [List.length_append, List.length_cons, List.length_nil, List.length_drop, List.length_take, List.length_tail, List.length_dropLast, fs_length, ss_length, bs_length, ns_length]; omega)))
      refine of_call (pnear_snd a (sideL x.2.2 3) (x.1 + off) e ha (by omega) (by omega) (by omega) (by omega)) ?_
      simp only [go_sem, reduceCtorEq, Nat.reduceEqDiff, reduceIte, Nat.reduceAdd, Nat.reduceSub, Nat.reduceLeDiff, Int.reduceToNat, Nat.reduceBEq]
      repeat ((with_reducible apply And.intro); (case left => first | omega | (simp only [List.length_append, List.length_cons, List.length_nil, List.length_drop, List.length_take, List.length_tail, List.length_dropLast, fs_length, ss_length, bs_length, ns_length]; omega)))
      cases hn : nearF a (sideL x.2.2 3) e (x.1 + off) with
      | none =>
        rw [hn] at hst
        have hnone := apF_none hst (show i + 1 ≤ l.length by omega)
        rw [hnone]
        dsimp only
        rw [apStop_at hq hst l.length hi]
        simp only [nearR, unVal, Bool.not_false, papply_k0_w, papply_k0', papply_k1_w, papply_k1', papply_k2_w, papply_k2', papply_k3_w, papply_k3', go_sem, reduceCtorEq, Nat.reduceEqDiff, reduceIte, Nat.reduceAdd, Nat.reduceSub, Nat.reduceLeDiff, Int.reduceToNat, Nat.reduceBEq]
        first | rfl | omega | trace_state
      | some p =>
        rw [hn] at hst
        have g1 := near_stands hn
        have g2 := stands_end g1.2
        dsimp only at hst
        have q5 : IntKind.i64.wrap ((p : Int) - x.1) = (p : Int) - x.1 := wrap_in (by omega) (by omega)
        have q6 : IntKind.i64.wrap ((p : Int) + (((sideL x.2.2 3).length : Nat) : Int)) = ((p + (sideL x.2.2 3).length : Nat) : Int) := wrapN _ (by omega) (by omega)
        simp only [nearR, unVal, Bool.not_true, q5, ns_snoc, ss_take, ss_drop, ss_append, Int.toNat_natCast, papply_k0_w, papply_k0', papply_k1_w, papply_k1', papply_k2_w, papply_k2', papply_k3_w, papply_k3', go_sem, reduceCtorEq, Nat.reduceEqDiff, reduceIte, Nat.reduceAdd, Nat.reduceSub, Nat.reduceLeDiff, Int.reduceToNat, Nat.reduceBEq]
        repeat ((with_reducible apply And.intro); (case left => first | omega | (simp only [List.length_append, List.length_cons, List.length_nil, List.length_drop, List.length_take, List.length_tail, List.length_dropLast, fs_length, ss_length, bs_length, ns_length]; omega)))
        rw [List.drop_take]
        refine of_call (pside_snd x 2 hxl) ?_
        simp only [ss_append, q6, ss_length, qi, papply_k0_w, papply_k0', papply_k1_w, papply_k1', papply_k2_w, papply_k2', papply_k3_w, papply_k3', go_sem, reduceCtorEq, Nat.reduceEqDiff, reduceIte, Nat.reduceAdd, Nat.reduceSub, Nat.reduceLeDiff, Int.reduceToNat, Nat.reduceBEq]
        have hto : ((a.drop e).take (p - e)).length ≤ a.length := by rw [List.length_take, List.length_drop]; omega
        refine ⟨by rw [List.length_append]; omega, ?_⟩
        exact ih (i + 1, _, _, _, _) (by dsimp only; omega) ⟨h, hst⟩
    · obtain rfl : i = l.length := by omega
      rw [hq]
      dsimp only
      obtain ⟨b1, b2, b3, b4, b5⟩ := hb
      dsimp only at b1 b2 b3 b4 b5
      have hbig : q.1.length ≤ 2199023255552 := Nat.le_trans b5 (Nat.le_trans (Nat.mul_le_mul hll (show a.length + 1048576 ≤ 2097152 by omega)) (by decide))
      simp only [lt_f h, papply_k5_w, papply_k5', go_sem, reduceCtorEq, Nat.reduceEqDiff, reduceIte, Nat.reduceAdd, Nat.reduceSub, Nat.reduceLeDiff, Int.reduceToNat, Nat.reduceBEq]
      refine ⟨by omega, by omega, ?_⟩
      rw [List.length_drop]; omega
end Go.Hk
namespace Go.Hk
open Go Go.Ev Go.Proofs
set_option linter.unusedVariables false
set_option linter.unusedSimpArgs false
set_option maxHeartbeats 4000000
attribute [local go_sem] eqs implies_true List.map_cons List.map_nil kl klL roD roL Option.map_some Option.map_none Option.getD_some Option.getD_none binVal binObl unVal if_true if_false eq_self passA frnD resD content getH getR getW viaNot viaSlot viaBox viaDeep viaMem List.contains_cons List.contains_nil grabs peeks okCells isCell place cellsOf chunk elt List.headD_cons List.length_cons List.length_nil List.take_succ_cons List.take_zero List.drop_succ_cons List.drop_zero List.nil_append List.cons_append List.append_nil List.all_cons List.all_nil plainC takeR setW over reCell List.getElem?_cons_zero List.getElem?_cons_succ List.set_cons_zero List.take_length outV resG plainV pack outVG outBx List.set_cons_succ Ref.idx Ref.addOff beq_self_eq_true bxL Option.bind_some writeR isLit viaBoxes capsPA boxPA nsOf noDup boxesAt argG passG passD rhoIn rhoOut idxIn tr trL List.getD_cons_zero gives pasOf isPtr Ins.d List.getD_cons_succ resL frnL partB_f partB_t partB_p partB_s St.setP mixR v_slcT List.getLast?_nil List.getLast?_singleton List.dropLast_singleton List.nil_append frnL_fs roL_fs resL_fs passL_fs klL_fs trL_fs map_roD_fs fs_length hS_length frnL_hS roL_hS_own roL_hS_frn roL_hS_ro resL_hS_own resL_hS_ro klL_hS klL_hS_own klL_hS_frn passL_hS_own passL_hS_frn trL_hS_own trL_hS_frn
variable {m : Int × Bool}
def plies : AF := ⟨.seq (.reg (.seq [⟨some (3, true), none, .box (.tmp 0 true)⟩,⟨some (6, true), none, .mov (.cst (.bool false) (.lit (.bool false))) .asg⟩])) [1, 2, 3] [3]
  (.seq (.reg (.seq [⟨some (7, false), none, .fad (.tmp 3 true) 0⟩,⟨some (8, false), none, .load (.tmp 7 false) 1 false false⟩,⟨some (9, false), none, .bin .geq (.tmp 8 false) (.cst (.int .i64 0) (.lit (.int .i64 0)))⟩,⟨some (10, false), none, .mov (.tmp 9 false) .peek⟩,⟨some (11, false), (some (10, true)), .fad (.tmp 3 true) 2⟩,⟨some (12, false), (some (10, true)), .load (.tmp 11 false) 1 false false⟩,⟨some (13, false), (some (10, true)), .bin .geq (.tmp 12 false) (.cst (.int .i64 0) (.lit (.int .i64 0)))⟩,⟨some (14, false), none, .pick (.tmp 10 false) (.tmp 13 false) (.cst (.bool false) (.lit (.bool false)))⟩,⟨some (15, false), none, .mov (.tmp 14 false) .peek⟩,⟨some (16, false), (some (15, true)), .fad (.tmp 3 true) 1⟩,⟨some (17, false), (some (15, true)), .load (.tmp 16 false) 1 false false⟩,⟨some (18, false), (some (15, true)), .bin .geq (.tmp 17 false) (.cst (.int .i64 0) (.lit (.int .i64 0)))⟩,⟨some (19, false), none, .pick (.tmp 15 false) (.tmp 18 false) (.cst (.bool false) (.lit (.bool false)))⟩,⟨some (20, false), none, .mov (.tmp 19 false) .peek⟩,⟨some (21, false), (some (20, true)), .fad (.tmp 3 true) 3⟩,⟨some (22, false), (some (20, true)), .load (.tmp 21 false) 1 false false⟩,⟨some (23, false), (some (20, true)), .bin .geq (.tmp 22 false) (.cst (.int .i64 0) (.lit (.int .i64 0)))⟩,⟨some (24, false), none, .pick (.tmp 20 false) (.tmp 23 false) (.cst (.bool false) (.lit (.bool false)))⟩,⟨some (25, false), none, .mov (.tmp 24 false) .peek⟩,⟨some (26, false), (some (25, true)), .fad (.tmp 3 true) 0⟩,⟨some (27, false), (some (25, true)), .load (.tmp 26 false) 1 false false⟩,⟨some (28, false), (some (25, true)), .mov (.tmp 1 true) .peek⟩,⟨some (29, false), (some (25, true)), .bin .leq (.tmp 27 false) (.tmp 28 false)⟩,⟨some (30, false), none, .pick (.tmp 25 false) (.tmp 29 false) (.cst (.bool false) (.lit (.bool false)))⟩,⟨some (31, false), none, .mov (.tmp 30 false) .peek⟩,⟨some (32, false), (some (31, true)), .fad (.tmp 3 true) 1⟩,⟨some (33, false), (some (31, true)), .load (.tmp 32 false) 1 false false⟩,⟨some (34, false), (some (31, true)), .mov (.tmp 1 true) .peek⟩,⟨some (35, false), (some (31, true)), .fad (.tmp 3 true) 0⟩,⟨some (36, false), (some (31, true)), .load (.tmp 35 false) 1 false false⟩,⟨some (37, false), (some (31, true)), .bin .sub (.tmp 34 false) (.tmp 36 false)⟩,⟨some (38, false), (some (31, true)), .bin .leq (.tmp 33 false) (.tmp 37 false)⟩,⟨some (39, false), none, .pick (.tmp 31 false) (.tmp 38 false) (.cst (.bool false) (.lit (.bool false)))⟩,⟨some (40, false), none, .mov (.tmp 39 false) .peek⟩,⟨some (41, false), (some (40, true)), .fad (.tmp 3 true) 2⟩,⟨some (42, false), (some (40, true)), .load (.tmp 41 false) 1 false false⟩,⟨some (43, false), (some (40, true)), .mov (.tmp 2 true) .peek⟩,⟨some (44, false), (some (40, true)), .bin .leq (.tmp 42 false) (.tmp 43 false)⟩,⟨some (45, false), none, .pick (.tmp 40 false) (.tmp 44 false) (.cst (.bool false) (.lit (.bool false)))⟩,⟨some (46, false), none, .mov (.tmp 45 false) .peek⟩,⟨some (47, false), (some (46, true)), .fad (.tmp 3 true) 3⟩,⟨some (48, false), (some (46, true)), .load (.tmp 47 false) 1 false false⟩,⟨some (49, false), (some (46, true)), .mov (.tmp 2 true) .peek⟩,⟨some (50, false), (some (46, true)), .fad (.tmp 3 true) 2⟩,⟨some (51, false), (some (46, true)), .load (.tmp 50 false) 1 false false⟩,⟨some (52, false), (some (46, true)), .bin .sub (.tmp 49 false) (.tmp 51 false)⟩,⟨some (53, false), (some (46, true)), .bin .leq (.tmp 48 false) (.tmp 52 false)⟩,⟨some (54, false), none, .pick (.tmp 46 false) (.tmp 53 false) (.cst (.bool false) (.lit (.bool false)))⟩,⟨some (6, true), none, .mov (.tmp 54 false) .asg⟩])) [6] []
  (.ret)),
  [.tmp 6]⟩
theorem plies_comp (m : Int × Bool) : compF Tryd.prog (gl m) [] Tryd.f67 = some plies := by kernel_rfl
def pdvalid_k0' : AC := .cond (.tmp 56 false)
      (.seq (.reg (.seq [⟨some (6, true), none, .mov (.cst (.bool false) (.lit (.bool false))) .asg⟩])) [6] []
      (.ret))
      (.skip)
def pdvalid_k0 : AC := pdvalid_k0'
theorem pdvalid_k0_w (C : Kn) (K : Ex → St → Prop) (s : St) : vcC C pdvalid_k0 K s = vcC C pdvalid_k0' K s := nr rfl
def pdvalid_k1' : AC := .cond (.tmp 68 false)
      (.seq (.reg (.seq [⟨some (6, true), none, .mov (.cst (.bool false) (.lit (.bool false))) .asg⟩])) [6] []
      (.ret))
      (.skip)
def pdvalid_k1 : AC := pdvalid_k1'
theorem pdvalid_k1_w (C : Kn) (K : Ex → St → Prop) (s : St) : vcC C pdvalid_k1 K s = vcC C pdvalid_k1' K s := nr rfl
def pdvalid_k2' : AC := .reg (.draw [⟨some (69, false), none, .fad (.tmp 10 true) 0⟩,⟨some (70, false), none, .load (.tmp 69 false) 1 false false⟩,⟨some (71, false), none, .fad (.tmp 10 true) 1⟩,⟨some (72, false), none, .load (.tmp 71 false) 1 false false⟩,⟨some (73, false), none, .bin .add (.tmp 70 false) (.tmp 72 false)⟩,⟨some (74, false), none, .fad (.tmp 10 true) 2⟩,⟨some (75, false), none, .load (.tmp 74 false) 1 false false⟩,⟨some (76, false), none, .fad (.tmp 10 true) 3⟩,⟨some (77, false), none, .load (.tmp 76 false) 1 false false⟩,⟨some (78, false), none, .bin .add (.tmp 75 false) (.tmp 77 false)⟩] (.alt ⟨some (7, true), none, .mov (.tmp 73 false) .asg⟩ [⟨some (74, false), none, .fad (.tmp 10 true) 2⟩,⟨some (75, false), none, .load (.tmp 74 false) 1 false false⟩,⟨some (76, false), none, .fad (.tmp 10 true) 3⟩,⟨some (77, false), none, .load (.tmp 76 false) 1 false false⟩,⟨some (78, false), none, .bin .add (.tmp 75 false) (.tmp 77 false)⟩]
      (.alt ⟨some (8, true), none, .mov (.tmp 78 false) .asg⟩ []
      .done .no) .no))
def pdvalid_k2 : AC := pdvalid_k2'
theorem pdvalid_k2_w (C : Kn) (K : Ex → St → Prop) (s : St) : vcC C pdvalid_k2 K s = vcC C pdvalid_k2' K s := nr rfl
def pdvalid_k3' : AC := .seq (.seq (.reg (.draw [⟨some (57, false), none, .mov (.tmp 0 true) .peek⟩,⟨some (58, false), none, .mov (.tmp 7 true) .peek⟩,⟨some (59, false), none, .fad (.tmp 10 true) 0⟩,⟨some (60, false), none, .load (.tmp 59 false) 1 false false⟩,⟨some (61, false), none, .slc 1 (.tmp 57 false) (some (.tmp 58 false)) (some (.tmp 60 false))⟩,⟨some (62, false), none, .mov (.tmp 1 true) .peek⟩,⟨some (63, false), none, .mov (.tmp 8 true) .peek⟩,⟨some (64, false), none, .fad (.tmp 10 true) 2⟩,⟨some (65, false), none, .load (.tmp 64 false) 1 false false⟩,⟨some (66, false), none, .slc 1 (.tmp 62 false) (some (.tmp 63 false)) (some (.tmp 65 false))⟩,⟨some (67, false), none, .call 68 [.tmp 61 false, .tmp 66 false]⟩,⟨some (68, false), none, .un .not (.tmp 67 false)⟩] .done)) [0, 1, 2, 10, 11, 12, 13, 68] [10] pdvalid_k1) [0, 1, 2, 10, 11, 12, 13] [10] pdvalid_k2
def pdvalid_k3 : AC := pdvalid_k3'
theorem pdvalid_k3_w (C : Kn) (K : Ex → St → Prop) (s : St) : vcC C pdvalid_k3 K s = vcC C pdvalid_k3' K s := nr rfl
def pdvalid_k4' : AC := .reg (.seq [⟨some (79, false), none, .bin .add (.tmp 13 true) (.cst (.int .i64 1) (.lit (.int .i64 1)))⟩,⟨some (13, true), none, .mov (.tmp 79 false) .peek⟩])
def pdvalid_k4 : AC := pdvalid_k4'
theorem pdvalid_k4_w (C : Kn) (K : Ex → St → Prop) (s : St) : vcC C pdvalid_k4 K s = vcC C pdvalid_k4' K s := nr rfl
def pdvalid_k5' : AC := .seq (.block 1 (.seq (.reg (.seq [⟨some (15, false), none, .mov (.tmp 13 true) .take⟩,⟨some (16, false), none, .iad (.tmp 11 true) (.tmp 13 true) 4⟩,⟨some (17, false), none, .load (.tmp 16 false) 4 true false⟩,⟨some (10, true), none, .new [(.lit (.int .i64 0)), (.lit (.int .i64 0)), (.lit (.int .i64 0)), (.lit (.int .i64 0))]⟩,⟨some (9, true), none, .mov (.tmp 15 false) .asg⟩,⟨none, none, .store (.tmp 10 true) (.tmp 17 false) 4⟩])) [0, 1, 2, 7, 8, 9, 10, 11, 12, 13] [10]
    (.seq (.seq (.reg (.seq [⟨some (18, false), none, .load (.tmp 10 true) 4 true false⟩,⟨some (19, false), none, .mov (.tmp 0 true) .peek⟩,⟨some (20, false), none, .lenL (.tmp 19 false)⟩,⟨some (21, false), none, .mov (.tmp 1 true) .peek⟩,⟨some (22, false), none, .lenL (.tmp 21 false)⟩,⟨some (23, false), none, .call 67 [.tmp 18 false, .tmp 20 false, .tmp 22 false]⟩,⟨some (24, false), none, .un .not (.tmp 23 false)⟩,⟨some (25, false), none, .mov (.tmp 24 false) .peek⟩,⟨some (26, false), (some (25, false)), .fad (.tmp 10 true) 1⟩,⟨some (27, false), (some (25, false)), .load (.tmp 26 false) 1 false false⟩,⟨some (28, false), (some (25, false)), .bin .eql (.tmp 27 false) (.cst (.int .i64 0) (.lit (.int .i64 0)))⟩,⟨some (29, false), (some (25, false)), .mov (.tmp 28 false) .peek⟩,⟨some (30, false), (some (29, true)), .fad (.tmp 10 true) 3⟩,⟨some (31, false), (some (29, true)), .load (.tmp 30 false) 1 false false⟩,⟨some (32, false), (some (29, true)), .bin .eql (.tmp 31 false) (.cst (.int .i64 0) (.lit (.int .i64 0)))⟩,⟨some (33, false), (some (25, false)), .pick (.tmp 29 false) (.tmp 32 false) (.cst (.bool false) (.lit (.bool false)))⟩,⟨some (34, false), none, .pick (.tmp 25 false) (.cst (.bool true) (.lit (.bool true))) (.tmp 33 false)⟩,⟨some (35, false), none, .mov (.tmp 34 false) .peek⟩,⟨some (36, false), (some (35, false)), .fad (.tmp 10 true) 0⟩,⟨some (37, false), (some (35, false)), .load (.tmp 36 false) 1 false false⟩,⟨some (38, false), (some (35, false)), .mov (.tmp 7 true) .peek⟩,⟨some (39, false), (some (35, false)), .bin .lss (.tmp 37 false) (.tmp 38 false)⟩,⟨some (40, false), none, .pick (.tmp 35 false) (.cst (.bool true) (.lit (.bool true))) (.tmp 39 false)⟩,⟨some (41, false), none, .mov (.tmp 40 false) .peek⟩,⟨some (42, false), (some (41, false)), .fad (.tmp 10 true) 2⟩,⟨some (43, false), (some (41, false)), .load (.tmp 42 false) 1 false false⟩,⟨some (44, false), (some (41, false)), .mov (.tmp 8 true) .peek⟩,⟨some (45, false), (some (41, false)), .bin .lss (.tmp 43 false) (.tmp 44 false)⟩,⟨some (46, false), none, .pick (.tmp 41 false) (.cst (.bool true) (.lit (.bool true))) (.tmp 45 false)⟩,⟨some (47, false), none, .mov (.tmp 46 false) .peek⟩,⟨some (48, false), (some (47, false)), .mov (.tmp 9 true) .peek⟩,⟨some (49, false), (some (47, false)), .bin .gtr (.tmp 48 false) (.cst (.int .i64 0) (.lit (.int .i64 0)))⟩,⟨some (50, false), (some (47, false)), .mov (.tmp 49 false) .peek⟩,⟨some (51, false), (some (50, true)), .fad (.tmp 10 true) 0⟩,⟨some (52, false), (some (50, true)), .load (.tmp 51 false) 1 false false⟩,⟨some (53, false), (some (50, true)), .mov (.tmp 7 true) .peek⟩,⟨some (54, false), (some (50, true)), .bin .eql (.tmp 52 false) (.tmp 53 false)⟩,⟨some (55, false), (some (47, false)), .pick (.tmp 50 false) (.tmp 54 false) (.cst (.bool false) (.lit (.bool false)))⟩,⟨some (56, false), none, .pick (.tmp 47 false) (.cst (.bool true) (.lit (.bool true))) (.tmp 55 false)⟩])) [0, 1, 2, 7, 8, 10, 11, 12, 13, 56] [10] pdvalid_k0) [0, 1, 2, 7, 8, 10, 11, 12, 13] [10] pdvalid_k3))) [0, 1, 2, 7, 8, 11, 12, 13] [] pdvalid_k4
def pdvalid_k5 : AC := pdvalid_k5'
theorem pdvalid_k5_w (C : Kn) (K : Ex → St → Prop) (s : St) : vcC C pdvalid_k5 K s = vcC C pdvalid_k5' K s := nr rfl
def pdvalid_l6' : AC := .seq (.reg (.seq [⟨some (14, false), none, .bin .lss (.tmp 13 true) (.tmp 12 true)⟩])) [0, 1, 2, 7, 8, 11, 12, 13, 14] []
  (.seq (.cond (.tmp 14 false)
    (.skip)
    (.exit 0)) [0, 1, 2, 7, 8, 11, 12, 13] [] pdvalid_k5)
def pdvalid_l6 : AC := pdvalid_l6'
theorem pdvalid_l6_w (C : Kn) (K : Ex → St → Prop) (s : St) : vcC C pdvalid_l6 K s = vcC C pdvalid_l6' K s := nr rfl
def pdvalid_k7' : AC := .ret
def pdvalid_k7 : AC := pdvalid_k7'
theorem pdvalid_k7_w (C : Kn) (K : Ex → St → Prop) (s : St) : vcC C pdvalid_k7 K s = vcC C pdvalid_k7' K s := nr rfl
def pdvalid_k8' : AC := .seq (.reg (.draw [⟨some (80, false), none, .mov (.tmp 0 true) .peek⟩,⟨some (81, false), none, .mov (.tmp 7 true) .peek⟩,⟨some (82, false), none, .slc 1 (.tmp 80 false) (some (.tmp 81 false)) none⟩,⟨some (83, false), none, .mov (.tmp 1 true) .peek⟩,⟨some (84, false), none, .mov (.tmp 8 true) .peek⟩,⟨some (85, false), none, .slc 1 (.tmp 83 false) (some (.tmp 84 false)) none⟩,⟨some (86, false), none, .call 68 [.tmp 82 false, .tmp 85 false]⟩] (.alt ⟨some (6, true), none, .mov (.tmp 86 false) .asg⟩ []
      .done .no))) [6] [] pdvalid_k7
def pdvalid_k8 : AC := pdvalid_k8'
theorem pdvalid_k8_w (C : Kn) (K : Ex → St → Prop) (s : St) : vcC C pdvalid_k8 K s = vcC C pdvalid_k8' K s := nr rfl
def pdvalid : AF := ⟨.seq (.reg (.seq [⟨some (6, true), none, .mov (.cst (.bool false) (.lit (.bool false))) .asg⟩])) [0, 1, 2] []
  (.seq (.reg (.seq [⟨some (7, true), none, .mov (.cst (.int .i64 0) (.lit (.int .i64 0))) .asg⟩,⟨some (8, true), none, .mov (.cst (.int .i64 0) (.lit (.int .i64 0))) .asg⟩])) [0, 1, 2, 7, 8] []
  (.seq (.seq (.reg (.seq [⟨some (11, true), none, .mov (.tmp 2 true) .peek⟩,⟨some (12, true), none, .lenL (.tmp 11 true)⟩,⟨some (13, true), none, .mov (.cst (.int .i64 0) (.lit (.int .i64 0))) .peek⟩])) [0, 1, 2, 7, 8, 11, 12, 13] []
  (.block 0 (.loop [0, 1, 2, 7, 8, 11, 12, 13] [] pdvalid_l6))) [0, 1, 7, 8] [] pdvalid_k8)),
  [.tmp 6]⟩
theorem pdvalid_comp (m : Int × Bool) : compF Tryd.prog (gl m) [] Tryd.f41 = some pdvalid := by kernel_rfl
def liesB (e : Ed) (n m : Nat) : Bool := decide (0 ≤ e.1) && decide (0 ≤ e.2.2.1) && decide (0 ≤ e.2.1) && decide (0 ≤ e.2.2.2) && decide (e.1 ≤ n) && decide (e.2.1 ≤ n - e.1) && decide (e.2.2.1 ≤ m) && decide (e.2.2.2 ≤ m - e.2.2.1)
theorem lies_iff {e : Ed} {n m : Nat} : liesB e n m = true ↔ 0 ≤ e.1 ∧ 0 ≤ e.2.2.1 ∧ 0 ≤ e.2.1 ∧ 0 ≤ e.2.2.2 ∧ e.1 ≤ n ∧ e.2.1 ≤ n - e.1 ∧ e.2.2.1 ≤ m ∧ e.2.2.2 ≤ m - e.2.2.1 := by
  simp only [liesB, Bool.and_eq_true, decide_eq_true_eq, and_assoc]
theorem lies_no {e : Ed} {n m : Nat} (h : ¬ (0 ≤ e.1 ∧ 0 ≤ e.2.2.1 ∧ 0 ≤ e.2.1 ∧ 0 ≤ e.2.2.2 ∧ e.1 ≤ n ∧ e.2.1 ≤ n - e.1 ∧ e.2.2.1 ≤ m ∧ e.2.2.2 ≤ m - e.2.2.1)) : liesB e n m = false := by
  rw [Bool.eq_false_iff]; exact fun h' => h (lies_iff.1 h')
set_option maxRecDepth 4000 in
theorem plies_snd (e : Ed) (n k : Nat) (hn : n ≤ 1048576) (hk : k ≤ 1048576) : Snd Tryd.prog (gl m) 67 [edT e, N n, N k] (B (liesB e n k)) := by
  refine snd_of (fn := Tryd.f67) (af := plies) Tryd.func67 (plies_comp m) mixed (kn_ok m) (Nat.le_of_ble_eq_true rfl) ?_
  simp only [plies, go_sem, reduceCtorEq, Nat.reduceEqDiff, reduceIte, Nat.reduceAdd, Nat.reduceSub, Nat.reduceLeDiff, Int.reduceToNat, Nat.reduceBEq]
  obtain ⟨F, D, T, J⟩ := e
  repeat ((with_reducible apply And.intro); (case left => first | omega | (simp only [List.length_append, List.length_cons, List.length_nil, List.length_drop, List.length_take, List.length_tail, List.length_dropLast, fs_length, ss_length, bs_length, ns_length]; omega)))
  by_cases c0 : ¬ (F ≥ 0)
  · rw [lies_no (by dsimp only; omega)]
    simp only [decide_eq_false c0, go_sem, reduceCtorEq, Nat.reduceEqDiff, reduceIte, Nat.reduceAdd, Nat.reduceSub, Nat.reduceLeDiff, Int.reduceToNat, Nat.reduceBEq]
    repeat ((with_reducible apply And.intro); (case left => first | omega | (simp only [List.length_append, List.length_cons, List.length_nil, List.length_drop, List.length_take, List.length_tail, List.length_dropLast, fs_length, ss_length, bs_length, ns_length]; omega)))
    first | rfl | omega | trace_state
  have c0 := Classical.not_not.1 c0
  by_cases c1 : ¬ (T ≥ 0)
  · rw [lies_no (by dsimp only; omega)]
    simp only [decide_eq_true c0, decide_eq_false c1, go_sem, reduceCtorEq, Nat.reduceEqDiff, reduceIte, Nat.reduceAdd, Nat.reduceSub, Nat.reduceLeDiff, Int.reduceToNat, Nat.reduceBEq]
    repeat ((with_reducible apply And.intro); (case left => first | omega | (simp only [List.length_append, List.length_cons, List.length_nil, List.length_drop, List.length_take, List.length_tail, List.length_dropLast, fs_length, ss_length, bs_length, ns_length]; omega)))
    first | rfl | omega | trace_state
  have c1 := Classical.not_not.1 c1
  by_cases c2 : ¬ (D ≥ 0)
  · rw [lies_no (by dsimp only; omega)]
    simp only [decide_eq_true c0, decide_eq_true c1, decide_eq_false c2, go_sem, reduceCtorEq, Nat.reduceEqDiff, reduceIte, Nat.reduceAdd, Nat.reduceSub, Nat.reduceLeDiff, Int.reduceToNat, Nat.reduceBEq]
    repeat ((with_reducible apply And.intro); (case left => first | omega | (simp only [List.length_append, List.length_cons, List.length_nil, List.length_drop, List.length_take, List.length_tail, List.length_dropLast, fs_length, ss_length, bs_length, ns_length]; omega)))
    first | rfl | omega | trace_state
  have c2 := Classical.not_not.1 c2
  by_cases c3 : ¬ (J ≥ 0)
  · rw [lies_no (by dsimp only; omega)]
    simp only [decide_eq_true c0, decide_eq_true c1, decide_eq_true c2, decide_eq_false c3, go_sem, reduceCtorEq, Nat.reduceEqDiff, reduceIte, Nat.reduceAdd, Nat.reduceSub, Nat.reduceLeDiff, Int.reduceToNat, Nat.reduceBEq]
    repeat ((with_reducible apply And.intro); (case left => first | omega | (simp only [List.length_append, List.length_cons, List.length_nil, List.length_drop, List.length_take, List.length_tail, List.length_dropLast, fs_length, ss_length, bs_length, ns_length]; omega)))
    first | rfl | omega | trace_state
  have c3 := Classical.not_not.1 c3
  by_cases c4 : ¬ (F ≤ ((n : Nat) : Int))
  · rw [lies_no (by dsimp only; omega)]
    simp only [decide_eq_true c0, decide_eq_true c1, decide_eq_true c2, decide_eq_true c3, decide_eq_false c4, go_sem, reduceCtorEq, Nat.reduceEqDiff, reduceIte, Nat.reduceAdd, Nat.reduceSub, Nat.reduceLeDiff, Int.reduceToNat, Nat.reduceBEq]
    repeat ((with_reducible apply And.intro); (case left => first | omega | (simp only [List.length_append, List.length_cons, List.length_nil, List.length_drop, List.length_take, List.length_tail, List.length_dropLast, fs_length, ss_length, bs_length, ns_length]; omega)))
    first | rfl | omega | trace_state
  have c4 := Classical.not_not.1 c4
  have w5 : IntKind.i64.wrap (((n : Nat) : Int) - F) = ((n : Nat) : Int) - F := wrap_in (by omega) (by omega)
  by_cases c5 : ¬ (D ≤ ((n : Nat) : Int) - F)
  · rw [lies_no (by dsimp only; omega)]
    simp only [decide_eq_true c0, decide_eq_true c1, decide_eq_true c2, decide_eq_true c3, decide_eq_true c4, w5, decide_eq_false c5, go_sem, reduceCtorEq, Nat.reduceEqDiff, reduceIte, Nat.reduceAdd, Nat.reduceSub, Nat.reduceLeDiff, Int.reduceToNat, Nat.reduceBEq]
    repeat ((with_reducible apply And.intro); (case left => first | omega | (simp only [List.length_append, List.length_cons, List.length_nil, List.length_drop, List.length_take, List.length_tail, List.length_dropLast, fs_length, ss_length, bs_length, ns_length]; omega)))
    first | rfl | omega | trace_state
  have c5 := Classical.not_not.1 c5
  by_cases c6 : ¬ (T ≤ ((k : Nat) : Int))
  · rw [lies_no (by dsimp only; omega)]
    simp only [decide_eq_true c0, decide_eq_true c1, decide_eq_true c2, decide_eq_true c3, decide_eq_true c4, w5, decide_eq_true c5, decide_eq_false c6, go_sem, reduceCtorEq, Nat.reduceEqDiff, reduceIte, Nat.reduceAdd, Nat.reduceSub, Nat.reduceLeDiff, Int.reduceToNat, Nat.reduceBEq]
    repeat ((with_reducible apply And.intro); (case left => first | omega | (simp only [List.length_append, List.length_cons, List.length_nil, List.length_drop, List.length_take, List.length_tail, List.length_dropLast, fs_length, ss_length, bs_length, ns_length]; omega)))
    first | rfl | omega | trace_state
  have c6 := Classical.not_not.1 c6
  have w7 : IntKind.i64.wrap (((k : Nat) : Int) - T) = ((k : Nat) : Int) - T := wrap_in (by omega) (by omega)
  by_cases c7 : ¬ (J ≤ ((k : Nat) : Int) - T)
  · rw [lies_no (by dsimp only; omega)]
    simp only [decide_eq_true c0, decide_eq_true c1, decide_eq_true c2, decide_eq_true c3, decide_eq_true c4, w5, decide_eq_true c5, decide_eq_true c6, w7, decide_eq_false c7, go_sem, reduceCtorEq, Nat.reduceEqDiff, reduceIte, Nat.reduceAdd, Nat.reduceSub, Nat.reduceLeDiff, Int.reduceToNat, Nat.reduceBEq]
    repeat ((with_reducible apply And.intro); (case left => first | omega | (simp only [List.length_append, List.length_cons, List.length_nil, List.length_drop, List.length_take, List.length_tail, List.length_dropLast, fs_length, ss_length, bs_length, ns_length]; omega)))
    first | rfl | omega | trace_state
  have c7 := Classical.not_not.1 c7
  rw [lies_iff.2 (by dsimp only; omega)]
  simp only [decide_eq_true c0, decide_eq_true c1, decide_eq_true c2, decide_eq_true c3, decide_eq_true c4, w5, decide_eq_true c5, decide_eq_true c6, w7, decide_eq_true c7, go_sem, reduceCtorEq, Nat.reduceEqDiff, reduceIte, Nat.reduceAdd, Nat.reduceSub, Nat.reduceLeDiff, Int.reduceToNat, Nat.reduceBEq]
  repeat ((with_reducible apply And.intro); (case left => first | omega | (simp only [List.length_append, List.length_cons, List.length_nil, List.length_drop, List.length_take, List.length_tail, List.length_dropLast, fs_length, ss_length, bs_length, ns_length]; omega)))
  first | rfl | omega | trace_state
theorem scOk_iff {a b : List Bs} {first : Bool} {q : Int × Int} {e : Ed} : scOk a b first q e = true ↔ (q.1 ≤ e.1 ∧ q.2 ≤ e.2.2.1 ∧ 0 ≤ e.2.1 ∧ 0 ≤ e.2.2.2 ∧ e.1 ≤ a.length ∧ e.2.1 ≤ a.length - e.1 ∧ e.2.2.1 ≤ b.length ∧ e.2.2.2 ≤ b.length - e.2.2.1 ∧ ¬ (e.2.1 = 0 ∧ e.2.2.2 = 0) ∧ (first = true ∨ e.1 ≠ q.1)) ∧ sl a q.1 e.1 = sl b q.2 e.2.2.1 := by
  have e9 : (!(e.2.1 == 0 && e.2.2.2 == 0)) = true ↔ ¬ (e.2.1 = 0 ∧ e.2.2.2 = 0) := by
    rw [Bool.not_eq_true', Bool.and_eq_false_iff, beq_eq_false_iff_ne, beq_eq_false_iff_ne]
    omega
  have e10 : (first || !(e.1 == q.1)) = true ↔ (first = true ∨ e.1 ≠ q.1) := by
    rw [Bool.or_eq_true, Bool.not_eq_true', beq_eq_false_iff_ne]
  constructor
  · intro h
    rw [scOk] at h
    simp only [Bool.and_eq_true] at h
    obtain ⟨⟨⟨⟨⟨⟨⟨⟨⟨⟨h1, h2⟩, h3⟩, h4⟩, h5⟩, h6⟩, h7⟩, h8⟩, h9⟩, h10⟩, h11⟩ := h
    exact ⟨⟨of_decide_eq_true h1, of_decide_eq_true h2, of_decide_eq_true h3, of_decide_eq_true h4, of_decide_eq_true h5, of_decide_eq_true h6, of_decide_eq_true h7, of_decide_eq_true h8, e9.1 h9, e10.1 h10⟩, of_decide_eq_true h11⟩
  · rintro ⟨⟨h1, h2, h3, h4, h5, h6, h7, h8, h9, h10⟩, h11⟩
    rw [scOk, e10.2 h10, e9.2 h9]
    simp only [h1, h2, h3, h4, h5, h6, h7, h8, h11, decide_true, Bool.and_self]
theorem sc_fail {a b : List Bs} {l : List Ed} {i : Nat} (h : i < l.length) {q : Int × Int} (hq : scS a b l i = some q) (ho : ¬ scOk a b (i == 0) q l[i] = true) : right a b l = false := by
  have : scS a b l (i + 1) = none := by rw [scS_step a b l h hq, if_neg ho]
  rw [right, scS_none a b l this (show i + 1 ≤ l.length by omega)]
theorem sl_drop (a : List Bs) (i j : Int) : (a.take j.toNat).drop i.toNat = sl a i j := by rw [List.drop_take]; rfl
set_option maxRecDepth 4000 in
theorem pdvalid_snd (a b : List Bs) (l : List Ed) (ha : a.length ≤ 1048576) (hb : b.length ≤ 1048576) (hl : l.length ≤ 1048576) : Snd Tryd.prog (gl m) 41 [.sl .frn 1 (ss a), .sl .frn 1 (ss b), .sl .frn 4 (fs fE l)] (B (right a b l)) := by
  refine snd_of (fn := Tryd.f41) (af := pdvalid) Tryd.func41 (pdvalid_comp m) mixed (kn_ok m) (Nat.le_of_ble_eq_true rfl) ?_
  simp only [pdvalid, go_sem, reduceCtorEq, Nat.reduceEqDiff, reduceIte, Nat.reduceAdd, Nat.reduceSub, Nat.reduceLeDiff, Int.reduceToNat, Nat.reduceBEq]
  refine loop_wf (fun x : Nat × Int × Int => l.length - x.1) (fun x => mkS [(0, .sl .frn 1 (ss a)), (1, .sl .frn 1 (ss b)), (2, .sl .frn 4 (fs fE l)), (7, I x.2.1), (8, I x.2.2), (11, .sl .frn 4 (fs fE l)), (12, N l.length), (13, N x.1)] [])
    (fun x => x.1 ≤ l.length ∧ scS a b l x.1 = some x.2) (0, (0, 0)) rfl ⟨by omega, rfl⟩ ?_
  rintro ⟨i, p, q⟩ ⟨hi, hq⟩ ih
  have hbd := scS_bound hq
  dsimp only at hi hq ih hbd
  simp only [pdvalid_l6_w, pdvalid_l6', go_sem, reduceCtorEq, Nat.reduceEqDiff, reduceIte, Nat.reduceAdd, Nat.reduceSub, Nat.reduceLeDiff, Int.reduceToNat, Nat.reduceBEq]
  repeat ((with_reducible apply And.intro); (case left => first | omega | (simp only [List.length_append, List.length_cons, List.length_nil, List.length_drop, List.length_take, List.length_tail, List.length_dropLast, fs_length, ss_length, bs_length, ns_length]; omega)))
  by_cases h : i < l.length
  · have g := fs_getE h
    have qi : IntKind.i64.wrap ((i : Int) + 1) = ((i + 1 : Nat) : Int) := wrapN _ (by omega) (by omega)
    have hst := scS_step a b l h hq
    have hfail := sc_fail h hq
    rw [scOk_iff] at hfail
    generalize l[i] = x at g hst hfail
    obtain ⟨F, D, T, J⟩ := x
    dsimp only at hst hfail
    simp only [lt_t h, g, Int.toNat_natCast, pdvalid_k0_w, pdvalid_k0', pdvalid_k1_w, pdvalid_k1', pdvalid_k2_w, pdvalid_k2', pdvalid_k3_w, pdvalid_k3', pdvalid_k4_w, pdvalid_k4', pdvalid_k5_w, pdvalid_k5', pdvalid_k7_w, pdvalid_k7', pdvalid_k8_w, pdvalid_k8', go_sem, reduceCtorEq, Nat.reduceEqDiff, reduceIte, Nat.reduceAdd, Nat.reduceSub, Nat.reduceLeDiff, Int.reduceToNat, Nat.reduceBEq]
    repeat ((with_reducible apply And.intro); (case left => first | omega | (simp only [List.length_append, List.length_cons, List.length_nil, List.length_drop, List.length_take, List.length_tail, List.length_dropLast, fs_length, ss_length, bs_length, ns_length]; omega)))
    refine of_call (plies_snd (F, D, T, J) a.length b.length ha hb) ?_
    simp only [go_sem, reduceCtorEq, Nat.reduceEqDiff, reduceIte, Nat.reduceAdd, Nat.reduceSub, Nat.reduceLeDiff, Int.reduceToNat, Nat.reduceBEq]
    repeat ((with_reducible apply And.intro); (case left => first | omega | (simp only [List.length_append, List.length_cons, List.length_nil, List.length_drop, List.length_take, List.length_tail, List.length_dropLast, fs_length, ss_length, bs_length, ns_length]; omega)))
    by_cases c0 : 0 ≤ F ∧ 0 ≤ T ∧ 0 ≤ D ∧ 0 ≤ J ∧ F ≤ a.length ∧ D ≤ a.length - F ∧ T ≤ b.length ∧ J ≤ b.length - T
    rotate_left
    · rw [lies_no c0, hfail (fun h => c0 (by omega))]
      simp only [Bool.not_false, go_sem, reduceCtorEq, Nat.reduceEqDiff, reduceIte, Nat.reduceAdd, Nat.reduceSub, Nat.reduceLeDiff, Int.reduceToNat, Nat.reduceBEq]
      repeat ((with_reducible apply And.intro); (case left => first | omega | (simp only [List.length_append, List.length_cons, List.length_nil, List.length_drop, List.length_take, List.length_tail, List.length_dropLast, fs_length, ss_length, bs_length, ns_length]; omega)))
      simp only [pdvalid_k0_w, pdvalid_k0', pdvalid_k1_w, pdvalid_k1', pdvalid_k2_w, pdvalid_k2', pdvalid_k3_w, pdvalid_k3', pdvalid_k4_w, pdvalid_k4', pdvalid_k5_w, pdvalid_k5', go_sem, reduceCtorEq, Nat.reduceEqDiff, reduceIte, Nat.reduceAdd, Nat.reduceSub, Nat.reduceLeDiff, Int.reduceToNat, Nat.reduceBEq]
      first | rfl | omega | trace_state
    rw [lies_iff.2 c0]
    obtain ⟨l1, l2, l3, l4, l5, l6, l7, l8⟩ := c0
    by_cases c1 : D = 0 ∧ J = 0
    · rw [hfail (fun h => h.1.2.2.2.2.2.2.2.2.1 c1)]
      simp only [Bool.not_true, eq_t c1.1, eq_t c1.2, go_sem, reduceCtorEq, Nat.reduceEqDiff, reduceIte, Nat.reduceAdd, Nat.reduceSub, Nat.reduceLeDiff, Int.reduceToNat, Nat.reduceBEq]
      repeat ((with_reducible apply And.intro); (case left => first | omega | (simp only [List.length_append, List.length_cons, List.length_nil, List.length_drop, List.length_take, List.length_tail, List.length_dropLast, fs_length, ss_length, bs_length, ns_length]; omega)))
      simp only [pdvalid_k0_w, pdvalid_k0', pdvalid_k1_w, pdvalid_k1', pdvalid_k2_w, pdvalid_k2', pdvalid_k3_w, pdvalid_k3', pdvalid_k4_w, pdvalid_k4', pdvalid_k5_w, pdvalid_k5', go_sem, reduceCtorEq, Nat.reduceEqDiff, reduceIte, Nat.reduceAdd, Nat.reduceSub, Nat.reduceLeDiff, Int.reduceToNat, Nat.reduceBEq]
      first | rfl | omega | trace_state
    have hz : ((D == 0) = false ∧ True) ∨ ((D == 0) = true ∧ (J == 0) = false) := by
      by_cases d : D = 0
      · exact .inr ⟨eq_t d, eq_f (fun j => c1 ⟨d, j⟩)⟩
      · exact .inl ⟨eq_f d, trivial⟩
    by_cases c2 : F < p
    · rw [hfail (fun h => by omega)]
      rcases hz with ⟨z, z'⟩ | ⟨z, z'⟩ <;> simp only [Bool.not_true, z, z', ilt_t c2, go_sem, reduceCtorEq, Nat.reduceEqDiff, reduceIte, Nat.reduceAdd, Nat.reduceSub, Nat.reduceLeDiff, Int.reduceToNat, Nat.reduceBEq]
      all_goals ((repeat ((with_reducible apply And.intro); (case left => first | omega | (simp only [List.length_append, List.length_cons, List.length_nil, List.length_drop, List.length_take, List.length_tail, List.length_dropLast, fs_length, ss_length, bs_length, ns_length]; omega)))); simp only [pdvalid_k0_w, pdvalid_k0', pdvalid_k1_w, pdvalid_k1', pdvalid_k2_w, pdvalid_k2', pdvalid_k3_w, pdvalid_k3', pdvalid_k4_w, pdvalid_k4', pdvalid_k5_w, pdvalid_k5', go_sem, reduceCtorEq, Nat.reduceEqDiff, reduceIte, Nat.reduceAdd, Nat.reduceSub, Nat.reduceLeDiff, Int.reduceToNat, Nat.reduceBEq])
      all_goals first | rfl | omega | trace_state
    by_cases c3 : T < q
    · rw [hfail (fun h => by omega)]
      rcases hz with ⟨z, z'⟩ | ⟨z, z'⟩ <;> simp only [Bool.not_true, z, z', ilt_f c2, ilt_t c3, go_sem, reduceCtorEq, Nat.reduceEqDiff, reduceIte, Nat.reduceAdd, Nat.reduceSub, Nat.reduceLeDiff, Int.reduceToNat, Nat.reduceBEq]
      all_goals ((repeat ((with_reducible apply And.intro); (case left => first | omega | (simp only [List.length_append, List.length_cons, List.length_nil, List.length_drop, List.length_take, List.length_tail, List.length_dropLast, fs_length, ss_length, bs_length, ns_length]; omega)))); simp only [pdvalid_k0_w, pdvalid_k0', pdvalid_k1_w, pdvalid_k1', pdvalid_k2_w, pdvalid_k2', pdvalid_k3_w, pdvalid_k3', pdvalid_k4_w, pdvalid_k4', pdvalid_k5_w, pdvalid_k5', go_sem, reduceCtorEq, Nat.reduceEqDiff, reduceIte, Nat.reduceAdd, Nat.reduceSub, Nat.reduceLeDiff, Int.reduceToNat, Nat.reduceBEq])
      all_goals first | rfl | omega | trace_state
    by_cases c4 : 0 < i ∧ F = p
    · rw [hfail (fun h => by have := h.1.2.2.2.2.2.2.2.2.2; simp only [beq_iff_eq] at this; omega)]
      have f1 : decide ((i : Int) > 0) = true := decide_eq_true (by omega)
      rcases hz with ⟨z, z'⟩ | ⟨z, z'⟩ <;> simp only [Bool.not_true, z, z', ilt_f c2, ilt_f c3, f1, eq_t c4.2, go_sem, reduceCtorEq, Nat.reduceEqDiff, reduceIte, Nat.reduceAdd, Nat.reduceSub, Nat.reduceLeDiff, Int.reduceToNat, Nat.reduceBEq]
      all_goals ((repeat ((with_reducible apply And.intro); (case left => first | omega | (simp only [List.length_append, List.length_cons, List.length_nil, List.length_drop, List.length_take, List.length_tail, List.length_dropLast, fs_length, ss_length, bs_length, ns_length]; omega)))); simp only [pdvalid_k0_w, pdvalid_k0', pdvalid_k1_w, pdvalid_k1', pdvalid_k2_w, pdvalid_k2', pdvalid_k3_w, pdvalid_k3', pdvalid_k4_w, pdvalid_k4', pdvalid_k5_w, pdvalid_k5', go_sem, reduceCtorEq, Nat.reduceEqDiff, reduceIte, Nat.reduceAdd, Nat.reduceSub, Nat.reduceLeDiff, Int.reduceToNat, Nat.reduceBEq])
      all_goals first | rfl | omega | trace_state
    have hf : (decide ((i : Int) > 0) = false ∧ True) ∨ (decide ((i : Int) > 0) = true ∧ (F == p) = false) := by
      by_cases d : 0 < i
      · exact .inr ⟨decide_eq_true (by omega), eq_f (fun j => c4 ⟨d, j⟩)⟩
      · exact .inl ⟨decide_eq_false (by omega), trivial⟩
    rcases hz with ⟨z, z'⟩ | ⟨z, z'⟩ <;> rcases hf with ⟨f, f'⟩ | ⟨f, f'⟩
    all_goals simp only [Bool.not_true, z, z', f, f', ilt_f c2, ilt_f c3, go_sem, reduceCtorEq, Nat.reduceEqDiff, reduceIte, Nat.reduceAdd, Nat.reduceSub, Nat.reduceLeDiff, Int.reduceToNat, Nat.reduceBEq]
    all_goals ((repeat ((with_reducible apply And.intro); (case left => first | omega | (simp only [List.length_append, List.length_cons, List.length_nil, List.length_drop, List.length_take, List.length_tail, List.length_dropLast, fs_length, ss_length, bs_length, ns_length]; omega)))); simp only [pdvalid_k0_w, pdvalid_k0', pdvalid_k1_w, pdvalid_k1', pdvalid_k2_w, pdvalid_k2', pdvalid_k3_w, pdvalid_k3', pdvalid_k4_w, pdvalid_k4', pdvalid_k5_w, pdvalid_k5', go_sem, reduceCtorEq, Nat.reduceEqDiff, reduceIte, Nat.reduceAdd, Nat.reduceSub, Nat.reduceLeDiff, Int.reduceToNat, Nat.reduceBEq])
    all_goals
      repeat ((with_reducible apply And.intro); (case left => first | omega | (simp only [List.length_append, List.length_cons, List.length_nil, List.length_drop, List.length_take, List.length_tail, List.length_dropLast, fs_length, ss_length, bs_length, ns_length]; omega)))
      refine of_call (sequal_snd _ _ (by simp only [List.length_drop, List.length_take]; omega) (by simp only [List.length_drop, List.length_take]; omega)) ?_
      simp only [go_sem, reduceCtorEq, Nat.reduceEqDiff, reduceIte, Nat.reduceAdd, Nat.reduceSub, Nat.reduceLeDiff, Int.reduceToNat, Nat.reduceBEq]
      repeat ((with_reducible apply And.intro); (case left => first | omega | (simp only [List.length_append, List.length_cons, List.length_nil, List.length_drop, List.length_take, List.length_tail, List.length_dropLast, fs_length, ss_length, bs_length, ns_length]; omega)))
      rw [sl_drop, sl_drop]
      by_cases c5 : sl a p F = sl b q T
      · have w1 : IntKind.i64.wrap (F + D) = F + D := wrap_in (by omega) (by omega)
        have w2 : IntKind.i64.wrap (T + J) = T + J := wrap_in (by omega) (by omega)
        rw [if_pos (scOk_iff.2 ⟨⟨by dsimp only; omega, by dsimp only; omega, l3, l4, l5, l6, l7, l8, c1, by simp only [beq_iff_eq]; omega⟩, c5⟩)] at hst
        simp only [decide_eq_true c5, Bool.not_true, pdvalid_k0_w, pdvalid_k0', pdvalid_k1_w, pdvalid_k1', pdvalid_k2_w, pdvalid_k2', pdvalid_k3_w, pdvalid_k3', pdvalid_k4_w, pdvalid_k4', pdvalid_k5_w, pdvalid_k5', go_sem, reduceCtorEq, Nat.reduceEqDiff, reduceIte, Nat.reduceAdd, Nat.reduceSub, Nat.reduceLeDiff, Int.reduceToNat, Nat.reduceBEq]
        repeat ((with_reducible apply And.intro); (case left => first | omega | (simp only [List.length_append, List.length_cons, List.length_nil, List.length_drop, List.length_take, List.length_tail, List.length_dropLast, fs_length, ss_length, bs_length, ns_length]; omega)))
        simp only [w1, w2, qi, pdvalid_k0_w, pdvalid_k0', pdvalid_k1_w, pdvalid_k1', pdvalid_k2_w, pdvalid_k2', pdvalid_k3_w, pdvalid_k3', pdvalid_k4_w, pdvalid_k4', pdvalid_k5_w, pdvalid_k5', go_sem, reduceCtorEq, Nat.reduceEqDiff, reduceIte, Nat.reduceAdd, Nat.reduceSub, Nat.reduceLeDiff, Int.reduceToNat, Nat.reduceBEq]
        exact ih (i + 1, F + D, T + J) (by dsimp only; omega) ⟨by dsimp only; omega, hst⟩
      · rw [hfail (fun h => c5 h.2)]
        simp only [decide_eq_false c5, Bool.not_false, pdvalid_k0_w, pdvalid_k0', pdvalid_k1_w, pdvalid_k1', pdvalid_k2_w, pdvalid_k2', pdvalid_k3_w, pdvalid_k3', pdvalid_k4_w, pdvalid_k4', pdvalid_k5_w, pdvalid_k5', go_sem, reduceCtorEq, Nat.reduceEqDiff, reduceIte, Nat.reduceAdd, Nat.reduceSub, Nat.reduceLeDiff, Int.reduceToNat, Nat.reduceBEq]
        try ((repeat ((with_reducible apply And.intro); (case left => first | omega | (simp only [List.length_append, List.length_cons, List.length_nil, List.length_drop, List.length_take, List.length_tail, List.length_dropLast, fs_length, ss_length, bs_length, ns_length]; omega)))); simp only [pdvalid_k0_w, pdvalid_k0', pdvalid_k1_w, pdvalid_k1', pdvalid_k2_w, pdvalid_k2', pdvalid_k3_w, pdvalid_k3', pdvalid_k4_w, pdvalid_k4', pdvalid_k5_w, pdvalid_k5', go_sem, reduceCtorEq, Nat.reduceEqDiff, reduceIte, Nat.reduceAdd, Nat.reduceSub, Nat.reduceLeDiff, Int.reduceToNat, Nat.reduceBEq])
        try first | rfl | omega
  · obtain rfl : i = l.length := by omega
    have e : right a b l = decide (a.drop p.toNat = b.drop q.toNat) := by rw [right, hq]
    rw [e]
    simp only [lt_f h, ss_drop, ss_length, Int.toNat_natCast, pdvalid_k0_w, pdvalid_k0', pdvalid_k1_w, pdvalid_k1', pdvalid_k2_w, pdvalid_k2', pdvalid_k3_w, pdvalid_k3', pdvalid_k4_w, pdvalid_k4', pdvalid_k5_w, pdvalid_k5', pdvalid_k7_w, pdvalid_k7', pdvalid_k8_w, pdvalid_k8', go_sem, reduceCtorEq, Nat.reduceEqDiff, reduceIte, Nat.reduceAdd, Nat.reduceSub, Nat.reduceLeDiff, Int.reduceToNat, Nat.reduceBEq]
    repeat ((with_reducible apply And.intro); (case left => first | omega | (simp only [List.length_append, List.length_cons, List.length_nil, List.length_drop, List.length_take, List.length_tail, List.length_dropLast, fs_length, ss_length, bs_length, ns_length]; omega)))
    refine of_call (sequal_snd _ _ (by simp only [List.length_drop]; omega) (by simp only [List.length_drop]; omega)) ?_
    simp only [go_sem, reduceCtorEq, Nat.reduceEqDiff, reduceIte, Nat.reduceAdd, Nat.reduceSub, Nat.reduceLeDiff, Int.reduceToNat, Nat.reduceBEq]
    repeat ((with_reducible apply And.intro); (case left => first | omega | (simp only [List.length_append, List.length_cons, List.length_nil, List.length_drop, List.length_take, List.length_tail, List.length_dropLast, fs_length, ss_length, bs_length, ns_length]; omega)))
    simp only [pdvalid_k7_w, pdvalid_k7', go_sem, reduceCtorEq, Nat.reduceEqDiff, reduceIte, Nat.reduceAdd, Nat.reduceSub, Nat.reduceLeDiff, Int.reduceToNat, Nat.reduceBEq]
    first | rfl | omega | trace_state
end Go.Hk
namespace Go.Hk
open Go Go.Ev Go.Proofs
set_option linter.unusedVariables false
set_option linter.unusedSimpArgs false
set_option maxHeartbeats 4000000
attribute [local go_sem] eqs implies_true List.map_cons List.map_nil kl klL roD roL Option.map_some Option.map_none Option.getD_some Option.getD_none binVal binObl unVal if_true if_false eq_self passA frnD resD content getH getR getW viaNot viaSlot viaBox viaDeep viaMem List.contains_cons List.contains_nil grabs peeks okCells isCell place cellsOf chunk elt List.headD_cons List.length_cons List.length_nil List.take_succ_cons List.take_zero List.drop_succ_cons List.drop_zero List.nil_append List.cons_append List.append_nil List.all_cons List.all_nil plainC takeR setW over reCell List.getElem?_cons_zero List.getElem?_cons_succ List.set_cons_zero List.take_length outV resG plainV pack outVG outBx List.set_cons_succ Ref.idx Ref.addOff beq_self_eq_true bxL Option.bind_some writeR isLit viaBoxes capsPA boxPA nsOf noDup boxesAt argG passG passD rhoIn rhoOut idxIn tr trL List.getD_cons_zero gives pasOf isPtr Ins.d List.getD_cons_succ resL frnL partB_f partB_t partB_p partB_s St.setP mixR v_slcT kl_wA kl_wA' tr_wA tr_wA' kj_jf List.getLast?_nil List.getLast?_singleton List.dropLast_singleton List.nil_append frnL_fs roL_fs resL_fs passL_fs klL_fs trL_fs map_roD_fs fs_length hS_length frnL_hS roL_hS_own roL_hS_frn roL_hS_ro resL_hS_own resL_hS_ro klL_hS klL_hS_own klL_hS_frn passL_hS_own passL_hS_frn trL_hS_own trL_hS_frn
variable {m : Int × Bool}
def pput_k0' : AC := .seq (.block 1 (.seq (.reg (.seq [⟨some (24, false), none, .iad (.tmp 20 true) (.tmp 22 true) 1⟩,⟨some (25, false), none, .load (.tmp 24 false) 1 false false⟩,⟨some (8, true), none, .mov (.tmp 25 false) .asg⟩])) [1, 2, 6, 8, 20, 21, 22] [10000, 10001, 10002]
    (.reg (.seq [⟨some (26, false), none, .mov (.tmp 6 true) .peek⟩,⟨some (27, false), none, .mov (.tmp 6 true) .peek⟩,⟨some (28, false), none, .chk (.tmp 27 false)⟩,⟨some (29, false), none, .fad (.tmp 28 false) 2⟩,⟨some (30, false), none, .load (.tmp 29 false) 1 false true⟩,⟨some (31, false), none, .mov (.tmp 1 true) .take⟩,⟨some (32, false), none, .mov (.tmp 8 true) .take⟩,⟨some (33, false), none, .build [(.lit (.int .i64 0)), (.lit (.string (str [])))] [(0, 1, (.tmp 31 false)), (1, 1, (.tmp 32 false))]⟩,⟨some (34, false), none, .buildS 2 1 [(.lit (.int .i64 0)), (.lit (.string (str [])))] [(0, 2, (.tmp 33 false))]⟩,⟨some (35, false), none, .app 2 24 (.tmp 30 false) (.tmp 34 false)⟩,⟨some (36, false), none, .chk (.tmp 26 false)⟩,⟨some (37, false), none, .fad (.tmp 36 false) 2⟩,⟨none, none, .store (.tmp 37 false) (.tmp 35 false) 1⟩])))) [1, 2, 6, 20, 21, 22] [10000, 10001, 10002]
  (.reg (.seq [⟨some (38, false), none, .bin .add (.tmp 22 true) (.cst (.int .i64 1) (.lit (.int .i64 1)))⟩,⟨some (22, true), none, .mov (.tmp 38 false) .peek⟩]))
def pput_k0 : AC := pput_k0'
theorem pput_k0_w (C : Kn) (K : Ex → St → Prop) (s : St) : vcC C pput_k0 K s = vcC C pput_k0' K s := nr rfl
def pput_l1' : AC := .seq (.reg (.seq [⟨some (23, false), none, .bin .lss (.tmp 22 true) (.tmp 21 true)⟩])) [1, 2, 6, 20, 21, 22, 23] [10000, 10001, 10002]
  (.seq (.cond (.tmp 23 false)
    (.skip)
    (.exit 0)) [1, 2, 6, 20, 21, 22] [10000, 10001, 10002] pput_k0)
def pput_l1 : AC := pput_l1'
theorem pput_l1_w (C : Kn) (K : Ex → St → Prop) (s : St) : vcC C pput_l1 K s = vcC C pput_l1' K s := nr rfl
def pput_k2' : AC := .seq (.reg (.seq [⟨some (20, true), none, .mov (.tmp 2 true) .peek⟩,⟨some (21, true), none, .lenL (.tmp 20 true)⟩,⟨some (22, true), none, .mov (.cst (.int .i64 0) (.lit (.int .i64 0))) .peek⟩])) [1, 2, 6, 20, 21, 22] [10000, 10001, 10002]
  (.block 0 (.loop [1, 2, 6, 20, 21, 22] [10000, 10001, 10002] pput_l1))
def pput_k2 : AC := pput_k2'
theorem pput_k2_w (C : Kn) (K : Ex → St → Prop) (s : St) : vcC C pput_k2 K s = vcC C pput_k2' K s := nr rfl
def pput : AF := ⟨.seq (.reg (.draw [⟨some (9, false), none, .mov (.tmp 0 true) .peek⟩,⟨some (10, false), none, .chk (.tmp 9 false)⟩,⟨some (11, false), none, .fad (.tmp 10 false) 3⟩,⟨some (12, false), none, .load (.tmp 11 false) 1 false false⟩,⟨some (13, false), none, .mov (.tmp 0 true) .peek⟩,⟨some (14, false), none, .chk (.tmp 13 false)⟩,⟨some (15, false), none, .fad (.tmp 14 false) 3⟩,⟨some (16, false), none, .load (.tmp 15 false) 1 false false⟩,⟨some (17, false), none, .lenL (.tmp 16 false)⟩,⟨some (18, false), none, .bin .sub (.tmp 17 false) (.cst (.int .i64 1) (.lit (.int .i64 1)))⟩,⟨some (19, false), none, .iad (.tmp 12 false) (.tmp 18 false) 3⟩] (.alt ⟨some (6, true), none, .mov (.tmp 19 false) .asg⟩ []
      .done .no))) [1, 2, 6] [10000, 10001, 10002] pput_k2,
  []⟩
theorem pput_comp (m : Int × Bool) : compF Tryd.prog (gl m) [10000, 10001, 10002] Tryd.f42 = some pput := by kernel_rfl
set_option maxRecDepth 4000 in
theorem pput_snd (A B' : List Bs) (j : Nat) (n k : Int) (out : List Hk) (cur : Hk) (L : List Bs) (hL : L.length ≤ 1048576) (ho : out.length ≤ 1048576) (hc : cur.2.2.length ≤ 1099511627776) :
    SndG Tryd.prog (gl m) 42 [P0, I k, .sl .frn 1 (ss L)] [[wA j A, wA j B', I n, .sl .own 3 (hS .own (out ++ [cur]))]] (.tup []) [[wA (jf L.length j) A, wA (jf L.length j) B', I n, .sl .own 3 (hS .own (out ++ [(cur.1, cur.2.1, cur.2.2 ++ kL k L)]))]] := by
  refine sndG_of (fn := Tryd.f42) (af := pput) Tryd.func42 (pput_comp m) mixed (kn_ok m) (Nat.le_of_ble_eq_true rfl) (Nat.le_of_ble_eq_true rfl) ?_
  have q0 : IntKind.i64.wrap ((((out ++ [cur]).length : Nat) : Int) - 1) = ((out.length : Nat) : Int) := by
    rw [List.length_append, List.length_singleton]; rw [show (((out.length + 1 : Nat) : Int) - 1) = ((out.length : Nat) : Int) by omega]; exact wrap_in (by omega) (by omega)
  simp only [pput, q0, List.getElem?_nil, Option.map_none, pput_k2_w, pput_k2', go_sem, reduceCtorEq, Nat.reduceEqDiff, reduceIte, Nat.reduceAdd, Nat.reduceSub, Nat.reduceLeDiff, Int.reduceToNat, Nat.reduceBEq]
  repeat ((with_reducible apply And.intro); (case left => first | omega | (simp only [List.length_append, List.length_cons, List.length_nil, List.length_drop, List.length_take, List.length_tail, List.length_dropLast, fs_length, ss_length, bs_length, ns_length]; omega)))
  refine loop_up L.length (fun i => mkS [(1, I k), (2, .sl .frn 1 (ss L)), (6, .ptr ⟨.box 10000 3, [⟨out.length, 0, 3⟩]⟩), (20, .sl .frn 1 (ss L)), (21, N L.length), (22, N i)] [(10000, some [wA (jf i j) A, wA (jf i j) B', I n, .sl .own 3 (hS .own (out ++ [(cur.1, cur.2.1, cur.2.2 ++ kL k (L.take i))]))]), (10001, none), (10002, none)]) ?_ ?_
  · simp only [List.take_zero, kL_nil, List.append_nil]
    rfl
  intro i hi ih
  simp only [pput_l1_w, pput_l1', go_sem, reduceCtorEq, Nat.reduceEqDiff, reduceIte, Nat.reduceAdd, Nat.reduceSub, Nat.reduceLeDiff, Int.reduceToNat, Nat.reduceBEq]
  repeat ((with_reducible apply And.intro); (case left => first | omega | (simp only [List.length_append, List.length_cons, List.length_nil, List.length_drop, List.length_take, List.length_tail, List.length_dropLast, fs_length, ss_length, bs_length, ns_length]; omega)))
  by_cases h : i < L.length
  · have g := ssE L h
    have q1 : IntKind.i64.wrap ((i : Int) + 1) = ((i + 1 : Nat) : Int) := wrapN _ (by omega) (by omega)
    have hc : out.length < (hS .own (out ++ [(cur.1, cur.2.1, cur.2.2 ++ kL k (L.take i))])).length := by simp [hS_length]
    have hkl := kL_len k (L.take i)
    rw [List.length_take] at hkl
    have hcl : (cur.2.2 ++ kL k (L.take i)).length ≤ 1099512676352 := by rw [List.length_append, hkl]; omega
    rw [kL_snoc k h, ← List.append_assoc] at ih
    generalize cur.2.2 ++ kL k (L.take i) = c at hc hcl ih ⊢
    have g2 : (hS .own (out ++ [(cur.1, cur.2.1, c)]))[out.length]? = some (hT .own (cur.1, cur.2.1, c)) := by rw [hS_get (by simp), List.getElem_concat_length rfl]
    simp only [lt_t h, g, g2, hS_set1, hS_get1, hS_set2, klL_hS1, fs_snocL, hS_snocO, stale1, q1, Int.toNat_natCast, pput_k0_w, pput_k0', go_sem, reduceCtorEq, Nat.reduceEqDiff, reduceIte, Nat.reduceAdd, Nat.reduceSub, Nat.reduceLeDiff, Int.reduceToNat, Nat.reduceBEq]
    repeat ((with_reducible apply And.intro); (case left => first | omega | (simp only [List.length_append, List.length_cons, List.length_nil, List.length_drop, List.length_take, List.length_tail, List.length_dropLast, fs_length, ss_length, bs_length, ns_length]; omega)))
    exact ih h
  · obtain rfl : i = L.length := by omega
    simp only [lt_f h, pput_k0_w, pput_k0', List.take_length, go_sem, reduceCtorEq, Nat.reduceEqDiff, reduceIte, Nat.reduceAdd, Nat.reduceSub, Nat.reduceLeDiff, Int.reduceToNat, Nat.reduceBEq]
    first | rfl | omega | trace_state
end Go.Hk
namespace Go.Hk
open Go Go.Ev Go.Proofs
set_option linter.unusedVariables false
set_option linter.unusedSimpArgs false
set_option maxHeartbeats 4000000
attribute [local go_sem] eqs implies_true List.map_cons List.map_nil kl klL roD roL Option.map_some Option.map_none Option.getD_some Option.getD_none binVal binObl unVal if_true if_false eq_self passA frnD resD content getH getR getW viaNot viaSlot viaBox viaDeep viaMem List.contains_cons List.contains_nil grabs peeks okCells isCell place cellsOf chunk elt List.headD_cons List.length_cons List.length_nil List.take_succ_cons List.take_zero List.drop_succ_cons List.drop_zero List.nil_append List.cons_append List.append_nil List.all_cons List.all_nil plainC takeR setW over reCell List.getElem?_cons_zero List.getElem?_cons_succ List.set_cons_zero List.take_length outV resG plainV pack outVG outBx List.set_cons_succ Ref.idx Ref.addOff beq_self_eq_true bxL Option.bind_some writeR isLit viaBoxes capsPA boxPA nsOf noDup boxesAt argG passG passD rhoIn rhoOut idxIn tr trL List.getD_cons_zero gives pasOf isPtr Ins.d List.getD_cons_succ resL frnL partB_f partB_t partB_p partB_s St.setP mixR v_slcT kl_wA kl_wA' tr_wA tr_wA' List.getLast?_nil List.getLast?_singleton List.dropLast_singleton List.nil_append frnL_fs roL_fs resL_fs passL_fs klL_fs trL_fs map_roD_fs fs_length hS_length frnL_hS roL_hS_own roL_hS_frn roL_hS_ro resL_hS_own resL_hS_ro klL_hS klL_hS_own klL_hS_frn passL_hS_own passL_hS_frn trL_hS_own trL_hS_frn
variable {m : Int × Bool}
def pof_k0' : AC := .cond (.tmp 28 false)
    (.seq (.reg (.seq [⟨some (8, true), none, .mov (.cst (.slice none 0 0) (.sl .own 3 [])) .asg⟩])) [8] []
    (.ret))
    (.skip)
def pof_k0 : AC := pof_k0'
theorem pof_k0_w (C : Kn) (K : Ex → St → Prop) (s : St) : vcC C pof_k0 K s = vcC C pof_k0' K s := nr rfl
def pof_k1' : AC := .reg (.seq [⟨some (116, false), none, .mov (.tmp 9 true) .peek⟩,⟨some (117, false), none, .mov (.tmp 0 true) .peek⟩,⟨some (118, false), none, .fad (.tmp 12 true) 0⟩,⟨some (119, false), none, .load (.tmp 118 false) 1 false false⟩,⟨some (120, false), none, .mov (.tmp 13 true) .peek⟩,⟨some (121, false), none, .bin .sub (.tmp 119 false) (.tmp 120 false)⟩,⟨some (122, false), none, .fad (.tmp 12 true) 0⟩,⟨some (123, false), none, .load (.tmp 122 false) 1 false false⟩,⟨some (124, false), none, .slc 1 (.tmp 117 false) (some (.tmp 121 false)) (some (.tmp 123 false))⟩,⟨some (125, false), none, .callG 42 [((.tmp 116 false), .ptr), ((.cst (.int .i64 1) (.lit (.int .i64 1))), .pass), ((.tmp 124 false), .pass)]⟩])
def pof_k1 : AC := pof_k1'
theorem pof_k1_w (C : Kn) (K : Ex → St → Prop) (s : St) : vcC C pof_k1 K s = vcC C pof_k1' K s := nr rfl
def pof_k2' : AC := .seq (.reg (.draw [⟨some (98, false), none, .mov (.tmp 9 true) .peek⟩,⟨some (99, false), none, .mov (.tmp 9 true) .peek⟩,⟨some (100, false), none, .chk (.tmp 99 false)⟩,⟨some (101, false), none, .fad (.tmp 100 false) 3⟩,⟨some (102, false), none, .load (.tmp 101 false) 1 false false⟩,⟨some (103, false), none, .fad (.tmp 12 true) 0⟩,⟨some (104, false), none, .load (.tmp 103 false) 1 false false⟩,⟨some (105, false), none, .mov (.tmp 13 true) .peek⟩,⟨some (106, false), none, .bin .sub (.tmp 104 false) (.tmp 105 false)⟩,⟨some (107, false), none, .fad (.tmp 12 true) 2⟩,⟨some (108, false), none, .load (.tmp 107 false) 1 false false⟩,⟨some (109, false), none, .mov (.tmp 13 true) .peek⟩,⟨some (110, false), none, .bin .sub (.tmp 108 false) (.tmp 109 false)⟩] (.alt ⟨some (111, false), none, .build [(.lit (.int .i64 0)), (.lit (.int .i64 0)), (.sl .own 2 [])] [(0, 1, (.tmp 106 false)), (1, 1, (.tmp 110 false))]⟩ [⟨some (98, false), none, .mov (.tmp 9 true) .peek⟩,⟨some (99, false), none, .mov (.tmp 9 true) .peek⟩,⟨some (100, false), none, .chk (.tmp 99 false)⟩,⟨some (101, false), none, .fad (.tmp 100 false) 3⟩,⟨some (102, false), none, .load (.tmp 101 false) 1 false false⟩]
      (.alt ⟨some (112, false), none, .buildS 3 1 [(.lit (.int .i64 0)), (.lit (.int .i64 0)), (.sl .own 2 [])] [(0, 3, (.tmp 111 false))]⟩ [⟨some (98, false), none, .mov (.tmp 9 true) .peek⟩,⟨some (99, false), none, .mov (.tmp 9 true) .peek⟩,⟨some (100, false), none, .chk (.tmp 99 false)⟩,⟨some (101, false), none, .fad (.tmp 100 false) 3⟩,⟨some (102, false), none, .load (.tmp 101 false) 1 false false⟩]
      (.alt ⟨some (113, false), none, .app 3 40 (.tmp 102 false) (.tmp 112 false)⟩ [⟨some (98, false), none, .mov (.tmp 9 true) .peek⟩]
      (.alt ⟨some (114, false), none, .chk (.tmp 98 false)⟩ []
      (.alt ⟨some (115, false), none, .fad (.tmp 114 false) 3⟩ []
      (.alt ⟨none, none, .store (.tmp 115 false) (.tmp 113 false) 1⟩ []
      .done .no) .no) .no) .no) .no) .no))) [0, 1, 2, 9, 12, 13, 36, 37, 38] [12, 35] pof_k1
def pof_k2 : AC := pof_k2'
theorem pof_k2_w (C : Kn) (K : Ex → St → Prop) (s : St) : vcC C pof_k2 K s = vcC C pof_k2' K s := nr rfl
def pof_k3' : AC := .seq (.seq (.reg (.seq [⟨some (89, false), none, .mov (.tmp 11 true) .peek⟩,⟨some (90, false), none, .bin .eql (.tmp 89 false) (.cst (.int .i64 0) (.lit (.int .i64 0)))⟩])) [0, 1, 2, 9, 12, 13, 36, 37, 38, 90] [12, 35]
      (.cond (.tmp 90 false)
        (.reg (.draw [⟨some (91, false), none, .mov (.tmp 9 true) .peek⟩,⟨some (92, false), none, .chk (.tmp 91 false)⟩,⟨some (93, false), none, .fad (.tmp 92 false) 2⟩,⟨some (94, false), none, .load (.tmp 93 false) 1 false false⟩,⟨some (95, false), none, .fad (.tmp 12 true) 0⟩,⟨some (96, false), none, .load (.tmp 95 false) 1 false false⟩,⟨some (97, false), none, .mx false (.tmp 94 false) (.tmp 96 false)⟩] (.alt ⟨some (13, true), none, .mov (.tmp 97 false) .asg⟩ []
      .done .no)))
        (.skip))) [0, 1, 2, 9, 12, 13, 36, 37, 38] [12, 35] pof_k2
def pof_k3 : AC := pof_k3'
theorem pof_k3_w (C : Kn) (K : Ex → St → Prop) (s : St) : vcC C pof_k3 K s = vcC C pof_k3' K s := nr rfl
def pof_k4' : AC := .seq (.reg (.draw [⟨some (80, false), none, .mov (.tmp 9 true) .peek⟩,⟨some (81, false), none, .chk (.tmp 80 false)⟩,⟨some (82, false), none, .fad (.tmp 81 false) 2⟩,⟨some (83, false), none, .load (.tmp 82 false) 1 false false⟩,⟨some (84, false), none, .fad (.tmp 12 true) 0⟩,⟨some (85, false), none, .load (.tmp 84 false) 1 false false⟩,⟨some (86, false), none, .mov (.tmp 10 true) .peek⟩,⟨some (87, false), none, .bin .sub (.tmp 85 false) (.tmp 86 false)⟩,⟨some (88, false), none, .mx false (.tmp 83 false) (.tmp 87 false)⟩] (.alt ⟨some (13, true), none, .mov (.tmp 88 false) .asg⟩ []
      .done .no))) [0, 1, 2, 9, 11, 12, 13, 36, 37, 38] [12, 35] pof_k3
def pof_k4 : AC := pof_k4'
theorem pof_k4_w (C : Kn) (K : Ex → St → Prop) (s : St) : vcC C pof_k4 K s = vcC C pof_k4' K s := nr rfl
def pof_k5' : AC := .cond (.tmp 56 false)
      (.reg (.seq [⟨some (57, false), none, .mov (.tmp 9 true) .peek⟩,⟨some (58, false), none, .mov (.tmp 0 true) .peek⟩,⟨some (59, false), none, .mov (.tmp 10 true) .peek⟩,⟨some (60, false), none, .fad (.tmp 12 true) 0⟩,⟨some (61, false), none, .load (.tmp 60 false) 1 false false⟩,⟨some (62, false), none, .slc 1 (.tmp 58 false) (some (.tmp 59 false)) (some (.tmp 61 false))⟩,⟨some (63, false), none, .callG 42 [((.tmp 57 false), .ptr), ((.cst (.int .i64 1) (.lit (.int .i64 1))), .pass), ((.tmp 62 false), .pass)]⟩]))
      (.seq (.seq (.reg (.seq [⟨some (64, false), none, .mov (.tmp 11 true) .peek⟩,⟨some (65, false), none, .bin .gtr (.tmp 64 false) (.cst (.int .i64 0) (.lit (.int .i64 0)))⟩])) [0, 1, 2, 9, 10, 11, 12, 36, 37, 38, 65] [12, 35]
      (.cond (.tmp 65 false)
        (.reg (.seq [⟨some (66, false), none, .mov (.tmp 9 true) .peek⟩,⟨some (67, false), none, .mov (.tmp 0 true) .peek⟩,⟨some (68, false), none, .mov (.tmp 10 true) .peek⟩,⟨some (69, false), none, .mov (.tmp 10 true) .peek⟩,⟨some (70, false), none, .mov (.tmp 9 true) .peek⟩,⟨some (71, false), none, .chk (.tmp 70 false)⟩,⟨some (72, false), none, .fad (.tmp 71 false) 2⟩,⟨some (73, false), none, .load (.tmp 72 false) 1 false false⟩,⟨some (74, false), none, .bin .add (.tmp 69 false) (.tmp 73 false)⟩,⟨some (75, false), none, .mov (.tmp 0 true) .peek⟩,⟨some (76, false), none, .lenL (.tmp 75 false)⟩,⟨some (77, false), none, .mx false (.tmp 74 false) (.tmp 76 false)⟩,⟨some (78, false), none, .slc 1 (.tmp 67 false) (some (.tmp 68 false)) (some (.tmp 77 false))⟩,⟨some (79, false), none, .callG 42 [((.tmp 66 false), .ptr), ((.cst (.int .i64 1) (.lit (.int .i64 1))), .pass), ((.tmp 78 false), .pass)]⟩]))
        (.skip))) [0, 1, 2, 9, 10, 11, 12, 36, 37, 38] [12, 35] pof_k4)
def pof_k5 : AC := pof_k5'
theorem pof_k5_w (C : Kn) (K : Ex → St → Prop) (s : St) : vcC C pof_k5 K s = vcC C pof_k5' K s := nr rfl
def pof_k6' : AC := .seq (.reg (.seq [⟨some (126, false), none, .mov (.tmp 9 true) .peek⟩,⟨some (127, false), none, .mov (.tmp 0 true) .peek⟩,⟨some (128, false), none, .fad (.tmp 12 true) 0⟩,⟨some (129, false), none, .load (.tmp 128 false) 1 false false⟩,⟨some (130, false), none, .fad (.tmp 12 true) 0⟩,⟨some (131, false), none, .load (.tmp 130 false) 1 false false⟩,⟨some (132, false), none, .fad (.tmp 12 true) 1⟩,⟨some (133, false), none, .load (.tmp 132 false) 1 false false⟩,⟨some (134, false), none, .bin .add (.tmp 131 false) (.tmp 133 false)⟩,⟨some (135, false), none, .slc 1 (.tmp 127 false) (some (.tmp 129 false)) (some (.tmp 134 false))⟩,⟨some (136, false), none, .callG 42 [((.tmp 126 false), .ptr), ((.cst (.int .i64 2) (.lit (.int .i64 2))), .pass), ((.tmp 135 false), .pass)]⟩])) [0, 1, 2, 9, 12, 36, 37, 38] [12, 35]
    (.seq (.reg (.seq [⟨some (137, false), none, .mov (.tmp 9 true) .peek⟩,⟨some (138, false), none, .mov (.tmp 1 true) .peek⟩,⟨some (139, false), none, .fad (.tmp 12 true) 2⟩,⟨some (140, false), none, .load (.tmp 139 false) 1 false false⟩,⟨some (141, false), none, .fad (.tmp 12 true) 2⟩,⟨some (142, false), none, .load (.tmp 141 false) 1 false false⟩,⟨some (143, false), none, .fad (.tmp 12 true) 3⟩,⟨some (144, false), none, .load (.tmp 143 false) 1 false false⟩,⟨some (145, false), none, .bin .add (.tmp 142 false) (.tmp 144 false)⟩,⟨some (146, false), none, .slc 1 (.tmp 138 false) (some (.tmp 140 false)) (some (.tmp 145 false))⟩,⟨some (147, false), none, .callG 42 [((.tmp 137 false), .ptr), ((.cst (.int .i64 3) (.lit (.int .i64 3))), .pass), ((.tmp 146 false), .pass)]⟩])) [0, 1, 2, 9, 12, 36, 37, 38] [12, 35]
    (.reg (.seq [⟨some (148, false), none, .fad (.tmp 12 true) 0⟩,⟨some (149, false), none, .load (.tmp 148 false) 1 false false⟩,⟨some (150, false), none, .fad (.tmp 12 true) 1⟩,⟨some (151, false), none, .load (.tmp 150 false) 1 false false⟩,⟨some (152, false), none, .bin .add (.tmp 149 false) (.tmp 151 false)⟩,⟨some (10, true), none, .mov (.tmp 152 false) .asg⟩])))
def pof_k6 : AC := pof_k6'
theorem pof_k6_w (C : Kn) (K : Ex → St → Prop) (s : St) : vcC C pof_k6 K s = vcC C pof_k6' K s := nr rfl
def pof_k7' : AC := .reg (.seq [⟨some (153, false), none, .bin .add (.tmp 38 true) (.cst (.int .i64 1) (.lit (.int .i64 1)))⟩,⟨some (38, true), none, .mov (.tmp 153 false) .peek⟩])
def pof_k7 : AC := pof_k7'
theorem pof_k7_w (C : Kn) (K : Ex → St → Prop) (s : St) : vcC C pof_k7 K s = vcC C pof_k7' K s := nr rfl
def pof_k8' : AC := .seq (.block 1 (.seq (.reg (.seq [⟨some (40, false), none, .mov (.tmp 38 true) .take⟩,⟨some (41, false), none, .iad (.tmp 36 true) (.tmp 38 true) 4⟩,⟨some (42, false), none, .load (.tmp 41 false) 4 true false⟩,⟨some (12, true), none, .new [(.lit (.int .i64 0)), (.lit (.int .i64 0)), (.lit (.int .i64 0)), (.lit (.int .i64 0))]⟩,⟨some (11, true), none, .mov (.tmp 40 false) .asg⟩,⟨none, none, .store (.tmp 12 true) (.tmp 42 false) 4⟩])) [0, 1, 2, 9, 10, 11, 12, 36, 37, 38] [12, 35]
    (.seq (.seq (.reg (.draw [⟨some (43, false), none, .mov (.tmp 11 true) .peek⟩,⟨some (44, false), none, .bin .gtr (.tmp 43 false) (.cst (.int .i64 0) (.lit (.int .i64 0)))⟩,⟨some (45, false), none, .mov (.tmp 44 false) .peek⟩,⟨some (46, false), (some (45, true)), .fad (.tmp 12 true) 0⟩,⟨some (47, false), (some (45, true)), .load (.tmp 46 false) 1 false false⟩,⟨some (48, false), (some (45, true)), .mov (.tmp 10 true) .peek⟩,⟨some (49, false), (some (45, true)), .bin .sub (.tmp 47 false) (.tmp 48 false)⟩,⟨some (50, false), (some (45, true)), .mov (.tmp 9 true) .peek⟩,⟨some (51, false), (some (45, true)), .chk (.tmp 50 false)⟩,⟨some (52, false), (some (45, true)), .fad (.tmp 51 false) 2⟩,⟨some (53, false), (some (45, true)), .load (.tmp 52 false) 1 false false⟩,⟨some (54, false), (some (45, true)), .bin .mul (.cst (.int .i64 2) (.lit (.int .i64 2))) (.tmp 53 false)⟩,⟨some (55, false), (some (45, true)), .bin .leq (.tmp 49 false) (.tmp 54 false)⟩,⟨some (56, false), none, .pick (.tmp 45 false) (.tmp 55 false) (.cst (.bool false) (.lit (.bool false)))⟩] .done)) [0, 1, 2, 9, 10, 11, 12, 36, 37, 38, 56] [12, 35] pof_k5) [0, 1, 2, 9, 12, 36, 37, 38] [12, 35] pof_k6))) [0, 1, 2, 9, 10, 36, 37, 38] [35] pof_k7
def pof_k8 : AC := pof_k8'
theorem pof_k8_w (C : Kn) (K : Ex → St → Prop) (s : St) : vcC C pof_k8 K s = vcC C pof_k8' K s := nr rfl
def pof_l9' : AC := .seq (.reg (.seq [⟨some (39, false), none, .bin .lss (.tmp 38 true) (.tmp 37 true)⟩])) [0, 1, 2, 9, 10, 36, 37, 38, 39] [35]
  (.seq (.cond (.tmp 39 false)
    (.skip)
    (.exit 0)) [0, 1, 2, 9, 10, 36, 37, 38] [35] pof_k8)
def pof_l9 : AC := pof_l9'
theorem pof_l9_w (C : Kn) (K : Ex → St → Prop) (s : St) : vcC C pof_l9 K s = vcC C pof_l9' K s := nr rfl
def pof_k10' : AC := .seq (.reg (.seq [⟨some (171, false), none, .mov (.tmp 9 true) .peek⟩,⟨some (172, false), none, .chk (.tmp 171 false)⟩,⟨some (173, false), none, .fad (.tmp 172 false) 3⟩,⟨some (174, false), none, .load (.tmp 173 false) 1 false true⟩,⟨some (8, true), none, .mov (.tmp 174 false) .asg⟩])) [8] []
  (.ret)
def pof_k10 : AC := pof_k10'
theorem pof_k10_w (C : Kn) (K : Ex → St → Prop) (s : St) : vcC C pof_k10 K s = vcC C pof_k10' K s := nr rfl
def pof_k11' : AC := .seq (.seq (.reg (.seq [⟨some (154, false), none, .mov (.tmp 2 true) .peek⟩,⟨some (155, false), none, .lenL (.tmp 154 false)⟩,⟨some (156, false), none, .bin .gtr (.tmp 155 false) (.cst (.int .i64 0) (.lit (.int .i64 0)))⟩])) [0, 9, 10, 156] [35]
  (.cond (.tmp 156 false)
    (.reg (.seq [⟨some (157, false), none, .mov (.tmp 9 true) .peek⟩,⟨some (158, false), none, .mov (.tmp 0 true) .peek⟩,⟨some (159, false), none, .mov (.tmp 10 true) .peek⟩,⟨some (160, false), none, .mov (.tmp 10 true) .peek⟩,⟨some (161, false), none, .mov (.tmp 9 true) .peek⟩,⟨some (162, false), none, .chk (.tmp 161 false)⟩,⟨some (163, false), none, .fad (.tmp 162 false) 2⟩,⟨some (164, false), none, .load (.tmp 163 false) 1 false false⟩,⟨some (165, false), none, .bin .add (.tmp 160 false) (.tmp 164 false)⟩,⟨some (166, false), none, .mov (.tmp 0 true) .peek⟩,⟨some (167, false), none, .lenL (.tmp 166 false)⟩,⟨some (168, false), none, .mx false (.tmp 165 false) (.tmp 167 false)⟩,⟨some (169, false), none, .slc 1 (.tmp 158 false) (some (.tmp 159 false)) (some (.tmp 168 false))⟩,⟨some (170, false), none, .callG 42 [((.tmp 157 false), .ptr), ((.cst (.int .i64 1) (.lit (.int .i64 1))), .pass), ((.tmp 169 false), .pass)]⟩]))
    (.skip))) [9] [35] pof_k10
def pof_k11 : AC := pof_k11'
theorem pof_k11_w (C : Kn) (K : Ex → St → Prop) (s : St) : vcC C pof_k11 K s = vcC C pof_k11' K s := nr rfl
def pof_k12' : AC := .seq (.reg (.seq [⟨some (29, false), none, .mov (.tmp 0 true) .take⟩,⟨some (30, false), none, .mov (.tmp 1 true) .take⟩,⟨some (31, false), none, .mov (.tmp 3 true) .peek⟩,⟨some (32, false), none, .mx true (.tmp 31 false) (.cst (.int .i64 0) (.lit (.int .i64 0)))⟩,⟨some (33, false), none, .mx false (.tmp 32 false) (.cst (.int .i64 64) (.lit (.int .i64 64)))⟩,⟨some (34, false), none, .build [(.sl .own 1 []), (.sl .own 1 []), (.lit (.int .i64 0)), (.sl .own 3 [])] [(0, 1, (.tmp 29 false)), (1, 1, (.tmp 30 false)), (2, 1, (.tmp 33 false))]⟩,⟨some (35, false), none, .box (.tmp 34 false)⟩,⟨some (9, true), none, .mov (.tmp 35 false) .asg⟩])) [0, 1, 2, 9] [35]
  (.seq (.reg (.seq [⟨some (10, true), none, .mov (.cst (.int .i64 0) (.lit (.int .i64 0))) .asg⟩])) [0, 1, 2, 9, 10] [35]
  (.seq (.seq (.reg (.seq [⟨some (36, true), none, .mov (.tmp 2 true) .peek⟩,⟨some (37, true), none, .lenL (.tmp 36 true)⟩,⟨some (38, true), none, .mov (.cst (.int .i64 0) (.lit (.int .i64 0))) .peek⟩])) [0, 1, 2, 9, 10, 36, 37, 38] [35]
  (.block 0 (.loop [0, 1, 2, 9, 10, 36, 37, 38] [35] pof_l9))) [0, 2, 9, 10] [35] pof_k11))
def pof_k12 : AC := pof_k12'
theorem pof_k12_w (C : Kn) (K : Ex → St → Prop) (s : St) : vcC C pof_k12 K s = vcC C pof_k12' K s := nr rfl
def pof : AF := ⟨.seq (.reg (.seq [⟨some (8, true), none, .mov (.cst (.slice none 0 0) (.sl .own 3 [])) .asg⟩])) [0, 1, 2, 3] []
  (.seq (.seq (.reg (.seq [⟨some (14, false), none, .mov (.tmp 0 true) .peek⟩,⟨some (15, false), none, .lenL (.tmp 14 false)⟩,⟨some (16, false), none, .bin .gtr (.tmp 15 false) (.cst (.int .i64 4096) (.lit (.int .i64 4096)))⟩,⟨some (17, false), none, .mov (.tmp 16 false) .peek⟩,⟨some (18, false), (some (17, false)), .mov (.tmp 1 true) .peek⟩,⟨some (19, false), (some (17, false)), .lenL (.tmp 18 false)⟩,⟨some (20, false), (some (17, false)), .bin .gtr (.tmp 19 false) (.cst (.int .i64 4096) (.lit (.int .i64 4096)))⟩,⟨some (21, false), none, .pick (.tmp 17 false) (.cst (.bool true) (.lit (.bool true))) (.tmp 20 false)⟩,⟨some (22, false), none, .mov (.tmp 21 false) .peek⟩,⟨some (23, false), (some (22, false)), .mov (.tmp 0 true) .peek⟩,⟨some (24, false), (some (22, false)), .mov (.tmp 1 true) .peek⟩,⟨some (25, false), (some (22, false)), .mov (.tmp 2 true) .peek⟩,⟨some (26, false), (some (22, false)), .call 41 [.tmp 23 false, .tmp 24 false, .tmp 25 false]⟩,⟨some (27, false), (some (22, false)), .un .not (.tmp 26 false)⟩,⟨some (28, false), none, .pick (.tmp 22 false) (.cst (.bool true) (.lit (.bool true))) (.tmp 27 false)⟩])) [0, 1, 2, 3, 28] [] pof_k0) [0, 1, 2, 3] [] pof_k12),
  [.tmp 8]⟩
theorem pof_comp (m : Int × Bool) : compF Tryd.prog (gl m) [] Tryd.f18 = some pof := by kernel_rfl
def ofX : Option OfT → List Hk
  | none => []
  | some q => q.1 ++ [q.2.1]
def ofE : Option OfT → Int
  | none => 0
  | some q => q.2.2
theorem sl_le (a : List Bs) (i j : Int) : (sl a i j).length ≤ a.length := by rw [sl, List.length_take, List.length_drop]; omega
theorem edLines_le (a b : List Bs) (at_ : Int) (e : Ed) : (edLines a b at_ e).length ≤ 2 * a.length + b.length := by
  have h1 := sl_le a at_ e.1
  have h2 := sl_le a e.1 (e.1 + e.2.1)
  have h3 := sl_le b e.2.2.1 (e.2.2.1 + e.2.2.2)
  rw [edLines, List.length_append, List.length_append, kL_len, kL_len, kL_len]
  omega
theorem ofI_len (a b : List Bs) (n : Int) (ha : a.length ≤ 4096) (hb : b.length ≤ 4096) (l : List Ed) : ∀ i, i < l.length → ∃ q, ofI a b n (l.take (i + 1)) = some q ∧ q.1.length ≤ i ∧ q.2.1.2.2.length ≤ (i + 1) * 12288 ∧ q.2.2 = (l[i]!).1 + (l[i]!).2.1 := by
  intro i
  induction i with
  | zero =>
    intro h
    have ht : l.take 1 = [l[0]] := by rw [List.take_add_one, List.getElem?_eq_getElem (by omega)]; rfl
    refine ⟨_, by rw [ht]; rfl, by simp, ?_⟩
    have := edLines_le a b (l[0].1 - min n l[0].1) l[0]
    simp only [List.foldl_nil, startP]; exact ⟨by omega, by rw [getElem!_pos l 0 h]⟩
  | succ i ih =>
    intro h
    obtain ⟨q, hq, h1, h2, _⟩ := ih (by omega)
    have ht : l.take (i + 1 + 1) = l.take (i + 1) ++ [l[i + 1]] := by rw [List.take_add_one, List.getElem?_eq_getElem (by omega)]; rfl
    have hs := ofI_snoc a b n l[i + 1] hq
    rw [← ht] at hs
    refine ⟨_, hs, ?_⟩
    have e1 := edLines_le a b q.2.2 l[i + 1]
    have e2 := edLines_le a b (l[i + 1].1 - min n l[i + 1].1) l[i + 1]
    rw [ofStep, getElem!_pos l (i + 1) h]
    split
    · dsimp only [extP]; rw [List.length_append]; exact ⟨by omega, by omega, rfl⟩
    · dsimp only [startP]; rw [List.length_append]; exact ⟨by simp; omega, by omega, rfl⟩
theorem hS_snocE (l : List Hk) (a b : Int) : hS .own l ++ [.agg [I a, I b, .sl .own 2 []]] = hS .own (l ++ [(a, b, [])]) := hS_snoc .own l (a, b, [])
set_option maxRecDepth 8000 in
theorem pof_snd (a b : List Bs) (l : List Ed) (n : Int) (ha : a.length ≤ 1048576) (hb : b.length ≤ 1048576) (hl : l.length ≤ 1048576) : Snd Tryd.prog (gl m) 18 [.sl .frn 1 (ss a), .sl .frn 1 (ss b), .sl .frn 4 (fs fE l), I n] (.sl .own 3 (hS .own (ofF a b l n))) := by
  refine snd_of (fn := Tryd.f18) (af := pof) Tryd.func18 (pof_comp m) mixed (kn_ok m) (Nat.le_of_ble_eq_true rfl) ?_
  simp only [pof, go_sem, reduceCtorEq, Nat.reduceEqDiff, reduceIte, Nat.reduceAdd, Nat.reduceSub, Nat.reduceLeDiff, Int.reduceToNat, Nat.reduceBEq]
  by_cases h1 : ¬ a.length ≤ 4096
  · rw [ofF, if_neg (fun h => h1 h.1)]
    simp only [igt_t (show (4096 : Int) < ((a.length : Nat) : Int) by omega), pof_k0_w, pof_k0', go_sem, reduceCtorEq, Nat.reduceEqDiff, reduceIte, Nat.reduceAdd, Nat.reduceSub, Nat.reduceLeDiff, Int.reduceToNat, Nat.reduceBEq]
    repeat ((with_reducible apply And.intro); (case left => first | omega | (simp only [List.length_append, List.length_cons, List.length_nil, List.length_drop, List.length_take, List.length_tail, List.length_dropLast, fs_length, ss_length, bs_length, ns_length]; omega)))
    first | rfl | omega | trace_state
  have h1 := Classical.not_not.1 h1
  by_cases h2 : ¬ b.length ≤ 4096
  · rw [ofF, if_neg (fun h => h2 h.2.1)]
    simp only [igt_f (show ¬ (4096 : Int) < ((a.length : Nat) : Int) by omega), igt_t (show (4096 : Int) < ((b.length : Nat) : Int) by omega), pof_k0_w, pof_k0', go_sem, reduceCtorEq, Nat.reduceEqDiff, reduceIte, Nat.reduceAdd, Nat.reduceSub, Nat.reduceLeDiff, Int.reduceToNat, Nat.reduceBEq]
    repeat ((with_reducible apply And.intro); (case left => first | omega | (simp only [List.length_append, List.length_cons, List.length_nil, List.length_drop, List.length_take, List.length_tail, List.length_dropLast, fs_length, ss_length, bs_length, ns_length]; omega)))
    first | rfl | omega | trace_state
  have h2 := Classical.not_not.1 h2
  simp only [igt_f (show ¬ (4096 : Int) < ((a.length : Nat) : Int) by omega), igt_f (show ¬ (4096 : Int) < ((b.length : Nat) : Int) by omega), go_sem, reduceCtorEq, Nat.reduceEqDiff, reduceIte, Nat.reduceAdd, Nat.reduceSub, Nat.reduceLeDiff, Int.reduceToNat, Nat.reduceBEq]
  repeat ((with_reducible apply And.intro); (case left => first | omega | (simp only [List.length_append, List.length_cons, List.length_nil, List.length_drop, List.length_take, List.length_tail, List.length_dropLast, fs_length, ss_length, bs_length, ns_length]; omega)))
  refine of_call (pdvalid_snd a b l ha hb hl) ?_
  simp only [go_sem, reduceCtorEq, Nat.reduceEqDiff, reduceIte, Nat.reduceAdd, Nat.reduceSub, Nat.reduceLeDiff, Int.reduceToNat, Nat.reduceBEq]
  repeat ((with_reducible apply And.intro); (case left => first | omega | (simp only [List.length_append, List.length_cons, List.length_nil, List.length_drop, List.length_take, List.length_tail, List.length_dropLast, fs_length, ss_length, bs_length, ns_length]; omega)))
  by_cases h3 : right a b l = true
  rotate_left
  · rw [ofF, if_neg (fun h => h3 h.2.2), Bool.eq_false_iff.2 h3]
    simp only [Bool.not_false, pof_k0_w, pof_k0', go_sem, reduceCtorEq, Nat.reduceEqDiff, reduceIte, Nat.reduceAdd, Nat.reduceSub, Nat.reduceLeDiff, Int.reduceToNat, Nat.reduceBEq]
    first | rfl | omega | trace_state
  rw [ofF, if_pos ⟨h1, h2, h3⟩, h3]
  simp only [Bool.not_true, pof_k0_w, pof_k0', pof_k12_w, pof_k12', go_sem, reduceCtorEq, Nat.reduceEqDiff, reduceIte, Nat.reduceAdd, Nat.reduceSub, Nat.reduceLeDiff, Int.reduceToNat, Nat.reduceBEq]
  have hN : min (max n 0) 64 = clampN n := by rw [clampN, Int.min_comm, Int.max_comm]
  have hN0 : 0 ≤ clampN n ∧ clampN n ≤ 64 := by rw [clampN]; omega
  rw [hN]
  generalize clampN n = n at hN0
  refine loop_wf (fun x : Nat × Nat => l.length - x.1) (fun x => mkS [(0, .sl .frn 1 (ss a)), (1, .sl .frn 1 (ss b)), (2, .sl .frn 4 (fs fE l)), (9, .ptr ⟨.box 35 0, []⟩), (10, I (ofE (ofI a b n (l.take x.1)))), (36, .sl .frn 4 (fs fE l)), (37, N l.length), (38, N x.1)] [(35, some [wA x.2 a, wA x.2 b, I n, .sl .own 3 (hS .own (ofX (ofI a b n (l.take x.1))))])])
    (fun x => x.1 ≤ l.length) (0, 0) rfl (by omega) ?_
  rintro ⟨i, j⟩ hi ih
  dsimp only at hi ih
  simp only [pof_l9_w, pof_l9', go_sem, reduceCtorEq, Nat.reduceEqDiff, reduceIte, Nat.reduceAdd, Nat.reduceSub, Nat.reduceLeDiff, Int.reduceToNat, Nat.reduceBEq]
  repeat ((with_reducible apply And.intro); (case left => first | omega | (simp only [List.length_append, List.length_cons, List.length_nil, List.length_drop, List.length_take, List.length_tail, List.length_dropLast, fs_length, ss_length, bs_length, ns_length]; omega)))
  by_cases h : i < l.length
  · have g := fs_getE h
    have qi : IntKind.i64.wrap ((i : Int) + 1) = ((i + 1 : Nat) : Int) := wrapN _ (by omega) (by omega)
    obtain ⟨q, hq, hG, hlt, hq'⟩ := good_of h3 h
    have ht : l.take (i + 1) = l.take i ++ [l[i]] := by rw [List.take_add_one, List.getElem?_eq_getElem h]; rfl
    have g1 := hG.q0; have g2 := hG.q0'; have g3 := hG.f; have g4 := hG.t; have g5 := hG.d; have g6 := hG.i; have g7 := hG.fd; have g8 := hG.ti; have g9 := hG.gap
    by_cases h0 : i = 0
    · subst h0
      have ih := fun j => ih (0 + 1, j) (by dsimp only; omega) (by dsimp only; omega)
      dsimp only at ih
      rw [ht] at ih
      simp only [List.take_zero, List.nil_append] at ih ⊢
      generalize l[0] = x at g g1 g2 g3 g4 g5 g6 g7 g8 g9 ih
      obtain ⟨F, D, T, J⟩ := x
      dsimp only at g3 g4 g5 g6 g7 g8 g9
      have z0 : decide (((0 : Nat) : Int) > 0) = false := rfl
      have z1 : (((0 : Nat) : Int) == 0) = true := rfl
      have e0 : ofE (ofI a b n []) = 0 := rfl
      have e1 : ofX (ofI a b n []) = [] := rfl
      have e2 : hS .own [] = [] := rfl
      have w0 : IntKind.i64.wrap (F - 0) = F := by rw [Int.sub_zero]; exact wrap_in (by omega) (by omega)
      have w1 : IntKind.i64.wrap (F - min n F) = F - min n F := wrap_in (by omega) (by omega)
      have w2 : IntKind.i64.wrap (T - min n F) = T - min n F := wrap_in (by omega) (by omega)
      have w3 : IntKind.i64.wrap (F + D) = F + D := wrap_in (by omega) (by omega)
      have w4 : IntKind.i64.wrap (T + J) = T + J := wrap_in (by omega) (by omega)
      simp only [lt_t h, g, e0, e1, e2, Int.toNat_natCast, pof_k8_w, pof_k8', go_sem, reduceCtorEq, Nat.reduceEqDiff, reduceIte, Nat.reduceAdd, Nat.reduceSub, Nat.reduceLeDiff, Int.reduceToNat, Nat.reduceBEq]
      repeat ((with_reducible apply And.intro); (case left => first | omega | (simp only [List.length_append, List.length_cons, List.length_nil, List.length_drop, List.length_take, List.length_tail, List.length_dropLast, fs_length, ss_length, bs_length, ns_length]; omega)))
      simp only [z0, z1, w0, w1, w2, w3, w4, pof_k5_w, pof_k5', pof_k4_w, pof_k4', pof_k3_w, pof_k3', pof_k2_w, pof_k2', pof_k1_w, pof_k1', sl_drop, go_sem, reduceCtorEq, Nat.reduceEqDiff, reduceIte, Nat.reduceAdd, Nat.reduceSub, Nat.reduceLeDiff, Int.reduceToNat, Nat.reduceBEq]
      repeat ((with_reducible apply And.intro); (case left => first | omega | (simp only [List.length_append, List.length_cons, List.length_nil, List.length_drop, List.length_take, List.length_tail, List.length_dropLast, fs_length, ss_length, bs_length, ns_length]; omega)))
      have c1 := sl_le a (F - min n F) F
      have c2 := sl_le a F (F + D)
      have c3 := sl_le b T (T + J)
      refine of_core (pput_snd a b _ n 1 [] (F - min n F, T - min n F, []) (sl a (F - min n F) F) (by omega) (by simp) (by simp)) rfl ?_
      simp only [w3, sl_drop, pof_k6_w, pof_k6', go_sem, reduceCtorEq, Nat.reduceEqDiff, reduceIte, Nat.reduceAdd, Nat.reduceSub, Nat.reduceLeDiff, Int.reduceToNat, Nat.reduceBEq]
      repeat ((with_reducible apply And.intro); (case left => first | omega | (simp only [List.length_append, List.length_cons, List.length_nil, List.length_drop, List.length_take, List.length_tail, List.length_dropLast, fs_length, ss_length, bs_length, ns_length]; omega)))
      refine of_core (pput_snd a b _ n 2 [] (F - min n F, T - min n F, kL 1 (sl a (F - min n F) F)) (sl a F (F + D)) (by omega) (by simp) (by rw [kL_len]; omega)) rfl ?_
      simp only [w4, sl_drop, go_sem, reduceCtorEq, Nat.reduceEqDiff, reduceIte, Nat.reduceAdd, Nat.reduceSub, Nat.reduceLeDiff, Int.reduceToNat, Nat.reduceBEq]
      repeat ((with_reducible apply And.intro); (case left => first | omega | (simp only [List.length_append, List.length_cons, List.length_nil, List.length_drop, List.length_take, List.length_tail, List.length_dropLast, fs_length, ss_length, bs_length, ns_length]; omega)))
      refine of_core (pput_snd a b _ n 3 [] (F - min n F, T - min n F, kL 1 (sl a (F - min n F) F) ++ kL 2 (sl a F (F + D))) (sl b T (T + J)) (by omega) (by simp) (by rw [List.length_append, kL_len, kL_len]; omega)) rfl ?_
      simp only [w3, qi, pof_k7_w, pof_k7', go_sem, reduceCtorEq, Nat.reduceEqDiff, reduceIte, Nat.reduceAdd, Nat.reduceSub, Nat.reduceLeDiff, Int.reduceToNat, Nat.reduceBEq]
      repeat ((with_reducible apply And.intro); (case left => first | omega | (simp only [List.length_append, List.length_cons, List.length_nil, List.length_drop, List.length_take, List.length_tail, List.length_dropLast, fs_length, ss_length, bs_length, ns_length]; omega)))
      exact ih _
    · obtain ⟨i, rfl⟩ : ∃ j, i = j + 1 := ⟨i - 1, by omega⟩
      obtain ⟨⟨out, cur, e⟩, ho, ho1, ho2, ho3⟩ := ofI_len a b n h1 h2 l i (by omega)
      have hlt := hlt (by omega)
      rw [getElem!_pos l i (by omega)] at ho3
      obtain ⟨_, _, _, _, hq2⟩ := good_of h3 (show i < l.length by omega)
      rw [hq2] at hq
      have he : e = q.1 := by rw [← Option.some.inj hq]; exact ho3
      have ih := fun j => ih (i + 1 + 1, j) (by dsimp only; omega) (by dsimp only; omega)
      dsimp only at ih
      rw [ht, ofI_snoc a b n l[i + 1] ho] at ih
      rw [ho]
      generalize l[i + 1] = x at g g1 g2 g3 g4 g5 g6 g7 g8 g9 ih hlt
      obtain ⟨F, D, T, J⟩ := x
      dsimp only at g3 g4 g5 g6 g7 g8 g9 ho1 ho2 hlt
      have e0 : ofE (some (out, cur, e)) = e := rfl
      have e1 : ofX (some (out, cur, e)) = out ++ [cur] := rfl
      have z0 : decide (((i + 1 : Nat) : Int) > 0) = true := decide_eq_true (by omega)
      have z1 : (((i + 1 : Nat) : Int) == 0) = false := eq_f (by omega)
      have w0 : IntKind.i64.wrap (F - e) = F - e := wrap_in (by omega) (by omega)
      have w3 : IntKind.i64.wrap (F + D) = F + D := wrap_in (by omega) (by omega)
      have w4 : IntKind.i64.wrap (T + J) = T + J := wrap_in (by omega) (by omega)
      have w5 : IntKind.i64.wrap (2 * n) = 2 * n := wrap_in (by omega) (by omega)
      have w6 : IntKind.i64.wrap (e + n) = e + n := wrap_in (by omega) (by omega)
      have w1 : IntKind.i64.wrap (F - min n F) = F - min n F := wrap_in (by omega) (by omega)
      have w2 : IntKind.i64.wrap (T - min n F) = T - min n F := wrap_in (by omega) (by omega)
      have c1 := sl_le a e F
      have c2 := sl_le a F (F + D)
      have c3 := sl_le b T (T + J)
      have c4 := sl_le a e (min (e + n) a.length)
      have c5 := sl_le a (F - min n F) F
      simp only [lt_t h, g, e0, e1, Int.toNat_natCast, pof_k8_w, pof_k8', go_sem, reduceCtorEq, Nat.reduceEqDiff, reduceIte, Nat.reduceAdd, Nat.reduceSub, Nat.reduceLeDiff, Int.reduceToNat, Nat.reduceBEq]
      repeat ((with_reducible apply And.intro); (case left => first | omega | (simp only [List.length_append, List.length_cons, List.length_nil, List.length_drop, List.length_take, List.length_tail, List.length_dropLast, fs_length, ss_length, bs_length, ns_length]; omega)))
      by_cases hc : F - e ≤ 2 * n
      · have hs : ofStep a b n (out, cur, e) (F, D, T, J) = (out, (cur.1, cur.2.1, cur.2.2 ++ kL 1 (sl a e F) ++ kL 2 (sl a F (F + D)) ++ kL 3 (sl b T (T + J))), F + D) := by
          rw [ofStep, if_pos hc]; simp only [extP, edLines, List.append_assoc]
        rw [hs] at ih
        simp only [z0, w0, w5, decide_eq_true hc, sl_drop, pof_k5_w, pof_k5', go_sem, reduceCtorEq, Nat.reduceEqDiff, reduceIte, Nat.reduceAdd, Nat.reduceSub, Nat.reduceLeDiff, Int.reduceToNat, Nat.reduceBEq]
        repeat ((with_reducible apply And.intro); (case left => first | omega | (simp only [List.length_append, List.length_cons, List.length_nil, List.length_drop, List.length_take, List.length_tail, List.length_dropLast, fs_length, ss_length, bs_length, ns_length]; omega)))
        refine of_core (pput_snd a b _ n 1 out cur (sl a e F) (by omega) (by omega) (by omega)) rfl ?_
        simp only [w3, sl_drop, pof_k6_w, pof_k6', go_sem, reduceCtorEq, Nat.reduceEqDiff, reduceIte, Nat.reduceAdd, Nat.reduceSub, Nat.reduceLeDiff, Int.reduceToNat, Nat.reduceBEq]
        repeat ((with_reducible apply And.intro); (case left => first | omega | (simp only [List.length_append, List.length_cons, List.length_nil, List.length_drop, List.length_take, List.length_tail, List.length_dropLast, fs_length, ss_length, bs_length, ns_length]; omega)))
        refine of_core (pput_snd a b _ n 2 out (cur.1, cur.2.1, cur.2.2 ++ kL 1 (sl a e F)) (sl a F (F + D)) (by omega) (by omega) (by rw [List.length_append, kL_len]; omega)) rfl ?_
        simp only [w4, sl_drop, go_sem, reduceCtorEq, Nat.reduceEqDiff, reduceIte, Nat.reduceAdd, Nat.reduceSub, Nat.reduceLeDiff, Int.reduceToNat, Nat.reduceBEq]
        repeat ((with_reducible apply And.intro); (case left => first | omega | (simp only [List.length_append, List.length_cons, List.length_nil, List.length_drop, List.length_take, List.length_tail, List.length_dropLast, fs_length, ss_length, bs_length, ns_length]; omega)))
        refine of_core (pput_snd a b _ n 3 out (cur.1, cur.2.1, cur.2.2 ++ kL 1 (sl a e F) ++ kL 2 (sl a F (F + D))) (sl b T (T + J)) (by omega) (by omega) (by rw [List.length_append, List.length_append, kL_len, kL_len]; omega)) rfl ?_
        simp only [w3, qi, pof_k7_w, pof_k7', go_sem, reduceCtorEq, Nat.reduceEqDiff, reduceIte, Nat.reduceAdd, Nat.reduceSub, Nat.reduceLeDiff, Int.reduceToNat, Nat.reduceBEq]
        repeat ((with_reducible apply And.intro); (case left => first | omega | (simp only [List.length_append, List.length_cons, List.length_nil, List.length_drop, List.length_take, List.length_tail, List.length_dropLast, fs_length, ss_length, bs_length, ns_length]; omega)))
        exact ih _
      · have hk : min n (F - e) = min n F := by omega
        have hs : ofStep a b n (out, cur, e) (F, D, T, J) = (out ++ [(cur.1, cur.2.1, cur.2.2 ++ kL 1 (sl a e (min (e + n) a.length)))], (F - min n F, T - min n F, kL 1 (sl a (F - min n F) F) ++ kL 2 (sl a F (F + D)) ++ kL 3 (sl b T (T + J))), F + D) := by
          rw [ofStep, if_neg hc]; rfl
        rw [hs] at ih
        simp only [z0, w0, w5, w6, decide_eq_false hc, sl_drop, pof_k5_w, pof_k5', go_sem, reduceCtorEq, Nat.reduceEqDiff, reduceIte, Nat.reduceAdd, Nat.reduceSub, Nat.reduceLeDiff, Int.reduceToNat, Nat.reduceBEq]
        repeat ((with_reducible apply And.intro); (case left => first | omega | (simp only [List.length_append, List.length_cons, List.length_nil, List.length_drop, List.length_take, List.length_tail, List.length_dropLast, fs_length, ss_length, bs_length, ns_length]; omega)))
        refine of_core (pput_snd a b _ n 1 out cur (sl a e (min (e + n) a.length)) (by omega) (by omega) (by omega)) rfl ?_
        generalize hcc : (cur.1, cur.2.1, cur.2.2 ++ kL 1 (sl a e (min (e + n) a.length))) = c at ih ⊢
        simp only [z1, w0, w1, w2, hk, hS_snocE, sl_drop, pof_k4_w, pof_k4', pof_k3_w, pof_k3', pof_k2_w, pof_k2', pof_k1_w, pof_k1', go_sem, reduceCtorEq, Nat.reduceEqDiff, reduceIte, Nat.reduceAdd, Nat.reduceSub, Nat.reduceLeDiff, Int.reduceToNat, Nat.reduceBEq]
        repeat ((with_reducible apply And.intro); (case left => first | omega | (simp only [List.length_append, List.length_cons, List.length_nil, List.length_drop, List.length_take, List.length_tail, List.length_dropLast, fs_length, ss_length, bs_length, ns_length]; omega)))
        refine of_core (pput_snd a b _ n 1 (out ++ [c]) (F - min n F, T - min n F, []) (sl a (F - min n F) F) (by omega) (by simp; omega) (by simp)) rfl ?_
        simp only [w3, sl_drop, pof_k6_w, pof_k6', go_sem, reduceCtorEq, Nat.reduceEqDiff, reduceIte, Nat.reduceAdd, Nat.reduceSub, Nat.reduceLeDiff, Int.reduceToNat, Nat.reduceBEq]
        repeat ((with_reducible apply And.intro); (case left => first | omega | (simp only [List.length_append, List.length_cons, List.length_nil, List.length_drop, List.length_take, List.length_tail, List.length_dropLast, fs_length, ss_length, bs_length, ns_length]; omega)))
        refine of_core (pput_snd a b _ n 2 (out ++ [c]) (F - min n F, T - min n F, kL 1 (sl a (F - min n F) F)) (sl a F (F + D)) (by omega) (by simp; omega) (by rw [kL_len]; omega)) rfl ?_
        simp only [w4, sl_drop, go_sem, reduceCtorEq, Nat.reduceEqDiff, reduceIte, Nat.reduceAdd, Nat.reduceSub, Nat.reduceLeDiff, Int.reduceToNat, Nat.reduceBEq]
        repeat ((with_reducible apply And.intro); (case left => first | omega | (simp only [List.length_append, List.length_cons, List.length_nil, List.length_drop, List.length_take, List.length_tail, List.length_dropLast, fs_length, ss_length, bs_length, ns_length]; omega)))
        refine of_core (pput_snd a b _ n 3 (out ++ [c]) (F - min n F, T - min n F, kL 1 (sl a (F - min n F) F) ++ kL 2 (sl a F (F + D))) (sl b T (T + J)) (by omega) (by simp; omega) (by rw [List.length_append, kL_len, kL_len]; omega)) rfl ?_
        simp only [w3, qi, pof_k7_w, pof_k7', go_sem, reduceCtorEq, Nat.reduceEqDiff, reduceIte, Nat.reduceAdd, Nat.reduceSub, Nat.reduceLeDiff, Int.reduceToNat, Nat.reduceBEq]
        repeat ((with_reducible apply And.intro); (case left => first | omega | (simp only [List.length_append, List.length_cons, List.length_nil, List.length_drop, List.length_take, List.length_tail, List.length_dropLast, fs_length, ss_length, bs_length, ns_length]; omega)))
        exact ih _
  · obtain rfl : i = l.length := by omega
    rw [List.take_length]
    by_cases h0 : l.length = 0
    · obtain rfl : l = [] := List.length_eq_zero_iff.1 h0
      have e0 : ofE (ofI a b n []) = 0 := rfl
      have e1 : ofX (ofI a b n []) = [] := rfl
      have e2 : ofW a b n [] = [] := rfl
      have z0 : decide (((0 : Nat) : Int) > 0) = false := rfl
      have z1 : decide (((0 : Nat) : Int) < ((0 : Nat) : Int)) = false := rfl
      simp only [List.length_nil] at h
      rw [e2]
      simp only [z1, List.length_nil, pof_k8_w, pof_k8', pof_k11_w, pof_k11', e0, e1, z0, pof_k10_w, pof_k10', go_sem, reduceCtorEq, Nat.reduceEqDiff, reduceIte, Nat.reduceAdd, Nat.reduceSub, Nat.reduceLeDiff, Int.reduceToNat, Nat.reduceBEq]
      repeat ((with_reducible apply And.intro); (case left => first | omega | (simp only [List.length_append, List.length_cons, List.length_nil, List.length_drop, List.length_take, List.length_tail, List.length_dropLast, fs_length, ss_length, bs_length, ns_length]; omega)))
      first | rfl | omega | trace_state
    · obtain ⟨⟨out, cur, e⟩, ho, ho1, ho2, ho3⟩ := ofI_len a b n h1 h2 l (l.length - 1) (by omega)
      rw [getElem!_pos l (l.length - 1) (by omega)] at ho3
      obtain ⟨q, hq, hG, _, _⟩ := good_of h3 (show l.length - 1 < l.length by omega)
      rw [show l.length - 1 + 1 = l.length by omega, List.take_length] at ho
      have e0 : ofE (some (out, cur, e)) = e := rfl
      have e1 : ofX (some (out, cur, e)) = out ++ [cur] := rfl
      have e2 : ofW a b n l = out ++ [(cur.1, cur.2.1, cur.2.2 ++ kL 1 (sl a e (min (e + n) a.length)))] := by rw [ofW, ho]; rfl
      have g1 := hG.q0; have g3 := hG.f; have g5 := hG.d; have g7 := hG.fd
      dsimp only at ho1 ho2 ho3
      have z0 : decide (((l.length : Nat) : Int) > 0) = true := decide_eq_true (by omega)
      have w6 : IntKind.i64.wrap (e + n) = e + n := wrap_in (by omega) (by omega)
      have c4 := sl_le a e (min (e + n) a.length)
      rw [ho, e2]
      simp only [lt_f h, pof_k8_w, pof_k8', pof_k11_w, pof_k11', e0, e1, z0, w6, sl_drop, go_sem, reduceCtorEq, Nat.reduceEqDiff, reduceIte, Nat.reduceAdd, Nat.reduceSub, Nat.reduceLeDiff, Int.reduceToNat, Nat.reduceBEq]
      repeat ((with_reducible apply And.intro); (case left => first | omega | (simp only [List.length_append, List.length_cons, List.length_nil, List.length_drop, List.length_take, List.length_tail, List.length_dropLast, fs_length, ss_length, bs_length, ns_length]; omega)))
      refine of_core (pput_snd a b _ n 1 out cur (sl a e (min (e + n) a.length)) (by omega) (by omega) (by omega)) rfl ?_
      simp only [pof_k10_w, pof_k10', go_sem, reduceCtorEq, Nat.reduceEqDiff, reduceIte, Nat.reduceAdd, Nat.reduceSub, Nat.reduceLeDiff, Int.reduceToNat, Nat.reduceBEq]
      repeat ((with_reducible apply And.intro); (case left => first | omega | (simp only [List.length_append, List.length_cons, List.length_nil, List.length_drop, List.length_take, List.length_tail, List.length_dropLast, fs_length, ss_length, bs_length, ns_length]; omega)))
      first | rfl | omega | trace_state
end Go.Hk

