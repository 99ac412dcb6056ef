import Derived.Test.YtolghafejibajaaDoorGbC
/- Glob: the reference's paths. -/
namespace Go.Gb
open Go Go.Ev Go.Proofs
open Go.Ln (u8b_t u8b_f u8n_t u8n_f getX idx idx_eq idx_of idx_none)
set_option linter.unusedVariables false
set_option linter.unusedSimpArgs false
attribute [local go_sem] eqs implies_true List.map_cons List.map_nil kl klL roD roL Option.map_some Option.map_none Option.getD_some Option.getD_none binVal binObl unVal if_true if_false eq_self passA frnD resD content getH getR getW viaNot viaSlot viaBox viaDeep viaMem List.contains_cons List.contains_nil grabs peeks okCells isCell place cellsOf chunk elt List.headD_cons List.length_cons List.length_nil List.take_succ_cons List.take_zero List.drop_succ_cons List.drop_zero List.nil_append List.cons_append List.append_nil List.all_cons List.all_nil plainC takeR setW over reCell List.getElem?_cons_zero List.getElem?_cons_succ List.set_cons_zero List.take_length outV resG plainV pack outVG outBx List.set_cons_succ Ref.idx Ref.addOff beq_self_eq_true bxL Option.bind_some writeR isLit viaBoxes capsPA boxPA nsOf noDup boxesAt argG passG passD rhoIn rhoOut idxIn tr trL List.getD_cons_zero gives pasOf isPtr Ins.d List.getD_cons_succ resL frnL
variable {m : Int}

def rparts_l0' : AC := .seq (.seq (.reg (.seq [⟨(some (8, false)), none, .mov (.tmp 5 true) .peek⟩,
      ⟨(some (9, false)), none, .mov (.tmp 0 true) .peek⟩,
      ⟨(some (10, false)), none, .len (.tmp 9 false)⟩,
      ⟨(some (11, false)), none, .bin .lss (.tmp 8 false) (.tmp 10 false)⟩])) [0, 3, 4, 5, 11] []
  (.cond (.tmp 11 false)
    (.skip)
    (.exit 0))) [0, 3, 4, 5] []
  (.seq (.block 1 (.seq (.reg (.seq [⟨(some (14, false)), none, .mov (.tmp 0 true) .peek⟩,
      ⟨(some (15, false)), none, .mov (.tmp 5 true) .peek⟩,
      ⟨(some (16, false)), none, .idx (.tmp 14 false) (.tmp 15 false)⟩,
      ⟨(some (17, false)), none, .bin .eql (.tmp 16 false) (.cst (.int .u8 47) (.lit (.int .u8 47)))⟩])) [0, 3, 4, 5, 17] []
    (.cond (.tmp 17 false)
      (.seq (.reg (.seq [⟨(some (18, false)), none, .mov (.tmp 3 true) .take⟩,
      ⟨(some (19, false)), none, .mov (.tmp 0 true) .peek⟩,
      ⟨(some (20, false)), none, .mov (.tmp 4 true) .peek⟩,
      ⟨(some (21, false)), none, .mov (.tmp 5 true) .peek⟩,
      ⟨(some (22, false)), none, .sub (.tmp 19 false) (some (.tmp 20 false)) (some (.tmp 21 false))⟩,
      ⟨(some (23, false)), none, .buildS 1 1 [(.lit (.string (str [])))] [(0, 1, (.tmp 22 false))]⟩,
      ⟨(some (24, false)), none, .app 1 16 (.tmp 18 false) (.tmp 23 false)⟩,
      ⟨(some (3, true)), none, .mov (.tmp 24 false) .asg⟩])) [0, 3, 5] []
      (.reg (.seq [⟨(some (25, false)), none, .mov (.tmp 5 true) .peek⟩,
      ⟨(some (26, false)), none, .bin .add (.tmp 25 false) (.cst (.int .i64 1) (.lit (.int .i64 1)))⟩,
      ⟨(some (4, true)), none, .mov (.tmp 26 false) .asg⟩])))
      (.skip)))) [0, 3, 4, 5] []
  (.reg (.seq [⟨(some (12, false)), none, .mov (.tmp 5 true) .peek⟩,
      ⟨(some (13, false)), none, .bin .add (.tmp 12 false) (.cst (.int .i64 1) (.lit (.int .i64 1)))⟩,
      ⟨(some (5, true)), none, .mov (.tmp 13 false) .asg⟩])))
def rparts_l0 : AC := rparts_l0'
theorem rparts_l0_w (C : Kn) (K : Ex → St → Prop) (s : St) : vcC C rparts_l0 K s = vcC C rparts_l0' K s := nr rfl
def rparts_k1' : AC := .seq (.reg (.seq [⟨(some (27, false)), none, .mov (.tmp 3 true) .take⟩,
      ⟨(some (28, false)), none, .mov (.tmp 0 true) .peek⟩,
      ⟨(some (29, false)), none, .mov (.tmp 4 true) .peek⟩,
      ⟨(some (30, false)), none, .sub (.tmp 28 false) (some (.tmp 29 false)) none⟩,
      ⟨(some (31, false)), none, .buildS 1 1 [(.lit (.string (str [])))] [(0, 1, (.tmp 30 false))]⟩,
      ⟨(some (32, false)), none, .app 1 16 (.tmp 27 false) (.tmp 31 false)⟩,
      ⟨(some (2, true)), none, .mov (.tmp 32 false) .asg⟩])) [2] []
  (.ret)
def rparts_k1 : AC := rparts_k1'
theorem rparts_k1_w (C : Kn) (K : Ex → St → Prop) (s : St) : vcC C rparts_k1 K s = vcC C rparts_k1' K s := nr rfl
def rparts : AF := ⟨.seq (.reg (.seq [⟨(some (2, true)), none, .mov (.cst (.slice none 0 0) (.sl .own 1 [])) .asg⟩])) [0] []
  (.seq (.seq (.reg (.seq [⟨(some (6, false)), none, .mov (.tmp 0 true) .peek⟩,
      ⟨(some (7, false)), none, .bin .eql (.tmp 6 false) (.cst (.string (str [])) (.lit (.string (str []))))⟩])) [0, 7] []
  (.cond (.tmp 7 false)
    (.seq (.reg (.seq [⟨(some (2, true)), none, .mov (.cst (.slice none 0 0) (.sl .own 1 [])) .asg⟩])) [2] []
    (.ret))
    (.skip))) [0] []
  (.seq (.reg (.seq [⟨(some (3, true)), none, .mov (.cst (.slice none 0 0) (.sl .own 1 [])) .asg⟩])) [0, 3] []
  (.seq (.reg (.seq [⟨(some (4, true)), none, .mov (.cst (.int .i64 0) (.lit (.int .i64 0))) .asg⟩])) [0, 3, 4] []
  (.seq (.seq (.reg (.seq [⟨(some (5, true)), none, .mov (.cst (.int .i64 0) (.lit (.int .i64 0))) .asg⟩])) [0, 3, 4, 5] []
  (.block 0 (.loop [0, 3, 4, 5] [] rparts_l0))) [0, 3, 4] [] rparts_k1)))),
  [.tmp 2]⟩
theorem rparts_comp (m : Int) : compF Tryd.prog (gl m) [] Tryd.f49 = some rparts := by kernel_rfl
def rpart_l0' : AC := .seq (.seq (.reg (.seq [⟨(some (24, false)), none, .mov (.tmp 3 true) .peek⟩,
      ⟨(some (25, false)), none, .mov (.tmp 0 true) .peek⟩,
      ⟨(some (26, false)), none, .len (.tmp 25 false)⟩,
      ⟨(some (27, false)), none, .bin .lss (.tmp 24 false) (.tmp 26 false)⟩])) [0, 3, 27] []
  (.cond (.tmp 27 false)
    (.skip)
    (.exit 0))) [0, 3] []
  (.seq (.block 1 (.seq (.reg (.seq [⟨(some (30, false)), none, .mov (.tmp 0 true) .peek⟩,
      ⟨(some (31, false)), none, .mov (.tmp 3 true) .peek⟩,
      ⟨(some (32, false)), none, .idx (.tmp 30 false) (.tmp 31 false)⟩,
      ⟨(some (33, false)), none, .bin .lss (.tmp 32 false) (.cst (.int .u8 32) (.lit (.int .u8 32)))⟩,
      ⟨(some (34, false)), none, .mov (.tmp 33 false) .peek⟩,
      ⟨(some (35, false)), (some (34, false)), .mov (.tmp 0 true) .peek⟩,
      ⟨(some (36, false)), (some (34, false)), .mov (.tmp 3 true) .peek⟩,
      ⟨(some (37, false)), (some (34, false)), .idx (.tmp 35 false) (.tmp 36 false)⟩,
      ⟨(some (38, false)), (some (34, false)), .bin .eql (.tmp 37 false) (.cst (.int .u8 47) (.lit (.int .u8 47)))⟩,
      ⟨(some (39, false)), none, .pick (.tmp 34 false) (.cst (.bool true) (.lit (.bool true))) (.tmp 38 false)⟩])) [0, 3, 39] []
    (.cond (.tmp 39 false)
      (.seq (.reg (.seq [⟨(some (2, true)), none, .mov (.cst (.bool false) (.lit (.bool false))) .asg⟩])) [2] []
      (.ret))
      (.skip)))) [0, 3] []
  (.reg (.seq [⟨(some (28, false)), none, .mov (.tmp 3 true) .peek⟩,
      ⟨(some (29, false)), none, .bin .add (.tmp 28 false) (.cst (.int .i64 1) (.lit (.int .i64 1)))⟩,
      ⟨(some (3, true)), none, .mov (.tmp 29 false) .asg⟩])))
def rpart_l0 : AC := rpart_l0'
theorem rpart_l0_w (C : Kn) (K : Ex → St → Prop) (s : St) : vcC C rpart_l0 K s = vcC C rpart_l0' K s := nr rfl
def rpart_k1' : AC := .seq (.reg (.seq [⟨(some (2, true)), none, .mov (.cst (.bool true) (.lit (.bool true))) .asg⟩])) [2] []
  (.ret)
def rpart_k1 : AC := rpart_k1'
theorem rpart_k1_w (C : Kn) (K : Ex → St → Prop) (s : St) : vcC C rpart_k1 K s = vcC C rpart_k1' K s := nr rfl
def rpart : AF := ⟨.seq (.reg (.seq [⟨(some (2, true)), none, .mov (.cst (.bool false) (.lit (.bool false))) .asg⟩])) [0] []
  (.seq (.seq (.reg (.seq [⟨(some (4, false)), none, .mov (.tmp 0 true) .peek⟩,
      ⟨(some (5, false)), none, .len (.tmp 4 false)⟩,
      ⟨(some (6, false)), none, .bin .lss (.tmp 5 false) (.cst (.int .i64 1) (.lit (.int .i64 1)))⟩,
      ⟨(some (7, false)), none, .mov (.tmp 6 false) .peek⟩,
      ⟨(some (8, false)), (some (7, false)), .mov (.tmp 0 true) .peek⟩,
      ⟨(some (9, false)), (some (7, false)), .len (.tmp 8 false)⟩,
      ⟨(some (10, false)), (some (7, false)), .bin .gtr (.tmp 9 false) (.cst (.int .i64 64) (.lit (.int .i64 64)))⟩,
      ⟨(some (11, false)), none, .pick (.tmp 7 false) (.cst (.bool true) (.lit (.bool true))) (.tmp 10 false)⟩,
      ⟨(some (12, false)), none, .mov (.tmp 11 false) .peek⟩,
      ⟨(some (13, false)), (some (12, false)), .mov (.tmp 0 true) .peek⟩,
      ⟨(some (14, false)), (some (12, false)), .bin .eql (.tmp 13 false) (.cst (.string (str [46])) (.lit (.string (str [46]))))⟩,
      ⟨(some (15, false)), none, .pick (.tmp 12 false) (.cst (.bool true) (.lit (.bool true))) (.tmp 14 false)⟩,
      ⟨(some (16, false)), none, .mov (.tmp 15 false) .peek⟩,
      ⟨(some (17, false)), (some (16, false)), .mov (.tmp 0 true) .peek⟩,
      ⟨(some (18, false)), (some (16, false)), .bin .eql (.tmp 17 false) (.cst (.string (str [46, 46])) (.lit (.string (str [46, 46]))))⟩,
      ⟨(some (19, false)), none, .pick (.tmp 16 false) (.cst (.bool true) (.lit (.bool true))) (.tmp 18 false)⟩,
      ⟨(some (20, false)), none, .mov (.tmp 19 false) .peek⟩,
      ⟨(some (21, false)), (some (20, false)), .mov (.tmp 0 true) .peek⟩,
      ⟨(some (22, false)), (some (20, false)), .bin .eql (.tmp 21 false) (.cst (.string (str [46, 103, 114, 97, 102, 116])) (.lit (.string (str [46, 103, 114, 97, 102, 116]))))⟩,
      ⟨(some (23, false)), none, .pick (.tmp 20 false) (.cst (.bool true) (.lit (.bool true))) (.tmp 22 false)⟩])) [0, 23] []
  (.cond (.tmp 23 false)
    (.seq (.reg (.seq [⟨(some (2, true)), none, .mov (.cst (.bool false) (.lit (.bool false))) .asg⟩])) [2] []
    (.ret))
    (.skip))) [0] []
  (.seq (.seq (.reg (.seq [⟨(some (3, true)), none, .mov (.cst (.int .i64 0) (.lit (.int .i64 0))) .asg⟩])) [0, 3] []
  (.block 0 (.loop [0, 3] [] rpart_l0))) [] [] rpart_k1)),
  [.tmp 2]⟩
theorem rpart_comp (m : Int) : compF Tryd.prog (gl m) [] Tryd.f69 = some rpart := by kernel_rfl
def ris_l0' : AC := .seq (.seq (.reg (.seq [⟨(some (20, false)), none, .mov (.tmp 4 true) .peek⟩,
      ⟨(some (21, false)), none, .mov (.tmp 3 true) .peek⟩,
      ⟨(some (22, false)), none, .lenL (.tmp 21 false)⟩,
      ⟨(some (23, false)), none, .bin .lss (.tmp 20 false) (.tmp 22 false)⟩])) [3, 4, 23] []
  (.cond (.tmp 23 false)
    (.skip)
    (.exit 0))) [3, 4] []
  (.seq (.block 1 (.seq (.reg (.seq [⟨(some (26, false)), none, .mov (.tmp 3 true) .peek⟩,
      ⟨(some (27, false)), none, .mov (.tmp 4 true) .peek⟩,
      ⟨(some (28, false)), none, .iad (.tmp 26 false) (.tmp 27 false) 1⟩,
      ⟨(some (29, false)), none, .load (.tmp 28 false) 1 false false⟩,
      ⟨(some (30, false)), none, .call 69 [(.tmp 29 false)]⟩,
      ⟨(some (31, false)), none, .un .not (.tmp 30 false)⟩])) [3, 4, 31] []
    (.cond (.tmp 31 false)
      (.seq (.reg (.seq [⟨(some (2, true)), none, .mov (.cst (.bool false) (.lit (.bool false))) .asg⟩])) [2] []
      (.ret))
      (.skip)))) [3, 4] []
  (.reg (.seq [⟨(some (24, false)), none, .mov (.tmp 4 true) .peek⟩,
      ⟨(some (25, false)), none, .bin .add (.tmp 24 false) (.cst (.int .i64 1) (.lit (.int .i64 1)))⟩,
      ⟨(some (4, true)), none, .mov (.tmp 25 false) .asg⟩])))
def ris_l0 : AC := ris_l0'
theorem ris_l0_w (C : Kn) (K : Ex → St → Prop) (s : St) : vcC C ris_l0 K s = vcC C ris_l0' K s := nr rfl
def ris_k1' : AC := .seq (.reg (.seq [⟨(some (2, true)), none, .mov (.cst (.bool true) (.lit (.bool true))) .asg⟩])) [2] []
  (.ret)
def ris_k1 : AC := ris_k1'
theorem ris_k1_w (C : Kn) (K : Ex → St → Prop) (s : St) : vcC C ris_k1 K s = vcC C ris_k1' K s := nr rfl
def ris : AF := ⟨.seq (.reg (.seq [⟨(some (2, true)), none, .mov (.cst (.bool false) (.lit (.bool false))) .asg⟩])) [0] []
  (.seq (.reg (.seq [⟨(some (5, false)), none, .mov (.tmp 0 true) .peek⟩,
      ⟨(some (6, false)), none, .call 49 [(.tmp 5 false)]⟩,
      ⟨(some (3, true)), none, .mov (.tmp 6 false) .asg⟩])) [0, 3] []
  (.seq (.seq (.reg (.seq [⟨(some (7, false)), none, .mov (.tmp 3 true) .peek⟩,
      ⟨(some (8, false)), none, .lenL (.tmp 7 false)⟩,
      ⟨(some (9, false)), none, .bin .lss (.tmp 8 false) (.cst (.int .i64 1) (.lit (.int .i64 1)))⟩,
      ⟨(some (10, false)), none, .mov (.tmp 9 false) .peek⟩,
      ⟨(some (11, false)), (some (10, false)), .mov (.tmp 3 true) .peek⟩,
      ⟨(some (12, false)), (some (10, false)), .lenL (.tmp 11 false)⟩,
      ⟨(some (13, false)), (some (10, false)), .bin .gtr (.tmp 12 false) (.cst (.int .i64 16) (.lit (.int .i64 16)))⟩,
      ⟨(some (14, false)), none, .pick (.tmp 10 false) (.cst (.bool true) (.lit (.bool true))) (.tmp 13 false)⟩,
      ⟨(some (15, false)), none, .mov (.tmp 14 false) .peek⟩,
      ⟨(some (16, false)), (some (15, false)), .mov (.tmp 0 true) .peek⟩,
      ⟨(some (17, false)), (some (15, false)), .len (.tmp 16 false)⟩,
      ⟨(some (18, false)), (some (15, false)), .bin .gtr (.tmp 17 false) (.cst (.int .i64 255) (.lit (.int .i64 255)))⟩,
      ⟨(some (19, false)), none, .pick (.tmp 15 false) (.cst (.bool true) (.lit (.bool true))) (.tmp 18 false)⟩])) [3, 19] []
  (.cond (.tmp 19 false)
    (.seq (.reg (.seq [⟨(some (2, true)), none, .mov (.cst (.bool false) (.lit (.bool false))) .asg⟩])) [2] []
    (.ret))
    (.skip))) [3] []
  (.seq (.seq (.reg (.seq [⟨(some (4, true)), none, .mov (.cst (.int .i64 0) (.lit (.int .i64 0))) .asg⟩])) [3, 4] []
  (.block 0 (.loop [3, 4] [] ris_l0))) [] [] ris_k1))),
  [.tmp 2]⟩
theorem ris_comp (m : Int) : compF Tryd.prog (gl m) [] Tryd.f42 = some ris := by kernel_rfl
theorem rparts_loop (s : Ln.Bs) (hs : s.length ≤ 1048576) (n : Nat) : ∀ (i k : Nat) (hn : s.length - i = n) (hki : k ≤ i) (hi : i ≤ s.length) (hno : ∀ j, k ≤ j → j < i → s[j]? ≠ some 47) (acc : List Ln.Bs) (ha : acc.length ≤ k),
    vcL (kn m) [0, 3, 4, 5] [] rparts_l0 (blockK 0 (seqK (kn m) [0, 3, 4] [] rparts_k1 (outOk [.tmp 2] (.sl .own 1 (ss (acc ++ pieces (s.drop k))))))) (mkS [(0, S s), (3, .sl .own 1 (ss acc)), (4, N k), (5, N i)] []) := by
  induction n with
  | zero =>
    intro i k hn hki hi hno acc ha
    have hil : i = s.length := by omega
    subst hil
    apply round
    simp only [rparts_l0_w, rparts_l0', go_sem, reduceCtorEq, Nat.reduceEqDiff, reduceIte, Nat.reduceAdd, Nat.reduceSub, Nat.reduceLeDiff, Int.reduceToNat, Nat.reduceBEq]
    rw [lt_f (by omega)]
    simp only [rparts_k1_w, rparts_k1', go_sem, reduceCtorEq, Nat.reduceEqDiff, reduceIte, Nat.reduceAdd, Nat.reduceSub, Nat.reduceLeDiff, Int.reduceToNat, Nat.reduceBEq]
    repeat (refine ⟨by (try simp only [List.length_append, List.length_cons, List.length_nil]); omega, ?_⟩)
    have : idx (s.drop k) 47 = none := idx_none fun j hj => by rw [List.getElem?_drop]; exact hno _ (by omega) (by simp at hj; omega)
    rw [pieces_none this]
  | succ n ih =>
    intro i k hn hki hi hno acc ha
    have hil : i < s.length := by omega
    have hw : IntKind.i64.wrap ((i : Int) + 1) = ((i + 1 : Nat) : Int) := wrapN (i + 1) (by omega) (by omega)
    apply round
    simp only [rparts_l0_w, rparts_l0', go_sem, reduceCtorEq, Nat.reduceEqDiff, reduceIte, Nat.reduceAdd, Nat.reduceSub, Nat.reduceLeDiff, Int.reduceToNat, Nat.reduceBEq]
    rw [lt_t hil]
    simp only [getE hil, go_sem, reduceCtorEq, Nat.reduceEqDiff, reduceIte, Nat.reduceAdd, Nat.reduceSub, Nat.reduceLeDiff, Int.reduceToNat, Nat.reduceBEq]
    refine ⟨by omega, ?_⟩
    by_cases hc : s[i] = 47
    · rw [u8b_t (n := 47) hc rfl]
      simp only [hw, go_sem, reduceCtorEq, Nat.reduceEqDiff, reduceIte, Nat.reduceAdd, Nat.reduceSub, Nat.reduceLeDiff, Int.reduceToNat, Nat.reduceBEq]
      repeat (refine ⟨by (try simp only [List.length_append, List.length_cons, List.length_nil]); omega, ?_⟩)
      have hidx : idx (s.drop k) 47 = some (i - k) := idx_of (by rw [List.getElem?_drop, show k + (i - k) = i by omega, getE hil, hc]) fun j hj => by rw [List.getElem?_drop]; exact hno _ (by omega) (by omega)
      have := ih (i + 1) (i + 1) (by omega) (by omega) (by omega) (fun j h1 h2 => by omega) (acc ++ [(s.take i).drop k]) (by simp; omega)
      rw [pieces_some hidx, List.drop_drop, show k + (i - k + 1) = i + 1 by omega]
      rw [List.drop_take] at this ⊢
      simp only [List.append_assoc, List.cons_append, List.nil_append] at this ⊢
      exact this
    · rw [u8b_f (n := 47) hc rfl]
      simp only [hw, go_sem, reduceCtorEq, Nat.reduceEqDiff, reduceIte, Nat.reduceAdd, Nat.reduceSub, Nat.reduceLeDiff, Int.reduceToNat, Nat.reduceBEq]
      exact ih (i + 1) k (by omega) (by omega) (by omega) (fun j h1 h2 => by
        by_cases e : j = i
        · subst e; rw [getE hil]; simpa using hc
        · exact hno j h1 (by omega)) acc ha
theorem rparts_snd (s : Ln.Bs) (hs : s.length ≤ 1048576) : Snd Tryd.prog (gl m) 49 [S s] (.sl .own 1 (ss (parts s))) := by
  refine snd_of (fn := Tryd.f49) (af := rparts) Tryd.func49 (rparts_comp m) mixed (kn_ok m) (Nat.le_of_ble_eq_true rfl) ?_
  simp only [rparts, go_sem, reduceCtorEq, Nat.reduceEqDiff, reduceIte, Nat.reduceAdd, Nat.reduceSub, Nat.reduceLeDiff, Int.reduceToNat, Nat.reduceBEq]
  unfold parts
  by_cases h1 : s = []
  · rw [se_t h1, if_pos h1]
    simp only [go_sem, reduceCtorEq, Nat.reduceEqDiff, reduceIte, Nat.reduceAdd, Nat.reduceSub, Nat.reduceLeDiff, Int.reduceToNat, Nat.reduceBEq]
    rfl
  · rw [se_f h1, if_neg h1]
    simp only [go_sem, reduceCtorEq, Nat.reduceEqDiff, reduceIte, Nat.reduceAdd, Nat.reduceSub, Nat.reduceLeDiff, Int.reduceToNat, Nat.reduceBEq]
    exact rparts_loop s hs _ 0 0 rfl (by omega) (by omega) (fun j h1 h2 => by omega) [] (by simp)
theorem rpart_loop (s : Ln.Bs) (hs : s.length ≤ 1048576) (h47 : s.contains 47 = false) (n : Nat) : ∀ (i : Nat) (hn : s.length - i = n) (hi : i ≤ s.length),
    vcL (kn m) [0, 3] [] rpart_l0 (blockK 0 (seqK (kn m) [] [] rpart_k1 (outOk [.tmp 2] (B ((s.drop i).all fun c => decide (32 ≤ c)))))) (mkS [(0, S s), (3, N i)] []) := by
  induction n with
  | zero =>
    intro i hn hi
    apply round
    simp only [rpart_l0_w, rpart_l0', go_sem, reduceCtorEq, Nat.reduceEqDiff, reduceIte, Nat.reduceAdd, Nat.reduceSub, Nat.reduceLeDiff, Int.reduceToNat, Nat.reduceBEq]
    rw [lt_f (by omega), List.drop_of_length_le (by omega)]
    simp only [rpart_k1_w, rpart_k1', go_sem, reduceCtorEq, Nat.reduceEqDiff, reduceIte, Nat.reduceAdd, Nat.reduceSub, Nat.reduceLeDiff, Int.reduceToNat, Nat.reduceBEq]
  | succ n ih =>
    intro i hn hi
    have hil : i < s.length := by omega
    have hw : IntKind.i64.wrap ((i : Int) + 1) = ((i + 1 : Nat) : Int) := wrapN (i + 1) (by omega) (by omega)
    have hne : s[i] ≠ 47 := fun e => by
      have : s.contains 47 = true := List.contains_iff_mem.2 (by rw [← e]; exact List.getElem_mem hil)
      rw [h47] at this; cases this
    rw [List.drop_eq_getElem_cons hil, List.all_cons]
    apply round
    simp only [rpart_l0_w, rpart_l0', go_sem, reduceCtorEq, Nat.reduceEqDiff, reduceIte, Nat.reduceAdd, Nat.reduceSub, Nat.reduceLeDiff, Int.reduceToNat, Nat.reduceBEq]
    rw [lt_t hil]
    simp only [getE hil, le32, go_sem, reduceCtorEq, Nat.reduceEqDiff, reduceIte, Nat.reduceAdd, Nat.reduceSub, Nat.reduceLeDiff, Int.reduceToNat, Nat.reduceBEq]
    refine ⟨by omega, ?_⟩
    cases hd : decide (32 ≤ s[i]) with
    | true =>
      simp only [hw, getE hil, go_sem, reduceCtorEq, Nat.reduceEqDiff, reduceIte, Nat.reduceAdd, Nat.reduceSub, Nat.reduceLeDiff, Int.reduceToNat, Nat.reduceBEq]
      refine ⟨by omega, ?_⟩
      rw [u8b_f (n := 47) hne rfl]
      simp only [hw, go_sem, reduceCtorEq, Nat.reduceEqDiff, reduceIte, Nat.reduceAdd, Nat.reduceSub, Nat.reduceLeDiff, Int.reduceToNat, Nat.reduceBEq]
      exact ih (i + 1) (by omega) (by omega)
    | false =>
      simp only [Bool.false_and, go_sem, reduceCtorEq, Nat.reduceEqDiff, reduceIte, Nat.reduceAdd, Nat.reduceSub, Nat.reduceLeDiff, Int.reduceToNat, Nat.reduceBEq]
theorem rpart_snd (s : Ln.Bs) (hs : s.length ≤ 1048576) (h47 : s.contains 47 = false) : Snd Tryd.prog (gl m) 69 [S s] (B (okPart s)) := by
  refine snd_of (fn := Tryd.f69) (af := rpart) Tryd.func69 (rpart_comp m) mixed (kn_ok m) (Nat.le_of_ble_eq_true rfl) ?_
  simp only [rpart, go_sem, reduceCtorEq, Nat.reduceEqDiff, reduceIte, Nat.reduceAdd, Nat.reduceSub, Nat.reduceLeDiff, Int.reduceToNat, Nat.reduceBEq]
  by_cases h1 : 1 ≤ s.length
  · rw [ilt_f (by omega)]
    simp only [go_sem, reduceCtorEq, Nat.reduceEqDiff, reduceIte, Nat.reduceAdd, Nat.reduceSub, Nat.reduceLeDiff, Int.reduceToNat, Nat.reduceBEq]
    by_cases h2 : s.length ≤ 64
    · rw [igt_f (by omega)]
      simp only [go_sem, reduceCtorEq, Nat.reduceEqDiff, reduceIte, Nat.reduceAdd, Nat.reduceSub, Nat.reduceLeDiff, Int.reduceToNat, Nat.reduceBEq]
      by_cases h3 : s = [46]
      · rw [se_t h3, show okPart s = false by rw [h3]; rfl]
        simp only [go_sem, reduceCtorEq, Nat.reduceEqDiff, reduceIte, Nat.reduceAdd, Nat.reduceSub, Nat.reduceLeDiff, Int.reduceToNat, Nat.reduceBEq]
      · rw [se_f h3]
        simp only [go_sem, reduceCtorEq, Nat.reduceEqDiff, reduceIte, Nat.reduceAdd, Nat.reduceSub, Nat.reduceLeDiff, Int.reduceToNat, Nat.reduceBEq]
        by_cases h4 : s = [46, 46]
        · rw [se_t h4, show okPart s = false by rw [h4]; rfl]
          simp only [go_sem, reduceCtorEq, Nat.reduceEqDiff, reduceIte, Nat.reduceAdd, Nat.reduceSub, Nat.reduceLeDiff, Int.reduceToNat, Nat.reduceBEq]
        · rw [se_f h4]
          simp only [go_sem, reduceCtorEq, Nat.reduceEqDiff, reduceIte, Nat.reduceAdd, Nat.reduceSub, Nat.reduceLeDiff, Int.reduceToNat, Nat.reduceBEq]
          by_cases h5 : s = [46, 103, 114, 97, 102, 116]
          · rw [se_t h5, show okPart s = false by rw [h5]; rfl]
            simp only [go_sem, reduceCtorEq, Nat.reduceEqDiff, reduceIte, Nat.reduceAdd, Nat.reduceSub, Nat.reduceLeDiff, Int.reduceToNat, Nat.reduceBEq]
          · rw [se_f h5]
            simp only [go_sem, reduceCtorEq, Nat.reduceEqDiff, reduceIte, Nat.reduceAdd, Nat.reduceSub, Nat.reduceLeDiff, Int.reduceToNat, Nat.reduceBEq]
            rw [show okPart s = (s.drop 0).all fun c => decide (32 ≤ c) by simp [okPart, h1, h2, h3, h4, h5]]
            exact rpart_loop s hs h47 _ 0 rfl (by omega)
    · rw [igt_t (by omega), show okPart s = false by simp [okPart, h2]]
      simp only [go_sem, reduceCtorEq, Nat.reduceEqDiff, reduceIte, Nat.reduceAdd, Nat.reduceSub, Nat.reduceLeDiff, Int.reduceToNat, Nat.reduceBEq]
  · rw [ilt_t (by omega), show okPart s = false by simp [okPart, h1]]
    simp only [go_sem, reduceCtorEq, Nat.reduceEqDiff, reduceIte, Nat.reduceAdd, Nat.reduceSub, Nat.reduceLeDiff, Int.reduceToNat, Nat.reduceBEq]
theorem piece_free {s x : Ln.Bs} (h : x ∈ pieces s) : x.contains 47 = false := by
  induction s generalizing x with
  | nil => simp [pieces] at h; subst h; rfl
  | cons c l ih =>
    simp only [pieces] at h
    split at h
    · rcases List.mem_cons.1 h with rfl | h
      · rfl
      · exact ih h
    · rename_i hc
      split at h
      · simp at h; subst h
        simp only [List.contains_cons, List.contains_nil, Bool.or_false, beq_eq_false_iff_ne]
        exact fun e => hc e.symm
      · rename_i y ys hy
        rcases List.mem_cons.1 h with rfl | h
        · have := ih (x := y) (by rw [hy]; exact List.mem_cons_self ..)
          rw [List.contains_cons, this, Bool.or_false, beq_eq_false_iff_ne]
          exact fun e => hc e.symm
        · exact ih (by rw [hy]; exact List.mem_cons_of_mem _ h)
theorem ris_loop (L : List Ln.Bs) (hL : L.length ≤ 1048576) (hb : ∀ l, l ∈ L → l.length ≤ 1048576) (hf : ∀ l, l ∈ L → l.contains 47 = false) (n : Nat) : ∀ (i : Nat) (hn : L.length - i = n) (hi : i ≤ L.length),
    vcL (kn m) [3, 4] [] ris_l0 (blockK 0 (seqK (kn m) [] [] ris_k1 (outOk [.tmp 2] (B ((L.drop i).all okPart))))) (mkS [(3, .sl .own 1 (ss L)), (4, N i)] []) := by
  induction n with
  | zero =>
    intro i hn hi
    apply round
    simp only [ris_l0_w, ris_l0', go_sem, reduceCtorEq, Nat.reduceEqDiff, reduceIte, Nat.reduceAdd, Nat.reduceSub, Nat.reduceLeDiff, Int.reduceToNat, Nat.reduceBEq]
    rw [lt_f (by omega), List.drop_of_length_le (by omega)]
    simp only [ris_k1_w, ris_k1', go_sem, reduceCtorEq, Nat.reduceEqDiff, reduceIte, Nat.reduceAdd, Nat.reduceSub, Nat.reduceLeDiff, Int.reduceToNat, Nat.reduceBEq]
  | succ n ih =>
    intro i hn hi
    have hil : i < L.length := by omega
    have hlb := hb _ (List.getElem_mem hil)
    have hw : IntKind.i64.wrap ((i : Int) + 1) = ((i + 1 : Nat) : Int) := wrapN (i + 1) (by omega) (by omega)
    rw [List.drop_eq_getElem_cons hil, List.all_cons]
    apply round
    simp only [ris_l0_w, ris_l0', go_sem, reduceCtorEq, Nat.reduceEqDiff, reduceIte, Nat.reduceAdd, Nat.reduceSub, Nat.reduceLeDiff, Int.reduceToNat, Nat.reduceBEq]
    rw [lt_t hil]
    simp only [ssE L hil, go_sem, reduceCtorEq, Nat.reduceEqDiff, reduceIte, Nat.reduceAdd, Nat.reduceSub, Nat.reduceLeDiff, Int.reduceToNat, Nat.reduceBEq]
    repeat (refine ⟨by (try simp only [List.length_append, List.length_cons, List.length_nil]); omega, ?_⟩)
    refine of_call (rpart_snd L[i] (by omega) (hf _ (List.getElem_mem hil))) ?_
    simp only [unVal, go_sem, reduceCtorEq, Nat.reduceEqDiff, reduceIte, Nat.reduceAdd, Nat.reduceSub, Nat.reduceLeDiff, Int.reduceToNat, Nat.reduceBEq]
    cases hd : okPart L[i] with
    | true =>
      simp only [hw, go_sem, reduceCtorEq, Nat.reduceEqDiff, reduceIte, Nat.reduceAdd, Nat.reduceSub, Nat.reduceLeDiff, Int.reduceToNat, Nat.reduceBEq]
      exact ih (i + 1) (by omega) (by omega)
    | false =>
      simp only [Bool.false_and, go_sem, reduceCtorEq, Nat.reduceEqDiff, reduceIte, Nat.reduceAdd, Nat.reduceSub, Nat.reduceLeDiff, Int.reduceToNat, Nat.reduceBEq]
theorem ris_snd (p : Ln.Bs) (hp : p.length ≤ 1048575) : Snd Tryd.prog (gl m) 42 [S p] (B (isPath p)) := by
  refine snd_of (fn := Tryd.f42) (af := ris) Tryd.func42 (ris_comp m) mixed (kn_ok m) (Nat.le_of_ble_eq_true rfl) ?_
  simp only [ris, go_sem, reduceCtorEq, Nat.reduceEqDiff, reduceIte, Nat.reduceAdd, Nat.reduceSub, Nat.reduceLeDiff, Int.reduceToNat, Nat.reduceBEq]
  have hpl := parts_len p
  refine of_call (rparts_snd p (by omega)) ?_
  simp only [go_sem, reduceCtorEq, Nat.reduceEqDiff, reduceIte, Nat.reduceAdd, Nat.reduceSub, Nat.reduceLeDiff, Int.reduceToNat, Nat.reduceBEq]
  by_cases h1 : p = []
  · subst h1
    rw [show parts [] = [] from rfl, show isPath [] = false from rfl]
    rw [ilt_t (by simp)]
    simp only [go_sem, reduceCtorEq, Nat.reduceEqDiff, reduceIte, Nat.reduceAdd, Nat.reduceSub, Nat.reduceLeDiff, Int.reduceToNat, Nat.reduceBEq]
  · have hpe : parts p = pieces p := if_neg h1
    rw [hpe] at hpl ⊢
    have hpos : 1 ≤ (pieces p).length := by
      cases h : pieces p with
      | nil => exact absurd h (pieces_ne p)
      | cons _ _ => simp
    rw [ilt_f (by omega)]
    simp only [go_sem, reduceCtorEq, Nat.reduceEqDiff, reduceIte, Nat.reduceAdd, Nat.reduceSub, Nat.reduceLeDiff, Int.reduceToNat, Nat.reduceBEq]
    by_cases h3 : (pieces p).length ≤ 16
    · rw [igt_f (by omega)]
      simp only [go_sem, reduceCtorEq, Nat.reduceEqDiff, reduceIte, Nat.reduceAdd, Nat.reduceSub, Nat.reduceLeDiff, Int.reduceToNat, Nat.reduceBEq]
      by_cases h2 : p.length ≤ 255
      · rw [igt_f (by omega)]
        simp only [go_sem, reduceCtorEq, Nat.reduceEqDiff, reduceIte, Nat.reduceAdd, Nat.reduceSub, Nat.reduceLeDiff, Int.reduceToNat, Nat.reduceBEq]
        rw [show isPath p = ((pieces p).drop 0).all okPart by simp [isPath, h1, h2, h3]]
        exact ris_loop (pieces p) (by omega) (fun l hl => by have := piece_len hl; omega) (fun l hl => piece_free hl) _ 0 rfl (by omega)
      · rw [igt_t (by omega), show isPath p = false by simp [isPath, h2]]
        simp only [go_sem, reduceCtorEq, Nat.reduceEqDiff, reduceIte, Nat.reduceAdd, Nat.reduceSub, Nat.reduceLeDiff, Int.reduceToNat, Nat.reduceBEq]
    · rw [igt_t (by omega), show isPath p = false by simp [isPath, h3]]
      simp only [go_sem, reduceCtorEq, Nat.reduceEqDiff, reduceIte, Nat.reduceAdd, Nat.reduceSub, Nat.reduceLeDiff, Int.reduceToNat, Nat.reduceBEq]
end Go.Gb

