import Derived.Test.YtfkggoohajdabaaDoorWB
import Derived.Test.YtfkggoohajdabaaDoorWE
import Derived.Test.YtfkggoohajdabaaDoorPA
import Derived.Test.YtfkggoohajdabaaDoorWC
set_option linter.unusedVariables false
set_option linter.unusedSimpArgs false
/- Hunks as text: the reference's way. -/
namespace Go.Hk
open Go Go.Ev Go.Proofs
set_option linter.unusedVariables false
set_option linter.unusedSimpArgs false
set_option maxHeartbeats 4000000
attribute [local go_sem] eqs implies_true List.map_cons List.map_nil kl klL roD roL Option.map_some Option.map_none Option.getD_some Option.getD_none binVal binObl unVal if_true if_false eq_self passA frnD resD content getH getR getW viaNot viaSlot viaBox viaDeep viaMem List.contains_cons List.contains_nil grabs peeks okCells isCell place cellsOf chunk elt List.headD_cons List.length_cons List.length_nil List.take_succ_cons List.take_zero List.drop_succ_cons List.drop_zero List.nil_append List.cons_append List.append_nil List.all_cons List.all_nil plainC takeR setW over reCell List.getElem?_cons_zero List.getElem?_cons_succ List.set_cons_zero List.take_length outV resG plainV pack outVG outBx List.set_cons_succ Ref.idx Ref.addOff beq_self_eq_true bxL Option.bind_some writeR isLit viaBoxes capsPA boxPA nsOf noDup boxesAt argG passG passD rhoIn rhoOut idxIn tr trL List.getD_cons_zero gives pasOf isPtr Ins.d List.getD_cons_succ resL frnL partB_f partB_t partB_p partB_s St.setP mixR v_slcT List.getLast?_nil List.getLast?_singleton List.dropLast_singleton List.nil_append frnL_fs roL_fs resL_fs passL_fs klL_fs trL_fs map_roD_fs fs_length hS_length frnL_hS roL_hS_own roL_hS_frn roL_hS_ro resL_hS_own resL_hS_ro klL_hS klL_hS_own klL_hS_frn passL_hS_own passL_hS_frn trL_hS_own trL_hS_frn
variable {m : Int × Bool}
open Go.Ob (dec dec_small dec_step)
def digits : AF := ⟨.seq (.reg (.seq [⟨some (2, true), none, .mov (.cst (.string (str [])) (.lit (.string (str [])))) .asg⟩])) [0] []
  (.seq (.seq (.reg (.seq [⟨some (3, false), none, .mov (.tmp 0 true) .peek⟩,⟨some (4, false), none, .bin .lss (.tmp 3 false) (.cst (.int .i64 10) (.lit (.int .i64 10)))⟩])) [0, 4] []
  (.cond (.tmp 4 false)
    (.seq (.reg (.seq [⟨some (5, false), none, .mov (.tmp 0 true) .peek⟩,⟨some (6, false), none, .bin .add (.cst (.int .i64 48) (.lit (.int .i64 48))) (.tmp 5 false)⟩,⟨some (7, false), none, .cvt .u8 (.tmp 6 false)⟩,⟨some (8, false), none, .buildS 1 1 [(.lit (.int .u8 0))] [(0, 1, (.tmp 7 false))]⟩,⟨some (9, false), none, .b2s (.tmp 8 false)⟩,⟨some (2, true), none, .mov (.tmp 9 false) .asg⟩])) [2] []
    (.ret))
    (.skip))) [0] []
  (.seq (.reg (.seq [⟨some (10, false), none, .mov (.tmp 0 true) .peek⟩,⟨some (11, false), none, .bin .quo (.tmp 10 false) (.cst (.int .i64 10) (.lit (.int .i64 10)))⟩,⟨some (12, false), none, .call 76 [.tmp 11 false]⟩,⟨some (13, false), none, .mov (.tmp 0 true) .peek⟩,⟨some (14, false), none, .bin .rem (.tmp 13 false) (.cst (.int .i64 10) (.lit (.int .i64 10)))⟩,⟨some (15, false), none, .call 76 [.tmp 14 false]⟩,⟨some (16, false), none, .bin .add (.tmp 12 false) (.tmp 15 false)⟩,⟨some (2, true), none, .mov (.tmp 16 false) .asg⟩])) [2] []
  (.ret))),
  [.tmp 2]⟩
theorem digits_comp (m : Int × Bool) : compF Tryd.prog (gl m) [] Tryd.f76 = some digits := by kernel_rfl
def place10 : AF := ⟨.seq (.reg (.seq [⟨some (4, true), none, .mov (.cst (.int .i64 0) (.lit (.int .i64 0))) .asg⟩])) [0, 1] []
  (.seq (.seq (.reg (.seq [⟨some (5, false), none, .mov (.tmp 1 true) .peek⟩,⟨some (6, false), none, .bin .eql (.tmp 5 false) (.cst (.int .i64 0) (.lit (.int .i64 0)))⟩])) [0, 6] []
  (.cond (.tmp 6 false)
    (.seq (.reg (.seq [⟨some (7, false), none, .mov (.tmp 0 true) .take⟩,⟨some (4, true), none, .mov (.tmp 7 false) .asg⟩])) [4] []
    (.ret))
    (.skip))) [0] []
  (.seq (.reg (.seq [⟨some (8, false), none, .mov (.tmp 0 true) .peek⟩,⟨some (9, false), none, .bin .add (.tmp 8 false) (.cst (.int .i64 1) (.lit (.int .i64 1)))⟩,⟨some (4, true), none, .mov (.tmp 9 false) .asg⟩])) [4] []
  (.ret))),
  [.tmp 4]⟩
theorem place10_comp (m : Int × Bool) : compF Tryd.prog (gl m) [] Tryd.f77 = some place10 := by kernel_rfl
def head10 : AF := ⟨.seq (.reg (.seq [⟨some (1, true), none, .box (.tmp 0 true)⟩,⟨some (2, true), none, .mov (.cst (.string (str [])) (.lit (.string (str [])))) .asg⟩])) [1] [1]
  (.seq (.reg (.seq [⟨some (6, false), none, .load (.tmp 1 true) 3 true false⟩,⟨some (7, false), none, .call 51 [.tmp 6 false]⟩,⟨some (5, false), none, .mov (.tmp 7 false) .peek⟩,⟨some (8, false), none, .ext (.tmp 5 false) 0⟩,⟨some (9, false), none, .ext (.tmp 5 false) 1⟩,⟨some (3, true), none, .mov (.tmp 8 false) .asg⟩,⟨some (4, true), none, .mov (.tmp 9 false) .asg⟩])) [1, 3, 4] [1]
  (.seq (.reg (.draw [⟨some (10, false), none, .fad (.tmp 1 true) 0⟩,⟨some (11, false), none, .load (.tmp 10 false) 1 false false⟩,⟨some (12, false), none, .mov (.tmp 3 true) .peek⟩,⟨some (13, false), none, .call 77 [.tmp 11 false, .tmp 12 false]⟩,⟨some (14, false), none, .call 76 [.tmp 13 false]⟩,⟨some (15, false), none, .bin .add (.cst (.string (str [64, 32, 45])) (.lit (.string (str [64, 32, 45])))) (.tmp 14 false)⟩,⟨some (16, false), none, .bin .add (.tmp 15 false) (.cst (.string (str [44])) (.lit (.string (str [44]))))⟩,⟨some (17, false), none, .mov (.tmp 3 true) .peek⟩,⟨some (18, false), none, .call 76 [.tmp 17 false]⟩,⟨some (19, false), none, .bin .add (.tmp 16 false) (.tmp 18 false)⟩,⟨some (20, false), none, .bin .add (.tmp 19 false) (.cst (.string (str [32, 43])) (.lit (.string (str [32, 43]))))⟩,⟨some (21, false), none, .fad (.tmp 1 true) 1⟩,⟨some (22, false), none, .load (.tmp 21 false) 1 false false⟩,⟨some (23, false), none, .mov (.tmp 4 true) .peek⟩,⟨some (24, false), none, .call 77 [.tmp 22 false, .tmp 23 false]⟩,⟨some (25, false), none, .call 76 [.tmp 24 false]⟩,⟨some (26, false), none, .bin .add (.tmp 20 false) (.tmp 25 false)⟩,⟨some (27, false), none, .bin .add (.tmp 26 false) (.cst (.string (str [44])) (.lit (.string (str [44]))))⟩,⟨some (28, false), none, .mov (.tmp 4 true) .peek⟩,⟨some (29, false), none, .call 76 [.tmp 28 false]⟩,⟨some (30, false), none, .bin .add (.tmp 27 false) (.tmp 29 false)⟩,⟨some (31, false), none, .bin .add (.tmp 30 false) (.cst (.string (str [32, 64, 10])) (.lit (.string (str [32, 64, 10]))))⟩] (.alt ⟨some (2, true), none, .mov (.tmp 31 false) .asg⟩ []
      .done .no))) [2] []
  (.ret))),
  [.tmp 2]⟩
theorem head10_comp (m : Int × Bool) : compF Tryd.prog (gl m) [] Tryd.f57 = some head10 := by kernel_rfl
def sign : AF := ⟨.seq (.reg (.seq [⟨some (2, true), none, .mov (.cst (.string (str [])) (.lit (.string (str [])))) .asg⟩])) [0] []
  (.seq (.seq (.reg (.seq [⟨some (3, false), none, .mov (.tmp 0 true) .peek⟩,⟨some (4, false), none, .bin .eql (.tmp 3 false) (.cst (.int .i64 2) (.lit (.int .i64 2)))⟩])) [0, 4] []
  (.cond (.tmp 4 false)
    (.seq (.reg (.seq [⟨some (2, true), none, .mov (.cst (.string (str [45])) (.lit (.string (str [45])))) .asg⟩])) [2] []
    (.ret))
    (.skip))) [0] []
  (.seq (.seq (.reg (.seq [⟨some (5, false), none, .mov (.tmp 0 true) .peek⟩,⟨some (6, false), none, .bin .eql (.tmp 5 false) (.cst (.int .i64 3) (.lit (.int .i64 3)))⟩])) [6] []
  (.cond (.tmp 6 false)
    (.seq (.reg (.seq [⟨some (2, true), none, .mov (.cst (.string (str [43])) (.lit (.string (str [43])))) .asg⟩])) [2] []
    (.ret))
    (.skip))) [] []
  (.seq (.reg (.seq [⟨some (2, true), none, .mov (.cst (.string (str [32])) (.lit (.string (str [32])))) .asg⟩])) [2] []
  (.ret)))),
  [.tmp 2]⟩
theorem sign_comp (m : Int × Bool) : compF Tryd.prog (gl m) [] Tryd.f58 = some sign := by kernel_rfl
def rtext_k0' : AC := .seq (.reg (.seq [⟨some (49, false), none, .fad (.tmp 6 true) 1⟩,⟨some (50, false), none, .load (.tmp 49 false) 1 false false⟩,⟨some (51, false), none, .call 59 [.tmp 50 false]⟩])) [0, 3, 4, 5, 51] []
    (.cond (.tmp 51 false)
      (.reg (.seq [⟨some (52, false), none, .mov (.tmp 3 true) .peek⟩,⟨some (53, false), none, .bin .add (.tmp 52 false) (.cst (.string (str [10, 92, 32, 110, 111, 32, 101, 110, 100, 10])) (.lit (.string (str [10, 92, 32, 110, 111, 32, 101, 110, 100, 10]))))⟩,⟨some (3, true), none, .mov (.tmp 53 false) .asg⟩]))
      (.skip))
def rtext_k0 : AC := rtext_k0'
theorem rtext_k0_w (C : Kn) (K : Ex → St → Prop) (s : St) : vcC C rtext_k0 K s = vcC C rtext_k0' K s := nr rfl
def rtext_k1' : AC := .reg (.seq [⟨some (31, false), none, .mov (.tmp 5 true) .peek⟩,⟨some (32, false), none, .bin .add (.tmp 31 false) (.cst (.int .i64 1) (.lit (.int .i64 1)))⟩,⟨some (5, true), none, .mov (.tmp 32 false) .asg⟩])
def rtext_k1 : AC := rtext_k1'
theorem rtext_k1_w (C : Kn) (K : Ex → St → Prop) (s : St) : vcC C rtext_k1 K s = vcC C rtext_k1' K s := nr rfl
def rtext_k2' : AC := .seq (.block 3 (.seq (.reg (.seq [⟨some (33, false), none, .mov (.tmp 0 true) .peek⟩,⟨some (34, false), none, .mov (.tmp 4 true) .peek⟩,⟨some (35, false), none, .iad (.tmp 33 false) (.tmp 34 false) 3⟩,⟨some (36, false), none, .fad (.tmp 35 false) 2⟩,⟨some (37, false), none, .load (.tmp 36 false) 1 false false⟩,⟨some (38, false), none, .mov (.tmp 5 true) .peek⟩,⟨some (39, false), none, .iad (.tmp 37 false) (.tmp 38 false) 2⟩,⟨some (40, false), none, .load (.tmp 39 false) 2 true false⟩,⟨some (6, true), none, .new [(.lit (.int .i64 0)), (.lit (.string (str [])))]⟩,⟨none, none, .store (.tmp 6 true) (.tmp 40 false) 2⟩])) [0, 3, 4, 5, 6] [6]
    (.seq (.reg (.draw [⟨some (41, false), none, .mov (.tmp 3 true) .peek⟩,⟨some (42, false), none, .fad (.tmp 6 true) 0⟩,⟨some (43, false), none, .load (.tmp 42 false) 1 false false⟩,⟨some (44, false), none, .call 58 [.tmp 43 false]⟩,⟨some (45, false), none, .bin .add (.tmp 41 false) (.tmp 44 false)⟩,⟨some (46, false), none, .fad (.tmp 6 true) 1⟩,⟨some (47, false), none, .load (.tmp 46 false) 1 false false⟩,⟨some (48, false), none, .bin .add (.tmp 45 false) (.tmp 47 false)⟩] (.alt ⟨some (3, true), none, .mov (.tmp 48 false) .asg⟩ []
      .done .no))) [0, 3, 4, 5, 6] [6] rtext_k0))) [0, 3, 4, 5] [] rtext_k1
def rtext_k2 : AC := rtext_k2'
theorem rtext_k2_w (C : Kn) (K : Ex → St → Prop) (s : St) : vcC C rtext_k2 K s = vcC C rtext_k2' K s := nr rfl
def rtext_l3' : AC := .seq (.seq (.reg (.seq [⟨some (23, false), none, .mov (.tmp 5 true) .peek⟩,⟨some (24, false), none, .mov (.tmp 0 true) .peek⟩,⟨some (25, false), none, .mov (.tmp 4 true) .peek⟩,⟨some (26, false), none, .iad (.tmp 24 false) (.tmp 25 false) 3⟩,⟨some (27, false), none, .fad (.tmp 26 false) 2⟩,⟨some (28, false), none, .load (.tmp 27 false) 1 false false⟩,⟨some (29, false), none, .lenL (.tmp 28 false)⟩,⟨some (30, false), none, .bin .lss (.tmp 23 false) (.tmp 29 false)⟩])) [0, 3, 4, 5, 30] []
  (.cond (.tmp 30 false)
    (.skip)
    (.exit 2))) [0, 3, 4, 5] [] rtext_k2
def rtext_l3 : AC := rtext_l3'
theorem rtext_l3_w (C : Kn) (K : Ex → St → Prop) (s : St) : vcC C rtext_l3 K s = vcC C rtext_l3' K s := nr rfl
def rtext_k4' : AC := .reg (.seq [⟨some (14, false), none, .mov (.tmp 4 true) .peek⟩,⟨some (15, false), none, .bin .add (.tmp 14 false) (.cst (.int .i64 1) (.lit (.int .i64 1)))⟩,⟨some (4, true), none, .mov (.tmp 15 false) .asg⟩])
def rtext_k4 : AC := rtext_k4'
theorem rtext_k4_w (C : Kn) (K : Ex → St → Prop) (s : St) : vcC C rtext_k4 K s = vcC C rtext_k4' K s := nr rfl
def rtext_k5' : AC := .seq (.block 1 (.seq (.reg (.seq [⟨some (16, false), none, .mov (.tmp 3 true) .peek⟩,⟨some (17, false), none, .mov (.tmp 0 true) .peek⟩,⟨some (18, false), none, .mov (.tmp 4 true) .peek⟩,⟨some (19, false), none, .iad (.tmp 17 false) (.tmp 18 false) 3⟩,⟨some (20, false), none, .load (.tmp 19 false) 3 true false⟩,⟨some (21, false), none, .call 57 [.tmp 20 false]⟩,⟨some (22, false), none, .bin .add (.tmp 16 false) (.tmp 21 false)⟩,⟨some (3, true), none, .mov (.tmp 22 false) .asg⟩])) [0, 3, 4] []
    (.seq (.reg (.seq [⟨some (5, true), none, .mov (.cst (.int .i64 0) (.lit (.int .i64 0))) .asg⟩])) [0, 3, 4, 5] []
    (.block 2 (.loop [0, 3, 4, 5] [] rtext_l3))))) [0, 3, 4] [] rtext_k4
def rtext_k5 : AC := rtext_k5'
theorem rtext_k5_w (C : Kn) (K : Ex → St → Prop) (s : St) : vcC C rtext_k5 K s = vcC C rtext_k5' K s := nr rfl
def rtext_l6' : AC := .seq (.seq (.reg (.seq [⟨some (10, false), none, .mov (.tmp 4 true) .peek⟩,⟨some (11, false), none, .mov (.tmp 0 true) .peek⟩,⟨some (12, false), none, .lenL (.tmp 11 false)⟩,⟨some (13, false), none, .bin .lss (.tmp 10 false) (.tmp 12 false)⟩])) [0, 3, 4, 13] []
  (.cond (.tmp 13 false)
    (.skip)
    (.exit 0))) [0, 3, 4] [] rtext_k5
def rtext_l6 : AC := rtext_l6'
theorem rtext_l6_w (C : Kn) (K : Ex → St → Prop) (s : St) : vcC C rtext_l6 K s = vcC C rtext_l6' K s := nr rfl
def rtext_k7' : AC := .seq (.reg (.seq [⟨some (54, false), none, .mov (.tmp 3 true) .take⟩,⟨some (2, true), none, .mov (.tmp 54 false) .asg⟩])) [2] []
  (.ret)
def rtext_k7 : AC := rtext_k7'
theorem rtext_k7_w (C : Kn) (K : Ex → St → Prop) (s : St) : vcC C rtext_k7 K s = vcC C rtext_k7' K s := nr rfl
def rtext_k8' : AC := .seq (.reg (.seq [⟨some (3, true), none, .mov (.cst (.string (str [])) (.lit (.string (str [])))) .asg⟩])) [0, 3] []
  (.seq (.seq (.reg (.seq [⟨some (4, true), none, .mov (.cst (.int .i64 0) (.lit (.int .i64 0))) .asg⟩])) [0, 3, 4] []
  (.block 0 (.loop [0, 3, 4] [] rtext_l6))) [3] [] rtext_k7)
def rtext_k8 : AC := rtext_k8'
theorem rtext_k8_w (C : Kn) (K : Ex → St → Prop) (s : St) : vcC C rtext_k8 K s = vcC C rtext_k8' K s := nr rfl
def rtext : AF := ⟨.seq (.reg (.seq [⟨some (2, true), none, .mov (.cst (.string (str [])) (.lit (.string (str [])))) .asg⟩])) [0] []
  (.seq (.seq (.reg (.seq [⟨some (7, false), none, .mov (.tmp 0 true) .peek⟩,⟨some (8, false), none, .call 29 [.tmp 7 false]⟩,⟨some (9, false), none, .un .not (.tmp 8 false)⟩])) [0, 9] []
  (.cond (.tmp 9 false)
    (.seq (.reg (.seq [⟨some (2, true), none, .mov (.cst (.string (str [])) (.lit (.string (str [])))) .asg⟩])) [2] []
    (.ret))
    (.skip))) [0] [] rtext_k8),
  [.tmp 2]⟩
theorem rtext_comp (m : Int × Bool) : compF Tryd.prog (gl m) [] Tryd.f31 = some rtext := by kernel_rfl
theorem w_ofNat (n : Nat) : IntKind.u8.wrap ((n : Nat) : Int) = ((UInt8.ofNat n).toNat : Int) := by
  rw [UInt8.toNat_ofNat']; simp only [IntKind.wrap]; first | rfl | omega | (simp; omega)
theorem digits_snd (n : Nat) (hn : n ≤ 4294960000) : Snd Tryd.prog (gl m) 76 [N n] (S (dec n)) := by
  induction n using Nat.strongRecOn with
  | _ n ih =>
    refine snd_of (fn := Tryd.f76) (af := digits) Tryd.func76 (digits_comp m) mixed (kn_ok m) (Nat.le_of_ble_eq_true rfl) ?_
    simp only [digits, go_sem, reduceCtorEq, Nat.reduceEqDiff, reduceIte, Nat.reduceAdd, Nat.reduceSub, Nat.reduceLeDiff, Int.reduceToNat, Nat.reduceBEq]
    by_cases h : n < 10
    · have r4 : IntKind.i64.wrap (48 + ((n : Nat) : Int)) = ((48 + n : Nat) : Int) := by rw [IntKind.wrap_i64]; omega
      rw [dec_small h]
      simp only [lt_t h, ilt_t (show ((n : Nat) : Int) < 10 by omega), r4, w_ofNat, go_sem, reduceCtorEq, Nat.reduceEqDiff, reduceIte, Nat.reduceAdd, Nat.reduceSub, Nat.reduceLeDiff, Int.reduceToNat, Nat.reduceBEq]
      repeat ((with_reducible apply And.intro); (case left => first | omega | (simp only [List.length_append, List.length_cons, List.length_nil, List.length_drop, List.length_take, List.length_tail, List.length_dropLast, fs_length, ss_length, bs_length, ns_length]; omega)))
      exact ⟨_, (bs_str [UInt8.ofNat (48 + n)]).symm, rfl⟩
    · have r1 : ((n : Int).tmod 10) = ((n % 10 : Nat) : Int) := by rw [show (10 : Int) = ((10 : Nat) : Int) by rfl, ← Int.ofNat_tmod]
      have r2 : IntKind.i64.wrap ((n : Int).tdiv 10) = ((n / 10 : Nat) : Int) := by rw [show (10 : Int) = ((10 : Nat) : Int) by rfl, ← Int.ofNat_tdiv, IntKind.wrap_i64]; omega
      simp only [ilt_f (show ¬ ((n : Nat) : Int) < 10 by omega), r1, r2, go_sem, reduceCtorEq, Nat.reduceEqDiff, reduceIte, Nat.reduceAdd, Nat.reduceSub, Nat.reduceLeDiff, Int.reduceToNat, Nat.reduceBEq]
      repeat ((with_reducible apply And.intro); (case left => first | omega | (simp only [List.length_append, List.length_cons, List.length_nil, List.length_drop, List.length_take, List.length_tail, List.length_dropLast, fs_length, ss_length, bs_length, ns_length]; omega)))
      repeat ((with_reducible apply And.intro); (case left => first | omega | (simp only [List.length_append, List.length_cons, List.length_nil, List.length_drop, List.length_take, List.length_tail, List.length_dropLast, fs_length, ss_length, bs_length, ns_length]; omega)))
      refine of_call (ih (n / 10) (by omega) (by omega)) ?_
      simp only [go_sem, reduceCtorEq, Nat.reduceEqDiff, reduceIte, Nat.reduceAdd, Nat.reduceSub, Nat.reduceLeDiff, Int.reduceToNat, Nat.reduceBEq]
      repeat ((with_reducible apply And.intro); (case left => first | omega | (simp only [List.length_append, List.length_cons, List.length_nil, List.length_drop, List.length_take, List.length_tail, List.length_dropLast, fs_length, ss_length, bs_length, ns_length]; omega)))
      repeat ((with_reducible apply And.intro); (case left => first | omega | (simp only [List.length_append, List.length_cons, List.length_nil, List.length_drop, List.length_take, List.length_tail, List.length_dropLast, fs_length, ss_length, bs_length, ns_length]; omega)))
      refine of_call (ih (n % 10) (by omega) (by omega)) ?_
      simp only [go_sem, reduceCtorEq, Nat.reduceEqDiff, reduceIte, Nat.reduceAdd, Nat.reduceSub, Nat.reduceLeDiff, Int.reduceToNat, Nat.reduceBEq]
      repeat ((with_reducible apply And.intro); (case left => first | omega | (simp only [List.length_append, List.length_cons, List.length_nil, List.length_drop, List.length_take, List.length_tail, List.length_dropLast, fs_length, ss_length, bs_length, ns_length]; omega)))
      rw [dec_step h, dec_small (show n % 10 < 10 by omega)]
      have := dec_len (n / 10) (by omega)
      exact ⟨by rw [List.length_singleton]; omega, rfl⟩
theorem place_snd (f n : Nat) (hf : f ≤ 4294950000) : Snd Tryd.prog (gl m) 77 [N f, N n] (N (placeN f n)) := by
  refine snd_of (fn := Tryd.f77) (af := place10) Tryd.func77 (place10_comp m) mixed (kn_ok m) (Nat.le_of_ble_eq_true rfl) ?_
  simp only [place10, go_sem, reduceCtorEq, Nat.reduceEqDiff, reduceIte, Nat.reduceAdd, Nat.reduceSub, Nat.reduceLeDiff, Int.reduceToNat, Nat.reduceBEq]
  by_cases h : n = 0
  · have e : placeN f n = f := by rw [placeN, if_pos h]; omega
    rw [e]
    simp only [eq_t (show ((n : Nat) : Int) = 0 by omega), go_sem, reduceCtorEq, Nat.reduceEqDiff, reduceIte, Nat.reduceAdd, Nat.reduceSub, Nat.reduceLeDiff, Int.reduceToNat, Nat.reduceBEq]
    first | rfl | omega | trace_state
  · have e : IntKind.i64.wrap (((f : Nat) : Int) + 1) = ((placeN f n : Nat) : Int) := by rw [placeN, if_neg h]; rw [IntKind.wrap_i64]; omega
    simp only [eq_f (show ((n : Nat) : Int) ≠ 0 by omega), e, go_sem, reduceCtorEq, Nat.reduceEqDiff, reduceIte, Nat.reduceAdd, Nat.reduceSub, Nat.reduceLeDiff, Int.reduceToNat, Nat.reduceBEq]
    first | rfl | omega | trace_state
theorem sign_snd (k : Int) : Snd Tryd.prog (gl m) 58 [I k] (S (signB k)) := by
  refine snd_of (fn := Tryd.f58) (af := sign) Tryd.func58 (sign_comp m) mixed (kn_ok m) (Nat.le_of_ble_eq_true rfl) ?_
  simp only [sign, go_sem, reduceCtorEq, Nat.reduceEqDiff, reduceIte, Nat.reduceAdd, Nat.reduceSub, Nat.reduceLeDiff, Int.reduceToNat, Nat.reduceBEq]
  by_cases h2 : k = 2
  · subst h2
    simp only [eq_t rfl, go_sem, reduceCtorEq, Nat.reduceEqDiff, reduceIte, Nat.reduceAdd, Nat.reduceSub, Nat.reduceLeDiff, Int.reduceToNat, Nat.reduceBEq]
    first | rfl | omega | trace_state
  by_cases h3 : k = 3
  · subst h3
    simp only [eq_f (show (3 : Int) ≠ 2 by decide), eq_t rfl, go_sem, reduceCtorEq, Nat.reduceEqDiff, reduceIte, Nat.reduceAdd, Nat.reduceSub, Nat.reduceLeDiff, Int.reduceToNat, Nat.reduceBEq]
    first | rfl | omega | trace_state
  rw [signB, if_neg h2, if_neg h3]
  simp only [eq_f h2, eq_f h3, go_sem, reduceCtorEq, Nat.reduceEqDiff, reduceIte, Nat.reduceAdd, Nat.reduceSub, Nat.reduceLeDiff, Int.reduceToNat, Nat.reduceBEq]
  first | rfl | omega | trace_state
end Go.Hk
namespace Go.Hk
open Go Go.Ev Go.Proofs
set_option linter.unusedVariables false
set_option linter.unusedSimpArgs false
set_option maxHeartbeats 4000000
attribute [local go_sem] eqs implies_true List.map_cons List.map_nil kl klL roD roL Option.map_some Option.map_none Option.getD_some Option.getD_none binVal binObl unVal if_true if_false eq_self passA frnD resD content getH getR getW viaNot viaSlot viaBox viaDeep viaMem List.contains_cons List.contains_nil grabs peeks okCells isCell place cellsOf chunk elt List.headD_cons List.length_cons List.length_nil List.take_succ_cons List.take_zero List.drop_succ_cons List.drop_zero List.nil_append List.cons_append List.append_nil List.all_cons List.all_nil plainC takeR setW over reCell List.getElem?_cons_zero List.getElem?_cons_succ List.set_cons_zero List.take_length outV resG plainV pack outVG outBx List.set_cons_succ Ref.idx Ref.addOff beq_self_eq_true bxL Option.bind_some writeR isLit viaBoxes capsPA boxPA nsOf noDup boxesAt argG passG passD rhoIn rhoOut idxIn tr trL List.getD_cons_zero gives pasOf isPtr Ins.d List.getD_cons_succ resL frnL partB_f partB_t partB_p partB_s St.setP mixR v_slcT List.getLast?_nil List.getLast?_singleton List.dropLast_singleton List.nil_append frnL_fs roL_fs resL_fs passL_fs klL_fs trL_fs map_roD_fs fs_length hS_length frnL_hS roL_hS_own roL_hS_frn roL_hS_ro resL_hS_own resL_hS_ro klL_hS klL_hS_own klL_hS_frn passL_hS_own passL_hS_frn trL_hS_own trL_hS_frn
variable {m : Int × Bool}
open Go.Ob (dec dec_small dec_step)
theorem flat_le {α : Type} (f : α → Bs) (l : List α) (i : Nat) : ((l.take i).flatMap f).length ≤ (l.flatMap f).length := by
  have : l.flatMap f = (l.take i).flatMap f ++ (l.drop i).flatMap f := by rw [← List.flatMap_append, List.take_append_drop]
  rw [this, List.length_append]; omega
theorem flat_take {α : Type} (f : α → Bs) {l : List α} {i : Nat} (h : i < l.length) : (l.take (i + 1)).flatMap f = (l.take i).flatMap f ++ f l[i] := by rw [take_snoc h, flat_snoc]
theorem head10_snd (h : Hk) (hl : h.2.2.length ≤ 1048576) (f t : Nat) (hf : h.1 = f) (ht : h.2.1 = t) (hf4 : f ≤ 4096) (ht4 : t ≤ 4096) : Snd Tryd.prog (gl m) 57 [hT .frn h] (S (headB h.1 (cntO h.2.2) h.2.1 (cntN h.2.2))) := by
  refine snd_of (fn := Tryd.f57) (af := head10) Tryd.func57 (head10_comp m) mixed (kn_ok m) (Nat.le_of_ble_eq_true rfl) ?_
  simp only [head10, go_sem, reduceCtorEq, Nat.reduceEqDiff, reduceIte, Nat.reduceAdd, Nat.reduceSub, Nat.reduceLeDiff, Int.reduceToNat, Nat.reduceBEq]
  repeat ((with_reducible apply And.intro); (case left => first | omega | (simp only [List.length_append, List.length_cons, List.length_nil, List.length_drop, List.length_take, List.length_tail, List.length_dropLast, fs_length, ss_length, bs_length, ns_length]; omega)))
  have c1 := cntO_le h.2.2
  have c2 := cntN_le h.2.2
  have d1 := dec_len (placeN f (cntO h.2.2)) (by rw [placeN]; split <;> omega)
  have d2 := dec_len (cntO h.2.2) (by omega)
  have d3 := dec_len (placeN t (cntN h.2.2)) (by rw [placeN]; split <;> omega)
  have d4 := dec_len (cntN h.2.2) (by omega)
  have p1 : placeN f (cntO h.2.2) ≤ 4097 := by rw [placeN]; split <;> omega
  have p2 : placeN t (cntN h.2.2) ≤ 4097 := by rw [placeN]; split <;> omega
  repeat ((with_reducible apply And.intro); (case left => first | omega | (simp only [List.length_append, List.length_cons, List.length_nil, List.length_drop, List.length_take, List.length_tail, List.length_dropLast, fs_length, ss_length, bs_length, ns_length]; omega)))
  refine of_call (rcounts_snd h hl) ?_
  simp only [go_sem, reduceCtorEq, Nat.reduceEqDiff, reduceIte, Nat.reduceAdd, Nat.reduceSub, Nat.reduceLeDiff, Int.reduceToNat, Nat.reduceBEq]
  repeat ((with_reducible apply And.intro); (case left => first | omega | (simp only [List.length_append, List.length_cons, List.length_nil, List.length_drop, List.length_take, List.length_tail, List.length_dropLast, fs_length, ss_length, bs_length, ns_length]; omega)))
  rw [hf, ht] at *
  repeat ((with_reducible apply And.intro); (case left => first | omega | (simp only [List.length_append, List.length_cons, List.length_nil, List.length_drop, List.length_take, List.length_tail, List.length_dropLast, fs_length, ss_length, bs_length, ns_length]; omega)))
  refine of_call (place_snd f (cntO h.2.2) (by omega)) ?_
  simp only [go_sem, reduceCtorEq, Nat.reduceEqDiff, reduceIte, Nat.reduceAdd, Nat.reduceSub, Nat.reduceLeDiff, Int.reduceToNat, Nat.reduceBEq]
  repeat ((with_reducible apply And.intro); (case left => first | omega | (simp only [List.length_append, List.length_cons, List.length_nil, List.length_drop, List.length_take, List.length_tail, List.length_dropLast, fs_length, ss_length, bs_length, ns_length]; omega)))
  repeat ((with_reducible apply And.intro); (case left => first | omega | (simp only [List.length_append, List.length_cons, List.length_nil, List.length_drop, List.length_take, List.length_tail, List.length_dropLast, fs_length, ss_length, bs_length, ns_length]; omega)))
  refine of_call (digits_snd (placeN f (cntO h.2.2)) (by omega)) ?_
  simp only [go_sem, reduceCtorEq, Nat.reduceEqDiff, reduceIte, Nat.reduceAdd, Nat.reduceSub, Nat.reduceLeDiff, Int.reduceToNat, Nat.reduceBEq]
  repeat ((with_reducible apply And.intro); (case left => first | omega | (simp only [List.length_append, List.length_cons, List.length_nil, List.length_drop, List.length_take, List.length_tail, List.length_dropLast, fs_length, ss_length, bs_length, ns_length]; omega)))
  repeat ((with_reducible apply And.intro); (case left => first | omega | (simp only [List.length_append, List.length_cons, List.length_nil, List.length_drop, List.length_take, List.length_tail, List.length_dropLast, fs_length, ss_length, bs_length, ns_length]; omega)))
  refine of_call (digits_snd (cntO h.2.2) (by omega)) ?_
  simp only [go_sem, reduceCtorEq, Nat.reduceEqDiff, reduceIte, Nat.reduceAdd, Nat.reduceSub, Nat.reduceLeDiff, Int.reduceToNat, Nat.reduceBEq]
  repeat ((with_reducible apply And.intro); (case left => first | omega | (simp only [List.length_append, List.length_cons, List.length_nil, List.length_drop, List.length_take, List.length_tail, List.length_dropLast, fs_length, ss_length, bs_length, ns_length]; omega)))
  repeat ((with_reducible apply And.intro); (case left => first | omega | (simp only [List.length_append, List.length_cons, List.length_nil, List.length_drop, List.length_take, List.length_tail, List.length_dropLast, fs_length, ss_length, bs_length, ns_length]; omega)))
  refine of_call (place_snd t (cntN h.2.2) (by omega)) ?_
  simp only [go_sem, reduceCtorEq, Nat.reduceEqDiff, reduceIte, Nat.reduceAdd, Nat.reduceSub, Nat.reduceLeDiff, Int.reduceToNat, Nat.reduceBEq]
  repeat ((with_reducible apply And.intro); (case left => first | omega | (simp only [List.length_append, List.length_cons, List.length_nil, List.length_drop, List.length_take, List.length_tail, List.length_dropLast, fs_length, ss_length, bs_length, ns_length]; omega)))
  repeat ((with_reducible apply And.intro); (case left => first | omega | (simp only [List.length_append, List.length_cons, List.length_nil, List.length_drop, List.length_take, List.length_tail, List.length_dropLast, fs_length, ss_length, bs_length, ns_length]; omega)))
  refine of_call (digits_snd (placeN t (cntN h.2.2)) (by omega)) ?_
  simp only [go_sem, reduceCtorEq, Nat.reduceEqDiff, reduceIte, Nat.reduceAdd, Nat.reduceSub, Nat.reduceLeDiff, Int.reduceToNat, Nat.reduceBEq]
  repeat ((with_reducible apply And.intro); (case left => first | omega | (simp only [List.length_append, List.length_cons, List.length_nil, List.length_drop, List.length_take, List.length_tail, List.length_dropLast, fs_length, ss_length, bs_length, ns_length]; omega)))
  repeat ((with_reducible apply And.intro); (case left => first | omega | (simp only [List.length_append, List.length_cons, List.length_nil, List.length_drop, List.length_take, List.length_tail, List.length_dropLast, fs_length, ss_length, bs_length, ns_length]; omega)))
  refine of_call (digits_snd (cntN h.2.2) (by omega)) ?_
  simp only [go_sem, reduceCtorEq, Nat.reduceEqDiff, reduceIte, Nat.reduceAdd, Nat.reduceSub, Nat.reduceLeDiff, Int.reduceToNat, Nat.reduceBEq]
  repeat ((with_reducible apply And.intro); (case left => first | omega | (simp only [List.length_append, List.length_cons, List.length_nil, List.length_drop, List.length_take, List.length_tail, List.length_dropLast, fs_length, ss_length, bs_length, ns_length]; omega)))
  first | done | (rw [headB]; simp only [List.append_assoc, List.cons_append, List.nil_append])
set_option maxRecDepth 8000 in
theorem rtext_snd (l : List Hk) (hl : okHs l) (hT : (l.flatMap hunkB).length ≤ 140737488355328) : Snd Tryd.prog (gl m) 31 [.sl .frn 3 (hS .frn l)] (S (textB l)) := by
  refine snd_of (fn := Tryd.f31) (af := rtext) Tryd.func31 (rtext_comp m) mixed (kn_ok m) (Nat.le_of_ble_eq_true rfl) ?_
  simp only [rtext, go_sem, reduceCtorEq, Nat.reduceEqDiff, reduceIte, Nat.reduceAdd, Nat.reduceSub, Nat.reduceLeDiff, Int.reduceToNat, Nat.reduceBEq]
  repeat ((with_reducible apply And.intro); (case left => first | omega | (simp only [List.length_append, List.length_cons, List.length_nil, List.length_drop, List.length_take, List.length_tail, List.length_dropLast, fs_length, ss_length, bs_length, ns_length]; omega)))
  refine of_call (rright_snd l hl) ?_
  simp only [go_sem, reduceCtorEq, Nat.reduceEqDiff, reduceIte, Nat.reduceAdd, Nat.reduceSub, Nat.reduceLeDiff, Int.reduceToNat, Nat.reduceBEq]
  repeat ((with_reducible apply And.intro); (case left => first | omega | (simp only [List.length_append, List.length_cons, List.length_nil, List.length_drop, List.length_take, List.length_tail, List.length_dropLast, fs_length, ss_length, bs_length, ns_length]; omega)))
  rw [textB]
  cases hv : valid l with
  | false =>
    simp only [unVal, Bool.not_false, Bool.false_eq_true, if_false, go_sem, reduceCtorEq, Nat.reduceEqDiff, reduceIte, Nat.reduceAdd, Nat.reduceSub, Nat.reduceLeDiff, Int.reduceToNat, Nat.reduceBEq]
    try first | rfl | trace_state
  | true =>
    rw [if_pos rfl]
    obtain ⟨hll, hls⟩ := hl
    simp only [unVal, Bool.not_true, rtext_k8_w, rtext_k8', go_sem, reduceCtorEq, Nat.reduceEqDiff, reduceIte, Nat.reduceAdd, Nat.reduceSub, Nat.reduceLeDiff, Int.reduceToNat, Nat.reduceBEq]
    refine loop_up l.length (fun i => mkS [(0, .sl .frn 3 (hS .frn l)), (3, S ((l.take i).flatMap hunkB)), (4, N i)] []) rfl ?_
    intro i hi ih
    simp only [rtext_l6_w, rtext_l6', go_sem, reduceCtorEq, Nat.reduceEqDiff, reduceIte, Nat.reduceAdd, Nat.reduceSub, Nat.reduceLeDiff, Int.reduceToNat, Nat.reduceBEq]
    repeat ((with_reducible apply And.intro); (case left => first | omega | (simp only [List.length_append, List.length_cons, List.length_nil, List.length_drop, List.length_take, List.length_tail, List.length_dropLast, fs_length, ss_length, bs_length, ns_length]; omega)))
    by_cases h : i < l.length
    · have g := hS_get (fl := .frn) h
      obtain ⟨xl, xs⟩ := hls l[i] (List.getElem_mem h)
      have hx : ∀ x, x ∈ l[i].2.2 → (x.1 = 1 ∨ x.1 = 2 ∨ x.1 = 3) ∧ isLine x.2 = true := fun x hx => valid_line hv (List.getElem_mem h) hx
      have hb := valid_from hv h
      have hle := flat_le hunkB l i
      have hle2 := flat_le hunkB l (i + 1)
      rw [flat_take hunkB h] at ih hle2
      have qi : IntKind.i64.wrap ((i : Int) + 1) = ((i + 1 : Nat) : Int) := wrapN _ (by omega) (by omega)
      generalize l[i] = H at g xl xs hx hb ih hle2
      generalize (l.take i).flatMap hunkB = out at ih hle hle2 ⊢
      obtain ⟨f, hf⟩ : ∃ f : Nat, H.1 = f := ⟨H.1.toNat, by omega⟩
      obtain ⟨t, ht⟩ : ∃ t : Nat, H.2.1 = t := ⟨H.2.1.toNat, by omega⟩
      simp only [lt_t h, g, Int.toNat_natCast, rtext_k5_w, rtext_k5', go_sem, reduceCtorEq, Nat.reduceEqDiff, reduceIte, Nat.reduceAdd, Nat.reduceSub, Nat.reduceLeDiff, Int.reduceToNat, Nat.reduceBEq]
      repeat ((with_reducible apply And.intro); (case left => first | omega | (simp only [List.length_append, List.length_cons, List.length_nil, List.length_drop, List.length_take, List.length_tail, List.length_dropLast, fs_length, ss_length, bs_length, ns_length]; omega)))
      have hhd : hunkB H = headB H.1 (cntO H.2.2) H.2.1 (cntN H.2.2) ++ H.2.2.flatMap lineB := rfl
      rw [hhd] at ih hle2
      refine of_call (head10_snd H xl f t hf ht (by omega) (by omega)) ?_
      generalize headB H.1 (cntO H.2.2) H.2.1 (cntN H.2.2) = hd at ih hle2 ⊢
      rw [← List.append_assoc] at ih hle2
      rw [List.length_append] at hle2
      have ho2 : (out ++ hd).length ≤ 140737488355328 := by omega
      have ho2' := ho2
      rw [List.length_append] at ho2'
      simp only [go_sem, reduceCtorEq, Nat.reduceEqDiff, reduceIte, Nat.reduceAdd, Nat.reduceSub, Nat.reduceLeDiff, Int.reduceToNat, Nat.reduceBEq]
      repeat ((with_reducible apply And.intro); (case left => first | omega | (simp only [List.length_append, List.length_cons, List.length_nil, List.length_drop, List.length_take, List.length_tail, List.length_dropLast, fs_length, ss_length, bs_length, ns_length]; omega)))
      generalize out ++ hd = o2 at ih hle2 ho2 ⊢
      refine loop_up H.2.2.length (fun k => mkS [(0, .sl .frn 3 (hS .frn l)), (3, S (o2 ++ (H.2.2.take k).flatMap lineB)), (4, N i), (5, N k)] []) ?_ ?_
      · simp only [List.take_zero, List.flatMap_nil, List.append_nil]; rfl
      intro k hk ihk
      simp only [rtext_l3_w, rtext_l3', g, Int.toNat_natCast, go_sem, reduceCtorEq, Nat.reduceEqDiff, reduceIte, Nat.reduceAdd, Nat.reduceSub, Nat.reduceLeDiff, Int.reduceToNat, Nat.reduceBEq]
      repeat ((with_reducible apply And.intro); (case left => first | omega | (simp only [List.length_append, List.length_cons, List.length_nil, List.length_drop, List.length_take, List.length_tail, List.length_dropLast, fs_length, ss_length, bs_length, ns_length]; omega)))
      by_cases hkl : k < H.2.2.length
      · have g2 := fs_getL hkl
        have q2 : IntKind.i64.wrap ((k : Int) + 1) = ((k + 1 : Nat) : Int) := wrapN _ (by omega) (by omega)
        have hle3 := flat_le lineB H.2.2 k
        have hx1 := hx H.2.2[k] (List.getElem_mem hkl)
        have hx2 := xs H.2.2[k] (List.getElem_mem hkl)
        rw [flat_take lineB hkl, ← List.append_assoc] at ihk
        have ho3 : (o2 ++ (H.2.2.take k).flatMap lineB).length ≤ 281474976710656 := by rw [List.length_append]; omega
        generalize H.2.2[k] = x at g2 hx1 hx2 ihk
        generalize o2 ++ (H.2.2.take k).flatMap lineB = o3 at ihk ho3 ⊢
        obtain ⟨c, s⟩ := x
        dsimp only at hx1 hx2
        have hne : s ≠ [] := by rintro rfl; simp [isLine] at hx1
        have hsl : (signB c).length = 1 := by
          rcases hx1.1 with rfl | rfl | rfl <;> rfl
        simp only [lt_t hkl, g, g2, Int.toNat_natCast, rtext_k2_w, rtext_k2', go_sem, reduceCtorEq, Nat.reduceEqDiff, reduceIte, Nat.reduceAdd, Nat.reduceSub, Nat.reduceLeDiff, Int.reduceToNat, Nat.reduceBEq]
        repeat ((with_reducible apply And.intro); (case left => first | omega | (simp only [List.length_append, List.length_cons, List.length_nil, List.length_drop, List.length_take, List.length_tail, List.length_dropLast, fs_length, ss_length, bs_length, ns_length]; omega)))
        refine of_call (sign_snd c) ?_
        simp only [go_sem, reduceCtorEq, Nat.reduceEqDiff, reduceIte, Nat.reduceAdd, Nat.reduceSub, Nat.reduceLeDiff, Int.reduceToNat, Nat.reduceBEq]
        repeat ((with_reducible apply And.intro); (case left => first | omega | (simp only [List.length_append, List.length_cons, List.length_nil, List.length_drop, List.length_take, List.length_tail, List.length_dropLast, fs_length, ss_length, bs_length, ns_length]; omega)))
        simp only [rtext_k0_w, rtext_k0', go_sem, reduceCtorEq, Nat.reduceEqDiff, reduceIte, Nat.reduceAdd, Nat.reduceSub, Nat.reduceLeDiff, Int.reduceToNat, Nat.reduceBEq]
        repeat ((with_reducible apply And.intro); (case left => first | omega | (simp only [List.length_append, List.length_cons, List.length_nil, List.length_drop, List.length_take, List.length_tail, List.length_dropLast, fs_length, ss_length, bs_length, ns_length]; omega)))
        refine of_call (ropen_snd s hx2 hne) ?_
        rw [lineB] at ihk
        dsimp only at ihk
        cases ho : openL s with
        | false =>
          rw [ho, if_neg (by simp), List.append_nil, ← List.append_assoc] at ihk
          simp only [rtext_k1_w, rtext_k1', q2, go_sem, reduceCtorEq, Nat.reduceEqDiff, reduceIte, Nat.reduceAdd, Nat.reduceSub, Nat.reduceLeDiff, Int.reduceToNat, Nat.reduceBEq]
          repeat ((with_reducible apply And.intro); (case left => first | omega | (simp only [List.length_append, List.length_cons, List.length_nil, List.length_drop, List.length_take, List.length_tail, List.length_dropLast, fs_length, ss_length, bs_length, ns_length]; omega)))
          exact ihk hkl
        | true =>
          rw [ho, if_pos rfl, show (10 :: markB : Bs) = [10, 92, 32, 110, 111, 32, 101, 110, 100, 10] from rfl, ← List.append_assoc, ← List.append_assoc] at ihk
          simp only [rtext_k1_w, rtext_k1', q2, go_sem, reduceCtorEq, Nat.reduceEqDiff, reduceIte, Nat.reduceAdd, Nat.reduceSub, Nat.reduceLeDiff, Int.reduceToNat, Nat.reduceBEq]
          repeat ((with_reducible apply And.intro); (case left => first | omega | (simp only [List.length_append, List.length_cons, List.length_nil, List.length_drop, List.length_take, List.length_tail, List.length_dropLast, fs_length, ss_length, bs_length, ns_length]; omega)))
          exact ihk hkl
      · obtain rfl : k = H.2.2.length := by omega
        rw [List.take_length]
        simp only [lt_f hkl, rtext_k4_w, rtext_k4', qi, go_sem, reduceCtorEq, Nat.reduceEqDiff, reduceIte, Nat.reduceAdd, Nat.reduceSub, Nat.reduceLeDiff, Int.reduceToNat, Nat.reduceBEq]
        exact ih h
    · obtain rfl : i = l.length := by omega
      rw [List.take_length]
      simp only [lt_f h, rtext_k7_w, rtext_k7', go_sem, reduceCtorEq, Nat.reduceEqDiff, reduceIte, Nat.reduceAdd, Nat.reduceSub, Nat.reduceLeDiff, Int.reduceToNat, Nat.reduceBEq]
      first | rfl | omega | trace_state
end Go.Hk
namespace Go.Hk
open Go Go.Ev Go.Proofs
set_option linter.unusedVariables false
set_option linter.unusedSimpArgs false
set_option maxHeartbeats 4000000
attribute [local go_sem] eqs implies_true List.map_cons List.map_nil kl klL roD roL Option.map_some Option.map_none Option.getD_some Option.getD_none binVal binObl unVal if_true if_false eq_self passA frnD resD content getH getR getW viaNot viaSlot viaBox viaDeep viaMem List.contains_cons List.contains_nil grabs peeks okCells isCell place cellsOf chunk elt List.headD_cons List.length_cons List.length_nil List.take_succ_cons List.take_zero List.drop_succ_cons List.drop_zero List.nil_append List.cons_append List.append_nil List.all_cons List.all_nil plainC takeR setW over reCell List.getElem?_cons_zero List.getElem?_cons_succ List.set_cons_zero List.take_length outV resG plainV pack outVG outBx List.set_cons_succ Ref.idx Ref.addOff beq_self_eq_true bxL Option.bind_some writeR isLit viaBoxes capsPA boxPA nsOf noDup boxesAt argG passG passD rhoIn rhoOut idxIn tr trL List.getD_cons_zero gives pasOf isPtr Ins.d List.getD_cons_succ resL frnL partB_f partB_t partB_p partB_s St.setP mixR v_slcT List.getLast?_nil List.getLast?_singleton List.dropLast_singleton List.nil_append frnL_fs roL_fs resL_fs passL_fs klL_fs trL_fs map_roD_fs fs_length hS_length frnL_hS roL_hS_own roL_hS_frn roL_hS_ro resL_hS_own resL_hS_ro klL_hS klL_hS_own klL_hS_frn passL_hS_own passL_hS_frn trL_hS_own trL_hS_frn
variable {m : Int × Bool}
def turned_k0' : AC := .cond (.tmp 26 false)
      (.exit 1)
      (.skip)
def turned_k0 : AC := turned_k0'
theorem turned_k0_w (C : Kn) (K : Ex → St → Prop) (s : St) : vcC C turned_k0 K s = vcC C turned_k0' K s := nr rfl
def turned_k1' : AC := .reg (.seq [⟨some (35, false), none, .mov (.tmp 7 true) .peek⟩,⟨some (36, false), none, .bin .add (.tmp 35 false) (.cst (.int .i64 1) (.lit (.int .i64 1)))⟩,⟨some (7, true), none, .mov (.tmp 36 false) .asg⟩])
def turned_k1 : AC := turned_k1'
theorem turned_k1_w (C : Kn) (K : Ex → St → Prop) (s : St) : vcC C turned_k1 K s = vcC C turned_k1' K s := nr rfl
def turned_k2' : AC := .seq (.block 3 (.seq (.reg (.seq [⟨some (37, false), none, .mov (.tmp 6 true) .peek⟩,⟨some (38, false), none, .mov (.tmp 7 true) .peek⟩,⟨some (39, false), none, .iad (.tmp 37 false) (.tmp 38 false) 2⟩,⟨some (40, false), none, .fad (.tmp 39 false) 0⟩,⟨some (41, false), none, .load (.tmp 40 false) 1 false false⟩,⟨some (42, false), none, .bin .eql (.tmp 41 false) (.cst (.int .i64 3) (.lit (.int .i64 3)))⟩])) [0, 3, 5, 6, 7, 42] []
    (.cond (.tmp 42 false)
      (.reg (.seq [⟨some (43, false), none, .mov (.tmp 3 true) .take⟩,⟨some (44, false), none, .mov (.tmp 6 true) .peek⟩,⟨some (45, false), none, .mov (.tmp 7 true) .peek⟩,⟨some (46, false), none, .iad (.tmp 44 false) (.tmp 45 false) 2⟩,⟨some (47, false), none, .fad (.tmp 46 false) 1⟩,⟨some (48, false), none, .load (.tmp 47 false) 1 false true⟩,⟨some (49, false), none, .build [(.lit (.int .i64 0)), (.lit (.string (str [])))] [(0, 1, (.cst (.int .i64 2) (.lit (.int .i64 2)))), (1, 1, (.tmp 48 false))]⟩,⟨some (50, false), none, .buildS 2 1 [(.lit (.int .i64 0)), (.lit (.string (str [])))] [(0, 2, (.tmp 49 false))]⟩,⟨some (51, false), none, .app 2 24 (.tmp 43 false) (.tmp 50 false)⟩,⟨some (3, true), none, .mov (.tmp 51 false) .asg⟩]))
      (.skip)))) [0, 3, 5, 6, 7] [] turned_k1
def turned_k2 : AC := turned_k2'
theorem turned_k2_w (C : Kn) (K : Ex → St → Prop) (s : St) : vcC C turned_k2 K s = vcC C turned_k2' K s := nr rfl
def turned_l3' : AC := .seq (.seq (.reg (.seq [⟨some (31, false), none, .mov (.tmp 7 true) .peek⟩,⟨some (32, false), none, .mov (.tmp 6 true) .peek⟩,⟨some (33, false), none, .lenL (.tmp 32 false)⟩,⟨some (34, false), none, .bin .lss (.tmp 31 false) (.tmp 33 false)⟩])) [0, 3, 5, 6, 7, 34] []
  (.cond (.tmp 34 false)
    (.skip)
    (.exit 2))) [0, 3, 5, 6, 7] [] turned_k2
def turned_l3 : AC := turned_l3'
theorem turned_l3_w (C : Kn) (K : Ex → St → Prop) (s : St) : vcC C turned_l3 K s = vcC C turned_l3' K s := nr rfl
def turned_k4' : AC := .reg (.seq [⟨some (56, false), none, .mov (.tmp 8 true) .peek⟩,⟨some (57, false), none, .bin .add (.tmp 56 false) (.cst (.int .i64 1) (.lit (.int .i64 1)))⟩,⟨some (8, true), none, .mov (.tmp 57 false) .asg⟩])
def turned_k4 : AC := turned_k4'
theorem turned_k4_w (C : Kn) (K : Ex → St → Prop) (s : St) : vcC C turned_k4 K s = vcC C turned_k4' K s := nr rfl
def turned_k5' : AC := .seq (.block 5 (.seq (.reg (.seq [⟨some (58, false), none, .mov (.tmp 6 true) .peek⟩,⟨some (59, false), none, .mov (.tmp 8 true) .peek⟩,⟨some (60, false), none, .iad (.tmp 58 false) (.tmp 59 false) 2⟩,⟨some (61, false), none, .fad (.tmp 60 false) 0⟩,⟨some (62, false), none, .load (.tmp 61 false) 1 false false⟩,⟨some (63, false), none, .bin .eql (.tmp 62 false) (.cst (.int .i64 2) (.lit (.int .i64 2)))⟩])) [0, 3, 5, 6, 8, 63] []
    (.cond (.tmp 63 false)
      (.reg (.seq [⟨some (64, false), none, .mov (.tmp 3 true) .take⟩,⟨some (65, false), none, .mov (.tmp 6 true) .peek⟩,⟨some (66, false), none, .mov (.tmp 8 true) .peek⟩,⟨some (67, false), none, .iad (.tmp 65 false) (.tmp 66 false) 2⟩,⟨some (68, false), none, .fad (.tmp 67 false) 1⟩,⟨some (69, false), none, .load (.tmp 68 false) 1 false true⟩,⟨some (70, false), none, .build [(.lit (.int .i64 0)), (.lit (.string (str [])))] [(0, 1, (.cst (.int .i64 3) (.lit (.int .i64 3)))), (1, 1, (.tmp 69 false))]⟩,⟨some (71, false), none, .buildS 2 1 [(.lit (.int .i64 0)), (.lit (.string (str [])))] [(0, 2, (.tmp 70 false))]⟩,⟨some (72, false), none, .app 2 24 (.tmp 64 false) (.tmp 71 false)⟩,⟨some (3, true), none, .mov (.tmp 72 false) .asg⟩]))
      (.skip)))) [0, 3, 5, 6, 8] [] turned_k4
def turned_k5 : AC := turned_k5'
theorem turned_k5_w (C : Kn) (K : Ex → St → Prop) (s : St) : vcC C turned_k5 K s = vcC C turned_k5' K s := nr rfl
def turned_l6' : AC := .seq (.seq (.reg (.seq [⟨some (52, false), none, .mov (.tmp 8 true) .peek⟩,⟨some (53, false), none, .mov (.tmp 6 true) .peek⟩,⟨some (54, false), none, .lenL (.tmp 53 false)⟩,⟨some (55, false), none, .bin .lss (.tmp 52 false) (.tmp 54 false)⟩])) [0, 3, 5, 6, 8, 55] []
  (.cond (.tmp 55 false)
    (.skip)
    (.exit 4))) [0, 3, 5, 6, 8] [] turned_k5
def turned_l6 : AC := turned_l6'
theorem turned_l6_w (C : Kn) (K : Ex → St → Prop) (s : St) : vcC C turned_l6 K s = vcC C turned_l6' K s := nr rfl
def turned_k7' : AC := .reg (.seq [⟨some (84, false), none, .mov (.tmp 5 true) .peek⟩,⟨some (85, false), none, .bin .add (.tmp 84 false) (.cst (.int .i64 1) (.lit (.int .i64 1)))⟩,⟨some (4, true), none, .mov (.tmp 85 false) .asg⟩])
def turned_k7 : AC := turned_k7'
theorem turned_k7_w (C : Kn) (K : Ex → St → Prop) (s : St) : vcC C turned_k7 K s = vcC C turned_k7' K s := nr rfl
def turned_k8' : AC := .seq (.seq (.reg (.seq [⟨some (73, false), none, .mov (.tmp 5 true) .peek⟩,⟨some (74, false), none, .mov (.tmp 0 true) .peek⟩,⟨some (75, false), none, .lenL (.tmp 74 false)⟩,⟨some (76, false), none, .bin .lss (.tmp 73 false) (.tmp 75 false)⟩])) [0, 3, 5, 76] []
    (.cond (.tmp 76 false)
      (.reg (.seq [⟨some (77, false), none, .mov (.tmp 3 true) .take⟩,⟨some (78, false), none, .mov (.tmp 0 true) .peek⟩,⟨some (79, false), none, .mov (.tmp 5 true) .peek⟩,⟨some (80, false), none, .iad (.tmp 78 false) (.tmp 79 false) 2⟩,⟨some (81, false), none, .load (.tmp 80 false) 2 true false⟩,⟨some (82, false), none, .buildS 2 1 [(.lit (.int .i64 0)), (.lit (.string (str [])))] [(0, 2, (.tmp 81 false))]⟩,⟨some (83, false), none, .app 2 24 (.tmp 77 false) (.tmp 82 false)⟩,⟨some (3, true), none, .mov (.tmp 83 false) .asg⟩]))
      (.skip))) [0, 3, 5] [] turned_k7
def turned_k8 : AC := turned_k8'
theorem turned_k8_w (C : Kn) (K : Ex → St → Prop) (s : St) : vcC C turned_k8 K s = vcC C turned_k8' K s := nr rfl
def turned_k9' : AC := .seq (.seq (.reg (.seq [⟨some (8, true), none, .mov (.cst (.int .i64 0) (.lit (.int .i64 0))) .asg⟩])) [0, 3, 5, 6, 8] []
    (.block 4 (.loop [0, 3, 5, 6, 8] [] turned_l6))) [0, 3, 5] [] turned_k8
def turned_k9 : AC := turned_k9'
theorem turned_k9_w (C : Kn) (K : Ex → St → Prop) (s : St) : vcC C turned_k9 K s = vcC C turned_k9' K s := nr rfl
def turned_k10' : AC := .seq (.reg (.seq [⟨some (27, false), none, .mov (.tmp 0 true) .peek⟩,⟨some (28, false), none, .mov (.tmp 4 true) .peek⟩,⟨some (29, false), none, .mov (.tmp 5 true) .peek⟩,⟨some (30, false), none, .slc 2 (.tmp 27 false) (some (.tmp 28 false)) (some (.tmp 29 false))⟩,⟨some (6, true), none, .mov (.tmp 30 false) .asg⟩])) [0, 3, 5, 6] []
    (.seq (.seq (.reg (.seq [⟨some (7, true), none, .mov (.cst (.int .i64 0) (.lit (.int .i64 0))) .asg⟩])) [0, 3, 5, 6, 7] []
    (.block 2 (.loop [0, 3, 5, 6, 7] [] turned_l3))) [0, 3, 5, 6] [] turned_k9)
def turned_k10 : AC := turned_k10'
theorem turned_k10_w (C : Kn) (K : Ex → St → Prop) (s : St) : vcC C turned_k10 K s = vcC C turned_k10' K s := nr rfl
def turned_k11' : AC := .reg (.seq [⟨some (13, false), none, .mov (.tmp 5 true) .peek⟩,⟨some (14, false), none, .bin .add (.tmp 13 false) (.cst (.int .i64 1) (.lit (.int .i64 1)))⟩,⟨some (5, true), none, .mov (.tmp 14 false) .asg⟩])
def turned_k11 : AC := turned_k11'
theorem turned_k11_w (C : Kn) (K : Ex → St → Prop) (s : St) : vcC C turned_k11 K s = vcC C turned_k11' K s := nr rfl
def turned_k12' : AC := .seq (.block 1 (.seq (.seq (.reg (.seq [⟨some (15, false), none, .mov (.tmp 5 true) .peek⟩,⟨some (16, false), none, .mov (.tmp 0 true) .peek⟩,⟨some (17, false), none, .lenL (.tmp 16 false)⟩,⟨some (18, false), none, .bin .lss (.tmp 15 false) (.tmp 17 false)⟩,⟨some (19, false), none, .mov (.tmp 18 false) .peek⟩,⟨some (20, false), (some (19, true)), .mov (.tmp 0 true) .peek⟩,⟨some (21, false), (some (19, true)), .mov (.tmp 5 true) .peek⟩,⟨some (22, false), (some (19, true)), .iad (.tmp 20 false) (.tmp 21 false) 2⟩,⟨some (23, false), (some (19, true)), .fad (.tmp 22 false) 0⟩,⟨some (24, false), (some (19, true)), .load (.tmp 23 false) 1 false false⟩,⟨some (25, false), (some (19, true)), .bin .neq (.tmp 24 false) (.cst (.int .i64 1) (.lit (.int .i64 1)))⟩,⟨some (26, false), none, .pick (.tmp 19 false) (.tmp 25 false) (.cst (.bool false) (.lit (.bool false)))⟩])) [0, 3, 4, 5, 26] [] turned_k0) [0, 3, 4, 5] [] turned_k10)) [0, 3, 4, 5] [] turned_k11
def turned_k12 : AC := turned_k12'
theorem turned_k12_w (C : Kn) (K : Ex → St → Prop) (s : St) : vcC C turned_k12 K s = vcC C turned_k12' K s := nr rfl
def turned_l13' : AC := .seq (.seq (.reg (.seq [⟨some (9, false), none, .mov (.tmp 5 true) .peek⟩,⟨some (10, false), none, .mov (.tmp 0 true) .peek⟩,⟨some (11, false), none, .lenL (.tmp 10 false)⟩,⟨some (12, false), none, .bin .leq (.tmp 9 false) (.tmp 11 false)⟩])) [0, 3, 4, 5, 12] []
  (.cond (.tmp 12 false)
    (.skip)
    (.exit 0))) [0, 3, 4, 5] [] turned_k12
def turned_l13 : AC := turned_l13'
theorem turned_l13_w (C : Kn) (K : Ex → St → Prop) (s : St) : vcC C turned_l13 K s = vcC C turned_l13' K s := nr rfl
def turned_k14' : AC := .seq (.reg (.seq [⟨some (86, false), none, .mov (.tmp 3 true) .take⟩,⟨some (2, true), none, .mov (.tmp 86 false) .asg⟩])) [2, 3] []
  (.ret)
def turned_k14 : AC := turned_k14'
theorem turned_k14_w (C : Kn) (K : Ex → St → Prop) (s : St) : vcC C turned_k14 K s = vcC C turned_k14' K s := nr rfl
def turned : AF := ⟨.seq (.reg (.seq [⟨some (2, true), none, .mov (.cst (.slice none 0 0) (.sl .own 2 [])) .asg⟩])) [0] []
  (.seq (.reg (.seq [⟨some (3, true), none, .mov (.cst (.slice none 0 0) (.sl .own 2 [])) .asg⟩])) [0, 3] []
  (.seq (.reg (.seq [⟨some (4, true), none, .mov (.cst (.int .i64 0) (.lit (.int .i64 0))) .asg⟩])) [0, 3, 4] []
  (.seq (.seq (.reg (.seq [⟨some (5, true), none, .mov (.cst (.int .i64 0) (.lit (.int .i64 0))) .asg⟩])) [0, 3, 4, 5] []
  (.block 0 (.loop [0, 3, 4, 5] [] turned_l13))) [3] [] turned_k14))),
  [.tmp 2]⟩
theorem turned_comp (m : Int × Bool) : compF Tryd.prog (gl m) [] Tryd.f60 = some turned := by kernel_rfl
def rback_k0' : AC := .seq (.block 1 (.reg (.draw [⟨some (14, false), none, .mov (.tmp 3 true) .peek⟩,⟨some (15, false), none, .mov (.tmp 0 true) .peek⟩,⟨some (16, false), none, .mov (.tmp 4 true) .peek⟩,⟨some (17, false), none, .iad (.tmp 15 false) (.tmp 16 false) 3⟩,⟨some (18, false), none, .fad (.tmp 17 false) 1⟩,⟨some (19, false), none, .load (.tmp 18 false) 1 false false⟩,⟨some (20, false), none, .mov (.tmp 0 true) .peek⟩,⟨some (21, false), none, .mov (.tmp 4 true) .peek⟩,⟨some (22, false), none, .iad (.tmp 20 false) (.tmp 21 false) 3⟩,⟨some (23, false), none, .fad (.tmp 22 false) 0⟩,⟨some (24, false), none, .load (.tmp 23 false) 1 false false⟩,⟨some (25, false), none, .mov (.tmp 0 true) .peek⟩,⟨some (26, false), none, .mov (.tmp 4 true) .peek⟩,⟨some (27, false), none, .iad (.tmp 25 false) (.tmp 26 false) 3⟩,⟨some (28, false), none, .fad (.tmp 27 false) 2⟩,⟨some (29, false), none, .load (.tmp 28 false) 1 false false⟩,⟨some (30, false), none, .call 60 [.tmp 29 false]⟩] (.alt ⟨some (31, false), none, .build [(.lit (.int .i64 0)), (.lit (.int .i64 0)), (.sl .own 2 [])] [(0, 1, (.tmp 19 false)), (1, 1, (.tmp 24 false)), (2, 1, (.tmp 30 false))]⟩ [⟨some (14, false), none, .mov (.tmp 3 true) .peek⟩]
      (.alt ⟨some (32, false), none, .buildS 3 1 [(.lit (.int .i64 0)), (.lit (.int .i64 0)), (.sl .own 2 [])] [(0, 3, (.tmp 31 false))]⟩ [⟨some (14, false), none, .mov (.tmp 3 true) .peek⟩]
      (.alt ⟨some (33, false), none, .app 3 40 (.tmp 14 false) (.tmp 32 false)⟩ []
      (.alt ⟨some (3, true), none, .mov (.tmp 33 false) .asg⟩ []
      .done .no) .no) .no) .no)))) [0, 3, 4] []
  (.reg (.seq [⟨some (12, false), none, .mov (.tmp 4 true) .peek⟩,⟨some (13, false), none, .bin .add (.tmp 12 false) (.cst (.int .i64 1) (.lit (.int .i64 1)))⟩,⟨some (4, true), none, .mov (.tmp 13 false) .asg⟩]))
def rback_k0 : AC := rback_k0'
theorem rback_k0_w (C : Kn) (K : Ex → St → Prop) (s : St) : vcC C rback_k0 K s = vcC C rback_k0' K s := nr rfl
def rback_l1' : AC := .seq (.seq (.reg (.seq [⟨some (8, false), none, .mov (.tmp 4 true) .peek⟩,⟨some (9, false), none, .mov (.tmp 0 true) .peek⟩,⟨some (10, false), none, .lenL (.tmp 9 false)⟩,⟨some (11, false), none, .bin .lss (.tmp 8 false) (.tmp 10 false)⟩])) [0, 3, 4, 11] []
  (.cond (.tmp 11 false)
    (.skip)
    (.exit 0))) [0, 3, 4] [] rback_k0
def rback_l1 : AC := rback_l1'
theorem rback_l1_w (C : Kn) (K : Ex → St → Prop) (s : St) : vcC C rback_l1 K s = vcC C rback_l1' K s := nr rfl
def rback_k2' : AC := .seq (.reg (.seq [⟨some (34, false), none, .mov (.tmp 3 true) .take⟩,⟨some (2, true), none, .mov (.tmp 34 false) .asg⟩])) [2, 3] []
  (.ret)
def rback_k2 : AC := rback_k2'
theorem rback_k2_w (C : Kn) (K : Ex → St → Prop) (s : St) : vcC C rback_k2 K s = vcC C rback_k2' K s := nr rfl
def rback_k3' : AC := .seq (.reg (.seq [⟨some (3, true), none, .mov (.cst (.slice none 0 0) (.sl .own 3 [])) .asg⟩])) [0, 3] []
  (.seq (.seq (.reg (.seq [⟨some (4, true), none, .mov (.cst (.int .i64 0) (.lit (.int .i64 0))) .asg⟩])) [0, 3, 4] []
  (.block 0 (.loop [0, 3, 4] [] rback_l1))) [3] [] rback_k2)
def rback_k3 : AC := rback_k3'
theorem rback_k3_w (C : Kn) (K : Ex → St → Prop) (s : St) : vcC C rback_k3 K s = vcC C rback_k3' K s := nr rfl
def rback : AF := ⟨.seq (.reg (.seq [⟨some (2, true), none, .mov (.cst (.slice none 0 0) (.sl .own 3 [])) .asg⟩])) [0] []
  (.seq (.seq (.reg (.seq [⟨some (5, false), none, .mov (.tmp 0 true) .peek⟩,⟨some (6, false), none, .call 29 [.tmp 5 false]⟩,⟨some (7, false), none, .un .not (.tmp 6 false)⟩])) [0, 7] []
  (.cond (.tmp 7 false)
    (.seq (.reg (.seq [⟨some (2, true), none, .mov (.cst (.slice none 0 0) (.sl .own 3 [])) .asg⟩])) [2, 3] []
    (.ret))
    (.skip))) [0] [] rback_k3),
  [.tmp 2]⟩
theorem rback_comp (m : Int × Bool) : compF Tryd.prog (gl m) [] Tryd.f33 = some rback := by kernel_rfl
def flipK (k j : Int) (r : List HL) : List HL := (r.filter fun x => x.1 == k).map fun x => (j, x.2)
theorem flip_snoc (k j : Int) (r : List HL) (x : HL) : flipK k j (r ++ [x]) = if x.1 = k then flipK k j r ++ [(j, x.2)] else flipK k j r := by
  rw [flipK, List.filter_append, List.map_append]
  by_cases h : x.1 = k <;> simp [h, flipK]
theorem flip_take (k j : Int) {r : List HL} {i : Nat} (h : i < r.length) : flipK k j (r.take (i + 1)) = if r[i].1 = k then flipK k j (r.take i) ++ [(j, r[i].2)] else flipK k j (r.take i) := by rw [take_snoc h, flip_snoc]
theorem flip_len (k j : Int) (r : List HL) : (flipK k j r).length ≤ r.length := by rw [flipK, List.length_map]; exact List.length_filter_le _ _
theorem drop_take_snoc {l : List HL} {f i : Nat} (hf : f ≤ i) (hi : i < l.length) : (l.take (i + 1)).drop f = (l.take i).drop f ++ [l[i]] := by
  rw [take_snoc hi, List.drop_append_of_le_length (by rw [List.length_take]; omega)]
theorem fs_dropL (l : List HL) (n : Nat) : (fs fL l).drop n = fs fL (l.drop n) := fs_drop fL l n
theorem fs_takeL (l : List HL) (n : Nat) : (fs fL l).take n = fs fL (l.take n) := fs_take fL l n
def TuI (l : List HL) (x : Nat × Nat × List HL) : Prop :=
  x.2.2.length ≤ x.1 ∧ ((x.1 ≤ l.length ∧ x.2.1 ≤ x.1 ∧ invF (l.take x.1) = (x.2.2 ++ flipK 3 2 ((l.take x.1).drop x.2.1), flipK 2 3 ((l.take x.1).drop x.2.1)) ∧ x.2.2.length + (x.1 - x.2.1) ≤ x.1) ∨ (x.1 = l.length + 1 ∧ x.2.2 = invL l))
set_option maxRecDepth 8000 in
theorem turned_snd (l : List HL) (hl : l.length ≤ 1048576) (hk : ∀ x, x ∈ l → x.1 = 1 ∨ x.1 = 2 ∨ x.1 = 3) : Snd Tryd.prog (gl m) 60 [.sl .frn 2 (fs fL l)] (.sl .own 2 (fs fL (invL l))) := by
  refine snd_of (fn := Tryd.f60) (af := turned) Tryd.func60 (turned_comp m) mixed (kn_ok m) (Nat.le_of_ble_eq_true rfl) ?_
  simp only [turned, go_sem, reduceCtorEq, Nat.reduceEqDiff, reduceIte, Nat.reduceAdd, Nat.reduceSub, Nat.reduceLeDiff, Int.reduceToNat, Nat.reduceBEq]
  refine loop_wf (fun x : Nat × Nat × List HL => l.length + 1 - x.1) (fun x => mkS [(0, .sl .frn 2 (fs fL l)), (3, .sl .own 2 (fs fL x.2.2)), (4, N x.2.1), (5, N x.1)] [])
    (TuI l) (0, 0, []) rfl ⟨by simp, .inl ⟨by simp, by simp, by simp [invF, flipK], by simp⟩⟩ ?_
  rintro ⟨i, f, out⟩ ⟨ho, hI⟩ ih
  dsimp only at ho hI ih
  simp only [turned_l13_w, turned_l13', go_sem, reduceCtorEq, Nat.reduceEqDiff, reduceIte, Nat.reduceAdd, Nat.reduceSub, Nat.reduceLeDiff, Int.reduceToNat, Nat.reduceBEq]
  repeat ((with_reducible apply And.intro); (case left => first | omega | (simp only [List.length_append, List.length_cons, List.length_nil, List.length_drop, List.length_take, List.length_tail, List.length_dropLast, fs_length, ss_length, bs_length, ns_length]; omega)))
  have qi : IntKind.i64.wrap ((i : Int) + 1) = ((i + 1 : Nat) : Int) := wrapN _ (by rcases hI with h | h <;> omega) (by rcases hI with h | h <;> omega)
  rcases hI with ⟨hil, hf, hI, hlen⟩ | ⟨rfl, rfl⟩
  rotate_left
  · simp only [show decide (((l.length + 1 : Nat) : Int) ≤ ((l.length : Nat) : Int)) = false from decide_eq_false (by omega), turned_k14_w, turned_k14', go_sem, reduceCtorEq, Nat.reduceEqDiff, reduceIte, Nat.reduceAdd, Nat.reduceSub, Nat.reduceLeDiff, Int.reduceToNat, Nat.reduceBEq]
    first | rfl | omega | trace_state
  have hsl : ((fs fL l).take i).drop f = fs fL ((l.take i).drop f) := by rw [fs_takeL, fs_dropL]
  have hrl : ((l.take i).drop f).length = i - f := by rw [List.length_drop, List.length_take]; omega
  simp only [show decide (((i : Nat) : Int) ≤ ((l.length : Nat) : Int)) = true from decide_eq_true (by omega), turned_k12_w, turned_k12', go_sem, reduceCtorEq, Nat.reduceEqDiff, reduceIte, Nat.reduceAdd, Nat.reduceSub, Nat.reduceLeDiff, Int.reduceToNat, Nat.reduceBEq]
  -- the part behind a run
  have tail : ∀ K : Ex → St → Prop, vcC (kn m) turned_k10 K (mkS [(0, .sl .frn 2 (fs fL l)), (3, .sl .own 2 (fs fL out)), (4, N f), (5, N i)] []) → True := fun _ _ => trivial
  clear tail
  by_cases hE : i < l.length
  · have g := fs_getL hE
    have hkk := hk l[i] (List.getElem_mem hE)
    have hnx : invF (l.take (i + 1)) = invS (invF (l.take i)) l[i] := invF_take hE
    have hds := drop_take_snoc hf hE
    simp only [lt_t hE, g, Int.toNat_natCast, go_sem, reduceCtorEq, Nat.reduceEqDiff, reduceIte, Nat.reduceAdd, Nat.reduceSub, Nat.reduceLeDiff, Int.reduceToNat, Nat.reduceBEq]
    repeat ((with_reducible apply And.intro); (case left => first | omega | (simp only [List.length_append, List.length_cons, List.length_nil, List.length_drop, List.length_take, List.length_tail, List.length_dropLast, fs_length, ss_length, bs_length, ns_length]; omega)))
    by_cases h1 : l[i].1 = 1
    rotate_left
    · simp only [ne_t h1, turned_k0_w, turned_k0', turned_k11_w, turned_k11', qi, go_sem, reduceCtorEq, Nat.reduceEqDiff, reduceIte, Nat.reduceAdd, Nat.reduceSub, Nat.reduceLeDiff, Int.reduceToNat, Nat.reduceBEq]
      refine ih (i + 1, f, out) (by dsimp only; omega) ⟨by dsimp only; omega, .inl ⟨by dsimp only; omega, by dsimp only; omega, ?_, by dsimp only; omega⟩⟩
      dsimp only
      rw [hnx, hI, hds, flip_snoc, flip_snoc, invS]
      rcases hkk with h | h | h
      · exact absurd h h1
      · rw [if_pos h, if_neg (by omega), if_pos h]
      · rw [if_neg (by omega), if_pos h, if_pos h, if_neg (by omega), List.append_assoc]
    · simp only [ne_f h1, turned_k0_w, turned_k0', turned_k10_w, turned_k10', Int.toNat_natCast, hsl, go_sem, reduceCtorEq, Nat.reduceEqDiff, reduceIte, Nat.reduceAdd, Nat.reduceSub, Nat.reduceLeDiff, Int.reduceToNat, Nat.reduceBEq]
      repeat ((with_reducible apply And.intro); (case left => first | omega | (simp only [List.length_append, List.length_cons, List.length_nil, List.length_drop, List.length_take, List.length_tail, List.length_dropLast, fs_length, ss_length, bs_length, ns_length]; omega)))
      rw [hI] at hnx
      generalize (l.take i).drop f = r at hsl hrl hI hds hnx
      refine loop_up r.length (fun k => mkS [(0, .sl .frn 2 (fs fL l)), (3, .sl .own 2 (fs fL (out ++ flipK 3 2 (r.take k)))), (5, N i), (6, .sl .frn 2 (fs fL r)), (7, N k)] []) ?_ ?_
      · simp only [List.take_zero, flipK, List.filter_nil, List.map_nil, List.append_nil]; rfl
      intro k hk1 ih1
      simp only [turned_l3_w, turned_l3', go_sem, reduceCtorEq, Nat.reduceEqDiff, reduceIte, Nat.reduceAdd, Nat.reduceSub, Nat.reduceLeDiff, Int.reduceToNat, Nat.reduceBEq]
      repeat ((with_reducible apply And.intro); (case left => first | omega | (simp only [List.length_append, List.length_cons, List.length_nil, List.length_drop, List.length_take, List.length_tail, List.length_dropLast, fs_length, ss_length, bs_length, ns_length]; omega)))
      by_cases hk2 : k < r.length
      · have g1 := fs_getL hk2
        have q1 : IntKind.i64.wrap ((k : Int) + 1) = ((k + 1 : Nat) : Int) := wrapN _ (by omega) (by omega)
        have hfl := flip_len 3 2 (r.take k)
        rw [List.length_take] at hfl
        have hol : (out ++ flipK 3 2 (r.take k)).length ≤ 4194304 := by rw [List.length_append]; omega
        rw [flip_take 3 2 hk2] at ih1
        simp only [lt_t hk2, g1, Int.toNat_natCast, turned_k2_w, turned_k2', go_sem, reduceCtorEq, Nat.reduceEqDiff, reduceIte, Nat.reduceAdd, Nat.reduceSub, Nat.reduceLeDiff, Int.reduceToNat, Nat.reduceBEq]
        repeat ((with_reducible apply And.intro); (case left => first | omega | (simp only [List.length_append, List.length_cons, List.length_nil, List.length_drop, List.length_take, List.length_tail, List.length_dropLast, fs_length, ss_length, bs_length, ns_length]; omega)))
        by_cases h3 : r[k].1 = 3
        · rw [if_pos h3, ← List.append_assoc] at ih1
          generalize out ++ flipK 3 2 (r.take k) = o at ih1 hol ⊢
          simp only [eq_t h3, g1, Int.toNat_natCast, fs_snocL, turned_k1_w, turned_k1', q1, go_sem, reduceCtorEq, Nat.reduceEqDiff, reduceIte, Nat.reduceAdd, Nat.reduceSub, Nat.reduceLeDiff, Int.reduceToNat, Nat.reduceBEq]
          repeat ((with_reducible apply And.intro); (case left => first | omega | (simp only [List.length_append, List.length_cons, List.length_nil, List.length_drop, List.length_take, List.length_tail, List.length_dropLast, fs_length, ss_length, bs_length, ns_length]; omega)))
          exact ih1 hk2
        · rw [if_neg h3] at ih1
          simp only [eq_f h3, turned_k1_w, turned_k1', q1, go_sem, reduceCtorEq, Nat.reduceEqDiff, reduceIte, Nat.reduceAdd, Nat.reduceSub, Nat.reduceLeDiff, Int.reduceToNat, Nat.reduceBEq]
          exact ih1 hk2
      · obtain rfl : k = r.length := by omega
        rw [List.take_length]
        simp only [lt_f hk2, turned_k9_w, turned_k9', go_sem, reduceCtorEq, Nat.reduceEqDiff, reduceIte, Nat.reduceAdd, Nat.reduceSub, Nat.reduceLeDiff, Int.reduceToNat, Nat.reduceBEq]
        clear ih1
        have hfl3 := flip_len 3 2 r
        generalize hO : out ++ flipK 3 2 r = O at hI hnx
        have hOl : O.length ≤ 2097152 := by rw [← hO, List.length_append]; omega
        refine loop_up r.length (fun k => mkS [(0, .sl .frn 2 (fs fL l)), (3, .sl .own 2 (fs fL (O ++ flipK 2 3 (r.take k)))), (5, N i), (6, .sl .frn 2 (fs fL r)), (8, N k)] []) ?_ ?_
        · simp only [List.take_zero, flipK, List.filter_nil, List.map_nil, List.append_nil]; rfl
        intro k hk1 ih1
        simp only [turned_l6_w, turned_l6', go_sem, reduceCtorEq, Nat.reduceEqDiff, reduceIte, Nat.reduceAdd, Nat.reduceSub, Nat.reduceLeDiff, Int.reduceToNat, Nat.reduceBEq]
        repeat ((with_reducible apply And.intro); (case left => first | omega | (simp only [List.length_append, List.length_cons, List.length_nil, List.length_drop, List.length_take, List.length_tail, List.length_dropLast, fs_length, ss_length, bs_length, ns_length]; omega)))
        by_cases hk2 : k < r.length
        · have g1 := fs_getL hk2
          have q1 : IntKind.i64.wrap ((k : Int) + 1) = ((k + 1 : Nat) : Int) := wrapN _ (by omega) (by omega)
          have hfl := flip_len 2 3 (r.take k)
          rw [List.length_take] at hfl
          have hol : (O ++ flipK 2 3 (r.take k)).length ≤ 4194304 := by rw [List.length_append]; omega
          rw [flip_take 2 3 hk2] at ih1
          simp only [lt_t hk2, g1, Int.toNat_natCast, turned_k5_w, turned_k5', go_sem, reduceCtorEq, Nat.reduceEqDiff, reduceIte, Nat.reduceAdd, Nat.reduceSub, Nat.reduceLeDiff, Int.reduceToNat, Nat.reduceBEq]
          repeat ((with_reducible apply And.intro); (case left => first | omega | (simp only [List.length_append, List.length_cons, List.length_nil, List.length_drop, List.length_take, List.length_tail, List.length_dropLast, fs_length, ss_length, bs_length, ns_length]; omega)))
          by_cases h3 : r[k].1 = 2
          · rw [if_pos h3, ← List.append_assoc] at ih1
            generalize O ++ flipK 2 3 (r.take k) = o at ih1 hol ⊢
            simp only [eq_t h3, g1, Int.toNat_natCast, fs_snocL, turned_k4_w, turned_k4', q1, go_sem, reduceCtorEq, Nat.reduceEqDiff, reduceIte, Nat.reduceAdd, Nat.reduceSub, Nat.reduceLeDiff, Int.reduceToNat, Nat.reduceBEq]
            repeat ((with_reducible apply And.intro); (case left => first | omega | (simp only [List.length_append, List.length_cons, List.length_nil, List.length_drop, List.length_take, List.length_tail, List.length_dropLast, fs_length, ss_length, bs_length, ns_length]; omega)))
            exact ih1 hk2
          · rw [if_neg h3] at ih1
            simp only [eq_f h3, turned_k4_w, turned_k4', q1, go_sem, reduceCtorEq, Nat.reduceEqDiff, reduceIte, Nat.reduceAdd, Nat.reduceSub, Nat.reduceLeDiff, Int.reduceToNat, Nat.reduceBEq]
            exact ih1 hk2
        · obtain rfl : k = r.length := by omega
          rw [List.take_length]
          have hfl2 := flip_len 2 3 r
          have hPl : (O ++ flipK 2 3 r).length ≤ i := by
            have := invF_len (l.take i)
            rw [hI, List.length_take] at this
            rw [List.length_append]; dsimp only at this; omega
          have hnx2 : invF (l.take (i + 1)) = (O ++ flipK 2 3 r ++ [(1, l[i].2)], []) := by
            rw [hnx, invS, if_neg (by omega), if_neg (by omega), show l[i] = (1, l[i].2) by rw [← h1]]
          generalize O ++ flipK 2 3 r = P at hPl hnx2 ⊢
          simp only [lt_f hk2, turned_k8_w, turned_k8', lt_t hE, g, h1, Int.toNat_natCast, fs_snocL, turned_k7_w, turned_k7', turned_k11_w, turned_k11', qi, go_sem, reduceCtorEq, Nat.reduceEqDiff, reduceIte, Nat.reduceAdd, Nat.reduceSub, Nat.reduceLeDiff, Int.reduceToNat, Nat.reduceBEq]
          repeat ((with_reducible apply And.intro); (case left => first | omega | (simp only [List.length_append, List.length_cons, List.length_nil, List.length_drop, List.length_take, List.length_tail, List.length_dropLast, fs_length, ss_length, bs_length, ns_length]; omega)))
          refine ih (i + 1, i + 1, P ++ [(1, l[i].2)]) (by dsimp only; omega) ⟨by simp; omega, .inl ⟨by dsimp only; omega, by dsimp only; omega, ?_, by simp; omega⟩⟩
          dsimp only
          rw [hnx2, List.drop_of_length_le (by rw [List.length_take]; omega)]
          simp [flipK]
  · obtain rfl : i = l.length := by omega
    have hfin : invL l = out ++ flipK 3 2 ((l.take l.length).drop f) ++ flipK 2 3 ((l.take l.length).drop f) := by
      rw [List.take_length] at hI ⊢
      rw [invL, hI]
    have hil2 : (invL l).length ≤ l.length := by
      have := invF_len l
      rw [invL, List.length_append]; omega
    simp only [lt_f hE, turned_k0_w, turned_k0', turned_k10_w, turned_k10', Int.toNat_natCast, hsl, go_sem, reduceCtorEq, Nat.reduceEqDiff, reduceIte, Nat.reduceAdd, Nat.reduceSub, Nat.reduceLeDiff, Int.reduceToNat, Nat.reduceBEq]
    repeat ((with_reducible apply And.intro); (case left => first | omega | (simp only [List.length_append, List.length_cons, List.length_nil, List.length_drop, List.length_take, List.length_tail, List.length_dropLast, fs_length, ss_length, bs_length, ns_length]; omega)))
    rw [List.take_length] at hrl hI hfin
    generalize l.drop f = r at hrl hI hfin ⊢
    refine loop_up r.length (fun k => mkS [(0, .sl .frn 2 (fs fL l)), (3, .sl .own 2 (fs fL (out ++ flipK 3 2 (r.take k)))), (5, N l.length), (6, .sl .frn 2 (fs fL r)), (7, N k)] []) ?_ ?_
    · simp only [List.take_zero, flipK, List.filter_nil, List.map_nil, List.append_nil]; rfl
    intro k hk1 ih1
    simp only [turned_l3_w, turned_l3', go_sem, reduceCtorEq, Nat.reduceEqDiff, reduceIte, Nat.reduceAdd, Nat.reduceSub, Nat.reduceLeDiff, Int.reduceToNat, Nat.reduceBEq]
    repeat ((with_reducible apply And.intro); (case left => first | omega | (simp only [List.length_append, List.length_cons, List.length_nil, List.length_drop, List.length_take, List.length_tail, List.length_dropLast, fs_length, ss_length, bs_length, ns_length]; omega)))
    by_cases hk2 : k < r.length
    · have g1 := fs_getL hk2
      have q1 : IntKind.i64.wrap ((k : Int) + 1) = ((k + 1 : Nat) : Int) := wrapN _ (by omega) (by omega)
      have hfl := flip_len 3 2 (r.take k)
      rw [List.length_take] at hfl
      have hol : (out ++ flipK 3 2 (r.take k)).length ≤ 4194304 := by rw [List.length_append]; omega
      rw [flip_take 3 2 hk2] at ih1
      simp only [lt_t hk2, g1, Int.toNat_natCast, turned_k2_w, turned_k2', go_sem, reduceCtorEq, Nat.reduceEqDiff, reduceIte, Nat.reduceAdd, Nat.reduceSub, Nat.reduceLeDiff, Int.reduceToNat, Nat.reduceBEq]
      repeat ((with_reducible apply And.intro); (case left => first | omega | (simp only [List.length_append, List.length_cons, List.length_nil, List.length_drop, List.length_take, List.length_tail, List.length_dropLast, fs_length, ss_length, bs_length, ns_length]; omega)))
      by_cases h3 : r[k].1 = 3
      · rw [if_pos h3, ← List.append_assoc] at ih1
        generalize out ++ flipK 3 2 (r.take k) = o at ih1 hol ⊢
        simp only [eq_t h3, g1, Int.toNat_natCast, fs_snocL, turned_k1_w, turned_k1', q1, go_sem, reduceCtorEq, Nat.reduceEqDiff, reduceIte, Nat.reduceAdd, Nat.reduceSub, Nat.reduceLeDiff, Int.reduceToNat, Nat.reduceBEq]
        repeat ((with_reducible apply And.intro); (case left => first | omega | (simp only [List.length_append, List.length_cons, List.length_nil, List.length_drop, List.length_take, List.length_tail, List.length_dropLast, fs_length, ss_length, bs_length, ns_length]; omega)))
        exact ih1 hk2
      · rw [if_neg h3] at ih1
        simp only [eq_f h3, turned_k1_w, turned_k1', q1, go_sem, reduceCtorEq, Nat.reduceEqDiff, reduceIte, Nat.reduceAdd, Nat.reduceSub, Nat.reduceLeDiff, Int.reduceToNat, Nat.reduceBEq]
        exact ih1 hk2
    · obtain rfl : k = r.length := by omega
      rw [List.take_length]
      simp only [lt_f hk2, turned_k9_w, turned_k9', go_sem, reduceCtorEq, Nat.reduceEqDiff, reduceIte, Nat.reduceAdd, Nat.reduceSub, Nat.reduceLeDiff, Int.reduceToNat, Nat.reduceBEq]
      clear ih1
      have hfl3 := flip_len 3 2 r
      generalize hO : out ++ flipK 3 2 r = O at hI hfin
      have hOl : O.length ≤ 2097152 := by rw [← hO, List.length_append]; omega
      refine loop_up r.length (fun k => mkS [(0, .sl .frn 2 (fs fL l)), (3, .sl .own 2 (fs fL (O ++ flipK 2 3 (r.take k)))), (5, N l.length), (6, .sl .frn 2 (fs fL r)), (8, N k)] []) ?_ ?_
      · simp only [List.take_zero, flipK, List.filter_nil, List.map_nil, List.append_nil]; rfl
      intro k hk1 ih1
      simp only [turned_l6_w, turned_l6', go_sem, reduceCtorEq, Nat.reduceEqDiff, reduceIte, Nat.reduceAdd, Nat.reduceSub, Nat.reduceLeDiff, Int.reduceToNat, Nat.reduceBEq]
      repeat ((with_reducible apply And.intro); (case left => first | omega | (simp only [List.length_append, List.length_cons, List.length_nil, List.length_drop, List.length_take, List.length_tail, List.length_dropLast, fs_length, ss_length, bs_length, ns_length]; omega)))
      by_cases hk2 : k < r.length
      · have g1 := fs_getL hk2
        have q1 : IntKind.i64.wrap ((k : Int) + 1) = ((k + 1 : Nat) : Int) := wrapN _ (by omega) (by omega)
        have hfl := flip_len 2 3 (r.take k)
        rw [List.length_take] at hfl
        have hol : (O ++ flipK 2 3 (r.take k)).length ≤ 4194304 := by rw [List.length_append]; omega
        rw [flip_take 2 3 hk2] at ih1
        simp only [lt_t hk2, g1, Int.toNat_natCast, turned_k5_w, turned_k5', go_sem, reduceCtorEq, Nat.reduceEqDiff, reduceIte, Nat.reduceAdd, Nat.reduceSub, Nat.reduceLeDiff, Int.reduceToNat, Nat.reduceBEq]
        repeat ((with_reducible apply And.intro); (case left => first | omega | (simp only [List.length_append, List.length_cons, List.length_nil, List.length_drop, List.length_take, List.length_tail, List.length_dropLast, fs_length, ss_length, bs_length, ns_length]; omega)))
        by_cases h3 : r[k].1 = 2
        · rw [if_pos h3, ← List.append_assoc] at ih1
          generalize O ++ flipK 2 3 (r.take k) = o at ih1 hol ⊢
          simp only [eq_t h3, g1, Int.toNat_natCast, fs_snocL, turned_k4_w, turned_k4', q1, go_sem, reduceCtorEq, Nat.reduceEqDiff, reduceIte, Nat.reduceAdd, Nat.reduceSub, Nat.reduceLeDiff, Int.reduceToNat, Nat.reduceBEq]
          repeat ((with_reducible apply And.intro); (case left => first | omega | (simp only [List.length_append, List.length_cons, List.length_nil, List.length_drop, List.length_take, List.length_tail, List.length_dropLast, fs_length, ss_length, bs_length, ns_length]; omega)))
          exact ih1 hk2
        · rw [if_neg h3] at ih1
          simp only [eq_f h3, turned_k4_w, turned_k4', q1, go_sem, reduceCtorEq, Nat.reduceEqDiff, reduceIte, Nat.reduceAdd, Nat.reduceSub, Nat.reduceLeDiff, Int.reduceToNat, Nat.reduceBEq]
          exact ih1 hk2
      · obtain rfl : k = r.length := by omega
        rw [List.take_length, ← hfin]
        simp only [lt_f hk2, turned_k8_w, turned_k8', lt_f hE, turned_k7_w, turned_k7', turned_k11_w, turned_k11', qi, go_sem, reduceCtorEq, Nat.reduceEqDiff, reduceIte, Nat.reduceAdd, Nat.reduceSub, Nat.reduceLeDiff, Int.reduceToNat, Nat.reduceBEq]
        exact ih (l.length + 1, l.length + 1, invL l) (by dsimp only; omega) ⟨by dsimp only; omega, .inr ⟨rfl, rfl⟩⟩
theorem rback_snd (l : List Hk) (hl : okHs l) : Snd Tryd.prog (gl m) 33 [.sl .frn 3 (hS .frn l)] (.sl .own 3 (hS .own (back l))) := by
  refine snd_of (fn := Tryd.f33) (af := rback) Tryd.func33 (rback_comp m) mixed (kn_ok m) (Nat.le_of_ble_eq_true rfl) ?_
  simp only [rback, go_sem, reduceCtorEq, Nat.reduceEqDiff, reduceIte, Nat.reduceAdd, Nat.reduceSub, Nat.reduceLeDiff, Int.reduceToNat, Nat.reduceBEq]
  repeat ((with_reducible apply And.intro); (case left => first | omega | (simp only [List.length_append, List.length_cons, List.length_nil, List.length_drop, List.length_take, List.length_tail, List.length_dropLast, fs_length, ss_length, bs_length, ns_length]; omega)))
  refine of_call (rright_snd l hl) ?_
  simp only [go_sem, reduceCtorEq, Nat.reduceEqDiff, reduceIte, Nat.reduceAdd, Nat.reduceSub, Nat.reduceLeDiff, Int.reduceToNat, Nat.reduceBEq]
  repeat ((with_reducible apply And.intro); (case left => first | omega | (simp only [List.length_append, List.length_cons, List.length_nil, List.length_drop, List.length_take, List.length_tail, List.length_dropLast, fs_length, ss_length, bs_length, ns_length]; omega)))
  rw [back]
  cases hv : valid l with
  | false =>
    simp only [unVal, Bool.not_false, go_sem, reduceCtorEq, Nat.reduceEqDiff, reduceIte, Nat.reduceAdd, Nat.reduceSub, Nat.reduceLeDiff, Int.reduceToNat, Nat.reduceBEq]
    rfl
  | true =>
    rw [if_pos rfl]
    obtain ⟨hll, hls⟩ := hl
    simp only [unVal, Bool.not_true, rback_k3_w, rback_k3', go_sem, reduceCtorEq, Nat.reduceEqDiff, reduceIte, Nat.reduceAdd, Nat.reduceSub, Nat.reduceLeDiff, Int.reduceToNat, Nat.reduceBEq]
    have hmap : ∀ L : List Hk, L.map (fun h => (h.2.1, h.1, invL h.2.2)) = L.map invHk := fun L => rfl
    rw [hmap]
    refine loop_up l.length (fun i => mkS [(0, .sl .frn 3 (hS .frn l)), (3, .sl .own 3 (hS .own ((l.take i).map invHk))), (4, N i)] []) rfl ?_
    intro i hi ih
    simp only [rback_l1_w, rback_l1', go_sem, reduceCtorEq, Nat.reduceEqDiff, reduceIte, Nat.reduceAdd, Nat.reduceSub, Nat.reduceLeDiff, Int.reduceToNat, Nat.reduceBEq]
    repeat ((with_reducible apply And.intro); (case left => first | omega | (simp only [List.length_append, List.length_cons, List.length_nil, List.length_drop, List.length_take, List.length_tail, List.length_dropLast, fs_length, ss_length, bs_length, ns_length]; omega)))
    by_cases h : i < l.length
    · have g := hS_get (fl := .frn) h
      have hxl := hls l[i] (List.getElem_mem h)
      have hkl : ∀ x, x ∈ l[i].2.2 → (x.1 = 1 ∨ x.1 = 2 ∨ x.1 = 3) := fun x hx => (valid_line hv (List.getElem_mem h) hx).1
      have hstep : (l.take (i + 1)).map invHk = (l.take i).map invHk ++ [invHk l[i]] := by rw [take_snoc h, List.map_append]; rfl
      rw [hstep] at ih
      have hol : ((l.take i).map invHk).length ≤ 1048576 := by rw [List.length_map, List.length_take]; omega
      clear hstep
      generalize l[i] = y at g hxl hkl ih
      obtain ⟨F, T, L⟩ := y
      have hL : L.length ≤ 1048576 := hxl.1
      generalize (l.take i).map invHk = o at ih hol ⊢
      dsimp only at hxl hkl ih
      have qi : IntKind.i64.wrap ((i : Int) + 1) = ((i + 1 : Nat) : Int) := wrapN _ (by omega) (by omega)
      simp only [lt_t h, g, Int.toNat_natCast, rback_k0_w, rback_k0', go_sem, reduceCtorEq, Nat.reduceEqDiff, reduceIte, Nat.reduceAdd, Nat.reduceSub, Nat.reduceLeDiff, Int.reduceToNat, Nat.reduceBEq]
      repeat ((with_reducible apply And.intro); (case left => first | omega | (simp only [List.length_append, List.length_cons, List.length_nil, List.length_drop, List.length_take, List.length_tail, List.length_dropLast, fs_length, ss_length, bs_length, ns_length]; omega)))
      refine of_call (turned_snd L hL hkl) ?_
      simp only [hS_snocO, qi, Int.toNat_natCast, g, go_sem, reduceCtorEq, Nat.reduceEqDiff, reduceIte, Nat.reduceAdd, Nat.reduceSub, Nat.reduceLeDiff, Int.reduceToNat, Nat.reduceBEq]
      repeat ((with_reducible apply And.intro); (case left => first | omega | (simp only [List.length_append, List.length_cons, List.length_nil, List.length_drop, List.length_take, List.length_tail, List.length_dropLast, fs_length, ss_length, bs_length, ns_length]; omega)))
      exact ih h
    · obtain rfl : i = l.length := by omega
      rw [List.take_length]
      simp only [lt_f h, rback_k2_w, rback_k2', go_sem, reduceCtorEq, Nat.reduceEqDiff, reduceIte, Nat.reduceAdd, Nat.reduceSub, Nat.reduceLeDiff, Int.reduceToNat, Nat.reduceBEq]
      first | rfl | omega | trace_state
end Go.Hk

