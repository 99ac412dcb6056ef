import Derived.Test.YtfkggoohajdabaaDoorWC
import Derived.Test.YtfkggoohajdabaaDoorWA
import Derived.Test.YtfkggoohajdabaaDoorPA
import Derived.Test.YtfkggoohajdabaaDoorWB
import Derived.Test.YtfkggoohajdabaaDoorWH
set_option linter.unusedVariables false
set_option linter.unusedSimpArgs false
/- Hunks: the laws' small functions: noughts, joined, held, unlike. -/
namespace Go.Hk
open Go Go.Ev Go.Proofs
set_option linter.unusedVariables false
set_option linter.unusedSimpArgs false
set_option maxHeartbeats 4000000
attribute [local go_sem] eqs implies_true List.map_cons List.map_nil kl klL roD roL Option.map_some Option.map_none Option.getD_some Option.getD_none binVal binObl unVal if_true if_false eq_self passA frnD resD content getH getR getW viaNot viaSlot viaBox viaDeep viaMem List.contains_cons List.contains_nil grabs peeks okCells isCell place cellsOf chunk elt List.headD_cons List.length_cons List.length_nil List.take_succ_cons List.take_zero List.drop_succ_cons List.drop_zero List.nil_append List.cons_append List.append_nil List.all_cons List.all_nil plainC takeR setW over reCell List.getElem?_cons_zero List.getElem?_cons_succ List.set_cons_zero List.take_length outV resG plainV pack outVG outBx List.set_cons_succ Ref.idx Ref.addOff beq_self_eq_true bxL Option.bind_some writeR isLit viaBoxes capsPA boxPA nsOf noDup boxesAt argG passG passD rhoIn rhoOut idxIn tr trL List.getD_cons_zero gives pasOf isPtr Ins.d List.getD_cons_succ resL frnL partB_f partB_t partB_p partB_s St.setP mixR v_slcT List.getLast?_nil List.getLast?_singleton List.dropLast_singleton List.nil_append frnL_fs roL_fs resL_fs passL_fs klL_fs trL_fs map_roD_fs fs_length hS_length frnL_hS roL_hS_own roL_hS_frn roL_hS_ro resL_hS_own resL_hS_ro klL_hS klL_hS_own klL_hS_frn passL_hS_own passL_hS_frn trL_hS_own trL_hS_frn frnL_ns resL_ns roL_ns passL_ns klL_ns
variable {m : Int × Bool}
def noughts_l0' : AC := .seq (.seq (.reg (.seq [⟨some (6, false), none, .mov (.tmp 5 true) .peek⟩,⟨some (7, false), none, .mov (.tmp 0 true) .peek⟩,⟨some (8, false), none, .lenL (.tmp 7 false)⟩,⟨some (9, false), none, .bin .lss (.tmp 6 false) (.tmp 8 false)⟩])) [0, 1, 5, 9] []
  (.cond (.tmp 9 false)
    (.skip)
    (.exit 0))) [0, 1, 5] []
  (.seq (.block 1 (.seq (.reg (.seq [⟨some (12, false), none, .mov (.tmp 0 true) .peek⟩,⟨some (13, false), none, .mov (.tmp 5 true) .peek⟩,⟨some (14, false), none, .iad (.tmp 12 false) (.tmp 13 false) 1⟩,⟨some (15, false), none, .load (.tmp 14 false) 1 false false⟩,⟨some (16, false), none, .mov (.tmp 1 true) .peek⟩,⟨some (17, false), none, .bin .neq (.tmp 15 false) (.tmp 16 false)⟩])) [0, 1, 5, 17] []
    (.cond (.tmp 17 false)
      (.seq (.reg (.seq [⟨some (4, true), none, .mov (.cst (.bool false) (.lit (.bool false))) .asg⟩])) [4] []
      (.ret))
      (.skip)))) [0, 1, 5] []
  (.reg (.seq [⟨some (10, false), none, .mov (.tmp 5 true) .peek⟩,⟨some (11, false), none, .bin .add (.tmp 10 false) (.cst (.int .i64 1) (.lit (.int .i64 1)))⟩,⟨some (5, true), none, .mov (.tmp 11 false) .asg⟩])))
def noughts_l0 : AC := noughts_l0'
theorem noughts_l0_w (C : Kn) (K : Ex → St → Prop) (s : St) : vcC C noughts_l0 K s = vcC C noughts_l0' K s := nr rfl
def noughts_k1' : AC := .seq (.reg (.seq [⟨some (4, true), none, .mov (.cst (.bool true) (.lit (.bool true))) .asg⟩])) [4] []
  (.ret)
def noughts_k1 : AC := noughts_k1'
theorem noughts_k1_w (C : Kn) (K : Ex → St → Prop) (s : St) : vcC C noughts_k1 K s = vcC C noughts_k1' K s := nr rfl
def noughts : AF := ⟨.seq (.reg (.seq [⟨some (4, true), none, .mov (.cst (.bool false) (.lit (.bool false))) .asg⟩])) [0, 1] []
  (.seq (.seq (.reg (.seq [⟨some (5, true), none, .mov (.cst (.int .i64 0) (.lit (.int .i64 0))) .asg⟩])) [0, 1, 5] []
  (.block 0 (.loop [0, 1, 5] [] noughts_l0))) [] [] noughts_k1),
  [.tmp 4]⟩
theorem noughts_comp (m : Int × Bool) : compF Tryd.prog (gl m) [] Tryd.f22 = some noughts := by kernel_rfl
def ljoin : AF := ⟨.seq (.reg (.seq [⟨some (4, true), none, .mov (.cst (.slice none 0 0) (.sl .own 1 [])) .asg⟩])) [0, 1] []
  (.seq (.reg (.seq [⟨some (5, true), none, .mov (.cst (.slice none 0 0) (.sl .own 1 [])) .asg⟩])) [0, 1, 5] []
  (.seq (.reg (.seq [⟨some (6, false), none, .mov (.tmp 5 true) .take⟩,⟨some (7, false), none, .mov (.tmp 0 true) .peek⟩,⟨some (8, false), none, .app 1 16 (.tmp 6 false) (.tmp 7 false)⟩,⟨some (5, true), none, .mov (.tmp 8 false) .asg⟩])) [1, 5] []
  (.seq (.reg (.seq [⟨some (9, false), none, .mov (.tmp 5 true) .take⟩,⟨some (10, false), none, .mov (.tmp 1 true) .peek⟩,⟨some (11, false), none, .app 1 16 (.tmp 9 false) (.tmp 10 false)⟩,⟨some (4, true), none, .mov (.tmp 11 false) .asg⟩])) [4] []
  (.ret)))),
  [.tmp 4]⟩
theorem ljoin_comp (m : Int × Bool) : compF Tryd.prog (gl m) [] Tryd.f21 = some ljoin := by kernel_rfl
def held_k0' : AC := .seq (.block 3 (.reg (.seq [⟨some (22, false), none, .mov (.tmp 4 true) .peek⟩,⟨some (23, false), none, .mov (.tmp 22 false) .peek⟩,⟨some (24, false), (some (23, false)), .mov (.tmp 0 true) .peek⟩,⟨some (25, false), (some (23, false)), .mov (.tmp 3 true) .peek⟩,⟨some (26, false), (some (23, false)), .iad (.tmp 24 false) (.tmp 25 false) 3⟩,⟨some (27, false), (some (23, false)), .fad (.tmp 26 false) 2⟩,⟨some (28, false), (some (23, false)), .load (.tmp 27 false) 1 false false⟩,⟨some (29, false), (some (23, false)), .mov (.tmp 5 true) .peek⟩,⟨some (30, false), (some (23, false)), .iad (.tmp 28 false) (.tmp 29 false) 2⟩,⟨some (31, false), (some (23, false)), .fad (.tmp 30 false) 0⟩,⟨some (32, false), (some (23, false)), .load (.tmp 31 false) 1 false false⟩,⟨some (33, false), (some (23, false)), .bin .neq (.tmp 32 false) (.cst (.int .i64 3) (.lit (.int .i64 3)))⟩,⟨some (34, false), none, .pick (.tmp 23 false) (.cst (.bool true) (.lit (.bool true))) (.tmp 33 false)⟩,⟨some (4, true), none, .mov (.tmp 34 false) .asg⟩]))) [0, 3, 4, 5] []
  (.reg (.seq [⟨some (20, false), none, .mov (.tmp 5 true) .peek⟩,⟨some (21, false), none, .bin .add (.tmp 20 false) (.cst (.int .i64 1) (.lit (.int .i64 1)))⟩,⟨some (5, true), none, .mov (.tmp 21 false) .asg⟩]))
def held_k0 : AC := held_k0'
theorem held_k0_w (C : Kn) (K : Ex → St → Prop) (s : St) : vcC C held_k0 K s = vcC C held_k0' K s := nr rfl
def held_l1' : AC := .seq (.seq (.reg (.seq [⟨some (12, false), none, .mov (.tmp 5 true) .peek⟩,⟨some (13, false), none, .mov (.tmp 0 true) .peek⟩,⟨some (14, false), none, .mov (.tmp 3 true) .peek⟩,⟨some (15, false), none, .iad (.tmp 13 false) (.tmp 14 false) 3⟩,⟨some (16, false), none, .fad (.tmp 15 false) 2⟩,⟨some (17, false), none, .load (.tmp 16 false) 1 false false⟩,⟨some (18, false), none, .lenL (.tmp 17 false)⟩,⟨some (19, false), none, .bin .lss (.tmp 12 false) (.tmp 18 false)⟩])) [0, 3, 4, 5, 19] []
  (.cond (.tmp 19 false)
    (.skip)
    (.exit 2))) [0, 3, 4, 5] [] held_k0
def held_l1 : AC := held_l1'
theorem held_l1_w (C : Kn) (K : Ex → St → Prop) (s : St) : vcC C held_l1 K s = vcC C held_l1' K s := nr rfl
def held_k2' : AC := .seq (.reg (.seq [⟨some (35, false), none, .mov (.tmp 4 true) .peek⟩,⟨some (36, false), none, .un .not (.tmp 35 false)⟩])) [0, 3, 36] []
    (.cond (.tmp 36 false)
      (.seq (.reg (.seq [⟨some (2, true), none, .mov (.cst (.bool false) (.lit (.bool false))) .asg⟩])) [2] []
      (.ret))
      (.skip))
def held_k2 : AC := held_k2'
theorem held_k2_w (C : Kn) (K : Ex → St → Prop) (s : St) : vcC C held_k2 K s = vcC C held_k2' K s := nr rfl
def held_k3' : AC := .reg (.seq [⟨some (10, false), none, .mov (.tmp 3 true) .peek⟩,⟨some (11, false), none, .bin .add (.tmp 10 false) (.cst (.int .i64 1) (.lit (.int .i64 1)))⟩,⟨some (3, true), none, .mov (.tmp 11 false) .asg⟩])
def held_k3 : AC := held_k3'
theorem held_k3_w (C : Kn) (K : Ex → St → Prop) (s : St) : vcC C held_k3 K s = vcC C held_k3' K s := nr rfl
def held_k4' : AC := .seq (.block 1 (.seq (.reg (.seq [⟨some (4, true), none, .mov (.cst (.bool false) (.lit (.bool false))) .asg⟩])) [0, 3, 4] []
    (.seq (.seq (.reg (.seq [⟨some (5, true), none, .mov (.cst (.int .i64 0) (.lit (.int .i64 0))) .asg⟩])) [0, 3, 4, 5] []
    (.block 2 (.loop [0, 3, 4, 5] [] held_l1))) [0, 3, 4] [] held_k2))) [0, 3] [] held_k3
def held_k4 : AC := held_k4'
theorem held_k4_w (C : Kn) (K : Ex → St → Prop) (s : St) : vcC C held_k4 K s = vcC C held_k4' K s := nr rfl
def held_l5' : AC := .seq (.seq (.reg (.seq [⟨some (6, false), none, .mov (.tmp 3 true) .peek⟩,⟨some (7, false), none, .mov (.tmp 0 true) .peek⟩,⟨some (8, false), none, .lenL (.tmp 7 false)⟩,⟨some (9, false), none, .bin .lss (.tmp 6 false) (.tmp 8 false)⟩])) [0, 3, 9] []
  (.cond (.tmp 9 false)
    (.skip)
    (.exit 0))) [0, 3] [] held_k4
def held_l5 : AC := held_l5'
theorem held_l5_w (C : Kn) (K : Ex → St → Prop) (s : St) : vcC C held_l5 K s = vcC C held_l5' K s := nr rfl
def held_k6' : AC := .seq (.reg (.seq [⟨some (2, true), none, .mov (.cst (.bool true) (.lit (.bool true))) .asg⟩])) [2] []
  (.ret)
def held_k6 : AC := held_k6'
theorem held_k6_w (C : Kn) (K : Ex → St → Prop) (s : St) : vcC C held_k6 K s = vcC C held_k6' K s := nr rfl
def held : AF := ⟨.seq (.reg (.seq [⟨some (2, true), none, .mov (.cst (.bool false) (.lit (.bool false))) .asg⟩])) [0] []
  (.seq (.seq (.reg (.seq [⟨some (3, true), none, .mov (.cst (.int .i64 0) (.lit (.int .i64 0))) .asg⟩])) [0, 3] []
  (.block 0 (.loop [0, 3] [] held_l5))) [] [] held_k6),
  [.tmp 2]⟩
theorem held_comp (m : Int × Bool) : compF Tryd.prog (gl m) [] Tryd.f20 = some held := by kernel_rfl
def unlike_k0' : AC := .cond (.tmp 31 false)
      (.seq (.reg (.seq [⟨some (6, true), none, .mov (.cst (.bool false) (.lit (.bool false))) .asg⟩])) [6] []
      (.ret))
      (.skip)
def unlike_k0 : AC := unlike_k0'
theorem unlike_k0_w (C : Kn) (K : Ex → St → Prop) (s : St) : vcC C unlike_k0 K s = vcC C unlike_k0' K s := nr rfl
def unlike_k1' : AC := .reg (.seq [⟨some (21, false), none, .mov (.tmp 8 true) .peek⟩,⟨some (22, false), none, .bin .add (.tmp 21 false) (.cst (.int .i64 1) (.lit (.int .i64 1)))⟩,⟨some (8, true), none, .mov (.tmp 22 false) .asg⟩])
def unlike_k1 : AC := unlike_k1'
theorem unlike_k1_w (C : Kn) (K : Ex → St → Prop) (s : St) : vcC C unlike_k1 K s = vcC C unlike_k1' K s := nr rfl
def unlike_k2' : AC := .seq (.block 3 (.seq (.reg (.draw [⟨some (23, false), none, .mov (.tmp 0 true) .peek⟩,⟨some (24, false), none, .mov (.tmp 7 true) .peek⟩,⟨some (25, false), none, .iad (.tmp 23 false) (.tmp 24 false) 1⟩,⟨some (26, false), none, .load (.tmp 25 false) 1 false false⟩,⟨some (27, false), none, .mov (.tmp 0 true) .peek⟩,⟨some (28, false), none, .mov (.tmp 8 true) .peek⟩,⟨some (29, false), none, .iad (.tmp 27 false) (.tmp 28 false) 1⟩,⟨some (30, false), none, .load (.tmp 29 false) 1 false false⟩,⟨some (31, false), none, .bin .eql (.tmp 26 false) (.tmp 30 false)⟩] .done)) [0, 1, 2, 7, 8, 31] [] unlike_k0)) [0, 1, 2, 7, 8] [] unlike_k1
def unlike_k2 : AC := unlike_k2'
theorem unlike_k2_w (C : Kn) (K : Ex → St → Prop) (s : St) : vcC C unlike_k2 K s = vcC C unlike_k2' K s := nr rfl
def unlike_l3' : AC := .seq (.seq (.reg (.seq [⟨some (18, false), none, .mov (.tmp 8 true) .peek⟩,⟨some (19, false), none, .mov (.tmp 7 true) .peek⟩,⟨some (20, false), none, .bin .lss (.tmp 18 false) (.tmp 19 false)⟩])) [0, 1, 2, 7, 8, 20] []
  (.cond (.tmp 20 false)
    (.skip)
    (.exit 2))) [0, 1, 2, 7, 8] [] unlike_k2
def unlike_l3 : AC := unlike_l3'
theorem unlike_l3_w (C : Kn) (K : Ex → St → Prop) (s : St) : vcC C unlike_l3 K s = vcC C unlike_l3' K s := nr rfl
def unlike_k4' : AC := .reg (.seq [⟨some (16, false), none, .mov (.tmp 7 true) .peek⟩,⟨some (17, false), none, .bin .add (.tmp 16 false) (.cst (.int .i64 1) (.lit (.int .i64 1)))⟩,⟨some (7, true), none, .mov (.tmp 17 false) .asg⟩])
def unlike_k4 : AC := unlike_k4'
theorem unlike_k4_w (C : Kn) (K : Ex → St → Prop) (s : St) : vcC C unlike_k4 K s = vcC C unlike_k4' K s := nr rfl
def unlike_k5' : AC := .seq (.block 1 (.seq (.reg (.seq [⟨some (8, true), none, .mov (.cst (.int .i64 0) (.lit (.int .i64 0))) .asg⟩])) [0, 1, 2, 7, 8] []
    (.block 2 (.loop [0, 1, 2, 7, 8] [] unlike_l3)))) [0, 1, 2, 7] [] unlike_k4
def unlike_k5 : AC := unlike_k5'
theorem unlike_k5_w (C : Kn) (K : Ex → St → Prop) (s : St) : vcC C unlike_k5 K s = vcC C unlike_k5' K s := nr rfl
def unlike_l6' : AC := .seq (.seq (.reg (.seq [⟨some (12, false), none, .mov (.tmp 7 true) .peek⟩,⟨some (13, false), none, .mov (.tmp 0 true) .peek⟩,⟨some (14, false), none, .lenL (.tmp 13 false)⟩,⟨some (15, false), none, .bin .lss (.tmp 12 false) (.tmp 14 false)⟩])) [0, 1, 2, 7, 15] []
  (.cond (.tmp 15 false)
    (.skip)
    (.exit 0))) [0, 1, 2, 7] [] unlike_k5
def unlike_l6 : AC := unlike_l6'
theorem unlike_l6_w (C : Kn) (K : Ex → St → Prop) (s : St) : vcC C unlike_l6 K s = vcC C unlike_l6' K s := nr rfl
def unlike_k7' : AC := .cond (.tmp 52 false)
      (.seq (.reg (.seq [⟨some (6, true), none, .mov (.cst (.bool false) (.lit (.bool false))) .asg⟩])) [6] []
      (.ret))
      (.skip)
def unlike_k7 : AC := unlike_k7'
theorem unlike_k7_w (C : Kn) (K : Ex → St → Prop) (s : St) : vcC C unlike_k7 K s = vcC C unlike_k7' K s := nr rfl
def unlike_k8' : AC := .reg (.seq [⟨some (42, false), none, .mov (.tmp 10 true) .peek⟩,⟨some (43, false), none, .bin .add (.tmp 42 false) (.cst (.int .i64 1) (.lit (.int .i64 1)))⟩,⟨some (10, true), none, .mov (.tmp 43 false) .asg⟩])
def unlike_k8 : AC := unlike_k8'
theorem unlike_k8_w (C : Kn) (K : Ex → St → Prop) (s : St) : vcC C unlike_k8 K s = vcC C unlike_k8' K s := nr rfl
def unlike_k9' : AC := .seq (.block 7 (.seq (.reg (.draw [⟨some (44, false), none, .mov (.tmp 2 true) .peek⟩,⟨some (45, false), none, .mov (.tmp 9 true) .peek⟩,⟨some (46, false), none, .iad (.tmp 44 false) (.tmp 45 false) 1⟩,⟨some (47, false), none, .load (.tmp 46 false) 1 false false⟩,⟨some (48, false), none, .mov (.tmp 0 true) .peek⟩,⟨some (49, false), none, .mov (.tmp 10 true) .peek⟩,⟨some (50, false), none, .iad (.tmp 48 false) (.tmp 49 false) 1⟩,⟨some (51, false), none, .load (.tmp 50 false) 1 false false⟩,⟨some (52, false), none, .bin .eql (.tmp 47 false) (.tmp 51 false)⟩] .done)) [0, 1, 2, 9, 10, 52] [] unlike_k7)) [0, 1, 2, 9, 10] [] unlike_k8
def unlike_k9 : AC := unlike_k9'
theorem unlike_k9_w (C : Kn) (K : Ex → St → Prop) (s : St) : vcC C unlike_k9 K s = vcC C unlike_k9' K s := nr rfl
def unlike_l10' : AC := .seq (.seq (.reg (.seq [⟨some (38, false), none, .mov (.tmp 10 true) .peek⟩,⟨some (39, false), none, .mov (.tmp 0 true) .peek⟩,⟨some (40, false), none, .lenL (.tmp 39 false)⟩,⟨some (41, false), none, .bin .lss (.tmp 38 false) (.tmp 40 false)⟩])) [0, 1, 2, 9, 10, 41] []
  (.cond (.tmp 41 false)
    (.skip)
    (.exit 6))) [0, 1, 2, 9, 10] [] unlike_k9
def unlike_l10 : AC := unlike_l10'
theorem unlike_l10_w (C : Kn) (K : Ex → St → Prop) (s : St) : vcC C unlike_l10 K s = vcC C unlike_l10' K s := nr rfl
def unlike_k11' : AC := .cond (.tmp 67 false)
      (.seq (.reg (.seq [⟨some (6, true), none, .mov (.cst (.bool false) (.lit (.bool false))) .asg⟩])) [6] []
      (.ret))
      (.skip)
def unlike_k11 : AC := unlike_k11'
theorem unlike_k11_w (C : Kn) (K : Ex → St → Prop) (s : St) : vcC C unlike_k11 K s = vcC C unlike_k11' K s := nr rfl
def unlike_k12' : AC := .reg (.seq [⟨some (57, false), none, .mov (.tmp 11 true) .peek⟩,⟨some (58, false), none, .bin .add (.tmp 57 false) (.cst (.int .i64 1) (.lit (.int .i64 1)))⟩,⟨some (11, true), none, .mov (.tmp 58 false) .asg⟩])
def unlike_k12 : AC := unlike_k12'
theorem unlike_k12_w (C : Kn) (K : Ex → St → Prop) (s : St) : vcC C unlike_k12 K s = vcC C unlike_k12' K s := nr rfl
def unlike_k13' : AC := .seq (.block 9 (.seq (.reg (.draw [⟨some (59, false), none, .mov (.tmp 2 true) .peek⟩,⟨some (60, false), none, .mov (.tmp 9 true) .peek⟩,⟨some (61, false), none, .iad (.tmp 59 false) (.tmp 60 false) 1⟩,⟨some (62, false), none, .load (.tmp 61 false) 1 false false⟩,⟨some (63, false), none, .mov (.tmp 1 true) .peek⟩,⟨some (64, false), none, .mov (.tmp 11 true) .peek⟩,⟨some (65, false), none, .iad (.tmp 63 false) (.tmp 64 false) 1⟩,⟨some (66, false), none, .load (.tmp 65 false) 1 false false⟩,⟨some (67, false), none, .bin .eql (.tmp 62 false) (.tmp 66 false)⟩] .done)) [0, 1, 2, 9, 11, 67] [] unlike_k11)) [0, 1, 2, 9, 11] [] unlike_k12
def unlike_k13 : AC := unlike_k13'
theorem unlike_k13_w (C : Kn) (K : Ex → St → Prop) (s : St) : vcC C unlike_k13 K s = vcC C unlike_k13' K s := nr rfl
def unlike_l14' : AC := .seq (.seq (.reg (.seq [⟨some (53, false), none, .mov (.tmp 11 true) .peek⟩,⟨some (54, false), none, .mov (.tmp 1 true) .peek⟩,⟨some (55, false), none, .lenL (.tmp 54 false)⟩,⟨some (56, false), none, .bin .lss (.tmp 53 false) (.tmp 55 false)⟩])) [0, 1, 2, 9, 11, 56] []
  (.cond (.tmp 56 false)
    (.skip)
    (.exit 8))) [0, 1, 2, 9, 11] [] unlike_k13
def unlike_l14 : AC := unlike_l14'
theorem unlike_l14_w (C : Kn) (K : Ex → St → Prop) (s : St) : vcC C unlike_l14 K s = vcC C unlike_l14' K s := nr rfl
def unlike_k15' : AC := .seq (.reg (.seq [⟨some (11, true), none, .mov (.cst (.int .i64 0) (.lit (.int .i64 0))) .asg⟩])) [0, 1, 2, 9, 11] []
    (.block 8 (.loop [0, 1, 2, 9, 11] [] unlike_l14))
def unlike_k15 : AC := unlike_k15'
theorem unlike_k15_w (C : Kn) (K : Ex → St → Prop) (s : St) : vcC C unlike_k15 K s = vcC C unlike_k15' K s := nr rfl
def unlike_k16' : AC := .reg (.seq [⟨some (36, false), none, .mov (.tmp 9 true) .peek⟩,⟨some (37, false), none, .bin .add (.tmp 36 false) (.cst (.int .i64 1) (.lit (.int .i64 1)))⟩,⟨some (9, true), none, .mov (.tmp 37 false) .asg⟩])
def unlike_k16 : AC := unlike_k16'
theorem unlike_k16_w (C : Kn) (K : Ex → St → Prop) (s : St) : vcC C unlike_k16 K s = vcC C unlike_k16' K s := nr rfl
def unlike_k17' : AC := .seq (.block 5 (.seq (.seq (.reg (.seq [⟨some (10, true), none, .mov (.cst (.int .i64 0) (.lit (.int .i64 0))) .asg⟩])) [0, 1, 2, 9, 10] []
    (.block 6 (.loop [0, 1, 2, 9, 10] [] unlike_l10))) [0, 1, 2, 9] [] unlike_k15)) [0, 1, 2, 9] [] unlike_k16
def unlike_k17 : AC := unlike_k17'
theorem unlike_k17_w (C : Kn) (K : Ex → St → Prop) (s : St) : vcC C unlike_k17 K s = vcC C unlike_k17' K s := nr rfl
def unlike_l18' : AC := .seq (.seq (.reg (.seq [⟨some (32, false), none, .mov (.tmp 9 true) .peek⟩,⟨some (33, false), none, .mov (.tmp 2 true) .peek⟩,⟨some (34, false), none, .lenL (.tmp 33 false)⟩,⟨some (35, false), none, .bin .lss (.tmp 32 false) (.tmp 34 false)⟩])) [0, 1, 2, 9, 35] []
  (.cond (.tmp 35 false)
    (.skip)
    (.exit 4))) [0, 1, 2, 9] [] unlike_k17
def unlike_l18 : AC := unlike_l18'
theorem unlike_l18_w (C : Kn) (K : Ex → St → Prop) (s : St) : vcC C unlike_l18 K s = vcC C unlike_l18' K s := nr rfl
def unlike_k19' : AC := .seq (.reg (.seq [⟨some (6, true), none, .mov (.cst (.bool true) (.lit (.bool true))) .asg⟩])) [6] []
  (.ret)
def unlike_k19 : AC := unlike_k19'
theorem unlike_k19_w (C : Kn) (K : Ex → St → Prop) (s : St) : vcC C unlike_k19 K s = vcC C unlike_k19' K s := nr rfl
def unlike_k20' : AC := .seq (.seq (.reg (.seq [⟨some (9, true), none, .mov (.cst (.int .i64 0) (.lit (.int .i64 0))) .asg⟩])) [0, 1, 2, 9] []
  (.block 4 (.loop [0, 1, 2, 9] [] unlike_l18))) [] [] unlike_k19
def unlike_k20 : AC := unlike_k20'
theorem unlike_k20_w (C : Kn) (K : Ex → St → Prop) (s : St) : vcC C unlike_k20 K s = vcC C unlike_k20' K s := nr rfl
def unlike : AF := ⟨.seq (.reg (.seq [⟨some (6, true), none, .mov (.cst (.bool false) (.lit (.bool false))) .asg⟩])) [0, 1, 2] []
  (.seq (.seq (.reg (.seq [⟨some (7, true), none, .mov (.cst (.int .i64 0) (.lit (.int .i64 0))) .asg⟩])) [0, 1, 2, 7] []
  (.block 0 (.loop [0, 1, 2, 7] [] unlike_l6))) [0, 1, 2] [] unlike_k20),
  [.tmp 6]⟩
theorem unlike_comp (m : Int × Bool) : compF Tryd.prog (gl m) [] Tryd.f17 = some unlike := by kernel_rfl
theorem rep_get {n i : Nat} {k : Int} (h : i < n) : (ns (List.replicate n k))[i]? = some (I k) := by simp [ns, h]
theorem noughts_snd (n : Nat) (k : Int) (hn : n ≤ 1048576) : Snd Tryd.prog (gl m) 22 [.sl .frn 1 (ns (List.replicate n k)), I k] (B true) := by
  refine snd_of (fn := Tryd.f22) (af := noughts) Tryd.func22 (noughts_comp m) mixed (kn_ok m) (Nat.le_of_ble_eq_true rfl) ?_
  simp only [noughts, go_sem, reduceCtorEq, Nat.reduceEqDiff, reduceIte, Nat.reduceAdd, Nat.reduceSub, Nat.reduceLeDiff, Int.reduceToNat, Nat.reduceBEq]
  refine loop_up n (fun i => mkS [(0, .sl .frn 1 (ns (List.replicate n k))), (1, I k), (5, N i)] []) rfl ?_
  intro i hi ih
  simp only [noughts_l0_w, noughts_l0', go_sem, reduceCtorEq, Nat.reduceEqDiff, reduceIte, Nat.reduceAdd, Nat.reduceSub, Nat.reduceLeDiff, Int.reduceToNat, Nat.reduceBEq]
  repeat ((with_reducible apply And.intro); (case left => first | omega | (simp only [List.length_append, List.length_cons, List.length_nil, List.length_drop, List.length_take, List.length_tail, List.length_dropLast, fs_length, ss_length, bs_length, ns_length]; omega)))
  have hl : (ns (List.replicate n k)).length = n := by simp [ns]
  by_cases h : i < n
  · have q1 : IntKind.i64.wrap ((i : Int) + 1) = ((i + 1 : Nat) : Int) := wrapN _ (by omega) (by omega)
    simp only [hl, lt_t h, rep_get h, Int.toNat_natCast, go_sem, reduceCtorEq, Nat.reduceEqDiff, reduceIte, Nat.reduceAdd, Nat.reduceSub, Nat.reduceLeDiff, Int.reduceToNat, Nat.reduceBEq]
    repeat ((with_reducible apply And.intro); (case left => first | omega | (simp only [List.length_append, List.length_cons, List.length_nil, List.length_drop, List.length_take, List.length_tail, List.length_dropLast, fs_length, ss_length, bs_length, ns_length]; omega)))
    simp only [ne_f (rfl : k = k), q1, go_sem, reduceCtorEq, Nat.reduceEqDiff, reduceIte, Nat.reduceAdd, Nat.reduceSub, Nat.reduceLeDiff, Int.reduceToNat, Nat.reduceBEq]
    exact ih h
  · obtain rfl : i = n := by omega
    simp only [hl, lt_f h, noughts_k1_w, noughts_k1', go_sem, reduceCtorEq, Nat.reduceEqDiff, reduceIte, Nat.reduceAdd, Nat.reduceSub, Nat.reduceLeDiff, Int.reduceToNat, Nat.reduceBEq]
    first | rfl | trace_state
theorem ss_app (l k : List Bs) : ss l ++ ss k = ss (l ++ k) := by simp [ss]
theorem ljoin_snd (a b : List Bs) (ha : a.length ≤ 1048576) (hb : b.length ≤ 1048576) : Snd Tryd.prog (gl m) 21 [.sl .frn 1 (ss a), .sl .frn 1 (ss b)] (.sl .own 1 (ss (a ++ b))) := by
  refine snd_of (fn := Tryd.f21) (af := ljoin) Tryd.func21 (ljoin_comp m) mixed (kn_ok m) (Nat.le_of_ble_eq_true rfl) ?_
  simp only [ljoin, go_sem, reduceCtorEq, Nat.reduceEqDiff, reduceIte, Nat.reduceAdd, Nat.reduceSub, Nat.reduceLeDiff, Int.reduceToNat, Nat.reduceBEq]
  repeat ((with_reducible apply And.intro); (case left => first | omega | (simp only [List.length_append, List.length_cons, List.length_nil, List.length_drop, List.length_take, List.length_tail, List.length_dropLast, fs_length, ss_length, bs_length, ns_length]; omega)))
  try simp only [ss_app]
  all_goals first | rfl | omega | trace_state
def heldB (l : List Hk) : Bool := l.all fun h => h.2.2.any fun x => x.1 != 3
theorem any_take {l : List HL} {k : Nat} (h : k < l.length) : ((l.take (k + 1)).any fun x => x.1 != 3) = (((l.take k).any fun x => x.1 != 3) || l[k].1 != 3) := by
  rw [take_snoc h, List.any_append]; simp
set_option maxRecDepth 4000 in
theorem held_snd (l : List Hk) (hl : okHs l) : Snd Tryd.prog (gl m) 20 [.sl .frn 3 (hS .frn l)] (B (heldB l)) := by
  refine snd_of (fn := Tryd.f20) (af := held) Tryd.func20 (held_comp m) mixed (kn_ok m) (Nat.le_of_ble_eq_true rfl) ?_
  simp only [held, go_sem, reduceCtorEq, Nat.reduceEqDiff, reduceIte, Nat.reduceAdd, Nat.reduceSub, Nat.reduceLeDiff, Int.reduceToNat, Nat.reduceBEq]
  obtain ⟨hll, hls⟩ := hl
  refine loop_inv l.length (fun i => mkS [(0, .sl .frn 3 (hS .frn l)), (3, N i)] []) (fun i => ((l.take i).all fun h => h.2.2.any fun x => x.1 != 3) = true) rfl (by simp) ?_
  intro i hi hinv ih
  simp only [held_l5_w, held_l5', go_sem, reduceCtorEq, Nat.reduceEqDiff, reduceIte, Nat.reduceAdd, Nat.reduceSub, Nat.reduceLeDiff, Int.reduceToNat, Nat.reduceBEq]
  repeat ((with_reducible apply And.intro); (case left => first | omega | (simp only [List.length_append, List.length_cons, List.length_nil, List.length_drop, List.length_take, List.length_tail, List.length_dropLast, fs_length, ss_length, bs_length, ns_length]; omega)))
  by_cases h : i < l.length
  · have g := hS_get (fl := .frn) h
    have hx := (hls l[i] (List.getElem_mem h)).1
    have q1 : IntKind.i64.wrap ((i : Int) + 1) = ((i + 1 : Nat) : Int) := wrapN _ (by omega) (by omega)
    have hst : ((l.take (i + 1)).all fun h => h.2.2.any fun x => x.1 != 3) = (l[i].2.2.any fun x => x.1 != 3) := by
      rw [take_snoc h, List.all_append, hinv]; simp
    have hno : (l[i].2.2.any fun x => x.1 != 3) = false → heldB l = false := fun hf => by
      rw [heldB, List.all_eq_false]
      exact ⟨l[i], List.getElem_mem h, by rw [hf]; simp⟩
    generalize l[i] = H at g hx hst hno
    simp only [lt_t h, held_k4_w, held_k4', go_sem, reduceCtorEq, Nat.reduceEqDiff, reduceIte, Nat.reduceAdd, Nat.reduceSub, Nat.reduceLeDiff, Int.reduceToNat, Nat.reduceBEq]
    refine loop_up H.2.2.length (fun k => mkS [(0, .sl .frn 3 (hS .frn l)), (3, N i), (4, B ((H.2.2.take k).any fun x => x.1 != 3)), (5, N k)] []) rfl ?_
    intro k hk ihk
    simp only [held_l1_w, held_l1', g, Int.toNat_natCast, go_sem, reduceCtorEq, Nat.reduceEqDiff, reduceIte, Nat.reduceAdd, Nat.reduceSub, Nat.reduceLeDiff, Int.reduceToNat, Nat.reduceBEq]
    repeat ((with_reducible apply And.intro); (case left => first | omega | (simp only [List.length_append, List.length_cons, List.length_nil, List.length_drop, List.length_take, List.length_tail, List.length_dropLast, fs_length, ss_length, bs_length, ns_length]; omega)))
    by_cases hkl : k < H.2.2.length
    · have g2 := fs_getL hkl
      have q2 : IntKind.i64.wrap ((k : Int) + 1) = ((k + 1 : Nat) : Int) := wrapN _ (by omega) (by omega)
      rw [any_take hkl] at ihk
      generalize H.2.2[k] = x at g2 ihk
      simp only [lt_t hkl, held_k0_w, held_k0', go_sem, reduceCtorEq, Nat.reduceEqDiff, reduceIte, Nat.reduceAdd, Nat.reduceSub, Nat.reduceLeDiff, Int.reduceToNat, Nat.reduceBEq]
      cases hc : (H.2.2.take k).any fun x => x.1 != 3 with
      | true =>
        rw [hc, Bool.true_or] at ihk
        simp only [q2, go_sem, reduceCtorEq, Nat.reduceEqDiff, reduceIte, Nat.reduceAdd, Nat.reduceSub, Nat.reduceLeDiff, Int.reduceToNat, Nat.reduceBEq]
        exact ihk hkl
      | false =>
        rw [hc, Bool.false_or] at ihk
        simp only [g, g2, q2, Int.toNat_natCast, go_sem, reduceCtorEq, Nat.reduceEqDiff, reduceIte, Nat.reduceAdd, Nat.reduceSub, Nat.reduceLeDiff, Int.reduceToNat, Nat.reduceBEq]
        repeat ((with_reducible apply And.intro); (case left => first | omega | (simp only [List.length_append, List.length_cons, List.length_nil, List.length_drop, List.length_take, List.length_tail, List.length_dropLast, fs_length, ss_length, bs_length, ns_length]; omega)))
        try simp only [g2, q2, Int.toNat_natCast, go_sem, reduceCtorEq, Nat.reduceEqDiff, reduceIte, Nat.reduceAdd, Nat.reduceSub, Nat.reduceLeDiff, Int.reduceToNat, Nat.reduceBEq]
        repeat ((with_reducible apply And.intro); (case left => first | omega | (simp only [List.length_append, List.length_cons, List.length_nil, List.length_drop, List.length_take, List.length_tail, List.length_dropLast, fs_length, ss_length, bs_length, ns_length]; omega)))
        exact ihk hkl
    · obtain rfl : k = H.2.2.length := by omega
      rw [List.take_length]
      simp only [lt_f hkl, held_k2_w, held_k2', go_sem, reduceCtorEq, Nat.reduceEqDiff, reduceIte, Nat.reduceAdd, Nat.reduceSub, Nat.reduceLeDiff, Int.reduceToNat, Nat.reduceBEq]
      cases hc : H.2.2.any fun x => x.1 != 3 with
      | true =>
        simp only [unVal, Bool.not_true, held_k3_w, held_k3', q1, go_sem, reduceCtorEq, Nat.reduceEqDiff, reduceIte, Nat.reduceAdd, Nat.reduceSub, Nat.reduceLeDiff, Int.reduceToNat, Nat.reduceBEq]
        exact ih h (by rw [hst, hc])
      | false =>
        rw [hno hc]
        simp only [unVal, Bool.not_false, go_sem, reduceCtorEq, Nat.reduceEqDiff, reduceIte, Nat.reduceAdd, Nat.reduceSub, Nat.reduceLeDiff, Int.reduceToNat, Nat.reduceBEq]
        first | rfl | trace_state
  · obtain rfl : i = l.length := by omega
    rw [List.take_length] at hinv
    rw [heldB, hinv]
    simp only [lt_f h, held_k6_w, held_k6', go_sem, reduceCtorEq, Nat.reduceEqDiff, reduceIte, Nat.reduceAdd, Nat.reduceSub, Nat.reduceLeDiff, Int.reduceToNat, Nat.reduceBEq]
    first | rfl | trace_state
def unA (a : List Bs) : Prop := ∀ i k, k < i → i < a.length → a[i]? ≠ a[k]?
def unO (a : List Bs) (o : List Bs) : Prop := ∀ x, x ∈ o → x ∉ a
open Classical in
noncomputable def unlikeB (a b o : List Bs) : Bool := decide (unA a ∧ unO a o ∧ unO b o)
open Classical in
theorem unlike_no {a b o : List Bs} (h : ¬ (unA a ∧ unO a o ∧ unO b o)) : unlikeB a b o = false := by rw [unlikeB]; exact decide_eq_false h
open Classical in
theorem unlike_yes {a b o : List Bs} (h : unA a ∧ unO a o ∧ unO b o) : unlikeB a b o = true := by rw [unlikeB]; exact decide_eq_true h
set_option maxRecDepth 4000 in
theorem unlike_snd (a b o : List Bs) (ha : a.length ≤ 1048576) (hb : b.length ≤ 1048576) (ho : o.length ≤ 1048576) : Snd Tryd.prog (gl m) 17 [.sl .frn 1 (ss a), .sl .frn 1 (ss b), .sl .frn 1 (ss o)] (B (unlikeB a b o)) := by
  refine snd_of (fn := Tryd.f17) (af := unlike) Tryd.func17 (unlike_comp m) mixed (kn_ok m) (Nat.le_of_ble_eq_true rfl) ?_
  simp only [unlike, go_sem, reduceCtorEq, Nat.reduceEqDiff, reduceIte, Nat.reduceAdd, Nat.reduceSub, Nat.reduceLeDiff, Int.reduceToNat, Nat.reduceBEq]
  refine loop_inv a.length (fun i => mkS [(0, .sl .frn 1 (ss a)), (1, .sl .frn 1 (ss b)), (2, .sl .frn 1 (ss o)), (7, N i)] []) (fun i => ∀ i' k, k < i' → i' < i → a[i']? ≠ a[k]?) rfl (fun i' k _ h => by omega) ?_
  intro i hi hinv ih
  simp only [unlike_l6_w, unlike_l6', go_sem, reduceCtorEq, Nat.reduceEqDiff, reduceIte, Nat.reduceAdd, Nat.reduceSub, Nat.reduceLeDiff, Int.reduceToNat, Nat.reduceBEq]
  repeat ((with_reducible apply And.intro); (case left => first | omega | (simp only [List.length_append, List.length_cons, List.length_nil, List.length_drop, List.length_take, List.length_tail, List.length_dropLast, fs_length, ss_length, bs_length, ns_length]; omega)))
  by_cases h : i < a.length
  · have g := ssE a h
    have q1 : IntKind.i64.wrap ((i : Int) + 1) = ((i + 1 : Nat) : Int) := wrapN _ (by omega) (by omega)
    simp only [ss_length, lt_t h, unlike_k5_w, unlike_k5', go_sem, reduceCtorEq, Nat.reduceEqDiff, reduceIte, Nat.reduceAdd, Nat.reduceSub, Nat.reduceLeDiff, Int.reduceToNat, Nat.reduceBEq]
    refine loop_inv i (fun k => mkS [(0, .sl .frn 1 (ss a)), (1, .sl .frn 1 (ss b)), (2, .sl .frn 1 (ss o)), (7, N i), (8, N k)] []) (fun k => ∀ k', k' < k → a[i]? ≠ a[k']?) rfl (fun k' h => by omega) ?_
    intro k hk hinvk ihk
    simp only [unlike_l3_w, unlike_l3', go_sem, reduceCtorEq, Nat.reduceEqDiff, reduceIte, Nat.reduceAdd, Nat.reduceSub, Nat.reduceLeDiff, Int.reduceToNat, Nat.reduceBEq]
    repeat ((with_reducible apply And.intro); (case left => first | omega | (simp only [List.length_append, List.length_cons, List.length_nil, List.length_drop, List.length_take, List.length_tail, List.length_dropLast, fs_length, ss_length, bs_length, ns_length]; omega)))
    by_cases hkl : k < i
    · have g2 := ssE a (show k < a.length by omega)
      have q2 : IntKind.i64.wrap ((k : Int) + 1) = ((k + 1 : Nat) : Int) := wrapN _ (by omega) (by omega)
      simp only [lt_t hkl, g, g2, Int.toNat_natCast, unlike_k2_w, unlike_k2', go_sem, reduceCtorEq, Nat.reduceEqDiff, reduceIte, Nat.reduceAdd, Nat.reduceSub, Nat.reduceLeDiff, Int.reduceToNat, Nat.reduceBEq]
      repeat ((with_reducible apply And.intro); (case left => first | omega | (simp only [List.length_append, List.length_cons, List.length_nil, List.length_drop, List.length_take, List.length_tail, List.length_dropLast, fs_length, ss_length, bs_length, ns_length]; omega)))
      by_cases he : a[i] = a[k]
      · rw [unlike_no fun hu => hu.1 i k hkl h (by rw [List.getElem?_eq_getElem h, List.getElem?_eq_getElem (by omega), he])]
        simp only [se_t he, unlike_k0_w, unlike_k0', go_sem, reduceCtorEq, Nat.reduceEqDiff, reduceIte, Nat.reduceAdd, Nat.reduceSub, Nat.reduceLeDiff, Int.reduceToNat, Nat.reduceBEq]
        first | rfl | trace_state
      · simp only [se_f he, unlike_k0_w, unlike_k0', unlike_k1_w, unlike_k1', q2, go_sem, reduceCtorEq, Nat.reduceEqDiff, reduceIte, Nat.reduceAdd, Nat.reduceSub, Nat.reduceLeDiff, Int.reduceToNat, Nat.reduceBEq]
        refine ihk hkl fun k' hk' => ?_
        by_cases e : k' = k
        · subst e; rw [List.getElem?_eq_getElem h, List.getElem?_eq_getElem (by omega)]; intro hh; exact he (Option.some.inj hh)
        · exact hinvk k' (by omega)
    · obtain rfl : k = i := by omega
      simp only [lt_f hkl, unlike_k4_w, unlike_k4', q1, go_sem, reduceCtorEq, Nat.reduceEqDiff, reduceIte, Nat.reduceAdd, Nat.reduceSub, Nat.reduceLeDiff, Int.reduceToNat, Nat.reduceBEq]
      refine ih h fun i' k' h1 h2 => ?_
      by_cases e : i' = k
      · subst e; exact hinvk k' h1
      · exact hinv i' k' h1 (by omega)
  · obtain rfl : i = a.length := by omega
    have hA : unA a := fun i k h1 h2 => hinv i k h1 h2
    clear hinv ih
    simp only [ss_length, lt_f h, unlike_k20_w, unlike_k20', go_sem, reduceCtorEq, Nat.reduceEqDiff, reduceIte, Nat.reduceAdd, Nat.reduceSub, Nat.reduceLeDiff, Int.reduceToNat, Nat.reduceBEq]
    refine loop_inv o.length (fun i => mkS [(0, .sl .frn 1 (ss a)), (1, .sl .frn 1 (ss b)), (2, .sl .frn 1 (ss o)), (9, N i)] []) (fun i => ∀ i', i' < i → ∀ x, o[i']? = some x → x ∉ a ∧ x ∉ b) rfl (fun i' h => by omega) ?_
    intro i hi hinv ih
    simp only [unlike_l18_w, unlike_l18', go_sem, reduceCtorEq, Nat.reduceEqDiff, reduceIte, Nat.reduceAdd, Nat.reduceSub, Nat.reduceLeDiff, Int.reduceToNat, Nat.reduceBEq]
    repeat ((with_reducible apply And.intro); (case left => first | omega | (simp only [List.length_append, List.length_cons, List.length_nil, List.length_drop, List.length_take, List.length_tail, List.length_dropLast, fs_length, ss_length, bs_length, ns_length]; omega)))
    by_cases h : i < o.length
    · have g := ssE o h
      have q1 : IntKind.i64.wrap ((i : Int) + 1) = ((i + 1 : Nat) : Int) := wrapN _ (by omega) (by omega)
      simp only [ss_length, lt_t h, unlike_k17_w, unlike_k17', go_sem, reduceCtorEq, Nat.reduceEqDiff, reduceIte, Nat.reduceAdd, Nat.reduceSub, Nat.reduceLeDiff, Int.reduceToNat, Nat.reduceBEq]
      refine loop_inv a.length (fun k => mkS [(0, .sl .frn 1 (ss a)), (1, .sl .frn 1 (ss b)), (2, .sl .frn 1 (ss o)), (9, N i), (10, N k)] []) (fun k => ∀ k', k' < k → a[k']? ≠ some o[i]) rfl (fun k' h => by omega) ?_
      intro k hk hinvk ihk
      simp only [unlike_l10_w, unlike_l10', go_sem, reduceCtorEq, Nat.reduceEqDiff, reduceIte, Nat.reduceAdd, Nat.reduceSub, Nat.reduceLeDiff, Int.reduceToNat, Nat.reduceBEq]
      repeat ((with_reducible apply And.intro); (case left => first | omega | (simp only [List.length_append, List.length_cons, List.length_nil, List.length_drop, List.length_take, List.length_tail, List.length_dropLast, fs_length, ss_length, bs_length, ns_length]; omega)))
      by_cases hkl : k < a.length
      · have g2 := ssE a hkl
        have q2 : IntKind.i64.wrap ((k : Int) + 1) = ((k + 1 : Nat) : Int) := wrapN _ (by omega) (by omega)
        simp only [ss_length, lt_t hkl, g, g2, Int.toNat_natCast, unlike_k9_w, unlike_k9', go_sem, reduceCtorEq, Nat.reduceEqDiff, reduceIte, Nat.reduceAdd, Nat.reduceSub, Nat.reduceLeDiff, Int.reduceToNat, Nat.reduceBEq]
        repeat ((with_reducible apply And.intro); (case left => first | omega | (simp only [List.length_append, List.length_cons, List.length_nil, List.length_drop, List.length_take, List.length_tail, List.length_dropLast, fs_length, ss_length, bs_length, ns_length]; omega)))
        by_cases he : o[i] = a[k]
        · rw [unlike_no fun hu => hu.2.1 o[i] (List.getElem_mem h) (by rw [he]; exact List.getElem_mem hkl)]
          simp only [se_t he, unlike_k7_w, unlike_k7', go_sem, reduceCtorEq, Nat.reduceEqDiff, reduceIte, Nat.reduceAdd, Nat.reduceSub, Nat.reduceLeDiff, Int.reduceToNat, Nat.reduceBEq]
          first | rfl | trace_state
        · simp only [se_f he, unlike_k7_w, unlike_k7', unlike_k8_w, unlike_k8', q2, go_sem, reduceCtorEq, Nat.reduceEqDiff, reduceIte, Nat.reduceAdd, Nat.reduceSub, Nat.reduceLeDiff, Int.reduceToNat, Nat.reduceBEq]
          refine ihk hkl fun k' hk' => ?_
          by_cases e : k' = k
          · subst e; rw [List.getElem?_eq_getElem hkl]; intro hh; exact he (Option.some.inj hh).symm
          · exact hinvk k' (by omega)
      · obtain rfl : k = a.length := by omega
        simp only [ss_length, lt_f hkl, unlike_k15_w, unlike_k15', go_sem, reduceCtorEq, Nat.reduceEqDiff, reduceIte, Nat.reduceAdd, Nat.reduceSub, Nat.reduceLeDiff, Int.reduceToNat, Nat.reduceBEq]
        refine loop_inv b.length (fun k => mkS [(0, .sl .frn 1 (ss a)), (1, .sl .frn 1 (ss b)), (2, .sl .frn 1 (ss o)), (9, N i), (11, N k)] []) (fun k => ∀ k', k' < k → b[k']? ≠ some o[i]) rfl (fun k' h => by omega) ?_
        intro k hk hinvb ihb
        simp only [unlike_l14_w, unlike_l14', go_sem, reduceCtorEq, Nat.reduceEqDiff, reduceIte, Nat.reduceAdd, Nat.reduceSub, Nat.reduceLeDiff, Int.reduceToNat, Nat.reduceBEq]
        repeat ((with_reducible apply And.intro); (case left => first | omega | (simp only [List.length_append, List.length_cons, List.length_nil, List.length_drop, List.length_take, List.length_tail, List.length_dropLast, fs_length, ss_length, bs_length, ns_length]; omega)))
        by_cases hkl : k < b.length
        · have g2 := ssE b hkl
          have q2 : IntKind.i64.wrap ((k : Int) + 1) = ((k + 1 : Nat) : Int) := wrapN _ (by omega) (by omega)
          simp only [ss_length, lt_t hkl, g, g2, Int.toNat_natCast, unlike_k13_w, unlike_k13', go_sem, reduceCtorEq, Nat.reduceEqDiff, reduceIte, Nat.reduceAdd, Nat.reduceSub, Nat.reduceLeDiff, Int.reduceToNat, Nat.reduceBEq]
          repeat ((with_reducible apply And.intro); (case left => first | omega | (simp only [List.length_append, List.length_cons, List.length_nil, List.length_drop, List.length_take, List.length_tail, List.length_dropLast, fs_length, ss_length, bs_length, ns_length]; omega)))
          by_cases he : o[i] = b[k]
          · rw [unlike_no fun hu => hu.2.2 o[i] (List.getElem_mem h) (by rw [he]; exact List.getElem_mem hkl)]
            simp only [se_t he, unlike_k11_w, unlike_k11', go_sem, reduceCtorEq, Nat.reduceEqDiff, reduceIte, Nat.reduceAdd, Nat.reduceSub, Nat.reduceLeDiff, Int.reduceToNat, Nat.reduceBEq]
            first | rfl | trace_state
          · simp only [se_f he, unlike_k11_w, unlike_k11', unlike_k12_w, unlike_k12', q2, go_sem, reduceCtorEq, Nat.reduceEqDiff, reduceIte, Nat.reduceAdd, Nat.reduceSub, Nat.reduceLeDiff, Int.reduceToNat, Nat.reduceBEq]
            refine ihb hkl fun k' hk' => ?_
            by_cases e : k' = k
            · subst e; rw [List.getElem?_eq_getElem hkl]; intro hh; exact he (Option.some.inj hh).symm
            · exact hinvb k' (by omega)
        · obtain rfl : k = b.length := by omega
          simp only [ss_length, lt_f hkl, unlike_k16_w, unlike_k16', q1, go_sem, reduceCtorEq, Nat.reduceEqDiff, reduceIte, Nat.reduceAdd, Nat.reduceSub, Nat.reduceLeDiff, Int.reduceToNat, Nat.reduceBEq]
          refine ih h fun i' hi' x hx => ?_
          by_cases e : i' = i
          · subst e
            rw [List.getElem?_eq_getElem h] at hx
            cases hx
            refine ⟨fun hm => ?_, fun hm => ?_⟩
            · obtain ⟨k, hk, he⟩ := List.mem_iff_getElem.1 hm
              exact hinvk k hk (by rw [List.getElem?_eq_getElem hk, he])
            · obtain ⟨k, hk, he⟩ := List.mem_iff_getElem.1 hm
              exact hinvb k hk (by rw [List.getElem?_eq_getElem hk, he])
          · exact hinv i' (by omega) x hx
    · obtain rfl : i = o.length := by omega
      have hO : ∀ x, x ∈ o → x ∉ a ∧ x ∉ b := fun x hx => by
        obtain ⟨k, hk, he⟩ := List.mem_iff_getElem.1 hx
        exact hinv k hk x (by rw [List.getElem?_eq_getElem hk, he])
      rw [unlike_yes ⟨hA, fun x hx => (hO x hx).1, fun x hx => (hO x hx).2⟩]
      simp only [ss_length, lt_f h, unlike_k19_w, unlike_k19', go_sem, reduceCtorEq, Nat.reduceEqDiff, reduceIte, Nat.reduceAdd, Nat.reduceSub, Nat.reduceLeDiff, Int.reduceToNat, Nat.reduceBEq]
      first | rfl | trace_state
end Go.Hk
namespace Go.Hk
open Go Go.Ev Go.Proofs
open Go.Ln (lines lines_none lines_some idx idx_eq idx_lt idx_of idx_none okLines okLine u8b_t u8b_f u8n_t u8n_f)
set_option linter.unusedVariables false
set_option linter.unusedSimpArgs false
set_option maxHeartbeats 2000000
attribute [local go_sem] eqs implies_true List.map_cons List.map_nil kl klL roD roL Option.map_some Option.map_none Option.getD_some Option.getD_none binVal binObl unVal if_true if_false eq_self passA frnD resD content getH getR getW viaNot viaSlot viaBox viaDeep viaMem List.contains_cons List.contains_nil grabs peeks okCells isCell place cellsOf chunk elt List.headD_cons List.length_cons List.length_nil List.take_succ_cons List.take_zero List.drop_succ_cons List.drop_zero List.nil_append List.cons_append List.append_nil List.all_cons List.all_nil plainC takeR setW over reCell List.getElem?_cons_zero List.getElem?_cons_succ List.set_cons_zero List.take_length outV resG plainV pack outVG outBx List.set_cons_succ Ref.idx Ref.addOff beq_self_eq_true bxL Option.bind_some writeR isLit viaBoxes capsPA boxPA nsOf noDup boxesAt argG passG passD rhoIn rhoOut idxIn tr trL List.getD_cons_zero gives pasOf isPtr Ins.d List.getD_cons_succ resL frnL partB_f partB_t partB_p partB_s St.setP mixR v_slcT
variable {m : Int × Bool}
def r5lines_l0' : AC := .seq (.reg (.seq [⟨some (20, false), none, .bin .lss (.tmp 19 true) (.tmp 18 true)⟩])) [0, 3, 4, 7, 8, 18, 19, 20] []
  (.seq (.cond (.tmp 20 false)
    (.skip)
    (.exit 2)) [0, 3, 4, 7, 8, 18, 19] []
  (.seq (.block 3 (.seq (.reg (.seq [⟨some (21, false), none, .mov (.tmp 19 true) .take⟩,⟨some (5, true), none, .mov (.tmp 21 false) .asg⟩])) [0, 3, 4, 5, 7, 8, 18, 19] []
    (.seq (.reg (.seq [⟨some (22, false), none, .mov (.tmp 0 true) .peek⟩,⟨some (23, false), none, .mov (.tmp 3 true) .peek⟩,⟨some (24, false), none, .iad (.tmp 22 false) (.tmp 23 false) 1⟩,⟨some (25, false), none, .load (.tmp 24 false) 1 false false⟩,⟨some (26, false), none, .mov (.tmp 5 true) .peek⟩,⟨some (27, false), none, .idx (.tmp 25 false) (.tmp 26 false)⟩,⟨some (28, false), none, .bin .eql (.tmp 27 false) (.cst (.int .u8 10) (.lit (.int .u8 10)))⟩,⟨some (29, false), none, .mov (.tmp 28 false) .peek⟩,⟨some (30, false), (some (29, true)), .mov (.tmp 5 true) .peek⟩,⟨some (31, false), (some (29, true)), .mov (.tmp 4 true) .peek⟩,⟨some (32, false), (some (29, true)), .bin .sub (.tmp 31 false) (.cst (.int .i64 1) (.lit (.int .i64 1)))⟩,⟨some (33, false), (some (29, true)), .bin .lss (.tmp 30 false) (.tmp 32 false)⟩,⟨some (34, false), none, .pick (.tmp 29 false) (.tmp 33 false) (.cst (.bool false) (.lit (.bool false)))⟩])) [0, 3, 4, 7, 8, 18, 19, 34] []
    (.cond (.tmp 34 false)
      (.seq (.reg (.seq [⟨some (2, true), none, .mov (.cst (.bool false) (.lit (.bool false))) .asg⟩])) [2] []
      (.ret))
      (.skip))))) [0, 3, 4, 7, 8, 18, 19] []
  (.reg (.seq [⟨some (35, false), none, .bin .add (.tmp 19 true) (.cst (.int .i64 1) (.lit (.int .i64 1)))⟩,⟨some (19, true), none, .mov (.tmp 35 false) .peek⟩]))))
def r5lines_l0 : AC := r5lines_l0'
theorem r5lines_l0_w (C : Kn) (K : Ex → St → Prop) (s : St) : vcC C r5lines_l0 K s = vcC C r5lines_l0' K s := nr rfl
def r5lines_k1' : AC := .seq (.reg (.seq [⟨some (36, false), none, .mov (.tmp 0 true) .peek⟩,⟨some (37, false), none, .mov (.tmp 3 true) .peek⟩,⟨some (38, false), none, .iad (.tmp 36 false) (.tmp 37 false) 1⟩,⟨some (39, false), none, .load (.tmp 38 false) 1 false false⟩,⟨some (40, false), none, .mov (.tmp 4 true) .peek⟩,⟨some (41, false), none, .bin .sub (.tmp 40 false) (.cst (.int .i64 1) (.lit (.int .i64 1)))⟩,⟨some (42, false), none, .idx (.tmp 39 false) (.tmp 41 false)⟩,⟨some (43, false), none, .bin .neq (.tmp 42 false) (.cst (.int .u8 10) (.lit (.int .u8 10)))⟩,⟨some (44, false), none, .mov (.tmp 43 false) .peek⟩,⟨some (45, false), (some (44, true)), .mov (.tmp 3 true) .peek⟩,⟨some (46, false), (some (44, true)), .mov (.tmp 0 true) .peek⟩,⟨some (47, false), (some (44, true)), .lenL (.tmp 46 false)⟩,⟨some (48, false), (some (44, true)), .bin .sub (.tmp 47 false) (.cst (.int .i64 1) (.lit (.int .i64 1)))⟩,⟨some (49, false), (some (44, true)), .bin .lss (.tmp 45 false) (.tmp 48 false)⟩,⟨some (50, false), none, .pick (.tmp 44 false) (.tmp 49 false) (.cst (.bool false) (.lit (.bool false)))⟩])) [0, 7, 8, 50] []
    (.cond (.tmp 50 false)
      (.seq (.reg (.seq [⟨some (2, true), none, .mov (.cst (.bool false) (.lit (.bool false))) .asg⟩])) [2] []
      (.ret))
      (.skip))
def r5lines_k1 : AC := r5lines_k1'
theorem r5lines_k1_w (C : Kn) (K : Ex → St → Prop) (s : St) : vcC C r5lines_k1 K s = vcC C r5lines_k1' K s := nr rfl
def r5lines_k2' : AC := .reg (.seq [⟨some (51, false), none, .bin .add (.tmp 8 true) (.cst (.int .i64 1) (.lit (.int .i64 1)))⟩,⟨some (8, true), none, .mov (.tmp 51 false) .peek⟩])
def r5lines_k2 : AC := r5lines_k2'
theorem r5lines_k2_w (C : Kn) (K : Ex → St → Prop) (s : St) : vcC C r5lines_k2 K s = vcC C r5lines_k2' K s := nr rfl
def r5lines_l3' : AC := .seq (.reg (.seq [⟨some (9, false), none, .bin .lss (.tmp 8 true) (.tmp 7 true)⟩])) [0, 7, 8, 9] []
  (.seq (.cond (.tmp 9 false)
    (.skip)
    (.exit 0)) [0, 7, 8] []
  (.seq (.block 1 (.seq (.reg (.seq [⟨some (10, false), none, .mov (.tmp 8 true) .take⟩,⟨some (3, true), none, .mov (.tmp 10 false) .asg⟩])) [0, 3, 7, 8] []
    (.seq (.reg (.seq [⟨some (11, false), none, .mov (.tmp 0 true) .peek⟩,⟨some (12, false), none, .mov (.tmp 3 true) .peek⟩,⟨some (13, false), none, .iad (.tmp 11 false) (.tmp 12 false) 1⟩,⟨some (14, false), none, .load (.tmp 13 false) 1 false false⟩,⟨some (15, false), none, .len (.tmp 14 false)⟩,⟨some (4, true), none, .mov (.tmp 15 false) .asg⟩])) [0, 3, 4, 7, 8] []
    (.seq (.seq (.reg (.seq [⟨some (16, false), none, .mov (.tmp 4 true) .peek⟩,⟨some (17, false), none, .bin .eql (.tmp 16 false) (.cst (.int .i64 0) (.lit (.int .i64 0)))⟩])) [0, 3, 4, 7, 8, 17] []
    (.cond (.tmp 17 false)
      (.seq (.reg (.seq [⟨some (2, true), none, .mov (.cst (.bool false) (.lit (.bool false))) .asg⟩])) [2] []
      (.ret))
      (.skip))) [0, 3, 4, 7, 8] []
    (.seq (.seq (.reg (.seq [⟨some (18, true), none, .mov (.tmp 4 true) .peek⟩,⟨some (19, true), none, .mov (.cst (.int .i64 0) (.lit (.int .i64 0))) .peek⟩])) [0, 3, 4, 7, 8, 18, 19] []
    (.block 2 (.loop [0, 3, 4, 7, 8, 18, 19] [] r5lines_l0))) [0, 3, 4, 7, 8] [] r5lines_k1))))) [0, 7, 8] [] r5lines_k2))
def r5lines_l3 : AC := r5lines_l3'
theorem r5lines_l3_w (C : Kn) (K : Ex → St → Prop) (s : St) : vcC C r5lines_l3 K s = vcC C r5lines_l3' K s := nr rfl
def r5lines_k4' : AC := .seq (.reg (.seq [⟨some (2, true), none, .mov (.cst (.bool true) (.lit (.bool true))) .asg⟩])) [2] []
  (.ret)
def r5lines_k4 : AC := r5lines_k4'
theorem r5lines_k4_w (C : Kn) (K : Ex → St → Prop) (s : St) : vcC C r5lines_k4 K s = vcC C r5lines_k4' K s := nr rfl
def r5lines : AF := ⟨.seq (.reg (.seq [⟨some (2, true), none, .mov (.cst (.bool false) (.lit (.bool false))) .asg⟩])) [0] []
  (.seq (.seq (.reg (.seq [⟨some (6, false), none, .mov (.tmp 0 true) .peek⟩,⟨some (7, true), none, .lenL (.tmp 6 false)⟩,⟨some (8, true), none, .mov (.cst (.int .i64 0) (.lit (.int .i64 0))) .peek⟩])) [0, 7, 8] []
  (.block 0 (.loop [0, 7, 8] [] r5lines_l3))) [] [] r5lines_k4),
  [.tmp 2]⟩
theorem r5lines_comp (m : Int × Bool) : compF Tryd.prog (gl m) [] Tryd.f16 = some r5lines := by kernel_rfl
theorem r5lines_in (L : List Bs) (i : Nat) (hil : i < L.length) (hL : L.length ≤ 1048576) (hlb : L[i].length ≤ 1048576) (hpos : 0 < L[i].length) (K : Ex → St → Prop)
    (hr : L[i].dropLast.contains 10 = true → ∀ s, s.env 2 = B false → K .ret s)
    (hk : L[i].dropLast.contains 10 = false → vcC (kn m) r5lines_k1 K (mkS [(0, .sl .frn 1 (ss L)), (3, N i), (4, N L[i].length), (7, N L.length), (8, N i)] [])) (n : Nat) :
    ∀ (j : Nat) (hn : L[i].length - j = n) (hj : j ≤ L[i].length) (hno : ∀ (k : Nat), k < j → L[i].dropLast[k]? ≠ some 10),
    vcL (kn m) [0, 3, 4, 7, 8, 18, 19] [] r5lines_l0 (blockK 2 (seqK (kn m) [0, 3, 4, 7, 8] [] r5lines_k1 K)) (mkS [(0, .sl .frn 1 (ss L)), (3, N i), (4, N L[i].length), (7, N L.length), (8, N i), (18, N L[i].length), (19, N j)] []) := by
  induction n with
  | zero =>
    intro j hn hj hno
    have hjl : j = L[i].length := by omega
    subst hjl
    apply round
    simp only [r5lines_l0_w, r5lines_l0', go_sem, reduceCtorEq, Nat.reduceEqDiff, reduceIte, Nat.reduceAdd, Nat.reduceSub, Nat.reduceLeDiff, Int.reduceToNat, Nat.reduceBEq]
    rw [lt_f (by omega)]
    simp only [go_sem, reduceCtorEq, Nat.reduceEqDiff, reduceIte, Nat.reduceAdd, Nat.reduceSub, Nat.reduceLeDiff, Int.reduceToNat, Nat.reduceBEq]
    refine hk ?_
    rw [Bool.eq_false_iff]
    intro h
    rw [List.contains_iff_mem] at h
    obtain ⟨k, hkl, he⟩ := List.mem_iff_getElem.1 h
    exact hno k (by simp only [List.length_dropLast] at hkl; omega) (by rw [getE hkl, he])
  | succ n ih =>
    intro j hn hj hno
    have hjl : j < L[i].length := by omega
    have hw : IntKind.i64.wrap ((j : Int) + 1) = ((j + 1 : Nat) : Int) := wrapN (j + 1) (by omega) (by omega)
    have hw2 : IntKind.i64.wrap ((L[i].length : Int) - 1) = ((L[i].length - 1 : Nat) : Int) := wrapN (L[i].length - 1) (by omega) (by omega)
    apply round
    simp only [r5lines_l0_w, r5lines_l0', go_sem, reduceCtorEq, Nat.reduceEqDiff, reduceIte, Nat.reduceAdd, Nat.reduceSub, Nat.reduceLeDiff, Int.reduceToNat, Nat.reduceBEq]
    rw [lt_t hjl]
    simp only [ssE L hil, getE hjl, go_sem, reduceCtorEq, Nat.reduceEqDiff, reduceIte, Nat.reduceAdd, Nat.reduceSub, Nat.reduceLeDiff, Int.reduceToNat, Nat.reduceBEq]
    repeat (refine ⟨by (try simp only [List.length_append, List.length_cons, List.length_nil, List.length_drop, List.length_take]); omega, ?_⟩)
    have go : (∀ (k : Nat), k < j + 1 → L[i].dropLast[k]? ≠ some 10) → _ := fun h => ih (j + 1) (by omega) (by omega) h
    by_cases h10 : L[i][j] = 10
    · rw [u8b_t (n := 10) h10 rfl]
      simp only [hw2, go_sem, reduceCtorEq, Nat.reduceEqDiff, reduceIte, Nat.reduceAdd, Nat.reduceSub, Nat.reduceLeDiff, Int.reduceToNat, Nat.reduceBEq]
      by_cases hlt : j < L[i].length - 1
      · rw [lt_t hlt]
        simp only [go_sem, reduceCtorEq, Nat.reduceEqDiff, reduceIte, Nat.reduceAdd, Nat.reduceSub, Nat.reduceLeDiff, Int.reduceToNat, Nat.reduceBEq]
        have hjd : j < L[i].dropLast.length := by rw [List.length_dropLast]; exact hlt
        refine hr ?_ _ ?_
        · rw [List.contains_iff_mem, List.mem_iff_getElem]
          exact ⟨j, hjd, by rw [List.getElem_dropLast, h10]⟩
        · simp only [go_sem, reduceCtorEq, Nat.reduceEqDiff, reduceIte, Nat.reduceAdd, Nat.reduceSub, Nat.reduceLeDiff, Int.reduceToNat, Nat.reduceBEq]
      · rw [lt_f hlt]
        simp only [hw, go_sem, reduceCtorEq, Nat.reduceEqDiff, reduceIte, Nat.reduceAdd, Nat.reduceSub, Nat.reduceLeDiff, Int.reduceToNat, Nat.reduceBEq]
        exact go fun k hk => by
          by_cases e : k = j
          · rw [e, List.getElem?_eq_none (by rw [List.length_dropLast]; omega)]; simp
          · exact hno k (by omega)
    · rw [u8b_f (n := 10) h10 rfl]
      simp only [hw, go_sem, reduceCtorEq, Nat.reduceEqDiff, reduceIte, Nat.reduceAdd, Nat.reduceSub, Nat.reduceLeDiff, Int.reduceToNat, Nat.reduceBEq]
      exact go fun k hk => by
        by_cases e : k = j
        · intro h
          subst e
          obtain ⟨h1, h2⟩ := List.getElem?_eq_some_iff.1 h
          rw [List.getElem_dropLast] at h2; exact h10 h2
        · exact hno k (by omega)
theorem isEmpty_drop (L : List Bs) (i : Nat) : (L.drop (i + 1)).isEmpty = decide (L.length ≤ i + 1) := by
  by_cases h : L.length ≤ i + 1
  · rw [decide_eq_true h, List.drop_of_length_le h]; rfl
  · rw [decide_eq_false h, List.drop_eq_getElem_cons (by omega)]; rfl
theorem r5lines_loop (L : List Bs) (hL : L.length ≤ 1048576) (hb : ∀ l, l ∈ L → l.length ≤ 1048576) (n : Nat) : ∀ (i : Nat) (hn : L.length - i = n) (hi : i ≤ L.length),
    vcL (kn m) [0, 7, 8] [] r5lines_l3 (blockK 0 (seqK (kn m) [] [] r5lines_k4 (outOk [.tmp 2] (B (okLines (L.drop i)))))) (mkS [(0, .sl .frn 1 (ss L)), (7, N L.length), (8, N i)] []) := by
  induction n with
  | zero =>
    intro i hn hi
    have hil : i = L.length := by omega
    subst hil
    apply round
    simp only [r5lines_l3_w, r5lines_l3', go_sem, reduceCtorEq, Nat.reduceEqDiff, reduceIte, Nat.reduceAdd, Nat.reduceSub, Nat.reduceLeDiff, Int.reduceToNat, Nat.reduceBEq]
    rw [lt_f (by omega)]
    simp only [r5lines_k4_w, r5lines_k4', go_sem, reduceCtorEq, Nat.reduceEqDiff, reduceIte, Nat.reduceAdd, Nat.reduceSub, Nat.reduceLeDiff, Int.reduceToNat, Nat.reduceBEq]
    rw [List.drop_length]; rfl
  | succ n ih =>
    intro i hn hi
    have hil : i < L.length := by omega
    have hlb := hb _ (List.getElem_mem hil)
    have hw : IntKind.i64.wrap ((i : Int) + 1) = ((i + 1 : Nat) : Int) := wrapN (i + 1) (by omega) (by omega)
    have hd : L.drop i = L[i] :: L.drop (i + 1) := List.drop_eq_getElem_cons hil
    rw [hd, okLines, isEmpty_drop]
    apply round
    simp only [r5lines_l3_w, r5lines_l3', go_sem, reduceCtorEq, Nat.reduceEqDiff, reduceIte, Nat.reduceAdd, Nat.reduceSub, Nat.reduceLeDiff, Int.reduceToNat, Nat.reduceBEq]
    rw [lt_t hil]
    simp only [ssE L hil, go_sem, reduceCtorEq, Nat.reduceEqDiff, reduceIte, Nat.reduceAdd, Nat.reduceSub, Nat.reduceLeDiff, Int.reduceToNat, Nat.reduceBEq]
    repeat (refine ⟨by (try simp only [List.length_append, List.length_cons, List.length_nil, List.length_drop, List.length_take]); omega, ?_⟩)
    by_cases h0 : L[i].length = 0
    · rw [eq_t (by omega : (L[i].length : Int) = 0)]
      simp only [go_sem, reduceCtorEq, Nat.reduceEqDiff, reduceIte, Nat.reduceAdd, Nat.reduceSub, Nat.reduceLeDiff, Int.reduceToNat, Nat.reduceBEq]
      rw [okLine, len_0 h0]; rfl
    · rw [eq_f (by omega : (L[i].length : Int) ≠ 0)]
      simp only [go_sem, reduceCtorEq, Nat.reduceEqDiff, reduceIte, Nat.reduceAdd, Nat.reduceSub, Nat.reduceLeDiff, Int.reduceToNat, Nat.reduceBEq]
      have hne : L[i] ≠ [] := fun e => h0 (by rw [e]; rfl)
      have hk : L[i].length - 1 < L[i].length := by omega
      have hlast : L[i].getLast? = some L[i][L[i].length - 1] := by rw [List.getLast?_eq_getElem?, getE hk]
      have hw2 : IntKind.i64.wrap ((L[i].length : Int) - 1) = ((L[i].length - 1 : Nat) : Int) := wrapN (L[i].length - 1) (by omega) (by omega)
      have hw3 : IntKind.i64.wrap ((L.length : Int) - 1) = ((L.length - 1 : Nat) : Int) := wrapN (L.length - 1) (by omega) (by omega)
      refine r5lines_in L i hil hL hlb (by omega) _ (fun hc s hs => ?_) (fun hc => ?_) _ 0 rfl (by omega) (fun k hk => by omega)
      · simp only [go_sem, reduceCtorEq, Nat.reduceEqDiff, reduceIte, Nat.reduceAdd, Nat.reduceSub, Nat.reduceLeDiff, Int.reduceToNat, Nat.reduceBEq, hs]
        rw [okLine, hc]; simp
      · simp only [r5lines_k1_w, r5lines_k1', ssE L hil, hw2, getE hk, go_sem, reduceCtorEq, Nat.reduceEqDiff, reduceIte, Nat.reduceAdd, Nat.reduceSub, Nat.reduceLeDiff, Int.reduceToNat, Nat.reduceBEq]
        repeat (refine ⟨by (try simp only [List.length_append, List.length_cons, List.length_nil, List.length_drop, List.length_take]); omega, ?_⟩)
        have hcase : okLine L[i] (decide (L.length ≤ i + 1)) = (decide (L[i][L[i].length - 1] = 10) || decide (L.length ≤ i + 1)) := by
          rw [okLine, hc, decide_eq_true hne, hlast]; by_cases h : L[i][L[i].length - 1] = 10 <;> simp [h]
        rw [hcase]
        by_cases h10 : L[i][L[i].length - 1] = 10
        · rw [u8n_f (n := 10) h10 rfl, decide_eq_true h10]
          simp only [r5lines_k2_w, r5lines_k2', hw, go_sem, reduceCtorEq, Nat.reduceEqDiff, reduceIte, Nat.reduceAdd, Nat.reduceSub, Nat.reduceLeDiff, Int.reduceToNat, Nat.reduceBEq]
          exact ih (i + 1) (by omega) (by omega)
        · rw [u8n_t (n := 10) h10 rfl, decide_eq_false h10]
          simp only [hw3, go_sem, reduceCtorEq, Nat.reduceEqDiff, reduceIte, Nat.reduceAdd, Nat.reduceSub, Nat.reduceLeDiff, Int.reduceToNat, Nat.reduceBEq]
          by_cases hlt : i < L.length - 1
          · rw [lt_t hlt, decide_eq_false (by omega : ¬ L.length ≤ i + 1)]
            simp only [go_sem, reduceCtorEq, Nat.reduceEqDiff, reduceIte, Nat.reduceAdd, Nat.reduceSub, Nat.reduceLeDiff, Int.reduceToNat, Nat.reduceBEq]
            rfl
          · rw [lt_f hlt, decide_eq_true (by omega : L.length ≤ i + 1)]
            simp only [r5lines_k2_w, r5lines_k2', hw, go_sem, reduceCtorEq, Nat.reduceEqDiff, reduceIte, Nat.reduceAdd, Nat.reduceSub, Nat.reduceLeDiff, Int.reduceToNat, Nat.reduceBEq]
            exact ih (i + 1) (by omega) (by omega)
theorem r5lines_snd (L : List Bs) (hL : L.length ≤ 1048576) (hb : ∀ l, l ∈ L → l.length ≤ 1048576) : Snd Tryd.prog (gl m) 16 [.sl .frn 1 (ss L)] (B (okLines L)) := by
  refine snd_of (fn := Tryd.f16) (af := r5lines) Tryd.func16 (r5lines_comp m) mixed (kn_ok m) (Nat.le_of_ble_eq_true rfl) ?_
  simp only [r5lines, go_sem, reduceCtorEq, Nat.reduceEqDiff, reduceIte, Nat.reduceAdd, Nat.reduceSub, Nat.reduceLeDiff, Int.reduceToNat, Nat.reduceBEq]
  exact r5lines_loop L hL hb _ 0 rfl (by omega)
end Go.Hk
namespace Go.Hk
open Go Go.Ev Go.Proofs
set_option linter.unusedVariables false
set_option linter.unusedSimpArgs false
set_option maxHeartbeats 4000000
attribute [local go_sem] eqs implies_true List.map_cons List.map_nil kl klL roD roL Option.map_some Option.map_none Option.getD_some Option.getD_none binVal binObl unVal if_true if_false eq_self passA frnD resD content getH getR getW viaNot viaSlot viaBox viaDeep viaMem List.contains_cons List.contains_nil grabs peeks okCells isCell place cellsOf chunk elt List.headD_cons List.length_cons List.length_nil List.take_succ_cons List.take_zero List.drop_succ_cons List.drop_zero List.nil_append List.cons_append List.append_nil List.all_cons List.all_nil plainC takeR setW over reCell List.getElem?_cons_zero List.getElem?_cons_succ List.set_cons_zero List.take_length outV resG plainV pack outVG outBx List.set_cons_succ Ref.idx Ref.addOff beq_self_eq_true bxL Option.bind_some writeR isLit viaBoxes capsPA boxPA nsOf noDup boxesAt argG passG passD rhoIn rhoOut idxIn tr trL List.getD_cons_zero gives pasOf isPtr Ins.d List.getD_cons_succ resL frnL partB_f partB_t partB_p partB_s St.setP mixR v_slcT List.getLast?_nil List.getLast?_singleton List.dropLast_singleton List.nil_append frnL_fs roL_fs resL_fs passL_fs klL_fs trL_fs map_roD_fs fs_length hS_length frnL_hS roL_hS_own roL_hS_frn roL_hS_ro resL_hS_own resL_hS_ro klL_hS klL_hS_own klL_hS_frn passL_hS_own passL_hS_frn trL_hS_own trL_hS_frn frnL_ns resL_ns roL_ns passL_ns klL_ns trL_ns map_roD_ns
variable {m : Int × Bool}
def add8_k0' : AC := .cond (.tmp 46 false)
    (.seq (.reg (.seq [⟨some (47, false), none, .mov (.tmp 0 true) .peek⟩,⟨some (48, false), none, .mov (.tmp 5 true) .peek⟩,⟨some (49, false), none, .bin .sub (.tmp 48 false) (.cst (.int .i64 1) (.lit (.int .i64 1)))⟩,⟨some (50, false), none, .iad (.tmp 47 false) (.tmp 49 false) 4⟩,⟨some (51, false), none, .load (.tmp 50 false) 4 true false⟩,⟨some (6, true), none, .new [(.lit (.int .i64 0)), (.lit (.int .i64 0)), (.lit (.int .i64 0)), (.lit (.int .i64 0))]⟩,⟨none, none, .store (.tmp 6 true) (.tmp 51 false) 4⟩])) [0, 3, 5, 6] [3, 6, 10000, 10001]
    (.seq (.reg (.seq [⟨some (52, false), none, .fad (.tmp 6 true) 1⟩,⟨some (53, false), none, .load (.tmp 52 false) 1 false false⟩,⟨some (54, false), none, .fad (.tmp 3 true) 1⟩,⟨some (55, false), none, .load (.tmp 54 false) 1 false false⟩,⟨some (56, false), none, .bin .add (.tmp 53 false) (.tmp 55 false)⟩,⟨some (57, false), none, .fad (.tmp 6 true) 1⟩,⟨none, none, .store (.tmp 57 false) (.tmp 56 false) 1⟩])) [0, 3, 5, 6] [3, 6, 10000, 10001]
    (.seq (.reg (.seq [⟨some (58, false), none, .fad (.tmp 6 true) 3⟩,⟨some (59, false), none, .load (.tmp 58 false) 1 false false⟩,⟨some (60, false), none, .fad (.tmp 3 true) 3⟩,⟨some (61, false), none, .load (.tmp 60 false) 1 false false⟩,⟨some (62, false), none, .bin .add (.tmp 59 false) (.tmp 61 false)⟩,⟨some (63, false), none, .fad (.tmp 6 true) 3⟩,⟨none, none, .store (.tmp 63 false) (.tmp 62 false) 1⟩])) [0, 5, 6] [6, 10000, 10001]
    (.seq (.reg (.seq [⟨some (64, false), none, .mov (.tmp 0 true) .peek⟩,⟨some (65, false), none, .mov (.tmp 5 true) .peek⟩,⟨some (66, false), none, .bin .sub (.tmp 65 false) (.cst (.int .i64 1) (.lit (.int .i64 1)))⟩,⟨some (67, false), none, .slcT 4 (.tmp 64 false) (.tmp 66 false)⟩,⟨some (0, true), none, .mov (.tmp 67 false) .asg⟩])) [0, 6] [6, 10000, 10001]
    (.seq (.reg (.seq [⟨some (68, false), none, .mov (.tmp 0 true) .take⟩,⟨some (69, false), none, .load (.tmp 6 true) 4 true false⟩,⟨some (70, false), none, .buildS 4 1 [(.lit (.int .i64 0)), (.lit (.int .i64 0)), (.lit (.int .i64 0)), (.lit (.int .i64 0))] [(0, 4, (.tmp 69 false))]⟩,⟨some (71, false), none, .app 4 32 (.tmp 68 false) (.tmp 70 false)⟩,⟨some (4, true), none, .mov (.tmp 71 false) .asg⟩])) [4] [10000, 10001]
    (.ret))))))
    (.skip)
def add8_k0 : AC := add8_k0'
theorem add8_k0_w (C : Kn) (K : Ex → St → Prop) (s : St) : vcC C add8_k0 K s = vcC C add8_k0' K s := nr rfl
def add8_k1' : AC := .seq (.reg (.seq [⟨some (72, false), none, .mov (.tmp 0 true) .take⟩,⟨some (73, false), none, .load (.tmp 3 true) 4 true false⟩,⟨some (74, false), none, .buildS 4 1 [(.lit (.int .i64 0)), (.lit (.int .i64 0)), (.lit (.int .i64 0)), (.lit (.int .i64 0))] [(0, 4, (.tmp 73 false))]⟩,⟨some (75, false), none, .app 4 32 (.tmp 72 false) (.tmp 74 false)⟩,⟨some (4, true), none, .mov (.tmp 75 false) .asg⟩])) [4] [10000, 10001]
  (.ret)
def add8_k1 : AC := add8_k1'
theorem add8_k1_w (C : Kn) (K : Ex → St → Prop) (s : St) : vcC C add8_k1 K s = vcC C add8_k1' K s := nr rfl
def add8 : AF := ⟨.seq (.reg (.seq [⟨some (3, true), none, .box (.tmp 1 true)⟩,⟨some (4, true), none, .mov (.cst (.slice none 0 0) (.sl .own 4 [])) .asg⟩])) [0, 3] [3, 10000, 10001]
  (.seq (.reg (.seq [⟨some (7, false), none, .mov (.tmp 0 true) .peek⟩,⟨some (8, false), none, .lenL (.tmp 7 false)⟩,⟨some (5, true), none, .mov (.tmp 8 false) .asg⟩])) [0, 3, 5] [3, 10000, 10001]
  (.seq (.seq (.reg (.draw [⟨some (9, false), none, .mov (.tmp 5 true) .peek⟩,⟨some (10, false), none, .bin .gtr (.tmp 9 false) (.cst (.int .i64 0) (.lit (.int .i64 0)))⟩,⟨some (11, false), none, .mov (.tmp 10 false) .peek⟩,⟨some (12, false), (some (11, true)), .mov (.tmp 0 true) .peek⟩,⟨some (13, false), (some (11, true)), .mov (.tmp 5 true) .peek⟩,⟨some (14, false), (some (11, true)), .bin .sub (.tmp 13 false) (.cst (.int .i64 1) (.lit (.int .i64 1)))⟩,⟨some (15, false), (some (11, true)), .iad (.tmp 12 false) (.tmp 14 false) 4⟩,⟨some (16, false), (some (11, true)), .fad (.tmp 15 false) 0⟩,⟨some (17, false), (some (11, true)), .load (.tmp 16 false) 1 false false⟩,⟨some (18, false), (some (11, true)), .mov (.tmp 0 true) .peek⟩,⟨some (19, false), (some (11, true)), .mov (.tmp 5 true) .peek⟩,⟨some (20, false), (some (11, true)), .bin .sub (.tmp 19 false) (.cst (.int .i64 1) (.lit (.int .i64 1)))⟩,⟨some (21, false), (some (11, true)), .iad (.tmp 18 false) (.tmp 20 false) 4⟩,⟨some (22, false), (some (11, true)), .fad (.tmp 21 false) 1⟩,⟨some (23, false), (some (11, true)), .load (.tmp 22 false) 1 false false⟩,⟨some (24, false), (some (11, true)), .bin .add (.tmp 17 false) (.tmp 23 false)⟩,⟨some (25, false), (some (11, true)), .fad (.tmp 3 true) 0⟩,⟨some (26, false), (some (11, true)), .load (.tmp 25 false) 1 false false⟩,⟨some (27, false), (some (11, true)), .bin .eql (.tmp 24 false) (.tmp 26 false)⟩,⟨some (28, false), none, .pick (.tmp 11 false) (.tmp 27 false) (.cst (.bool false) (.lit (.bool false)))⟩,⟨some (29, false), none, .mov (.tmp 28 false) .peek⟩,⟨some (30, false), (some (29, true)), .mov (.tmp 0 true) .peek⟩,⟨some (31, false), (some (29, true)), .mov (.tmp 5 true) .peek⟩,⟨some (32, false), (some (29, true)), .bin .sub (.tmp 31 false) (.cst (.int .i64 1) (.lit (.int .i64 1)))⟩,⟨some (33, false), (some (29, true)), .iad (.tmp 30 false) (.tmp 32 false) 4⟩,⟨some (34, false), (some (29, true)), .fad (.tmp 33 false) 2⟩,⟨some (35, false), (some (29, true)), .load (.tmp 34 false) 1 false false⟩,⟨some (36, false), (some (29, true)), .mov (.tmp 0 true) .peek⟩,⟨some (37, false), (some (29, true)), .mov (.tmp 5 true) .peek⟩,⟨some (38, false), (some (29, true)), .bin .sub (.tmp 37 false) (.cst (.int .i64 1) (.lit (.int .i64 1)))⟩,⟨some (39, false), (some (29, true)), .iad (.tmp 36 false) (.tmp 38 false) 4⟩,⟨some (40, false), (some (29, true)), .fad (.tmp 39 false) 3⟩,⟨some (41, false), (some (29, true)), .load (.tmp 40 false) 1 false false⟩,⟨some (42, false), (some (29, true)), .bin .add (.tmp 35 false) (.tmp 41 false)⟩,⟨some (43, false), (some (29, true)), .fad (.tmp 3 true) 2⟩,⟨some (44, false), (some (29, true)), .load (.tmp 43 false) 1 false false⟩,⟨some (45, false), (some (29, true)), .bin .eql (.tmp 42 false) (.tmp 44 false)⟩,⟨some (46, false), none, .pick (.tmp 29 false) (.tmp 45 false) (.cst (.bool false) (.lit (.bool false)))⟩] .done)) [0, 3, 5, 46] [3, 10000, 10001] add8_k0) [0, 3] [3, 10000, 10001] add8_k1)),
  [.tmp 4]⟩
theorem add8_comp (m : Int × Bool) : compF Tryd.prog (gl m) [10000, 10001] Tryd.f45 = some add8 := by kernel_rfl
theorem last_split {l : List Ed} (h : l ≠ []) : ∃ o z, l = o ++ [z] := ⟨l.dropLast, l.getLast h, (List.dropLast_concat_getLast h).symm⟩
theorem fs_snocEd (l : List Ed) (a b c d : Int) : fs fE l ++ [.agg [I a, I b, I c, I d]] = fs fE (l ++ [(a, b, c, d)]) := fs_snoc fE l (a, b, c, d)
theorem fs_takeEd (l : List Ed) (n : Nat) : (fs fE l).take n = fs fE (l.take n) := fs_take fE l n
def inR (x : Int) : Prop := -2097152 ≤ x ∧ x ≤ 2097152
set_option maxRecDepth 8000 in
theorem add8_snd (l : List Ed) (e : Ed) (hl : l.length ≤ 1048576) (hr : ∀ z, z ∈ l → inR z.1 ∧ inR z.2.1 ∧ inR z.2.2.1 ∧ inR z.2.2.2) (he : inR e.1 ∧ inR e.2.1 ∧ inR e.2.2.1 ∧ inR e.2.2.2) :
    SndG Tryd.prog (gl m) 45 [.sl .own 4 (fs fE l), edT e] [] (.sl .own 4 (fs fE (addE l e))) [] := by
  refine sndG_of (fn := Tryd.f45) (af := add8) Tryd.func45 (add8_comp m) mixed (kn_ok m) (Nat.le_of_ble_eq_true rfl) (Nat.le_of_ble_eq_true rfl) ?_
  obtain ⟨F, D, T, J⟩ := e
  obtain ⟨e1, e2, e3, e4⟩ := he
  dsimp only [inR] at e1 e2 e3 e4
  simp only [add8, List.getElem?_nil, Option.map_none, go_sem, reduceCtorEq, Nat.reduceEqDiff, reduceIte, Nat.reduceAdd, Nat.reduceSub, Nat.reduceLeDiff, Int.reduceToNat, Nat.reduceBEq]
  repeat ((with_reducible apply And.intro); (case left => first | omega | (simp only [List.length_append, List.length_cons, List.length_nil, List.length_drop, List.length_take, List.length_tail, List.length_dropLast, fs_length, ss_length, bs_length, ns_length]; omega)))
  by_cases h0 : l = []
  · subst h0
    have z0 : decide (((0 : Nat) : Int) > 0) = false := rfl
    have z1 : addE [] (F, D, T, J) = [] ++ [(F, D, T, J)] := rfl
    simp only [List.length_nil, z0, fs_snocEd, add8_k0_w, add8_k0', add8_k1_w, add8_k1', go_sem, reduceCtorEq, Nat.reduceEqDiff, reduceIte, Nat.reduceAdd, Nat.reduceSub, Nat.reduceLeDiff, Int.reduceToNat, Nat.reduceBEq]
    repeat ((with_reducible apply And.intro); (case left => first | omega | (simp only [List.length_append, List.length_cons, List.length_nil, List.length_drop, List.length_take, List.length_tail, List.length_dropLast, fs_length, ss_length, bs_length, ns_length]; omega)))
    rw [z1]
    first | rfl | omega | trace_state
  obtain ⟨o, z, rfl⟩ := last_split h0
  have hz := hr z (by simp)
  obtain ⟨G, H, U, V⟩ := z
  obtain ⟨g1, g2, g3, g4⟩ := hz
  dsimp only [inR] at g1 g2 g3 g4
  have hol : o.length ≤ 1048575 := by rw [List.length_append, List.length_singleton] at hl; omega
  have hn : (o ++ [((G, H, U, V) : Ed)]).length = o.length + 1 := by simp
  have hg : (fs fE (o ++ [((G, H, U, V) : Ed)]))[o.length]? = some (edT (G, H, U, V)) := by rw [fs_getE (by simp), List.getElem_concat_length rfl]
  have ht : (fs fE (o ++ [((G, H, U, V) : Ed)])).take o.length = fs fE o := by rw [fs_takeEd, List.take_left' rfl]
  have w0 : IntKind.i64.wrap (((o.length + 1 : Nat) : Int) - 1) = ((o.length : Nat) : Int) := wrapN _ (by omega) (by omega)
  have w1 : IntKind.i64.wrap (G + H) = G + H := wrap_in (by omega) (by omega)
  have w2 : IntKind.i64.wrap (U + V) = U + V := wrap_in (by omega) (by omega)
  have w3 : IntKind.i64.wrap (H + D) = H + D := wrap_in (by omega) (by omega)
  have w4 : IntKind.i64.wrap (V + J) = V + J := wrap_in (by omega) (by omega)
  have z0 : decide (((o.length + 1 : Nat) : Int) > 0) = true := decide_eq_true (by omega)
  have hadd : addE (o ++ [(G, H, U, V)]) (F, D, T, J) = if G + H = F ∧ U + V = T then o ++ [(G, H + D, U, V + J)] else o ++ [(G, H, U, V)] ++ [(F, D, T, J)] := by
    rw [addE, List.getLast?_concat]; dsimp only; rw [List.dropLast_concat]
  rw [hadd]
  simp only [hn, z0, hg, w0, w1, w2, Int.toNat_natCast, go_sem, reduceCtorEq, Nat.reduceEqDiff, reduceIte, Nat.reduceAdd, Nat.reduceSub, Nat.reduceLeDiff, Int.reduceToNat, Nat.reduceBEq]
  repeat ((with_reducible apply And.intro); (case left => first | omega | (simp only [List.length_append, List.length_cons, List.length_nil, List.length_drop, List.length_take, List.length_tail, List.length_dropLast, fs_length, ss_length, bs_length, ns_length]; omega)))
  by_cases c1 : G + H = F
  · by_cases c2 : U + V = T
    · rw [if_pos ⟨c1, c2⟩]
      simp only [eq_t c1, eq_t c2, hn, hg, ht, w0, w1, w2, w3, w4, Int.toNat_natCast, fs_snocEd, add8_k0_w, add8_k0', go_sem, reduceCtorEq, Nat.reduceEqDiff, reduceIte, Nat.reduceAdd, Nat.reduceSub, Nat.reduceLeDiff, Int.reduceToNat, Nat.reduceBEq]
      repeat ((with_reducible apply And.intro); (case left => first | omega | (simp only [List.length_append, List.length_cons, List.length_nil, List.length_drop, List.length_take, List.length_tail, List.length_dropLast, fs_length, ss_length, bs_length, ns_length]; omega)))
      first | rfl | omega | trace_state
    · rw [if_neg fun h => c2 h.2]
      simp only [eq_t c1, eq_f c2, hn, hg, w0, w1, w2, Int.toNat_natCast, fs_snocEd, add8_k0_w, add8_k0', add8_k1_w, add8_k1', go_sem, reduceCtorEq, Nat.reduceEqDiff, reduceIte, Nat.reduceAdd, Nat.reduceSub, Nat.reduceLeDiff, Int.reduceToNat, Nat.reduceBEq]
      repeat ((with_reducible apply And.intro); (case left => first | omega | (simp only [List.length_append, List.length_cons, List.length_nil, List.length_drop, List.length_take, List.length_tail, List.length_dropLast, fs_length, ss_length, bs_length, ns_length]; omega)))
      first | rfl | omega | trace_state
  · rw [if_neg fun h => c1 h.1]
    simp only [eq_f c1, hn, fs_snocEd, add8_k0_w, add8_k0', add8_k1_w, add8_k1', go_sem, reduceCtorEq, Nat.reduceEqDiff, reduceIte, Nat.reduceAdd, Nat.reduceSub, Nat.reduceLeDiff, Int.reduceToNat, Nat.reduceBEq]
    repeat ((with_reducible apply And.intro); (case left => first | omega | (simp only [List.length_append, List.length_cons, List.length_nil, List.length_drop, List.length_take, List.length_tail, List.length_dropLast, fs_length, ss_length, bs_length, ns_length]; omega)))
    first | rfl | omega | trace_state
def table_k0' : AC := .seq (.block 1 (.reg (.seq [⟨some (14, false), none, .mov (.tmp 5 true) .take⟩,⟨some (15, false), none, .mov (.tmp 1 true) .peek⟩,⟨some (16, false), none, .lenL (.tmp 15 false)⟩,⟨some (17, false), none, .bin .add (.tmp 16 false) (.cst (.int .i64 1) (.lit (.int .i64 1)))⟩,⟨some (18, false), none, .mkS 1 8 [(.lit (.int .i64 0))] (.tmp 17 false) (.tmp 17 false)⟩,⟨some (19, false), none, .buildS 1 1 [(.sl .own 1 [])] [(0, 1, (.tmp 18 false))]⟩,⟨some (20, false), none, .app 1 24 (.tmp 14 false) (.tmp 19 false)⟩,⟨some (5, true), none, .mov (.tmp 20 false) .asg⟩]))) [0, 1, 5, 11, 12] []
  (.reg (.seq [⟨some (21, false), none, .bin .add (.tmp 12 true) (.cst (.int .i64 1) (.lit (.int .i64 1)))⟩,⟨some (12, true), none, .mov (.tmp 21 false) .peek⟩]))
def table_k0 : AC := table_k0'
theorem table_k0_w (C : Kn) (K : Ex → St → Prop) (s : St) : vcC C table_k0 K s = vcC C table_k0' K s := nr rfl
def table_l1' : AC := .seq (.reg (.seq [⟨some (13, false), none, .bin .lss (.tmp 12 true) (.tmp 11 true)⟩])) [0, 1, 5, 11, 12, 13] []
  (.seq (.cond (.tmp 13 false)
    (.skip)
    (.exit 0)) [0, 1, 5, 11, 12] [] table_k0)
def table_l1 : AC := table_l1'
theorem table_l1_w (C : Kn) (K : Ex → St → Prop) (s : St) : vcC C table_l1 K s = vcC C table_l1' K s := nr rfl
def table_k2' : AC := .cond (.tmp 48 false)
      (.reg (.seq [⟨some (49, false), none, .mov (.tmp 8 true) .peek⟩,⟨some (50, false), none, .mov (.tmp 7 true) .peek⟩,⟨some (51, false), none, .mov (.tmp 5 true) .peek⟩,⟨some (52, false), none, .mov (.tmp 6 true) .peek⟩,⟨some (53, false), none, .bin .add (.tmp 52 false) (.cst (.int .i64 1) (.lit (.int .i64 1)))⟩,⟨some (54, false), none, .iad (.tmp 51 false) (.tmp 53 false) 1⟩,⟨some (55, false), none, .load (.tmp 54 false) 1 false false⟩,⟨some (56, false), none, .mov (.tmp 7 true) .peek⟩,⟨some (57, false), none, .bin .add (.tmp 56 false) (.cst (.int .i64 1) (.lit (.int .i64 1)))⟩,⟨some (58, false), none, .iad (.tmp 55 false) (.tmp 57 false) 1⟩,⟨some (59, false), none, .load (.tmp 58 false) 1 false false⟩,⟨some (60, false), none, .bin .add (.tmp 59 false) (.cst (.int .i64 1) (.lit (.int .i64 1)))⟩,⟨some (61, false), none, .iad (.tmp 49 false) (.tmp 50 false) 1⟩,⟨none, none, .store (.tmp 61 false) (.tmp 60 false) 1⟩]))
      (.reg (.draw [⟨some (62, false), none, .mov (.tmp 8 true) .peek⟩,⟨some (63, false), none, .mov (.tmp 7 true) .peek⟩,⟨some (64, false), none, .mov (.tmp 5 true) .peek⟩,⟨some (65, false), none, .mov (.tmp 6 true) .peek⟩,⟨some (66, false), none, .bin .add (.tmp 65 false) (.cst (.int .i64 1) (.lit (.int .i64 1)))⟩,⟨some (67, false), none, .iad (.tmp 64 false) (.tmp 66 false) 1⟩,⟨some (68, false), none, .load (.tmp 67 false) 1 false false⟩,⟨some (69, false), none, .mov (.tmp 7 true) .peek⟩,⟨some (70, false), none, .iad (.tmp 68 false) (.tmp 69 false) 1⟩,⟨some (71, false), none, .load (.tmp 70 false) 1 false false⟩,⟨some (72, false), none, .mov (.tmp 8 true) .peek⟩,⟨some (73, false), none, .mov (.tmp 7 true) .peek⟩,⟨some (74, false), none, .bin .add (.tmp 73 false) (.cst (.int .i64 1) (.lit (.int .i64 1)))⟩,⟨some (75, false), none, .iad (.tmp 72 false) (.tmp 74 false) 1⟩,⟨some (76, false), none, .load (.tmp 75 false) 1 false false⟩,⟨some (77, false), none, .mx true (.tmp 71 false) (.tmp 76 false)⟩,⟨some (78, false), none, .iad (.tmp 62 false) (.tmp 63 false) 1⟩] (.alt ⟨none, none, .store (.tmp 78 false) (.tmp 77 false) 1⟩ []
      .done .no)))
def table_k2 : AC := table_k2'
theorem table_k2_w (C : Kn) (K : Ex → St → Prop) (s : St) : vcC C table_k2 K s = vcC C table_k2' K s := nr rfl
def table_k3' : AC := .reg (.seq [⟨some (34, false), none, .mov (.tmp 7 true) .peek⟩,⟨some (35, false), none, .bin .sub (.tmp 34 false) (.cst (.int .i64 1) (.lit (.int .i64 1)))⟩,⟨some (7, true), none, .mov (.tmp 35 false) .asg⟩])
def table_k3 : AC := table_k3'
theorem table_k3_w (C : Kn) (K : Ex → St → Prop) (s : St) : vcC C table_k3 K s = vcC C table_k3' K s := nr rfl
def table_k4' : AC := .seq (.block 5 (.seq (.reg (.seq [⟨some (36, false), none, .mov (.tmp 5 true) .peek⟩,⟨some (37, false), none, .mov (.tmp 6 true) .peek⟩,⟨some (38, false), none, .iad (.tmp 36 false) (.tmp 37 false) 1⟩,⟨some (39, false), none, .load (.tmp 38 false) 1 false false⟩,⟨some (8, true), none, .mov (.tmp 39 false) .asg⟩])) [0, 1, 5, 6, 7, 8] []
    (.seq (.reg (.draw [⟨some (40, false), none, .mov (.tmp 0 true) .peek⟩,⟨some (41, false), none, .mov (.tmp 6 true) .peek⟩,⟨some (42, false), none, .iad (.tmp 40 false) (.tmp 41 false) 1⟩,⟨some (43, false), none, .load (.tmp 42 false) 1 false false⟩,⟨some (44, false), none, .mov (.tmp 1 true) .peek⟩,⟨some (45, false), none, .mov (.tmp 7 true) .peek⟩,⟨some (46, false), none, .iad (.tmp 44 false) (.tmp 45 false) 1⟩,⟨some (47, false), none, .load (.tmp 46 false) 1 false false⟩,⟨some (48, false), none, .bin .eql (.tmp 43 false) (.tmp 47 false)⟩] .done)) [0, 1, 5, 6, 7, 8, 48] [] table_k2))) [0, 1, 5, 6, 7] [] table_k3
def table_k4 : AC := table_k4'
theorem table_k4_w (C : Kn) (K : Ex → St → Prop) (s : St) : vcC C table_k4 K s = vcC C table_k4' K s := nr rfl
def table_l5' : AC := .seq (.seq (.reg (.seq [⟨some (32, false), none, .mov (.tmp 7 true) .peek⟩,⟨some (33, false), none, .bin .geq (.tmp 32 false) (.cst (.int .i64 0) (.lit (.int .i64 0)))⟩])) [0, 1, 5, 6, 7, 33] []
  (.cond (.tmp 33 false)
    (.skip)
    (.exit 4))) [0, 1, 5, 6, 7] [] table_k4
def table_l5 : AC := table_l5'
theorem table_l5_w (C : Kn) (K : Ex → St → Prop) (s : St) : vcC C table_l5 K s = vcC C table_l5' K s := nr rfl
def table_k6' : AC := .reg (.seq [⟨some (27, false), none, .mov (.tmp 6 true) .peek⟩,⟨some (28, false), none, .bin .sub (.tmp 27 false) (.cst (.int .i64 1) (.lit (.int .i64 1)))⟩,⟨some (6, true), none, .mov (.tmp 28 false) .asg⟩])
def table_k6 : AC := table_k6'
theorem table_k6_w (C : Kn) (K : Ex → St → Prop) (s : St) : vcC C table_k6 K s = vcC C table_k6' K s := nr rfl
def table_k7' : AC := .seq (.block 3 (.seq (.reg (.seq [⟨some (29, false), none, .mov (.tmp 1 true) .peek⟩,⟨some (30, false), none, .lenL (.tmp 29 false)⟩,⟨some (31, false), none, .bin .sub (.tmp 30 false) (.cst (.int .i64 1) (.lit (.int .i64 1)))⟩,⟨some (7, true), none, .mov (.tmp 31 false) .asg⟩])) [0, 1, 5, 6, 7] []
    (.block 4 (.loop [0, 1, 5, 6, 7] [] table_l5)))) [0, 1, 5, 6] [] table_k6
def table_k7 : AC := table_k7'
theorem table_k7_w (C : Kn) (K : Ex → St → Prop) (s : St) : vcC C table_k7 K s = vcC C table_k7' K s := nr rfl
def table_l8' : AC := .seq (.seq (.reg (.seq [⟨some (25, false), none, .mov (.tmp 6 true) .peek⟩,⟨some (26, false), none, .bin .geq (.tmp 25 false) (.cst (.int .i64 0) (.lit (.int .i64 0)))⟩])) [0, 1, 5, 6, 26] []
  (.cond (.tmp 26 false)
    (.skip)
    (.exit 2))) [0, 1, 5, 6] [] table_k7
def table_l8 : AC := table_l8'
theorem table_l8_w (C : Kn) (K : Ex → St → Prop) (s : St) : vcC C table_l8 K s = vcC C table_l8' K s := nr rfl
def table_k9' : AC := .seq (.reg (.seq [⟨some (79, false), none, .mov (.tmp 5 true) .take⟩,⟨some (4, true), none, .mov (.tmp 79 false) .asg⟩])) [4, 5] []
  (.ret)
def table_k9 : AC := table_k9'
theorem table_k9_w (C : Kn) (K : Ex → St → Prop) (s : St) : vcC C table_k9 K s = vcC C table_k9' K s := nr rfl
def table_k10' : AC := .seq (.seq (.reg (.seq [⟨some (22, false), none, .mov (.tmp 0 true) .peek⟩,⟨some (23, false), none, .lenL (.tmp 22 false)⟩,⟨some (24, false), none, .bin .sub (.tmp 23 false) (.cst (.int .i64 1) (.lit (.int .i64 1)))⟩,⟨some (6, true), none, .mov (.tmp 24 false) .asg⟩])) [0, 1, 5, 6] []
  (.block 2 (.loop [0, 1, 5, 6] [] table_l8))) [5] [] table_k9
def table_k10 : AC := table_k10'
theorem table_k10_w (C : Kn) (K : Ex → St → Prop) (s : St) : vcC C table_k10 K s = vcC C table_k10' K s := nr rfl
def table : AF := ⟨.seq (.reg (.seq [⟨some (4, true), none, .mov (.cst (.slice none 0 0) (.sl .own 1 [])) .asg⟩])) [0, 1] []
  (.seq (.reg (.seq [⟨some (5, true), none, .mov (.cst (.slice none 0 0) (.sl .own 1 [])) .asg⟩])) [0, 1, 5] []
  (.seq (.seq (.reg (.seq [⟨some (9, false), none, .mov (.tmp 0 true) .peek⟩,⟨some (10, false), none, .lenL (.tmp 9 false)⟩,⟨some (11, true), none, .bin .add (.tmp 10 false) (.cst (.int .i64 1) (.lit (.int .i64 1)))⟩,⟨some (12, true), none, .mov (.cst (.int .i64 0) (.lit (.int .i64 0))) .peek⟩])) [0, 1, 5, 11, 12] []
  (.block 0 (.loop [0, 1, 5, 11, 12] [] table_l1))) [0, 1, 5] [] table_k10)),
  [.tmp 4]⟩
theorem table_comp (m : Int × Bool) : compF Tryd.prog (gl m) [] Tryd.f44 = some table := by kernel_rfl
def kNs : Kd := .sl (.int .i64)
def hR (fl : Fl) (L : List (List Int)) : List AV := L.map fun r => .sl fl 1 (ns r)
theorem hR_get {fl : Fl} {L : List (List Int)} {i : Nat} (h : i < L.length) : (hR fl L)[i]? = some (.sl fl 1 (ns L[i])) := by simp [hR, h]
theorem hR_length (fl : Fl) (L : List (List Int)) : (hR fl L).length = L.length := by simp [hR]
def tabL (n m : Nat) (F : Nat → Nat → Int) : List (List Int) := (List.range n).map fun i => (List.range m).map fun j => F i j
theorem tabL_len (n m : Nat) (F : Nat → Nat → Int) : (tabL n m F).length = n := by simp [tabL]
theorem tabL_row {n m : Nat} {F : Nat → Nat → Int} {i : Nat} (h : i < (tabL n m F).length) : (tabL n m F)[i] = (List.range m).map fun j => F i j := by simp [tabL]
theorem tab_row {fl : Fl} {n m : Nat} {F : Nat → Nat → Int} {i : Nat} (h : i < n) : (hR fl (tabL n m F))[i]? = some (.sl fl 1 (ns ((List.range m).map fun j => F i j))) := by
  rw [hR_get (by rw [tabL_len]; exact h), tabL_row]
theorem row_get {m : Nat} {f : Nat → Int} {j : Nat} (h : j < m) : (ns ((List.range m).map f))[j]? = some (I (f j)) := by simp [ns, h]
theorem row_len (m : Nat) (f : Nat → Int) : (ns ((List.range m).map f)).length = m := by simp [ns]
theorem tab_set {n m i j : Nat} {F G : Nat → Nat → Int} {v : Int} (hi : i < n) (hj : j < m) (hv : G i j = v) (ho : ∀ a b, a < n → b < m → (a ≠ i ∨ b ≠ j) → G a b = F a b) :
    (hR .own (tabL n m F)).set i (.sl .own 1 ((ns ((List.range m).map fun j => F i j)).set j (I v))) = hR .own (tabL n m G) := by
  have e : (ns ((List.range m).map fun j => F i j)).set j (I v) = ns ((List.range m).map fun j => G i j) := by
    refine List.ext_getElem? fun b => ?_
    rw [List.getElem?_set]
    by_cases hb : j = b
    · subst hb
      rw [if_pos rfl, if_pos (by rw [row_len]; exact hj), row_get hj, hv]
    · rw [if_neg hb]
      by_cases hbm : b < m
      · rw [row_get hbm, row_get hbm, ho i b hi hbm (.inr fun h => hb h.symm)]
      · rw [List.getElem?_eq_none (by rw [row_len]; omega), List.getElem?_eq_none (by rw [row_len]; omega)]
  rw [e]
  refine List.ext_getElem? fun a => ?_
  rw [List.getElem?_set]
  by_cases ha : i = a
  · subst ha
    rw [if_pos rfl, if_pos (by rw [hR_length, tabL_len]; exact hi), tab_row hi]
  · rw [if_neg ha]
    by_cases han : a < n
    · rw [tab_row han, tab_row han]
      have : ((List.range m).map fun j => F a j) = (List.range m).map fun j => G a j := by
        refine List.map_congr_left fun b hb => ?_
        rw [ho a b han (List.mem_range.1 hb) (.inl fun h => ha h.symm)]
      rw [this]
    · rw [List.getElem?_eq_none (by rw [hR_length, tabL_len]; omega), List.getElem?_eq_none (by rw [hR_length, tabL_len]; omega)]
theorem lcs_nil (a : List Bs) : lcs a [] = 0 := by cases a with | nil => simp [lcs] | cons x xs => simp [lcs]
theorem lcs_nil' (b : List Bs) : lcs [] b = 0 := by simp [lcs]
theorem lcs_le : ∀ (a b : List Bs), lcs a b ≤ a.length
  | [], b => by simp [lcs]
  | x :: xs, [] => by simp [lcs]
  | x :: xs, y :: ys => by
    rw [lcs]
    have h1 := lcs_le xs ys
    have h2 := lcs_le xs (y :: ys)
    have h3 := lcs_le (x :: xs) ys
    rw [List.length_cons] at h3 ⊢
    split <;> omega
termination_by a b => a.length + b.length
def lcsT (a b : List Bs) (i j : Nat) : Int := (lcs (a.drop i) (b.drop j) : Nat)
theorem lcsT_step {a b : List Bs} {i j : Nat} (hi : i < a.length) (hj : j < b.length) : lcsT a b i j = if a[i] = b[j] then lcsT a b (i + 1) (j + 1) + 1 else max (lcsT a b (i + 1) j) (lcsT a b i (j + 1)) := by
  rw [lcsT, lcsT, lcsT, lcsT, List.drop_eq_getElem_cons hi, List.drop_eq_getElem_cons hj, lcs]
  split <;> omega
theorem lcsT_in (a b : List Bs) (i j : Nat) : 0 ≤ lcsT a b i j ∧ lcsT a b i j ≤ a.length := by
  have := lcs_le (a.drop i) (b.drop j)
  rw [List.length_drop] at this
  rw [lcsT]; omega
def tabF (a b : List Bs) (k q : Nat) (i j : Nat) : Int := if a.length ≤ i + k ∨ (i + k + 1 = a.length ∧ b.length ≤ j + q) then lcsT a b i j else 0
theorem tabF_zero (a b : List Bs) {i j : Nat} (hi : i < a.length + 1) : tabF a b 0 0 i j = 0 := by
  rw [tabF]
  split
  · rename_i h
    rw [lcsT]
    rcases h with h | h
    · rw [List.drop_of_length_le (by omega), lcs_nil']; rfl
    · rw [List.drop_of_length_le (l := b) (by omega), lcs_nil]; rfl
  · rfl
theorem tabF_row (a b : List Bs) (k : Nat) {i j : Nat} : tabF a b k b.length i j = tabF a b (k + 1) 0 i j := by
  rw [tabF, tabF]
  by_cases h : a.length ≤ i + (k + 1)
  · rw [if_pos (by omega), if_pos (by omega)]
  · rw [if_neg (by omega)]
    split
    · rename_i h2
      rw [lcsT, List.drop_of_length_le (l := b) (by omega), lcs_nil]; rfl
    · rfl
theorem tabL_congr {n m : Nat} {F G : Nat → Nat → Int} (h : ∀ i j, i < n → j < m → F i j = G i j) : tabL n m F = tabL n m G := by
  rw [tabL, tabL]
  refine List.map_congr_left fun i hi => List.map_congr_left fun j hj => h i j (List.mem_range.1 hi) (List.mem_range.1 hj)
theorem tabL_snoc (n m : Nat) (F : Nat → Nat → Int) : tabL (n + 1) m F = tabL n m F ++ [(List.range m).map fun j => F n j] := by
  rw [tabL, List.range_succ, List.map_append]; rfl
theorem hR_snoc (L : List (List Int)) (r : List Int) : hR .own L ++ [.sl .own 1 (ns r)] = hR .own (L ++ [r]) := by simp [hR]
def zrow (m : Nat) : List Int := (List.range m).map fun _ => (0 : Int)
theorem tabL_zsnoc (n m : Nat) : tabL (n + 1) m (fun _ _ => 0) = tabL n m (fun _ _ => 0) ++ [zrow m] := tabL_snoc n m _
theorem rep_row (m : Nat) : List.replicate m (AV.lit (Value.int .i64 0)) = ns (zrow m) := by
  rw [zrow]
  refine List.ext_getElem? fun j => ?_
  by_cases h : j < m
  · rw [row_get h, List.getElem?_replicate, if_pos h]
  · rw [List.getElem?_eq_none (by rw [List.length_replicate]; omega), List.getElem?_eq_none (by rw [row_len]; omega)]
def tabR (a b : List Bs) : AV := .sl .own 1 (hR .own (tabL (a.length + 1) (b.length + 1) (lcsT a b)))
set_option maxRecDepth 8000 in
theorem table_snd (a b : List Bs) (ha : a.length ≤ 4096) (hb : b.length ≤ 4096) : Snd Tryd.prog (gl m) 44 [.sl .frn 1 (ss a), .sl .frn 1 (ss b)] (tabR a b) := by
  refine snd_of (fn := Tryd.f44) (af := table) Tryd.func44 (table_comp m) mixed (kn_ok m) (Nat.le_of_ble_eq_true rfl) ?_
  simp only [table, go_sem, reduceCtorEq, Nat.reduceEqDiff, reduceIte, Nat.reduceAdd, Nat.reduceSub, Nat.reduceLeDiff, Int.reduceToNat, Nat.reduceBEq]
  have w0 : IntKind.i64.wrap (((a.length : Nat) : Int) + 1) = ((a.length + 1 : Nat) : Int) := wrapN _ (by omega) (by omega)
  have w1 : IntKind.i64.wrap (((b.length : Nat) : Int) + 1) = ((b.length + 1 : Nat) : Int) := wrapN _ (by omega) (by omega)
  have w2 : IntKind.i64.wrap (((a.length : Nat) : Int) - 1) = ((a.length : Nat) : Int) - 1 := wrap_in (by omega) (by omega)
  have w3 : IntKind.i64.wrap (((b.length : Nat) : Int) - 1) = ((b.length : Nat) : Int) - 1 := wrap_in (by omega) (by omega)
  simp only [w0, go_sem, reduceCtorEq, Nat.reduceEqDiff, reduceIte, Nat.reduceAdd, Nat.reduceSub, Nat.reduceLeDiff, Int.reduceToNat, Nat.reduceBEq]
  refine loop_up (a.length + 1) (fun i => mkS [(0, .sl .frn 1 (ss a)), (1, .sl .frn 1 (ss b)), (5, .sl .own 1 (hR .own (tabL i (b.length + 1) fun _ _ => 0))), (11, N (a.length + 1)), (12, N i)] []) rfl ?_
  intro i hi ih
  simp only [table_l1_w, table_l1', go_sem, reduceCtorEq, Nat.reduceEqDiff, reduceIte, Nat.reduceAdd, Nat.reduceSub, Nat.reduceLeDiff, Int.reduceToNat, Nat.reduceBEq]
  repeat ((with_reducible apply And.intro); (case left => first | omega | (simp only [List.length_append, List.length_cons, List.length_nil, List.length_drop, List.length_take, List.length_tail, List.length_dropLast, fs_length, ss_length, bs_length, ns_length]; omega)))
  by_cases h : i < a.length + 1
  · have q1 : IntKind.i64.wrap ((i : Int) + 1) = ((i + 1 : Nat) : Int) := wrapN _ (by omega) (by omega)
    have hl := tabL_len i (b.length + 1) (fun _ _ => 0)
    rw [tabL_zsnoc] at ih
    simp only [lt_t h, w1, q1, Int.toNat_natCast, rep_row, hR_length, hl, hR_snoc, table_k0_w, table_k0', go_sem, reduceCtorEq, Nat.reduceEqDiff, reduceIte, Nat.reduceAdd, Nat.reduceSub, Nat.reduceLeDiff, Int.reduceToNat, Nat.reduceBEq]
    repeat ((with_reducible apply And.intro); (case left => first | omega | (simp only [List.length_append, List.length_cons, List.length_nil, List.length_drop, List.length_take, List.length_tail, List.length_dropLast, fs_length, ss_length, bs_length, ns_length]; omega)))
    exact ih h
  · obtain rfl : i = a.length + 1 := by omega
    simp only [lt_f h, w2, table_k10_w, table_k10', go_sem, reduceCtorEq, Nat.reduceEqDiff, reduceIte, Nat.reduceAdd, Nat.reduceSub, Nat.reduceLeDiff, Int.reduceToNat, Nat.reduceBEq]
    clear ih
    refine loop_up a.length (fun k => mkS [(0, .sl .frn 1 (ss a)), (1, .sl .frn 1 (ss b)), (5, .sl .own 1 (hR .own (tabL (a.length + 1) (b.length + 1) (tabF a b k 0)))), (6, I (((a.length : Nat) : Int) - 1 - ((k : Nat) : Int)))] []) ?_ ?_
    · rw [tabL_congr (F := fun _ _ => 0) (G := tabF a b 0 0) fun i j hi _ => (tabF_zero a b hi).symm]
      simp
    intro k hk ihk
    simp only [table_l8_w, table_l8', go_sem, reduceCtorEq, Nat.reduceEqDiff, reduceIte, Nat.reduceAdd, Nat.reduceSub, Nat.reduceLeDiff, Int.reduceToNat, Nat.reduceBEq]
    repeat ((with_reducible apply And.intro); (case left => first | omega | (simp only [List.length_append, List.length_cons, List.length_nil, List.length_drop, List.length_take, List.length_tail, List.length_dropLast, fs_length, ss_length, bs_length, ns_length]; omega)))
    by_cases hkl : k < a.length
    · have u6 : IntKind.i64.wrap (((a.length : Nat) : Int) - 1 - ((k : Nat) : Int) - 1) = ((a.length : Nat) : Int) - 1 - ((k + 1 : Nat) : Int) := by rw [show ((a.length : Nat) : Int) - 1 - ((k : Nat) : Int) - 1 = ((a.length : Nat) : Int) - 1 - ((k + 1 : Nat) : Int) by omega]; exact wrap_in (by omega) (by omega)
      simp only [decide_eq_true (show ((a.length : Nat) : Int) - 1 - ((k : Nat) : Int) ≥ 0 by omega), w3, table_k7_w, table_k7', go_sem, reduceCtorEq, Nat.reduceEqDiff, reduceIte, Nat.reduceAdd, Nat.reduceSub, Nat.reduceLeDiff, Int.reduceToNat, Nat.reduceBEq]
      refine loop_up b.length (fun q => mkS [(0, .sl .frn 1 (ss a)), (1, .sl .frn 1 (ss b)), (5, .sl .own 1 (hR .own (tabL (a.length + 1) (b.length + 1) (tabF a b k q)))), (6, I (((a.length : Nat) : Int) - 1 - ((k : Nat) : Int))), (7, I (((b.length : Nat) : Int) - 1 - ((q : Nat) : Int)))] []) ?_ ?_
      · simp
      intro q hq ihq
      simp only [table_l5_w, table_l5', go_sem, reduceCtorEq, Nat.reduceEqDiff, reduceIte, Nat.reduceAdd, Nat.reduceSub, Nat.reduceLeDiff, Int.reduceToNat, Nat.reduceBEq]
      repeat ((with_reducible apply And.intro); (case left => first | omega | (simp only [List.length_append, List.length_cons, List.length_nil, List.length_drop, List.length_take, List.length_tail, List.length_dropLast, fs_length, ss_length, bs_length, ns_length]; omega)))
      by_cases hql : q < b.length
      · obtain ⟨i, hi⟩ : ∃ i : Nat, i + k + 1 = a.length := ⟨a.length - 1 - k, by omega⟩
        obtain ⟨j, hj⟩ : ∃ j : Nat, j + q + 1 = b.length := ⟨b.length - 1 - q, by omega⟩
        have e6 : ((a.length : Nat) : Int) - 1 - ((k : Nat) : Int) = ((i : Nat) : Int) := by omega
        have e7 : ((b.length : Nat) : Int) - 1 - ((q : Nat) : Int) = ((j : Nat) : Int) := by omega
        have u7 : IntKind.i64.wrap (((j : Nat) : Int) - 1) = ((b.length : Nat) : Int) - 1 - ((q + 1 : Nat) : Int) := by rw [show ((j : Nat) : Int) - 1 = ((b.length : Nat) : Int) - 1 - ((q + 1 : Nat) : Int) by omega]; exact wrap_in (by omega) (by omega)
        have v6 : IntKind.i64.wrap (((i : Nat) : Int) + 1) = ((i + 1 : Nat) : Int) := wrapN _ (by omega) (by omega)
        have v7 : IntKind.i64.wrap (((j : Nat) : Int) + 1) = ((j + 1 : Nat) : Int) := wrapN _ (by omega) (by omega)
        have ga := ssE a (show i < a.length by omega)
        have gb := ssE b (show j < b.length by omega)
        have r0 := tab_row (fl := .own) (n := a.length + 1) (m := b.length + 1) (F := tabF a b k q) (show i < a.length + 1 by omega)
        have r1 := tab_row (fl := .own) (n := a.length + 1) (m := b.length + 1) (F := tabF a b k q) (show i + 1 < a.length + 1 by omega)
        have c0 := row_get (f := fun j => tabF a b k q i j) (show j < b.length + 1 by omega)
        have c1 := row_get (f := fun j => tabF a b k q i j) (show j + 1 < b.length + 1 by omega)
        have c2 := row_get (f := fun j => tabF a b k q (i + 1) j) (show j < b.length + 1 by omega)
        have c3 := row_get (f := fun j => tabF a b k q (i + 1) j) (show j + 1 < b.length + 1 by omega)
        have f1 : tabF a b k q i (j + 1) = lcsT a b i (j + 1) := by rw [tabF, if_pos (by omega)]
        have f2 : tabF a b k q (i + 1) j = lcsT a b (i + 1) j := by rw [tabF, if_pos (by omega)]
        have f3 : tabF a b k q (i + 1) (j + 1) = lcsT a b (i + 1) (j + 1) := by rw [tabF, if_pos (by omega)]
        rw [f1] at c1; rw [f2] at c2; rw [f3] at c3
        have hstep := lcsT_step (show i < a.length by omega) (show j < b.length by omega)
        have b3 := lcsT_in a b (i + 1) (j + 1)
        have w4 : IntKind.i64.wrap (lcsT a b (i + 1) (j + 1) + 1) = lcsT a b (i + 1) (j + 1) + 1 := wrap_in (by omega) (by omega)
        have hG : ∀ v, lcsT a b i j = v → (hR .own (tabL (a.length + 1) (b.length + 1) (tabF a b k q))).set i (.sl .own 1 ((ns ((List.range (b.length + 1)).map fun j => tabF a b k q i j)).set j (I v))) = hR .own (tabL (a.length + 1) (b.length + 1) (tabF a b k (q + 1))) := fun v hv => by
          refine tab_set (by omega) (by omega) (by rw [tabF, if_pos (by omega)]; exact hv) fun x y hx hy hne => ?_
          rw [tabF, tabF]
          by_cases hc : a.length ≤ x + k ∨ (x + k + 1 = a.length ∧ b.length ≤ y + q)
          · rw [if_pos hc, if_pos (by omega)]
          · rw [if_neg hc, if_neg (by omega)]
        have hlr := row_len (b.length + 1) (fun j => tabF a b k q i j)
        have hlt : (hR .own (tabL (a.length + 1) (b.length + 1) (tabF a b k q))).length = a.length + 1 := by rw [hR_length, tabL_len]
        have hlr1 := row_len (b.length + 1) (fun j => tabF a b k q (i + 1) j)
        have hK : ∀ p, klL p true (hR .own (tabL (a.length + 1) (b.length + 1) (tabF a b k q))) = hR .own (tabL (a.length + 1) (b.length + 1) (tabF a b k q)) := fun p => klL_ks_own kNs rfl rfl p _
        have hK0 : ∀ p ro, klL p ro (ns ((List.range (b.length + 1)).map fun j => tabF a b k q i j)) = ns ((List.range (b.length + 1)).map fun j => tabF a b k q i j) := fun p ro => klL_ns p ro _
        rw [e6] at ihq ⊢
        rw [e7]
        generalize hT : hR .own (tabL (a.length + 1) (b.length + 1) (tabF a b k q)) = T at r0 r1 hG hlt hK ⊢
        generalize hR0 : (ns ((List.range (b.length + 1)).map fun j => tabF a b k q i j)) = R0 at r0 c0 c1 hG hlr hK0
        generalize (ns ((List.range (b.length + 1)).map fun j => tabF a b k q (i + 1) j)) = R1 at r1 c2 c3 hlr1
        simp only [decide_eq_true (show ((j : Nat) : Int) ≥ 0 by omega), ga, gb, r0, Int.toNat_natCast, table_k4_w, table_k4', go_sem, reduceCtorEq, Nat.reduceEqDiff, reduceIte, Nat.reduceAdd, Nat.reduceSub, Nat.reduceLeDiff, Int.reduceToNat, Nat.reduceBEq]
        repeat ((with_reducible apply And.intro); (case left => first | omega | (simp only [List.length_append, List.length_cons, List.length_nil, List.length_drop, List.length_take, List.length_tail, List.length_dropLast, fs_length, ss_length, bs_length, ns_length]; omega)))
        by_cases hc : a[i] = b[j]
        · rw [if_pos hc] at hstep
          simp only [se_t hc, r0, r1, c0, c3, hlr, hlr1, hlt, hK, hK0, v6, v7, w4, u7, Int.toNat_natCast, table_k2_w, table_k2', table_k3_w, table_k3', hG _ hstep, go_sem, reduceCtorEq, Nat.reduceEqDiff, reduceIte, Nat.reduceAdd, Nat.reduceSub, Nat.reduceLeDiff, Int.reduceToNat, Nat.reduceBEq]
          repeat ((with_reducible apply And.intro); (case left => first | omega | (simp only [List.length_append, List.length_cons, List.length_nil, List.length_drop, List.length_take, List.length_tail, List.length_dropLast, fs_length, ss_length, bs_length, ns_length]; omega)))
          exact ihq hql
        · rw [if_neg hc] at hstep
          simp only [se_f hc, r0, r1, c0, c1, c2, hlr, hlr1, hlt, hK, hK0, v6, v7, u7, Int.toNat_natCast, table_k2_w, table_k2', table_k3_w, table_k3', hG _ hstep, go_sem, reduceCtorEq, Nat.reduceEqDiff, reduceIte, Nat.reduceAdd, Nat.reduceSub, Nat.reduceLeDiff, Int.reduceToNat, Nat.reduceBEq]
          repeat ((with_reducible apply And.intro); (case left => first | omega | (simp only [List.length_append, List.length_cons, List.length_nil, List.length_drop, List.length_take, List.length_tail, List.length_dropLast, fs_length, ss_length, bs_length, ns_length]; omega)))
          exact ihq hql
      · obtain rfl : q = b.length := by omega
        simp only [decide_eq_false (show ¬ ((b.length : Nat) : Int) - 1 - ((b.length : Nat) : Int) ≥ 0 by omega), u6, table_k6_w, table_k6', go_sem, reduceCtorEq, Nat.reduceEqDiff, reduceIte, Nat.reduceAdd, Nat.reduceSub, Nat.reduceLeDiff, Int.reduceToNat, Nat.reduceBEq]
        rw [tabL_congr (F := tabF a b k b.length) (G := tabF a b (k + 1) 0) fun i j _ _ => tabF_row a b k]
        exact ihk hkl
    · obtain rfl : k = a.length := by omega
      have hfin : tabL (a.length + 1) (b.length + 1) (tabF a b a.length 0) = tabL (a.length + 1) (b.length + 1) (lcsT a b) := tabL_congr fun i j _ _ => by rw [tabF, if_pos (by omega)]
      simp only [decide_eq_false (show ¬ ((a.length : Nat) : Int) - 1 - ((a.length : Nat) : Int) ≥ 0 by omega), table_k9_w, table_k9', hfin, go_sem, reduceCtorEq, Nat.reduceEqDiff, reduceIte, Nat.reduceAdd, Nat.reduceSub, Nat.reduceLeDiff, Int.reduceToNat, Nat.reduceBEq]
      first | rfl | trace_state
end Go.Hk
namespace Go.Hk
open Go Go.Ev Go.Proofs
set_option linter.unusedVariables false
set_option linter.unusedSimpArgs false
set_option maxHeartbeats 4000000
attribute [local go_sem] eqs implies_true List.map_cons List.map_nil kl klL roD roL Option.map_some Option.map_none Option.getD_some Option.getD_none binVal binObl unVal if_true if_false eq_self passA frnD resD content getH getR getW viaNot viaSlot viaBox viaDeep viaMem List.contains_cons List.contains_nil grabs peeks okCells isCell place cellsOf chunk elt List.headD_cons List.length_cons List.length_nil List.take_succ_cons List.take_zero List.drop_succ_cons List.drop_zero List.nil_append List.cons_append List.append_nil List.all_cons List.all_nil plainC takeR setW over reCell List.getElem?_cons_zero List.getElem?_cons_succ List.set_cons_zero List.take_length outV resG plainV pack outVG outBx List.set_cons_succ Ref.idx Ref.addOff beq_self_eq_true bxL Option.bind_some writeR isLit viaBoxes capsPA boxPA nsOf noDup boxesAt argG passG passD rhoIn rhoOut idxIn tr trL List.getD_cons_zero gives pasOf isPtr Ins.d List.getD_cons_succ resL frnL partB_f partB_t partB_p partB_s St.setP mixR v_slcT List.getLast?_nil List.getLast?_singleton List.dropLast_singleton List.nil_append frnL_fs roL_fs resL_fs passL_fs klL_fs trL_fs map_roD_fs fs_length hS_length frnL_hS roL_hS_own roL_hS_frn roL_hS_ro resL_hS_own resL_hS_ro klL_hS klL_hS_own klL_hS_frn passL_hS_own passL_hS_frn trL_hS_own trL_hS_frn frnL_ns resL_ns roL_ns passL_ns klL_ns trL_ns map_roD_ns
variable {m : Int × Bool}
def pleast_k0' : AC := .seq (.reg (.seq [⟨some (20, false), none, .mov (.tmp 0 true) .peek⟩,⟨some (21, false), none, .lenL (.tmp 20 false)⟩,⟨some (22, false), none, .mov (.tmp 1 true) .peek⟩,⟨some (23, false), none, .lenL (.tmp 22 false)⟩,⟨some (24, false), none, .build [(.lit (.int .i64 0)), (.lit (.int .i64 0)), (.lit (.int .i64 0)), (.lit (.int .i64 0))] [(1, 1, (.tmp 21 false)), (3, 1, (.tmp 23 false))]⟩,⟨some (25, false), none, .buildS 4 1 [(.lit (.int .i64 0)), (.lit (.int .i64 0)), (.lit (.int .i64 0)), (.lit (.int .i64 0))] [(0, 4, (.tmp 24 false))]⟩,⟨some (4, true), none, .mov (.tmp 25 false) .asg⟩])) [4, 6] []
    (.ret)
def pleast_k0 : AC := pleast_k0'
def pleast_k1' : AC := .cond (.tmp 92 false)
        (.seq (.reg (.seq [⟨some (93, false), none, .mov (.tmp 6 true) .peek⟩,⟨some (94, false), none, .mov (.tmp 7 true) .take⟩,⟨some (95, false), none, .mov (.tmp 8 true) .take⟩,⟨some (96, false), none, .build [(.lit (.int .i64 0)), (.lit (.int .i64 0)), (.lit (.int .i64 0)), (.lit (.int .i64 0))] [(0, 1, (.tmp 94 false)), (1, 1, (.cst (.int .i64 1) (.lit (.int .i64 1)))), (2, 1, (.tmp 95 false))]⟩,⟨some (97, false), none, .callG 45 [((.tmp 93 false), .give), ((.tmp 96 false), .pass)]⟩,⟨some (6, true), none, .mov (.tmp 97 false) .asg⟩])) [0, 1, 5, 6, 7, 8] []
        (.reg (.seq [⟨some (98, false), none, .mov (.tmp 7 true) .peek⟩,⟨some (99, false), none, .bin .add (.tmp 98 false) (.cst (.int .i64 1) (.lit (.int .i64 1)))⟩,⟨some (7, true), none, .mov (.tmp 99 false) .asg⟩])))
        (.seq (.reg (.seq [⟨some (100, false), none, .mov (.tmp 6 true) .peek⟩,⟨some (101, false), none, .mov (.tmp 7 true) .take⟩,⟨some (102, false), none, .mov (.tmp 8 true) .take⟩,⟨some (103, false), none, .build [(.lit (.int .i64 0)), (.lit (.int .i64 0)), (.lit (.int .i64 0)), (.lit (.int .i64 0))] [(0, 1, (.tmp 101 false)), (2, 1, (.tmp 102 false)), (3, 1, (.cst (.int .i64 1) (.lit (.int .i64 1))))]⟩,⟨some (104, false), none, .callG 45 [((.tmp 100 false), .give), ((.tmp 103 false), .pass)]⟩,⟨some (6, true), none, .mov (.tmp 104 false) .asg⟩])) [0, 1, 5, 6, 7, 8] []
        (.reg (.seq [⟨some (105, false), none, .mov (.tmp 8 true) .peek⟩,⟨some (106, false), none, .bin .add (.tmp 105 false) (.cst (.int .i64 1) (.lit (.int .i64 1)))⟩,⟨some (8, true), none, .mov (.tmp 106 false) .asg⟩])))
def pleast_k1 : AC := pleast_k1'
theorem pleast_k1_w (C : Kn) (K : Ex → St → Prop) (s : St) : vcC C pleast_k1 K s = vcC C pleast_k1' K s := nr rfl
def pleast_k2' : AC := .cond (.tmp 59 false)
      (.seq (.reg (.seq [⟨some (60, false), none, .mov (.tmp 7 true) .peek⟩,⟨some (61, false), none, .bin .add (.tmp 60 false) (.cst (.int .i64 1) (.lit (.int .i64 1)))⟩,⟨some (7, true), none, .mov (.tmp 61 false) .asg⟩])) [0, 1, 5, 6, 7, 8] []
      (.reg (.seq [⟨some (62, false), none, .mov (.tmp 8 true) .peek⟩,⟨some (63, false), none, .bin .add (.tmp 62 false) (.cst (.int .i64 1) (.lit (.int .i64 1)))⟩,⟨some (8, true), none, .mov (.tmp 63 false) .asg⟩])))
      (.seq (.reg (.draw [⟨some (64, false), none, .mov (.tmp 8 true) .peek⟩,⟨some (65, false), none, .mov (.tmp 1 true) .peek⟩,⟨some (66, false), none, .lenL (.tmp 65 false)⟩,⟨some (67, false), none, .bin .eql (.tmp 64 false) (.tmp 66 false)⟩,⟨some (68, false), none, .mov (.tmp 67 false) .peek⟩,⟨some (69, false), (some (68, false)), .mov (.tmp 7 true) .peek⟩,⟨some (70, false), (some (68, false)), .mov (.tmp 0 true) .peek⟩,⟨some (71, false), (some (68, false)), .lenL (.tmp 70 false)⟩,⟨some (72, false), (some (68, false)), .bin .lss (.tmp 69 false) (.tmp 71 false)⟩,⟨some (73, false), (some (68, false)), .mov (.tmp 72 false) .peek⟩,⟨some (74, false), (some (73, true)), .mov (.tmp 5 true) .peek⟩,⟨some (75, false), (some (73, true)), .mov (.tmp 7 true) .peek⟩,⟨some (76, false), (some (73, true)), .bin .add (.tmp 75 false) (.cst (.int .i64 1) (.lit (.int .i64 1)))⟩,⟨some (77, false), (some (73, true)), .iad (.tmp 74 false) (.tmp 76 false) 1⟩,⟨some (78, false), (some (73, true)), .load (.tmp 77 false) 1 false false⟩,⟨some (79, false), (some (73, true)), .mov (.tmp 8 true) .peek⟩,⟨some (80, false), (some (73, true)), .iad (.tmp 78 false) (.tmp 79 false) 1⟩,⟨some (81, false), (some (73, true)), .load (.tmp 80 false) 1 false false⟩,⟨some (82, false), (some (73, true)), .mov (.tmp 5 true) .peek⟩,⟨some (83, false), (some (73, true)), .mov (.tmp 7 true) .peek⟩,⟨some (84, false), (some (73, true)), .iad (.tmp 82 false) (.tmp 83 false) 1⟩,⟨some (85, false), (some (73, true)), .load (.tmp 84 false) 1 false false⟩,⟨some (86, false), (some (73, true)), .mov (.tmp 8 true) .peek⟩,⟨some (87, false), (some (73, true)), .bin .add (.tmp 86 false) (.cst (.int .i64 1) (.lit (.int .i64 1)))⟩,⟨some (88, false), (some (73, true)), .iad (.tmp 85 false) (.tmp 87 false) 1⟩,⟨some (89, false), (some (73, true)), .load (.tmp 88 false) 1 false false⟩,⟨some (90, false), (some (73, true)), .bin .geq (.tmp 81 false) (.tmp 89 false)⟩,⟨some (91, false), (some (68, false)), .pick (.tmp 73 false) (.tmp 90 false) (.cst (.bool false) (.lit (.bool false)))⟩,⟨some (92, false), none, .pick (.tmp 68 false) (.cst (.bool true) (.lit (.bool true))) (.tmp 91 false)⟩] .done)) [0, 1, 5, 6, 7, 8, 92] [] pleast_k1)
def pleast_k2 : AC := pleast_k2'
theorem pleast_k2_w (C : Kn) (K : Ex → St → Prop) (s : St) : vcC C pleast_k2 K s = vcC C pleast_k2' K s := nr rfl
def pleast_k3' : AC := .block 1 (.seq (.reg (.draw [⟨some (39, false), none, .mov (.tmp 7 true) .peek⟩,⟨some (40, false), none, .mov (.tmp 0 true) .peek⟩,⟨some (41, false), none, .lenL (.tmp 40 false)⟩,⟨some (42, false), none, .bin .lss (.tmp 39 false) (.tmp 41 false)⟩,⟨some (43, false), none, .mov (.tmp 42 false) .peek⟩,⟨some (44, false), (some (43, true)), .mov (.tmp 8 true) .peek⟩,⟨some (45, false), (some (43, true)), .mov (.tmp 1 true) .peek⟩,⟨some (46, false), (some (43, true)), .lenL (.tmp 45 false)⟩,⟨some (47, false), (some (43, true)), .bin .lss (.tmp 44 false) (.tmp 46 false)⟩,⟨some (48, false), none, .pick (.tmp 43 false) (.tmp 47 false) (.cst (.bool false) (.lit (.bool false)))⟩,⟨some (49, false), none, .mov (.tmp 48 false) .peek⟩,⟨some (50, false), (some (49, true)), .mov (.tmp 0 true) .peek⟩,⟨some (51, false), (some (49, true)), .mov (.tmp 7 true) .peek⟩,⟨some (52, false), (some (49, true)), .iad (.tmp 50 false) (.tmp 51 false) 1⟩,⟨some (53, false), (some (49, true)), .load (.tmp 52 false) 1 false false⟩,⟨some (54, false), (some (49, true)), .mov (.tmp 1 true) .peek⟩,⟨some (55, false), (some (49, true)), .mov (.tmp 8 true) .peek⟩,⟨some (56, false), (some (49, true)), .iad (.tmp 54 false) (.tmp 55 false) 1⟩,⟨some (57, false), (some (49, true)), .load (.tmp 56 false) 1 false false⟩,⟨some (58, false), (some (49, true)), .bin .eql (.tmp 53 false) (.tmp 57 false)⟩,⟨some (59, false), none, .pick (.tmp 49 false) (.tmp 58 false) (.cst (.bool false) (.lit (.bool false)))⟩] .done)) [0, 1, 5, 6, 7, 8, 59] [] pleast_k2)
def pleast_k3 : AC := pleast_k3'
theorem pleast_k3_w (C : Kn) (K : Ex → St → Prop) (s : St) : vcC C pleast_k3 K s = vcC C pleast_k3' K s := nr rfl
def pleast_l4' : AC := .seq (.seq (.reg (.seq [⟨some (29, false), none, .mov (.tmp 7 true) .peek⟩,⟨some (30, false), none, .mov (.tmp 0 true) .peek⟩,⟨some (31, false), none, .lenL (.tmp 30 false)⟩,⟨some (32, false), none, .bin .lss (.tmp 29 false) (.tmp 31 false)⟩,⟨some (33, false), none, .mov (.tmp 32 false) .peek⟩,⟨some (34, false), (some (33, false)), .mov (.tmp 8 true) .peek⟩,⟨some (35, false), (some (33, false)), .mov (.tmp 1 true) .peek⟩,⟨some (36, false), (some (33, false)), .lenL (.tmp 35 false)⟩,⟨some (37, false), (some (33, false)), .bin .lss (.tmp 34 false) (.tmp 36 false)⟩,⟨some (38, false), none, .pick (.tmp 33 false) (.cst (.bool true) (.lit (.bool true))) (.tmp 37 false)⟩])) [0, 1, 5, 6, 7, 8, 38] []
  (.cond (.tmp 38 false)
    (.skip)
    (.exit 0))) [0, 1, 5, 6, 7, 8] [] pleast_k3
def pleast_l4 : AC := pleast_l4'
theorem pleast_l4_w (C : Kn) (K : Ex → St → Prop) (s : St) : vcC C pleast_l4 K s = vcC C pleast_l4' K s := nr rfl
def pleast_k5' : AC := .seq (.reg (.seq [⟨some (107, false), none, .mov (.tmp 6 true) .take⟩,⟨some (4, true), none, .mov (.tmp 107 false) .asg⟩])) [4, 6] []
  (.ret)
def pleast_k5 : AC := pleast_k5'
theorem pleast_k5_w (C : Kn) (K : Ex → St → Prop) (s : St) : vcC C pleast_k5 K s = vcC C pleast_k5' K s := nr rfl
def pleast_k6' : AC := .seq (.reg (.seq [⟨some (26, false), none, .mov (.tmp 0 true) .peek⟩,⟨some (27, false), none, .mov (.tmp 1 true) .peek⟩,⟨some (28, false), none, .call 44 [.tmp 26 false, .tmp 27 false]⟩,⟨some (5, true), none, .mov (.tmp 28 false) .asg⟩])) [0, 1, 5] []
  (.seq (.reg (.seq [⟨some (6, true), none, .mov (.cst (.slice none 0 0) (.sl .own 4 [])) .asg⟩])) [0, 1, 5, 6] []
  (.seq (.reg (.seq [⟨some (7, true), none, .mov (.cst (.int .i64 0) (.lit (.int .i64 0))) .asg⟩])) [0, 1, 5, 6, 7] []
  (.seq (.reg (.seq [⟨some (8, true), none, .mov (.cst (.int .i64 0) (.lit (.int .i64 0))) .asg⟩])) [0, 1, 5, 6, 7, 8] []
  (.seq (.block 0 (.loop [0, 1, 5, 6, 7, 8] [] pleast_l4)) [6] [] pleast_k5))))
def pleast_k6 : AC := pleast_k6'
theorem pleast_k6_w (C : Kn) (K : Ex → St → Prop) (s : St) : vcC C pleast_k6 K s = vcC C pleast_k6' K s := nr rfl
def pleast : AF := ⟨.seq (.reg (.seq [⟨some (4, true), none, .mov (.cst (.slice none 0 0) (.sl .own 4 [])) .asg⟩])) [0, 1] []
  (.seq (.seq (.reg (.seq [⟨some (9, false), none, .mov (.tmp 0 true) .peek⟩,⟨some (10, false), none, .lenL (.tmp 9 false)⟩,⟨some (11, false), none, .bin .gtr (.tmp 10 false) (.cst (.int .i64 4096) (.lit (.int .i64 4096)))⟩,⟨some (12, false), none, .mov (.tmp 11 false) .peek⟩,⟨some (13, false), (some (12, false)), .mov (.tmp 1 true) .peek⟩,⟨some (14, false), (some (12, false)), .lenL (.tmp 13 false)⟩,⟨some (15, false), (some (12, false)), .bin .gtr (.tmp 14 false) (.cst (.int .i64 4096) (.lit (.int .i64 4096)))⟩,⟨some (16, false), none, .pick (.tmp 12 false) (.cst (.bool true) (.lit (.bool true))) (.tmp 15 false)⟩])) [0, 1, 16] []
  (.cond (.tmp 16 false)
    (.seq (.seq (.reg (.seq [⟨some (17, false), none, .mov (.tmp 0 true) .peek⟩,⟨some (18, false), none, .mov (.tmp 1 true) .peek⟩,⟨some (19, false), none, .call 43 [.tmp 17 false, .tmp 18 false]⟩])) [0, 1, 19] []
    (.cond (.tmp 19 false)
      (.seq (.reg (.seq [⟨some (4, true), none, .mov (.cst (.slice none 0 0) (.sl .own 4 [])) .asg⟩])) [4, 6] []
      (.ret))
      (.skip))) [0, 1] [] pleast_k0)
    (.skip))) [0, 1] [] pleast_k6),
  [.tmp 4]⟩
theorem pleast_comp (m : Int × Bool) : compF Tryd.prog (gl m) [] Tryd.f19 = some pleast := by kernel_rfl
theorem leF_end {c : Nat → Nat → Bool} {a b : List Bs} {i j : Nat} (h : ¬ (i < a.length ∨ j < b.length)) (n : Nat) (out : List Ed) : leF c a b n i j out = out := by
  cases n with
  | zero => rfl
  | succ n => rw [leF, if_neg h]
def edIn (i j : Nat) (l : List Ed) : Prop := ∀ z, z ∈ l → 0 ≤ z.1 ∧ z.1 ≤ i ∧ 0 ≤ z.2.1 ∧ z.2.1 ≤ i ∧ 0 ≤ z.2.2.1 ∧ z.2.2.1 ≤ j ∧ 0 ≤ z.2.2.2 ∧ z.2.2.2 ≤ j
theorem edIn.mono {i j i' j' : Nat} {l : List Ed} (h : edIn i j l) (hi : i ≤ i') (hj : j ≤ j') : edIn i' j' l := fun z hz => by
  obtain ⟨a1, a2, a3, a4, a5, a6, a7, a8⟩ := h z hz
  exact ⟨a1, by omega, a3, by omega, a5, by omega, a7, by omega⟩
theorem addE_len (l : List Ed) (e : Ed) : (addE l e).length ≤ l.length + 1 := by
  rw [addE]
  cases hl : l.getLast? with
  | none => simp
  | some x =>
    dsimp only
    split
    · rw [List.length_append, List.length_dropLast, List.length_singleton]
      omega
    · simp
theorem addE_in {i j d n : Nat} {l : List Ed} (h : edIn i j l) : edIn (i + d) (j + n) (addE l ((i : Int), (d : Int), (j : Int), (n : Int))) := by
  intro z hz
  have h0 := h.mono (i' := i + d) (j' := j + n) (by omega) (by omega)
  have hnew : z = ((i : Int), (d : Int), (j : Int), (n : Int)) → 0 ≤ z.1 ∧ z.1 ≤ (i + d : Nat) ∧ 0 ≤ z.2.1 ∧ z.2.1 ≤ (i + d : Nat) ∧ 0 ≤ z.2.2.1 ∧ z.2.2.1 ≤ (j + n : Nat) ∧ 0 ≤ z.2.2.2 ∧ z.2.2.2 ≤ (j + n : Nat) := by
    rintro rfl; dsimp only; omega
  rw [addE] at hz
  cases hl : l.getLast? with
  | none =>
    rw [hl] at hz
    rcases List.mem_append.1 hz with hz | hz
    · exact h0 z hz
    · exact hnew (List.mem_singleton.1 hz)
  | some x =>
    rw [hl] at hz
    dsimp only at hz
    have hx : x ∈ l := List.mem_of_getLast? hl
    obtain ⟨a1, a2, a3, a4, a5, a6, a7, a8⟩ := h x hx
    split at hz
    · rcases List.mem_append.1 hz with hz | hz
      · exact h0 z (List.dropLast_subset _ hz)
      · rw [List.mem_singleton] at hz
        subst hz
        dsimp only
        omega
    · rcases List.mem_append.1 hz with hz | hz
      · exact h0 z hz
      · exact hnew (List.mem_singleton.1 hz)
theorem edIn.inR {i j : Nat} {l : List Ed} (h : edIn i j l) (hi : i ≤ 2097152) (hj : j ≤ 2097152) : ∀ z, z ∈ l → inR z.1 ∧ inR z.2.1 ∧ inR z.2.2.1 ∧ inR z.2.2.2 := fun z hz => by
  obtain ⟨a1, a2, a3, a4, a5, a6, a7, a8⟩ := h z hz
  exact ⟨⟨by omega, by omega⟩, ⟨by omega, by omega⟩, ⟨by omega, by omega⟩, ⟨by omega, by omega⟩⟩
structure LeI (a b : List Bs) (x : Nat × Nat × Nat × List Ed) : Prop where
  eq : leF (lcsC a b) a b x.1 x.2.1 x.2.2.1 x.2.2.2 = least a b
  i : x.2.1 ≤ a.length
  j : x.2.2.1 ≤ b.length
  n : a.length - x.2.1 + (b.length - x.2.2.1) ≤ x.1
  len : x.2.2.2.length ≤ x.2.1 + x.2.2.1
  ed : edIn x.2.1 x.2.2.1 x.2.2.2
set_option maxRecDepth 8000 in
theorem pleast_snd (a b : List Bs) (ha : a.length ≤ 4096) (hb : b.length ≤ 4096) : Snd Tryd.prog (gl m) 19 [.sl .frn 1 (ss a), .sl .frn 1 (ss b)] (.sl .own 4 (fs fE (least a b))) := by
  refine snd_of (fn := Tryd.f19) (af := pleast) Tryd.func19 (pleast_comp m) mixed (kn_ok m) (Nat.le_of_ble_eq_true rfl) ?_
  simp only [pleast, go_sem, reduceCtorEq, Nat.reduceEqDiff, reduceIte, Nat.reduceAdd, Nat.reduceSub, Nat.reduceLeDiff, Int.reduceToNat, Nat.reduceBEq]
  simp only [igt_f (show ¬ (4096 : Int) < ((a.length : Nat) : Int) by omega), igt_f (show ¬ (4096 : Int) < ((b.length : Nat) : Int) by omega), pleast_k6_w, pleast_k6', go_sem, reduceCtorEq, Nat.reduceEqDiff, reduceIte, Nat.reduceAdd, Nat.reduceSub, Nat.reduceLeDiff, Int.reduceToNat, Nat.reduceBEq]
  refine of_call (table_snd a b ha hb) ?_
  rw [tabR]
  have hres : resL (hR .own (tabL (a.length + 1) (b.length + 1) (lcsT a b))) = hR .own (tabL (a.length + 1) (b.length + 1) (lcsT a b)) := resL_ks_own kNs rfl rfl _
  have hkl : ∀ p, klL p true (hR .own (tabL (a.length + 1) (b.length + 1) (lcsT a b))) = hR .own (tabL (a.length + 1) (b.length + 1) (lcsT a b)) := fun p => klL_ks_own kNs rfl rfl p _
  have hkl2 : ∀ p, klL p false (hR .own (tabL (a.length + 1) (b.length + 1) (lcsT a b))) = hR .own (tabL (a.length + 1) (b.length + 1) (lcsT a b)) := fun p => klL_ks .own kNs rfl rfl p _
  have hlt : (hR .own (tabL (a.length + 1) (b.length + 1) (lcsT a b))).length = a.length + 1 := by rw [hR_length, tabL_len]
  have hrow : ∀ i, i < a.length + 1 → (hR .own (tabL (a.length + 1) (b.length + 1) (lcsT a b)))[i]? = some (.sl .own 1 (ns ((List.range (b.length + 1)).map fun j => lcsT a b i j))) := fun i h => tab_row h
  simp only [hres, go_sem, reduceCtorEq, Nat.reduceEqDiff, reduceIte, Nat.reduceAdd, Nat.reduceSub, Nat.reduceLeDiff, Int.reduceToNat, Nat.reduceBEq]
  generalize hT : hR .own (tabL (a.length + 1) (b.length + 1) (lcsT a b)) = T at hkl hkl2 hlt hrow
  refine loop_wf (fun x : Nat × Nat × Nat × List Ed => x.1) (fun x => mkS [(0, .sl .frn 1 (ss a)), (1, .sl .frn 1 (ss b)), (5, .sl .own 1 T), (6, .sl .own 4 (fs fE x.2.2.2)), (7, N x.2.1), (8, N x.2.2.1)] [])
    (LeI a b) (a.length + b.length, 0, 0, []) rfl ⟨rfl, by simp, by simp, by simp, by simp, fun z hz => by simp at hz⟩ ?_
  rintro ⟨n, i, j, out⟩ ⟨heq, hi, hj, hn, hlen, hed⟩ ih
  dsimp only at heq hi hj hn hlen hed ih
  simp only [pleast_l4_w, pleast_l4', go_sem, reduceCtorEq, Nat.reduceEqDiff, reduceIte, Nat.reduceAdd, Nat.reduceSub, Nat.reduceLeDiff, Int.reduceToNat, Nat.reduceBEq]
  repeat ((with_reducible apply And.intro); (case left => first | omega | (simp only [List.length_append, List.length_cons, List.length_nil, List.length_drop, List.length_take, List.length_tail, List.length_dropLast, fs_length, ss_length, bs_length, ns_length]; omega)))
  have qi : IntKind.i64.wrap ((i : Int) + 1) = ((i + 1 : Nat) : Int) := wrapN _ (by omega) (by omega)
  have qj : IntKind.i64.wrap ((j : Int) + 1) = ((j + 1 : Nat) : Int) := wrapN _ (by omega) (by omega)
  by_cases h0 : i < a.length ∨ j < b.length
  rotate_left
  · rw [leF_end h0] at heq
    subst heq
    simp only [ss_length, lt_f (show ¬ i < a.length by omega), lt_f (show ¬ j < b.length by omega), pleast_k5_w, pleast_k5', go_sem, reduceCtorEq, Nat.reduceEqDiff, reduceIte, Nat.reduceAdd, Nat.reduceSub, Nat.reduceLeDiff, Int.reduceToNat, Nat.reduceBEq]
    first | rfl | trace_state
  obtain ⟨n, rfl⟩ : ∃ k, n = k + 1 := ⟨n - 1, by omega⟩
  rw [leF, if_pos h0] at heq
  have hlo : out.length ≤ 1048576 := by omega
  have hin := hed.inR (by omega) (by omega)
  have one : ∀ i' j' : Nat, i' ≤ 4096 → j' ≤ 4096 → inR ((i' : Nat) : Int) ∧ inR 1 ∧ inR ((j' : Nat) : Int) ∧ inR 0 := fun i' j' h1 h2 => ⟨⟨by omega, by omega⟩, ⟨by omega, by omega⟩, ⟨by omega, by omega⟩, ⟨by omega, by omega⟩⟩
  have zer : ∀ i' j' : Nat, i' ≤ 4096 → j' ≤ 4096 → inR ((i' : Nat) : Int) ∧ inR 0 ∧ inR ((j' : Nat) : Int) ∧ inR 1 := fun i' j' h1 h2 => ⟨⟨by omega, by omega⟩, ⟨by omega, by omega⟩, ⟨by omega, by omega⟩, ⟨by omega, by omega⟩⟩
  have hA := addE_len out (((i : Nat) : Int), 1, ((j : Nat) : Int), 0)
  have hB := addE_len out (((i : Nat) : Int), 0, ((j : Nat) : Int), 1)
  have stepA : i < a.length → leF (lcsC a b) a b n (i + 1) j (addE out (((i : Nat) : Int), 1, ((j : Nat) : Int), 0)) = least a b → LeI a b (n, i + 1, j, addE out (((i : Nat) : Int), 1, ((j : Nat) : Int), 0)) := fun h1 h2 =>
    ⟨h2, by dsimp only; omega, hj, by dsimp only; omega, by dsimp only; omega, addE_in (d := 1) (n := 0) hed⟩
  have stepB : j < b.length → leF (lcsC a b) a b n i (j + 1) (addE out (((i : Nat) : Int), 0, ((j : Nat) : Int), 1)) = least a b → LeI a b (n, i, j + 1, addE out (((i : Nat) : Int), 0, ((j : Nat) : Int), 1)) := fun h1 h2 =>
    ⟨h2, hi, by dsimp only; omega, by dsimp only; omega, by dsimp only; omega, addE_in (d := 0) (n := 1) hed⟩
  by_cases hia : i < a.length
  · have ga := ssE a hia
    by_cases hjb : j < b.length
    · have gb := ssE b hjb
      by_cases hc : a[i] = b[j]
      · rw [if_pos ⟨hia, hjb, by rw [List.getElem?_eq_getElem hia, List.getElem?_eq_getElem hjb, hc]⟩] at heq
        simp only [ss_length, lt_t hia, lt_t hjb, ga, gb, Int.toNat_natCast, pleast_k3_w, pleast_k3', go_sem, reduceCtorEq, Nat.reduceEqDiff, reduceIte, Nat.reduceAdd, Nat.reduceSub, Nat.reduceLeDiff, Int.reduceToNat, Nat.reduceBEq]
        repeat ((with_reducible apply And.intro); (case left => first | omega | (simp only [List.length_append, List.length_cons, List.length_nil, List.length_drop, List.length_take, List.length_tail, List.length_dropLast, fs_length, ss_length, bs_length, ns_length]; omega)))
        simp only [se_t hc, qi, qj, pleast_k2_w, pleast_k2', go_sem, reduceCtorEq, Nat.reduceEqDiff, reduceIte, Nat.reduceAdd, Nat.reduceSub, Nat.reduceLeDiff, Int.reduceToNat, Nat.reduceBEq]
        exact ih (n, i + 1, j + 1, out) (by dsimp only; omega) ⟨heq, by dsimp only; omega, by dsimp only; omega, by dsimp only; omega, by dsimp only; omega, hed.mono (by dsimp only; omega) (by dsimp only; omega)⟩
      · rw [if_neg fun h => hc (by have := h.2.2; rw [List.getElem?_eq_getElem hia, List.getElem?_eq_getElem hjb] at this; exact Option.some.inj this)] at heq
        have r0 := hrow i (by omega)
        have r1 := hrow (i + 1) (by omega)
        have c0 := row_get (m := b.length + 1) (f := fun j => lcsT a b (i + 1) j) (j := j) (by omega)
        have c1 := row_get (m := b.length + 1) (f := fun j => lcsT a b i j) (j := j + 1) (by omega)
        have l0 := row_len (b.length + 1) (fun j => lcsT a b (i + 1) j)
        have l1 := row_len (b.length + 1) (fun j => lcsT a b i j)
        generalize (ns ((List.range (b.length + 1)).map fun j => lcsT a b (i + 1) j)) = R1 at r1 c0 l0
        generalize (ns ((List.range (b.length + 1)).map fun j => lcsT a b i j)) = R0 at r0 c1 l1
        have hcc : decide (lcsT a b (i + 1) j ≥ lcsT a b i (j + 1)) = lcsC a b i j := by
          rw [lcsC, lcsT, lcsT]
          by_cases h : lcs (a.drop i) (b.drop (j + 1)) ≤ lcs (a.drop (i + 1)) (b.drop j)
          · rw [decide_eq_true h, decide_eq_true (by omega)]
          · rw [decide_eq_false h, decide_eq_false (by omega)]
        simp only [ss_length, lt_t hia, lt_t hjb, ga, gb, Int.toNat_natCast, pleast_k3_w, pleast_k3', go_sem, reduceCtorEq, Nat.reduceEqDiff, reduceIte, Nat.reduceAdd, Nat.reduceSub, Nat.reduceLeDiff, Int.reduceToNat, Nat.reduceBEq]
        repeat ((with_reducible apply And.intro); (case left => first | omega | (simp only [List.length_append, List.length_cons, List.length_nil, List.length_drop, List.length_take, List.length_tail, List.length_dropLast, fs_length, ss_length, bs_length, ns_length]; omega)))
        simp only [se_f hc, ss_length, lt_t hia, eq_f (show ((j : Nat) : Int) ≠ ((b.length : Nat) : Int) by omega), r0, r1, c0, c1, l0, l1, hlt, qi, qj, Int.toNat_natCast, pleast_k2_w, pleast_k2', go_sem, reduceCtorEq, Nat.reduceEqDiff, reduceIte, Nat.reduceAdd, Nat.reduceSub, Nat.reduceLeDiff, Int.reduceToNat, Nat.reduceBEq]
        repeat ((with_reducible apply And.intro); (case left => first | omega | (simp only [List.length_append, List.length_cons, List.length_nil, List.length_drop, List.length_take, List.length_tail, List.length_dropLast, fs_length, ss_length, bs_length, ns_length]; omega)))
        simp only [r0, r1, c0, c1, l0, l1, hlt, qi, qj, hcc, Int.toNat_natCast, go_sem, reduceCtorEq, Nat.reduceEqDiff, reduceIte, Nat.reduceAdd, Nat.reduceSub, Nat.reduceLeDiff, Int.reduceToNat, Nat.reduceBEq]
        repeat ((with_reducible apply And.intro); (case left => first | omega | (simp only [List.length_append, List.length_cons, List.length_nil, List.length_drop, List.length_take, List.length_tail, List.length_dropLast, fs_length, ss_length, bs_length, ns_length]; omega)))
        cases hcv : lcsC a b i j with
        | true =>
          rw [if_pos (.inr ⟨hia, hcv⟩)] at heq
          simp only [pleast_k1_w, pleast_k1', go_sem, reduceCtorEq, Nat.reduceEqDiff, reduceIte, Nat.reduceAdd, Nat.reduceSub, Nat.reduceLeDiff, Int.reduceToNat, Nat.reduceBEq]
          refine of_core (add8_snd out (((i : Nat) : Int), 1, ((j : Nat) : Int), 0) hlo hin (one i j (by omega) (by omega))) rfl ?_
          simp only [hkl, hkl2, qi, qj, go_sem, reduceCtorEq, Nat.reduceEqDiff, reduceIte, Nat.reduceAdd, Nat.reduceSub, Nat.reduceLeDiff, Int.reduceToNat, Nat.reduceBEq]
          exact ih _ (by dsimp only; omega) (stepA hia heq)
        | false =>
          rw [if_neg (fun h => by rcases h with h | h; omega; rw [hcv] at h; cases h.2)] at heq
          simp only [pleast_k1_w, pleast_k1', go_sem, reduceCtorEq, Nat.reduceEqDiff, reduceIte, Nat.reduceAdd, Nat.reduceSub, Nat.reduceLeDiff, Int.reduceToNat, Nat.reduceBEq]
          refine of_core (add8_snd out (((i : Nat) : Int), 0, ((j : Nat) : Int), 1) hlo hin (zer i j (by omega) (by omega))) rfl ?_
          simp only [hkl, hkl2, qi, qj, go_sem, reduceCtorEq, Nat.reduceEqDiff, reduceIte, Nat.reduceAdd, Nat.reduceSub, Nat.reduceLeDiff, Int.reduceToNat, Nat.reduceBEq]
          exact ih _ (by dsimp only; omega) (stepB hjb heq)
    · obtain rfl : j = b.length := by omega
      rw [if_neg (fun h => hjb h.2.1), if_pos (.inl rfl)] at heq
      simp only [ss_length, lt_t hia, lt_f hjb, eq_t rfl, pleast_k3_w, pleast_k3', pleast_k2_w, pleast_k2', pleast_k1_w, pleast_k1', go_sem, reduceCtorEq, Nat.reduceEqDiff, reduceIte, Nat.reduceAdd, Nat.reduceSub, Nat.reduceLeDiff, Int.reduceToNat, Nat.reduceBEq]
      repeat ((with_reducible apply And.intro); (case left => first | omega | (simp only [List.length_append, List.length_cons, List.length_nil, List.length_drop, List.length_take, List.length_tail, List.length_dropLast, fs_length, ss_length, bs_length, ns_length]; omega)))
      refine of_core (add8_snd out (((i : Nat) : Int), 1, ((b.length : Nat) : Int), 0) hlo hin (one i b.length (by omega) (by omega))) rfl ?_
      simp only [hkl, hkl2, qi, qj, go_sem, reduceCtorEq, Nat.reduceEqDiff, reduceIte, Nat.reduceAdd, Nat.reduceSub, Nat.reduceLeDiff, Int.reduceToNat, Nat.reduceBEq]
      exact ih _ (by dsimp only; omega) (stepA hia heq)
  · obtain rfl : i = a.length := by omega
    have hjb : j < b.length := by omega
    rw [if_neg (fun h => hia h.1), if_neg (by omega)] at heq
    simp only [ss_length, lt_f hia, lt_t hjb, eq_f (show ((j : Nat) : Int) ≠ ((b.length : Nat) : Int) by omega), pleast_k3_w, pleast_k3', pleast_k2_w, pleast_k2', pleast_k1_w, pleast_k1', go_sem, reduceCtorEq, Nat.reduceEqDiff, reduceIte, Nat.reduceAdd, Nat.reduceSub, Nat.reduceLeDiff, Int.reduceToNat, Nat.reduceBEq]
    repeat ((with_reducible apply And.intro); (case left => first | omega | (simp only [List.length_append, List.length_cons, List.length_nil, List.length_drop, List.length_take, List.length_tail, List.length_dropLast, fs_length, ss_length, bs_length, ns_length]; omega)))
    refine of_core (add8_snd out (((a.length : Nat) : Int), 0, ((j : Nat) : Int), 1) hlo hin (zer a.length j (by omega) (by omega))) rfl ?_
    simp only [hkl, hkl2, qi, qj, go_sem, reduceCtorEq, Nat.reduceEqDiff, reduceIte, Nat.reduceAdd, Nat.reduceSub, Nat.reduceLeDiff, Int.reduceToNat, Nat.reduceBEq]
    exact ih _ (by dsimp only; omega) (stepB hjb heq)
end Go.Hk
namespace Go.Hk
open Go Go.Ev Go.Proofs
open Go.Ln (okLines okLine)
set_option linter.unusedVariables false
set_option linter.unusedSimpArgs false
set_option maxHeartbeats 4000000
attribute [local go_sem] eqs implies_true List.map_cons List.map_nil kl klL roD roL Option.map_some Option.map_none Option.getD_some Option.getD_none binVal binObl unVal if_true if_false eq_self passA frnD resD content getH getR getW viaNot viaSlot viaBox viaDeep viaMem List.contains_cons List.contains_nil grabs peeks okCells isCell place cellsOf chunk elt List.headD_cons List.length_cons List.length_nil List.take_succ_cons List.take_zero List.drop_succ_cons List.drop_zero List.nil_append List.cons_append List.append_nil List.all_cons List.all_nil plainC takeR setW over reCell List.getElem?_cons_zero List.getElem?_cons_succ List.set_cons_zero List.take_length outV resG plainV pack outVG outBx List.set_cons_succ Ref.idx Ref.addOff beq_self_eq_true bxL Option.bind_some writeR isLit viaBoxes capsPA boxPA nsOf noDup boxesAt argG passG passD rhoIn rhoOut idxIn tr trL List.getD_cons_zero gives pasOf isPtr Ins.d List.getD_cons_succ resL frnL partB_f partB_t partB_p partB_s St.setP mixR v_slcT List.getLast?_nil List.getLast?_singleton List.dropLast_singleton List.nil_append frnL_fs roL_fs resL_fs passL_fs klL_fs trL_fs map_roD_fs fs_length hS_length frnL_hS roL_hS_own roL_hS_frn roL_hS_ro resL_hS_own resL_hS_ro klL_hS klL_hS_own klL_hS_frn passL_hS_own passL_hS_frn trL_hS_own trL_hS_frn frnL_ns resL_ns roL_ns passL_ns klL_ns
variable {m : Int × Bool}
def pElse_k0' : AC := .cond (.tmp 36 false)
    (.seq (.reg (.seq [⟨some (37, false), none, .call 10 []⟩,⟨some (6, true), none, .mov (.tmp 37 false) .asg⟩])) [6] []
    (.ret))
    (.skip)
def pElse_k0 : AC := pElse_k0'
theorem pElse_k0_w (C : Kn) (K : Ex → St → Prop) (s : St) : vcC C pElse_k0 K s = vcC C pElse_k0' K s := nr rfl
def pElse_k1' : AC := .ret
def pElse_k1 : AC := pElse_k1'
theorem pElse_k1_w (C : Kn) (K : Ex → St → Prop) (s : St) : vcC C pElse_k1 K s = vcC C pElse_k1' K s := nr rfl
def pElse_k2' : AC := .seq (.reg (.seq [⟨some (57, false), none, .mov (.tmp 10 true) .peek⟩,⟨some (58, false), none, .bin .eql (.tmp 57 false) (.cst (.int .i64 0) (.lit (.int .i64 0)))⟩,⟨some (59, false), none, .mov (.tmp 58 false) .peek⟩,⟨some (60, false), (some (59, true)), .mov (.tmp 8 true) .peek⟩,⟨some (61, false), (some (59, true)), .mov (.tmp 2 true) .peek⟩,⟨some (62, false), (some (59, true)), .mov (.tmp 1 true) .peek⟩,⟨some (63, false), (some (59, true)), .call 21 [.tmp 61 false, .tmp 62 false]⟩,⟨some (64, false), (some (59, true)), .call 13 [.tmp 60 false, .tmp 63 false]⟩,⟨some (65, false), none, .pick (.tmp 59 false) (.tmp 64 false) (.cst (.bool false) (.lit (.bool false)))⟩,⟨some (66, false), none, .mov (.tmp 65 false) .peek⟩,⟨some (67, false), (some (66, true)), .mov (.tmp 9 true) .peek⟩,⟨some (68, false), (some (66, true)), .lenL (.tmp 67 false)⟩,⟨some (69, false), (some (66, true)), .mov (.tmp 7 true) .peek⟩,⟨some (70, false), (some (66, true)), .lenL (.tmp 69 false)⟩,⟨some (71, false), (some (66, true)), .bin .eql (.tmp 68 false) (.tmp 70 false)⟩,⟨some (72, false), none, .pick (.tmp 66 false) (.tmp 71 false) (.cst (.bool false) (.lit (.bool false)))⟩,⟨some (73, false), none, .mov (.tmp 72 false) .peek⟩,⟨some (74, false), (some (73, true)), .mov (.tmp 9 true) .peek⟩,⟨some (75, false), (some (73, true)), .mov (.tmp 2 true) .peek⟩,⟨some (76, false), (some (73, true)), .lenL (.tmp 75 false)⟩,⟨some (77, false), (some (73, true)), .call 22 [.tmp 74 false, .tmp 76 false]⟩,⟨some (78, false), none, .pick (.tmp 73 false) (.tmp 77 false) (.cst (.bool false) (.lit (.bool false)))⟩,⟨some (79, false), none, .mov (.tmp 78 false) .peek⟩,⟨some (80, false), (some (79, true)), .call 10 []⟩,⟨some (81, false), none, .pick (.tmp 79 false) (.tmp 80 false) (.cst (.bool false) (.lit (.bool false)))⟩,⟨some (6, true), none, .mov (.tmp 81 false) .asg⟩])) [6] [] pElse_k1
def pElse_k2 : AC := pElse_k2'
theorem pElse_k2_w (C : Kn) (K : Ex → St → Prop) (s : St) : vcC C pElse_k2 K s = vcC C pElse_k2' K s := nr rfl
def pElse_k3' : AC := .seq (.reg (.seq [⟨some (49, false), none, .mov (.tmp 2 true) .peek⟩,⟨some (50, false), none, .mov (.tmp 0 true) .peek⟩,⟨some (51, false), none, .call 21 [.tmp 49 false, .tmp 50 false]⟩,⟨some (52, false), none, .mov (.tmp 7 true) .peek⟩,⟨some (53, false), none, .call 11 [.tmp 51 false, .tmp 52 false]⟩,⟨some (48, false), none, .mov (.tmp 53 false) .peek⟩,⟨some (54, false), none, .ext (.tmp 48 false) 0⟩,⟨some (55, false), none, .ext (.tmp 48 false) 1⟩,⟨some (56, false), none, .ext (.tmp 48 false) 2⟩,⟨some (8, true), none, .mov (.tmp 54 false) .asg⟩,⟨some (9, true), none, .mov (.tmp 55 false) .asg⟩,⟨some (10, true), none, .mov (.tmp 56 false) .asg⟩])) [1, 2, 7, 8, 9, 10] [] pElse_k2
def pElse_k3 : AC := pElse_k3'
theorem pElse_k3_w (C : Kn) (K : Ex → St → Prop) (s : St) : vcC C pElse_k3 K s = vcC C pElse_k3' K s := nr rfl
def pElse_k4' : AC := .seq (.reg (.seq [⟨some (38, false), none, .mov (.tmp 0 true) .peek⟩,⟨some (39, false), none, .mov (.tmp 1 true) .peek⟩,⟨some (40, false), none, .mov (.tmp 0 true) .peek⟩,⟨some (41, false), none, .mov (.tmp 1 true) .peek⟩,⟨some (42, false), none, .call 19 [.tmp 40 false, .tmp 41 false]⟩,⟨some (43, false), none, .call 18 [.tmp 38 false, .tmp 39 false, .tmp 42 false, (.cst (.int .i64 1) (.lit (.int .i64 1)))]⟩,⟨some (7, true), none, .mov (.tmp 43 false) .asg⟩])) [0, 1, 2, 7] []
  (.seq (.seq (.reg (.seq [⟨some (44, false), none, .mov (.tmp 7 true) .peek⟩,⟨some (45, false), none, .call 20 [.tmp 44 false]⟩,⟨some (46, false), none, .un .not (.tmp 45 false)⟩])) [0, 1, 2, 7, 46] []
  (.cond (.tmp 46 false)
    (.seq (.reg (.seq [⟨some (47, false), none, .call 10 []⟩,⟨some (6, true), none, .mov (.tmp 47 false) .asg⟩])) [6] []
    (.ret))
    (.skip))) [0, 1, 2, 7] [] pElse_k3)
def pElse_k4 : AC := pElse_k4'
theorem pElse_k4_w (C : Kn) (K : Ex → St → Prop) (s : St) : vcC C pElse_k4 K s = vcC C pElse_k4' K s := nr rfl
def pElse : AF := ⟨.seq (.reg (.seq [⟨some (6, true), none, .mov (.cst (.bool false) (.lit (.bool false))) .asg⟩])) [0, 1, 2] []
  (.seq (.seq (.reg (.seq [⟨some (11, false), none, .mov (.tmp 0 true) .peek⟩,⟨some (12, false), none, .mov (.tmp 1 true) .peek⟩,⟨some (13, false), none, .call 15 [.tmp 11 false, .tmp 12 false]⟩,⟨some (14, false), none, .un .not (.tmp 13 false)⟩,⟨some (15, false), none, .mov (.tmp 14 false) .peek⟩,⟨some (16, false), (some (15, false)), .mov (.tmp 2 true) .peek⟩,⟨some (17, false), (some (15, false)), .lenL (.tmp 16 false)⟩,⟨some (18, false), (some (15, false)), .bin .gtr (.tmp 17 false) (.cst (.int .i64 20) (.lit (.int .i64 20)))⟩,⟨some (19, false), none, .pick (.tmp 15 false) (.cst (.bool true) (.lit (.bool true))) (.tmp 18 false)⟩,⟨some (20, false), none, .mov (.tmp 19 false) .peek⟩,⟨some (21, false), (some (20, false)), .mov (.tmp 0 true) .peek⟩,⟨some (22, false), (some (20, false)), .call 16 [.tmp 21 false]⟩,⟨some (23, false), (some (20, false)), .un .not (.tmp 22 false)⟩,⟨some (24, false), none, .pick (.tmp 20 false) (.cst (.bool true) (.lit (.bool true))) (.tmp 23 false)⟩,⟨some (25, false), none, .mov (.tmp 24 false) .peek⟩,⟨some (26, false), (some (25, false)), .mov (.tmp 1 true) .peek⟩,⟨some (27, false), (some (25, false)), .call 16 [.tmp 26 false]⟩,⟨some (28, false), (some (25, false)), .un .not (.tmp 27 false)⟩,⟨some (29, false), none, .pick (.tmp 25 false) (.cst (.bool true) (.lit (.bool true))) (.tmp 28 false)⟩,⟨some (30, false), none, .mov (.tmp 29 false) .peek⟩,⟨some (31, false), (some (30, false)), .mov (.tmp 0 true) .peek⟩,⟨some (32, false), (some (30, false)), .mov (.tmp 1 true) .peek⟩,⟨some (33, false), (some (30, false)), .mov (.tmp 2 true) .peek⟩,⟨some (34, false), (some (30, false)), .call 17 [.tmp 31 false, .tmp 32 false, .tmp 33 false]⟩,⟨some (35, false), (some (30, false)), .un .not (.tmp 34 false)⟩,⟨some (36, false), none, .pick (.tmp 30 false) (.cst (.bool true) (.lit (.bool true))) (.tmp 35 false)⟩])) [0, 1, 2, 36] [] pElse_k0) [0, 1, 2] [] pElse_k4),
  [.tmp 6]⟩
theorem pElse_comp (m : Int × Bool) : compF Tryd.prog (gl m) [] Tryd.f4 = some pElse := by kernel_rfl
theorem okLine_is {l : Bs} {last : Bool} (h : okLine l last = true) : isLine l = true ∧ (openL l = true → last = true) := by
  simp only [okLine, Bool.and_eq_true, decide_eq_true_eq, Bool.not_eq_true', Bool.or_eq_true, beq_iff_eq] at h
  obtain ⟨⟨h1, h2⟩, h3⟩ := h
  have he : l.isEmpty = false := by cases l with | nil => exact absurd rfl h1 | cons => rfl
  refine ⟨by rw [isLine, he, h2]; rfl, fun ho => ?_⟩
  rcases h3 with h3 | h3
  · rw [openL, h3] at ho; simp at ho
  · exact h3
theorem linesOk_of : ∀ {a : List Bs}, okLines a = true → linesOk a := by
  intro a
  induction a with
  | nil => intro _ i h; simp at h
  | cons x a ih =>
    intro h i hi
    rw [okLines, Bool.and_eq_true] at h
    obtain ⟨h1, h2⟩ := okLine_is h.1
    cases i with
    | zero =>
      refine ⟨h1, fun ho => ?_⟩
      have := h2 ho
      cases a with
      | nil => rfl
      | cons => cases this
    | succ i =>
      have := ih h.2 i (by simpa using hi)
      exact ⟨this.1, fun ho => by have := this.2 ho; simp only [List.length_cons]; omega⟩
theorem clamp_0 (n : Int) : 0 ≤ clampN n := by rw [clampN]; omega
theorem least_chain {a b : List Bs} {n : Int} (ha : a.length ≤ 40) (hb : b.length ≤ 40) (oa : linesOk a) (ob : linesOk b) :
    (ofF a b (least a b) n = [] ∧ least a b = [] ∧ a = b) ∨ ∃ q q', Chain a b (ofF a b (least a b) n) q q' ∧ q ≤ a.length ∧ q' ≤ b.length ∧ a.drop q = b.drop q' ∧ edsF (ofF a b (least a b) n) = least a b := by
  have hr := least_right a b
  have e : ofF a b (least a b) n = ofW a b (clampN n) (least a b) := by rw [ofF, if_pos ⟨by omega, by omega, hr⟩]
  rw [e]
  by_cases h0 : least a b = []
  · refine .inl ⟨by rw [h0]; rfl, h0, ?_⟩
    rw [h0] at hr
    simpa [right, scS] using hr
  · exact .inr (chain_of (clamp_0 n) hr h0 oa ob)
theorem held_side {l : List Hk} (h : heldB l = true) : ∀ H, H ∈ l → sideL H.2.2 3 ≠ [] := by
  intro H hH e
  rw [heldB, List.all_eq_true] at h
  have := h H hH
  rw [List.any_eq_true] at this
  obtain ⟨x, hx, hk⟩ := this
  have : x.2 ∈ sideL H.2.2 3 := List.mem_map.2 ⟨x, List.mem_filter.2 ⟨hx, hk⟩, rfl⟩
  rw [e] at this; cases this
theorem else_pure {a b more : List Bs} {n : Int} (ha : a.length ≤ 40) (hb : b.length ≤ 40) (oa : linesOk a) (ob : linesOk b) (hu : unA a) (hm : unO a more) (hh : heldB (ofF a b (least a b) n) = true) :
    apR (more ++ a) (ofF a b (least a b) n) = .tup [.sl .own 1 (ss (more ++ b)), .sl .own 1 (ns (List.replicate (ofF a b (least a b) n).length ((more.length : Nat) : Int))), I 0] := by
  rcases least_chain (n := n) ha hb oa ob with ⟨h1, h2, h3⟩ | ⟨q, q', hc, hq, hq', hd, he⟩
  · rw [h1, h3]
    rw [apR, if_pos (show valid [] = true from rfl)]; rfl
  · have hv := chain_valid hc.zero (by omega) (by omega)
    obtain ⟨Q, e1, e2, e3⟩ := chain_elsewhere hc.zero hd (fun i j h1 h2 e => hu j i h1 h2 e.symm) hm (held_side hh)
    rw [apR, if_pos hv, e1]
    dsimp only
    rw [e2, e3]
theorem few_cases (a b : List Bs) : (a.length ≤ 40 ∧ b.length ≤ 40 ∧ (decide (a.length ≤ 40) && decide (b.length ≤ 40)) = true) ∨ (decide (a.length ≤ 40) && decide (b.length ≤ 40)) = false := by
  by_cases h1 : a.length ≤ 40
  · by_cases h2 : b.length ≤ 40
    · exact .inl ⟨h1, h2, by rw [decide_eq_true h1, decide_eq_true h2]; rfl⟩
    · exact .inr (by rw [decide_eq_false h2, Bool.and_false])
  · exact .inr (by rw [decide_eq_false h1, Bool.false_and])
theorem least_len (a b : List Bs) : (least a b).length ≤ a.length + b.length := right_len (least_right a b)
theorem unlike_not {a b o : List Bs} : unlikeB a b o = false ∨ (unlikeB a b o = true ∧ unA a ∧ unO a o ∧ unO b o) := by
  by_cases h : unA a ∧ unO a o ∧ unO b o
  · exact .inr ⟨unlike_yes h, h⟩
  · exact .inl (unlike_no h)
set_option maxRecDepth 8000 in
theorem pElse_snd (a b o : List Bs) (ha : a.length ≤ 1048576) (hb : b.length ≤ 1048576) (ho : o.length ≤ 1048576) (has : ∀ x, x ∈ a → x.length ≤ 1048576) (hbs : ∀ x, x ∈ b → x.length ≤ 1048576) : Snd Tryd.prog (gl m) 4 [.sl .frn 1 (ss a), .sl .frn 1 (ss b), .sl .frn 1 (ss o)] (B true) := by
  refine snd_of (fn := Tryd.f4) (af := pElse) Tryd.func4 (pElse_comp m) mixed (kn_ok m) (Nat.le_of_ble_eq_true rfl) ?_
  simp only [pElse, go_sem, reduceCtorEq, Nat.reduceEqDiff, reduceIte, Nat.reduceAdd, Nat.reduceSub, Nat.reduceLeDiff, Int.reduceToNat, Nat.reduceBEq]
  repeat ((with_reducible apply And.intro); (case left => first | omega | (simp only [List.length_append, List.length_cons, List.length_nil, List.length_drop, List.length_take, List.length_tail, List.length_dropLast, fs_length, ss_length, bs_length, ns_length]; omega)))
  refine of_call (hfew_snd a b ha hb) ?_
  simp only [go_sem, reduceCtorEq, Nat.reduceEqDiff, reduceIte, Nat.reduceAdd, Nat.reduceSub, Nat.reduceLeDiff, Int.reduceToNat, Nat.reduceBEq]
  repeat ((with_reducible apply And.intro); (case left => first | omega | (simp only [List.length_append, List.length_cons, List.length_nil, List.length_drop, List.length_take, List.length_tail, List.length_dropLast, fs_length, ss_length, bs_length, ns_length]; omega)))
  rcases few_cases a b with ⟨f1, f2, hf⟩ | hf
  rotate_left
  · simp only [hf, unVal, Bool.not_false, pElse_k0_w, pElse_k0', go_sem, reduceCtorEq, Nat.reduceEqDiff, reduceIte, Nat.reduceAdd, Nat.reduceSub, Nat.reduceLeDiff, Int.reduceToNat, Nat.reduceBEq]
    repeat ((with_reducible apply And.intro); (case left => first | omega | (simp only [List.length_append, List.length_cons, List.length_nil, List.length_drop, List.length_take, List.length_tail, List.length_dropLast, fs_length, ss_length, bs_length, ns_length]; omega)))
    refine of_call (lives_snd) ?_
    simp only [go_sem, reduceCtorEq, Nat.reduceEqDiff, reduceIte, Nat.reduceAdd, Nat.reduceSub, Nat.reduceLeDiff, Int.reduceToNat, Nat.reduceBEq]
    repeat ((with_reducible apply And.intro); (case left => first | omega | (simp only [List.length_append, List.length_cons, List.length_nil, List.length_drop, List.length_take, List.length_tail, List.length_dropLast, fs_length, ss_length, bs_length, ns_length]; omega)))
    try first | rfl | trace_state
  simp only [hf, unVal, Bool.not_true, go_sem, reduceCtorEq, Nat.reduceEqDiff, reduceIte, Nat.reduceAdd, Nat.reduceSub, Nat.reduceLeDiff, Int.reduceToNat, Nat.reduceBEq]
  by_cases hlo : (20 : Int) < ((o.length : Nat) : Int)
  · simp only [ss_length, igt_t hlo, pElse_k0_w, pElse_k0', go_sem, reduceCtorEq, Nat.reduceEqDiff, reduceIte, Nat.reduceAdd, Nat.reduceSub, Nat.reduceLeDiff, Int.reduceToNat, Nat.reduceBEq]
    repeat ((with_reducible apply And.intro); (case left => first | omega | (simp only [List.length_append, List.length_cons, List.length_nil, List.length_drop, List.length_take, List.length_tail, List.length_dropLast, fs_length, ss_length, bs_length, ns_length]; omega)))
    refine of_call (lives_snd) ?_
    simp only [go_sem, reduceCtorEq, Nat.reduceEqDiff, reduceIte, Nat.reduceAdd, Nat.reduceSub, Nat.reduceLeDiff, Int.reduceToNat, Nat.reduceBEq]
    repeat ((with_reducible apply And.intro); (case left => first | omega | (simp only [List.length_append, List.length_cons, List.length_nil, List.length_drop, List.length_take, List.length_tail, List.length_dropLast, fs_length, ss_length, bs_length, ns_length]; omega)))
    try first | rfl | trace_state
  simp only [ss_length, igt_f hlo, go_sem, reduceCtorEq, Nat.reduceEqDiff, reduceIte, Nat.reduceAdd, Nat.reduceSub, Nat.reduceLeDiff, Int.reduceToNat, Nat.reduceBEq]
  repeat ((with_reducible apply And.intro); (case left => first | omega | (simp only [List.length_append, List.length_cons, List.length_nil, List.length_drop, List.length_take, List.length_tail, List.length_dropLast, fs_length, ss_length, bs_length, ns_length]; omega)))
  refine of_call (r5lines_snd a ha has) ?_
  simp only [go_sem, reduceCtorEq, Nat.reduceEqDiff, reduceIte, Nat.reduceAdd, Nat.reduceSub, Nat.reduceLeDiff, Int.reduceToNat, Nat.reduceBEq]
  repeat ((with_reducible apply And.intro); (case left => first | omega | (simp only [List.length_append, List.length_cons, List.length_nil, List.length_drop, List.length_take, List.length_tail, List.length_dropLast, fs_length, ss_length, bs_length, ns_length]; omega)))
  cases oa : okLines a with
  | false =>
    simp only [unVal, Bool.not_false, pElse_k0_w, pElse_k0', go_sem, reduceCtorEq, Nat.reduceEqDiff, reduceIte, Nat.reduceAdd, Nat.reduceSub, Nat.reduceLeDiff, Int.reduceToNat, Nat.reduceBEq]
    repeat ((with_reducible apply And.intro); (case left => first | omega | (simp only [List.length_append, List.length_cons, List.length_nil, List.length_drop, List.length_take, List.length_tail, List.length_dropLast, fs_length, ss_length, bs_length, ns_length]; omega)))
    refine of_call (lives_snd) ?_
    simp only [go_sem, reduceCtorEq, Nat.reduceEqDiff, reduceIte, Nat.reduceAdd, Nat.reduceSub, Nat.reduceLeDiff, Int.reduceToNat, Nat.reduceBEq]
    repeat ((with_reducible apply And.intro); (case left => first | omega | (simp only [List.length_append, List.length_cons, List.length_nil, List.length_drop, List.length_take, List.length_tail, List.length_dropLast, fs_length, ss_length, bs_length, ns_length]; omega)))
    try first | rfl | trace_state
  | true =>
    simp only [unVal, Bool.not_true, go_sem, reduceCtorEq, Nat.reduceEqDiff, reduceIte, Nat.reduceAdd, Nat.reduceSub, Nat.reduceLeDiff, Int.reduceToNat, Nat.reduceBEq]
    repeat ((with_reducible apply And.intro); (case left => first | omega | (simp only [List.length_append, List.length_cons, List.length_nil, List.length_drop, List.length_take, List.length_tail, List.length_dropLast, fs_length, ss_length, bs_length, ns_length]; omega)))
    refine of_call (r5lines_snd b hb hbs) ?_
    simp only [go_sem, reduceCtorEq, Nat.reduceEqDiff, reduceIte, Nat.reduceAdd, Nat.reduceSub, Nat.reduceLeDiff, Int.reduceToNat, Nat.reduceBEq]
    repeat ((with_reducible apply And.intro); (case left => first | omega | (simp only [List.length_append, List.length_cons, List.length_nil, List.length_drop, List.length_take, List.length_tail, List.length_dropLast, fs_length, ss_length, bs_length, ns_length]; omega)))
    cases ob : okLines b with
    | false =>
      simp only [unVal, Bool.not_false, pElse_k0_w, pElse_k0', go_sem, reduceCtorEq, Nat.reduceEqDiff, reduceIte, Nat.reduceAdd, Nat.reduceSub, Nat.reduceLeDiff, Int.reduceToNat, Nat.reduceBEq]
      repeat ((with_reducible apply And.intro); (case left => first | omega | (simp only [List.length_append, List.length_cons, List.length_nil, List.length_drop, List.length_take, List.length_tail, List.length_dropLast, fs_length, ss_length, bs_length, ns_length]; omega)))
      refine of_call (lives_snd) ?_
      simp only [go_sem, reduceCtorEq, Nat.reduceEqDiff, reduceIte, Nat.reduceAdd, Nat.reduceSub, Nat.reduceLeDiff, Int.reduceToNat, Nat.reduceBEq]
      repeat ((with_reducible apply And.intro); (case left => first | omega | (simp only [List.length_append, List.length_cons, List.length_nil, List.length_drop, List.length_take, List.length_tail, List.length_dropLast, fs_length, ss_length, bs_length, ns_length]; omega)))
      try first | rfl | trace_state
    | true =>
      simp only [unVal, Bool.not_true, go_sem, reduceCtorEq, Nat.reduceEqDiff, reduceIte, Nat.reduceAdd, Nat.reduceSub, Nat.reduceLeDiff, Int.reduceToNat, Nat.reduceBEq]
      repeat ((with_reducible apply And.intro); (case left => first | omega | (simp only [List.length_append, List.length_cons, List.length_nil, List.length_drop, List.length_take, List.length_tail, List.length_dropLast, fs_length, ss_length, bs_length, ns_length]; omega)))
      refine of_call (unlike_snd a b o ha hb ho) ?_
      simp only [go_sem, reduceCtorEq, Nat.reduceEqDiff, reduceIte, Nat.reduceAdd, Nat.reduceSub, Nat.reduceLeDiff, Int.reduceToNat, Nat.reduceBEq]
      repeat ((with_reducible apply And.intro); (case left => first | omega | (simp only [List.length_append, List.length_cons, List.length_nil, List.length_drop, List.length_take, List.length_tail, List.length_dropLast, fs_length, ss_length, bs_length, ns_length]; omega)))
      rcases unlike_not (a := a) (b := b) (o := o) with hu | ⟨hu, u1, u2, u3⟩
      · simp only [hu, unVal, Bool.not_false, pElse_k0_w, pElse_k0', go_sem, reduceCtorEq, Nat.reduceEqDiff, reduceIte, Nat.reduceAdd, Nat.reduceSub, Nat.reduceLeDiff, Int.reduceToNat, Nat.reduceBEq]
        repeat ((with_reducible apply And.intro); (case left => first | omega | (simp only [List.length_append, List.length_cons, List.length_nil, List.length_drop, List.length_take, List.length_tail, List.length_dropLast, fs_length, ss_length, bs_length, ns_length]; omega)))
        refine of_call (lives_snd) ?_
        simp only [go_sem, reduceCtorEq, Nat.reduceEqDiff, reduceIte, Nat.reduceAdd, Nat.reduceSub, Nat.reduceLeDiff, Int.reduceToNat, Nat.reduceBEq]
        repeat ((with_reducible apply And.intro); (case left => first | omega | (simp only [List.length_append, List.length_cons, List.length_nil, List.length_drop, List.length_take, List.length_tail, List.length_dropLast, fs_length, ss_length, bs_length, ns_length]; omega)))
        try first | rfl | trace_state
      simp only [hu, unVal, Bool.not_true, pElse_k0_w, pElse_k0', pElse_k4_w, pElse_k4', go_sem, reduceCtorEq, Nat.reduceEqDiff, reduceIte, Nat.reduceAdd, Nat.reduceSub, Nat.reduceLeDiff, Int.reduceToNat, Nat.reduceBEq]
      have h3 := fun hh => else_pure (n := 1) f1 f2 (linesOk_of oa) (linesOk_of ob) u1 u2 hh
      obtain ⟨hok, hln, hlen⟩ := ofF_ok (l := least a b) (n := 1) f1 f2 has hbs
      have hsl := least_len a b
      repeat ((with_reducible apply And.intro); (case left => first | omega | (simp only [List.length_append, List.length_cons, List.length_nil, List.length_drop, List.length_take, List.length_tail, List.length_dropLast, fs_length, ss_length, bs_length, ns_length]; omega)))
      refine of_call (pleast_snd a b (by omega) (by omega)) ?_
      simp only [go_sem, reduceCtorEq, Nat.reduceEqDiff, reduceIte, Nat.reduceAdd, Nat.reduceSub, Nat.reduceLeDiff, Int.reduceToNat, Nat.reduceBEq]
      repeat ((with_reducible apply And.intro); (case left => first | omega | (simp only [List.length_append, List.length_cons, List.length_nil, List.length_drop, List.length_take, List.length_tail, List.length_dropLast, fs_length, ss_length, bs_length, ns_length]; omega)))
      generalize least a b = s at h3 hok hln hlen hsl
      repeat ((with_reducible apply And.intro); (case left => first | omega | (simp only [List.length_append, List.length_cons, List.length_nil, List.length_drop, List.length_take, List.length_tail, List.length_dropLast, fs_length, ss_length, bs_length, ns_length]; omega)))
      refine of_call (pof_snd a b s 1 ha hb (by omega)) ?_
      simp only [go_sem, reduceCtorEq, Nat.reduceEqDiff, reduceIte, Nat.reduceAdd, Nat.reduceSub, Nat.reduceLeDiff, Int.reduceToNat, Nat.reduceBEq]
      repeat ((with_reducible apply And.intro); (case left => first | omega | (simp only [List.length_append, List.length_cons, List.length_nil, List.length_drop, List.length_take, List.length_tail, List.length_dropLast, fs_length, ss_length, bs_length, ns_length]; omega)))
      generalize ofF a b s 1 = r at h3 hok hln hlen
      repeat ((with_reducible apply And.intro); (case left => first | omega | (simp only [List.length_append, List.length_cons, List.length_nil, List.length_drop, List.length_take, List.length_tail, List.length_dropLast, fs_length, ss_length, bs_length, ns_length]; omega)))
      refine of_call (held_snd r hok) ?_
      simp only [go_sem, reduceCtorEq, Nat.reduceEqDiff, reduceIte, Nat.reduceAdd, Nat.reduceSub, Nat.reduceLeDiff, Int.reduceToNat, Nat.reduceBEq]
      repeat ((with_reducible apply And.intro); (case left => first | omega | (simp only [List.length_append, List.length_cons, List.length_nil, List.length_drop, List.length_take, List.length_tail, List.length_dropLast, fs_length, ss_length, bs_length, ns_length]; omega)))
      cases hh : heldB r with
      | false =>
        simp only [unVal, Bool.not_false, go_sem, reduceCtorEq, Nat.reduceEqDiff, reduceIte, Nat.reduceAdd, Nat.reduceSub, Nat.reduceLeDiff, Int.reduceToNat, Nat.reduceBEq]
        repeat ((with_reducible apply And.intro); (case left => first | omega | (simp only [List.length_append, List.length_cons, List.length_nil, List.length_drop, List.length_take, List.length_tail, List.length_dropLast, fs_length, ss_length, bs_length, ns_length]; omega)))
        refine of_call (lives_snd) ?_
        simp only [go_sem, reduceCtorEq, Nat.reduceEqDiff, reduceIte, Nat.reduceAdd, Nat.reduceSub, Nat.reduceLeDiff, Int.reduceToNat, Nat.reduceBEq]
        repeat ((with_reducible apply And.intro); (case left => first | omega | (simp only [List.length_append, List.length_cons, List.length_nil, List.length_drop, List.length_take, List.length_tail, List.length_dropLast, fs_length, ss_length, bs_length, ns_length]; omega)))
        try first | rfl | trace_state
      | true =>
        simp only [unVal, Bool.not_true, pElse_k3_w, pElse_k3', go_sem, reduceCtorEq, Nat.reduceEqDiff, reduceIte, Nat.reduceAdd, Nat.reduceSub, Nat.reduceLeDiff, Int.reduceToNat, Nat.reduceBEq]
        have h3 := h3 hh
        have hjl : (o ++ a).length ≤ 1048576 := by rw [List.length_append]; omega
        have hjl2 : (o ++ b).length ≤ 1048576 := by rw [List.length_append]; omega
        have hnl : (ns (List.replicate r.length ((o.length : Nat) : Int))).length = r.length := by simp [ns]
        repeat ((with_reducible apply And.intro); (case left => first | omega | (simp only [List.length_append, List.length_cons, List.length_nil, List.length_drop, List.length_take, List.length_tail, List.length_dropLast, fs_length, ss_length, bs_length, ns_length]; omega)))
        refine of_call (ljoin_snd o a ho ha) ?_
        simp only [go_sem, reduceCtorEq, Nat.reduceEqDiff, reduceIte, Nat.reduceAdd, Nat.reduceSub, Nat.reduceLeDiff, Int.reduceToNat, Nat.reduceBEq]
        repeat ((with_reducible apply And.intro); (case left => first | omega | (simp only [List.length_append, List.length_cons, List.length_nil, List.length_drop, List.length_take, List.length_tail, List.length_dropLast, fs_length, ss_length, bs_length, ns_length]; omega)))
        repeat ((with_reducible apply And.intro); (case left => first | omega | (simp only [List.length_append, List.length_cons, List.length_nil, List.length_drop, List.length_take, List.length_tail, List.length_dropLast, fs_length, ss_length, bs_length, ns_length]; omega)))
        refine of_call (papply_snd (o ++ a) r hjl hok) ?_
        simp only [go_sem, reduceCtorEq, Nat.reduceEqDiff, reduceIte, Nat.reduceAdd, Nat.reduceSub, Nat.reduceLeDiff, Int.reduceToNat, Nat.reduceBEq]
        repeat ((with_reducible apply And.intro); (case left => first | omega | (simp only [List.length_append, List.length_cons, List.length_nil, List.length_drop, List.length_take, List.length_tail, List.length_dropLast, fs_length, ss_length, bs_length, ns_length]; omega)))
        rw [h3]
        simp only [pElse_k2_w, pElse_k2', go_sem, reduceCtorEq, Nat.reduceEqDiff, reduceIte, Nat.reduceAdd, Nat.reduceSub, Nat.reduceLeDiff, Int.reduceToNat, Nat.reduceBEq]
        repeat ((with_reducible apply And.intro); (case left => first | omega | (simp only [List.length_append, List.length_cons, List.length_nil, List.length_drop, List.length_take, List.length_tail, List.length_dropLast, fs_length, ss_length, bs_length, ns_length]; omega)))
        refine of_call (ljoin_snd o b ho hb) ?_
        simp only [go_sem, reduceCtorEq, Nat.reduceEqDiff, reduceIte, Nat.reduceAdd, Nat.reduceSub, Nat.reduceLeDiff, Int.reduceToNat, Nat.reduceBEq]
        repeat ((with_reducible apply And.intro); (case left => first | omega | (simp only [List.length_append, List.length_cons, List.length_nil, List.length_drop, List.length_take, List.length_tail, List.length_dropLast, fs_length, ss_length, bs_length, ns_length]; omega)))
        repeat ((with_reducible apply And.intro); (case left => first | omega | (simp only [List.length_append, List.length_cons, List.length_nil, List.length_drop, List.length_take, List.length_tail, List.length_dropLast, fs_length, ss_length, bs_length, ns_length]; omega)))
        refine of_call (same05_snd (o ++ b) (o ++ b) (by omega) (by omega)) ?_
        simp only [go_sem, reduceCtorEq, Nat.reduceEqDiff, reduceIte, Nat.reduceAdd, Nat.reduceSub, Nat.reduceLeDiff, Int.reduceToNat, Nat.reduceBEq]
        repeat ((with_reducible apply And.intro); (case left => first | omega | (simp only [List.length_append, List.length_cons, List.length_nil, List.length_drop, List.length_take, List.length_tail, List.length_dropLast, fs_length, ss_length, bs_length, ns_length]; omega)))
        try simp only [hnl, go_sem, reduceCtorEq, Nat.reduceEqDiff, reduceIte, Nat.reduceAdd, Nat.reduceSub, Nat.reduceLeDiff, Int.reduceToNat, Nat.reduceBEq]
        repeat ((with_reducible apply And.intro); (case left => first | omega | (simp only [List.length_append, List.length_cons, List.length_nil, List.length_drop, List.length_take, List.length_tail, List.length_dropLast, fs_length, ss_length, bs_length, ns_length]; omega)))
        refine of_call (noughts_snd r.length ((o.length : Nat) : Int) (by omega)) ?_
        simp only [go_sem, reduceCtorEq, Nat.reduceEqDiff, reduceIte, Nat.reduceAdd, Nat.reduceSub, Nat.reduceLeDiff, Int.reduceToNat, Nat.reduceBEq]
        repeat ((with_reducible apply And.intro); (case left => first | omega | (simp only [List.length_append, List.length_cons, List.length_nil, List.length_drop, List.length_take, List.length_tail, List.length_dropLast, fs_length, ss_length, bs_length, ns_length]; omega)))
        repeat ((with_reducible apply And.intro); (case left => first | omega | (simp only [List.length_append, List.length_cons, List.length_nil, List.length_drop, List.length_take, List.length_tail, List.length_dropLast, fs_length, ss_length, bs_length, ns_length]; omega)))
        refine of_call (lives_snd) ?_
        simp only [go_sem, reduceCtorEq, Nat.reduceEqDiff, reduceIte, Nat.reduceAdd, Nat.reduceSub, Nat.reduceLeDiff, Int.reduceToNat, Nat.reduceBEq]
        repeat ((with_reducible apply And.intro); (case left => first | omega | (simp only [List.length_append, List.length_cons, List.length_nil, List.length_drop, List.length_take, List.length_tail, List.length_dropLast, fs_length, ss_length, bs_length, ns_length]; omega)))
        try simp only [pElse_k1_w, pElse_k1', go_sem, reduceCtorEq, Nat.reduceEqDiff, reduceIte, Nat.reduceAdd, Nat.reduceSub, Nat.reduceLeDiff, Int.reduceToNat, Nat.reduceBEq]
        first | rfl | trace_state
end Go.Hk

