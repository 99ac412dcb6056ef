import Derived.Test.YtfkggoohajdabaaDoorWD
import Derived.Test.YtfkggoohajdabaaDoorWB
import Derived.Test.YtfkggoohajdabaaDoorPA
set_option linter.unusedVariables false
set_option linter.unusedSimpArgs false
/- Hunks: the reference's hunk of a group of edits. -/
namespace Go.Hk
open Go Go.Ev Go.Proofs
set_option linter.unusedVariables false
set_option linter.unusedSimpArgs false
set_option maxHeartbeats 4000000
attribute [local go_sem] eqs implies_true List.map_cons List.map_nil kl klL roD roL Option.map_some Option.map_none Option.getD_some Option.getD_none binVal binObl unVal if_true if_false eq_self passA frnD resD content getH getR getW viaNot viaSlot viaBox viaDeep viaMem List.contains_cons List.contains_nil grabs peeks okCells isCell place cellsOf chunk elt List.headD_cons List.length_cons List.length_nil List.take_succ_cons List.take_zero List.drop_succ_cons List.drop_zero List.nil_append List.cons_append List.append_nil List.all_cons List.all_nil plainC takeR setW over reCell List.getElem?_cons_zero List.getElem?_cons_succ List.set_cons_zero List.take_length outV resG plainV pack outVG outBx List.set_cons_succ Ref.idx Ref.addOff beq_self_eq_true bxL Option.bind_some writeR isLit viaBoxes capsPA boxPA nsOf noDup boxesAt argG passG passD rhoIn rhoOut idxIn tr trL List.getD_cons_zero gives pasOf isPtr Ins.d List.getD_cons_succ resL frnL partB_f partB_t partB_p partB_s St.setP mixR v_slcT List.getLast?_nil List.getLast?_singleton List.dropLast_singleton List.nil_append frnL_fs roL_fs resL_fs passL_fs klL_fs trL_fs map_roD_fs fs_length hS_length frnL_hS roL_hS_own roL_hS_frn roL_hS_ro resL_hS_own resL_hS_ro klL_hS klL_hS_own klL_hS_frn passL_hS_own passL_hS_frn trL_hS_own trL_hS_frn
variable {m : Int × Bool}
def radd_k0' : AC := .seq (.block 1 (.reg (.seq [⟨some (14, false), none, .mov (.tmp 0 true) .take⟩,⟨some (15, false), none, .mov (.tmp 1 true) .take⟩,⟨some (16, false), none, .mov (.tmp 2 true) .peek⟩,⟨some (17, false), none, .mov (.tmp 7 true) .peek⟩,⟨some (18, false), none, .iad (.tmp 16 false) (.tmp 17 false) 1⟩,⟨some (19, false), none, .load (.tmp 18 false) 1 false true⟩,⟨some (20, false), none, .build [(.lit (.int .i64 0)), (.lit (.string (str [])))] [(0, 1, (.tmp 15 false)), (1, 1, (.tmp 19 false))]⟩,⟨some (21, false), none, .buildS 2 1 [(.lit (.int .i64 0)), (.lit (.string (str [])))] [(0, 2, (.tmp 20 false))]⟩,⟨some (22, false), none, .app 2 24 (.tmp 14 false) (.tmp 21 false)⟩,⟨some (0, true), none, .mov (.tmp 22 false) .asg⟩]))) [0, 1, 2, 7] [10000, 10001, 10002]
  (.reg (.seq [⟨some (12, false), none, .mov (.tmp 7 true) .peek⟩,⟨some (13, false), none, .bin .add (.tmp 12 false) (.cst (.int .i64 1) (.lit (.int .i64 1)))⟩,⟨some (7, true), none, .mov (.tmp 13 false) .asg⟩]))
def radd_k0 : AC := radd_k0'
theorem radd_k0_w (C : Kn) (K : Ex → St → Prop) (s : St) : vcC C radd_k0 K s = vcC C radd_k0' K s := nr rfl
def radd_l1' : AC := .seq (.seq (.reg (.seq [⟨some (8, false), none, .mov (.tmp 7 true) .peek⟩,⟨some (9, false), none, .mov (.tmp 2 true) .peek⟩,⟨some (10, false), none, .lenL (.tmp 9 false)⟩,⟨some (11, false), none, .bin .lss (.tmp 8 false) (.tmp 10 false)⟩])) [0, 1, 2, 7, 11] [10000, 10001, 10002]
  (.cond (.tmp 11 false)
    (.skip)
    (.exit 0))) [0, 1, 2, 7] [10000, 10001, 10002] radd_k0
def radd_l1 : AC := radd_l1'
theorem radd_l1_w (C : Kn) (K : Ex → St → Prop) (s : St) : vcC C radd_l1 K s = vcC C radd_l1' K s := nr rfl
def radd_k2' : AC := .seq (.reg (.seq [⟨some (23, false), none, .mov (.tmp 0 true) .take⟩,⟨some (6, true), none, .mov (.tmp 23 false) .asg⟩])) [0, 6] [10000, 10001, 10002]
  (.ret)
def radd_k2 : AC := radd_k2'
theorem radd_k2_w (C : Kn) (K : Ex → St → Prop) (s : St) : vcC C radd_k2 K s = vcC C radd_k2' K s := nr rfl
def radd : AF := ⟨.seq (.reg (.seq [⟨some (6, true), none, .mov (.cst (.slice none 0 0) (.sl .own 2 [])) .asg⟩])) [0, 1, 2] [10000, 10001, 10002]
  (.seq (.seq (.reg (.seq [⟨some (7, true), none, .mov (.cst (.int .i64 0) (.lit (.int .i64 0))) .asg⟩])) [0, 1, 2, 7] [10000, 10001, 10002]
  (.block 0 (.loop [0, 1, 2, 7] [10000, 10001, 10002] radd_l1))) [0] [10000, 10001, 10002] radd_k2),
  [.tmp 6]⟩
theorem radd_comp (m : Int × Bool) : compF Tryd.prog (gl m) [10000, 10001, 10002] Tryd.f70 = some radd := by kernel_rfl
def rone_k0' : AC := .reg (.draw [⟨some (97, false), none, .mov (.tmp 2 true) .peek⟩,⟨some (98, false), none, .mov (.tmp 15 true) .peek⟩,⟨some (99, false), none, .iad (.tmp 97 false) (.tmp 98 false) 4⟩,⟨some (100, false), none, .fad (.tmp 99 false) 0⟩,⟨some (101, false), none, .load (.tmp 100 false) 1 false false⟩,⟨some (102, false), none, .mov (.tmp 2 true) .peek⟩,⟨some (103, false), none, .mov (.tmp 15 true) .peek⟩,⟨some (104, false), none, .iad (.tmp 102 false) (.tmp 103 false) 4⟩,⟨some (105, false), none, .fad (.tmp 104 false) 1⟩,⟨some (106, false), none, .load (.tmp 105 false) 1 false false⟩,⟨some (107, false), none, .bin .add (.tmp 101 false) (.tmp 106 false)⟩] (.alt ⟨some (14, true), none, .mov (.tmp 107 false) .asg⟩ []
      .done .no))
def rone_k0 : AC := rone_k0'
theorem rone_k0_w (C : Kn) (K : Ex → St → Prop) (s : St) : vcC C rone_k0 K s = vcC C rone_k0' K s := nr rfl
def rone_k1' : AC := .seq (.reg (.draw [⟨some (77, false), none, .mov (.tmp 13 true) .peek⟩,⟨some (78, false), none, .mov (.tmp 1 true) .peek⟩,⟨some (79, false), none, .mov (.tmp 2 true) .peek⟩,⟨some (80, false), none, .mov (.tmp 15 true) .peek⟩,⟨some (81, false), none, .iad (.tmp 79 false) (.tmp 80 false) 4⟩,⟨some (82, false), none, .fad (.tmp 81 false) 2⟩,⟨some (83, false), none, .load (.tmp 82 false) 1 false false⟩,⟨some (84, false), none, .mov (.tmp 2 true) .peek⟩,⟨some (85, false), none, .mov (.tmp 15 true) .peek⟩,⟨some (86, false), none, .iad (.tmp 84 false) (.tmp 85 false) 4⟩,⟨some (87, false), none, .fad (.tmp 86 false) 2⟩,⟨some (88, false), none, .load (.tmp 87 false) 1 false false⟩,⟨some (89, false), none, .mov (.tmp 2 true) .peek⟩,⟨some (90, false), none, .mov (.tmp 15 true) .peek⟩,⟨some (91, false), none, .iad (.tmp 89 false) (.tmp 90 false) 4⟩,⟨some (92, false), none, .fad (.tmp 91 false) 3⟩,⟨some (93, false), none, .load (.tmp 92 false) 1 false false⟩,⟨some (94, false), none, .bin .add (.tmp 88 false) (.tmp 93 false)⟩,⟨some (95, false), none, .slc 1 (.tmp 78 false) (some (.tmp 83 false)) (some (.tmp 94 false))⟩] (.alt ⟨some (96, false), none, .callG 70 [((.tmp 77 false), .give), ((.cst (.int .i64 3) (.lit (.int .i64 3))), .pass), ((.tmp 95 false), .pass)]⟩ []
      (.alt ⟨some (13, true), none, .mov (.tmp 96 false) .asg⟩ []
      .done .no) .no))) [0, 1, 2, 3, 8, 10, 12, 13, 15] [8, 10, 12] rone_k0
def rone_k1 : AC := rone_k1'
theorem rone_k1_w (C : Kn) (K : Ex → St → Prop) (s : St) : vcC C rone_k1 K s = vcC C rone_k1' K s := nr rfl
def rone_k2' : AC := .seq (.block 1 (.seq (.reg (.seq [⟨some (47, false), none, .mov (.tmp 13 true) .peek⟩,⟨some (48, false), none, .mov (.tmp 0 true) .peek⟩,⟨some (49, false), none, .mov (.tmp 14 true) .peek⟩,⟨some (50, false), none, .mov (.tmp 2 true) .peek⟩,⟨some (51, false), none, .mov (.tmp 15 true) .peek⟩,⟨some (52, false), none, .iad (.tmp 50 false) (.tmp 51 false) 4⟩,⟨some (53, false), none, .fad (.tmp 52 false) 0⟩,⟨some (54, false), none, .load (.tmp 53 false) 1 false false⟩,⟨some (55, false), none, .slc 1 (.tmp 48 false) (some (.tmp 49 false)) (some (.tmp 54 false))⟩,⟨some (56, false), none, .callG 70 [((.tmp 47 false), .give), ((.cst (.int .i64 1) (.lit (.int .i64 1))), .pass), ((.tmp 55 false), .pass)]⟩,⟨some (13, true), none, .mov (.tmp 56 false) .asg⟩])) [0, 1, 2, 3, 8, 10, 12, 13, 15] [8, 10, 12]
    (.seq (.reg (.draw [⟨some (57, false), none, .mov (.tmp 13 true) .peek⟩,⟨some (58, false), none, .mov (.tmp 0 true) .peek⟩,⟨some (59, false), none, .mov (.tmp 2 true) .peek⟩,⟨some (60, false), none, .mov (.tmp 15 true) .peek⟩,⟨some (61, false), none, .iad (.tmp 59 false) (.tmp 60 false) 4⟩,⟨some (62, false), none, .fad (.tmp 61 false) 0⟩,⟨some (63, false), none, .load (.tmp 62 false) 1 false false⟩,⟨some (64, false), none, .mov (.tmp 2 true) .peek⟩,⟨some (65, false), none, .mov (.tmp 15 true) .peek⟩,⟨some (66, false), none, .iad (.tmp 64 false) (.tmp 65 false) 4⟩,⟨some (67, false), none, .fad (.tmp 66 false) 0⟩,⟨some (68, false), none, .load (.tmp 67 false) 1 false false⟩,⟨some (69, false), none, .mov (.tmp 2 true) .peek⟩,⟨some (70, false), none, .mov (.tmp 15 true) .peek⟩,⟨some (71, false), none, .iad (.tmp 69 false) (.tmp 70 false) 4⟩,⟨some (72, false), none, .fad (.tmp 71 false) 1⟩,⟨some (73, false), none, .load (.tmp 72 false) 1 false false⟩,⟨some (74, false), none, .bin .add (.tmp 68 false) (.tmp 73 false)⟩,⟨some (75, false), none, .slc 1 (.tmp 58 false) (some (.tmp 63 false)) (some (.tmp 74 false))⟩] (.alt ⟨some (76, false), none, .callG 70 [((.tmp 57 false), .give), ((.cst (.int .i64 2) (.lit (.int .i64 2))), .pass), ((.tmp 75 false), .pass)]⟩ []
      (.alt ⟨some (13, true), none, .mov (.tmp 76 false) .asg⟩ []
      .done .no) .no))) [0, 1, 2, 3, 8, 10, 12, 13, 15] [8, 10, 12] rone_k1))) [0, 1, 2, 3, 8, 10, 12, 13, 14, 15] [8, 10, 12]
  (.reg (.seq [⟨some (45, false), none, .mov (.tmp 15 true) .peek⟩,⟨some (46, false), none, .bin .add (.tmp 45 false) (.cst (.int .i64 1) (.lit (.int .i64 1)))⟩,⟨some (15, true), none, .mov (.tmp 46 false) .asg⟩]))
def rone_k2 : AC := rone_k2'
theorem rone_k2_w (C : Kn) (K : Ex → St → Prop) (s : St) : vcC C rone_k2 K s = vcC C rone_k2' K s := nr rfl
def rone_l3' : AC := .seq (.seq (.reg (.seq [⟨some (41, false), none, .mov (.tmp 15 true) .peek⟩,⟨some (42, false), none, .mov (.tmp 2 true) .peek⟩,⟨some (43, false), none, .lenL (.tmp 42 false)⟩,⟨some (44, false), none, .bin .lss (.tmp 41 false) (.tmp 43 false)⟩])) [0, 1, 2, 3, 8, 10, 12, 13, 14, 15, 44] [8, 10, 12]
  (.cond (.tmp 44 false)
    (.skip)
    (.exit 0))) [0, 1, 2, 3, 8, 10, 12, 13, 14, 15] [8, 10, 12] rone_k2
def rone_l3 : AC := rone_l3'
theorem rone_l3_w (C : Kn) (K : Ex → St → Prop) (s : St) : vcC C rone_l3 K s = vcC C rone_l3' K s := nr rfl
def rone_k4' : AC := .seq (.reg (.seq [⟨some (108, false), none, .mov (.tmp 0 true) .peek⟩,⟨some (109, false), none, .lenL (.tmp 108 false)⟩,⟨some (110, false), none, .fad (.tmp 10 true) 0⟩,⟨some (111, false), none, .load (.tmp 110 false) 1 false false⟩,⟨some (112, false), none, .fad (.tmp 10 true) 1⟩,⟨some (113, false), none, .load (.tmp 112 false) 1 false false⟩,⟨some (114, false), none, .bin .add (.tmp 111 false) (.tmp 113 false)⟩,⟨some (115, false), none, .mov (.tmp 3 true) .peek⟩,⟨some (116, false), none, .bin .add (.tmp 114 false) (.tmp 115 false)⟩,⟨some (117, false), none, .mx false (.tmp 109 false) (.tmp 116 false)⟩,⟨some (16, true), none, .mov (.tmp 117 false) .asg⟩])) [0, 8, 12, 13, 14, 16] [8, 12]
  (.seq (.reg (.seq [⟨some (118, false), none, .mov (.tmp 13 true) .peek⟩,⟨some (119, false), none, .mov (.tmp 0 true) .peek⟩,⟨some (120, false), none, .mov (.tmp 14 true) .peek⟩,⟨some (121, false), none, .mov (.tmp 16 true) .peek⟩,⟨some (122, false), none, .slc 1 (.tmp 119 false) (some (.tmp 120 false)) (some (.tmp 121 false))⟩,⟨some (123, false), none, .callG 70 [((.tmp 118 false), .give), ((.cst (.int .i64 1) (.lit (.int .i64 1))), .pass), ((.tmp 122 false), .pass)]⟩,⟨some (124, false), none, .fad (.tmp 12 true) 2⟩,⟨none, none, .store (.tmp 124 false) (.tmp 123 false) 1⟩])) [8, 12] [8, 12]
  (.seq (.reg (.seq [⟨some (125, false), none, .load (.tmp 12 true) 3 true true⟩,⟨none, none, .store (.tmp 8 true) (.tmp 125 false) 3⟩])) [8] [8]
  (.ret)))
def rone_k4 : AC := rone_k4'
theorem rone_k4_w (C : Kn) (K : Ex → St → Prop) (s : St) : vcC C rone_k4 K s = vcC C rone_k4' K s := nr rfl
def rone_k5' : AC := .seq (.reg (.seq [⟨some (26, false), none, .mov (.tmp 3 true) .peek⟩,⟨some (27, false), none, .fad (.tmp 9 true) 0⟩,⟨some (28, false), none, .load (.tmp 27 false) 1 false false⟩,⟨some (29, false), none, .mx false (.tmp 26 false) (.tmp 28 false)⟩,⟨some (11, true), none, .mov (.tmp 29 false) .asg⟩])) [0, 1, 2, 3, 8, 9, 10, 11] [8, 9, 10]
  (.seq (.reg (.seq [⟨some (30, false), none, .fad (.tmp 9 true) 0⟩,⟨some (31, false), none, .load (.tmp 30 false) 1 false false⟩,⟨some (32, false), none, .mov (.tmp 11 true) .peek⟩,⟨some (33, false), none, .bin .sub (.tmp 31 false) (.tmp 32 false)⟩,⟨some (34, false), none, .fad (.tmp 9 true) 2⟩,⟨some (35, false), none, .load (.tmp 34 false) 1 false false⟩,⟨some (36, false), none, .mov (.tmp 11 true) .peek⟩,⟨some (37, false), none, .bin .sub (.tmp 35 false) (.tmp 36 false)⟩,⟨some (38, false), none, .build [(.lit (.int .i64 0)), (.lit (.int .i64 0)), (.sl .own 2 [])] [(0, 1, (.tmp 33 false)), (1, 1, (.tmp 37 false))]⟩,⟨some (12, true), none, .new [(.lit (.int .i64 0)), (.lit (.int .i64 0)), (.sl .own 2 [])]⟩,⟨none, none, .store (.tmp 12 true) (.tmp 38 false) 3⟩])) [0, 1, 2, 3, 8, 10, 12] [8, 10, 12]
  (.seq (.reg (.seq [⟨some (13, true), none, .mov (.cst (.slice none 0 0) (.sl .own 2 [])) .asg⟩])) [0, 1, 2, 3, 8, 10, 12, 13] [8, 10, 12]
  (.seq (.reg (.seq [⟨some (39, false), none, .fad (.tmp 12 true) 0⟩,⟨some (40, false), none, .load (.tmp 39 false) 1 false false⟩,⟨some (14, true), none, .mov (.tmp 40 false) .asg⟩])) [0, 1, 2, 3, 8, 10, 12, 13, 14] [8, 10, 12]
  (.seq (.seq (.reg (.seq [⟨some (15, true), none, .mov (.cst (.int .i64 0) (.lit (.int .i64 0))) .asg⟩])) [0, 1, 2, 3, 8, 10, 12, 13, 14, 15] [8, 10, 12]
  (.block 0 (.loop [0, 1, 2, 3, 8, 10, 12, 13, 14, 15] [8, 10, 12] rone_l3))) [0, 3, 8, 10, 12, 13, 14] [8, 10, 12] rone_k4))))
def rone_k5 : AC := rone_k5'
theorem rone_k5_w (C : Kn) (K : Ex → St → Prop) (s : St) : vcC C rone_k5 K s = vcC C rone_k5' K s := nr rfl
def rone : AF := ⟨.seq (.reg (.seq [⟨some (8, true), none, .new [(.lit (.int .i64 0)), (.lit (.int .i64 0)), (.sl .own 2 [])]⟩])) [0, 1, 2, 3, 8] [8]
  (.seq (.reg (.draw [⟨some (17, false), none, .mov (.tmp 2 true) .peek⟩,⟨some (18, false), none, .iad (.tmp 17 false) (.cst (.int .i64 0) (.lit (.int .i64 0))) 4⟩,⟨some (19, false), none, .load (.tmp 18 false) 4 true false⟩,⟨some (20, false), none, .mov (.tmp 2 true) .peek⟩,⟨some (21, false), none, .mov (.tmp 2 true) .peek⟩,⟨some (22, false), none, .lenL (.tmp 21 false)⟩,⟨some (23, false), none, .bin .sub (.tmp 22 false) (.cst (.int .i64 1) (.lit (.int .i64 1)))⟩,⟨some (24, false), none, .iad (.tmp 20 false) (.tmp 23 false) 4⟩,⟨some (25, false), none, .load (.tmp 24 false) 4 true false⟩] (.alt ⟨some (9, true), none, .new [(.lit (.int .i64 0)), (.lit (.int .i64 0)), (.lit (.int .i64 0)), (.lit (.int .i64 0))]⟩ [⟨some (17, false), none, .mov (.tmp 2 true) .peek⟩,⟨some (18, false), none, .iad (.tmp 17 false) (.cst (.int .i64 0) (.lit (.int .i64 0))) 4⟩,⟨some (19, false), none, .load (.tmp 18 false) 4 true false⟩,⟨some (20, false), none, .mov (.tmp 2 true) .peek⟩,⟨some (21, false), none, .mov (.tmp 2 true) .peek⟩,⟨some (22, false), none, .lenL (.tmp 21 false)⟩,⟨some (23, false), none, .bin .sub (.tmp 22 false) (.cst (.int .i64 1) (.lit (.int .i64 1)))⟩,⟨some (24, false), none, .iad (.tmp 20 false) (.tmp 23 false) 4⟩,⟨some (25, false), none, .load (.tmp 24 false) 4 true false⟩]
      (.alt ⟨some (10, true), none, .new [(.lit (.int .i64 0)), (.lit (.int .i64 0)), (.lit (.int .i64 0)), (.lit (.int .i64 0))]⟩ [⟨some (17, false), none, .mov (.tmp 2 true) .peek⟩,⟨some (18, false), none, .iad (.tmp 17 false) (.cst (.int .i64 0) (.lit (.int .i64 0))) 4⟩,⟨some (19, false), none, .load (.tmp 18 false) 4 true false⟩,⟨some (20, false), none, .mov (.tmp 2 true) .peek⟩,⟨some (21, false), none, .mov (.tmp 2 true) .peek⟩,⟨some (22, false), none, .lenL (.tmp 21 false)⟩,⟨some (23, false), none, .bin .sub (.tmp 22 false) (.cst (.int .i64 1) (.lit (.int .i64 1)))⟩,⟨some (24, false), none, .iad (.tmp 20 false) (.tmp 23 false) 4⟩,⟨some (25, false), none, .load (.tmp 24 false) 4 true false⟩]
      (.alt ⟨none, none, .store (.tmp 9 true) (.tmp 19 false) 4⟩ [⟨some (20, false), none, .mov (.tmp 2 true) .peek⟩,⟨some (21, false), none, .mov (.tmp 2 true) .peek⟩,⟨some (22, false), none, .lenL (.tmp 21 false)⟩,⟨some (23, false), none, .bin .sub (.tmp 22 false) (.cst (.int .i64 1) (.lit (.int .i64 1)))⟩,⟨some (24, false), none, .iad (.tmp 20 false) (.tmp 23 false) 4⟩,⟨some (25, false), none, .load (.tmp 24 false) 4 true false⟩]
      (.alt ⟨none, none, .store (.tmp 10 true) (.tmp 25 false) 4⟩ []
      .done .no) .no) .no) (.alt ⟨some (10, true), none, .new [(.lit (.int .i64 0)), (.lit (.int .i64 0)), (.lit (.int .i64 0)), (.lit (.int .i64 0))]⟩ [⟨some (17, false), none, .mov (.tmp 2 true) .peek⟩,⟨some (18, false), none, .iad (.tmp 17 false) (.cst (.int .i64 0) (.lit (.int .i64 0))) 4⟩,⟨some (19, false), none, .load (.tmp 18 false) 4 true false⟩,⟨some (20, false), none, .mov (.tmp 2 true) .peek⟩,⟨some (21, false), none, .mov (.tmp 2 true) .peek⟩,⟨some (22, false), none, .lenL (.tmp 21 false)⟩,⟨some (23, false), none, .bin .sub (.tmp 22 false) (.cst (.int .i64 1) (.lit (.int .i64 1)))⟩,⟨some (24, false), none, .iad (.tmp 20 false) (.tmp 23 false) 4⟩,⟨some (25, false), none, .load (.tmp 24 false) 4 true false⟩]
      (.alt ⟨some (9, true), none, .new [(.lit (.int .i64 0)), (.lit (.int .i64 0)), (.lit (.int .i64 0)), (.lit (.int .i64 0))]⟩ [⟨some (17, false), none, .mov (.tmp 2 true) .peek⟩,⟨some (18, false), none, .iad (.tmp 17 false) (.cst (.int .i64 0) (.lit (.int .i64 0))) 4⟩,⟨some (19, false), none, .load (.tmp 18 false) 4 true false⟩,⟨some (20, false), none, .mov (.tmp 2 true) .peek⟩,⟨some (21, false), none, .mov (.tmp 2 true) .peek⟩,⟨some (22, false), none, .lenL (.tmp 21 false)⟩,⟨some (23, false), none, .bin .sub (.tmp 22 false) (.cst (.int .i64 1) (.lit (.int .i64 1)))⟩,⟨some (24, false), none, .iad (.tmp 20 false) (.tmp 23 false) 4⟩,⟨some (25, false), none, .load (.tmp 24 false) 4 true false⟩]
      (.alt ⟨none, none, .store (.tmp 9 true) (.tmp 19 false) 4⟩ [⟨some (20, false), none, .mov (.tmp 2 true) .peek⟩,⟨some (21, false), none, .mov (.tmp 2 true) .peek⟩,⟨some (22, false), none, .lenL (.tmp 21 false)⟩,⟨some (23, false), none, .bin .sub (.tmp 22 false) (.cst (.int .i64 1) (.lit (.int .i64 1)))⟩,⟨some (24, false), none, .iad (.tmp 20 false) (.tmp 23 false) 4⟩,⟨some (25, false), none, .load (.tmp 24 false) 4 true false⟩]
      (.alt ⟨none, none, .store (.tmp 10 true) (.tmp 25 false) 4⟩ []
      .done .no) .no) .no) .no)))) [0, 1, 2, 3, 8, 9, 10] [8, 9, 10] rone_k5),
  [.cell 8 3 true]⟩
theorem rone_comp (m : Int × Bool) : compF Tryd.prog (gl m) [] Tryd.f47 = some rone := by kernel_rfl
set_option maxRecDepth 4000 in
theorem radd_snd (l : List HL) (k : Int) (L : List Bs) (hl : l.length ≤ 1099511627776) (hL : L.length ≤ 1048576) :
    SndG Tryd.prog (gl m) 70 [.sl .own 2 (fs fL l), I k, .sl .frn 1 (ss L)] [] (.sl .own 2 (fs fL (l ++ kL k L))) [] := by
  refine sndG_of (fn := Tryd.f70) (af := radd) Tryd.func70 (radd_comp m) mixed (kn_ok m) (Nat.le_of_ble_eq_true rfl) (Nat.le_of_ble_eq_true rfl) ?_
  simp only [radd, List.getElem?_nil, Option.map_none, go_sem, reduceCtorEq, Nat.reduceEqDiff, reduceIte, Nat.reduceAdd, Nat.reduceSub, Nat.reduceLeDiff, Int.reduceToNat, Nat.reduceBEq]
  repeat ((with_reducible apply And.intro); (case left => first | omega | (simp only [List.length_append, List.length_cons, List.length_nil, List.length_drop, List.length_take, List.length_tail, List.length_dropLast, fs_length, ss_length, bs_length, ns_length]; omega)))
  refine loop_up L.length (fun i => mkS [(0, .sl .own 2 (fs fL (l ++ kL k (L.take i)))), (1, I k), (2, .sl .frn 1 (ss L)), (7, N i)] [(10000, none), (10001, none), (10002, none)]) ?_ ?_
  · simp only [List.take_zero, kL_nil, List.append_nil]
    rfl
  intro i hi ih
  simp only [radd_l1_w, radd_l1', go_sem, reduceCtorEq, Nat.reduceEqDiff, reduceIte, Nat.reduceAdd, Nat.reduceSub, Nat.reduceLeDiff, Int.reduceToNat, Nat.reduceBEq]
  repeat ((with_reducible apply And.intro); (case left => first | omega | (simp only [List.length_append, List.length_cons, List.length_nil, List.length_drop, List.length_take, List.length_tail, List.length_dropLast, fs_length, ss_length, bs_length, ns_length]; omega)))
  by_cases h : i < L.length
  · have g := ssE L h
    have q1 : IntKind.i64.wrap ((i : Int) + 1) = ((i + 1 : Nat) : Int) := wrapN _ (by omega) (by omega)
    have hkl := kL_len k (L.take i)
    rw [List.length_take] at hkl
    have hcl : (l ++ kL k (L.take i)).length ≤ 1099512676352 := by rw [List.length_append, hkl]; omega
    rw [kL_snoc k h, ← List.append_assoc] at ih
    generalize l ++ kL k (L.take i) = c at hcl ih ⊢
    simp only [ss_length, lt_t h, g, q1, fs_snocL, Int.toNat_natCast, radd_k0_w, radd_k0', go_sem, reduceCtorEq, Nat.reduceEqDiff, reduceIte, Nat.reduceAdd, Nat.reduceSub, Nat.reduceLeDiff, Int.reduceToNat, Nat.reduceBEq]
    repeat ((with_reducible apply And.intro); (case left => first | omega | (simp only [List.length_append, List.length_cons, List.length_nil, List.length_drop, List.length_take, List.length_tail, List.length_dropLast, fs_length, ss_length, bs_length, ns_length]; omega)))
    exact ih h
  · obtain rfl : i = L.length := by omega
    simp only [ss_length, lt_f h, radd_k2_w, radd_k2', List.take_length, go_sem, reduceCtorEq, Nat.reduceEqDiff, reduceIte, Nat.reduceAdd, Nat.reduceSub, Nat.reduceLeDiff, Int.reduceToNat, Nat.reduceBEq]
    first | rfl | omega | trace_state
structure GrpOk (a b : List Bs) (n : Int) (g : List Ed) : Prop where
  ne : g ≠ []
  n0 : 0 ≤ n
  n1 : n ≤ 64
  la : a.length ≤ 4096
  lb : b.length ≤ 4096
  lg : g.length ≤ 1048576
  ed : ∀ e, e ∈ g → 0 ≤ e.1 ∧ 0 ≤ e.2.1 ∧ e.1 + e.2.1 ≤ a.length ∧ 0 ≤ e.2.2.1 ∧ 0 ≤ e.2.2.2 ∧ e.2.2.1 + e.2.2.2 ≤ b.length ∧ min n e.1 ≤ e.2.2.1 + 64
  ch : ∀ i (h : i + 1 < g.length), g[i].1 + g[i].2.1 ≤ g[i + 1].1
theorem sl_leQ (a : List Bs) (i j : Int) : (sl a i j).length ≤ a.length := by rw [sl, List.length_take, List.length_drop]; omega
theorem edLines_leQ (a b : List Bs) (at_ : Int) (e : Ed) : (edLines a b at_ e).length ≤ 2 * a.length + b.length := by
  have h1 := sl_leQ a at_ e.1
  have h2 := sl_leQ a e.1 (e.1 + e.2.1)
  have h3 := sl_leQ b e.2.2.1 (e.2.2.1 + e.2.2.2)
  rw [edLines, List.length_append, List.length_append, kL_len, kL_len, kL_len]; omega
theorem grpL_take {a b : List Bs} {at_ : Int} {g : List Ed} {i : Nat} (h : i < g.length) : grpL a b at_ (g.take (i + 1)) = ((grpL a b at_ (g.take i)).1 ++ edLines a b (grpL a b at_ (g.take i)).2 g[i], g[i].1 + g[i].2.1) := by
  rw [take_snoc h, grpL_snoc]
theorem grp_len {a b : List Bs} (at_ : Int) (g : List Ed) (ha : a.length ≤ 4096) (hb : b.length ≤ 4096) : ∀ i, i ≤ g.length → (grpL a b at_ (g.take i)).1.length ≤ i * 12288 := by
  intro i
  induction i with
  | zero => intro _; simp [grpL]
  | succ i ih =>
    intro hi
    rw [grpL_take (by omega)]
    have := ih (by omega)
    have := edLines_leQ a b (grpL a b at_ (g.take i)).2 g[i]
    dsimp only
    rw [List.length_append]; omega
theorem grp_at {a b : List Bs} {n : Int} {g : List Ed} (hg : GrpOk a b n g) (h0 : 0 < g.length) : ∀ i, i ≤ g.length → 0 ≤ (grpL a b (g[0].1 - min n g[0].1) (g.take i)).2 ∧ (grpL a b (g[0].1 - min n g[0].1) (g.take i)).2 ≤ a.length ∧ ∀ h : i < g.length, (grpL a b (g[0].1 - min n g[0].1) (g.take i)).2 ≤ g[i].1 := by
  intro i hi
  cases i with
  | zero =>
    obtain ⟨e1, e2, e3, _⟩ := hg.ed g[0] (List.getElem_mem h0)
    have := hg.n0
    simp only [List.take_zero, grpL, List.foldl_nil]
    exact ⟨by omega, by omega, fun _ => by omega⟩
  | succ i =>
    obtain ⟨e1, e2, e3, _⟩ := hg.ed g[i] (List.getElem_mem (by omega))
    rw [grpL_take (by omega)]
    dsimp only
    exact ⟨by omega, by omega, fun h => hg.ch i h⟩
set_option maxRecDepth 8000 in
theorem rone_snd (a b : List Bs) (n : Int) (g : List Ed) (hg : GrpOk a b n g) : Snd Tryd.prog (gl m) 47 [.sl .frn 1 (ss a), .sl .frn 1 (ss b), .sl .frn 4 (fs fE g), I n] (hT .own (closeP a n (partF a b n g) (endG g))) := by
  refine snd_of (fn := Tryd.f47) (af := rone) Tryd.func47 (rone_comp m) mixed (kn_ok m) (Nat.le_of_ble_eq_true rfl) ?_
  simp only [rone, go_sem, reduceCtorEq, Nat.reduceEqDiff, reduceIte, Nat.reduceAdd, Nat.reduceSub, Nat.reduceLeDiff, Int.reduceToNat, Nat.reduceBEq]
  have h0 : 0 < g.length := List.length_pos_iff.2 hg.ne
  have hlg := hg.lg
  have hla := hg.la
  have hlb := hg.lb
  have hn0 := hg.n0
  have hn1 := hg.n1
  have g0 := fs_getE h0
  have gl := fs_getE (show g.length - 1 < g.length by omega)
  have w0 : IntKind.i64.wrap (((g.length : Nat) : Int) - 1) = ((g.length - 1 : Nat) : Int) := wrapN _ (by omega) (by omega)
  have eG : endG g = g[g.length - 1].1 + g[g.length - 1].2.1 := by rw [endG, List.getLast?_eq_getElem?, List.getElem?_eq_getElem (by omega)]
  have hat := grp_at hg h0
  have hgl := grp_len (b := b) (g[0].1 - min n g[0].1) g hla hlb
  obtain ⟨f1, f2, f3, f4, f5, f6, f7⟩ := hg.ed g[0] (List.getElem_mem h0)
  obtain ⟨k1, k2, k3, k4, k5, k6, k7⟩ := hg.ed g[g.length - 1] (List.getElem_mem (by omega))
  have hp : partF a b n g = (g[0].1 - min n g[0].1, g[0].2.2.1 - min n g[0].1, (grpL a b (g[0].1 - min n g[0].1) g).1) := by
    cases g with
    | nil => exact absurd rfl hg.ne
    | cons e t => rfl
  have hend : (grpL a b (g[0].1 - min n g[0].1) g).2 = endG g := grp_end a b _ hg.ne
  rw [closeP, hp, eG]
  rw [eG] at hend
  dsimp only
  generalize hL : g[g.length - 1] = z at gl k1 k2 k3 k4 k5 k6 k7 hend
  generalize hF : g[0] = y at g0 f1 f2 f3 f4 f5 f6 f7 hat hgl hend
  obtain ⟨F, D, T, J⟩ := y
  obtain ⟨F', D', T', J'⟩ := z
  dsimp only at f1 f2 f3 f4 f5 f6 f7 k1 k2 k3 k4 k5 k6 k7 hat hgl hend
  have w1 : IntKind.i64.wrap (F - min n F) = F - min n F := wrap_in (by omega) (by omega)
  have w2 : IntKind.i64.wrap (T - min n F) = T - min n F := wrap_in (by omega) (by omega)
  simp only [fs_length, w0, w1, w2, g0, gl, Int.toNat_natCast, Int.toNat_zero, rone_k5_w, rone_k5', go_sem, reduceCtorEq, Nat.reduceEqDiff, reduceIte, Nat.reduceAdd, Nat.reduceSub, Nat.reduceLeDiff, Int.reduceToNat, Nat.reduceBEq]
  repeat ((with_reducible apply And.intro); (case left => first | omega | (simp only [List.length_append, List.length_cons, List.length_nil, List.length_drop, List.length_take, List.length_tail, List.length_dropLast, fs_length, ss_length, bs_length, ns_length]; omega)))
  have a0 : (grpL a b (F - min n F) ([] : List Ed)) = ([], F - min n F) := rfl
  refine loop_up g.length (fun i => mkS [(0, .sl .frn 1 (ss a)), (1, .sl .frn 1 (ss b)), (2, .sl .frn 4 (fs fE g)), (3, I n), (8, .ptr ⟨.box 8 0, []⟩), (10, .ptr ⟨.box 10 0, []⟩), (12, .ptr ⟨.box 12 0, []⟩), (13, .sl .own 2 (fs fL (grpL a b (F - min n F) (g.take i)).1)), (14, I (grpL a b (F - min n F) (g.take i)).2), (15, N i)]
    [(8, some [I 0, I 0, .sl .own 2 []]), (10, some [I F', I D', I T', I J']), (12, some [I (F - min n F), I (T - min n F), .sl .own 2 []])]) ?_ ?_
  · rfl
  intro i hi ih
  simp only [rone_l3_w, rone_l3', go_sem, reduceCtorEq, Nat.reduceEqDiff, reduceIte, Nat.reduceAdd, Nat.reduceSub, Nat.reduceLeDiff, Int.reduceToNat, Nat.reduceBEq]
  repeat ((with_reducible apply And.intro); (case left => first | omega | (simp only [List.length_append, List.length_cons, List.length_nil, List.length_drop, List.length_take, List.length_tail, List.length_dropLast, fs_length, ss_length, bs_length, ns_length]; omega)))
  by_cases h : i < g.length
  · have gi := fs_getE h
    obtain ⟨e1, e2, e3, e4, e5, e6, _⟩ := hg.ed g[i] (List.getElem_mem h)
    obtain ⟨t1, t2, t3⟩ := hat i hi
    have t3 := t3 h
    have hlen := hgl i hi
    have q1 : IntKind.i64.wrap ((i : Int) + 1) = ((i + 1 : Nat) : Int) := wrapN _ (by omega) (by omega)
    rw [grpL_take h] at ih
    generalize grpL a b (F - min n F) (g.take i) = Q at t1 t2 t3 hlen ih ⊢
    obtain ⟨O, A⟩ := Q
    generalize g[i] = z at gi e1 e2 e3 e4 e5 e6 t3 ih
    obtain ⟨G, H, U, V⟩ := z
    dsimp only at e1 e2 e3 e4 e5 e6 t1 t2 t3 hlen ih ⊢
    have u1 : IntKind.i64.wrap (G + H) = G + H := wrap_in (by omega) (by omega)
    have u2 : IntKind.i64.wrap (U + V) = U + V := wrap_in (by omega) (by omega)
    have c0 := sl_leQ a A G
    have c1 := sl_leQ a G (G + H)
    have c2 := sl_leQ b U (U + V)
    simp only [lt_t h, gi, Int.toNat_natCast, sl_drop, rone_k2_w, rone_k2', go_sem, reduceCtorEq, Nat.reduceEqDiff, reduceIte, Nat.reduceAdd, Nat.reduceSub, Nat.reduceLeDiff, Int.reduceToNat, Nat.reduceBEq]
    repeat ((with_reducible apply And.intro); (case left => first | omega | (simp only [List.length_append, List.length_cons, List.length_nil, List.length_drop, List.length_take, List.length_tail, List.length_dropLast, fs_length, ss_length, bs_length, ns_length]; omega)))
    refine of_core (radd_snd O 1 (sl a A G) (by omega) (by omega)) rfl ?_
    simp only [u1, u2, gi, Int.toNat_natCast, sl_drop, go_sem, reduceCtorEq, Nat.reduceEqDiff, reduceIte, Nat.reduceAdd, Nat.reduceSub, Nat.reduceLeDiff, Int.reduceToNat, Nat.reduceBEq]
    repeat ((with_reducible apply And.intro); (case left => first | omega | (simp only [List.length_append, List.length_cons, List.length_nil, List.length_drop, List.length_take, List.length_tail, List.length_dropLast, fs_length, ss_length, bs_length, ns_length]; omega)))
    refine of_core (radd_snd (O ++ kL 1 (sl a A G)) 2 (sl a G (G + H)) (by rw [List.length_append, kL_len]; omega) (by omega)) rfl ?_
    simp only [u1, u2, gi, Int.toNat_natCast, sl_drop, rone_k1_w, rone_k1', go_sem, reduceCtorEq, Nat.reduceEqDiff, reduceIte, Nat.reduceAdd, Nat.reduceSub, Nat.reduceLeDiff, Int.reduceToNat, Nat.reduceBEq]
    repeat ((with_reducible apply And.intro); (case left => first | omega | (simp only [List.length_append, List.length_cons, List.length_nil, List.length_drop, List.length_take, List.length_tail, List.length_dropLast, fs_length, ss_length, bs_length, ns_length]; omega)))
    refine of_core (radd_snd (O ++ kL 1 (sl a A G) ++ kL 2 (sl a G (G + H))) 3 (sl b U (U + V)) (by rw [List.length_append, List.length_append, kL_len, kL_len]; omega) (by omega)) rfl ?_
    simp only [u1, u2, gi, q1, Int.toNat_natCast, sl_drop, rone_k0_w, rone_k0', go_sem, reduceCtorEq, Nat.reduceEqDiff, reduceIte, Nat.reduceAdd, Nat.reduceSub, Nat.reduceLeDiff, Int.reduceToNat, Nat.reduceBEq]
    repeat ((with_reducible apply And.intro); (case left => first | omega | (simp only [List.length_append, List.length_cons, List.length_nil, List.length_drop, List.length_take, List.length_tail, List.length_dropLast, fs_length, ss_length, bs_length, ns_length]; omega)))
    rw [edLines, ← List.append_assoc, ← List.append_assoc] at ih
    exact ih h
  · obtain rfl : i = g.length := by omega
    rw [List.take_length]
    have hlen := hgl g.length (Nat.le_refl _)
    rw [List.take_length] at hlen
    have u1 : IntKind.i64.wrap (F' + D') = F' + D' := wrap_in (by omega) (by omega)
    have u2 : IntKind.i64.wrap (F' + D' + n) = F' + D' + n := wrap_in (by omega) (by omega)
    have u3 : min ((a.length : Nat) : Int) (F' + D' + n) = min (F' + D' + n) ((a.length : Nat) : Int) := Int.min_comm _ _
    have c0 := sl_leQ a (F' + D') (min (F' + D' + n) ((a.length : Nat) : Int))
    rw [hend]
    generalize (grpL a b (F - min n F) g).1 = O at hlen ⊢
    simp only [lt_f h, u1, u2, u3, sl_drop, rone_k4_w, rone_k4', go_sem, reduceCtorEq, Nat.reduceEqDiff, reduceIte, Nat.reduceAdd, Nat.reduceSub, Nat.reduceLeDiff, Int.reduceToNat, Nat.reduceBEq]
    repeat ((with_reducible apply And.intro); (case left => first | omega | (simp only [List.length_append, List.length_cons, List.length_nil, List.length_drop, List.length_take, List.length_tail, List.length_dropLast, fs_length, ss_length, bs_length, ns_length]; omega)))
    refine of_core (radd_snd O 1 (sl a (F' + D') (min (F' + D' + n) ((a.length : Nat) : Int))) (by omega) (by omega)) rfl ?_
    simp only [go_sem, reduceCtorEq, Nat.reduceEqDiff, reduceIte, Nat.reduceAdd, Nat.reduceSub, Nat.reduceLeDiff, Int.reduceToNat, Nat.reduceBEq]
    repeat ((with_reducible apply And.intro); (case left => first | omega | (simp only [List.length_append, List.length_cons, List.length_nil, List.length_drop, List.length_take, List.length_tail, List.length_dropLast, fs_length, ss_length, bs_length, ns_length]; omega)))
    first | rfl | omega | trace_state
end Go.Hk
namespace Go.Hk
open Go Go.Ev Go.Proofs
set_option linter.unusedVariables false
set_option linter.unusedSimpArgs false
set_option maxHeartbeats 4000000
attribute [local go_sem] eqs implies_true List.map_cons List.map_nil kl klL roD roL Option.map_some Option.map_none Option.getD_some Option.getD_none binVal binObl unVal if_true if_false eq_self passA frnD resD content getH getR getW viaNot viaSlot viaBox viaDeep viaMem List.contains_cons List.contains_nil grabs peeks okCells isCell place cellsOf chunk elt List.headD_cons List.length_cons List.length_nil List.take_succ_cons List.take_zero List.drop_succ_cons List.drop_zero List.nil_append List.cons_append List.append_nil List.all_cons List.all_nil plainC takeR setW over reCell List.getElem?_cons_zero List.getElem?_cons_succ List.set_cons_zero List.take_length outV resG plainV pack outVG outBx List.set_cons_succ Ref.idx Ref.addOff beq_self_eq_true bxL Option.bind_some writeR isLit viaBoxes capsPA boxPA nsOf noDup boxesAt argG passG passD rhoIn rhoOut idxIn tr trL List.getD_cons_zero gives pasOf isPtr Ins.d List.getD_cons_succ resL frnL partB_f partB_t partB_p partB_s St.setP mixR v_slcT List.getLast?_nil List.getLast?_singleton List.dropLast_singleton List.nil_append frnL_fs roL_fs resL_fs passL_fs klL_fs trL_fs map_roD_fs fs_length hS_length frnL_hS roL_hS_own roL_hS_frn roL_hS_ro resL_hS_own resL_hS_ro klL_hS klL_hS_own klL_hS_frn passL_hS_own passL_hS_frn trL_hS_own trL_hS_frn
variable {m : Int × Bool}
def rwithin : AF := ⟨.seq (.reg (.seq [⟨some (4, true), none, .box (.tmp 0 true)⟩,⟨some (5, true), none, .box (.tmp 1 true)⟩,⟨some (8, true), none, .mov (.cst (.bool false) (.lit (.bool false))) .asg⟩])) [2, 3, 4, 5] [4, 5]
  (.seq (.seq (.reg (.seq [⟨some (9, false), none, .fad (.tmp 4 true) 0⟩,⟨some (10, false), none, .load (.tmp 9 false) 1 false false⟩,⟨some (11, false), none, .fad (.tmp 5 true) 0⟩,⟨some (12, false), none, .load (.tmp 11 false) 1 false false⟩,⟨some (13, false), none, .bin .lss (.tmp 10 false) (.tmp 12 false)⟩,⟨some (14, false), none, .mov (.tmp 13 false) .peek⟩,⟨some (15, false), (some (14, false)), .fad (.tmp 4 true) 2⟩,⟨some (16, false), (some (14, false)), .load (.tmp 15 false) 1 false false⟩,⟨some (17, false), (some (14, false)), .fad (.tmp 5 true) 2⟩,⟨some (18, false), (some (14, false)), .load (.tmp 17 false) 1 false false⟩,⟨some (19, false), (some (14, false)), .bin .lss (.tmp 16 false) (.tmp 18 false)⟩,⟨some (20, false), none, .pick (.tmp 14 false) (.cst (.bool true) (.lit (.bool true))) (.tmp 19 false)⟩,⟨some (21, false), none, .mov (.tmp 20 false) .peek⟩,⟨some (22, false), (some (21, false)), .fad (.tmp 4 true) 1⟩,⟨some (23, false), (some (21, false)), .load (.tmp 22 false) 1 false false⟩,⟨some (24, false), (some (21, false)), .bin .lss (.tmp 23 false) (.cst (.int .i64 0) (.lit (.int .i64 0)))⟩,⟨some (25, false), none, .pick (.tmp 21 false) (.cst (.bool true) (.lit (.bool true))) (.tmp 24 false)⟩,⟨some (26, false), none, .mov (.tmp 25 false) .peek⟩,⟨some (27, false), (some (26, false)), .fad (.tmp 4 true) 3⟩,⟨some (28, false), (some (26, false)), .load (.tmp 27 false) 1 false false⟩,⟨some (29, false), (some (26, false)), .bin .lss (.tmp 28 false) (.cst (.int .i64 0) (.lit (.int .i64 0)))⟩,⟨some (30, false), none, .pick (.tmp 26 false) (.cst (.bool true) (.lit (.bool true))) (.tmp 29 false)⟩,⟨some (31, false), none, .mov (.tmp 30 false) .peek⟩,⟨some (32, false), (some (31, false)), .fad (.tmp 4 true) 0⟩,⟨some (33, false), (some (31, false)), .load (.tmp 32 false) 1 false false⟩,⟨some (34, false), (some (31, false)), .mov (.tmp 2 true) .peek⟩,⟨some (35, false), (some (31, false)), .bin .gtr (.tmp 33 false) (.tmp 34 false)⟩,⟨some (36, false), none, .pick (.tmp 31 false) (.cst (.bool true) (.lit (.bool true))) (.tmp 35 false)⟩,⟨some (37, false), none, .mov (.tmp 36 false) .peek⟩,⟨some (38, false), (some (37, false)), .fad (.tmp 4 true) 2⟩,⟨some (39, false), (some (37, false)), .load (.tmp 38 false) 1 false false⟩,⟨some (40, false), (some (37, false)), .mov (.tmp 3 true) .peek⟩,⟨some (41, false), (some (37, false)), .bin .gtr (.tmp 39 false) (.tmp 40 false)⟩,⟨some (42, false), none, .pick (.tmp 37 false) (.cst (.bool true) (.lit (.bool true))) (.tmp 41 false)⟩])) [2, 3, 4, 42] [4]
  (.cond (.tmp 42 false)
    (.seq (.reg (.seq [⟨some (8, true), none, .mov (.cst (.bool false) (.lit (.bool false))) .asg⟩])) [8] []
    (.ret))
    (.skip))) [2, 3, 4] [4]
  (.seq (.reg (.seq [⟨some (43, false), none, .fad (.tmp 4 true) 1⟩,⟨some (44, false), none, .load (.tmp 43 false) 1 false false⟩,⟨some (45, false), none, .mov (.tmp 2 true) .peek⟩,⟨some (46, false), none, .fad (.tmp 4 true) 0⟩,⟨some (47, false), none, .load (.tmp 46 false) 1 false false⟩,⟨some (48, false), none, .bin .sub (.tmp 45 false) (.tmp 47 false)⟩,⟨some (49, false), none, .bin .leq (.tmp 44 false) (.tmp 48 false)⟩,⟨some (50, false), none, .mov (.tmp 49 false) .peek⟩,⟨some (51, false), (some (50, true)), .fad (.tmp 4 true) 3⟩,⟨some (52, false), (some (50, true)), .load (.tmp 51 false) 1 false false⟩,⟨some (53, false), (some (50, true)), .mov (.tmp 3 true) .peek⟩,⟨some (54, false), (some (50, true)), .fad (.tmp 4 true) 2⟩,⟨some (55, false), (some (50, true)), .load (.tmp 54 false) 1 false false⟩,⟨some (56, false), (some (50, true)), .bin .sub (.tmp 53 false) (.tmp 55 false)⟩,⟨some (57, false), (some (50, true)), .bin .leq (.tmp 52 false) (.tmp 56 false)⟩,⟨some (58, false), none, .pick (.tmp 50 false) (.tmp 57 false) (.cst (.bool false) (.lit (.bool false)))⟩,⟨some (8, true), none, .mov (.tmp 58 false) .asg⟩])) [8] []
  (.ret))),
  [.tmp 8]⟩
theorem rwithin_comp (m : Int × Bool) : compF Tryd.prog (gl m) [] Tryd.f69 = some rwithin := by kernel_rfl
def rright8_k0' : AC := .cond (.tmp 48 false)
      (.seq (.reg (.seq [⟨some (6, true), none, .mov (.cst (.bool false) (.lit (.bool false))) .asg⟩])) [6] []
      (.ret))
      (.skip)
def rright8_k0 : AC := rright8_k0'
theorem rright8_k0_w (C : Kn) (K : Ex → St → Prop) (s : St) : vcC C rright8_k0 K s = vcC C rright8_k0' K s := nr rfl
def rright8_k1' : AC := .cond (.tmp 75 false)
      (.seq (.reg (.seq [⟨some (6, true), none, .mov (.cst (.bool false) (.lit (.bool false))) .asg⟩])) [6] []
      (.ret))
      (.skip)
def rright8_k1 : AC := rright8_k1'
theorem rright8_k1_w (C : Kn) (K : Ex → St → Prop) (s : St) : vcC C rright8_k1 K s = vcC C rright8_k1' K s := nr rfl
def rright8_k2' : AC := .reg (.seq [⟨some (76, false), none, .fad (.tmp 9 true) 0⟩,⟨some (77, false), none, .load (.tmp 76 false) 1 false false⟩,⟨some (78, false), none, .fad (.tmp 9 true) 1⟩,⟨some (79, false), none, .load (.tmp 78 false) 1 false false⟩,⟨some (80, false), none, .bin .add (.tmp 77 false) (.tmp 79 false)⟩,⟨some (81, false), none, .fad (.tmp 9 true) 2⟩,⟨some (82, false), none, .load (.tmp 81 false) 1 false false⟩,⟨some (83, false), none, .fad (.tmp 9 true) 3⟩,⟨some (84, false), none, .load (.tmp 83 false) 1 false false⟩,⟨some (85, false), none, .bin .add (.tmp 82 false) (.tmp 84 false)⟩,⟨some (86, false), none, .build [(.lit (.int .i64 0)), (.lit (.int .i64 0)), (.lit (.int .i64 0)), (.lit (.int .i64 0))] [(0, 1, (.tmp 80 false)), (2, 1, (.tmp 85 false))]⟩,⟨none, none, .store (.tmp 7 true) (.tmp 86 false) 4⟩])
def rright8_k2 : AC := rright8_k2'
theorem rright8_k2_w (C : Kn) (K : Ex → St → Prop) (s : St) : vcC C rright8_k2 K s = vcC C rright8_k2' K s := nr rfl
def rright8_k3' : AC := .seq (.seq (.reg (.draw [⟨some (49, false), none, .fad (.tmp 9 true) 0⟩,⟨some (50, false), none, .load (.tmp 49 false) 1 false false⟩,⟨some (51, false), none, .fad (.tmp 7 true) 0⟩,⟨some (52, false), none, .load (.tmp 51 false) 1 false false⟩,⟨some (53, false), none, .bin .sub (.tmp 50 false) (.tmp 52 false)⟩,⟨some (54, false), none, .fad (.tmp 9 true) 2⟩,⟨some (55, false), none, .load (.tmp 54 false) 1 false false⟩,⟨some (56, false), none, .fad (.tmp 7 true) 2⟩,⟨some (57, false), none, .load (.tmp 56 false) 1 false false⟩,⟨some (58, false), none, .bin .sub (.tmp 55 false) (.tmp 57 false)⟩,⟨some (59, false), none, .bin .neq (.tmp 53 false) (.tmp 58 false)⟩,⟨some (60, false), none, .mov (.tmp 59 false) .peek⟩,⟨some (61, false), (some (60, false)), .mov (.tmp 0 true) .peek⟩,⟨some (62, false), (some (60, false)), .fad (.tmp 7 true) 0⟩,⟨some (63, false), (some (60, false)), .load (.tmp 62 false) 1 false false⟩,⟨some (64, false), (some (60, false)), .fad (.tmp 9 true) 0⟩,⟨some (65, false), (some (60, false)), .load (.tmp 64 false) 1 false false⟩,⟨some (66, false), (some (60, false)), .slc 1 (.tmp 61 false) (some (.tmp 63 false)) (some (.tmp 65 false))⟩,⟨some (67, false), (some (60, false)), .mov (.tmp 1 true) .peek⟩,⟨some (68, false), (some (60, false)), .fad (.tmp 7 true) 2⟩,⟨some (69, false), (some (60, false)), .load (.tmp 68 false) 1 false false⟩,⟨some (70, false), (some (60, false)), .fad (.tmp 9 true) 2⟩,⟨some (71, false), (some (60, false)), .load (.tmp 70 false) 1 false false⟩,⟨some (72, false), (some (60, false)), .slc 1 (.tmp 67 false) (some (.tmp 69 false)) (some (.tmp 71 false))⟩,⟨some (73, false), (some (60, false)), .call 43 [.tmp 66 false, .tmp 72 false]⟩,⟨some (74, false), (some (60, false)), .un .not (.tmp 73 false)⟩,⟨some (75, false), none, .pick (.tmp 60 false) (.cst (.bool true) (.lit (.bool true))) (.tmp 74 false)⟩] .done)) [0, 1, 2, 7, 9, 12, 13, 75] [7, 9] rright8_k1) [0, 1, 2, 7, 9, 12, 13] [7, 9] rright8_k2
def rright8_k3 : AC := rright8_k3'
theorem rright8_k3_w (C : Kn) (K : Ex → St → Prop) (s : St) : vcC C rright8_k3 K s = vcC C rright8_k3' K s := nr rfl
def rright8_k4' : AC := .reg (.seq [⟨some (87, false), none, .bin .add (.tmp 13 true) (.cst (.int .i64 1) (.lit (.int .i64 1)))⟩,⟨some (13, true), none, .mov (.tmp 87 false) .peek⟩])
def rright8_k4 : AC := rright8_k4'
theorem rright8_k4_w (C : Kn) (K : Ex → St → Prop) (s : St) : vcC C rright8_k4 K s = vcC C rright8_k4' K s := nr rfl
def rright8_k5' : AC := .seq (.block 1 (.seq (.reg (.seq [⟨some (15, false), none, .mov (.tmp 13 true) .take⟩,⟨some (8, true), none, .mov (.tmp 15 false) .asg⟩])) [0, 1, 2, 7, 8, 12, 13] [7]
    (.seq (.reg (.seq [⟨some (16, false), none, .mov (.tmp 2 true) .peek⟩,⟨some (17, false), none, .mov (.tmp 8 true) .peek⟩,⟨some (18, false), none, .iad (.tmp 16 false) (.tmp 17 false) 4⟩,⟨some (19, false), none, .load (.tmp 18 false) 4 true false⟩,⟨some (9, true), none, .new [(.lit (.int .i64 0)), (.lit (.int .i64 0)), (.lit (.int .i64 0)), (.lit (.int .i64 0))]⟩,⟨none, none, .store (.tmp 9 true) (.tmp 19 false) 4⟩])) [0, 1, 2, 7, 8, 9, 12, 13] [7, 9]
    (.seq (.seq (.reg (.seq [⟨some (20, false), none, .load (.tmp 9 true) 4 true false⟩,⟨some (21, false), none, .load (.tmp 7 true) 4 true false⟩,⟨some (22, false), none, .mov (.tmp 0 true) .peek⟩,⟨some (23, false), none, .lenL (.tmp 22 false)⟩,⟨some (24, false), none, .mov (.tmp 1 true) .peek⟩,⟨some (25, false), none, .lenL (.tmp 24 false)⟩,⟨some (26, false), none, .call 69 [.tmp 20 false, .tmp 21 false, .tmp 23 false, .tmp 25 false]⟩,⟨some (27, false), none, .un .not (.tmp 26 false)⟩,⟨some (28, false), none, .mov (.tmp 27 false) .peek⟩,⟨some (29, false), (some (28, false)), .fad (.tmp 9 true) 1⟩,⟨some (30, false), (some (28, false)), .load (.tmp 29 false) 1 false false⟩,⟨some (31, false), (some (28, false)), .bin .eql (.tmp 30 false) (.cst (.int .i64 0) (.lit (.int .i64 0)))⟩,⟨some (32, false), (some (28, false)), .mov (.tmp 31 false) .peek⟩,⟨some (33, false), (some (32, true)), .fad (.tmp 9 true) 3⟩,⟨some (34, false), (some (32, true)), .load (.tmp 33 false) 1 false false⟩,⟨some (35, false), (some (32, true)), .bin .eql (.tmp 34 false) (.cst (.int .i64 0) (.lit (.int .i64 0)))⟩,⟨some (36, false), (some (28, false)), .pick (.tmp 32 false) (.tmp 35 false) (.cst (.bool false) (.lit (.bool false)))⟩,⟨some (37, false), none, .pick (.tmp 28 false) (.cst (.bool true) (.lit (.bool true))) (.tmp 36 false)⟩,⟨some (38, false), none, .mov (.tmp 37 false) .peek⟩,⟨some (39, false), (some (38, false)), .mov (.tmp 8 true) .peek⟩,⟨some (40, false), (some (38, false)), .bin .gtr (.tmp 39 false) (.cst (.int .i64 0) (.lit (.int .i64 0)))⟩,⟨some (41, false), (some (38, false)), .mov (.tmp 40 false) .peek⟩,⟨some (42, false), (some (41, true)), .fad (.tmp 9 true) 0⟩,⟨some (43, false), (some (41, true)), .load (.tmp 42 false) 1 false false⟩,⟨some (44, false), (some (41, true)), .fad (.tmp 7 true) 0⟩,⟨some (45, false), (some (41, true)), .load (.tmp 44 false) 1 false false⟩,⟨some (46, false), (some (41, true)), .bin .eql (.tmp 43 false) (.tmp 45 false)⟩,⟨some (47, false), (some (38, false)), .pick (.tmp 41 false) (.tmp 46 false) (.cst (.bool false) (.lit (.bool false)))⟩,⟨some (48, false), none, .pick (.tmp 38 false) (.cst (.bool true) (.lit (.bool true))) (.tmp 47 false)⟩])) [0, 1, 2, 7, 9, 12, 13, 48] [7, 9] rright8_k0) [0, 1, 2, 7, 9, 12, 13] [7, 9] rright8_k3)))) [0, 1, 2, 7, 12, 13] [7] rright8_k4
def rright8_k5 : AC := rright8_k5'
theorem rright8_k5_w (C : Kn) (K : Ex → St → Prop) (s : St) : vcC C rright8_k5 K s = vcC C rright8_k5' K s := nr rfl
def rright8_l6' : AC := .seq (.reg (.seq [⟨some (14, false), none, .bin .lss (.tmp 13 true) (.tmp 12 true)⟩])) [0, 1, 2, 7, 12, 13, 14] [7]
  (.seq (.cond (.tmp 14 false)
    (.skip)
    (.exit 0)) [0, 1, 2, 7, 12, 13] [7] rright8_k5)
def rright8_l6 : AC := rright8_l6'
theorem rright8_l6_w (C : Kn) (K : Ex → St → Prop) (s : St) : vcC C rright8_l6 K s = vcC C rright8_l6' K s := nr rfl
def rright8_k7' : AC := .ret
def rright8_k7 : AC := rright8_k7'
theorem rright8_k7_w (C : Kn) (K : Ex → St → Prop) (s : St) : vcC C rright8_k7 K s = vcC C rright8_k7' K s := nr rfl
def rright8_k8' : AC := .seq (.reg (.draw [⟨some (88, false), none, .mov (.tmp 0 true) .peek⟩,⟨some (89, false), none, .fad (.tmp 7 true) 0⟩,⟨some (90, false), none, .load (.tmp 89 false) 1 false false⟩,⟨some (91, false), none, .slc 1 (.tmp 88 false) (some (.tmp 90 false)) none⟩,⟨some (92, false), none, .mov (.tmp 1 true) .peek⟩,⟨some (93, false), none, .fad (.tmp 7 true) 2⟩,⟨some (94, false), none, .load (.tmp 93 false) 1 false false⟩,⟨some (95, false), none, .slc 1 (.tmp 92 false) (some (.tmp 94 false)) none⟩,⟨some (96, false), none, .call 43 [.tmp 91 false, .tmp 95 false]⟩] (.alt ⟨some (6, true), none, .mov (.tmp 96 false) .asg⟩ []
      .done .no))) [6] [] rright8_k7
def rright8_k8 : AC := rright8_k8'
theorem rright8_k8_w (C : Kn) (K : Ex → St → Prop) (s : St) : vcC C rright8_k8 K s = vcC C rright8_k8' K s := nr rfl
def rright8 : AF := ⟨.seq (.reg (.seq [⟨some (6, true), none, .mov (.cst (.bool false) (.lit (.bool false))) .asg⟩])) [0, 1, 2] []
  (.seq (.reg (.seq [⟨some (10, false), none, .build [(.lit (.int .i64 0)), (.lit (.int .i64 0)), (.lit (.int .i64 0)), (.lit (.int .i64 0))] []⟩,⟨some (7, true), none, .new [(.lit (.int .i64 0)), (.lit (.int .i64 0)), (.lit (.int .i64 0)), (.lit (.int .i64 0))]⟩,⟨none, none, .store (.tmp 7 true) (.tmp 10 false) 4⟩])) [0, 1, 2, 7] [7]
  (.seq (.seq (.reg (.seq [⟨some (11, false), none, .mov (.tmp 2 true) .peek⟩,⟨some (12, true), none, .lenL (.tmp 11 false)⟩,⟨some (13, true), none, .mov (.cst (.int .i64 0) (.lit (.int .i64 0))) .peek⟩])) [0, 1, 2, 7, 12, 13] [7]
  (.block 0 (.loop [0, 1, 2, 7, 12, 13] [7] rright8_l6))) [0, 1, 7] [7] rright8_k8)),
  [.tmp 6]⟩
theorem rright8_comp (m : Int × Bool) : compF Tryd.prog (gl m) [] Tryd.f46 = some rright8 := by kernel_rfl
def withinP (e : Ed) (p q : Int) (n k : Nat) : Prop := ¬ e.1 < p ∧ ¬ e.2.2.1 < q ∧ ¬ e.2.1 < 0 ∧ ¬ e.2.2.2 < 0 ∧ e.1 ≤ n ∧ e.2.2.1 ≤ k ∧ e.2.1 ≤ n - e.1 ∧ e.2.2.2 ≤ k - e.2.2.1
instance (e : Ed) (p q : Int) (n k : Nat) : Decidable (withinP e p q n k) := by unfold withinP; infer_instance
set_option maxRecDepth 4000 in
theorem rwithin_snd (e : Ed) (p q z z' : Int) (n k : Nat) (hp : 0 ≤ p) (hq : 0 ≤ q) (hn : n ≤ 1048576) (hk : k ≤ 1048576) : Snd Tryd.prog (gl m) 69 [edT e, .agg [I p, I z, I q, I z'], N n, N k] (B (decide (withinP e p q n k))) := by
  refine snd_of (fn := Tryd.f69) (af := rwithin) Tryd.func69 (rwithin_comp m) mixed (kn_ok m) (Nat.le_of_ble_eq_true rfl) ?_
  simp only [rwithin, go_sem, reduceCtorEq, Nat.reduceEqDiff, reduceIte, Nat.reduceAdd, Nat.reduceSub, Nat.reduceLeDiff, Int.reduceToNat, Nat.reduceBEq]
  obtain ⟨F, D, T, J⟩ := e
  repeat ((with_reducible apply And.intro); (case left => first | omega | (simp only [List.length_append, List.length_cons, List.length_nil, List.length_drop, List.length_take, List.length_tail, List.length_dropLast, fs_length, ss_length, bs_length, ns_length]; omega)))
  by_cases c0 : F < p
  · rw [decide_eq_false (p := withinP (F, D, T, J) p q n k) (by unfold withinP; dsimp only; omega)]
    simp only [decide_eq_true c0, go_sem, reduceCtorEq, Nat.reduceEqDiff, reduceIte, Nat.reduceAdd, Nat.reduceSub, Nat.reduceLeDiff, Int.reduceToNat, Nat.reduceBEq]
    repeat ((with_reducible apply And.intro); (case left => first | omega | (simp only [List.length_append, List.length_cons, List.length_nil, List.length_drop, List.length_take, List.length_tail, List.length_dropLast, fs_length, ss_length, bs_length, ns_length]; omega)))
    first | rfl | omega | trace_state
  by_cases c1 : T < q
  · rw [decide_eq_false (p := withinP (F, D, T, J) p q n k) (by unfold withinP; dsimp only; omega)]
    simp only [decide_eq_false c0, decide_eq_true c1, go_sem, reduceCtorEq, Nat.reduceEqDiff, reduceIte, Nat.reduceAdd, Nat.reduceSub, Nat.reduceLeDiff, Int.reduceToNat, Nat.reduceBEq]
    repeat ((with_reducible apply And.intro); (case left => first | omega | (simp only [List.length_append, List.length_cons, List.length_nil, List.length_drop, List.length_take, List.length_tail, List.length_dropLast, fs_length, ss_length, bs_length, ns_length]; omega)))
    first | rfl | omega | trace_state
  by_cases c2 : D < 0
  · rw [decide_eq_false (p := withinP (F, D, T, J) p q n k) (by unfold withinP; dsimp only; omega)]
    simp only [decide_eq_false c0, decide_eq_false c1, decide_eq_true c2, go_sem, reduceCtorEq, Nat.reduceEqDiff, reduceIte, Nat.reduceAdd, Nat.reduceSub, Nat.reduceLeDiff, Int.reduceToNat, Nat.reduceBEq]
    repeat ((with_reducible apply And.intro); (case left => first | omega | (simp only [List.length_append, List.length_cons, List.length_nil, List.length_drop, List.length_take, List.length_tail, List.length_dropLast, fs_length, ss_length, bs_length, ns_length]; omega)))
    first | rfl | omega | trace_state
  by_cases c3 : J < 0
  · rw [decide_eq_false (p := withinP (F, D, T, J) p q n k) (by unfold withinP; dsimp only; omega)]
    simp only [decide_eq_false c0, decide_eq_false c1, decide_eq_false c2, decide_eq_true c3, go_sem, reduceCtorEq, Nat.reduceEqDiff, reduceIte, Nat.reduceAdd, Nat.reduceSub, Nat.reduceLeDiff, Int.reduceToNat, Nat.reduceBEq]
    repeat ((with_reducible apply And.intro); (case left => first | omega | (simp only [List.length_append, List.length_cons, List.length_nil, List.length_drop, List.length_take, List.length_tail, List.length_dropLast, fs_length, ss_length, bs_length, ns_length]; omega)))
    first | rfl | omega | trace_state
  by_cases c4 : F > ((n : Nat) : Int)
  · rw [decide_eq_false (p := withinP (F, D, T, J) p q n k) (by unfold withinP; dsimp only; omega)]
    simp only [decide_eq_false c0, decide_eq_false c1, decide_eq_false c2, decide_eq_false c3, decide_eq_true c4, go_sem, reduceCtorEq, Nat.reduceEqDiff, reduceIte, Nat.reduceAdd, Nat.reduceSub, Nat.reduceLeDiff, Int.reduceToNat, Nat.reduceBEq]
    repeat ((with_reducible apply And.intro); (case left => first | omega | (simp only [List.length_append, List.length_cons, List.length_nil, List.length_drop, List.length_take, List.length_tail, List.length_dropLast, fs_length, ss_length, bs_length, ns_length]; omega)))
    first | rfl | omega | trace_state
  by_cases c5 : T > ((k : Nat) : Int)
  · rw [decide_eq_false (p := withinP (F, D, T, J) p q n k) (by unfold withinP; dsimp only; omega)]
    simp only [decide_eq_false c0, decide_eq_false c1, decide_eq_false c2, decide_eq_false c3, decide_eq_false c4, decide_eq_true c5, go_sem, reduceCtorEq, Nat.reduceEqDiff, reduceIte, Nat.reduceAdd, Nat.reduceSub, Nat.reduceLeDiff, Int.reduceToNat, Nat.reduceBEq]
    repeat ((with_reducible apply And.intro); (case left => first | omega | (simp only [List.length_append, List.length_cons, List.length_nil, List.length_drop, List.length_take, List.length_tail, List.length_dropLast, fs_length, ss_length, bs_length, ns_length]; omega)))
    first | rfl | omega | trace_state
  have w5 : IntKind.i64.wrap (((n : Nat) : Int) - F) = ((n : Nat) : Int) - F := wrap_in (by omega) (by omega)
  have w7 : IntKind.i64.wrap (((k : Nat) : Int) - T) = ((k : Nat) : Int) - T := wrap_in (by omega) (by omega)
  by_cases c6 : D ≤ ((n : Nat) : Int) - F
  · by_cases c7 : J ≤ ((k : Nat) : Int) - T
    · rw [decide_eq_true (p := withinP (F, D, T, J) p q n k) (by unfold withinP; dsimp only; omega)]
      simp only [decide_eq_false c0, decide_eq_false c1, decide_eq_false c2, decide_eq_false c3, decide_eq_false c4, decide_eq_false c5, w5, w7, decide_eq_true c6, decide_eq_true c7, go_sem, reduceCtorEq, Nat.reduceEqDiff, reduceIte, Nat.reduceAdd, Nat.reduceSub, Nat.reduceLeDiff, Int.reduceToNat, Nat.reduceBEq]
      repeat ((with_reducible apply And.intro); (case left => first | omega | (simp only [List.length_append, List.length_cons, List.length_nil, List.length_drop, List.length_take, List.length_tail, List.length_dropLast, fs_length, ss_length, bs_length, ns_length]; omega)))
      first | rfl | omega | trace_state
    · rw [decide_eq_false (p := withinP (F, D, T, J) p q n k) (by unfold withinP; dsimp only; omega)]
      simp only [decide_eq_false c0, decide_eq_false c1, decide_eq_false c2, decide_eq_false c3, decide_eq_false c4, decide_eq_false c5, w5, w7, decide_eq_true c6, decide_eq_false c7, go_sem, reduceCtorEq, Nat.reduceEqDiff, reduceIte, Nat.reduceAdd, Nat.reduceSub, Nat.reduceLeDiff, Int.reduceToNat, Nat.reduceBEq]
      repeat ((with_reducible apply And.intro); (case left => first | omega | (simp only [List.length_append, List.length_cons, List.length_nil, List.length_drop, List.length_take, List.length_tail, List.length_dropLast, fs_length, ss_length, bs_length, ns_length]; omega)))
      first | rfl | omega | trace_state
  · rw [decide_eq_false (p := withinP (F, D, T, J) p q n k) (by unfold withinP; dsimp only; omega)]
    simp only [decide_eq_false c0, decide_eq_false c1, decide_eq_false c2, decide_eq_false c3, decide_eq_false c4, decide_eq_false c5, w5, w7, decide_eq_false c6, go_sem, reduceCtorEq, Nat.reduceEqDiff, reduceIte, Nat.reduceAdd, Nat.reduceSub, Nat.reduceLeDiff, Int.reduceToNat, Nat.reduceBEq]
    repeat ((with_reducible apply And.intro); (case left => first | omega | (simp only [List.length_append, List.length_cons, List.length_nil, List.length_drop, List.length_take, List.length_tail, List.length_dropLast, fs_length, ss_length, bs_length, ns_length]; omega)))
    first | rfl | omega | trace_state
set_option maxRecDepth 8000 in
theorem rright8_snd (a b : List Bs) (l : List Ed) (ha : a.length ≤ 1048576) (hb : b.length ≤ 1048576) (hl : l.length ≤ 1048576) : Snd Tryd.prog (gl m) 46 [.sl .frn 1 (ss a), .sl .frn 1 (ss b), .sl .frn 4 (fs fE l)] (B (right a b l)) := by
  refine snd_of (fn := Tryd.f46) (af := rright8) Tryd.func46 (rright8_comp m) mixed (kn_ok m) (Nat.le_of_ble_eq_true rfl) ?_
  simp only [rright8, go_sem, reduceCtorEq, Nat.reduceEqDiff, reduceIte, Nat.reduceAdd, Nat.reduceSub, Nat.reduceLeDiff, Int.reduceToNat, Nat.reduceBEq]
  repeat ((with_reducible apply And.intro); (case left => first | omega | (simp only [List.length_append, List.length_cons, List.length_nil, List.length_drop, List.length_take, List.length_tail, List.length_dropLast, fs_length, ss_length, bs_length, ns_length]; omega)))
  refine loop_wf (fun x : Nat × Int × Int => l.length - x.1) (fun x => mkS [(0, .sl .frn 1 (ss a)), (1, .sl .frn 1 (ss b)), (2, .sl .frn 4 (fs fE l)), (7, .ptr ⟨.box 7 0, []⟩), (12, N l.length), (13, N x.1)] [(7, some [I x.2.1, I 0, I x.2.2, I 0])])
    (fun x => x.1 ≤ l.length ∧ scS a b l x.1 = some x.2) (0, (0, 0)) rfl ⟨by omega, rfl⟩ ?_
  rintro ⟨i, p, q⟩ ⟨hi, hq⟩ ih
  have hbd := scS_bound hq
  dsimp only at hi hq ih hbd
  simp only [rright8_l6_w, rright8_l6', go_sem, reduceCtorEq, Nat.reduceEqDiff, reduceIte, Nat.reduceAdd, Nat.reduceSub, Nat.reduceLeDiff, Int.reduceToNat, Nat.reduceBEq]
  repeat ((with_reducible apply And.intro); (case left => first | omega | (simp only [List.length_append, List.length_cons, List.length_nil, List.length_drop, List.length_take, List.length_tail, List.length_dropLast, fs_length, ss_length, bs_length, ns_length]; omega)))
  by_cases h : i < l.length
  · have g := fs_getE h
    have qi : IntKind.i64.wrap ((i : Int) + 1) = ((i + 1 : Nat) : Int) := wrapN _ (by omega) (by omega)
    have hst := scS_step a b l h hq
    have hfail := sc_fail h hq
    rw [scOk_iff] at hfail
    generalize l[i] = x at g hst hfail
    obtain ⟨F, D, T, J⟩ := x
    dsimp only at hst hfail
    simp only [lt_t h, g, Int.toNat_natCast, rright8_k5_w, rright8_k5', go_sem, reduceCtorEq, Nat.reduceEqDiff, reduceIte, Nat.reduceAdd, Nat.reduceSub, Nat.reduceLeDiff, Int.reduceToNat, Nat.reduceBEq]
    repeat ((with_reducible apply And.intro); (case left => first | omega | (simp only [List.length_append, List.length_cons, List.length_nil, List.length_drop, List.length_take, List.length_tail, List.length_dropLast, fs_length, ss_length, bs_length, ns_length]; omega)))
    refine of_call (rwithin_snd (F, D, T, J) p q 0 0 a.length b.length (by omega) (by omega) ha hb) ?_
    simp only [go_sem, reduceCtorEq, Nat.reduceEqDiff, reduceIte, Nat.reduceAdd, Nat.reduceSub, Nat.reduceLeDiff, Int.reduceToNat, Nat.reduceBEq]
    repeat ((with_reducible apply And.intro); (case left => first | omega | (simp only [List.length_append, List.length_cons, List.length_nil, List.length_drop, List.length_take, List.length_tail, List.length_dropLast, fs_length, ss_length, bs_length, ns_length]; omega)))
    by_cases c0 : withinP (F, D, T, J) p q a.length b.length
    rotate_left
    · rw [hfail (fun h => c0 (by unfold withinP; dsimp only; omega)), decide_eq_false c0]
      simp only [Bool.not_false, go_sem, reduceCtorEq, Nat.reduceEqDiff, reduceIte, Nat.reduceAdd, Nat.reduceSub, Nat.reduceLeDiff, Int.reduceToNat, Nat.reduceBEq]
      repeat ((with_reducible apply And.intro); (case left => first | omega | (simp only [List.length_append, List.length_cons, List.length_nil, List.length_drop, List.length_take, List.length_tail, List.length_dropLast, fs_length, ss_length, bs_length, ns_length]; omega)))
      simp only [rright8_k0_w, rright8_k0', go_sem, reduceCtorEq, Nat.reduceEqDiff, reduceIte, Nat.reduceAdd, Nat.reduceSub, Nat.reduceLeDiff, Int.reduceToNat, Nat.reduceBEq]
      first | rfl | omega | trace_state
    rw [decide_eq_true c0]
    unfold withinP at c0
    dsimp only at c0
    obtain ⟨l1, l2, l3, l4, l5, l6, l7, l8⟩ := c0
    by_cases c1 : D = 0 ∧ J = 0
    · rw [hfail (fun h => h.1.2.2.2.2.2.2.2.2.1 c1)]
      simp only [Bool.not_true, eq_t c1.1, eq_t c1.2, go_sem, reduceCtorEq, Nat.reduceEqDiff, reduceIte, Nat.reduceAdd, Nat.reduceSub, Nat.reduceLeDiff, Int.reduceToNat, Nat.reduceBEq]
      repeat ((with_reducible apply And.intro); (case left => first | omega | (simp only [List.length_append, List.length_cons, List.length_nil, List.length_drop, List.length_take, List.length_tail, List.length_dropLast, fs_length, ss_length, bs_length, ns_length]; omega)))
      simp only [rright8_k0_w, rright8_k0', go_sem, reduceCtorEq, Nat.reduceEqDiff, reduceIte, Nat.reduceAdd, Nat.reduceSub, Nat.reduceLeDiff, Int.reduceToNat, Nat.reduceBEq]
      first | rfl | omega | trace_state
    have hz : ((D == 0) = false ∧ True) ∨ ((D == 0) = true ∧ (J == 0) = false) := by
      by_cases d : D = 0
      · exact .inr ⟨eq_t d, eq_f (fun j => c1 ⟨d, j⟩)⟩
      · exact .inl ⟨eq_f d, trivial⟩
    by_cases c4 : 0 < i ∧ F = p
    · rw [hfail (fun h => by have := h.1.2.2.2.2.2.2.2.2.2; simp only [beq_iff_eq] at this; omega)]
      have f1 : decide ((i : Int) > 0) = true := decide_eq_true (by omega)
      rcases hz with ⟨z, z'⟩ | ⟨z, z'⟩ <;> simp only [Bool.not_true, z, z', f1, eq_t c4.2, go_sem, reduceCtorEq, Nat.reduceEqDiff, reduceIte, Nat.reduceAdd, Nat.reduceSub, Nat.reduceLeDiff, Int.reduceToNat, Nat.reduceBEq]
      all_goals ((repeat ((with_reducible apply And.intro); (case left => first | omega | (simp only [List.length_append, List.length_cons, List.length_nil, List.length_drop, List.length_take, List.length_tail, List.length_dropLast, fs_length, ss_length, bs_length, ns_length]; omega)))); simp only [rright8_k0_w, rright8_k0', go_sem, reduceCtorEq, Nat.reduceEqDiff, reduceIte, Nat.reduceAdd, Nat.reduceSub, Nat.reduceLeDiff, Int.reduceToNat, Nat.reduceBEq])
      all_goals first | rfl | omega | trace_state
    have hf : (decide ((i : Int) > 0) = false ∧ True) ∨ (decide ((i : Int) > 0) = true ∧ (F == p) = false) := by
      by_cases d : 0 < i
      · exact .inr ⟨decide_eq_true (by omega), eq_f (fun j => c4 ⟨d, j⟩)⟩
      · exact .inl ⟨decide_eq_false (by omega), trivial⟩
    have w1 : IntKind.i64.wrap (F - p) = F - p := wrap_in (by omega) (by omega)
    have w2 : IntKind.i64.wrap (T - q) = T - q := wrap_in (by omega) (by omega)
    have w3 : IntKind.i64.wrap (F + D) = F + D := wrap_in (by omega) (by omega)
    have w4 : IntKind.i64.wrap (T + J) = T + J := wrap_in (by omega) (by omega)
    by_cases c5 : F - p = T - q
    · rcases hz with ⟨z, z'⟩ | ⟨z, z'⟩ <;> rcases hf with ⟨f, f'⟩ | ⟨f, f'⟩
      all_goals simp only [Bool.not_true, z, z', f, f', go_sem, reduceCtorEq, Nat.reduceEqDiff, reduceIte, Nat.reduceAdd, Nat.reduceSub, Nat.reduceLeDiff, Int.reduceToNat, Nat.reduceBEq]
      all_goals ((repeat ((with_reducible apply And.intro); (case left => first | omega | (simp only [List.length_append, List.length_cons, List.length_nil, List.length_drop, List.length_take, List.length_tail, List.length_dropLast, fs_length, ss_length, bs_length, ns_length]; omega)))); simp only [rright8_k0_w, rright8_k0', rright8_k3_w, rright8_k3', w1, w2, ne_f c5, go_sem, reduceCtorEq, Nat.reduceEqDiff, reduceIte, Nat.reduceAdd, Nat.reduceSub, Nat.reduceLeDiff, Int.reduceToNat, Nat.reduceBEq])
      all_goals
        repeat ((with_reducible apply And.intro); (case left => first | omega | (simp only [List.length_append, List.length_cons, List.length_nil, List.length_drop, List.length_take, List.length_tail, List.length_dropLast, fs_length, ss_length, bs_length, ns_length]; omega)))
        repeat ((with_reducible apply And.intro); (case left => first | omega | (simp only [List.length_append, List.length_cons, List.length_nil, List.length_drop, List.length_take, List.length_tail, List.length_dropLast, fs_length, ss_length, bs_length, ns_length]; omega)))
        refine of_call (same08_snd _ _ (by simp only [List.length_drop, List.length_take]; omega) (by simp only [List.length_drop, List.length_take]; omega)) ?_
        simp only [go_sem, reduceCtorEq, Nat.reduceEqDiff, reduceIte, Nat.reduceAdd, Nat.reduceSub, Nat.reduceLeDiff, Int.reduceToNat, Nat.reduceBEq]
        repeat ((with_reducible apply And.intro); (case left => first | omega | (simp only [List.length_append, List.length_cons, List.length_nil, List.length_drop, List.length_take, List.length_tail, List.length_dropLast, fs_length, ss_length, bs_length, ns_length]; omega)))
        rw [sl_drop, sl_drop]
        by_cases c6 : sl a p F = sl b q T
        · rw [if_pos (scOk_iff.2 ⟨⟨by dsimp only; omega, by dsimp only; omega, by dsimp only; omega, by dsimp only; omega, l5, l7, l6, l8, c1, by simp only [beq_iff_eq]; omega⟩, c6⟩)] at hst
          simp only [decide_eq_true c6, Bool.not_true, rright8_k1_w, rright8_k1', rright8_k2_w, rright8_k2', rright8_k4_w, rright8_k4', w3, w4, qi, go_sem, reduceCtorEq, Nat.reduceEqDiff, reduceIte, Nat.reduceAdd, Nat.reduceSub, Nat.reduceLeDiff, Int.reduceToNat, Nat.reduceBEq]
          repeat ((with_reducible apply And.intro); (case left => first | omega | (simp only [List.length_append, List.length_cons, List.length_nil, List.length_drop, List.length_take, List.length_tail, List.length_dropLast, fs_length, ss_length, bs_length, ns_length]; omega)))
          exact ih (i + 1, F + D, T + J) (by dsimp only; omega) ⟨by dsimp only; omega, hst⟩
        · rw [hfail (fun h => c6 h.2)]
          simp only [decide_eq_false c6, Bool.not_false, rright8_k1_w, rright8_k1', go_sem, reduceCtorEq, Nat.reduceEqDiff, reduceIte, Nat.reduceAdd, Nat.reduceSub, Nat.reduceLeDiff, Int.reduceToNat, Nat.reduceBEq]
          try ((repeat ((with_reducible apply And.intro); (case left => first | omega | (simp only [List.length_append, List.length_cons, List.length_nil, List.length_drop, List.length_take, List.length_tail, List.length_dropLast, fs_length, ss_length, bs_length, ns_length]; omega)))); simp only [go_sem, reduceCtorEq, Nat.reduceEqDiff, reduceIte, Nat.reduceAdd, Nat.reduceSub, Nat.reduceLeDiff, Int.reduceToNat, Nat.reduceBEq])
          try first | rfl | omega
    · have hno : sl a p F ≠ sl b q T := fun e => by
        have := congrArg List.length e
        rw [sl_len a (by omega), sl_len b (by omega)] at this
        omega
      rw [hfail (fun h => hno h.2)]
      rcases hz with ⟨z, z'⟩ | ⟨z, z'⟩ <;> rcases hf with ⟨f, f'⟩ | ⟨f, f'⟩
      all_goals simp only [Bool.not_true, z, z', f, f', go_sem, reduceCtorEq, Nat.reduceEqDiff, reduceIte, Nat.reduceAdd, Nat.reduceSub, Nat.reduceLeDiff, Int.reduceToNat, Nat.reduceBEq]
      all_goals ((repeat ((with_reducible apply And.intro); (case left => first | omega | (simp only [List.length_append, List.length_cons, List.length_nil, List.length_drop, List.length_take, List.length_tail, List.length_dropLast, fs_length, ss_length, bs_length, ns_length]; omega)))); simp only [rright8_k0_w, rright8_k0', rright8_k3_w, rright8_k3', rright8_k1_w, rright8_k1', w1, w2, ne_t c5, go_sem, reduceCtorEq, Nat.reduceEqDiff, reduceIte, Nat.reduceAdd, Nat.reduceSub, Nat.reduceLeDiff, Int.reduceToNat, Nat.reduceBEq])
      all_goals try first | rfl | omega
      all_goals ((repeat ((with_reducible apply And.intro); (case left => first | omega | (simp only [List.length_append, List.length_cons, List.length_nil, List.length_drop, List.length_take, List.length_tail, List.length_dropLast, fs_length, ss_length, bs_length, ns_length]; omega)))); simp only [rright8_k1_w, rright8_k1', go_sem, reduceCtorEq, Nat.reduceEqDiff, reduceIte, Nat.reduceAdd, Nat.reduceSub, Nat.reduceLeDiff, Int.reduceToNat, Nat.reduceBEq])
      all_goals try first | rfl | omega | trace_state
  · obtain rfl : i = l.length := by omega
    have e : right a b l = decide (a.drop p.toNat = b.drop q.toNat) := by rw [right, hq]
    rw [e]
    simp only [lt_f h, ss_drop, ss_length, Int.toNat_natCast, rright8_k8_w, rright8_k8', go_sem, reduceCtorEq, Nat.reduceEqDiff, reduceIte, Nat.reduceAdd, Nat.reduceSub, Nat.reduceLeDiff, Int.reduceToNat, Nat.reduceBEq]
    repeat ((with_reducible apply And.intro); (case left => first | omega | (simp only [List.length_append, List.length_cons, List.length_nil, List.length_drop, List.length_take, List.length_tail, List.length_dropLast, fs_length, ss_length, bs_length, ns_length]; omega)))
    repeat ((with_reducible apply And.intro); (case left => first | omega | (simp only [List.length_append, List.length_cons, List.length_nil, List.length_drop, List.length_take, List.length_tail, List.length_dropLast, fs_length, ss_length, bs_length, ns_length]; omega)))
    refine of_call (same08_snd _ _ (by simp only [List.length_drop]; omega) (by simp only [List.length_drop]; omega)) ?_
    simp only [go_sem, reduceCtorEq, Nat.reduceEqDiff, reduceIte, Nat.reduceAdd, Nat.reduceSub, Nat.reduceLeDiff, Int.reduceToNat, Nat.reduceBEq]
    repeat ((with_reducible apply And.intro); (case left => first | omega | (simp only [List.length_append, List.length_cons, List.length_nil, List.length_drop, List.length_take, List.length_tail, List.length_dropLast, fs_length, ss_length, bs_length, ns_length]; omega)))
    simp only [rright8_k7_w, rright8_k7', go_sem, reduceCtorEq, Nat.reduceEqDiff, reduceIte, Nat.reduceAdd, Nat.reduceSub, Nat.reduceLeDiff, Int.reduceToNat, Nat.reduceBEq]
    first | rfl | omega | trace_state
end Go.Hk
namespace Go.Hk
open Go Go.Ev Go.Proofs
set_option linter.unusedVariables false
set_option linter.unusedSimpArgs false
set_option maxHeartbeats 4000000
attribute [local go_sem] eqs implies_true List.map_cons List.map_nil kl klL roD roL Option.map_some Option.map_none Option.getD_some Option.getD_none binVal binObl unVal if_true if_false eq_self passA frnD resD content getH getR getW viaNot viaSlot viaBox viaDeep viaMem List.contains_cons List.contains_nil grabs peeks okCells isCell place cellsOf chunk elt List.headD_cons List.length_cons List.length_nil List.take_succ_cons List.take_zero List.drop_succ_cons List.drop_zero List.nil_append List.cons_append List.append_nil List.all_cons List.all_nil plainC takeR setW over reCell List.getElem?_cons_zero List.getElem?_cons_succ List.set_cons_zero List.take_length outV resG plainV pack outVG outBx List.set_cons_succ Ref.idx Ref.addOff beq_self_eq_true bxL Option.bind_some writeR isLit viaBoxes capsPA boxPA nsOf noDup boxesAt argG passG passD rhoIn rhoOut idxIn tr trL List.getD_cons_zero gives pasOf isPtr Ins.d List.getD_cons_succ resL frnL partB_f partB_t partB_p partB_s St.setP mixR v_slcT List.getLast?_nil List.getLast?_singleton List.dropLast_singleton List.nil_append frnL_fs roL_fs resL_fs passL_fs klL_fs trL_fs map_roD_fs fs_length hS_length frnL_hS roL_hS_own roL_hS_frn roL_hS_ro resL_hS_own resL_hS_ro klL_hS klL_hS_own klL_hS_frn passL_hS_own passL_hS_frn trL_hS_own trL_hS_frn
variable {m : Int × Bool}
def rof10_k0' : AC := .cond (.tmp 27 false)
    (.seq (.reg (.seq [⟨some (8, true), none, .mov (.cst (.slice none 0 0) (.sl .own 3 [])) .asg⟩])) [8, 10] []
    (.ret))
    (.skip)
def rof10_k0 : AC := rof10_k0'
theorem rof10_k0_w (C : Kn) (K : Ex → St → Prop) (s : St) : vcC C rof10_k0 K s = vcC C rof10_k0' K s := nr rfl
def rof10_k1' : AC := .reg (.seq [⟨some (76, false), none, .mov (.tmp 12 true) .take⟩,⟨some (11, true), none, .mov (.tmp 76 false) .asg⟩])
def rof10_k1 : AC := rof10_k1'
theorem rof10_k1_w (C : Kn) (K : Ex → St → Prop) (s : St) : vcC C rof10_k1 K s = vcC C rof10_k1' K s := nr rfl
def rof10_k2' : AC := .cond (.tmp 64 false)
      (.seq (.reg (.seq [⟨some (65, false), none, .mov (.tmp 10 true) .take⟩,⟨some (66, false), none, .mov (.tmp 0 true) .peek⟩,⟨some (67, false), none, .mov (.tmp 1 true) .peek⟩,⟨some (68, false), none, .mov (.tmp 2 true) .peek⟩,⟨some (69, false), none, .mov (.tmp 11 true) .peek⟩,⟨some (70, false), none, .mov (.tmp 12 true) .peek⟩,⟨some (71, false), none, .slc 4 (.tmp 68 false) (some (.tmp 69 false)) (some (.tmp 70 false))⟩,⟨some (72, false), none, .mov (.tmp 9 true) .peek⟩,⟨some (73, false), none, .call 47 [.tmp 66 false, .tmp 67 false, .tmp 71 false, .tmp 72 false]⟩,⟨some (74, false), none, .buildS 3 1 [(.lit (.int .i64 0)), (.lit (.int .i64 0)), (.sl .own 2 [])] [(0, 3, (.tmp 73 false))]⟩,⟨some (75, false), none, .app 3 40 (.tmp 65 false) (.tmp 74 false)⟩,⟨some (10, true), none, .mov (.tmp 75 false) .asg⟩])) [0, 1, 2, 9, 10, 12] [] rof10_k1)
      (.skip)
def rof10_k2 : AC := rof10_k2'
theorem rof10_k2_w (C : Kn) (K : Ex → St → Prop) (s : St) : vcC C rof10_k2 K s = vcC C rof10_k2' K s := nr rfl
def rof10_k3' : AC := .reg (.seq [⟨some (35, false), none, .mov (.tmp 12 true) .peek⟩,⟨some (36, false), none, .bin .add (.tmp 35 false) (.cst (.int .i64 1) (.lit (.int .i64 1)))⟩,⟨some (12, true), none, .mov (.tmp 36 false) .asg⟩])
def rof10_k3 : AC := rof10_k3'
theorem rof10_k3_w (C : Kn) (K : Ex → St → Prop) (s : St) : vcC C rof10_k3 K s = vcC C rof10_k3' K s := nr rfl
def rof10_k4' : AC := .seq (.block 1 (.seq (.reg (.draw [⟨some (37, false), none, .mov (.tmp 12 true) .peek⟩,⟨some (38, false), none, .mov (.tmp 2 true) .peek⟩,⟨some (39, false), none, .lenL (.tmp 38 false)⟩,⟨some (40, false), none, .bin .eql (.tmp 37 false) (.tmp 39 false)⟩,⟨some (41, false), none, .mov (.tmp 40 false) .peek⟩,⟨some (42, false), (some (41, false)), .mov (.tmp 2 true) .peek⟩,⟨some (43, false), (some (41, false)), .mov (.tmp 12 true) .peek⟩,⟨some (44, false), (some (41, false)), .iad (.tmp 42 false) (.tmp 43 false) 4⟩,⟨some (45, false), (some (41, false)), .fad (.tmp 44 false) 0⟩,⟨some (46, false), (some (41, false)), .load (.tmp 45 false) 1 false false⟩,⟨some (47, false), (some (41, false)), .mov (.tmp 2 true) .peek⟩,⟨some (48, false), (some (41, false)), .mov (.tmp 12 true) .peek⟩,⟨some (49, false), (some (41, false)), .bin .sub (.tmp 48 false) (.cst (.int .i64 1) (.lit (.int .i64 1)))⟩,⟨some (50, false), (some (41, false)), .iad (.tmp 47 false) (.tmp 49 false) 4⟩,⟨some (51, false), (some (41, false)), .fad (.tmp 50 false) 0⟩,⟨some (52, false), (some (41, false)), .load (.tmp 51 false) 1 false false⟩,⟨some (53, false), (some (41, false)), .bin .sub (.tmp 46 false) (.tmp 52 false)⟩,⟨some (54, false), (some (41, false)), .mov (.tmp 2 true) .peek⟩,⟨some (55, false), (some (41, false)), .mov (.tmp 12 true) .peek⟩,⟨some (56, false), (some (41, false)), .bin .sub (.tmp 55 false) (.cst (.int .i64 1) (.lit (.int .i64 1)))⟩,⟨some (57, false), (some (41, false)), .iad (.tmp 54 false) (.tmp 56 false) 4⟩,⟨some (58, false), (some (41, false)), .fad (.tmp 57 false) 1⟩,⟨some (59, false), (some (41, false)), .load (.tmp 58 false) 1 false false⟩,⟨some (60, false), (some (41, false)), .bin .sub (.tmp 53 false) (.tmp 59 false)⟩,⟨some (61, false), (some (41, false)), .mov (.tmp 9 true) .peek⟩,⟨some (62, false), (some (41, false)), .bin .mul (.cst (.int .i64 2) (.lit (.int .i64 2))) (.tmp 61 false)⟩,⟨some (63, false), (some (41, false)), .bin .gtr (.tmp 60 false) (.tmp 62 false)⟩,⟨some (64, false), none, .pick (.tmp 41 false) (.cst (.bool true) (.lit (.bool true))) (.tmp 63 false)⟩] .done)) [0, 1, 2, 9, 10, 11, 12, 64] [] rof10_k2)) [0, 1, 2, 9, 10, 11, 12] [] rof10_k3
def rof10_k4 : AC := rof10_k4'
theorem rof10_k4_w (C : Kn) (K : Ex → St → Prop) (s : St) : vcC C rof10_k4 K s = vcC C rof10_k4' K s := nr rfl
def rof10_l5' : AC := .seq (.seq (.reg (.seq [⟨some (31, false), none, .mov (.tmp 12 true) .peek⟩,⟨some (32, false), none, .mov (.tmp 2 true) .peek⟩,⟨some (33, false), none, .lenL (.tmp 32 false)⟩,⟨some (34, false), none, .bin .leq (.tmp 31 false) (.tmp 33 false)⟩])) [0, 1, 2, 9, 10, 11, 12, 34] []
  (.cond (.tmp 34 false)
    (.skip)
    (.exit 0))) [0, 1, 2, 9, 10, 11, 12] [] rof10_k4
def rof10_l5 : AC := rof10_l5'
theorem rof10_l5_w (C : Kn) (K : Ex → St → Prop) (s : St) : vcC C rof10_l5 K s = vcC C rof10_l5' K s := nr rfl
def rof10_k6' : AC := .seq (.reg (.seq [⟨some (77, false), none, .mov (.tmp 10 true) .take⟩,⟨some (8, true), none, .mov (.tmp 77 false) .asg⟩])) [8, 10] []
  (.ret)
def rof10_k6 : AC := rof10_k6'
theorem rof10_k6_w (C : Kn) (K : Ex → St → Prop) (s : St) : vcC C rof10_k6 K s = vcC C rof10_k6' K s := nr rfl
def rof10_k7' : AC := .seq (.reg (.seq [⟨some (28, false), none, .mov (.tmp 3 true) .peek⟩,⟨some (29, false), none, .mx true (.cst (.int .i64 0) (.lit (.int .i64 0))) (.tmp 28 false)⟩,⟨some (30, false), none, .mx false (.cst (.int .i64 64) (.lit (.int .i64 64))) (.tmp 29 false)⟩,⟨some (9, true), none, .mov (.tmp 30 false) .asg⟩])) [0, 1, 2, 9] []
  (.seq (.reg (.seq [⟨some (10, true), none, .mov (.cst (.slice none 0 0) (.sl .own 3 [])) .asg⟩])) [0, 1, 2, 9, 10] []
  (.seq (.reg (.seq [⟨some (11, true), none, .mov (.cst (.int .i64 0) (.lit (.int .i64 0))) .asg⟩])) [0, 1, 2, 9, 10, 11] []
  (.seq (.seq (.reg (.seq [⟨some (12, true), none, .mov (.cst (.int .i64 1) (.lit (.int .i64 1))) .asg⟩])) [0, 1, 2, 9, 10, 11, 12] []
  (.block 0 (.loop [0, 1, 2, 9, 10, 11, 12] [] rof10_l5))) [10] [] rof10_k6)))
def rof10_k7 : AC := rof10_k7'
theorem rof10_k7_w (C : Kn) (K : Ex → St → Prop) (s : St) : vcC C rof10_k7 K s = vcC C rof10_k7' K s := nr rfl
def rof10 : AF := ⟨.seq (.reg (.seq [⟨some (8, true), none, .mov (.cst (.slice none 0 0) (.sl .own 3 [])) .asg⟩])) [0, 1, 2, 3] []
  (.seq (.seq (.reg (.seq [⟨some (13, false), none, .mov (.tmp 0 true) .peek⟩,⟨some (14, false), none, .lenL (.tmp 13 false)⟩,⟨some (15, false), none, .bin .gtr (.tmp 14 false) (.cst (.int .i64 4096) (.lit (.int .i64 4096)))⟩,⟨some (16, false), none, .mov (.tmp 15 false) .peek⟩,⟨some (17, false), (some (16, false)), .mov (.tmp 1 true) .peek⟩,⟨some (18, false), (some (16, false)), .lenL (.tmp 17 false)⟩,⟨some (19, false), (some (16, false)), .bin .gtr (.tmp 18 false) (.cst (.int .i64 4096) (.lit (.int .i64 4096)))⟩,⟨some (20, false), none, .pick (.tmp 16 false) (.cst (.bool true) (.lit (.bool true))) (.tmp 19 false)⟩,⟨some (21, false), none, .mov (.tmp 20 false) .peek⟩,⟨some (22, false), (some (21, false)), .mov (.tmp 0 true) .peek⟩,⟨some (23, false), (some (21, false)), .mov (.tmp 1 true) .peek⟩,⟨some (24, false), (some (21, false)), .mov (.tmp 2 true) .peek⟩,⟨some (25, false), (some (21, false)), .call 46 [.tmp 22 false, .tmp 23 false, .tmp 24 false]⟩,⟨some (26, false), (some (21, false)), .un .not (.tmp 25 false)⟩,⟨some (27, false), none, .pick (.tmp 21 false) (.cst (.bool true) (.lit (.bool true))) (.tmp 26 false)⟩])) [0, 1, 2, 3, 27] [] rof10_k0) [0, 1, 2, 3] [] rof10_k7),
  [.tmp 8]⟩
theorem rof10_comp (m : Int × Bool) : compF Tryd.prog (gl m) [] Tryd.f24 = some rof10 := by kernel_rfl
theorem grp_get {l : List Ed} {f i j : Nat} (hi : i ≤ l.length) (hj : f + j < i) : ∃ h : j < ((l.take i).drop f).length, ((l.take i).drop f)[j]'h = l[f + j]'(by omega) := by
  refine ⟨by rw [List.length_drop, List.length_take]; omega, ?_⟩
  rw [List.getElem_drop, List.getElem_take]
theorem grp_ok {a b : List Bs} {l : List Ed} {n : Int} {f i : Nat} (h : right a b l = true) (hn0 : 0 ≤ n) (hn1 : n ≤ 64) (ha : a.length ≤ 4096) (hb : b.length ≤ 4096) (hl : l.length ≤ 1048576) (hf : f < i) (hi : i ≤ l.length) : GrpOk a b n ((l.take i).drop f) := by
  have hlen : ((l.take i).drop f).length = i - f := by rw [List.length_drop, List.length_take]; omega
  refine ⟨fun e => by rw [e, List.length_nil] at hlen; omega, hn0, hn1, ha, hb, by omega, fun e he => ?_, fun j hj => ?_⟩
  · obtain ⟨k, hk, rfl⟩ := List.mem_iff_getElem.1 he
    obtain ⟨_, e2⟩ := grp_get (l := l) (f := f) (i := i) (j := k) hi (by omega)
    rw [e2]
    obtain ⟨q, _, hG, _, _⟩ := good_of h (show f + k < l.length by omega)
    have g1 := hG.q0; have g2 := hG.q0'; have g3 := hG.f; have g4 := hG.t; have g5 := hG.d; have g6 := hG.i; have g7 := hG.fd; have g8 := hG.ti
    exact ⟨by omega, g5, g7, by omega, g6, g8, by omega⟩
  · obtain ⟨_, e2⟩ := grp_get (l := l) (f := f) (i := i) (j := j) hi (by omega)
    obtain ⟨_, e3⟩ := grp_get (l := l) (f := f) (i := i) (j := j + 1) hi (by omega)
    rw [e2, e3]
    obtain ⟨q, _, _, _, hs⟩ := good_of h (show f + j < l.length by omega)
    obtain ⟨q', hq', hG, _, _⟩ := good_of h (show f + j + 1 < l.length by omega)
    rw [hs] at hq'; cases hq'
    exact hG.f
theorem end_take {l : List Ed} {i : Nat} (h0 : 0 < i) (hi : i ≤ l.length) : endG (l.take i) = (l[i - 1]'(by omega)).1 + (l[i - 1]'(by omega)).2.1 := by
  rw [endG, List.getLast?_eq_getElem?, List.length_take, Nat.min_eq_left hi, List.getElem?_take, if_pos (by omega), List.getElem?_eq_getElem (by omega)]
theorem end_drop {l : List Ed} {f i : Nat} (hf : f < i) (hi : i ≤ l.length) : endG ((l.take i).drop f) = endG (l.take i) := by
  rw [endG, endG, List.getLast?_drop, if_neg (by rw [List.length_take]; omega)]
theorem fs_dropE (l : List Ed) (n : Nat) : (fs fE l).drop n = fs fE (l.drop n) := fs_drop fE l n
theorem fs_takeE (l : List Ed) (n : Nat) : (fs fE l).take n = fs fE (l.take n) := fs_take fE l n
theorem hS_snocH (l : List Hk) (x : Hk) : hS .own l ++ [.agg [I x.1, I x.2.1, .sl .own 2 (fs fL x.2.2)]] = hS .own (l ++ [x]) := hS_snoc .own l x
def OfInv' (a b : List Bs) (n : Int) (l : List Ed) (x : Nat × List Hk × Nat) : Prop :=
  1 ≤ x.1 ∧ x.2.1.length < x.1 ∧ ((x.1 ≤ l.length ∧ x.2.2 < x.1 ∧ ofI a b n (l.take x.1) = some (x.2.1, partF a b n ((l.take x.1).drop x.2.2), endG (l.take x.1))) ∨ (x.1 = l.length + 1 ∧ x.2.1 = ofW a b n l))
theorem one_step {a b : List Bs} {n : Int} {l : List Ed} {i f : Nat} {out : List Hk} (h0 : 1 ≤ i) (hf : f < i) (hi : i < l.length) (h : ofI a b n (l.take i) = some (out, partF a b n ((l.take i).drop f), endG (l.take i))) :
    (l[i].1 - endG (l.take i) ≤ 2 * n → ofI a b n (l.take (i + 1)) = some (out, partF a b n ((l.take (i + 1)).drop f), endG (l.take (i + 1)))) ∧
    (¬ l[i].1 - endG (l.take i) ≤ 2 * n → ofI a b n (l.take (i + 1)) = some (out ++ [closeP a n (partF a b n ((l.take i).drop f)) (endG (l.take i))], partF a b n ((l.take (i + 1)).drop i), endG (l.take (i + 1)))) := by
  have ht : l.take (i + 1) = l.take i ++ [l[i]] := take_snoc hi
  have hE : endG (l.take (i + 1)) = l[i].1 + l[i].2.1 := by rw [end_take (by omega) (by omega)]; rfl
  have hs := ofI_snoc a b n l[i] h
  rw [← ht, ofStep] at hs
  dsimp only at hs
  constructor
  · intro hc
    rw [if_pos hc] at hs
    rw [hs, hE, ht, List.drop_append_of_le_length (by rw [List.length_take]; omega), partF_snoc' a b n (fun e => by have := congrArg List.length e; rw [List.length_drop, List.length_take, List.length_nil] at this; omega), end_drop hf (by omega)]
  · intro hc
    rw [if_neg hc] at hs
    have hd : (l.take i ++ [l[i]]).drop i = [l[i]] := List.drop_left' (by rw [List.length_take]; omega)
    rw [hs, hE, ht, hd, partF_one]
set_option maxRecDepth 8000 in
theorem rof10_snd (a b : List Bs) (l : List Ed) (n : Int) (ha : a.length ≤ 1048576) (hb : b.length ≤ 1048576) (hl : l.length ≤ 1048576) : Snd Tryd.prog (gl m) 24 [.sl .frn 1 (ss a), .sl .frn 1 (ss b), .sl .frn 4 (fs fE l), I n] (.sl .own 3 (hS .own (ofF a b l n))) := by
  refine snd_of (fn := Tryd.f24) (af := rof10) Tryd.func24 (rof10_comp m) mixed (kn_ok m) (Nat.le_of_ble_eq_true rfl) ?_
  simp only [rof10, go_sem, reduceCtorEq, Nat.reduceEqDiff, reduceIte, Nat.reduceAdd, Nat.reduceSub, Nat.reduceLeDiff, Int.reduceToNat, Nat.reduceBEq]
  by_cases h1 : ¬ a.length ≤ 4096
  · rw [ofF, if_neg (fun h => h1 h.1)]
    simp only [igt_t (show (4096 : Int) < ((a.length : Nat) : Int) by omega), rof10_k0_w, rof10_k0', go_sem, reduceCtorEq, Nat.reduceEqDiff, reduceIte, Nat.reduceAdd, Nat.reduceSub, Nat.reduceLeDiff, Int.reduceToNat, Nat.reduceBEq]
    repeat ((with_reducible apply And.intro); (case left => first | omega | (simp only [List.length_append, List.length_cons, List.length_nil, List.length_drop, List.length_take, List.length_tail, List.length_dropLast, fs_length, ss_length, bs_length, ns_length]; omega)))
    first | rfl | omega | trace_state
  have h1 := Classical.not_not.1 h1
  by_cases h2 : ¬ b.length ≤ 4096
  · rw [ofF, if_neg (fun h => h2 h.2.1)]
    simp only [igt_f (show ¬ (4096 : Int) < ((a.length : Nat) : Int) by omega), igt_t (show (4096 : Int) < ((b.length : Nat) : Int) by omega), rof10_k0_w, rof10_k0', go_sem, reduceCtorEq, Nat.reduceEqDiff, reduceIte, Nat.reduceAdd, Nat.reduceSub, Nat.reduceLeDiff, Int.reduceToNat, Nat.reduceBEq]
    repeat ((with_reducible apply And.intro); (case left => first | omega | (simp only [List.length_append, List.length_cons, List.length_nil, List.length_drop, List.length_take, List.length_tail, List.length_dropLast, fs_length, ss_length, bs_length, ns_length]; omega)))
    first | rfl | omega | trace_state
  have h2 := Classical.not_not.1 h2
  simp only [igt_f (show ¬ (4096 : Int) < ((a.length : Nat) : Int) by omega), igt_f (show ¬ (4096 : Int) < ((b.length : Nat) : Int) by omega), go_sem, reduceCtorEq, Nat.reduceEqDiff, reduceIte, Nat.reduceAdd, Nat.reduceSub, Nat.reduceLeDiff, Int.reduceToNat, Nat.reduceBEq]
  repeat ((with_reducible apply And.intro); (case left => first | omega | (simp only [List.length_append, List.length_cons, List.length_nil, List.length_drop, List.length_take, List.length_tail, List.length_dropLast, fs_length, ss_length, bs_length, ns_length]; omega)))
  refine of_call (rright8_snd a b l ha hb hl) ?_
  simp only [go_sem, reduceCtorEq, Nat.reduceEqDiff, reduceIte, Nat.reduceAdd, Nat.reduceSub, Nat.reduceLeDiff, Int.reduceToNat, Nat.reduceBEq]
  repeat ((with_reducible apply And.intro); (case left => first | omega | (simp only [List.length_append, List.length_cons, List.length_nil, List.length_drop, List.length_take, List.length_tail, List.length_dropLast, fs_length, ss_length, bs_length, ns_length]; omega)))
  by_cases h3 : right a b l = true
  rotate_left
  · rw [ofF, if_neg (fun h => h3 h.2.2), Bool.eq_false_iff.2 h3]
    simp only [Bool.not_false, rof10_k0_w, rof10_k0', go_sem, reduceCtorEq, Nat.reduceEqDiff, reduceIte, Nat.reduceAdd, Nat.reduceSub, Nat.reduceLeDiff, Int.reduceToNat, Nat.reduceBEq]
    first | rfl | omega | trace_state
  rw [ofF, if_pos ⟨h1, h2, h3⟩, h3]
  simp only [Bool.not_true, rof10_k0_w, rof10_k0', rof10_k7_w, rof10_k7', go_sem, reduceCtorEq, Nat.reduceEqDiff, reduceIte, Nat.reduceAdd, Nat.reduceSub, Nat.reduceLeDiff, Int.reduceToNat, Nat.reduceBEq]
  have hN : min 64 (max 0 n) = clampN n := rfl
  have hN0 : 0 ≤ clampN n ∧ clampN n ≤ 64 := by rw [clampN]; omega
  rw [hN]
  generalize clampN n = n at hN0
  obtain ⟨hn0, hn1⟩ := hN0
  refine loop_wf (fun x : Nat × List Hk × Nat => l.length + 1 - x.1) (fun x => mkS [(0, .sl .frn 1 (ss a)), (1, .sl .frn 1 (ss b)), (2, .sl .frn 4 (fs fE l)), (9, I n), (10, .sl .own 3 (hS .own x.2.1)), (11, N x.2.2), (12, N x.1)] [])
    (OfInv' a b n l) (1, [], 0) rfl ?_ ?_
  · refine ⟨by omega, by simp, ?_⟩
    cases l with
    | nil => exact .inr ⟨rfl, rfl⟩
    | cons e l => exact .inl ⟨by simp, by simp, by simp [ofI, partF_one, endG]⟩
  rintro ⟨i, out, f⟩ ⟨hi0, hout, hI⟩ ih
  dsimp only at hi0 hout hI ih
  simp only [rof10_l5_w, rof10_l5', go_sem, reduceCtorEq, Nat.reduceEqDiff, reduceIte, Nat.reduceAdd, Nat.reduceSub, Nat.reduceLeDiff, Int.reduceToNat, Nat.reduceBEq]
  repeat ((with_reducible apply And.intro); (case left => first | omega | (simp only [List.length_append, List.length_cons, List.length_nil, List.length_drop, List.length_take, List.length_tail, List.length_dropLast, fs_length, ss_length, bs_length, ns_length]; omega)))
  have qi : IntKind.i64.wrap ((i : Int) + 1) = ((i + 1 : Nat) : Int) := wrapN _ (by rcases hI with h | h <;> omega) (by rcases hI with h | h <;> omega)
  rcases hI with ⟨hil, hf, hI⟩ | ⟨rfl, rfl⟩
  rotate_left
  · simp only [show decide (((l.length + 1 : Nat) : Int) ≤ ((l.length : Nat) : Int)) = false from decide_eq_false (by omega), rof10_k6_w, rof10_k6', go_sem, reduceCtorEq, Nat.reduceEqDiff, reduceIte, Nat.reduceAdd, Nat.reduceSub, Nat.reduceLeDiff, Int.reduceToNat, Nat.reduceBEq]
    first | rfl | omega | trace_state
  have hok := grp_ok h3 hn0 hn1 h1 h2 hl hf hil
  have hsl : ((fs fE l).take i).drop f = fs fE ((l.take i).drop f) := by rw [fs_takeE, fs_dropE]
  simp only [show decide (((i : Nat) : Int) ≤ ((l.length : Nat) : Int)) = true from decide_eq_true (by omega), rof10_k4_w, rof10_k4', go_sem, reduceCtorEq, Nat.reduceEqDiff, reduceIte, Nat.reduceAdd, Nat.reduceSub, Nat.reduceLeDiff, Int.reduceToNat, Nat.reduceBEq]
  have hend := end_drop hf hil
  by_cases hE : i = l.length
  · subst hE
    rw [List.take_length] at hok hend hI
    simp only [eq_t rfl, rof10_k2_w, rof10_k2', go_sem, reduceCtorEq, Nat.reduceEqDiff, reduceIte, Nat.reduceAdd, Nat.reduceSub, Nat.reduceLeDiff, Int.reduceToNat, Nat.reduceBEq]
    repeat ((with_reducible apply And.intro); (case left => first | omega | (simp only [List.length_append, List.length_cons, List.length_nil, List.length_drop, List.length_take, List.length_tail, List.length_dropLast, fs_length, ss_length, bs_length, ns_length]; omega)))
    simp only [Int.toNat_natCast, hsl, go_sem, reduceCtorEq, Nat.reduceEqDiff, reduceIte, Nat.reduceAdd, Nat.reduceSub, Nat.reduceLeDiff, Int.reduceToNat, Nat.reduceBEq]
    repeat ((with_reducible apply And.intro); (case left => first | omega | (simp only [List.length_append, List.length_cons, List.length_nil, List.length_drop, List.length_take, List.length_tail, List.length_dropLast, fs_length, ss_length, bs_length, ns_length]; omega)))
    refine of_call (rone_snd a b n _ hok) ?_
    simp only [go_sem, reduceCtorEq, Nat.reduceEqDiff, reduceIte, Nat.reduceAdd, Nat.reduceSub, Nat.reduceLeDiff, Int.reduceToNat, Nat.reduceBEq]
    repeat ((with_reducible apply And.intro); (case left => first | omega | (simp only [List.length_append, List.length_cons, List.length_nil, List.length_drop, List.length_take, List.length_tail, List.length_dropLast, fs_length, ss_length, bs_length, ns_length]; omega)))
    rw [hend]
    simp only [hS_snocH, rof10_k1_w, rof10_k1', rof10_k3_w, rof10_k3', qi, go_sem, reduceCtorEq, Nat.reduceEqDiff, reduceIte, Nat.reduceAdd, Nat.reduceSub, Nat.reduceLeDiff, Int.reduceToNat, Nat.reduceBEq]
    repeat ((with_reducible apply And.intro); (case left => first | omega | (simp only [List.length_append, List.length_cons, List.length_nil, List.length_drop, List.length_take, List.length_tail, List.length_dropLast, fs_length, ss_length, bs_length, ns_length]; omega)))
    refine ih (l.length + 1, _, l.length) (by dsimp only; omega) ⟨by dsimp only; omega, by simp; omega, .inr ⟨rfl, ?_⟩⟩
    rw [ofW, hI]
  · have g := fs_getE (show i < l.length by omega)
    have g' := fs_getE (show i - 1 < l.length by omega)
    have w0 : IntKind.i64.wrap ((i : Int) - 1) = ((i - 1 : Nat) : Int) := wrapN _ (by omega) (by omega)
    have hs := one_step hi0 hf (show i < l.length by omega) hI
    have he := end_take hi0 hil
    obtain ⟨q, _, hG, _, _⟩ := good_of h3 (show i < l.length by omega)
    obtain ⟨q', _, hG', _, _⟩ := good_of h3 (show i - 1 < l.length by omega)
    have b1 := hG.q0; have b2 := hG.f; have b3 := hG.d; have b4 := hG.fd
    have b5 := hG'.q0; have b6 := hG'.f; have b7 := hG'.d; have b8 := hG'.fd
    rw [he] at hs
    have w1 : IntKind.i64.wrap ((l[i]'(by omega)).1 - (l[i - 1]'(by omega)).1) = (l[i]'(by omega)).1 - (l[i - 1]'(by omega)).1 := wrap_in (by omega) (by omega)
    have w2 : IntKind.i64.wrap ((l[i]'(by omega)).1 - (l[i - 1]'(by omega)).1 - (l[i - 1]'(by omega)).2.1) = (l[i]'(by omega)).1 - (l[i - 1]'(by omega)).1 - (l[i - 1]'(by omega)).2.1 := wrap_in (by omega) (by omega)
    have w3 : IntKind.i64.wrap (2 * n) = 2 * n := wrap_in (by omega) (by omega)
    simp only [eq_f (show ((i : Nat) : Int) ≠ ((l.length : Nat) : Int) by omega), g, w0, g', Int.toNat_natCast, w1, w2, w3, go_sem, reduceCtorEq, Nat.reduceEqDiff, reduceIte, Nat.reduceAdd, Nat.reduceSub, Nat.reduceLeDiff, Int.reduceToNat, Nat.reduceBEq]
    repeat ((with_reducible apply And.intro); (case left => first | omega | (simp only [List.length_append, List.length_cons, List.length_nil, List.length_drop, List.length_take, List.length_tail, List.length_dropLast, fs_length, ss_length, bs_length, ns_length]; omega)))
    by_cases hc : (l[i]'(by omega)).1 - ((l[i - 1]'(by omega)).1 + (l[i - 1]'(by omega)).2.1) ≤ 2 * n
    · simp only [igt_f (show ¬ 2 * n < (l[i]'(by omega)).1 - (l[i - 1]'(by omega)).1 - (l[i - 1]'(by omega)).2.1 by omega), rof10_k2_w, rof10_k2', rof10_k3_w, rof10_k3', qi, go_sem, reduceCtorEq, Nat.reduceEqDiff, reduceIte, Nat.reduceAdd, Nat.reduceSub, Nat.reduceLeDiff, Int.reduceToNat, Nat.reduceBEq]
      exact ih (i + 1, out, f) (by dsimp only; omega) ⟨by dsimp only; omega, by dsimp only; omega, .inl ⟨by dsimp only; omega, by dsimp only; omega, hs.1 hc⟩⟩
    · simp only [igt_t (show 2 * n < (l[i]'(by omega)).1 - (l[i - 1]'(by omega)).1 - (l[i - 1]'(by omega)).2.1 by omega), rof10_k2_w, rof10_k2', go_sem, reduceCtorEq, Nat.reduceEqDiff, reduceIte, Nat.reduceAdd, Nat.reduceSub, Nat.reduceLeDiff, Int.reduceToNat, Nat.reduceBEq]
      repeat ((with_reducible apply And.intro); (case left => first | omega | (simp only [List.length_append, List.length_cons, List.length_nil, List.length_drop, List.length_take, List.length_tail, List.length_dropLast, fs_length, ss_length, bs_length, ns_length]; omega)))
      simp only [Int.toNat_natCast, hsl, go_sem, reduceCtorEq, Nat.reduceEqDiff, reduceIte, Nat.reduceAdd, Nat.reduceSub, Nat.reduceLeDiff, Int.reduceToNat, Nat.reduceBEq]
      repeat ((with_reducible apply And.intro); (case left => first | omega | (simp only [List.length_append, List.length_cons, List.length_nil, List.length_drop, List.length_take, List.length_tail, List.length_dropLast, fs_length, ss_length, bs_length, ns_length]; omega)))
      refine of_call (rone_snd a b n _ hok) ?_
      simp only [go_sem, reduceCtorEq, Nat.reduceEqDiff, reduceIte, Nat.reduceAdd, Nat.reduceSub, Nat.reduceLeDiff, Int.reduceToNat, Nat.reduceBEq]
      repeat ((with_reducible apply And.intro); (case left => first | omega | (simp only [List.length_append, List.length_cons, List.length_nil, List.length_drop, List.length_take, List.length_tail, List.length_dropLast, fs_length, ss_length, bs_length, ns_length]; omega)))
      rw [hend, he]
      simp only [hS_snocH, rof10_k1_w, rof10_k1', rof10_k3_w, rof10_k3', qi, go_sem, reduceCtorEq, Nat.reduceEqDiff, reduceIte, Nat.reduceAdd, Nat.reduceSub, Nat.reduceLeDiff, Int.reduceToNat, Nat.reduceBEq]
      repeat ((with_reducible apply And.intro); (case left => first | omega | (simp only [List.length_append, List.length_cons, List.length_nil, List.length_drop, List.length_take, List.length_tail, List.length_dropLast, fs_length, ss_length, bs_length, ns_length]; omega)))
      exact ih (i + 1, _, i) (by dsimp only; omega) ⟨by dsimp only; omega, by simp; omega, .inl ⟨by dsimp only; omega, by dsimp only; omega, hs.2 hc⟩⟩
end Go.Hk

