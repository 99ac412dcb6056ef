import Derived.Test.YtcahaecjjochbaaDoorAtGa
set_option linter.unusedVariables false
set_option linter.unusedSimpArgs false
/- Glob: the reference's signs. -/
namespace Go.Gb
open Go.At (gl kn kn_ok tab0 mixed index1 indexByte hasPrefix trimSuffix replaceAll)
open Go Go.Ev Go.Proofs
open Go.Ln (u8b_t u8b_f u8n_t u8n_f getX idx idx_eq idx_of idx_none)
set_option linter.unusedVariables false
set_option linter.unusedSimpArgs false
attribute [local go_sem] eqs implies_true List.map_cons List.map_nil kl klL roD roL Option.map_some Option.map_none Option.getD_some Option.getD_none binVal binObl unVal if_true if_false eq_self passA frnD resD content getH getR getW viaNot viaSlot viaBox viaDeep viaMem List.contains_cons List.contains_nil grabs peeks okCells isCell place cellsOf chunk elt List.headD_cons List.length_cons List.length_nil List.take_succ_cons List.take_zero List.drop_succ_cons List.drop_zero List.nil_append List.cons_append List.append_nil List.all_cons List.all_nil plainC takeR setW over reCell List.getElem?_cons_zero List.getElem?_cons_succ List.set_cons_zero List.take_length outV resG plainV pack outVG outBx List.set_cons_succ Ref.idx Ref.addOff beq_self_eq_true bxL Option.bind_some writeR isLit viaBoxes capsPA boxPA nsOf noDup boxesAt argG passG passD rhoIn rhoOut idxIn tr trL List.getD_cons_zero gives pasOf isPtr Ins.d List.getD_cons_succ resL frnL
variable {m : Int}
def rclass_l0' : AC := .seq (.seq (.reg (.seq [⟨some (28, false), none, .mov (.tmp 5 true) .peek⟩,⟨some (29, false), none, .mov (.tmp 0 true) .peek⟩,⟨some (30, false), none, .len (.tmp 29 false)⟩,⟨some (31, false), none, .bin .lss (.tmp 28 false) (.tmp 30 false)⟩])) [0, 5, 6, 31] []
  (.cond (.tmp 31 false)
    (.skip)
    (.exit 0))) [0, 5, 6] []
  (.block 1 (.seq (.seq (.reg (.seq [⟨some (32, false), none, .mov (.tmp 0 true) .peek⟩,⟨some (33, false), none, .mov (.tmp 5 true) .peek⟩,⟨some (34, false), none, .idx (.tmp 32 false) (.tmp 33 false)⟩,⟨some (35, false), none, .bin .eql (.tmp 34 false) (.cst (.int .u8 93) (.lit (.int .u8 93)))⟩,⟨some (36, false), none, .mov (.tmp 35 false) .peek⟩,⟨some (37, false), (some (36, true)), .mov (.tmp 5 true) .peek⟩,⟨some (38, false), (some (36, true)), .mov (.tmp 6 true) .peek⟩,⟨some (39, false), (some (36, true)), .bin .gtr (.tmp 37 false) (.tmp 38 false)⟩,⟨some (40, false), none, .pick (.tmp 36 false) (.tmp 39 false) (.cst (.bool false) (.lit (.bool false)))⟩])) [0, 5, 6, 40] []
    (.cond (.tmp 40 false)
      (.seq (.reg (.seq [⟨some (41, false), none, .mov (.tmp 5 true) .peek⟩,⟨some (42, false), none, .bin .add (.tmp 41 false) (.cst (.int .i64 1) (.lit (.int .i64 1)))⟩,⟨some (4, true), none, .mov (.tmp 42 false) .asg⟩])) [4] []
      (.ret))
      (.skip))) [0, 5, 6] []
    (.seq (.seq (.reg (.seq [⟨some (43, false), none, .mov (.tmp 0 true) .peek⟩,⟨some (44, false), none, .mov (.tmp 5 true) .peek⟩,⟨some (45, false), none, .idx (.tmp 43 false) (.tmp 44 false)⟩,⟨some (46, false), none, .bin .eql (.tmp 45 false) (.cst (.int .u8 92) (.lit (.int .u8 92)))⟩])) [0, 5, 6, 46] []
    (.cond (.tmp 46 false)
      (.reg (.seq [⟨some (47, false), none, .mov (.tmp 5 true) .peek⟩,⟨some (48, false), none, .bin .add (.tmp 47 false) (.cst (.int .i64 1) (.lit (.int .i64 1)))⟩,⟨some (5, true), none, .mov (.tmp 48 false) .asg⟩]))
      (.skip))) [0, 5, 6] []
    (.reg (.seq [⟨some (49, false), none, .mov (.tmp 5 true) .peek⟩,⟨some (50, false), none, .bin .add (.tmp 49 false) (.cst (.int .i64 1) (.lit (.int .i64 1)))⟩,⟨some (5, true), none, .mov (.tmp 50 false) .asg⟩])))))
def rclass_l0 : AC := rclass_l0'
theorem rclass_l0_w (C : Kn) (K : Ex → St → Prop) (s : St) : vcC C rclass_l0 K s = vcC C rclass_l0' K s := nr rfl
def rclass_k1' : AC := .seq (.reg (.seq [⟨some (4, true), none, .mov (.cst (.int .i64 (-1)) (.lit (.int .i64 (-1)))) .asg⟩])) [4] []
  (.ret)
def rclass_k1 : AC := rclass_k1'
theorem rclass_k1_w (C : Kn) (K : Ex → St → Prop) (s : St) : vcC C rclass_k1 K s = vcC C rclass_k1' K s := nr rfl
def rclass : AF := ⟨.seq (.reg (.seq [⟨some (4, true), none, .mov (.cst (.int .i64 0) (.lit (.int .i64 0))) .asg⟩])) [0, 1] []
  (.seq (.reg (.seq [⟨some (7, false), none, .mov (.tmp 1 true) .peek⟩,⟨some (8, false), none, .bin .add (.tmp 7 false) (.cst (.int .i64 1) (.lit (.int .i64 1)))⟩,⟨some (5, true), none, .mov (.tmp 8 false) .asg⟩])) [0, 5] []
  (.seq (.seq (.reg (.seq [⟨some (9, false), none, .mov (.tmp 5 true) .peek⟩,⟨some (10, false), none, .mov (.tmp 0 true) .peek⟩,⟨some (11, false), none, .len (.tmp 10 false)⟩,⟨some (12, false), none, .bin .lss (.tmp 9 false) (.tmp 11 false)⟩,⟨some (13, false), none, .mov (.tmp 12 false) .peek⟩,⟨some (14, false), (some (13, true)), .mov (.tmp 0 true) .peek⟩,⟨some (15, false), (some (13, true)), .mov (.tmp 5 true) .peek⟩,⟨some (16, false), (some (13, true)), .idx (.tmp 14 false) (.tmp 15 false)⟩,⟨some (17, false), (some (13, true)), .bin .eql (.tmp 16 false) (.cst (.int .u8 33) (.lit (.int .u8 33)))⟩,⟨some (18, false), (some (13, true)), .mov (.tmp 17 false) .peek⟩,⟨some (19, false), (some (18, false)), .mov (.tmp 0 true) .peek⟩,⟨some (20, false), (some (18, false)), .mov (.tmp 5 true) .peek⟩,⟨some (21, false), (some (18, false)), .idx (.tmp 19 false) (.tmp 20 false)⟩,⟨some (22, false), (some (18, false)), .bin .eql (.tmp 21 false) (.cst (.int .u8 94) (.lit (.int .u8 94)))⟩,⟨some (23, false), (some (13, true)), .pick (.tmp 18 false) (.cst (.bool true) (.lit (.bool true))) (.tmp 22 false)⟩,⟨some (24, false), none, .pick (.tmp 13 false) (.tmp 23 false) (.cst (.bool false) (.lit (.bool false)))⟩])) [0, 5, 24] []
  (.cond (.tmp 24 false)
    (.reg (.seq [⟨some (25, false), none, .mov (.tmp 5 true) .peek⟩,⟨some (26, false), none, .bin .add (.tmp 25 false) (.cst (.int .i64 1) (.lit (.int .i64 1)))⟩,⟨some (5, true), none, .mov (.tmp 26 false) .asg⟩]))
    (.skip))) [0, 5] []
  (.seq (.reg (.seq [⟨some (27, false), none, .mov (.tmp 5 true) .take⟩,⟨some (6, true), none, .mov (.tmp 27 false) .asg⟩])) [0, 5, 6] []
  (.seq (.block 0 (.loop [0, 5, 6] [] rclass_l0)) [] [] rclass_k1)))),
  [.tmp 4]⟩
theorem rclass_comp (m : Int) : compF Tryd.prog (gl m) [] Tryd.f129 = some rclass := by kernel_rfl
def signs_l0' : AC := .seq (.seq (.reg (.seq [⟨some (7, false), none, .mov (.tmp 5 true) .peek⟩,⟨some (8, false), none, .mov (.tmp 0 true) .peek⟩,⟨some (9, false), none, .len (.tmp 8 false)⟩,⟨some (10, false), none, .bin .lss (.tmp 7 false) (.tmp 9 false)⟩])) [0, 4, 5, 10] []
  (.cond (.tmp 10 false)
    (.skip)
    (.exit 0))) [0, 4, 5] []
  (.block 1 (.seq (.reg (.seq [⟨some (11, false), none, .mov (.tmp 5 true) .peek⟩,⟨some (12, false), none, .bin .add (.tmp 11 false) (.cst (.int .i64 1) (.lit (.int .i64 1)))⟩,⟨some (6, true), none, .mov (.tmp 12 false) .asg⟩])) [0, 4, 5, 6] []
    (.seq (.seq (.reg (.seq [⟨some (13, false), none, .mov (.tmp 0 true) .peek⟩,⟨some (14, false), none, .mov (.tmp 5 true) .peek⟩,⟨some (15, false), none, .idx (.tmp 13 false) (.tmp 14 false)⟩,⟨some (16, false), none, .bin .eql (.tmp 15 false) (.cst (.int .u8 92) (.lit (.int .u8 92)))⟩])) [0, 4, 5, 6, 16] []
    (.cond (.tmp 16 false)
      (.reg (.seq [⟨some (17, false), none, .mov (.tmp 5 true) .peek⟩,⟨some (18, false), none, .bin .add (.tmp 17 false) (.cst (.int .i64 2) (.lit (.int .i64 2)))⟩,⟨some (6, true), none, .mov (.tmp 18 false) .asg⟩]))
      (.seq (.reg (.seq [⟨some (19, false), none, .mov (.tmp 0 true) .peek⟩,⟨some (20, false), none, .mov (.tmp 5 true) .peek⟩,⟨some (21, false), none, .idx (.tmp 19 false) (.tmp 20 false)⟩,⟨some (22, false), none, .bin .eql (.tmp 21 false) (.cst (.int .u8 91) (.lit (.int .u8 91)))⟩])) [0, 4, 5, 6, 22] []
      (.cond (.tmp 22 false)
        (.reg (.seq [⟨some (23, false), none, .mov (.tmp 0 true) .peek⟩,⟨some (24, false), none, .mov (.tmp 5 true) .peek⟩,⟨some (25, false), none, .call 129 [.tmp 23 false, .tmp 24 false]⟩,⟨some (6, true), none, .mov (.tmp 25 false) .asg⟩]))
        (.skip))))) [0, 4, 5, 6] []
    (.seq (.seq (.reg (.seq [⟨some (26, false), none, .mov (.tmp 6 true) .peek⟩,⟨some (27, false), none, .bin .lss (.tmp 26 false) (.cst (.int .i64 0) (.lit (.int .i64 0)))⟩,⟨some (28, false), none, .mov (.tmp 27 false) .peek⟩,⟨some (29, false), (some (28, false)), .mov (.tmp 6 true) .peek⟩,⟨some (30, false), (some (28, false)), .mov (.tmp 0 true) .peek⟩,⟨some (31, false), (some (28, false)), .len (.tmp 30 false)⟩,⟨some (32, false), (some (28, false)), .bin .gtr (.tmp 29 false) (.tmp 31 false)⟩,⟨some (33, false), none, .pick (.tmp 28 false) (.cst (.bool true) (.lit (.bool true))) (.tmp 32 false)⟩])) [0, 4, 5, 6, 33] []
    (.cond (.tmp 33 false)
      (.seq (.reg (.seq [⟨some (2, true), none, .mov (.cst (.slice none 0 0) (.sl .own 1 [])) .asg⟩,⟨some (3, true), none, .mov (.cst (.bool false) (.lit (.bool false))) .asg⟩])) [2, 3, 4] []
      (.ret))
      (.skip))) [0, 4, 5, 6] []
    (.seq (.reg (.seq [⟨some (34, false), none, .mov (.tmp 4 true) .take⟩,⟨some (35, false), none, .mov (.tmp 0 true) .peek⟩,⟨some (36, false), none, .mov (.tmp 5 true) .peek⟩,⟨some (37, false), none, .mov (.tmp 6 true) .peek⟩,⟨some (38, false), none, .sub (.tmp 35 false) (some (.tmp 36 false)) (some (.tmp 37 false))⟩,⟨some (39, false), none, .buildS 1 1 [(.lit (.string (str [])))] [(0, 1, (.tmp 38 false))]⟩,⟨some (40, false), none, .app 1 16 (.tmp 34 false) (.tmp 39 false)⟩,⟨some (4, true), none, .mov (.tmp 40 false) .asg⟩])) [0, 4, 6] []
    (.reg (.seq [⟨some (41, false), none, .mov (.tmp 6 true) .take⟩,⟨some (5, true), none, .mov (.tmp 41 false) .asg⟩])))))))
def signs_l0 : AC := signs_l0'
theorem signs_l0_w (C : Kn) (K : Ex → St → Prop) (s : St) : vcC C signs_l0 K s = vcC C signs_l0' K s := nr rfl
def signs_k1' : AC := .seq (.reg (.seq [⟨some (42, false), none, .mov (.tmp 4 true) .take⟩,⟨some (43, false), none, .mov (.tmp 4 true) .peek⟩,⟨some (44, false), none, .lenL (.tmp 43 false)⟩,⟨some (45, false), none, .bin .gtr (.tmp 44 false) (.cst (.int .i64 0) (.lit (.int .i64 0)))⟩,⟨some (2, true), none, .mov (.tmp 42 false) .asg⟩,⟨some (3, true), none, .mov (.tmp 45 false) .asg⟩])) [2, 3, 4] []
  (.ret)
def signs_k1 : AC := signs_k1'
theorem signs_k1_w (C : Kn) (K : Ex → St → Prop) (s : St) : vcC C signs_k1 K s = vcC C signs_k1' K s := nr rfl
def signs : AF := ⟨.seq (.reg (.seq [⟨some (2, true), none, .mov (.cst (.slice none 0 0) (.sl .own 1 [])) .asg⟩,⟨some (3, true), none, .mov (.cst (.bool false) (.lit (.bool false))) .asg⟩])) [0] []
  (.seq (.reg (.seq [⟨some (4, true), none, .mov (.cst (.slice none 0 0) (.sl .own 1 [])) .asg⟩])) [0, 4] []
  (.seq (.reg (.seq [⟨some (5, true), none, .mov (.cst (.int .i64 0) (.lit (.int .i64 0))) .asg⟩])) [0, 4, 5] []
  (.seq (.block 0 (.loop [0, 4, 5] [] signs_l0)) [4] [] signs_k1))),
  [.tmp 2, .tmp 3]⟩
theorem signs_comp (m : Int) : compF Tryd.prog (gl m) [] Tryd.f107 = some signs := by kernel_rfl
def said_l0' : AC := .seq (.seq (.reg (.seq [⟨some (8, false), none, .mov (.tmp 5 true) .peek⟩,⟨some (9, false), none, .mov (.tmp 0 true) .peek⟩,⟨some (10, false), none, .len (.tmp 9 false)⟩,⟨some (11, false), none, .bin .lss (.tmp 8 false) (.tmp 10 false)⟩])) [0, 1, 5, 11] []
  (.cond (.tmp 11 false)
    (.skip)
    (.exit 0))) [0, 1, 5] []
  (.block 1 (.seq (.seq (.reg (.seq [⟨some (12, false), none, .mov (.tmp 0 true) .peek⟩,⟨some (13, false), none, .mov (.tmp 5 true) .peek⟩,⟨some (14, false), none, .idx (.tmp 12 false) (.tmp 13 false)⟩,⟨some (15, false), none, .bin .eql (.tmp 14 false) (.cst (.int .u8 92) (.lit (.int .u8 92)))⟩])) [0, 1, 5, 15] []
    (.cond (.tmp 15 false)
      (.reg (.seq [⟨some (16, false), none, .mov (.tmp 5 true) .peek⟩,⟨some (17, false), none, .bin .add (.tmp 16 false) (.cst (.int .i64 1) (.lit (.int .i64 1)))⟩,⟨some (5, true), none, .mov (.tmp 17 false) .asg⟩]))
      (.skip))) [0, 1, 5] []
    (.seq (.reg (.seq [⟨some (18, false), none, .mov (.tmp 0 true) .peek⟩,⟨some (19, false), none, .mov (.tmp 5 true) .peek⟩,⟨some (20, false), none, .idx (.tmp 18 false) (.tmp 19 false)⟩,⟨some (6, true), none, .mov (.tmp 20 false) .asg⟩])) [0, 1, 5, 6] []
    (.seq (.reg (.seq [⟨some (21, false), none, .mov (.tmp 6 true) .take⟩,⟨some (7, true), none, .mov (.tmp 21 false) .asg⟩])) [0, 1, 5, 6, 7] []
    (.seq (.reg (.seq [⟨some (22, false), none, .mov (.tmp 5 true) .peek⟩,⟨some (23, false), none, .bin .add (.tmp 22 false) (.cst (.int .i64 1) (.lit (.int .i64 1)))⟩,⟨some (5, true), none, .mov (.tmp 23 false) .asg⟩])) [0, 1, 5, 6, 7] []
    (.seq (.seq (.reg (.seq [⟨some (24, false), none, .mov (.tmp 5 true) .peek⟩,⟨some (25, false), none, .bin .add (.tmp 24 false) (.cst (.int .i64 1) (.lit (.int .i64 1)))⟩,⟨some (26, false), none, .mov (.tmp 0 true) .peek⟩,⟨some (27, false), none, .len (.tmp 26 false)⟩,⟨some (28, false), none, .bin .lss (.tmp 25 false) (.tmp 27 false)⟩,⟨some (29, false), none, .mov (.tmp 28 false) .peek⟩,⟨some (30, false), (some (29, true)), .mov (.tmp 0 true) .peek⟩,⟨some (31, false), (some (29, true)), .mov (.tmp 5 true) .peek⟩,⟨some (32, false), (some (29, true)), .idx (.tmp 30 false) (.tmp 31 false)⟩,⟨some (33, false), (some (29, true)), .bin .eql (.tmp 32 false) (.cst (.int .u8 45) (.lit (.int .u8 45)))⟩,⟨some (34, false), none, .pick (.tmp 29 false) (.tmp 33 false) (.cst (.bool false) (.lit (.bool false)))⟩])) [0, 1, 5, 6, 7, 34] []
    (.cond (.tmp 34 false)
      (.seq (.reg (.seq [⟨some (35, false), none, .mov (.tmp 5 true) .peek⟩,⟨some (36, false), none, .bin .add (.tmp 35 false) (.cst (.int .i64 1) (.lit (.int .i64 1)))⟩,⟨some (5, true), none, .mov (.tmp 36 false) .asg⟩])) [0, 1, 5, 6] []
      (.seq (.seq (.reg (.seq [⟨some (37, false), none, .mov (.tmp 0 true) .peek⟩,⟨some (38, false), none, .mov (.tmp 5 true) .peek⟩,⟨some (39, false), none, .idx (.tmp 37 false) (.tmp 38 false)⟩,⟨some (40, false), none, .bin .eql (.tmp 39 false) (.cst (.int .u8 92) (.lit (.int .u8 92)))⟩])) [0, 1, 5, 6, 40] []
      (.cond (.tmp 40 false)
        (.reg (.seq [⟨some (41, false), none, .mov (.tmp 5 true) .peek⟩,⟨some (42, false), none, .bin .add (.tmp 41 false) (.cst (.int .i64 1) (.lit (.int .i64 1)))⟩,⟨some (5, true), none, .mov (.tmp 42 false) .asg⟩]))
        (.skip))) [0, 1, 5, 6] []
      (.seq (.reg (.seq [⟨some (43, false), none, .mov (.tmp 0 true) .peek⟩,⟨some (44, false), none, .mov (.tmp 5 true) .peek⟩,⟨some (45, false), none, .idx (.tmp 43 false) (.tmp 44 false)⟩,⟨some (7, true), none, .mov (.tmp 45 false) .asg⟩])) [0, 1, 5, 6, 7] []
      (.reg (.seq [⟨some (46, false), none, .mov (.tmp 5 true) .peek⟩,⟨some (47, false), none, .bin .add (.tmp 46 false) (.cst (.int .i64 1) (.lit (.int .i64 1)))⟩,⟨some (5, true), none, .mov (.tmp 47 false) .asg⟩])))))
      (.skip))) [0, 1, 5, 6, 7] []
    (.seq (.reg (.seq [⟨some (48, false), none, .mov (.tmp 6 true) .peek⟩,⟨some (49, false), none, .mov (.tmp 1 true) .peek⟩,⟨some (50, false), none, .bin .leq (.tmp 48 false) (.tmp 49 false)⟩,⟨some (51, false), none, .mov (.tmp 50 false) .peek⟩,⟨some (52, false), (some (51, true)), .mov (.tmp 1 true) .peek⟩,⟨some (53, false), (some (51, true)), .mov (.tmp 7 true) .peek⟩,⟨some (54, false), (some (51, true)), .bin .leq (.tmp 52 false) (.tmp 53 false)⟩,⟨some (55, false), none, .pick (.tmp 51 false) (.tmp 54 false) (.cst (.bool false) (.lit (.bool false)))⟩])) [0, 1, 5, 55] []
    (.cond (.tmp 55 false)
      (.seq (.reg (.seq [⟨some (4, true), none, .mov (.cst (.bool true) (.lit (.bool true))) .asg⟩])) [4] []
      (.ret))
      (.skip)))))))))
def said_l0 : AC := said_l0'
theorem said_l0_w (C : Kn) (K : Ex → St → Prop) (s : St) : vcC C said_l0 K s = vcC C said_l0' K s := nr rfl
def said_k1' : AC := .seq (.reg (.seq [⟨some (4, true), none, .mov (.cst (.bool false) (.lit (.bool false))) .asg⟩])) [4] []
  (.ret)
def said_k1 : AC := said_k1'
theorem said_k1_w (C : Kn) (K : Ex → St → Prop) (s : St) : vcC C said_k1 K s = vcC C said_k1' K s := nr rfl
def said : AF := ⟨.seq (.reg (.seq [⟨some (4, true), none, .mov (.cst (.bool false) (.lit (.bool false))) .asg⟩])) [0, 1] []
  (.seq (.reg (.seq [⟨some (5, true), none, .mov (.cst (.int .i64 0) (.lit (.int .i64 0))) .asg⟩])) [0, 1, 5] []
  (.seq (.block 0 (.loop [0, 1, 5] [] said_l0)) [] [] said_k1)),
  [.tmp 4]⟩
theorem said_comp (m : Int) : compF Tryd.prog (gl m) [] Tryd.f146 = some said := by kernel_rfl
def rone : AF := ⟨.seq (.reg (.seq [⟨some (4, true), none, .mov (.cst (.bool false) (.lit (.bool false))) .asg⟩])) [0, 1] []
  (.seq (.seq (.reg (.seq [⟨some (6, false), none, .mov (.tmp 0 true) .peek⟩,⟨some (7, false), none, .bin .eql (.tmp 6 false) (.cst (.string (str [63])) (.lit (.string (str [63]))))⟩])) [0, 1, 7] []
  (.cond (.tmp 7 false)
    (.seq (.reg (.seq [⟨some (4, true), none, .mov (.cst (.bool true) (.lit (.bool true))) .asg⟩])) [4] []
    (.ret))
    (.skip))) [0, 1] []
  (.seq (.seq (.reg (.seq [⟨some (8, false), none, .mov (.tmp 0 true) .peek⟩,⟨some (9, false), none, .idx (.tmp 8 false) (.cst (.int .i64 0) (.lit (.int .i64 0)))⟩,⟨some (10, false), none, .bin .eql (.tmp 9 false) (.cst (.int .u8 92) (.lit (.int .u8 92)))⟩])) [0, 1, 10] []
  (.cond (.tmp 10 false)
    (.seq (.reg (.seq [⟨some (11, false), none, .mov (.tmp 0 true) .peek⟩,⟨some (12, false), none, .idx (.tmp 11 false) (.cst (.int .i64 1) (.lit (.int .i64 1)))⟩,⟨some (13, false), none, .mov (.tmp 1 true) .peek⟩,⟨some (14, false), none, .bin .eql (.tmp 12 false) (.tmp 13 false)⟩,⟨some (4, true), none, .mov (.tmp 14 false) .asg⟩])) [4] []
    (.ret))
    (.skip))) [0, 1] []
  (.seq (.seq (.reg (.seq [⟨some (15, false), none, .mov (.tmp 0 true) .peek⟩,⟨some (16, false), none, .len (.tmp 15 false)⟩,⟨some (17, false), none, .bin .eql (.tmp 16 false) (.cst (.int .i64 1) (.lit (.int .i64 1)))⟩])) [0, 1, 17] []
  (.cond (.tmp 17 false)
    (.seq (.reg (.seq [⟨some (18, false), none, .mov (.tmp 0 true) .peek⟩,⟨some (19, false), none, .idx (.tmp 18 false) (.cst (.int .i64 0) (.lit (.int .i64 0)))⟩,⟨some (20, false), none, .mov (.tmp 1 true) .peek⟩,⟨some (21, false), none, .bin .eql (.tmp 19 false) (.tmp 20 false)⟩,⟨some (4, true), none, .mov (.tmp 21 false) .asg⟩])) [4] []
    (.ret))
    (.skip))) [0, 1] []
  (.seq (.reg (.seq [⟨some (22, false), none, .mov (.tmp 0 true) .peek⟩,⟨some (23, false), none, .mov (.tmp 0 true) .peek⟩,⟨some (24, false), none, .len (.tmp 23 false)⟩,⟨some (25, false), none, .bin .sub (.tmp 24 false) (.cst (.int .i64 1) (.lit (.int .i64 1)))⟩,⟨some (26, false), none, .sub (.tmp 22 false) (some (.cst (.int .i64 1) (.lit (.int .i64 1)))) (some (.tmp 25 false))⟩,⟨some (5, true), none, .mov (.tmp 26 false) .asg⟩])) [1, 5] []
  (.seq (.seq (.reg (.seq [⟨some (27, false), none, .mov (.tmp 5 true) .peek⟩,⟨some (28, false), none, .idx (.tmp 27 false) (.cst (.int .i64 0) (.lit (.int .i64 0)))⟩,⟨some (29, false), none, .bin .eql (.tmp 28 false) (.cst (.int .u8 33) (.lit (.int .u8 33)))⟩,⟨some (30, false), none, .mov (.tmp 29 false) .peek⟩,⟨some (31, false), (some (30, false)), .mov (.tmp 5 true) .peek⟩,⟨some (32, false), (some (30, false)), .idx (.tmp 31 false) (.cst (.int .i64 0) (.lit (.int .i64 0)))⟩,⟨some (33, false), (some (30, false)), .bin .eql (.tmp 32 false) (.cst (.int .u8 94) (.lit (.int .u8 94)))⟩,⟨some (34, false), none, .pick (.tmp 30 false) (.cst (.bool true) (.lit (.bool true))) (.tmp 33 false)⟩])) [1, 5, 34] []
  (.cond (.tmp 34 false)
    (.seq (.reg (.seq [⟨some (35, false), none, .mov (.tmp 5 true) .peek⟩,⟨some (36, false), none, .sub (.tmp 35 false) (some (.cst (.int .i64 1) (.lit (.int .i64 1)))) none⟩,⟨some (37, false), none, .mov (.tmp 1 true) .peek⟩,⟨some (38, false), none, .call 146 [.tmp 36 false, .tmp 37 false]⟩,⟨some (39, false), none, .un .not (.tmp 38 false)⟩,⟨some (4, true), none, .mov (.tmp 39 false) .asg⟩])) [4] []
    (.ret))
    (.skip))) [1, 5] []
  (.seq (.reg (.seq [⟨some (40, false), none, .mov (.tmp 5 true) .peek⟩,⟨some (41, false), none, .mov (.tmp 1 true) .peek⟩,⟨some (42, false), none, .call 146 [.tmp 40 false, .tmp 41 false]⟩,⟨some (4, true), none, .mov (.tmp 42 false) .asg⟩])) [4] []
  (.ret))))))),
  [.tmp 4]⟩
theorem rone_comp (m : Int) : compF Tryd.prog (gl m) [] Tryd.f130 = some rone := by kernel_rfl
def rwhole : AF := ⟨.seq (.reg (.seq [⟨some (4, true), none, .mov (.cst (.bool false) (.lit (.bool false))) .asg⟩])) [0, 1] []
  (.seq (.seq (.reg (.seq [⟨some (5, false), none, .mov (.tmp 0 true) .peek⟩,⟨some (6, false), none, .lenL (.tmp 5 false)⟩,⟨some (7, false), none, .bin .eql (.tmp 6 false) (.cst (.int .i64 0) (.lit (.int .i64 0)))⟩])) [0, 1, 7] []
  (.cond (.tmp 7 false)
    (.seq (.reg (.seq [⟨some (8, false), none, .mov (.tmp 1 true) .peek⟩,⟨some (9, false), none, .bin .eql (.tmp 8 false) (.cst (.string (str [])) (.lit (.string (str []))))⟩,⟨some (4, true), none, .mov (.tmp 9 false) .asg⟩])) [4] []
    (.ret))
    (.skip))) [0, 1] []
  (.seq (.seq (.reg (.seq [⟨some (10, false), none, .mov (.tmp 0 true) .peek⟩,⟨some (11, false), none, .iad (.tmp 10 false) (.cst (.int .i64 0) (.lit (.int .i64 0))) 1⟩,⟨some (12, false), none, .load (.tmp 11 false) 1 false false⟩,⟨some (13, false), none, .bin .eql (.tmp 12 false) (.cst (.string (str [42])) (.lit (.string (str [42]))))⟩])) [0, 1, 13] []
  (.cond (.tmp 13 false)
    (.seq (.reg (.seq [⟨some (14, false), none, .mov (.tmp 0 true) .peek⟩,⟨some (15, false), none, .slc 1 (.tmp 14 false) (some (.cst (.int .i64 1) (.lit (.int .i64 1)))) none⟩,⟨some (16, false), none, .mov (.tmp 1 true) .peek⟩,⟨some (17, false), none, .call 108 [.tmp 15 false, .tmp 16 false]⟩,⟨some (18, false), none, .mov (.tmp 17 false) .peek⟩,⟨some (19, false), (some (18, false)), .mov (.tmp 1 true) .peek⟩,⟨some (20, false), (some (18, false)), .bin .neq (.tmp 19 false) (.cst (.string (str [])) (.lit (.string (str []))))⟩,⟨some (21, false), (some (18, false)), .mov (.tmp 20 false) .peek⟩,⟨some (22, false), (some (21, true)), .mov (.tmp 0 true) .peek⟩,⟨some (23, false), (some (21, true)), .mov (.tmp 1 true) .peek⟩,⟨some (24, false), (some (21, true)), .sub (.tmp 23 false) (some (.cst (.int .i64 1) (.lit (.int .i64 1)))) none⟩,⟨some (25, false), (some (21, true)), .call 108 [.tmp 22 false, .tmp 24 false]⟩,⟨some (26, false), (some (18, false)), .pick (.tmp 21 false) (.tmp 25 false) (.cst (.bool false) (.lit (.bool false)))⟩,⟨some (27, false), none, .pick (.tmp 18 false) (.cst (.bool true) (.lit (.bool true))) (.tmp 26 false)⟩,⟨some (4, true), none, .mov (.tmp 27 false) .asg⟩])) [4] []
    (.ret))
    (.skip))) [0, 1] []
  (.seq (.reg (.draw [⟨some (28, false), none, .mov (.tmp 1 true) .peek⟩,⟨some (29, false), none, .bin .neq (.tmp 28 false) (.cst (.string (str [])) (.lit (.string (str []))))⟩,⟨some (30, false), none, .mov (.tmp 29 false) .peek⟩,⟨some (31, false), (some (30, true)), .mov (.tmp 0 true) .peek⟩,⟨some (32, false), (some (30, true)), .iad (.tmp 31 false) (.cst (.int .i64 0) (.lit (.int .i64 0))) 1⟩,⟨some (33, false), (some (30, true)), .load (.tmp 32 false) 1 false false⟩,⟨some (34, false), (some (30, true)), .mov (.tmp 1 true) .peek⟩,⟨some (35, false), (some (30, true)), .idx (.tmp 34 false) (.cst (.int .i64 0) (.lit (.int .i64 0)))⟩,⟨some (36, false), (some (30, true)), .call 130 [.tmp 33 false, .tmp 35 false]⟩,⟨some (37, false), none, .pick (.tmp 30 false) (.tmp 36 false) (.cst (.bool false) (.lit (.bool false)))⟩,⟨some (38, false), none, .mov (.tmp 37 false) .peek⟩,⟨some (39, false), (some (38, true)), .mov (.tmp 0 true) .peek⟩,⟨some (40, false), (some (38, true)), .slc 1 (.tmp 39 false) (some (.cst (.int .i64 1) (.lit (.int .i64 1)))) none⟩,⟨some (41, false), (some (38, true)), .mov (.tmp 1 true) .peek⟩,⟨some (42, false), (some (38, true)), .sub (.tmp 41 false) (some (.cst (.int .i64 1) (.lit (.int .i64 1)))) none⟩,⟨some (43, false), (some (38, true)), .call 108 [.tmp 40 false, .tmp 42 false]⟩,⟨some (44, false), none, .pick (.tmp 38 false) (.tmp 43 false) (.cst (.bool false) (.lit (.bool false)))⟩] (.alt ⟨some (4, true), none, .mov (.tmp 44 false) .asg⟩ []
      .done .no))) [4] []
  (.ret)))),
  [.tmp 4]⟩
theorem rwhole_comp (m : Int) : compF Tryd.prog (gl m) [] Tryd.f108 = some rwhole := by kernel_rfl
def cend (p : Ln.Bs) (o : Option Ln.Bs) : Int := match o with | none => -1 | some R => ((p.length - R.length : Nat) : Int)
theorem rclass_loop (p : Ln.Bs) (hp : p.length ≤ 1048576) (f : Nat) (n : Nat) : ∀ (i : Nat) (hn : p.length + 1 - i ≤ n) (hf : f ≤ i) (hi : i ≤ p.length + 1),
    vcL (kn m) [0, 5, 6] [] rclass_l0 (blockK 0 (seqK (kn m) [] [] rclass_k1 (outOk [.tmp 4] (I (cend p (scan (decide (i = f)) (p.drop i))))))) (mkS [(0, S p), (5, N i), (6, N f)] []) := by
  induction n with
  | zero =>
    intro i hn hf hi
    have e : scan (decide (i = f)) (p.drop i) = none := by rw [List.drop_of_length_le (by omega), scan_nil]
    rw [e]
    apply round
    simp only [rclass_l0_w, rclass_l0', go_sem, reduceCtorEq, Nat.reduceEqDiff, reduceIte, Nat.reduceAdd, Nat.reduceSub, Nat.reduceLeDiff, Int.reduceToNat, Nat.reduceBEq]
    rw [lt_f (by omega)]
    simp only [rclass_k1_w, rclass_k1', go_sem, reduceCtorEq, Nat.reduceEqDiff, reduceIte, Nat.reduceAdd, Nat.reduceSub, Nat.reduceLeDiff, Int.reduceToNat, Nat.reduceBEq]
    rfl
  | succ n ih =>
    intro i hn hf hi
    by_cases hil : i < p.length
    · have hw : IntKind.i64.wrap ((i : Int) + 1) = ((i + 1 : Nat) : Int) := wrapN (i + 1) (by omega) (by omega)
      have hw2 : IntKind.i64.wrap (((i + 1 : Nat) : Int) + 1) = ((i + 2 : Nat) : Int) := wrapN (i + 2) (by omega) (by omega)
      have hsc : scan (decide (i = f)) (p.drop i) = if p[i] = 93 ∧ decide (i = f) = false then some (p.drop (i + 1)) else if p[i] = 92 then scan false (p.drop (i + 2)) else scan false (p.drop (i + 1)) := by
        rw [List.drop_eq_getElem_cons hil, scan_cons, List.tail_drop]
      rw [hsc]
      have i1 := ih (i + 1) (by omega) (by omega) (by omega)
      rw [decide_eq_false (by omega : ¬ (i + 1 = f))] at i1
      apply round
      simp only [rclass_l0_w, rclass_l0', go_sem, reduceCtorEq, Nat.reduceEqDiff, reduceIte, Nat.reduceAdd, Nat.reduceSub, Nat.reduceLeDiff, Int.reduceToNat, Nat.reduceBEq]
      rw [lt_t hil]
      simp only [getE hil, go_sem, reduceCtorEq, Nat.reduceEqDiff, reduceIte, Nat.reduceAdd, Nat.reduceSub, Nat.reduceLeDiff, Int.reduceToNat, Nat.reduceBEq]
      refine ⟨by omega, ?_⟩
      by_cases h93 : p[i] = 93
      · rw [u8b_t (n := 93) h93 rfl]
        simp only [go_sem, reduceCtorEq, Nat.reduceEqDiff, reduceIte, Nat.reduceAdd, Nat.reduceSub, Nat.reduceLeDiff, Int.reduceToNat, Nat.reduceBEq]
        by_cases hif : i = f
        · rw [gt_f (by omega)]
          simp only [getE hil, go_sem, reduceCtorEq, Nat.reduceEqDiff, reduceIte, Nat.reduceAdd, Nat.reduceSub, Nat.reduceLeDiff, Int.reduceToNat, Nat.reduceBEq]
          refine ⟨by omega, ?_⟩
          have h92 : p[i] ≠ 92 := by rw [h93]; decide
          rw [u8b_f (n := 92) h92 rfl, if_neg (by rw [decide_eq_true hif]; simp), if_neg h92]
          simp only [hw, go_sem, reduceCtorEq, Nat.reduceEqDiff, reduceIte, Nat.reduceAdd, Nat.reduceSub, Nat.reduceLeDiff, Int.reduceToNat, Nat.reduceBEq]
          exact i1
        · rw [gt_t (by omega), if_pos ⟨h93, decide_eq_false hif⟩]
          simp only [hw, go_sem, reduceCtorEq, Nat.reduceEqDiff, reduceIte, Nat.reduceAdd, Nat.reduceSub, Nat.reduceLeDiff, Int.reduceToNat, Nat.reduceBEq]
          rw [cend, List.length_drop]
          rw [show p.length - (p.length - (i + 1)) = i + 1 by omega]
      · rw [u8b_f (n := 93) h93 rfl, if_neg (fun e => h93 e.1)]
        simp only [getE hil, go_sem, reduceCtorEq, Nat.reduceEqDiff, reduceIte, Nat.reduceAdd, Nat.reduceSub, Nat.reduceLeDiff, Int.reduceToNat, Nat.reduceBEq]
        refine ⟨by omega, ?_⟩
        by_cases h92 : p[i] = 92
        · rw [u8b_t (n := 92) h92 rfl, if_pos h92]
          simp only [hw, hw2, go_sem, reduceCtorEq, Nat.reduceEqDiff, reduceIte, Nat.reduceAdd, Nat.reduceSub, Nat.reduceLeDiff, Int.reduceToNat, Nat.reduceBEq]
          have i2 := ih (i + 2) (by omega) (by omega) (by omega)
          rw [decide_eq_false (by omega : ¬ (i + 2 = f))] at i2
          exact i2
        · rw [u8b_f (n := 92) h92 rfl, if_neg h92]
          simp only [hw, go_sem, reduceCtorEq, Nat.reduceEqDiff, reduceIte, Nat.reduceAdd, Nat.reduceSub, Nat.reduceLeDiff, Int.reduceToNat, Nat.reduceBEq]
          exact i1
    · have e : scan (decide (i = f)) (p.drop i) = none := by rw [List.drop_of_length_le (by omega), scan_nil]
      rw [e]
      apply round
      simp only [rclass_l0_w, rclass_l0', go_sem, reduceCtorEq, Nat.reduceEqDiff, reduceIte, Nat.reduceAdd, Nat.reduceSub, Nat.reduceLeDiff, Int.reduceToNat, Nat.reduceBEq]
      rw [lt_f (by omega)]
      simp only [rclass_k1_w, rclass_k1', go_sem, reduceCtorEq, Nat.reduceEqDiff, reduceIte, Nat.reduceAdd, Nat.reduceSub, Nat.reduceLeDiff, Int.reduceToNat, Nat.reduceBEq]
      rfl
theorem rclass_snd (p : Ln.Bs) (hp : p.length ≤ 1048576) (a : Nat) (ha : a < p.length) : Snd Tryd.prog (gl m) 129 [S p, N a] (I (cend p (scan true (behindNot (p.drop (a + 1)))))) := by
  refine snd_of (fn := Tryd.f129) (af := rclass) Tryd.func129 (rclass_comp m) mixed (kn_ok m) (Nat.le_of_ble_eq_true rfl) ?_
  have hw : IntKind.i64.wrap ((a : Int) + 1) = ((a + 1 : Nat) : Int) := wrapN (a + 1) (by omega) (by omega)
  have hw2 : IntKind.i64.wrap (((a + 1 : Nat) : Int) + 1) = ((a + 2 : Nat) : Int) := wrapN (a + 2) (by omega) (by omega)
  have i1 := rclass_loop (m := m) p hp (a + 1) _ (a + 1) (Nat.le_refl _) (by omega) (by omega)
  rw [decide_eq_true (rfl : a + 1 = a + 1)] at i1
  simp only [rclass, hw, go_sem, reduceCtorEq, Nat.reduceEqDiff, reduceIte, Nat.reduceAdd, Nat.reduceSub, Nat.reduceLeDiff, Int.reduceToNat, Nat.reduceBEq]
  by_cases h1 : a + 1 < p.length
  · have i2 := rclass_loop (m := m) p hp (a + 2) _ (a + 2) (Nat.le_refl _) (by omega) (by omega)
    rw [decide_eq_true (rfl : a + 2 = a + 2)] at i2
    have hng : negated (p.drop (a + 1)) = (p[a + 1] == 33 || p[a + 1] == 94) := by rw [List.drop_eq_getElem_cons h1]; rfl
    rw [lt_t h1]
    simp only [getE h1, go_sem, reduceCtorEq, Nat.reduceEqDiff, reduceIte, Nat.reduceAdd, Nat.reduceSub, Nat.reduceLeDiff, Int.reduceToNat, Nat.reduceBEq]
    refine ⟨by omega, ?_⟩
    by_cases h33 : p[a + 1] = 33
    · rw [u8b_t (n := 33) h33 rfl]
      have hb : behindNot (p.drop (a + 1)) = p.drop (a + 2) := by rw [behindNot, hng, h33, if_pos (by decide), List.tail_drop]
      rw [hb]
      simp only [hw2, go_sem, reduceCtorEq, Nat.reduceEqDiff, reduceIte, Nat.reduceAdd, Nat.reduceSub, Nat.reduceLeDiff, Int.reduceToNat, Nat.reduceBEq]
      exact i2
    · rw [u8b_f (n := 33) h33 rfl]
      simp only [getE h1, go_sem, reduceCtorEq, Nat.reduceEqDiff, reduceIte, Nat.reduceAdd, Nat.reduceSub, Nat.reduceLeDiff, Int.reduceToNat, Nat.reduceBEq]
      refine ⟨by omega, ?_⟩
      by_cases h94 : p[a + 1] = 94
      · rw [u8b_t (n := 94) h94 rfl]
        have hb : behindNot (p.drop (a + 1)) = p.drop (a + 2) := by rw [behindNot, hng, h94, if_pos (by decide), List.tail_drop]
        rw [hb]
        simp only [hw2, go_sem, reduceCtorEq, Nat.reduceEqDiff, reduceIte, Nat.reduceAdd, Nat.reduceSub, Nat.reduceLeDiff, Int.reduceToNat, Nat.reduceBEq]
        exact i2
      · rw [u8b_f (n := 94) h94 rfl]
        have hb : behindNot (p.drop (a + 1)) = p.drop (a + 1) := by rw [behindNot, hng, if_neg (by simp [h33, h94])]
        rw [hb]
        simp only [go_sem, reduceCtorEq, Nat.reduceEqDiff, reduceIte, Nat.reduceAdd, Nat.reduceSub, Nat.reduceLeDiff, Int.reduceToNat, Nat.reduceBEq]
        exact i1
  · have hb : behindNot (p.drop (a + 1)) = p.drop (a + 1) := by rw [List.drop_of_length_le (by omega)]; rfl
    rw [hb, lt_f (by omega)]
    simp only [go_sem, reduceCtorEq, Nat.reduceEqDiff, reduceIte, Nat.reduceAdd, Nat.reduceSub, Nat.reduceLeDiff, Int.reduceToNat, Nat.reduceBEq]
    exact i1
def sres (o : Option (List Ln.Bs)) : AV := match o with | none => .tup [.sl .own 1 [], B false] | some L => .tup [.sl .own 1 (ss L), B (decide (0 < L.length))]
theorem seg_cut {p : Ln.Bs} {i k : Nat} (hik : i ≤ k) : (p.take k).drop i = (p.drop i).take (k - i) := by rw [List.drop_take]
theorem signs_loop (p : Ln.Bs) (hp : p.length ≤ 1048576) (n : Nat) : ∀ (i : Nat) (hn : p.length - i ≤ n) (hi : i ≤ p.length) (acc : List Ln.Bs) (ha : acc.length ≤ i),
    vcL (kn m) [0, 4, 5] [] signs_l0 (blockK 0 (seqK (kn m) [4] [] signs_k1 (outOk [.tmp 2, .tmp 3] (sres ((segs (p.drop i)).map (acc ++ ·)))))) (mkS [(0, S p), (4, .sl .own 1 (ss acc)), (5, N i)] []) := by
  induction n with
  | zero =>
    intro i hn hi acc ha
    rw [List.drop_of_length_le (by omega), segs_nil]
    apply round
    simp only [signs_l0_w, signs_l0', go_sem, reduceCtorEq, Nat.reduceEqDiff, reduceIte, Nat.reduceAdd, Nat.reduceSub, Nat.reduceLeDiff, Int.reduceToNat, Nat.reduceBEq]
    rw [lt_f (by omega)]
    simp only [signs_k1_w, signs_k1', go_sem, reduceCtorEq, Nat.reduceEqDiff, reduceIte, Nat.reduceAdd, Nat.reduceSub, Nat.reduceLeDiff, Int.reduceToNat, Nat.reduceBEq]
    simp [sres, gt_t, gt_f]
  | succ n ih =>
    intro i hn hi acc ha
    by_cases hil : i < p.length
    · have hw : IntKind.i64.wrap ((i : Int) + 1) = ((i + 1 : Nat) : Int) := wrapN (i + 1) (by omega) (by omega)
      have hw2 : IntKind.i64.wrap ((i : Int) + 2) = ((i + 2 : Nat) : Int) := wrapN (i + 2) (by omega) (by omega)
      have hne : p.drop i ≠ [] := by rw [List.drop_eq_getElem_cons hil]; exact List.cons_ne_nil _ _
      -- a sign up to k
      have go : ∀ (t : Tok) (R : Ln.Bs) (ht : tok (p.drop i) = some (t, R)), vcL (kn m) [0, 4, 5] [] signs_l0 (blockK 0 (seqK (kn m) [4] [] signs_k1 (outOk [.tmp 2, .tmp 3] (sres ((segs (p.drop i)).map (acc ++ ·)))))) (mkS [(0, S p), (4, .sl .own 1 (ss (acc ++ [(p.take (p.length - R.length)).drop i]))), (5, N (p.length - R.length))] []) := by
        intro t R ht
        obtain ⟨h1, h2, h3⟩ := tok_rest ht
        have := ih (p.length - R.length) (by omega) h3 (acc ++ [(p.take (p.length - R.length)).drop i]) (by simp; omega)
        rw [← h1] at this
        rw [segs_some ht, Option.map_map, List.length_drop]
        rw [seg_cut (by omega)] at this ⊢
        rw [show p.length - R.length - i = p.length - i - R.length by omega] at this ⊢
        have e : ((fun x => acc ++ x) ∘ fun x => List.take (p.length - i - R.length) (p.drop i) :: x) = fun x => acc ++ [List.take (p.length - i - R.length) (p.drop i)] ++ x := by
          funext x; simp
        rw [e]; exact this
      apply round
      simp only [signs_l0_w, signs_l0', go_sem, reduceCtorEq, Nat.reduceEqDiff, reduceIte, Nat.reduceAdd, Nat.reduceSub, Nat.reduceLeDiff, Int.reduceToNat, Nat.reduceBEq]
      rw [lt_t hil]
      simp only [hw, getE hil, go_sem, reduceCtorEq, Nat.reduceEqDiff, reduceIte, Nat.reduceAdd, Nat.reduceSub, Nat.reduceLeDiff, Int.reduceToNat, Nat.reduceBEq]
      refine ⟨by omega, ?_⟩
      by_cases h92 : p[i] = 92
      · rw [u8b_t (n := 92) h92 rfl]
        simp only [hw2, go_sem, reduceCtorEq, Nat.reduceEqDiff, reduceIte, Nat.reduceAdd, Nat.reduceSub, Nat.reduceLeDiff, Int.reduceToNat, Nat.reduceBEq]
        rw [ilt_f (by omega)]
        simp only [go_sem, reduceCtorEq, Nat.reduceEqDiff, reduceIte, Nat.reduceAdd, Nat.reduceSub, Nat.reduceLeDiff, Int.reduceToNat, Nat.reduceBEq]
        by_cases h2 : i + 1 < p.length
        · have ht := tok_esc hil h92
          rw [dif_pos h2] at ht
          have := go _ _ ht
          rw [List.length_drop, show p.length - (p.length - (i + 2)) = i + 2 by omega] at this
          rw [gt_f (by omega)]
          simp only [go_sem, reduceCtorEq, Nat.reduceEqDiff, reduceIte, Nat.reduceAdd, Nat.reduceSub, Nat.reduceLeDiff, Int.reduceToNat, Nat.reduceBEq]
          repeat (refine ⟨by (try simp only [List.length_append, List.length_cons, List.length_nil, List.length_drop, List.length_take]); omega, ?_⟩)
          exact this
        · have ht := tok_esc hil h92
          rw [dif_neg h2] at ht
          rw [gt_t (by omega), segs_none hne ht]
          simp only [go_sem, reduceCtorEq, Nat.reduceEqDiff, reduceIte, Nat.reduceAdd, Nat.reduceSub, Nat.reduceLeDiff, Int.reduceToNat, Nat.reduceBEq]
          rfl
      · rw [u8b_f (n := 92) h92 rfl]
        simp only [getE hil, go_sem, reduceCtorEq, Nat.reduceEqDiff, reduceIte, Nat.reduceAdd, Nat.reduceSub, Nat.reduceLeDiff, Int.reduceToNat, Nat.reduceBEq]
        refine ⟨by omega, ?_⟩
        by_cases h91 : p[i] = 91
        · rw [u8b_t (n := 91) h91 rfl]
          simp only [go_sem, reduceCtorEq, Nat.reduceEqDiff, reduceIte, Nat.reduceAdd, Nat.reduceSub, Nat.reduceLeDiff, Int.reduceToNat, Nat.reduceBEq]
          refine of_call (rclass_snd p hp i hil) ?_
          have ht := tok_cls hil h91
          have hsc := items_end_eq true (behindNot (p.drop (i + 1)))
          simp only [clsL, Option.map_map] at ht
          cases hit : items true (behindNot (p.drop (i + 1))) with
          | none =>
            rw [hit] at ht hsc
            rw [← hsc, segs_none hne ht]
            simp only [Option.map_none, cend, go_sem, reduceCtorEq, Nat.reduceEqDiff, reduceIte, Nat.reduceAdd, Nat.reduceSub, Nat.reduceLeDiff, Int.reduceToNat, Nat.reduceBEq]
            rw [ilt_t (by omega)]
            simp only [go_sem, reduceCtorEq, Nat.reduceEqDiff, reduceIte, Nat.reduceAdd, Nat.reduceSub, Nat.reduceLeDiff, Int.reduceToNat, Nat.reduceBEq]
            rfl
          | some q =>
            obtain ⟨is, R⟩ := q
            rw [hit] at ht hsc
            have ht' : tok (p.drop i) = some (Tok.cls (negated (p.drop (i + 1))) is, R) := ht
            obtain ⟨h1, h2, h3⟩ := tok_rest ht'
            have := go _ _ ht'
            rw [← hsc]
            simp only [Option.map_some, cend, go_sem, reduceCtorEq, Nat.reduceEqDiff, reduceIte, Nat.reduceAdd, Nat.reduceSub, Nat.reduceLeDiff, Int.reduceToNat, Nat.reduceBEq]
            rw [ilt_f (by omega)]
            simp only [go_sem, reduceCtorEq, Nat.reduceEqDiff, reduceIte, Nat.reduceAdd, Nat.reduceSub, Nat.reduceLeDiff, Int.reduceToNat, Nat.reduceBEq]
            rw [gt_f (by omega)]
            simp only [go_sem, reduceCtorEq, Nat.reduceEqDiff, reduceIte, Nat.reduceAdd, Nat.reduceSub, Nat.reduceLeDiff, Int.reduceToNat, Nat.reduceBEq]
            repeat (refine ⟨by (try simp only [List.length_append, List.length_cons, List.length_nil, List.length_drop, List.length_take]); omega, ?_⟩)
            exact this
        · rw [u8b_f (n := 91) h91 rfl]
          have ht := tok_else hil h92 h91
          have := go _ _ ht
          rw [List.length_drop, show p.length - (p.length - (i + 1)) = i + 1 by omega] at this
          simp only [go_sem, reduceCtorEq, Nat.reduceEqDiff, reduceIte, Nat.reduceAdd, Nat.reduceSub, Nat.reduceLeDiff, Int.reduceToNat, Nat.reduceBEq]
          rw [ilt_f (by omega)]
          simp only [go_sem, reduceCtorEq, Nat.reduceEqDiff, reduceIte, Nat.reduceAdd, Nat.reduceSub, Nat.reduceLeDiff, Int.reduceToNat, Nat.reduceBEq]
          rw [gt_f (by omega)]
          simp only [go_sem, reduceCtorEq, Nat.reduceEqDiff, reduceIte, Nat.reduceAdd, Nat.reduceSub, Nat.reduceLeDiff, Int.reduceToNat, Nat.reduceBEq]
          repeat (refine ⟨by (try simp only [List.length_append, List.length_cons, List.length_nil, List.length_drop, List.length_take]); omega, ?_⟩)
          exact this
    · rw [List.drop_of_length_le (by omega), segs_nil]
      apply round
      simp only [signs_l0_w, signs_l0', go_sem, reduceCtorEq, Nat.reduceEqDiff, reduceIte, Nat.reduceAdd, Nat.reduceSub, Nat.reduceLeDiff, Int.reduceToNat, Nat.reduceBEq]
      rw [lt_f (by omega)]
      simp only [signs_k1_w, signs_k1', go_sem, reduceCtorEq, Nat.reduceEqDiff, reduceIte, Nat.reduceAdd, Nat.reduceSub, Nat.reduceLeDiff, Int.reduceToNat, Nat.reduceBEq]
      simp [sres, gt_t, gt_f]
theorem signs_snd (p : Ln.Bs) (hp : p.length ≤ 1048576) : Snd Tryd.prog (gl m) 107 [S p] (sres (segs p)) := by
  refine snd_of (fn := Tryd.f107) (af := signs) Tryd.func107 (signs_comp m) mixed (kn_ok m) (Nat.le_of_ble_eq_true rfl) ?_
  simp only [signs, go_sem, reduceCtorEq, Nat.reduceEqDiff, reduceIte, Nat.reduceAdd, Nat.reduceSub, Nat.reduceLeDiff, Int.reduceToNat, Nat.reduceBEq]
  have := signs_loop (m := m) p hp _ 0 (Nat.le_refl _) (by omega) [] (by simp)
  have e : (segs (p.drop 0)).map (([] : List Ln.Bs) ++ ·) = segs p := by rw [List.drop_zero]; simp
  rw [e] at this
  exact this
theorem dash_at {l : Ln.Bs} {a : Nat} (h : a + 1 < l.length) (hb : l[a] = 45) : dash (l.drop a) = some (l.drop (a + 1)) := by
  rw [List.drop_eq_getElem_cons (by omega : a < l.length), List.drop_eq_getElem_cons h, hb]; rfl
theorem dash_no1 {l : Ln.Bs} {a : Nat} (h : ¬ a + 1 < l.length) : dash (l.drop a) = none := by
  by_cases h2 : a < l.length
  · rw [List.drop_eq_getElem_cons h2, List.drop_of_length_le (by omega)]
    unfold dash; split
    · rename_i e; injection e with _ e; cases e
    · rfl
  · rw [List.drop_of_length_le (by omega)]; rfl
theorem dash_no2 {l : Ln.Bs} {a : Nat} (h : a < l.length) (hb : l[a] ≠ 45) : dash (l.drop a) = none := by
  rw [List.drop_eq_getElem_cons h]
  unfold dash; split
  · rename_i e; injection e with e _; exact absurd e hb
  · rfl
theorem rd_bad {l : Ln.Bs} (hl : l ≠ []) (h : item l = none) : rd l = none := by
  rw [rd, if_neg hl]
  split
  · rfl
  · rename_i h1; rw [h] at h1; cases h1
theorem rd_rbad {l r1 r2 : Ln.Bs} {lo : UInt8} (h : item l = some (lo, r1)) (h2 : dash r1 = some r2) (h3 : item r2 = none) : rd l = none := by
  have hl : l ≠ [] := by rintro rfl; cases h
  rw [rd, if_neg hl]
  split
  · rfl
  · rename_i lo' r1' h1
    rw [h] at h1; injection h1 with h1; injection h1 with h1 h1'; subst h1; subst h1'
    split
    · rename_i h4; rw [h2] at h4; cases h4
    · rename_i r2' h4
      rw [h2] at h4; injection h4 with h4; subst h4
      split
      · rfl
      · rename_i h5; rw [h3] at h5; cases h5
theorem hit_cons' (x : Rg) (is : List Rg) (c : UInt8) : hit (x :: is) c = ((decide (x.1 ≤ c) && decide (c ≤ x.2)) || hit is c) := by simp [hit]
theorem said_loop (l : Ln.Bs) (hl : l.length ≤ 1048576) (c : UInt8) (n : Nat) : ∀ (i : Nat) (hn : l.length - i ≤ n) (hi : i ≤ l.length) (is : List Rg) (h : rd (l.drop i) = some is),
    vcL (kn m) [0, 1, 5] [] said_l0 (blockK 0 (seqK (kn m) [] [] said_k1 (outOk [.tmp 4] (B (hit is c))))) (mkS [(0, S l), (1, U8 c), (5, N i)] []) := by
  induction n with
  | zero =>
    intro i hn hi is h
    rw [List.drop_of_length_le (by omega), rd_nil] at h
    injection h with h; subst h
    apply round
    simp only [said_l0_w, said_l0', go_sem, reduceCtorEq, Nat.reduceEqDiff, reduceIte, Nat.reduceAdd, Nat.reduceSub, Nat.reduceLeDiff, Int.reduceToNat, Nat.reduceBEq]
    rw [lt_f (by omega)]
    simp only [said_k1_w, said_k1', go_sem, reduceCtorEq, Nat.reduceEqDiff, reduceIte, Nat.reduceAdd, Nat.reduceSub, Nat.reduceLeDiff, Int.reduceToNat, Nat.reduceBEq]
    rfl
  | succ n ih =>
    intro i hn hi is h
    by_cases hil : i < l.length
    · have hw : IntKind.i64.wrap ((i : Int) + 1) = ((i + 1 : Nat) : Int) := wrapN (i + 1) (by omega) (by omega)
      have hit1 := item_at hil
      apply round
      simp only [said_l0_w, said_l0', go_sem, reduceCtorEq, Nat.reduceEqDiff, reduceIte, Nat.reduceAdd, Nat.reduceSub, Nat.reduceLeDiff, Int.reduceToNat, Nat.reduceBEq]
      rw [lt_t hil]
      simp only [getE hil, go_sem, reduceCtorEq, Nat.reduceEqDiff, reduceIte, Nat.reduceAdd, Nat.reduceSub, Nat.reduceLeDiff, Int.reduceToNat, Nat.reduceBEq]
      refine ⟨by omega, ?_⟩
      by_cases h92 : l[i] = 92
      · rw [u8b_t (n := 92) h92 rfl]
        rw [if_pos h92] at hit1
        by_cases h2 : i + 1 < l.length
        · rw [dif_pos h2] at hit1
          have hw1 : IntKind.i64.wrap (((i + 1 : Nat) : Int) + 1) = ((i + 2 : Nat) : Int) := wrapN (i + 2) (by omega) (by omega)
          simp only [hw, getE h2, hw1, go_sem, reduceCtorEq, Nat.reduceEqDiff, reduceIte, Nat.reduceAdd, Nat.reduceSub, Nat.reduceLeDiff, Int.reduceToNat, Nat.reduceBEq]
          refine ⟨by omega, ?_⟩
          have hwa : IntKind.i64.wrap (((i + 2 : Nat) : Int) + 1) = ((i + 2 + 1 : Nat) : Int) := wrapN (i + 2 + 1) (by omega) (by omega)
          have hwb : IntKind.i64.wrap (((i + 2 + 1 : Nat) : Int) + 1) = ((i + 2 + 2 : Nat) : Int) := wrapN (i + 2 + 2) (by omega) (by omega)
          have hwc : IntKind.i64.wrap (((i + 2 + 2 : Nat) : Int) + 1) = ((i + 2 + 3 : Nat) : Int) := wrapN (i + 2 + 3) (by omega) (by omega)
          simp only [hwa, go_sem, reduceCtorEq, Nat.reduceEqDiff, reduceIte, Nat.reduceAdd, Nat.reduceSub, Nat.reduceLeDiff, Int.reduceToNat, Nat.reduceBEq]
          by_cases hd1 : i + 2 + 1 < l.length
          · rw [lt_t hd1]
            have hal : i + 2 < l.length := by omega
            simp only [getE hal, go_sem, reduceCtorEq, Nat.reduceEqDiff, reduceIte, Nat.reduceAdd, Nat.reduceSub, Nat.reduceLeDiff, Int.reduceToNat, Nat.reduceBEq]
            refine ⟨by omega, ?_⟩
            by_cases hd2 : l[i + 2] = 45
            · rw [u8b_t (n := 45) hd2 rfl]
              have hdash := dash_at hd1 hd2
              simp only [hwa, getE hd1, go_sem, reduceCtorEq, Nat.reduceEqDiff, reduceIte, Nat.reduceAdd, Nat.reduceSub, Nat.reduceLeDiff, Int.reduceToNat, Nat.reduceBEq]
              refine ⟨by omega, ?_⟩
              have hit2 := item_at hd1
              by_cases hd3 : l[i + 2 + 1] = 92
              · rw [u8b_t (n := 92) hd3 rfl]
                rw [if_pos hd3] at hit2
                by_cases hd4 : i + 2 + 2 < l.length
                · have hd4' : i + 2 + 1 + 1 < l.length := hd4
                  rw [dif_pos hd4'] at hit2
                  rw [rd_rng hit1 hdash hit2, Option.map_eq_some_iff] at h
                  obtain ⟨is', hrd, rfl⟩ := h
                  simp only [hwb, getE hd4, hwc, go_sem, reduceCtorEq, Nat.reduceEqDiff, reduceIte, Nat.reduceAdd, Nat.reduceSub, Nat.reduceLeDiff, Int.reduceToNat, Nat.reduceBEq]
                  refine ⟨by omega, ?_⟩
                  simp only [leN2, go_sem, reduceCtorEq, Nat.reduceEqDiff, reduceIte, Nat.reduceAdd, Nat.reduceSub, Nat.reduceLeDiff, Int.reduceToNat, Nat.reduceBEq]
                  cases hA : decide (l[i + 1] ≤ c) with
                  | false =>
                    simp only [go_sem, reduceCtorEq, Nat.reduceEqDiff, reduceIte, Nat.reduceAdd, Nat.reduceSub, Nat.reduceLeDiff, Int.reduceToNat, Nat.reduceBEq]
                    have hh : hit ((l[i + 1], l[i + 2 + 2]) :: is') c = hit is' c := by rw [hit_cons', hA]; simp
                    rw [hh]
                    exact ih (i + 2 + 3) (by omega) (by omega) is' hrd
                  | true =>
                    simp only [leN2, go_sem, reduceCtorEq, Nat.reduceEqDiff, reduceIte, Nat.reduceAdd, Nat.reduceSub, Nat.reduceLeDiff, Int.reduceToNat, Nat.reduceBEq]
                    cases hB : decide (c ≤ l[i + 2 + 2]) with
                    | false =>
                      simp only [go_sem, reduceCtorEq, Nat.reduceEqDiff, reduceIte, Nat.reduceAdd, Nat.reduceSub, Nat.reduceLeDiff, Int.reduceToNat, Nat.reduceBEq]
                      have hh : hit ((l[i + 1], l[i + 2 + 2]) :: is') c = hit is' c := by rw [hit_cons', hA, hB]; simp
                      rw [hh]
                      exact ih (i + 2 + 3) (by omega) (by omega) is' hrd
                    | true =>
                      have hh : hit ((l[i + 1], l[i + 2 + 2]) :: is') c = true := by rw [hit_cons', hA, hB]; simp
                      rw [hh]
                      simp only [go_sem, reduceCtorEq, Nat.reduceEqDiff, reduceIte, Nat.reduceAdd, Nat.reduceSub, Nat.reduceLeDiff, Int.reduceToNat, Nat.reduceBEq]
                · have hd4' : ¬ i + 2 + 1 + 1 < l.length := hd4
                  rw [dif_neg hd4'] at hit2
                  rw [rd_rbad hit1 hdash hit2] at h; cases h
              · rw [u8b_f (n := 92) hd3 rfl]
                rw [if_neg hd3] at hit2
                rw [rd_rng hit1 hdash hit2, Option.map_eq_some_iff] at h
                obtain ⟨is', hrd, rfl⟩ := h
                simp only [hwb, getE hd1, go_sem, reduceCtorEq, Nat.reduceEqDiff, reduceIte, Nat.reduceAdd, Nat.reduceSub, Nat.reduceLeDiff, Int.reduceToNat, Nat.reduceBEq]
                refine ⟨by omega, ?_⟩
                simp only [leN2, go_sem, reduceCtorEq, Nat.reduceEqDiff, reduceIte, Nat.reduceAdd, Nat.reduceSub, Nat.reduceLeDiff, Int.reduceToNat, Nat.reduceBEq]
                cases hA : decide (l[i + 1] ≤ c) with
                | false =>
                  simp only [go_sem, reduceCtorEq, Nat.reduceEqDiff, reduceIte, Nat.reduceAdd, Nat.reduceSub, Nat.reduceLeDiff, Int.reduceToNat, Nat.reduceBEq]
                  have hh : hit ((l[i + 1], l[i + 2 + 1]) :: is') c = hit is' c := by rw [hit_cons', hA]; simp
                  rw [hh]
                  exact ih (i + 2 + 2) (by omega) (by omega) is' hrd
                | true =>
                  simp only [leN2, go_sem, reduceCtorEq, Nat.reduceEqDiff, reduceIte, Nat.reduceAdd, Nat.reduceSub, Nat.reduceLeDiff, Int.reduceToNat, Nat.reduceBEq]
                  cases hB : decide (c ≤ l[i + 2 + 1]) with
                  | false =>
                    simp only [go_sem, reduceCtorEq, Nat.reduceEqDiff, reduceIte, Nat.reduceAdd, Nat.reduceSub, Nat.reduceLeDiff, Int.reduceToNat, Nat.reduceBEq]
                    have hh : hit ((l[i + 1], l[i + 2 + 1]) :: is') c = hit is' c := by rw [hit_cons', hA, hB]; simp
                    rw [hh]
                    exact ih (i + 2 + 2) (by omega) (by omega) is' hrd
                  | true =>
                    have hh : hit ((l[i + 1], l[i + 2 + 1]) :: is') c = true := by rw [hit_cons', hA, hB]; simp
                    rw [hh]
                    simp only [go_sem, reduceCtorEq, Nat.reduceEqDiff, reduceIte, Nat.reduceAdd, Nat.reduceSub, Nat.reduceLeDiff, Int.reduceToNat, Nat.reduceBEq]
            · rw [u8b_f (n := 45) hd2 rfl]
              have hdash := dash_no2 hal hd2
              rw [rd_one hit1 hdash, Option.map_eq_some_iff] at h
              obtain ⟨is', hrd, rfl⟩ := h
              simp only [leN2, go_sem, reduceCtorEq, Nat.reduceEqDiff, reduceIte, Nat.reduceAdd, Nat.reduceSub, Nat.reduceLeDiff, Int.reduceToNat, Nat.reduceBEq]
              cases hA : decide (l[i + 1] ≤ c) with
              | false =>
                simp only [go_sem, reduceCtorEq, Nat.reduceEqDiff, reduceIte, Nat.reduceAdd, Nat.reduceSub, Nat.reduceLeDiff, Int.reduceToNat, Nat.reduceBEq]
                have hh : hit ((l[i + 1], l[i + 1]) :: is') c = hit is' c := by rw [hit_cons', hA]; simp
                rw [hh]
                exact ih (i + 2) (by omega) (by omega) is' hrd
              | true =>
                simp only [leN2, go_sem, reduceCtorEq, Nat.reduceEqDiff, reduceIte, Nat.reduceAdd, Nat.reduceSub, Nat.reduceLeDiff, Int.reduceToNat, Nat.reduceBEq]
                cases hB : decide (c ≤ l[i + 1]) with
                | false =>
                  simp only [go_sem, reduceCtorEq, Nat.reduceEqDiff, reduceIte, Nat.reduceAdd, Nat.reduceSub, Nat.reduceLeDiff, Int.reduceToNat, Nat.reduceBEq]
                  have hh : hit ((l[i + 1], l[i + 1]) :: is') c = hit is' c := by rw [hit_cons', hA, hB]; simp
                  rw [hh]
                  exact ih (i + 2) (by omega) (by omega) is' hrd
                | true =>
                  have hh : hit ((l[i + 1], l[i + 1]) :: is') c = true := by rw [hit_cons', hA, hB]; simp
                  rw [hh]
                  simp only [go_sem, reduceCtorEq, Nat.reduceEqDiff, reduceIte, Nat.reduceAdd, Nat.reduceSub, Nat.reduceLeDiff, Int.reduceToNat, Nat.reduceBEq]
          · rw [lt_f hd1]
            have hdash := dash_no1 hd1
            rw [rd_one hit1 hdash, Option.map_eq_some_iff] at h
            obtain ⟨is', hrd, rfl⟩ := h
            simp only [leN2, go_sem, reduceCtorEq, Nat.reduceEqDiff, reduceIte, Nat.reduceAdd, Nat.reduceSub, Nat.reduceLeDiff, Int.reduceToNat, Nat.reduceBEq]
            cases hA : decide (l[i + 1] ≤ c) with
            | false =>
              simp only [go_sem, reduceCtorEq, Nat.reduceEqDiff, reduceIte, Nat.reduceAdd, Nat.reduceSub, Nat.reduceLeDiff, Int.reduceToNat, Nat.reduceBEq]
              have hh : hit ((l[i + 1], l[i + 1]) :: is') c = hit is' c := by rw [hit_cons', hA]; simp
              rw [hh]
              exact ih (i + 2) (by omega) (by omega) is' hrd
            | true =>
              simp only [leN2, go_sem, reduceCtorEq, Nat.reduceEqDiff, reduceIte, Nat.reduceAdd, Nat.reduceSub, Nat.reduceLeDiff, Int.reduceToNat, Nat.reduceBEq]
              cases hB : decide (c ≤ l[i + 1]) with
              | false =>
                simp only [go_sem, reduceCtorEq, Nat.reduceEqDiff, reduceIte, Nat.reduceAdd, Nat.reduceSub, Nat.reduceLeDiff, Int.reduceToNat, Nat.reduceBEq]
                have hh : hit ((l[i + 1], l[i + 1]) :: is') c = hit is' c := by rw [hit_cons', hA, hB]; simp
                rw [hh]
                exact ih (i + 2) (by omega) (by omega) is' hrd
              | true =>
                have hh : hit ((l[i + 1], l[i + 1]) :: is') c = true := by rw [hit_cons', hA, hB]; simp
                rw [hh]
                simp only [go_sem, reduceCtorEq, Nat.reduceEqDiff, reduceIte, Nat.reduceAdd, Nat.reduceSub, Nat.reduceLeDiff, Int.reduceToNat, Nat.reduceBEq]
        · rw [dif_neg h2] at hit1
          have hne : l.drop i ≠ [] := by rw [List.drop_eq_getElem_cons hil]; exact List.cons_ne_nil _ _
          rw [rd_bad hne hit1] at h; cases h
      · rw [u8b_f (n := 92) h92 rfl]
        rw [if_neg h92] at hit1
        simp only [getE hil, hw, go_sem, reduceCtorEq, Nat.reduceEqDiff, reduceIte, Nat.reduceAdd, Nat.reduceSub, Nat.reduceLeDiff, Int.reduceToNat, Nat.reduceBEq]
        refine ⟨by omega, ?_⟩
        have hwa : IntKind.i64.wrap (((i + 1 : Nat) : Int) + 1) = ((i + 1 + 1 : Nat) : Int) := wrapN (i + 1 + 1) (by omega) (by omega)
        have hwb : IntKind.i64.wrap (((i + 1 + 1 : Nat) : Int) + 1) = ((i + 1 + 2 : Nat) : Int) := wrapN (i + 1 + 2) (by omega) (by omega)
        have hwc : IntKind.i64.wrap (((i + 1 + 2 : Nat) : Int) + 1) = ((i + 1 + 3 : Nat) : Int) := wrapN (i + 1 + 3) (by omega) (by omega)
        simp only [hwa, go_sem, reduceCtorEq, Nat.reduceEqDiff, reduceIte, Nat.reduceAdd, Nat.reduceSub, Nat.reduceLeDiff, Int.reduceToNat, Nat.reduceBEq]
        by_cases hd1 : i + 1 + 1 < l.length
        · rw [lt_t hd1]
          have hal : i + 1 < l.length := by omega
          simp only [getE hal, go_sem, reduceCtorEq, Nat.reduceEqDiff, reduceIte, Nat.reduceAdd, Nat.reduceSub, Nat.reduceLeDiff, Int.reduceToNat, Nat.reduceBEq]
          refine ⟨by omega, ?_⟩
          by_cases hd2 : l[i + 1] = 45
          · rw [u8b_t (n := 45) hd2 rfl]
            have hdash := dash_at hd1 hd2
            simp only [hwa, getE hd1, go_sem, reduceCtorEq, Nat.reduceEqDiff, reduceIte, Nat.reduceAdd, Nat.reduceSub, Nat.reduceLeDiff, Int.reduceToNat, Nat.reduceBEq]
            refine ⟨by omega, ?_⟩
            have hit2 := item_at hd1
            by_cases hd3 : l[i + 1 + 1] = 92
            · rw [u8b_t (n := 92) hd3 rfl]
              rw [if_pos hd3] at hit2
              by_cases hd4 : i + 1 + 2 < l.length
              · have hd4' : i + 1 + 1 + 1 < l.length := hd4
                rw [dif_pos hd4'] at hit2
                rw [rd_rng hit1 hdash hit2, Option.map_eq_some_iff] at h
                obtain ⟨is', hrd, rfl⟩ := h
                simp only [hwb, getE hd4, hwc, go_sem, reduceCtorEq, Nat.reduceEqDiff, reduceIte, Nat.reduceAdd, Nat.reduceSub, Nat.reduceLeDiff, Int.reduceToNat, Nat.reduceBEq]
                refine ⟨by omega, ?_⟩
                simp only [leN2, go_sem, reduceCtorEq, Nat.reduceEqDiff, reduceIte, Nat.reduceAdd, Nat.reduceSub, Nat.reduceLeDiff, Int.reduceToNat, Nat.reduceBEq]
                cases hA : decide (l[i] ≤ c) with
                | false =>
                  simp only [go_sem, reduceCtorEq, Nat.reduceEqDiff, reduceIte, Nat.reduceAdd, Nat.reduceSub, Nat.reduceLeDiff, Int.reduceToNat, Nat.reduceBEq]
                  have hh : hit ((l[i], l[i + 1 + 2]) :: is') c = hit is' c := by rw [hit_cons', hA]; simp
                  rw [hh]
                  exact ih (i + 1 + 3) (by omega) (by omega) is' hrd
                | true =>
                  simp only [leN2, go_sem, reduceCtorEq, Nat.reduceEqDiff, reduceIte, Nat.reduceAdd, Nat.reduceSub, Nat.reduceLeDiff, Int.reduceToNat, Nat.reduceBEq]
                  cases hB : decide (c ≤ l[i + 1 + 2]) with
                  | false =>
                    simp only [go_sem, reduceCtorEq, Nat.reduceEqDiff, reduceIte, Nat.reduceAdd, Nat.reduceSub, Nat.reduceLeDiff, Int.reduceToNat, Nat.reduceBEq]
                    have hh : hit ((l[i], l[i + 1 + 2]) :: is') c = hit is' c := by rw [hit_cons', hA, hB]; simp
                    rw [hh]
                    exact ih (i + 1 + 3) (by omega) (by omega) is' hrd
                  | true =>
                    have hh : hit ((l[i], l[i + 1 + 2]) :: is') c = true := by rw [hit_cons', hA, hB]; simp
                    rw [hh]
                    simp only [go_sem, reduceCtorEq, Nat.reduceEqDiff, reduceIte, Nat.reduceAdd, Nat.reduceSub, Nat.reduceLeDiff, Int.reduceToNat, Nat.reduceBEq]
              · have hd4' : ¬ i + 1 + 1 + 1 < l.length := hd4
                rw [dif_neg hd4'] at hit2
                rw [rd_rbad hit1 hdash hit2] at h; cases h
            · rw [u8b_f (n := 92) hd3 rfl]
              rw [if_neg hd3] at hit2
              rw [rd_rng hit1 hdash hit2, Option.map_eq_some_iff] at h
              obtain ⟨is', hrd, rfl⟩ := h
              simp only [hwb, getE hd1, go_sem, reduceCtorEq, Nat.reduceEqDiff, reduceIte, Nat.reduceAdd, Nat.reduceSub, Nat.reduceLeDiff, Int.reduceToNat, Nat.reduceBEq]
              refine ⟨by omega, ?_⟩
              simp only [leN2, go_sem, reduceCtorEq, Nat.reduceEqDiff, reduceIte, Nat.reduceAdd, Nat.reduceSub, Nat.reduceLeDiff, Int.reduceToNat, Nat.reduceBEq]
              cases hA : decide (l[i] ≤ c) with
              | false =>
                simp only [go_sem, reduceCtorEq, Nat.reduceEqDiff, reduceIte, Nat.reduceAdd, Nat.reduceSub, Nat.reduceLeDiff, Int.reduceToNat, Nat.reduceBEq]
                have hh : hit ((l[i], l[i + 1 + 1]) :: is') c = hit is' c := by rw [hit_cons', hA]; simp
                rw [hh]
                exact ih (i + 1 + 2) (by omega) (by omega) is' hrd
              | true =>
                simp only [leN2, go_sem, reduceCtorEq, Nat.reduceEqDiff, reduceIte, Nat.reduceAdd, Nat.reduceSub, Nat.reduceLeDiff, Int.reduceToNat, Nat.reduceBEq]
                cases hB : decide (c ≤ l[i + 1 + 1]) with
                | false =>
                  simp only [go_sem, reduceCtorEq, Nat.reduceEqDiff, reduceIte, Nat.reduceAdd, Nat.reduceSub, Nat.reduceLeDiff, Int.reduceToNat, Nat.reduceBEq]
                  have hh : hit ((l[i], l[i + 1 + 1]) :: is') c = hit is' c := by rw [hit_cons', hA, hB]; simp
                  rw [hh]
                  exact ih (i + 1 + 2) (by omega) (by omega) is' hrd
                | true =>
                  have hh : hit ((l[i], l[i + 1 + 1]) :: is') c = true := by rw [hit_cons', hA, hB]; simp
                  rw [hh]
                  simp only [go_sem, reduceCtorEq, Nat.reduceEqDiff, reduceIte, Nat.reduceAdd, Nat.reduceSub, Nat.reduceLeDiff, Int.reduceToNat, Nat.reduceBEq]
          · rw [u8b_f (n := 45) hd2 rfl]
            have hdash := dash_no2 hal hd2
            rw [rd_one hit1 hdash, Option.map_eq_some_iff] at h
            obtain ⟨is', hrd, rfl⟩ := h
            simp only [leN2, go_sem, reduceCtorEq, Nat.reduceEqDiff, reduceIte, Nat.reduceAdd, Nat.reduceSub, Nat.reduceLeDiff, Int.reduceToNat, Nat.reduceBEq]
            cases hA : decide (l[i] ≤ c) with
            | false =>
              simp only [go_sem, reduceCtorEq, Nat.reduceEqDiff, reduceIte, Nat.reduceAdd, Nat.reduceSub, Nat.reduceLeDiff, Int.reduceToNat, Nat.reduceBEq]
              have hh : hit ((l[i], l[i]) :: is') c = hit is' c := by rw [hit_cons', hA]; simp
              rw [hh]
              exact ih (i + 1) (by omega) (by omega) is' hrd
            | true =>
              simp only [leN2, go_sem, reduceCtorEq, Nat.reduceEqDiff, reduceIte, Nat.reduceAdd, Nat.reduceSub, Nat.reduceLeDiff, Int.reduceToNat, Nat.reduceBEq]
              cases hB : decide (c ≤ l[i]) with
              | false =>
                simp only [go_sem, reduceCtorEq, Nat.reduceEqDiff, reduceIte, Nat.reduceAdd, Nat.reduceSub, Nat.reduceLeDiff, Int.reduceToNat, Nat.reduceBEq]
                have hh : hit ((l[i], l[i]) :: is') c = hit is' c := by rw [hit_cons', hA, hB]; simp
                rw [hh]
                exact ih (i + 1) (by omega) (by omega) is' hrd
              | true =>
                have hh : hit ((l[i], l[i]) :: is') c = true := by rw [hit_cons', hA, hB]; simp
                rw [hh]
                simp only [go_sem, reduceCtorEq, Nat.reduceEqDiff, reduceIte, Nat.reduceAdd, Nat.reduceSub, Nat.reduceLeDiff, Int.reduceToNat, Nat.reduceBEq]
        · rw [lt_f hd1]
          have hdash := dash_no1 hd1
          rw [rd_one hit1 hdash, Option.map_eq_some_iff] at h
          obtain ⟨is', hrd, rfl⟩ := h
          simp only [leN2, go_sem, reduceCtorEq, Nat.reduceEqDiff, reduceIte, Nat.reduceAdd, Nat.reduceSub, Nat.reduceLeDiff, Int.reduceToNat, Nat.reduceBEq]
          cases hA : decide (l[i] ≤ c) with
          | false =>
            simp only [go_sem, reduceCtorEq, Nat.reduceEqDiff, reduceIte, Nat.reduceAdd, Nat.reduceSub, Nat.reduceLeDiff, Int.reduceToNat, Nat.reduceBEq]
            have hh : hit ((l[i], l[i]) :: is') c = hit is' c := by rw [hit_cons', hA]; simp
            rw [hh]
            exact ih (i + 1) (by omega) (by omega) is' hrd
          | true =>
            simp only [leN2, go_sem, reduceCtorEq, Nat.reduceEqDiff, reduceIte, Nat.reduceAdd, Nat.reduceSub, Nat.reduceLeDiff, Int.reduceToNat, Nat.reduceBEq]
            cases hB : decide (c ≤ l[i]) with
            | false =>
              simp only [go_sem, reduceCtorEq, Nat.reduceEqDiff, reduceIte, Nat.reduceAdd, Nat.reduceSub, Nat.reduceLeDiff, Int.reduceToNat, Nat.reduceBEq]
              have hh : hit ((l[i], l[i]) :: is') c = hit is' c := by rw [hit_cons', hA, hB]; simp
              rw [hh]
              exact ih (i + 1) (by omega) (by omega) is' hrd
            | true =>
              have hh : hit ((l[i], l[i]) :: is') c = true := by rw [hit_cons', hA, hB]; simp
              rw [hh]
              simp only [go_sem, reduceCtorEq, Nat.reduceEqDiff, reduceIte, Nat.reduceAdd, Nat.reduceSub, Nat.reduceLeDiff, Int.reduceToNat, Nat.reduceBEq]
    · rw [List.drop_of_length_le (by omega), rd_nil] at h
      injection h with h; subst h
      apply round
      simp only [said_l0_w, said_l0', go_sem, reduceCtorEq, Nat.reduceEqDiff, reduceIte, Nat.reduceAdd, Nat.reduceSub, Nat.reduceLeDiff, Int.reduceToNat, Nat.reduceBEq]
      rw [lt_f (by omega)]
      simp only [said_k1_w, said_k1', go_sem, reduceCtorEq, Nat.reduceEqDiff, reduceIte, Nat.reduceAdd, Nat.reduceSub, Nat.reduceLeDiff, Int.reduceToNat, Nat.reduceBEq]
      rfl
theorem said_snd (l : Ln.Bs) (hl : l.length ≤ 1048576) (c : UInt8) (is : List Rg) (h : rd l = some is) : Snd Tryd.prog (gl m) 146 [S l, U8 c] (B (hit is c)) := by
  refine snd_of (fn := Tryd.f146) (af := said) Tryd.func146 (said_comp m) mixed (kn_ok m) (Nat.le_of_ble_eq_true rfl) ?_
  simp only [said, go_sem, reduceCtorEq, Nat.reduceEqDiff, reduceIte, Nat.reduceAdd, Nat.reduceSub, Nat.reduceLeDiff, Int.reduceToNat, Nat.reduceBEq]
  exact said_loop l hl c _ 0 (Nat.le_refl _) (by omega) is h
theorem tok_cases {s : Ln.Bs} {t : Tok} (h : tok s = some (t, [])) : (∃ c, s = [92, c] ∧ t = .lit c) ∨ (∃ b, s = [b] ∧ b ≠ 92 ∧ b ≠ 91 ∧ t = if b = 42 then .star else if b = 63 then .any else .lit b) ∨
    (∃ v n is, s = 91 :: (v ++ [93]) ∧ v ≠ [] ∧ t = .cls n is ∧ negated v = n ∧ rd (behindNot v) = some is) := by
  cases s with
  | nil => cases h
  | cons b l =>
    simp only [tok] at h
    split at h
    · rename_i hb
      cases l with
      | nil => cases h
      | cons d l => simp only [Option.some.injEq, Prod.mk.injEq] at h; obtain ⟨rfl, rfl⟩ := h; exact .inl ⟨d, by rw [hb], rfl⟩
    · rename_i hb
      split at h
      · rename_i hb2
        simp only [Option.map_eq_some_iff] at h
        obtain ⟨⟨n, is, r'⟩, hx, h⟩ := h
        injection h with h h2; subst h; dsimp only at h2; subst h2
        simp only [clsL, Option.map_eq_some_iff] at hx
        obtain ⟨⟨is', r2⟩, hx, h⟩ := hx
        injection h with h h2; injection h2 with h2 h3; subst h; subst h2; subst h3
        obtain ⟨l', e, hrd, hne, hany⟩ := items_seg _ _ _ _ _ (Nat.le_refl _) hx
        have hne := hne rfl
        right; right
        cases hn : negated l with
        | false =>
          have eb : behindNot l = l := by simp [behindNot, hn]
          rw [eb] at e
          have e2 : negated l' = false := by
            cases l' with
            | nil => exact absurd rfl hne
            | cons y l' => rw [e] at hn; simpa [negated] using hn
          exact ⟨l', false, is', by rw [hb2, e], hne, rfl, e2, by rw [behindNot, e2]; simpa using hrd⟩
        | true =>
          cases l with
          | nil => simp [negated] at hn
          | cons y l =>
            have eb : behindNot (y :: l) = l := by simp [behindNot, hn]
            rw [eb] at e
            have e2 : negated (y :: l') = true := by simpa [negated] using hn
            exact ⟨y :: l', true, is', by rw [hb2, e]; rfl, by simp, rfl, e2, by rw [behindNot, e2]; simpa using hrd⟩
      · rename_i hb2
        simp only [Option.some.injEq, Prod.mk.injEq] at h
        obtain ⟨rfl, rfl⟩ := h
        exact .inr (.inl ⟨b, rfl, hb, hb2, rfl⟩)
theorem one_snd (x : Ln.Bs) (hx : x.length ≤ 1048576) (t : Tok) (h : tok x = some (t, [])) (ht : t ≠ .star) (c : UInt8) : Snd Tryd.prog (gl m) 130 [S x, U8 c] (B (fits t c)) := by
  refine snd_of (fn := Tryd.f130) (af := rone) Tryd.func130 (rone_comp m) mixed (kn_ok m) (Nat.le_of_ble_eq_true rfl) ?_
  simp only [rone, go_sem, reduceCtorEq, Nat.reduceEqDiff, reduceIte, Nat.reduceAdd, Nat.reduceSub, Nat.reduceLeDiff, Int.reduceToNat, Nat.reduceBEq]
  rcases tok_cases h with ⟨d, rfl, rfl⟩ | ⟨b, rfl, h1, h2, e⟩ | ⟨v, n, is, rfl, hv, rfl, hn, hrd⟩
  · rw [se_f (by simp)]
    simp only [go_sem, reduceCtorEq, Nat.reduceEqDiff, reduceIte, Nat.reduceAdd, Nat.reduceSub, Nat.reduceLeDiff, Int.reduceToNat, Nat.reduceBEq]
    rw [u8b_t (n := 92) rfl rfl]
    simp only [beqN, fits, go_sem, reduceCtorEq, Nat.reduceEqDiff, reduceIte, Nat.reduceAdd, Nat.reduceSub, Nat.reduceLeDiff, Int.reduceToNat, Nat.reduceBEq]
    omega
  · by_cases h63 : b = 63
    · subst h63
      rw [if_neg (by decide), if_pos rfl] at e
      subst e
      rw [se_t rfl]
      simp only [go_sem, reduceCtorEq, Nat.reduceEqDiff, reduceIte, Nat.reduceAdd, Nat.reduceSub, Nat.reduceLeDiff, Int.reduceToNat, Nat.reduceBEq]
      rfl
    · have h42 : b ≠ 42 := by rintro rfl; rw [if_pos rfl] at e; exact ht e
      rw [if_neg h42, if_neg h63] at e
      subst e
      rw [se_f (by simpa using h63)]
      simp only [go_sem, reduceCtorEq, Nat.reduceEqDiff, reduceIte, Nat.reduceAdd, Nat.reduceSub, Nat.reduceLeDiff, Int.reduceToNat, Nat.reduceBEq]
      rw [u8b_f (n := 92) h1 rfl]
      simp only [go_sem, reduceCtorEq, Nat.reduceEqDiff, reduceIte, Nat.reduceAdd, Nat.reduceSub, Nat.reduceLeDiff, Int.reduceToNat, Nat.reduceBEq]
      rw [eq_t (by rfl)]
      simp only [beqN, fits, go_sem, reduceCtorEq, Nat.reduceEqDiff, reduceIte, Nat.reduceAdd, Nat.reduceSub, Nat.reduceLeDiff, Int.reduceToNat, Nat.reduceBEq]
      omega
  · have hlen : (91 :: (v ++ [93])).length = v.length + 2 := by simp
    have hvp : 0 < v.length := by cases v; exact absurd rfl hv; simp
    rw [se_f (by cases v <;> simp)]
    simp only [go_sem, reduceCtorEq, Nat.reduceEqDiff, reduceIte, Nat.reduceAdd, Nat.reduceSub, Nat.reduceLeDiff, Int.reduceToNat, Nat.reduceBEq]
    rw [u8b_f (c := 91) (d := 92) (n := 92) (by decide) rfl]
    simp only [go_sem, reduceCtorEq, Nat.reduceEqDiff, reduceIte, Nat.reduceAdd, Nat.reduceSub, Nat.reduceLeDiff, Int.reduceToNat, Nat.reduceBEq]
    rw [eq_f (by simp; omega)]
    simp only [go_sem, reduceCtorEq, Nat.reduceEqDiff, reduceIte, Nat.reduceAdd, Nat.reduceSub, Nat.reduceLeDiff, Int.reduceToNat, Nat.reduceBEq]
    have hw : IntKind.i64.wrap (((v ++ [93]).length + 1 : Nat) - 1 : Int) = ((v.length + 1 : Nat) : Int) := wrapN (v.length + 1) (by simp) (by omega)
    have hcut : List.take v.length (v ++ [93]) = v := by simp
    have hnb : negated v = (v[0] == 33 || v[0] == 94) := by
      cases v with
      | nil => exact absurd rfl hv
      | cons y l => rfl
    simp only [hw, Int.toNat_natCast, hcut, getE hvp, go_sem, reduceCtorEq, Nat.reduceEqDiff, reduceIte, Nat.reduceAdd, Nat.reduceSub, Nat.reduceLeDiff, Int.reduceToNat, Nat.reduceBEq]
    refine ⟨by omega, by omega, by omega, by simp; omega, by omega, ?_⟩
    by_cases h33 : v[0] = 33
    · rw [u8b_t (n := 33) h33 rfl]
      rw [hnb, h33] at hn
      have hb : behindNot v = v.drop 1 := by rw [behindNot, hnb, h33, if_pos (by decide), ← List.drop_one]
      rw [hb] at hrd
      simp only [go_sem, reduceCtorEq, Nat.reduceEqDiff, reduceIte, Nat.reduceAdd, Nat.reduceSub, Nat.reduceLeDiff, Int.reduceToNat, Nat.reduceBEq]
      repeat (refine ⟨by (try simp only [List.length_append, List.length_cons, List.length_nil, List.length_drop, List.length_take]); omega, ?_⟩)
      refine of_call (said_snd (v.drop 1) (by simp; omega) c is hrd) ?_
      subst hn
      simp only [fits, go_sem, reduceCtorEq, Nat.reduceEqDiff, reduceIte, Nat.reduceAdd, Nat.reduceSub, Nat.reduceLeDiff, Int.reduceToNat, Nat.reduceBEq]
      cases hit is c <;> rfl
    · rw [u8b_f (n := 33) h33 rfl]
      simp only [getE hvp, go_sem, reduceCtorEq, Nat.reduceEqDiff, reduceIte, Nat.reduceAdd, Nat.reduceSub, Nat.reduceLeDiff, Int.reduceToNat, Nat.reduceBEq]
      refine ⟨by omega, ?_⟩
      by_cases h94 : v[0] = 94
      · rw [u8b_t (n := 94) h94 rfl]
        rw [hnb, h94] at hn
        have hb : behindNot v = v.drop 1 := by rw [behindNot, hnb, h94, if_pos (by decide), ← List.drop_one]
        rw [hb] at hrd
        simp only [go_sem, reduceCtorEq, Nat.reduceEqDiff, reduceIte, Nat.reduceAdd, Nat.reduceSub, Nat.reduceLeDiff, Int.reduceToNat, Nat.reduceBEq]
        repeat (refine ⟨by (try simp only [List.length_append, List.length_cons, List.length_nil, List.length_drop, List.length_take]); omega, ?_⟩)
        refine of_call (said_snd (v.drop 1) (by simp; omega) c is hrd) ?_
        subst hn
        simp only [fits, go_sem, reduceCtorEq, Nat.reduceEqDiff, reduceIte, Nat.reduceAdd, Nat.reduceSub, Nat.reduceLeDiff, Int.reduceToNat, Nat.reduceBEq]
        cases hit is c <;> rfl
      · rw [u8b_f (n := 94) h94 rfl]
        have hn2 : negated v = false := by rw [hnb]; simp [h33, h94]
        rw [hn2] at hn
        have hb : behindNot v = v := by rw [behindNot, hn2]; rfl
        rw [hb] at hrd
        simp only [go_sem, reduceCtorEq, Nat.reduceEqDiff, reduceIte, Nat.reduceAdd, Nat.reduceSub, Nat.reduceLeDiff, Int.reduceToNat, Nat.reduceBEq]
        refine of_call (said_snd v (by omega) c is hrd) ?_
        subst hn
        simp only [fits, go_sem, reduceCtorEq, Nat.reduceEqDiff, reduceIte, Nat.reduceAdd, Nat.reduceSub, Nat.reduceLeDiff, Int.reduceToNat, Nat.reduceBEq]
        cases hit is c <;> rfl
theorem tokOf_eq {x : Ln.Bs} {t : Tok} (h : tok x = some (t, [])) : tokOf x = t := by rw [tokOf, h]
theorem str0 {s : Ln.Bs} (h : s ≠ []) : 0 < s.length := by cases s; exact absurd rfl h; simp
theorem whole_star_pos (l : List Tok) {s : Ln.Bs} (h : s ≠ []) : whole (.star :: l) s = (whole l s || whole (.star :: l) (s.drop 1)) := by
  rw [whole_star]; cases s with
  | nil => exact absurd rfl h
  | cons _ _ => rfl
theorem whole_tok_pos {t : Tok} (ht : t ≠ .star) (l : List Tok) {s : Ln.Bs} (h : 0 < s.length) : whole (t :: l) s = (fits t s[0] && whole l (s.drop 1)) := by
  rw [whole_tok ht]; cases s with
  | nil => simp at h
  | cons _ _ => rfl
theorem rwhole_snd (n : Nat) : ∀ (L : List Ln.Bs) (s : Ln.Bs) (hn : L.length + s.length ≤ n) (hL : L.length ≤ 1048576) (hs : s.length ≤ 1048576) (ht : ∀ x, x ∈ L → x.length ≤ 1048576 ∧ ∃ t, tok x = some (t, [])),
    Snd Tryd.prog (gl m) 108 [.sl .frn 1 (ss L), S s] (B (whole (L.map tokOf) s)) := by
  induction n with
  | zero =>
    intro L s hn hL hs ht
    obtain rfl : L = [] := len_0 (by omega)
    obtain rfl : s = [] := len_0 (by omega)
    refine snd_of (fn := Tryd.f108) (af := rwhole) Tryd.func108 (rwhole_comp m) mixed (kn_ok m) (Nat.le_of_ble_eq_true rfl) ?_
    simp only [rwhole, go_sem, reduceCtorEq, Nat.reduceEqDiff, reduceIte, Nat.reduceAdd, Nat.reduceSub, Nat.reduceLeDiff, Int.reduceToNat, Nat.reduceBEq]
    rw [eq_t (by rfl)]
    simp only [go_sem, reduceCtorEq, Nat.reduceEqDiff, reduceIte, Nat.reduceAdd, Nat.reduceSub, Nat.reduceLeDiff, Int.reduceToNat, Nat.reduceBEq]
    rw [whole]; rfl
  | succ n ih =>
    intro L s hn hL hs ht
    refine snd_of (fn := Tryd.f108) (af := rwhole) Tryd.func108 (rwhole_comp m) mixed (kn_ok m) (Nat.le_of_ble_eq_true rfl) ?_
    cases L with
    | nil =>
      simp only [rwhole, go_sem, reduceCtorEq, Nat.reduceEqDiff, reduceIte, Nat.reduceAdd, Nat.reduceSub, Nat.reduceLeDiff, Int.reduceToNat, Nat.reduceBEq]
      rw [eq_t (by rfl)]
      simp only [go_sem, reduceCtorEq, Nat.reduceEqDiff, reduceIte, Nat.reduceAdd, Nat.reduceSub, Nat.reduceLeDiff, Int.reduceToNat, Nat.reduceBEq]
      rw [whole]
    | cons x L =>
      obtain ⟨hxl, t, htx⟩ := ht x (List.mem_cons_self ..)
      have ht' : ∀ y, y ∈ L → y.length ≤ 1048576 ∧ ∃ t, tok y = some (t, []) := fun y hy => ht y (List.mem_cons_of_mem _ hy)
      have hpos : 0 < (x :: L).length := by simp
      have e0 : (x :: L)[0] = x := rfl
      have e1 : (x :: L).drop 1 = L := rfl
      simp only [List.length_cons] at hn hL
      simp only [rwhole, go_sem, reduceCtorEq, Nat.reduceEqDiff, reduceIte, Nat.reduceAdd, Nat.reduceSub, Nat.reduceLeDiff, Int.reduceToNat, Nat.reduceBEq]
      rw [eq_f (by simp; omega)]
      simp only [ssE (x :: L) hpos, List.getElem_cons_zero, go_sem, reduceCtorEq, Nat.reduceEqDiff, reduceIte, Nat.reduceAdd, Nat.reduceSub, Nat.reduceLeDiff, Int.reduceToNat, Nat.reduceBEq]
      refine ⟨by omega, by omega, ?_⟩
      have e2 : (x :: L).map tokOf = t :: L.map tokOf := by rw [List.map_cons, tokOf_eq htx]
      rw [tokOf_eq htx]
      by_cases h42 : x = [42]
      · have hts := (star_iff htx).1 h42
        subst hts
        rw [se_t h42]
        simp only [go_sem, reduceCtorEq, Nat.reduceEqDiff, reduceIte, Nat.reduceAdd, Nat.reduceSub, Nat.reduceLeDiff, Int.reduceToNat, Nat.reduceBEq]
        repeat (refine ⟨by (try simp only [List.length_append, List.length_cons, List.length_nil, List.length_drop, List.length_take]); omega, ?_⟩)
        refine of_call (ih L s (by omega) (by omega) hs ht') ?_
        cases hA : whole (L.map tokOf) s with
        | true =>
          have hr : whole (.star :: L.map tokOf) s = true := by rw [whole_star, hA, Bool.true_or]
          rw [hr]
          simp only [go_sem, reduceCtorEq, Nat.reduceEqDiff, reduceIte, Nat.reduceAdd, Nat.reduceSub, Nat.reduceLeDiff, Int.reduceToNat, Nat.reduceBEq]
        | false =>
          simp only [go_sem, reduceCtorEq, Nat.reduceEqDiff, reduceIte, Nat.reduceAdd, Nat.reduceSub, Nat.reduceLeDiff, Int.reduceToNat, Nat.reduceBEq]
          by_cases h0 : s = []
          · rw [sn_f h0]
            have hr : whole (.star :: L.map tokOf) s = false := by rw [whole_star, hA, h0]; rfl
            rw [hr]
            simp only [go_sem, reduceCtorEq, Nat.reduceEqDiff, reduceIte, Nat.reduceAdd, Nat.reduceSub, Nat.reduceLeDiff, Int.reduceToNat, Nat.reduceBEq]
          · have hp := str0 h0
            have hr : whole (.star :: L.map tokOf) s = whole ((x :: L).map tokOf) (s.drop 1) := by rw [whole_star_pos _ h0, hA, Bool.false_or, e2]
            rw [sn_t h0, hr]
            simp only [go_sem, reduceCtorEq, Nat.reduceEqDiff, reduceIte, Nat.reduceAdd, Nat.reduceSub, Nat.reduceLeDiff, Int.reduceToNat, Nat.reduceBEq]
            repeat (refine ⟨by (try simp only [List.length_append, List.length_cons, List.length_nil, List.length_drop, List.length_take]); omega, ?_⟩)
            refine of_call (ih (x :: L) (s.drop 1) (by simp; omega) (by simp; omega) (by simp; omega) ht) ?_
            simp only [go_sem, reduceCtorEq, Nat.reduceEqDiff, reduceIte, Nat.reduceAdd, Nat.reduceSub, Nat.reduceLeDiff, Int.reduceToNat, Nat.reduceBEq]
      · have hts : t ≠ .star := fun e => h42 ((star_iff htx).2 e)
        rw [se_f h42]
        simp only [go_sem, reduceCtorEq, Nat.reduceEqDiff, reduceIte, Nat.reduceAdd, Nat.reduceSub, Nat.reduceLeDiff, Int.reduceToNat, Nat.reduceBEq]
        by_cases h0 : s = []
        · rw [sn_f h0]
          have hr : whole (t :: L.map tokOf) s = false := by rw [whole_tok hts, h0]
          rw [hr]
          simp only [go_sem, reduceCtorEq, Nat.reduceEqDiff, reduceIte, Nat.reduceAdd, Nat.reduceSub, Nat.reduceLeDiff, Int.reduceToNat, Nat.reduceBEq]
        · have hp := str0 h0
          rw [sn_t h0, whole_tok_pos hts _ hp]
          simp only [ssE (x :: L) hpos, List.getElem_cons_zero, getE hp, go_sem, reduceCtorEq, Nat.reduceEqDiff, reduceIte, Nat.reduceAdd, Nat.reduceSub, Nat.reduceLeDiff, Int.reduceToNat, Nat.reduceBEq]
          refine ⟨by omega, by omega, by omega, ?_⟩
          refine of_call (one_snd x hxl t htx hts s[0]) ?_
          cases hA : fits t s[0] with
          | false => simp only [Bool.false_and, go_sem, reduceCtorEq, Nat.reduceEqDiff, reduceIte, Nat.reduceAdd, Nat.reduceSub, Nat.reduceLeDiff, Int.reduceToNat, Nat.reduceBEq]
          | true =>
            simp only [Bool.true_and, go_sem, reduceCtorEq, Nat.reduceEqDiff, reduceIte, Nat.reduceAdd, Nat.reduceSub, Nat.reduceLeDiff, Int.reduceToNat, Nat.reduceBEq]
            repeat (refine ⟨by (try simp only [List.length_append, List.length_cons, List.length_nil, List.length_drop, List.length_take]); omega, ?_⟩)
            refine of_call (ih L (s.drop 1) (by simp; omega) (by omega) (by simp; omega) ht') ?_
            simp only [go_sem, reduceCtorEq, Nat.reduceEqDiff, reduceIte, Nat.reduceAdd, Nat.reduceSub, Nat.reduceLeDiff, Int.reduceToNat, Nat.reduceBEq]
end Go.Gb
namespace Go.Gb
open Go.At (gl kn kn_ok tab0 mixed index1 indexByte hasPrefix trimSuffix replaceAll)
open Go Go.Ev Go.Proofs
open Go.Ln (u8b_t u8b_f u8n_t u8n_f getX idx idx_eq idx_of idx_none)
set_option linter.unusedVariables false
set_option linter.unusedSimpArgs false
attribute [local go_sem] eqs implies_true List.map_cons List.map_nil kl klL roD roL Option.map_some Option.map_none Option.getD_some Option.getD_none binVal binObl unVal if_true if_false eq_self passA frnD resD content getH getR getW viaNot viaSlot viaBox viaDeep viaMem List.contains_cons List.contains_nil grabs peeks okCells isCell place cellsOf chunk elt List.headD_cons List.length_cons List.length_nil List.take_succ_cons List.take_zero List.drop_succ_cons List.drop_zero List.nil_append List.cons_append List.append_nil List.all_cons List.all_nil plainC takeR setW over reCell List.getElem?_cons_zero List.getElem?_cons_succ List.set_cons_zero List.take_length outV resG plainV pack outVG outBx List.set_cons_succ Ref.idx Ref.addOff beq_self_eq_true bxL Option.bind_some writeR isLit viaBoxes capsPA boxPA nsOf noDup boxesAt argG passG passD rhoIn rhoOut idxIn tr trL List.getD_cons_zero gives pasOf isPtr Ins.d List.getD_cons_succ resL frnL
variable {m : Int}
def r7is_l0' : AC := .seq (.seq (.reg (.seq [⟨some (17, false), none, .mov (.tmp 4 true) .peek⟩,⟨some (18, false), none, .mov (.tmp 3 true) .peek⟩,⟨some (19, false), none, .lenL (.tmp 18 false)⟩,⟨some (20, false), none, .bin .lss (.tmp 17 false) (.tmp 19 false)⟩])) [3, 4, 20] []
  (.cond (.tmp 20 false)
    (.skip)
    (.exit 0))) [3, 4] []
  (.seq (.block 1 (.seq (.reg (.seq [⟨some (24, false), none, .mov (.tmp 3 true) .peek⟩,⟨some (25, false), none, .mov (.tmp 4 true) .peek⟩,⟨some (26, false), none, .iad (.tmp 24 false) (.tmp 25 false) 1⟩,⟨some (27, false), none, .load (.tmp 26 false) 1 false false⟩,⟨some (28, false), none, .call 107 [.tmp 27 false]⟩,⟨some (23, false), none, .mov (.tmp 28 false) .peek⟩,⟨some (29, false), none, .ext (.tmp 23 false) 0⟩,⟨some (30, false), none, .ext (.tmp 23 false) 1⟩,⟨some (5, false), none, .mov (.tmp 29 false) .asg⟩,⟨some (6, true), none, .mov (.tmp 30 false) .asg⟩])) [3, 4, 6] []
    (.seq (.reg (.seq [⟨some (31, false), none, .mov (.tmp 6 true) .peek⟩,⟨some (32, false), none, .un .not (.tmp 31 false)⟩])) [3, 4, 32] []
    (.cond (.tmp 32 false)
      (.seq (.reg (.seq [⟨some (2, true), none, .mov (.cst (.bool false) (.lit (.bool false))) .asg⟩])) [2] []
      (.ret))
      (.skip))))) [3, 4] []
  (.reg (.seq [⟨some (21, false), none, .mov (.tmp 4 true) .peek⟩,⟨some (22, false), none, .bin .add (.tmp 21 false) (.cst (.int .i64 1) (.lit (.int .i64 1)))⟩,⟨some (4, true), none, .mov (.tmp 22 false) .asg⟩])))
def r7is_l0 : AC := r7is_l0'
theorem r7is_l0_w (C : Kn) (K : Ex → St → Prop) (s : St) : vcC C r7is_l0 K s = vcC C r7is_l0' K s := nr rfl
def r7is_k1' : AC := .seq (.reg (.seq [⟨some (2, true), none, .mov (.cst (.bool true) (.lit (.bool true))) .asg⟩])) [2] []
  (.ret)
def r7is_k1 : AC := r7is_k1'
theorem r7is_k1_w (C : Kn) (K : Ex → St → Prop) (s : St) : vcC C r7is_k1 K s = vcC C r7is_k1' K s := nr rfl
def r7is : AF := ⟨.seq (.reg (.seq [⟨some (2, true), none, .mov (.cst (.bool false) (.lit (.bool false))) .asg⟩])) [0] []
  (.seq (.seq (.reg (.seq [⟨some (7, false), none, .mov (.tmp 0 true) .peek⟩,⟨some (8, false), none, .len (.tmp 7 false)⟩,⟨some (9, false), none, .bin .lss (.tmp 8 false) (.cst (.int .i64 1) (.lit (.int .i64 1)))⟩,⟨some (10, false), none, .mov (.tmp 9 false) .peek⟩,⟨some (11, false), (some (10, false)), .mov (.tmp 0 true) .peek⟩,⟨some (12, false), (some (10, false)), .len (.tmp 11 false)⟩,⟨some (13, false), (some (10, false)), .bin .gtr (.tmp 12 false) (.cst (.int .i64 255) (.lit (.int .i64 255)))⟩,⟨some (14, false), none, .pick (.tmp 10 false) (.cst (.bool true) (.lit (.bool true))) (.tmp 13 false)⟩])) [0, 14] []
  (.cond (.tmp 14 false)
    (.seq (.reg (.seq [⟨some (2, true), none, .mov (.cst (.bool false) (.lit (.bool false))) .asg⟩])) [2] []
    (.ret))
    (.skip))) [0] []
  (.seq (.reg (.seq [⟨some (15, false), none, .mov (.tmp 0 true) .peek⟩,⟨some (16, false), none, .call 43 [.tmp 15 false]⟩,⟨some (3, true), none, .mov (.tmp 16 false) .asg⟩])) [3] []
  (.seq (.seq (.reg (.seq [⟨some (4, true), none, .mov (.cst (.int .i64 0) (.lit (.int .i64 0))) .asg⟩])) [3, 4] []
  (.block 0 (.loop [3, 4] [] r7is_l0))) [] [] r7is_k1))),
  [.tmp 2]⟩
theorem r7is_comp (m : Int) : compF Tryd.prog (gl m) [] Tryd.f100 = some r7is := by kernel_rfl
def r7part_l0' : AC := .seq (.seq (.reg (.seq [⟨some (26, false), none, .mov (.tmp 7 true) .peek⟩,⟨some (27, false), none, .mov (.tmp 1 true) .peek⟩,⟨some (28, false), none, .len (.tmp 27 false)⟩,⟨some (29, false), none, .bin .lss (.tmp 26 false) (.tmp 28 false)⟩])) [1, 5, 7, 29] []
  (.cond (.tmp 29 false)
    (.skip)
    (.exit 0))) [1, 5, 7] []
  (.seq (.block 1 (.seq (.reg (.seq [⟨some (32, false), none, .mov (.tmp 1 true) .peek⟩,⟨some (33, false), none, .mov (.tmp 7 true) .peek⟩,⟨some (34, false), none, .idx (.tmp 32 false) (.tmp 33 false)⟩,⟨some (35, false), none, .bin .eql (.tmp 34 false) (.cst (.int .u8 47) (.lit (.int .u8 47)))⟩])) [1, 5, 7, 35] []
    (.cond (.tmp 35 false)
      (.seq (.reg (.seq [⟨some (4, true), none, .mov (.cst (.bool false) (.lit (.bool false))) .asg⟩])) [4] []
      (.ret))
      (.skip)))) [1, 5, 7] []
  (.reg (.seq [⟨some (30, false), none, .mov (.tmp 7 true) .peek⟩,⟨some (31, false), none, .bin .add (.tmp 30 false) (.cst (.int .i64 1) (.lit (.int .i64 1)))⟩,⟨some (7, true), none, .mov (.tmp 31 false) .asg⟩])))
def r7part_l0 : AC := r7part_l0'
theorem r7part_l0_w (C : Kn) (K : Ex → St → Prop) (s : St) : vcC C r7part_l0 K s = vcC C r7part_l0' K s := nr rfl
def r7part_k1' : AC := .seq (.reg (.seq [⟨some (36, false), none, .mov (.tmp 5 true) .peek⟩,⟨some (37, false), none, .mov (.tmp 1 true) .peek⟩,⟨some (38, false), none, .call 108 [.tmp 36 false, .tmp 37 false]⟩,⟨some (4, true), none, .mov (.tmp 38 false) .asg⟩])) [4] []
  (.ret)
def r7part_k1 : AC := r7part_k1'
theorem r7part_k1_w (C : Kn) (K : Ex → St → Prop) (s : St) : vcC C r7part_k1 K s = vcC C r7part_k1' K s := nr rfl
def r7part : AF := ⟨.seq (.reg (.seq [⟨some (4, true), none, .mov (.cst (.bool false) (.lit (.bool false))) .asg⟩])) [0, 1] []
  (.seq (.reg (.seq [⟨some (9, false), none, .mov (.tmp 0 true) .peek⟩,⟨some (10, false), none, .call 107 [.tmp 9 false]⟩,⟨some (8, false), none, .mov (.tmp 10 false) .peek⟩,⟨some (11, false), none, .ext (.tmp 8 false) 0⟩,⟨some (12, false), none, .ext (.tmp 8 false) 1⟩,⟨some (5, true), none, .mov (.tmp 11 false) .asg⟩,⟨some (6, true), none, .mov (.tmp 12 false) .asg⟩])) [0, 1, 5, 6] []
  (.seq (.seq (.reg (.seq [⟨some (13, false), none, .mov (.tmp 6 true) .peek⟩,⟨some (14, false), none, .un .not (.tmp 13 false)⟩,⟨some (15, false), none, .mov (.tmp 14 false) .peek⟩,⟨some (16, false), (some (15, false)), .mov (.tmp 0 true) .peek⟩,⟨some (17, false), (some (15, false)), .call 100 [.tmp 16 false]⟩,⟨some (18, false), (some (15, false)), .un .not (.tmp 17 false)⟩,⟨some (19, false), none, .pick (.tmp 15 false) (.cst (.bool true) (.lit (.bool true))) (.tmp 18 false)⟩,⟨some (20, false), none, .mov (.tmp 19 false) .peek⟩,⟨some (21, false), (some (20, false)), .mov (.tmp 0 true) .peek⟩,⟨some (22, false), (some (20, false)), .call 43 [.tmp 21 false]⟩,⟨some (23, false), (some (20, false)), .lenL (.tmp 22 false)⟩,⟨some (24, false), (some (20, false)), .bin .neq (.tmp 23 false) (.cst (.int .i64 1) (.lit (.int .i64 1)))⟩,⟨some (25, false), none, .pick (.tmp 20 false) (.cst (.bool true) (.lit (.bool true))) (.tmp 24 false)⟩])) [1, 5, 25] []
  (.cond (.tmp 25 false)
    (.seq (.reg (.seq [⟨some (4, true), none, .mov (.cst (.bool false) (.lit (.bool false))) .asg⟩])) [4] []
    (.ret))
    (.skip))) [1, 5] []
  (.seq (.seq (.reg (.seq [⟨some (7, true), none, .mov (.cst (.int .i64 0) (.lit (.int .i64 0))) .asg⟩])) [1, 5, 7] []
  (.block 0 (.loop [1, 5, 7] [] r7part_l0))) [1, 5] [] r7part_k1))),
  [.tmp 4]⟩
theorem r7part_comp (m : Int) : compF Tryd.prog (gl m) [] Tryd.f74 = some r7part := by kernel_rfl
def r7parts : AF := ⟨.seq (.reg (.seq [⟨some (4, true), none, .mov (.cst (.bool false) (.lit (.bool false))) .asg⟩])) [0, 1] []
  (.seq (.seq (.reg (.seq [⟨some (5, false), none, .mov (.tmp 0 true) .peek⟩,⟨some (6, false), none, .lenL (.tmp 5 false)⟩,⟨some (7, false), none, .bin .eql (.tmp 6 false) (.cst (.int .i64 0) (.lit (.int .i64 0)))⟩])) [0, 1, 7] []
  (.cond (.tmp 7 false)
    (.seq (.reg (.seq [⟨some (8, false), none, .mov (.tmp 1 true) .peek⟩,⟨some (9, false), none, .lenL (.tmp 8 false)⟩,⟨some (10, false), none, .bin .eql (.tmp 9 false) (.cst (.int .i64 0) (.lit (.int .i64 0)))⟩,⟨some (4, true), none, .mov (.tmp 10 false) .asg⟩])) [4] []
    (.ret))
    (.skip))) [0, 1] []
  (.seq (.seq (.reg (.seq [⟨some (11, false), none, .mov (.tmp 0 true) .peek⟩,⟨some (12, false), none, .iad (.tmp 11 false) (.cst (.int .i64 0) (.lit (.int .i64 0))) 1⟩,⟨some (13, false), none, .load (.tmp 12 false) 1 false false⟩,⟨some (14, false), none, .bin .eql (.tmp 13 false) (.cst (.string (str [42, 42])) (.lit (.string (str [42, 42]))))⟩])) [0, 1, 14] []
  (.cond (.tmp 14 false)
    (.seq (.reg (.seq [⟨some (15, false), none, .mov (.tmp 0 true) .peek⟩,⟨some (16, false), none, .slc 1 (.tmp 15 false) (some (.cst (.int .i64 1) (.lit (.int .i64 1)))) none⟩,⟨some (17, false), none, .mov (.tmp 1 true) .peek⟩,⟨some (18, false), none, .call 109 [.tmp 16 false, .tmp 17 false]⟩,⟨some (19, false), none, .mov (.tmp 18 false) .peek⟩,⟨some (20, false), (some (19, false)), .mov (.tmp 1 true) .peek⟩,⟨some (21, false), (some (19, false)), .lenL (.tmp 20 false)⟩,⟨some (22, false), (some (19, false)), .bin .gtr (.tmp 21 false) (.cst (.int .i64 0) (.lit (.int .i64 0)))⟩,⟨some (23, false), (some (19, false)), .mov (.tmp 22 false) .peek⟩,⟨some (24, false), (some (23, true)), .mov (.tmp 0 true) .peek⟩,⟨some (25, false), (some (23, true)), .mov (.tmp 1 true) .peek⟩,⟨some (26, false), (some (23, true)), .slc 1 (.tmp 25 false) (some (.cst (.int .i64 1) (.lit (.int .i64 1)))) none⟩,⟨some (27, false), (some (23, true)), .call 109 [.tmp 24 false, .tmp 26 false]⟩,⟨some (28, false), (some (19, false)), .pick (.tmp 23 false) (.tmp 27 false) (.cst (.bool false) (.lit (.bool false)))⟩,⟨some (29, false), none, .pick (.tmp 19 false) (.cst (.bool true) (.lit (.bool true))) (.tmp 28 false)⟩,⟨some (4, true), none, .mov (.tmp 29 false) .asg⟩])) [4] []
    (.ret))
    (.skip))) [0, 1] []
  (.seq (.reg (.draw [⟨some (30, false), none, .mov (.tmp 1 true) .peek⟩,⟨some (31, false), none, .lenL (.tmp 30 false)⟩,⟨some (32, false), none, .bin .gtr (.tmp 31 false) (.cst (.int .i64 0) (.lit (.int .i64 0)))⟩,⟨some (33, false), none, .mov (.tmp 32 false) .peek⟩,⟨some (34, false), (some (33, true)), .mov (.tmp 0 true) .peek⟩,⟨some (35, false), (some (33, true)), .iad (.tmp 34 false) (.cst (.int .i64 0) (.lit (.int .i64 0))) 1⟩,⟨some (36, false), (some (33, true)), .load (.tmp 35 false) 1 false false⟩,⟨some (37, false), (some (33, true)), .mov (.tmp 1 true) .peek⟩,⟨some (38, false), (some (33, true)), .iad (.tmp 37 false) (.cst (.int .i64 0) (.lit (.int .i64 0))) 1⟩,⟨some (39, false), (some (33, true)), .load (.tmp 38 false) 1 false false⟩,⟨some (40, false), (some (33, true)), .call 74 [.tmp 36 false, .tmp 39 false]⟩,⟨some (41, false), none, .pick (.tmp 33 false) (.tmp 40 false) (.cst (.bool false) (.lit (.bool false)))⟩,⟨some (42, false), none, .mov (.tmp 41 false) .peek⟩,⟨some (43, false), (some (42, true)), .mov (.tmp 0 true) .peek⟩,⟨some (44, false), (some (42, true)), .slc 1 (.tmp 43 false) (some (.cst (.int .i64 1) (.lit (.int .i64 1)))) none⟩,⟨some (45, false), (some (42, true)), .mov (.tmp 1 true) .peek⟩,⟨some (46, false), (some (42, true)), .slc 1 (.tmp 45 false) (some (.cst (.int .i64 1) (.lit (.int .i64 1)))) none⟩,⟨some (47, false), (some (42, true)), .call 109 [.tmp 44 false, .tmp 46 false]⟩,⟨some (48, false), none, .pick (.tmp 42 false) (.tmp 47 false) (.cst (.bool false) (.lit (.bool false)))⟩] (.alt ⟨some (4, true), none, .mov (.tmp 48 false) .asg⟩ []
      .done .no))) [4] []
  (.ret)))),
  [.tmp 4]⟩
theorem r7parts_comp (m : Int) : compF Tryd.prog (gl m) [] Tryd.f109 = some r7parts := by kernel_rfl
def r7match : AF := ⟨.seq (.reg (.seq [⟨some (4, true), none, .mov (.cst (.bool false) (.lit (.bool false))) .asg⟩])) [0, 1] []
  (.seq (.reg (.seq [⟨some (5, false), none, .mov (.tmp 0 true) .peek⟩,⟨some (6, false), none, .call 100 [.tmp 5 false]⟩,⟨some (7, false), none, .mov (.tmp 6 false) .peek⟩,⟨some (8, false), (some (7, true)), .mov (.tmp 1 true) .peek⟩,⟨some (9, false), (some (7, true)), .call 14 [.tmp 8 false]⟩,⟨some (10, false), none, .pick (.tmp 7 false) (.tmp 9 false) (.cst (.bool false) (.lit (.bool false)))⟩,⟨some (11, false), none, .mov (.tmp 10 false) .peek⟩,⟨some (12, false), (some (11, true)), .mov (.tmp 0 true) .peek⟩,⟨some (13, false), (some (11, true)), .call 43 [.tmp 12 false]⟩,⟨some (14, false), (some (11, true)), .mov (.tmp 1 true) .peek⟩,⟨some (15, false), (some (11, true)), .call 43 [.tmp 14 false]⟩,⟨some (16, false), (some (11, true)), .call 109 [.tmp 13 false, .tmp 15 false]⟩,⟨some (17, false), none, .pick (.tmp 11 false) (.tmp 16 false) (.cst (.bool false) (.lit (.bool false)))⟩,⟨some (4, true), none, .mov (.tmp 17 false) .asg⟩])) [4] []
  (.ret)),
  [.tmp 4]⟩
theorem r7match_comp (m : Int) : compF Tryd.prog (gl m) [] Tryd.f76 = some r7match := by kernel_rfl
theorem segs_good {x : Ln.Bs} : good x = match segs x with | none => false | some L => decide (0 < L.length) := by
  have ht := (segs_toks _ x (Nat.le_refl _)).1
  rw [good, ht]
  by_cases hx : x = []
  · subst hx; rw [segs_nil]; rfl
  · rw [decide_eq_true hx, Bool.true_and]
    cases hs : segs x with
    | none => rfl
    | some L =>
      cases L with
      | nil =>
        exfalso
        cases htk : tok x with
        | none => rw [segs_none hx htk] at hs; cases hs
        | some q => obtain ⟨t, R⟩ := q; rw [segs_some htk, Option.map_eq_some_iff] at hs; obtain ⟨_, _, e⟩ := hs; cases e
      | cons y L => simp
theorem segs_count {x : Ln.Bs} {Z : List Ln.Bs} (h : segs x = some Z) : Z.length ≤ x.length ∧ ∀ y, y ∈ Z → y.length ≤ x.length := by
  have : ∀ (n : Nat) (x : Ln.Bs) (Z : List Ln.Bs), x.length ≤ n → segs x = some Z → Z.length ≤ x.length ∧ ∀ y, y ∈ Z → y.length ≤ x.length := by
    intro n
    induction n with
    | zero =>
      intro x Z hx h
      obtain rfl : x = [] := len_0 (by omega)
      rw [segs_nil] at h; injection h with h; subst h; simp
    | succ n ih =>
      intro x Z hx h
      by_cases h0 : x = []
      · subst h0; rw [segs_nil] at h; injection h with h; subst h; simp
      · cases ht : tok x with
        | none => rw [segs_none h0 ht] at h; cases h
        | some q =>
          obtain ⟨t, R⟩ := q
          have hl := tok_len ht
          rw [segs_some ht, Option.map_eq_some_iff] at h
          obtain ⟨Y, hY, rfl⟩ := h
          obtain ⟨i1, i2⟩ := ih R Y (by omega) hY
          refine ⟨by simp; omega, fun y hy => ?_⟩
          rcases List.mem_cons.1 hy with rfl | hy
          · rw [List.length_take]; omega
          · have := i2 y hy; omega
  exact this _ x Z (Nat.le_refl _) h
theorem segs_len {x : Ln.Bs} {Z : List Ln.Bs} (h : segs x = some Z) (y : Ln.Bs) (hy : y ∈ Z) {k : Nat} (hk : x.length ≤ k) : y.length ≤ k := by have := (segs_count h).2 y hy; omega
theorem r7is_loop (L : List Ln.Bs) (hL : L.length ≤ 1048576) (hb : ∀ l, l ∈ L → l.length ≤ 1048576) (n : Nat) : ∀ (i : Nat) (hn : L.length - i = n) (hi : i ≤ L.length),
    vcL (kn m) [3, 4] [] r7is_l0 (blockK 0 (seqK (kn m) [] [] r7is_k1 (outOk [.tmp 2] (B ((L.drop i).all good))))) (mkS [(3, .sl .own 1 (ss L)), (4, N i)] []) := by
  induction n with
  | zero =>
    intro i hn hi
    apply round
    simp only [r7is_l0_w, r7is_l0', go_sem, reduceCtorEq, Nat.reduceEqDiff, reduceIte, Nat.reduceAdd, Nat.reduceSub, Nat.reduceLeDiff, Int.reduceToNat, Nat.reduceBEq]
    rw [lt_f (by omega), List.drop_of_length_le (by omega)]
    simp only [r7is_k1_w, r7is_k1', go_sem, reduceCtorEq, Nat.reduceEqDiff, reduceIte, Nat.reduceAdd, Nat.reduceSub, Nat.reduceLeDiff, Int.reduceToNat, Nat.reduceBEq]
  | succ n ih =>
    intro i hn hi
    have hil : i < L.length := by omega
    have hlb := hb _ (List.getElem_mem hil)
    have hw : IntKind.i64.wrap ((i : Int) + 1) = ((i + 1 : Nat) : Int) := wrapN (i + 1) (by omega) (by omega)
    rw [List.drop_eq_getElem_cons hil, List.all_cons]
    apply round
    simp only [r7is_l0_w, r7is_l0', go_sem, reduceCtorEq, Nat.reduceEqDiff, reduceIte, Nat.reduceAdd, Nat.reduceSub, Nat.reduceLeDiff, Int.reduceToNat, Nat.reduceBEq]
    rw [lt_t hil]
    simp only [ssE L hil, go_sem, reduceCtorEq, Nat.reduceEqDiff, reduceIte, Nat.reduceAdd, Nat.reduceSub, Nat.reduceLeDiff, Int.reduceToNat, Nat.reduceBEq]
    repeat (refine ⟨by (try simp only [List.length_append, List.length_cons, List.length_nil, List.length_drop, List.length_take]); omega, ?_⟩)
    refine of_call (signs_snd L[i] (by omega)) ?_
    rw [segs_good]
    cases hd : segs L[i] with
    | none => simp only [sres, unVal, Bool.false_and, go_sem, reduceCtorEq, Nat.reduceEqDiff, reduceIte, Nat.reduceAdd, Nat.reduceSub, Nat.reduceLeDiff, Int.reduceToNat, Nat.reduceBEq]
    | some Z =>
      simp only [sres, unVal, go_sem, reduceCtorEq, Nat.reduceEqDiff, reduceIte, Nat.reduceAdd, Nat.reduceSub, Nat.reduceLeDiff, Int.reduceToNat, Nat.reduceBEq]
      cases hz : decide (0 < Z.length) with
      | false => simp only [Bool.false_and, go_sem, reduceCtorEq, Nat.reduceEqDiff, reduceIte, Nat.reduceAdd, Nat.reduceSub, Nat.reduceLeDiff, Int.reduceToNat, Nat.reduceBEq]
      | true =>
        simp only [Bool.true_and, hw, go_sem, reduceCtorEq, Nat.reduceEqDiff, reduceIte, Nat.reduceAdd, Nat.reduceSub, Nat.reduceLeDiff, Int.reduceToNat, Nat.reduceBEq]
        exact ih (i + 1) (by omega) (by omega)
theorem r7is_snd (p : Ln.Bs) (hp : p.length ≤ 1048575) : Snd Tryd.prog (gl m) 100 [S p] (B (isPat p)) := by
  refine snd_of (fn := Tryd.f100) (af := r7is) Tryd.func100 (r7is_comp m) mixed (kn_ok m) (Nat.le_of_ble_eq_true rfl) ?_
  simp only [r7is, go_sem, reduceCtorEq, Nat.reduceEqDiff, reduceIte, Nat.reduceAdd, Nat.reduceSub, Nat.reduceLeDiff, Int.reduceToNat, Nat.reduceBEq]
  have hpl := parts_len p
  by_cases h1 : 1 ≤ p.length
  · rw [ilt_f (by omega)]
    simp only [go_sem, reduceCtorEq, Nat.reduceEqDiff, reduceIte, Nat.reduceAdd, Nat.reduceSub, Nat.reduceLeDiff, Int.reduceToNat, Nat.reduceBEq]
    by_cases h2 : p.length ≤ 255
    · rw [igt_f (by omega)]
      simp only [go_sem, reduceCtorEq, Nat.reduceEqDiff, reduceIte, Nat.reduceAdd, Nat.reduceSub, Nat.reduceLeDiff, Int.reduceToNat, Nat.reduceBEq]
      refine of_call (rparts_snd p (by omega)) ?_
      have hp0 : p ≠ [] := by rintro rfl; simp at h1
      simp only [go_sem, reduceCtorEq, Nat.reduceEqDiff, reduceIte, Nat.reduceAdd, Nat.reduceSub, Nat.reduceLeDiff, Int.reduceToNat, Nat.reduceBEq]
      have e : isPat p = ((parts p).drop 0).all good := by rw [isPat, decide_eq_true h1, decide_eq_true h2, parts, if_neg hp0]; rfl
      rw [e]
      exact r7is_loop (parts p) (by omega) (fun l hl => by have := part_len hl; omega) _ 0 rfl (by omega)
    · rw [igt_t (by omega), show isPat p = false by simp [isPat, h2]]
      simp only [go_sem, reduceCtorEq, Nat.reduceEqDiff, reduceIte, Nat.reduceAdd, Nat.reduceSub, Nat.reduceLeDiff, Int.reduceToNat, Nat.reduceBEq]
  · rw [ilt_t (by omega), show isPat p = false by simp [isPat, h1]]
    simp only [go_sem, reduceCtorEq, Nat.reduceEqDiff, reduceIte, Nat.reduceAdd, Nat.reduceSub, Nat.reduceLeDiff, Int.reduceToNat, Nat.reduceBEq]
theorem pieces_lone {p : Ln.Bs} : (pieces p).length = 1 ↔ p.contains 47 = false := by
  constructor
  · intro h
    have hn : Ln.idx p 47 = none := by
      cases hi : Ln.idx p 47 with
      | none => rfl
      | some k =>
        rw [pieces_some hi, List.length_cons] at h
        have := pieces_ne (p.drop (k + 1))
        cases hq : pieces (p.drop (k + 1)) with
        | nil => exact absurd hq this
        | cons _ _ => rw [hq] at h; simp at h
    exact piece_free (by rw [pieces_none hn]; exact List.mem_singleton_self _)
  · intro h; rw [pieces_free h]; rfl
theorem r7part_loop (Z : List Ln.Bs) (hZ : Z.length ≤ 1048576) (hz : ∀ x, x ∈ Z → x.length ≤ 1048576 ∧ ∃ t, tok x = some (t, [])) (s : Ln.Bs) (hs : s.length ≤ 1048576) (n : Nat) : ∀ (i : Nat) (hn : s.length - i = n) (hi : i ≤ s.length) (hno : ∀ j, j < i → s[j]? ≠ some 47),
    vcL (kn m) [1, 5, 7] [] r7part_l0 (blockK 0 (seqK (kn m) [1, 5] [] r7part_k1 (outOk [.tmp 4] (B (!s.contains 47 && whole (Z.map tokOf) s))))) (mkS [(1, S s), (5, .sl .ro 1 (ss Z)), (7, N i)] []) := by
  induction n with
  | zero =>
    intro i hn hi hno
    have hc : s.contains 47 = false := by
      cases h : s.contains 47 with
      | false => rfl
      | true =>
        obtain ⟨j, hj, e⟩ := List.getElem_of_mem (List.contains_iff_mem.1 h)
        exact absurd (by rw [getE hj, e]) (hno j (by omega))
    apply round
    simp only [r7part_l0_w, r7part_l0', go_sem, reduceCtorEq, Nat.reduceEqDiff, reduceIte, Nat.reduceAdd, Nat.reduceSub, Nat.reduceLeDiff, Int.reduceToNat, Nat.reduceBEq]
    rw [lt_f (by omega)]
    simp only [r7part_k1_w, r7part_k1', go_sem, reduceCtorEq, Nat.reduceEqDiff, reduceIte, Nat.reduceAdd, Nat.reduceSub, Nat.reduceLeDiff, Int.reduceToNat, Nat.reduceBEq]
    refine of_call (rwhole_snd _ Z s (Nat.le_refl _) hZ hs hz) ?_
    rw [hc, Bool.not_false, Bool.true_and]
    simp only [go_sem, reduceCtorEq, Nat.reduceEqDiff, reduceIte, Nat.reduceAdd, Nat.reduceSub, Nat.reduceLeDiff, Int.reduceToNat, Nat.reduceBEq]
  | succ n ih =>
    intro i hn hi hno
    have hil : i < s.length := by omega
    have hw : IntKind.i64.wrap ((i : Int) + 1) = ((i + 1 : Nat) : Int) := wrapN (i + 1) (by omega) (by omega)
    apply round
    simp only [r7part_l0_w, r7part_l0', go_sem, reduceCtorEq, Nat.reduceEqDiff, reduceIte, Nat.reduceAdd, Nat.reduceSub, Nat.reduceLeDiff, Int.reduceToNat, Nat.reduceBEq]
    rw [lt_t hil]
    simp only [getE hil, go_sem, reduceCtorEq, Nat.reduceEqDiff, reduceIte, Nat.reduceAdd, Nat.reduceSub, Nat.reduceLeDiff, Int.reduceToNat, Nat.reduceBEq]
    refine ⟨by omega, ?_⟩
    by_cases h47 : s[i] = 47
    · have hc : s.contains 47 = true := List.contains_iff_mem.2 (by rw [← h47]; exact List.getElem_mem hil)
      rw [u8b_t (n := 47) h47 rfl, hc]
      simp only [Bool.not_true, Bool.false_and, go_sem, reduceCtorEq, Nat.reduceEqDiff, reduceIte, Nat.reduceAdd, Nat.reduceSub, Nat.reduceLeDiff, Int.reduceToNat, Nat.reduceBEq]
    · rw [u8b_f (n := 47) h47 rfl]
      simp only [hw, go_sem, reduceCtorEq, Nat.reduceEqDiff, reduceIte, Nat.reduceAdd, Nat.reduceSub, Nat.reduceLeDiff, Int.reduceToNat, Nat.reduceBEq]
      exact ih (i + 1) (by omega) (by omega) (fun j h1 => by
        by_cases e : j = i
        · subst e; rw [getE hil]; simpa using h47
        · exact hno j (by omega))
theorem r7part_snd (p s : Ln.Bs) (hp : p.length ≤ 1048575) (hs : s.length ≤ 1048575) : Snd Tryd.prog (gl m) 74 [S p, S s] (B (partP p s)) := by
  refine snd_of (fn := Tryd.f74) (af := r7part) Tryd.func74 (r7part_comp m) mixed (kn_ok m) (Nat.le_of_ble_eq_true rfl) ?_
  simp only [r7part, go_sem, reduceCtorEq, Nat.reduceEqDiff, reduceIte, Nat.reduceAdd, Nat.reduceSub, Nat.reduceLeDiff, Int.reduceToNat, Nat.reduceBEq]
  refine of_call (signs_snd p (by omega)) ?_
  have hg := segs_good (x := p)
  have ht := segs_toks _ p (Nat.le_refl _)
  have hpl := parts_len p
  cases hd : segs p with
  | none =>
    rw [hd] at hg
    have hr : partP p s = false := by
      rw [partP]
      cases hc : p.contains 47 with
      | true => simp
      | false => rw [isPat, pieces_free hc, List.all_cons, hg]; simp
    rw [hr]
    simp only [sres, unVal, go_sem, reduceCtorEq, Nat.reduceEqDiff, reduceIte, Nat.reduceAdd, Nat.reduceSub, Nat.reduceLeDiff, Int.reduceToNat, Nat.reduceBEq]
  | some Z =>
    rw [hd] at hg ht
    have hg : good p = decide (0 < Z.length) := hg
    simp only [sres, unVal, go_sem, reduceCtorEq, Nat.reduceEqDiff, reduceIte, Nat.reduceAdd, Nat.reduceSub, Nat.reduceLeDiff, Int.reduceToNat, Nat.reduceBEq]
    cases hz : decide (0 < Z.length) with
    | false =>
      rw [hz] at hg
      have hr : partP p s = false := by
        rw [partP]
        cases hc : p.contains 47 with
        | true => simp
        | false => rw [isPat, pieces_free hc, List.all_cons, hg]; simp
      rw [hr]
      simp only [go_sem, reduceCtorEq, Nat.reduceEqDiff, reduceIte, Nat.reduceAdd, Nat.reduceSub, Nat.reduceLeDiff, Int.reduceToNat, Nat.reduceBEq]
    | true =>
      simp only [go_sem, reduceCtorEq, Nat.reduceEqDiff, reduceIte, Nat.reduceAdd, Nat.reduceSub, Nat.reduceLeDiff, Int.reduceToNat, Nat.reduceBEq]
      refine of_call (r7is_snd p (by omega)) ?_
      cases hi : isPat p with
      | false =>
        rw [show partP p s = false by rw [partP, hi]; rfl]
        simp only [unVal, go_sem, reduceCtorEq, Nat.reduceEqDiff, reduceIte, Nat.reduceAdd, Nat.reduceSub, Nat.reduceLeDiff, Int.reduceToNat, Nat.reduceBEq]
      | true =>
        simp only [unVal, go_sem, reduceCtorEq, Nat.reduceEqDiff, reduceIte, Nat.reduceAdd, Nat.reduceSub, Nat.reduceLeDiff, Int.reduceToNat, Nat.reduceBEq]
        refine of_call (rparts_snd p (by omega)) ?_
        have hp0 : p ≠ [] := by rintro rfl; simp [isPat] at hi
        have hpe : parts p = pieces p := if_neg hp0
        simp only [go_sem, reduceCtorEq, Nat.reduceEqDiff, reduceIte, Nat.reduceAdd, Nat.reduceSub, Nat.reduceLeDiff, Int.reduceToNat, Nat.reduceBEq]
        rw [hpe]
        by_cases h1 : (pieces p).length = 1
        · rw [ne_f (by omega)]
          have hc := pieces_lone.1 h1
          have e : partP p s = (!s.contains 47 && whole (Z.map tokOf) s) := by
            rw [partP, hi, hc, partF, ht.1]; simp
          rw [e]
          simp only [go_sem, reduceCtorEq, Nat.reduceEqDiff, reduceIte, Nat.reduceAdd, Nat.reduceSub, Nat.reduceLeDiff, Int.reduceToNat, Nat.reduceBEq]
          have hzl : ∀ x, x ∈ Z → x.length ≤ 1048576 ∧ ∃ t, tok x = some (t, []) := fun x hx => ⟨segs_len hd x hx (by omega), ht.2 Z rfl x hx⟩
          exact r7part_loop Z (by have := (segs_count hd).1; omega) hzl s (by omega) _ 0 rfl (by omega) (fun j h => by omega)
        · rw [ne_t (by omega)]
          have hc : p.contains 47 = true := by
            cases hc : p.contains 47 with
            | true => rfl
            | false => exact absurd (pieces_lone.2 hc) h1
          rw [show partP p s = false by rw [partP, hc]; simp]
          simp only [go_sem, reduceCtorEq, Nat.reduceEqDiff, reduceIte, Nat.reduceAdd, Nat.reduceSub, Nat.reduceLeDiff, Int.reduceToNat, Nat.reduceBEq]
theorem partP_of {x y : Ln.Bs} (hx : isPat x = true) (h1 : x.contains 47 = false) (h2 : y.contains 47 = false) : partP x y = partF x y := by rw [partP, hx, h1, h2]; rfl
theorem r7parts_snd (n : Nat) : ∀ (L Y : List Ln.Bs) (hn : L.length + Y.length ≤ n) (hL : L.length ≤ 1048576) (hY : Y.length ≤ 1048576) (hl : ∀ x, x ∈ L → x.length ≤ 1048575 ∧ isPat x = true ∧ x.contains 47 = false) (hy : ∀ y, y ∈ Y → y.length ≤ 1048575 ∧ y.contains 47 = false),
    Snd Tryd.prog (gl m) 109 [.sl .frn 1 (ss L), .sl .frn 1 (ss Y)] (B (M L Y)) := by
  induction n with
  | zero =>
    intro L Y hn hL hY hl hy
    obtain rfl : L = [] := len_0 (by omega)
    obtain rfl : Y = [] := len_0 (by omega)
    refine snd_of (fn := Tryd.f109) (af := r7parts) Tryd.func109 (r7parts_comp m) mixed (kn_ok m) (Nat.le_of_ble_eq_true rfl) ?_
    simp only [r7parts, go_sem, reduceCtorEq, Nat.reduceEqDiff, reduceIte, Nat.reduceAdd, Nat.reduceSub, Nat.reduceLeDiff, Int.reduceToNat, Nat.reduceBEq]
    rw [eq_t (by rfl)]
    simp only [go_sem, reduceCtorEq, Nat.reduceEqDiff, reduceIte, Nat.reduceAdd, Nat.reduceSub, Nat.reduceLeDiff, Int.reduceToNat, Nat.reduceBEq]
    rw [M_nil]; rfl
  | succ n ih =>
    intro L Y hn hL hY hl hy
    refine snd_of (fn := Tryd.f109) (af := r7parts) Tryd.func109 (r7parts_comp m) mixed (kn_ok m) (Nat.le_of_ble_eq_true rfl) ?_
    cases L with
    | nil =>
      simp only [r7parts, go_sem, reduceCtorEq, Nat.reduceEqDiff, reduceIte, Nat.reduceAdd, Nat.reduceSub, Nat.reduceLeDiff, Int.reduceToNat, Nat.reduceBEq]
      rw [eq_t (by rfl)]
      simp only [go_sem, reduceCtorEq, Nat.reduceEqDiff, reduceIte, Nat.reduceAdd, Nat.reduceSub, Nat.reduceLeDiff, Int.reduceToNat, Nat.reduceBEq]
      rw [M_nil]
      cases Y with
      | nil => rfl
      | cons y Y => rw [eq_f (by simp; omega)]; rfl
    | cons x L =>
      obtain ⟨hxl, hxp, hxc⟩ := hl x (List.mem_cons_self ..)
      have hl' := fun z hz => hl z (List.mem_cons_of_mem x hz)
      have hpos : 0 < (x :: L).length := by simp
      simp only [List.length_cons] at hn hL
      simp only [r7parts, go_sem, reduceCtorEq, Nat.reduceEqDiff, reduceIte, Nat.reduceAdd, Nat.reduceSub, Nat.reduceLeDiff, Int.reduceToNat, Nat.reduceBEq]
      rw [eq_f (by simp; omega)]
      simp only [ssE (x :: L) hpos, List.getElem_cons_zero, go_sem, reduceCtorEq, Nat.reduceEqDiff, reduceIte, Nat.reduceAdd, Nat.reduceSub, Nat.reduceLeDiff, Int.reduceToNat, Nat.reduceBEq]
      refine ⟨by omega, by omega, ?_⟩
      by_cases hd : x = deep
      · rw [se_t (show x = [42, 42] from hd)]
        simp only [go_sem, reduceCtorEq, Nat.reduceEqDiff, reduceIte, Nat.reduceAdd, Nat.reduceSub, Nat.reduceLeDiff, Int.reduceToNat, Nat.reduceBEq]
        repeat (refine ⟨by (try simp only [List.length_append, List.length_cons, List.length_nil, List.length_drop, List.length_take]); omega, ?_⟩)
        refine of_call (ih L Y (by omega) (by omega) hY hl' hy) ?_
        cases hA : M L Y with
        | true =>
          have hr : M (x :: L) Y = true := by
            rw [hd]; cases Y with
            | nil => rw [M_deep_nil, hA]
            | cons y Y => rw [M_deep_cons, hA, Bool.true_or]
          rw [hr]
          simp only [go_sem, reduceCtorEq, Nat.reduceEqDiff, reduceIte, Nat.reduceAdd, Nat.reduceSub, Nat.reduceLeDiff, Int.reduceToNat, Nat.reduceBEq]
        | false =>
          cases Y with
          | nil =>
            have hr : M (x :: L) [] = false := by rw [hd, M_deep_nil, hA]
            rw [hr]
            simp only [go_sem, reduceCtorEq, Nat.reduceEqDiff, reduceIte, Nat.reduceAdd, Nat.reduceSub, Nat.reduceLeDiff, Int.reduceToNat, Nat.reduceBEq]
            rw [igt_f (by simp)]
            simp only [go_sem, reduceCtorEq, Nat.reduceEqDiff, reduceIte, Nat.reduceAdd, Nat.reduceSub, Nat.reduceLeDiff, Int.reduceToNat, Nat.reduceBEq]
          | cons y Y =>
            have hr : M (x :: L) (y :: Y) = M (x :: L) Y := by rw [hd, M_deep_cons, hA, Bool.false_or]
            simp only [List.length_cons] at hn hY
            rw [hr]
            simp only [go_sem, reduceCtorEq, Nat.reduceEqDiff, reduceIte, Nat.reduceAdd, Nat.reduceSub, Nat.reduceLeDiff, Int.reduceToNat, Nat.reduceBEq]
            rw [igt_t (by (try simp only [List.length_cons]); omega)]
            simp only [go_sem, reduceCtorEq, Nat.reduceEqDiff, reduceIte, Nat.reduceAdd, Nat.reduceSub, Nat.reduceLeDiff, Int.reduceToNat, Nat.reduceBEq]
            repeat (refine ⟨by (try simp only [List.length_append, List.length_cons, List.length_nil, List.length_drop, List.length_take]); omega, ?_⟩)
            refine of_call (ih (x :: L) Y (by simp; omega) (by simp; omega) (by omega) hl (fun z hz => hy z (List.mem_cons_of_mem y hz))) ?_
            simp only [go_sem, reduceCtorEq, Nat.reduceEqDiff, reduceIte, Nat.reduceAdd, Nat.reduceSub, Nat.reduceLeDiff, Int.reduceToNat, Nat.reduceBEq]
      · rw [se_f (show x ≠ [42, 42] from hd)]
        simp only [go_sem, reduceCtorEq, Nat.reduceEqDiff, reduceIte, Nat.reduceAdd, Nat.reduceSub, Nat.reduceLeDiff, Int.reduceToNat, Nat.reduceBEq]
        cases Y with
        | nil =>
          rw [M_lit_nil hd]
          rw [igt_f (by simp)]
          simp only [go_sem, reduceCtorEq, Nat.reduceEqDiff, reduceIte, Nat.reduceAdd, Nat.reduceSub, Nat.reduceLeDiff, Int.reduceToNat, Nat.reduceBEq]
        | cons y Y =>
          have hpy : 0 < (y :: Y).length := by simp
          obtain ⟨hyl, hyc⟩ := hy y (List.mem_cons_self ..)
          rw [M_lit_cons hd]
          rw [igt_t (by (try simp only [List.length_cons]); omega)]
          simp only [ssE (x :: L) hpos, ssE (y :: Y) hpy, List.getElem_cons_zero, go_sem, reduceCtorEq, Nat.reduceEqDiff, reduceIte, Nat.reduceAdd, Nat.reduceSub, Nat.reduceLeDiff, Int.reduceToNat, Nat.reduceBEq]
          repeat (refine ⟨by (try simp only [List.length_append, List.length_cons, List.length_nil, List.length_drop, List.length_take]); omega, ?_⟩)
          refine of_call (r7part_snd x y (by omega) (by omega)) ?_
          rw [partP_of hxp hxc hyc]
          cases hA : partF x y with
          | false => simp only [Bool.false_and, go_sem, reduceCtorEq, Nat.reduceEqDiff, reduceIte, Nat.reduceAdd, Nat.reduceSub, Nat.reduceLeDiff, Int.reduceToNat, Nat.reduceBEq]
          | true =>
            simp only [List.length_cons] at hn hY
            simp only [Bool.true_and, go_sem, reduceCtorEq, Nat.reduceEqDiff, reduceIte, Nat.reduceAdd, Nat.reduceSub, Nat.reduceLeDiff, Int.reduceToNat, Nat.reduceBEq]
            repeat (refine ⟨by (try simp only [List.length_append, List.length_cons, List.length_nil, List.length_drop, List.length_take]); omega, ?_⟩)
            refine of_call (ih L Y (by omega) (by omega) (by omega) hl' (fun z hz => hy z (List.mem_cons_of_mem y hz))) ?_
            simp only [go_sem, reduceCtorEq, Nat.reduceEqDiff, reduceIte, Nat.reduceAdd, Nat.reduceSub, Nat.reduceLeDiff, Int.reduceToNat, Nat.reduceBEq]
theorem r7match_snd (p s : Ln.Bs) (hp : p.length ≤ 1048575) (hs : s.length ≤ 1048575) : Snd Tryd.prog (gl m) 76 [S p, S s] (B (matchF p s)) := by
  refine snd_of (fn := Tryd.f76) (af := r7match) Tryd.func76 (r7match_comp m) mixed (kn_ok m) (Nat.le_of_ble_eq_true rfl) ?_
  simp only [r7match, go_sem, reduceCtorEq, Nat.reduceEqDiff, reduceIte, Nat.reduceAdd, Nat.reduceSub, Nat.reduceLeDiff, Int.reduceToNat, Nat.reduceBEq]
  refine of_call (r7is_snd p (by omega)) ?_
  unfold matchF
  cases h1 : isPat p with
  | false => simp only [Bool.false_and, go_sem, reduceCtorEq, Nat.reduceEqDiff, reduceIte, Nat.reduceAdd, Nat.reduceSub, Nat.reduceLeDiff, Int.reduceToNat, Nat.reduceBEq]
  | true =>
    simp only [go_sem, reduceCtorEq, Nat.reduceEqDiff, reduceIte, Nat.reduceAdd, Nat.reduceSub, Nat.reduceLeDiff, Int.reduceToNat, Nat.reduceBEq]
    refine of_call (ris_snd s (by omega)) ?_
    cases h2 : isPath s with
    | false => simp only [Bool.and_false, Bool.false_and, go_sem, reduceCtorEq, Nat.reduceEqDiff, reduceIte, Nat.reduceAdd, Nat.reduceSub, Nat.reduceLeDiff, Int.reduceToNat, Nat.reduceBEq]
    | true =>
      simp only [go_sem, reduceCtorEq, Nat.reduceEqDiff, reduceIte, Nat.reduceAdd, Nat.reduceSub, Nat.reduceLeDiff, Int.reduceToNat, Nat.reduceBEq]
      refine of_call (rparts_snd p (by omega)) ?_
      simp only [go_sem, reduceCtorEq, Nat.reduceEqDiff, reduceIte, Nat.reduceAdd, Nat.reduceSub, Nat.reduceLeDiff, Int.reduceToNat, Nat.reduceBEq]
      refine of_call (rparts_snd s (by omega)) ?_
      simp only [go_sem, reduceCtorEq, Nat.reduceEqDiff, reduceIte, Nat.reduceAdd, Nat.reduceSub, Nat.reduceLeDiff, Int.reduceToNat, Nat.reduceBEq]
      have hp0 : p ≠ [] := by rintro rfl; simp [isPat] at h1
      have hpe : parts p = pieces p := if_neg hp0
      have hq : ∀ x, x ∈ parts p → x.length ≤ 1048575 ∧ isPat x = true ∧ x.contains 47 = false := by
        intro x hx
        have hxl := part_len hx
        rw [hpe] at hx
        have hc := piece_free hx
        simp only [isPat, Bool.and_eq_true, decide_eq_true_eq] at h1
        have hg := List.all_eq_true.1 h1.2 x hx
        have hx0 : x ≠ [] := by rintro rfl; simp [good] at hg
        refine ⟨by omega, ?_, hc⟩
        have h5 := str0 hx0
        rw [isPat, pieces_free hc, List.all_cons, hg, decide_eq_true (by omega : 1 ≤ x.length), decide_eq_true (by omega : x.length ≤ 255)]; rfl
      have hz : ∀ x, x ∈ parts s → x.length ≤ 1048575 ∧ x.contains 47 = false := by
        intro x hx
        have hxl := part_len hx
        refine ⟨by omega, ?_⟩
        unfold parts at hx
        split at hx
        · cases hx
        · exact piece_free hx
      have l1 := parts_len p
      have l2 := parts_len s
      refine of_call (r7parts_snd _ (parts p) (parts s) (Nat.le_refl _) (by omega) (by omega) hq hz) ?_
      rw [hpe]
      simp only [Bool.true_and, go_sem, reduceCtorEq, Nat.reduceEqDiff, reduceIte, Nat.reduceAdd, Nat.reduceSub, Nat.reduceLeDiff, Int.reduceToNat, Nat.reduceBEq]
end Go.Gb

