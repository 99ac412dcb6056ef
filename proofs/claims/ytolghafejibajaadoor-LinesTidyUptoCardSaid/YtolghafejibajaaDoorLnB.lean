import Derived.Test.YtolghafejibajaaDoorLnA
/- Lines: the ends of lines. -/
namespace Go.Ln
open Go Go.Ev Go.Proofs
set_option linter.unusedVariables false
set_option linter.unusedSimpArgs false
variable {m : Int}
theorem bs_13 (l : Bs) : bs l ++ [.lit (.int .u8 13)] = bs (l ++ [13]) := bs_lit l rfl

def tocrlf_l0' : AC := .seq (.reg (.seq [⟨(some (11, false)), none, .bin .lss (.tmp 10 true) (.tmp 9 true)⟩])) [0, 3, 9, 10, 11] []
  (.seq (.cond (.tmp 11 false)
    (.skip)
    (.exit 0)) [0, 3, 9, 10] []
  (.seq (.block 1 (.seq (.reg (.seq [⟨(some (12, false)), none, .mov (.tmp 10 true) .take⟩,
      ⟨(some (4, true)), none, .mov (.tmp 12 false) .asg⟩])) [0, 3, 4, 9, 10] []
    (.seq (.seq (.reg (.seq [⟨(some (13, false)), none, .mov (.tmp 0 true) .peek⟩,
      ⟨(some (14, false)), none, .mov (.tmp 4 true) .peek⟩,
      ⟨(some (15, false)), none, .idx (.tmp 13 false) (.tmp 14 false)⟩,
      ⟨(some (16, false)), none, .bin .eql (.tmp 15 false) (.cst (.int .u8 10) (.lit (.int .u8 10)))⟩,
      ⟨(some (17, false)), none, .mov (.tmp 16 false) .peek⟩,
      ⟨(some (18, false)), (some (17, true)), .mov (.tmp 4 true) .peek⟩,
      ⟨(some (19, false)), (some (17, true)), .bin .eql (.tmp 18 false) (.cst (.int .i64 0) (.lit (.int .i64 0)))⟩,
      ⟨(some (20, false)), (some (17, true)), .mov (.tmp 19 false) .peek⟩,
      ⟨(some (21, false)), (some (20, false)), .mov (.tmp 0 true) .peek⟩,
      ⟨(some (22, false)), (some (20, false)), .mov (.tmp 4 true) .peek⟩,
      ⟨(some (23, false)), (some (20, false)), .bin .sub (.tmp 22 false) (.cst (.int .i64 1) (.lit (.int .i64 1)))⟩,
      ⟨(some (24, false)), (some (20, false)), .idx (.tmp 21 false) (.tmp 23 false)⟩,
      ⟨(some (25, false)), (some (20, false)), .bin .neq (.tmp 24 false) (.cst (.int .u8 13) (.lit (.int .u8 13)))⟩,
      ⟨(some (26, false)), (some (17, true)), .pick (.tmp 20 false) (.cst (.bool true) (.lit (.bool true))) (.tmp 25 false)⟩,
      ⟨(some (27, false)), none, .pick (.tmp 17 false) (.tmp 26 false) (.cst (.bool false) (.lit (.bool false)))⟩])) [0, 3, 4, 9, 10, 27] []
    (.cond (.tmp 27 false)
      (.reg (.seq [⟨(some (28, false)), none, .mov (.tmp 3 true) .take⟩,
      ⟨(some (29, false)), none, .buildS 1 1 [(.lit (.int .u8 0))] [(0, 1, (.cst (.int .u8 13) (.lit (.int .u8 13))))]⟩,
      ⟨(some (30, false)), none, .app 1 1 (.tmp 28 false) (.tmp 29 false)⟩,
      ⟨(some (3, true)), none, .mov (.tmp 30 false) .asg⟩]))
      (.skip))) [0, 3, 4, 9, 10] []
    (.reg (.seq [⟨(some (31, false)), none, .mov (.tmp 3 true) .take⟩,
      ⟨(some (32, false)), none, .mov (.tmp 0 true) .peek⟩,
      ⟨(some (33, false)), none, .mov (.tmp 4 true) .peek⟩,
      ⟨(some (34, false)), none, .idx (.tmp 32 false) (.tmp 33 false)⟩,
      ⟨(some (35, false)), none, .buildS 1 1 [(.lit (.int .u8 0))] [(0, 1, (.tmp 34 false))]⟩,
      ⟨(some (36, false)), none, .app 1 1 (.tmp 31 false) (.tmp 35 false)⟩,
      ⟨(some (3, true)), none, .mov (.tmp 36 false) .asg⟩]))))) [0, 3, 9, 10] []
  (.reg (.seq [⟨(some (37, false)), none, .bin .add (.tmp 10 true) (.cst (.int .i64 1) (.lit (.int .i64 1)))⟩,
      ⟨(some (10, true)), none, .mov (.tmp 37 false) .peek⟩]))))
def tocrlf_l0 : AC := tocrlf_l0'
theorem tocrlf_l0_w (C : Kn) (K : Ex → St → Prop) (s : St) : vcC C tocrlf_l0 K s = vcC C tocrlf_l0' K s := nr rfl
def tocrlf_k1' : AC := .seq (.reg (.seq [⟨(some (38, false)), none, .mov (.tmp 3 true) .peek⟩,
      ⟨(some (39, false)), none, .b2s (.tmp 38 false)⟩,
      ⟨(some (2, true)), none, .mov (.tmp 39 false) .asg⟩])) [2] []
  (.ret)
def tocrlf_k1 : AC := tocrlf_k1'
theorem tocrlf_k1_w (C : Kn) (K : Ex → St → Prop) (s : St) : vcC C tocrlf_k1 K s = vcC C tocrlf_k1' K s := nr rfl
def tocrlf : AF := ⟨.seq (.reg (.seq [⟨(some (2, true)), none, .mov (.cst (.string (str [])) (.lit (.string (str [])))) .asg⟩])) [0] []
  (.seq (.reg (.seq [⟨(some (5, false)), none, .mov (.tmp 0 true) .peek⟩,
      ⟨(some (6, false)), none, .len (.tmp 5 false)⟩,
      ⟨(some (7, false)), none, .mkS 1 1 [(.lit (.int .u8 0))] (.cst (.int .i64 0) (.lit (.int .i64 0))) (.tmp 6 false)⟩,
      ⟨(some (3, true)), none, .mov (.tmp 7 false) .asg⟩])) [0, 3] []
  (.seq (.seq (.reg (.seq [⟨(some (8, false)), none, .mov (.tmp 0 true) .peek⟩,
      ⟨(some (9, true)), none, .len (.tmp 8 false)⟩,
      ⟨(some (10, true)), none, .mov (.cst (.int .i64 0) (.lit (.int .i64 0))) .peek⟩])) [0, 3, 9, 10] []
  (.block 0 (.loop [0, 3, 9, 10] [] tocrlf_l0))) [3] [] tocrlf_k1)),
  [.tmp 2]⟩
theorem tocrlf_comp (m : Int) : compF Tryd.prog (gl m) [] Tryd.f19 = some tocrlf := by kernel_rfl
def rcrlf_l0' : AC := .seq (.reg (.seq [⟨(some (8, false)), none, .bin .lss (.tmp 7 true) (.tmp 6 true)⟩])) [0, 3, 6, 7, 8] []
  (.seq (.cond (.tmp 8 false)
    (.skip)
    (.exit 0)) [0, 3, 6, 7] []
  (.seq (.block 1 (.seq (.reg (.seq [⟨(some (9, false)), none, .mov (.tmp 7 true) .take⟩,
      ⟨(some (4, true)), none, .mov (.tmp 9 false) .asg⟩])) [0, 3, 4, 6, 7] []
    (.seq (.seq (.reg (.seq [⟨(some (10, false)), none, .mov (.tmp 0 true) .peek⟩,
      ⟨(some (11, false)), none, .mov (.tmp 4 true) .peek⟩,
      ⟨(some (12, false)), none, .idx (.tmp 10 false) (.tmp 11 false)⟩,
      ⟨(some (13, false)), none, .bin .eql (.tmp 12 false) (.cst (.int .u8 10) (.lit (.int .u8 10)))⟩,
      ⟨(some (14, false)), none, .mov (.tmp 13 false) .peek⟩,
      ⟨(some (15, false)), (some (14, true)), .mov (.tmp 4 true) .peek⟩,
      ⟨(some (16, false)), (some (14, true)), .bin .eql (.tmp 15 false) (.cst (.int .i64 0) (.lit (.int .i64 0)))⟩,
      ⟨(some (17, false)), (some (14, true)), .mov (.tmp 16 false) .peek⟩,
      ⟨(some (18, false)), (some (17, false)), .mov (.tmp 0 true) .peek⟩,
      ⟨(some (19, false)), (some (17, false)), .mov (.tmp 4 true) .peek⟩,
      ⟨(some (20, false)), (some (17, false)), .bin .sub (.tmp 19 false) (.cst (.int .i64 1) (.lit (.int .i64 1)))⟩,
      ⟨(some (21, false)), (some (17, false)), .idx (.tmp 18 false) (.tmp 20 false)⟩,
      ⟨(some (22, false)), (some (17, false)), .bin .neq (.tmp 21 false) (.cst (.int .u8 13) (.lit (.int .u8 13)))⟩,
      ⟨(some (23, false)), (some (14, true)), .pick (.tmp 17 false) (.cst (.bool true) (.lit (.bool true))) (.tmp 22 false)⟩,
      ⟨(some (24, false)), none, .pick (.tmp 14 false) (.tmp 23 false) (.cst (.bool false) (.lit (.bool false)))⟩])) [0, 3, 4, 6, 7, 24] []
    (.cond (.tmp 24 false)
      (.reg (.seq [⟨(some (25, false)), none, .mov (.tmp 3 true) .take⟩,
      ⟨(some (26, false)), none, .buildS 1 1 [(.lit (.int .u8 0))] [(0, 1, (.cst (.int .u8 13) (.lit (.int .u8 13))))]⟩,
      ⟨(some (27, false)), none, .app 1 1 (.tmp 25 false) (.tmp 26 false)⟩,
      ⟨(some (3, true)), none, .mov (.tmp 27 false) .asg⟩]))
      (.skip))) [0, 3, 4, 6, 7] []
    (.reg (.seq [⟨(some (28, false)), none, .mov (.tmp 3 true) .take⟩,
      ⟨(some (29, false)), none, .mov (.tmp 0 true) .peek⟩,
      ⟨(some (30, false)), none, .mov (.tmp 4 true) .peek⟩,
      ⟨(some (31, false)), none, .idx (.tmp 29 false) (.tmp 30 false)⟩,
      ⟨(some (32, false)), none, .buildS 1 1 [(.lit (.int .u8 0))] [(0, 1, (.tmp 31 false))]⟩,
      ⟨(some (33, false)), none, .app 1 1 (.tmp 28 false) (.tmp 32 false)⟩,
      ⟨(some (3, true)), none, .mov (.tmp 33 false) .asg⟩]))))) [0, 3, 6, 7] []
  (.reg (.seq [⟨(some (34, false)), none, .bin .add (.tmp 7 true) (.cst (.int .i64 1) (.lit (.int .i64 1)))⟩,
      ⟨(some (7, true)), none, .mov (.tmp 34 false) .peek⟩]))))
def rcrlf_l0 : AC := rcrlf_l0'
theorem rcrlf_l0_w (C : Kn) (K : Ex → St → Prop) (s : St) : vcC C rcrlf_l0 K s = vcC C rcrlf_l0' K s := nr rfl
def rcrlf_k1' : AC := .seq (.reg (.seq [⟨(some (35, false)), none, .mov (.tmp 3 true) .peek⟩,
      ⟨(some (36, false)), none, .b2s (.tmp 35 false)⟩,
      ⟨(some (2, true)), none, .mov (.tmp 36 false) .asg⟩])) [2] []
  (.ret)
def rcrlf_k1 : AC := rcrlf_k1'
theorem rcrlf_k1_w (C : Kn) (K : Ex → St → Prop) (s : St) : vcC C rcrlf_k1 K s = vcC C rcrlf_k1' K s := nr rfl
def rcrlf : AF := ⟨.seq (.reg (.seq [⟨(some (2, true)), none, .mov (.cst (.string (str [])) (.lit (.string (str [])))) .asg⟩])) [0] []
  (.seq (.reg (.seq [⟨(some (3, true)), none, .mov (.cst (.slice none 0 0) (.sl .own 1 [])) .asg⟩])) [0, 3] []
  (.seq (.seq (.reg (.seq [⟨(some (5, false)), none, .mov (.tmp 0 true) .peek⟩,
      ⟨(some (6, true)), none, .len (.tmp 5 false)⟩,
      ⟨(some (7, true)), none, .mov (.cst (.int .i64 0) (.lit (.int .i64 0))) .peek⟩])) [0, 3, 6, 7] []
  (.block 0 (.loop [0, 3, 6, 7] [] rcrlf_l0))) [3] [] rcrlf_k1)),
  [.tmp 2]⟩
theorem rcrlf_comp (m : Int) : compF Tryd.prog (gl m) [] Tryd.f22 = some rcrlf := by kernel_rfl
def rlf_l0' : AC := .seq (.reg (.seq [⟨(some (8, false)), none, .bin .lss (.tmp 7 true) (.tmp 6 true)⟩])) [0, 3, 6, 7, 8] []
  (.seq (.cond (.tmp 8 false)
    (.skip)
    (.exit 0)) [0, 3, 6, 7] []
  (.seq (.block 1 (.seq (.reg (.seq [⟨(some (9, false)), none, .mov (.tmp 7 true) .take⟩,
      ⟨(some (4, true)), none, .mov (.tmp 9 false) .asg⟩])) [0, 3, 4, 6, 7] []
    (.seq (.reg (.seq [⟨(some (10, false)), none, .mov (.tmp 0 true) .peek⟩,
      ⟨(some (11, false)), none, .mov (.tmp 4 true) .peek⟩,
      ⟨(some (12, false)), none, .idx (.tmp 10 false) (.tmp 11 false)⟩,
      ⟨(some (13, false)), none, .bin .neq (.tmp 12 false) (.cst (.int .u8 13) (.lit (.int .u8 13)))⟩,
      ⟨(some (14, false)), none, .mov (.tmp 13 false) .peek⟩,
      ⟨(some (15, false)), (some (14, false)), .mov (.tmp 4 true) .peek⟩,
      ⟨(some (16, false)), (some (14, false)), .bin .add (.tmp 15 false) (.cst (.int .i64 1) (.lit (.int .i64 1)))⟩,
      ⟨(some (17, false)), (some (14, false)), .mov (.tmp 0 true) .peek⟩,
      ⟨(some (18, false)), (some (14, false)), .len (.tmp 17 false)⟩,
      ⟨(some (19, false)), (some (14, false)), .bin .eql (.tmp 16 false) (.tmp 18 false)⟩,
      ⟨(some (20, false)), none, .pick (.tmp 14 false) (.cst (.bool true) (.lit (.bool true))) (.tmp 19 false)⟩,
      ⟨(some (21, false)), none, .mov (.tmp 20 false) .peek⟩,
      ⟨(some (22, false)), (some (21, false)), .mov (.tmp 0 true) .peek⟩,
      ⟨(some (23, false)), (some (21, false)), .mov (.tmp 4 true) .peek⟩,
      ⟨(some (24, false)), (some (21, false)), .bin .add (.tmp 23 false) (.cst (.int .i64 1) (.lit (.int .i64 1)))⟩,
      ⟨(some (25, false)), (some (21, false)), .idx (.tmp 22 false) (.tmp 24 false)⟩,
      ⟨(some (26, false)), (some (21, false)), .bin .neq (.tmp 25 false) (.cst (.int .u8 10) (.lit (.int .u8 10)))⟩,
      ⟨(some (27, false)), none, .pick (.tmp 21 false) (.cst (.bool true) (.lit (.bool true))) (.tmp 26 false)⟩])) [0, 3, 4, 6, 7, 27] []
    (.cond (.tmp 27 false)
      (.reg (.seq [⟨(some (28, false)), none, .mov (.tmp 3 true) .take⟩,
      ⟨(some (29, false)), none, .mov (.tmp 0 true) .peek⟩,
      ⟨(some (30, false)), none, .mov (.tmp 4 true) .peek⟩,
      ⟨(some (31, false)), none, .idx (.tmp 29 false) (.tmp 30 false)⟩,
      ⟨(some (32, false)), none, .buildS 1 1 [(.lit (.int .u8 0))] [(0, 1, (.tmp 31 false))]⟩,
      ⟨(some (33, false)), none, .app 1 1 (.tmp 28 false) (.tmp 32 false)⟩,
      ⟨(some (3, true)), none, .mov (.tmp 33 false) .asg⟩]))
      (.skip))))) [0, 3, 6, 7] []
  (.reg (.seq [⟨(some (34, false)), none, .bin .add (.tmp 7 true) (.cst (.int .i64 1) (.lit (.int .i64 1)))⟩,
      ⟨(some (7, true)), none, .mov (.tmp 34 false) .peek⟩]))))
def rlf_l0 : AC := rlf_l0'
theorem rlf_l0_w (C : Kn) (K : Ex → St → Prop) (s : St) : vcC C rlf_l0 K s = vcC C rlf_l0' K s := nr rfl
def rlf_k1' : AC := .seq (.reg (.seq [⟨(some (35, false)), none, .mov (.tmp 3 true) .peek⟩,
      ⟨(some (36, false)), none, .b2s (.tmp 35 false)⟩,
      ⟨(some (2, true)), none, .mov (.tmp 36 false) .asg⟩])) [2] []
  (.ret)
def rlf_k1 : AC := rlf_k1'
theorem rlf_k1_w (C : Kn) (K : Ex → St → Prop) (s : St) : vcC C rlf_k1 K s = vcC C rlf_k1' K s := nr rfl
def rlf : AF := ⟨.seq (.reg (.seq [⟨(some (2, true)), none, .mov (.cst (.string (str [])) (.lit (.string (str [])))) .asg⟩])) [0] []
  (.seq (.reg (.seq [⟨(some (3, true)), none, .mov (.cst (.slice none 0 0) (.sl .own 1 [])) .asg⟩])) [0, 3] []
  (.seq (.seq (.reg (.seq [⟨(some (5, false)), none, .mov (.tmp 0 true) .peek⟩,
      ⟨(some (6, true)), none, .len (.tmp 5 false)⟩,
      ⟨(some (7, true)), none, .mov (.cst (.int .i64 0) (.lit (.int .i64 0))) .peek⟩])) [0, 3, 6, 7] []
  (.block 0 (.loop [0, 3, 6, 7] [] rlf_l0))) [3] [] rlf_k1)),
  [.tmp 2]⟩
theorem rlf_comp (m : Int) : compF Tryd.prog (gl m) [] Tryd.f21 = some rlf := by kernel_rfl
def rbin_l0' : AC := .seq (.seq (.reg (.seq [⟨(some (4, false)), none, .mov (.tmp 3 true) .peek⟩,
      ⟨(some (5, false)), none, .mov (.tmp 0 true) .peek⟩,
      ⟨(some (6, false)), none, .len (.tmp 5 false)⟩,
      ⟨(some (7, false)), none, .bin .lss (.tmp 4 false) (.tmp 6 false)⟩,
      ⟨(some (8, false)), none, .mov (.tmp 7 false) .peek⟩,
      ⟨(some (9, false)), (some (8, true)), .mov (.tmp 3 true) .peek⟩,
      ⟨(some (10, false)), (some (8, true)), .bin .lss (.tmp 9 false) (.cst (.int .i64 8000) (.lit (.int .i64 8000)))⟩,
      ⟨(some (11, false)), none, .pick (.tmp 8 false) (.tmp 10 false) (.cst (.bool false) (.lit (.bool false)))⟩])) [0, 3, 11] []
  (.cond (.tmp 11 false)
    (.skip)
    (.exit 0))) [0, 3] []
  (.seq (.block 1 (.seq (.reg (.seq [⟨(some (14, false)), none, .mov (.tmp 0 true) .peek⟩,
      ⟨(some (15, false)), none, .mov (.tmp 3 true) .peek⟩,
      ⟨(some (16, false)), none, .idx (.tmp 14 false) (.tmp 15 false)⟩,
      ⟨(some (17, false)), none, .bin .eql (.tmp 16 false) (.cst (.int .u8 0) (.lit (.int .u8 0)))⟩])) [0, 3, 17] []
    (.cond (.tmp 17 false)
      (.seq (.reg (.seq [⟨(some (2, true)), none, .mov (.cst (.bool true) (.lit (.bool true))) .asg⟩])) [2] []
      (.ret))
      (.skip)))) [0, 3] []
  (.reg (.seq [⟨(some (12, false)), none, .mov (.tmp 3 true) .peek⟩,
      ⟨(some (13, false)), none, .bin .add (.tmp 12 false) (.cst (.int .i64 1) (.lit (.int .i64 1)))⟩,
      ⟨(some (3, true)), none, .mov (.tmp 13 false) .asg⟩])))
def rbin_l0 : AC := rbin_l0'
theorem rbin_l0_w (C : Kn) (K : Ex → St → Prop) (s : St) : vcC C rbin_l0 K s = vcC C rbin_l0' K s := nr rfl
def rbin_k1' : AC := .seq (.reg (.seq [⟨(some (2, true)), none, .mov (.cst (.bool false) (.lit (.bool false))) .asg⟩])) [2] []
  (.ret)
def rbin_k1 : AC := rbin_k1'
theorem rbin_k1_w (C : Kn) (K : Ex → St → Prop) (s : St) : vcC C rbin_k1 K s = vcC C rbin_k1' K s := nr rfl
def rbin : AF := ⟨.seq (.reg (.seq [⟨(some (2, true)), none, .mov (.cst (.bool false) (.lit (.bool false))) .asg⟩])) [0] []
  (.seq (.seq (.reg (.seq [⟨(some (3, true)), none, .mov (.cst (.int .i64 0) (.lit (.int .i64 0))) .asg⟩])) [0, 3] []
  (.block 0 (.loop [0, 3] [] rbin_l0))) [] [] rbin_k1),
  [.tmp 2]⟩
theorem rbin_comp (m : Int) : compF Tryd.prog (gl m) [] Tryd.f24 = some rbin := by kernel_rfl
def pbin : AF := ⟨.seq (.reg (.seq [⟨(some (2, true)), none, .mov (.cst (.bool false) (.lit (.bool false))) .asg⟩])) [0] []
  (.seq (.reg (.seq [⟨(some (3, false)), none, .mov (.tmp 0 true) .peek⟩,
      ⟨(some (4, false)), none, .mov (.tmp 0 true) .peek⟩,
      ⟨(some (5, false)), none, .len (.tmp 4 false)⟩,
      ⟨(some (6, false)), none, .mx false (.tmp 5 false) (.cst (.int .i64 8000) (.lit (.int .i64 8000)))⟩,
      ⟨(some (7, false)), none, .sub (.tmp 3 false) none (some (.tmp 6 false))⟩,
      ⟨(some (8, false)), none, .call 57 [(.tmp 7 false), (.cst (.int .u8 0) (.lit (.int .u8 0)))]⟩,
      ⟨(some (9, false)), none, .bin .geq (.tmp 8 false) (.cst (.int .i64 0) (.lit (.int .i64 0)))⟩,
      ⟨(some (2, true)), none, .mov (.tmp 9 false) .asg⟩])) [2] []
  (.ret)),
  [.tmp 2]⟩
theorem pbin_comp (m : Int) : compF Tryd.prog (gl m) [] Tryd.f23 = some pbin := by kernel_rfl
def rbare_l0' : AC := .seq (.seq (.reg (.seq [⟨(some (17, false)), none, .mov (.tmp 3 true) .peek⟩,
      ⟨(some (18, false)), none, .bin .gtr (.tmp 17 false) (.cst (.int .i64 0) (.lit (.int .i64 0)))⟩,
      ⟨(some (19, false)), none, .mov (.tmp 18 false) .peek⟩,
      ⟨(some (20, false)), (some (19, true)), .mov (.tmp 0 true) .peek⟩,
      ⟨(some (21, false)), (some (19, true)), .mov (.tmp 3 true) .peek⟩,
      ⟨(some (22, false)), (some (19, true)), .bin .sub (.tmp 21 false) (.cst (.int .i64 1) (.lit (.int .i64 1)))⟩,
      ⟨(some (23, false)), (some (19, true)), .idx (.tmp 20 false) (.tmp 22 false)⟩,
      ⟨(some (24, false)), (some (19, true)), .bin .eql (.tmp 23 false) (.cst (.int .u8 32) (.lit (.int .u8 32)))⟩,
      ⟨(some (25, false)), (some (19, true)), .mov (.tmp 24 false) .peek⟩,
      ⟨(some (26, false)), (some (25, false)), .mov (.tmp 0 true) .peek⟩,
      ⟨(some (27, false)), (some (25, false)), .mov (.tmp 3 true) .peek⟩,
      ⟨(some (28, false)), (some (25, false)), .bin .sub (.tmp 27 false) (.cst (.int .i64 1) (.lit (.int .i64 1)))⟩,
      ⟨(some (29, false)), (some (25, false)), .idx (.tmp 26 false) (.tmp 28 false)⟩,
      ⟨(some (30, false)), (some (25, false)), .bin .eql (.tmp 29 false) (.cst (.int .u8 9) (.lit (.int .u8 9)))⟩,
      ⟨(some (31, false)), (some (19, true)), .pick (.tmp 25 false) (.cst (.bool true) (.lit (.bool true))) (.tmp 30 false)⟩,
      ⟨(some (32, false)), (some (19, true)), .mov (.tmp 31 false) .peek⟩,
      ⟨(some (33, false)), (some (32, false)), .mov (.tmp 0 true) .peek⟩,
      ⟨(some (34, false)), (some (32, false)), .mov (.tmp 3 true) .peek⟩,
      ⟨(some (35, false)), (some (32, false)), .bin .sub (.tmp 34 false) (.cst (.int .i64 1) (.lit (.int .i64 1)))⟩,
      ⟨(some (36, false)), (some (32, false)), .idx (.tmp 33 false) (.tmp 35 false)⟩,
      ⟨(some (37, false)), (some (32, false)), .bin .eql (.tmp 36 false) (.cst (.int .u8 13) (.lit (.int .u8 13)))⟩,
      ⟨(some (38, false)), (some (19, true)), .pick (.tmp 32 false) (.cst (.bool true) (.lit (.bool true))) (.tmp 37 false)⟩,
      ⟨(some (39, false)), none, .pick (.tmp 19 false) (.tmp 38 false) (.cst (.bool false) (.lit (.bool false)))⟩])) [0, 3, 39] []
  (.cond (.tmp 39 false)
    (.skip)
    (.exit 0))) [0, 3] []
  (.block 1 (.reg (.seq [⟨(some (40, false)), none, .mov (.tmp 3 true) .peek⟩,
      ⟨(some (41, false)), none, .bin .sub (.tmp 40 false) (.cst (.int .i64 1) (.lit (.int .i64 1)))⟩,
      ⟨(some (3, true)), none, .mov (.tmp 41 false) .asg⟩])))
def rbare_l0 : AC := rbare_l0'
theorem rbare_l0_w (C : Kn) (K : Ex → St → Prop) (s : St) : vcC C rbare_l0 K s = vcC C rbare_l0' K s := nr rfl
def rbare_k1' : AC := .seq (.reg (.seq [⟨(some (42, false)), none, .mov (.tmp 0 true) .peek⟩,
      ⟨(some (43, false)), none, .mov (.tmp 3 true) .peek⟩,
      ⟨(some (44, false)), none, .sub (.tmp 42 false) none (some (.tmp 43 false))⟩,
      ⟨(some (2, true)), none, .mov (.tmp 44 false) .asg⟩])) [2] []
  (.ret)
def rbare_k1 : AC := rbare_k1'
theorem rbare_k1_w (C : Kn) (K : Ex → St → Prop) (s : St) : vcC C rbare_k1 K s = vcC C rbare_k1' K s := nr rfl
def rbare : AF := ⟨.seq (.reg (.seq [⟨(some (2, true)), none, .mov (.cst (.string (str [])) (.lit (.string (str [])))) .asg⟩])) [0] []
  (.seq (.reg (.seq [⟨(some (4, false)), none, .mov (.tmp 0 true) .peek⟩,
      ⟨(some (5, false)), none, .len (.tmp 4 false)⟩,
      ⟨(some (3, true)), none, .mov (.tmp 5 false) .asg⟩])) [0, 3] []
  (.seq (.seq (.reg (.seq [⟨(some (6, false)), none, .mov (.tmp 3 true) .peek⟩,
      ⟨(some (7, false)), none, .bin .gtr (.tmp 6 false) (.cst (.int .i64 0) (.lit (.int .i64 0)))⟩,
      ⟨(some (8, false)), none, .mov (.tmp 7 false) .peek⟩,
      ⟨(some (9, false)), (some (8, true)), .mov (.tmp 0 true) .peek⟩,
      ⟨(some (10, false)), (some (8, true)), .mov (.tmp 3 true) .peek⟩,
      ⟨(some (11, false)), (some (8, true)), .bin .sub (.tmp 10 false) (.cst (.int .i64 1) (.lit (.int .i64 1)))⟩,
      ⟨(some (12, false)), (some (8, true)), .idx (.tmp 9 false) (.tmp 11 false)⟩,
      ⟨(some (13, false)), (some (8, true)), .bin .eql (.tmp 12 false) (.cst (.int .u8 10) (.lit (.int .u8 10)))⟩,
      ⟨(some (14, false)), none, .pick (.tmp 8 false) (.tmp 13 false) (.cst (.bool false) (.lit (.bool false)))⟩])) [0, 3, 14] []
  (.cond (.tmp 14 false)
    (.reg (.seq [⟨(some (15, false)), none, .mov (.tmp 3 true) .peek⟩,
      ⟨(some (16, false)), none, .bin .sub (.tmp 15 false) (.cst (.int .i64 1) (.lit (.int .i64 1)))⟩,
      ⟨(some (3, true)), none, .mov (.tmp 16 false) .asg⟩]))
    (.skip))) [0, 3] []
  (.seq (.block 0 (.loop [0, 3] [] rbare_l0)) [0, 3] [] rbare_k1))),
  [.tmp 2]⟩
theorem rbare_comp (m : Int) : compF Tryd.prog (gl m) [] Tryd.f55 = some rbare := by kernel_rfl
def tolf : AF := ⟨.seq (.reg (.seq [⟨(some (2, true)), none, .mov (.cst (.string (str [])) (.lit (.string (str [])))) .asg⟩])) [0] []
  (.seq (.reg (.seq [⟨(some (3, false)), none, .mov (.tmp 0 true) .peek⟩,
      ⟨(some (4, false)), none, .call 56 [(.tmp 3 false), (.cst (.string (str [13, 10])) (.lit (.string (str [13, 10])))), (.cst (.string (str [10])) (.lit (.string (str [10]))))]⟩,
      ⟨(some (2, true)), none, .mov (.tmp 4 false) .asg⟩])) [2] []
  (.ret)),
  [.tmp 2]⟩
theorem tolf_comp (m : Int) : compF Tryd.prog (gl m) [] Tryd.f20 = some tolf := by kernel_rfl
def prt : AF := ⟨.seq (.reg (.seq [⟨(some (2, true)), none, .mov (.cst (.bool false) (.lit (.bool false))) .asg⟩])) [0] []
  (.seq (.reg (.seq [⟨(some (3, false)), none, .mov (.tmp 0 true) .peek⟩,
      ⟨(some (4, false)), none, .call 19 [(.tmp 3 false)]⟩,
      ⟨(some (5, false)), none, .call 20 [(.tmp 4 false)]⟩,
      ⟨(some (6, false)), none, .mov (.tmp 0 true) .peek⟩,
      ⟨(some (7, false)), none, .bin .eql (.tmp 5 false) (.tmp 6 false)⟩,
      ⟨(some (2, true)), none, .mov (.tmp 7 false) .asg⟩])) [2] []
  (.ret)),
  [.tmp 2]⟩
theorem prt_comp (m : Int) : compF Tryd.prog (gl m) [] Tryd.f25 = some prt := by kernel_rfl
def rback : AF := ⟨.seq (.reg (.seq [⟨(some (2, true)), none, .mov (.cst (.bool false) (.lit (.bool false))) .asg⟩])) [0] []
  (.seq (.reg (.seq [⟨(some (3, false)), none, .mov (.tmp 0 true) .peek⟩,
      ⟨(some (4, false)), none, .call 22 [(.tmp 3 false)]⟩,
      ⟨(some (5, false)), none, .call 21 [(.tmp 4 false)]⟩,
      ⟨(some (6, false)), none, .mov (.tmp 0 true) .peek⟩,
      ⟨(some (7, false)), none, .bin .eql (.tmp 5 false) (.tmp 6 false)⟩,
      ⟨(some (2, true)), none, .mov (.tmp 7 false) .asg⟩])) [2] []
  (.ret)),
  [.tmp 2]⟩
theorem rback_comp (m : Int) : compF Tryd.prog (gl m) [] Tryd.f26 = some rback := by kernel_rfl
theorem tocrlf_loop (s : Bs) (hs : s.length ≤ 1048576) (n : Nat) : ∀ (i : Nat) (hn : s.length - i = n) (hi : i ≤ s.length) (acc : Bs) (ha : acc.length ≤ 2 * i),
    vcL (kn m) [0, 3, 9, 10] [] tocrlf_l0 (blockK 0 (seqK (kn m) [3] [] tocrlf_k1 (outOk [.tmp 2] (S (acc ++ crlfF s i))))) (mkS [(0, S s), (3, .sl .own 1 (bs acc)), (9, N s.length), (10, N i)] []) := by
  induction n with
  | zero =>
    intro i hn hi acc ha
    have hil : i = s.length := by omega
    subst hil
    apply round
    simp only [tocrlf_l0_w, tocrlf_l0', eqs, reduceCtorEq, implies_true, List.map_cons, List.map_nil, kl, klL, roD, roL, Option.map_some, Option.map_none, Option.getD_some, Option.getD_none, binVal, binObl, unVal, Nat.reduceEqDiff, if_true, if_false, reduceIte, eq_self, passA, frnD, resD, content, getH, getR, getW, viaNot, viaSlot, viaBox, viaDeep, viaMem, List.contains_cons, List.contains_nil, grabs, peeks, okCells, isCell, place, cellsOf, chunk, elt, List.headD_cons, List.length_cons, List.length_nil, List.take_succ_cons, List.take_zero, List.drop_succ_cons, List.drop_zero, Nat.reduceAdd, Nat.reduceSub, Nat.reduceLeDiff, List.nil_append, List.cons_append, List.append_nil, List.all_cons, List.all_nil, plainC, takeR, setW, over, reCell, Int.reduceToNat, List.getElem?_cons_zero, List.getElem?_cons_succ, List.set_cons_zero, List.take_length, outV, resG, plainV, pack, outVG, outBx, List.set_cons_succ, Ref.idx, Ref.addOff, beq_self_eq_true, Nat.reduceBEq, bxL, Option.bind_some, writeR, isLit, viaBoxes, capsPA, boxPA, nsOf, noDup, boxesAt, argG, passG, passD, rhoIn, rhoOut, idxIn, tr, trL, List.getD_cons_zero, gives, pasOf, isPtr]
    rw [show decide ((s.length : Int) < s.length) = false by simp, crlfF_end]
    simp only [tocrlf_k1_w, tocrlf_k1', eqs, reduceCtorEq, implies_true, List.map_cons, List.map_nil, kl, klL, roD, roL, Option.map_some, Option.map_none, Option.getD_some, Option.getD_none, binVal, binObl, unVal, Nat.reduceEqDiff, if_true, if_false, reduceIte, eq_self, passA, frnD, resD, content, getH, getR, getW, viaNot, viaSlot, viaBox, viaDeep, viaMem, List.contains_cons, List.contains_nil, grabs, peeks, okCells, isCell, place, cellsOf, chunk, elt, List.headD_cons, List.length_cons, List.length_nil, List.take_succ_cons, List.take_zero, List.drop_succ_cons, List.drop_zero, Nat.reduceAdd, Nat.reduceSub, Nat.reduceLeDiff, List.nil_append, List.cons_append, List.append_nil, List.all_cons, List.all_nil, plainC, takeR, setW, over, reCell, Int.reduceToNat, List.getElem?_cons_zero, List.getElem?_cons_succ, List.set_cons_zero, List.take_length, outV, resG, plainV, pack, outVG, outBx, List.set_cons_succ, Ref.idx, Ref.addOff, beq_self_eq_true, Nat.reduceBEq, bxL, Option.bind_some, writeR, isLit, viaBoxes, capsPA, boxPA, nsOf, noDup, boxesAt, argG, passG, passD, rhoIn, rhoOut, idxIn, tr, trL, List.getD_cons_zero, gives, pasOf, isPtr]
    exact ⟨str acc, by rw [str_dataL]; simp [bs], rfl⟩
  | succ n ih =>
    intro i hn hi acc ha
    have hil : i < s.length := by omega
    apply round
    simp only [tocrlf_l0_w, tocrlf_l0', eqs, reduceCtorEq, implies_true, List.map_cons, List.map_nil, kl, klL, roD, roL, Option.map_some, Option.map_none, Option.getD_some, Option.getD_none, binVal, binObl, unVal, Nat.reduceEqDiff, if_true, if_false, reduceIte, eq_self, passA, frnD, resD, content, getH, getR, getW, viaNot, viaSlot, viaBox, viaDeep, viaMem, List.contains_cons, List.contains_nil, grabs, peeks, okCells, isCell, place, cellsOf, chunk, elt, List.headD_cons, List.length_cons, List.length_nil, List.take_succ_cons, List.take_zero, List.drop_succ_cons, List.drop_zero, Nat.reduceAdd, Nat.reduceSub, Nat.reduceLeDiff, List.nil_append, List.cons_append, List.append_nil, List.all_cons, List.all_nil, plainC, takeR, setW, over, reCell, Int.reduceToNat, List.getElem?_cons_zero, List.getElem?_cons_succ, List.set_cons_zero, List.take_length, outV, resG, plainV, pack, outVG, outBx, List.set_cons_succ, Ref.idx, Ref.addOff, beq_self_eq_true, Nat.reduceBEq, bxL, Option.bind_some, writeR, isLit, viaBoxes, capsPA, boxPA, nsOf, noDup, boxesAt, argG, passG, passD, rhoIn, rhoOut, idxIn, tr, trL, List.getD_cons_zero, gives, pasOf, isPtr]
    rw [show decide ((i : Int) < s.length) = true by simpa using hil]
    simp only [getE hil, bs_13, eqs, reduceCtorEq, implies_true, List.map_cons, List.map_nil, kl, klL, roD, roL, Option.map_some, Option.map_none, Option.getD_some, Option.getD_none, binVal, binObl, unVal, Nat.reduceEqDiff, if_true, if_false, reduceIte, eq_self, passA, frnD, resD, content, getH, getR, getW, viaNot, viaSlot, viaBox, viaDeep, viaMem, List.contains_cons, List.contains_nil, grabs, peeks, okCells, isCell, place, cellsOf, chunk, elt, List.headD_cons, List.length_cons, List.length_nil, List.take_succ_cons, List.take_zero, List.drop_succ_cons, List.drop_zero, Nat.reduceAdd, Nat.reduceSub, Nat.reduceLeDiff, List.nil_append, List.cons_append, List.append_nil, List.all_cons, List.all_nil, plainC, takeR, setW, over, reCell, Int.reduceToNat, List.getElem?_cons_zero, List.getElem?_cons_succ, List.set_cons_zero, List.take_length, outV, resG, plainV, pack, outVG, outBx, List.set_cons_succ, Ref.idx, Ref.addOff, beq_self_eq_true, Nat.reduceBEq, bxL, Option.bind_some, writeR, isLit, viaBoxes, capsPA, boxPA, nsOf, noDup, boxesAt, argG, passG, passD, rhoIn, rhoOut, idxIn, tr, trL, List.getD_cons_zero, gives, pasOf, isPtr]
    have add : prev s i ≠ 13 → s[i] = 10 → _ := fun hp h10 => by
      have := ih (i + 1) (by omega) (by omega) (acc ++ [13] ++ [s[i]]) (by simp; omega)
      rw [List.append_assoc, List.append_assoc, List.cons_append, List.nil_append, List.cons_append, List.nil_append, ← crlfF_add hil h10 hp] at this
      exact this
    have keep : ¬ (s[i] = 10 ∧ prev s i ≠ 13) → _ := fun h => by
      have := ih (i + 1) (by omega) (by omega) (acc ++ [s[i]]) (by simp; omega)
      rw [List.append_assoc, List.cons_append, List.nil_append, ← crlfF_keep hil h] at this
      exact this
    refine ⟨by omega, ?_⟩
    by_cases h10 : s[i] = 10
    · rw [u8b_t (n := 10) h10 rfl]
      simp only [eqs, reduceCtorEq, implies_true, List.map_cons, List.map_nil, kl, klL, roD, roL, Option.map_some, Option.map_none, Option.getD_some, Option.getD_none, binVal, binObl, unVal, Nat.reduceEqDiff, if_true, if_false, reduceIte, eq_self, passA, frnD, resD, content, getH, getR, getW, viaNot, viaSlot, viaBox, viaDeep, viaMem, List.contains_cons, List.contains_nil, grabs, peeks, okCells, isCell, place, cellsOf, chunk, elt, List.headD_cons, List.length_cons, List.length_nil, List.take_succ_cons, List.take_zero, List.drop_succ_cons, List.drop_zero, Nat.reduceAdd, Nat.reduceSub, Nat.reduceLeDiff, List.nil_append, List.cons_append, List.append_nil, List.all_cons, List.all_nil, plainC, takeR, setW, over, reCell, Int.reduceToNat, List.getElem?_cons_zero, List.getElem?_cons_succ, List.set_cons_zero, List.take_length, outV, resG, plainV, pack, outVG, outBx, List.set_cons_succ, Ref.idx, Ref.addOff, beq_self_eq_true, Nat.reduceBEq, bxL, Option.bind_some, writeR, isLit, viaBoxes, capsPA, boxPA, nsOf, noDup, boxesAt, argG, passG, passD, rhoIn, rhoOut, idxIn, tr, trL, List.getD_cons_zero, gives, pasOf, isPtr]
      by_cases h0 : i = 0
      · rw [show ((i : Int) == 0) = true by simp [h0]]
        simp only [getE hil, bs_13, eqs, reduceCtorEq, implies_true, List.map_cons, List.map_nil, kl, klL, roD, roL, Option.map_some, Option.map_none, Option.getD_some, Option.getD_none, binVal, binObl, unVal, Nat.reduceEqDiff, if_true, if_false, reduceIte, eq_self, passA, frnD, resD, content, getH, getR, getW, viaNot, viaSlot, viaBox, viaDeep, viaMem, List.contains_cons, List.contains_nil, grabs, peeks, okCells, isCell, place, cellsOf, chunk, elt, List.headD_cons, List.length_cons, List.length_nil, List.take_succ_cons, List.take_zero, List.drop_succ_cons, List.drop_zero, Nat.reduceAdd, Nat.reduceSub, Nat.reduceLeDiff, List.nil_append, List.cons_append, List.append_nil, List.all_cons, List.all_nil, plainC, takeR, setW, over, reCell, Int.reduceToNat, List.getElem?_cons_zero, List.getElem?_cons_succ, List.set_cons_zero, List.take_length, outV, resG, plainV, pack, outVG, outBx, List.set_cons_succ, Ref.idx, Ref.addOff, beq_self_eq_true, Nat.reduceBEq, bxL, Option.bind_some, writeR, isLit, viaBoxes, capsPA, boxPA, nsOf, noDup, boxesAt, argG, passG, passD, rhoIn, rhoOut, idxIn, tr, trL, List.getD_cons_zero, gives, pasOf, isPtr]
        repeat (refine ⟨by (try simp only [List.length_append, List.length_cons, List.length_nil]); omega, ?_⟩)
        rw [wrapN (i + 1) (by omega) (by omega)]
        exact add (by simp [prev, h0]) h10
      · rw [show ((i : Int) == 0) = false by simp [h0]]
        have h1 : i - 1 < s.length := by omega
        simp only [eqs, reduceCtorEq, implies_true, List.map_cons, List.map_nil, kl, klL, roD, roL, Option.map_some, Option.map_none, Option.getD_some, Option.getD_none, binVal, binObl, unVal, Nat.reduceEqDiff, if_true, if_false, reduceIte, eq_self, passA, frnD, resD, content, getH, getR, getW, viaNot, viaSlot, viaBox, viaDeep, viaMem, List.contains_cons, List.contains_nil, grabs, peeks, okCells, isCell, place, cellsOf, chunk, elt, List.headD_cons, List.length_cons, List.length_nil, List.take_succ_cons, List.take_zero, List.drop_succ_cons, List.drop_zero, Nat.reduceAdd, Nat.reduceSub, Nat.reduceLeDiff, List.nil_append, List.cons_append, List.append_nil, List.all_cons, List.all_nil, plainC, takeR, setW, over, reCell, Int.reduceToNat, List.getElem?_cons_zero, List.getElem?_cons_succ, List.set_cons_zero, List.take_length, outV, resG, plainV, pack, outVG, outBx, List.set_cons_succ, Ref.idx, Ref.addOff, beq_self_eq_true, Nat.reduceBEq, bxL, Option.bind_some, writeR, isLit, viaBoxes, capsPA, boxPA, nsOf, noDup, boxesAt, argG, passG, passD, rhoIn, rhoOut, idxIn, tr, trL, List.getD_cons_zero, gives, pasOf, isPtr]
        rw [wrapN (i - 1) (by omega) (by omega)]
        simp only [getE h1, eqs, reduceCtorEq, implies_true, List.map_cons, List.map_nil, kl, klL, roD, roL, Option.map_some, Option.map_none, Option.getD_some, Option.getD_none, binVal, binObl, unVal, Nat.reduceEqDiff, if_true, if_false, reduceIte, eq_self, passA, frnD, resD, content, getH, getR, getW, viaNot, viaSlot, viaBox, viaDeep, viaMem, List.contains_cons, List.contains_nil, grabs, peeks, okCells, isCell, place, cellsOf, chunk, elt, List.headD_cons, List.length_cons, List.length_nil, List.take_succ_cons, List.take_zero, List.drop_succ_cons, List.drop_zero, Nat.reduceAdd, Nat.reduceSub, Nat.reduceLeDiff, List.nil_append, List.cons_append, List.append_nil, List.all_cons, List.all_nil, plainC, takeR, setW, over, reCell, Int.reduceToNat, List.getElem?_cons_zero, List.getElem?_cons_succ, List.set_cons_zero, List.take_length, outV, resG, plainV, pack, outVG, outBx, List.set_cons_succ, Ref.idx, Ref.addOff, beq_self_eq_true, Nat.reduceBEq, bxL, Option.bind_some, writeR, isLit, viaBoxes, capsPA, boxPA, nsOf, noDup, boxesAt, argG, passG, passD, rhoIn, rhoOut, idxIn, tr, trL, List.getD_cons_zero, gives, pasOf, isPtr]
        refine ⟨by omega, ?_⟩
        by_cases h13 : s[i - 1] = 13
        · rw [u8n_f (n := 13) h13 rfl]
          simp only [getE hil, bs_13, eqs, reduceCtorEq, implies_true, List.map_cons, List.map_nil, kl, klL, roD, roL, Option.map_some, Option.map_none, Option.getD_some, Option.getD_none, binVal, binObl, unVal, Nat.reduceEqDiff, if_true, if_false, reduceIte, eq_self, passA, frnD, resD, content, getH, getR, getW, viaNot, viaSlot, viaBox, viaDeep, viaMem, List.contains_cons, List.contains_nil, grabs, peeks, okCells, isCell, place, cellsOf, chunk, elt, List.headD_cons, List.length_cons, List.length_nil, List.take_succ_cons, List.take_zero, List.drop_succ_cons, List.drop_zero, Nat.reduceAdd, Nat.reduceSub, Nat.reduceLeDiff, List.nil_append, List.cons_append, List.append_nil, List.all_cons, List.all_nil, plainC, takeR, setW, over, reCell, Int.reduceToNat, List.getElem?_cons_zero, List.getElem?_cons_succ, List.set_cons_zero, List.take_length, outV, resG, plainV, pack, outVG, outBx, List.set_cons_succ, Ref.idx, Ref.addOff, beq_self_eq_true, Nat.reduceBEq, bxL, Option.bind_some, writeR, isLit, viaBoxes, capsPA, boxPA, nsOf, noDup, boxesAt, argG, passG, passD, rhoIn, rhoOut, idxIn, tr, trL, List.getD_cons_zero, gives, pasOf, isPtr]
          repeat (refine ⟨by (try simp only [List.length_append, List.length_cons, List.length_nil]); omega, ?_⟩)
          rw [wrapN (i + 1) (by omega) (by omega)]
          exact keep (by rw [prev_at h0 h1]; exact fun h => h.2 h13)
        · rw [u8n_t (n := 13) h13 rfl]
          simp only [getE hil, bs_13, eqs, reduceCtorEq, implies_true, List.map_cons, List.map_nil, kl, klL, roD, roL, Option.map_some, Option.map_none, Option.getD_some, Option.getD_none, binVal, binObl, unVal, Nat.reduceEqDiff, if_true, if_false, reduceIte, eq_self, passA, frnD, resD, content, getH, getR, getW, viaNot, viaSlot, viaBox, viaDeep, viaMem, List.contains_cons, List.contains_nil, grabs, peeks, okCells, isCell, place, cellsOf, chunk, elt, List.headD_cons, List.length_cons, List.length_nil, List.take_succ_cons, List.take_zero, List.drop_succ_cons, List.drop_zero, Nat.reduceAdd, Nat.reduceSub, Nat.reduceLeDiff, List.nil_append, List.cons_append, List.append_nil, List.all_cons, List.all_nil, plainC, takeR, setW, over, reCell, Int.reduceToNat, List.getElem?_cons_zero, List.getElem?_cons_succ, List.set_cons_zero, List.take_length, outV, resG, plainV, pack, outVG, outBx, List.set_cons_succ, Ref.idx, Ref.addOff, beq_self_eq_true, Nat.reduceBEq, bxL, Option.bind_some, writeR, isLit, viaBoxes, capsPA, boxPA, nsOf, noDup, boxesAt, argG, passG, passD, rhoIn, rhoOut, idxIn, tr, trL, List.getD_cons_zero, gives, pasOf, isPtr]
          repeat (refine ⟨by (try simp only [List.length_append, List.length_cons, List.length_nil]); omega, ?_⟩)
          rw [wrapN (i + 1) (by omega) (by omega)]
          exact add (by rw [prev_at h0 h1]; exact h13) h10
    · rw [u8b_f (n := 10) h10 rfl]
      simp only [getE hil, bs_13, eqs, reduceCtorEq, implies_true, List.map_cons, List.map_nil, kl, klL, roD, roL, Option.map_some, Option.map_none, Option.getD_some, Option.getD_none, binVal, binObl, unVal, Nat.reduceEqDiff, if_true, if_false, reduceIte, eq_self, passA, frnD, resD, content, getH, getR, getW, viaNot, viaSlot, viaBox, viaDeep, viaMem, List.contains_cons, List.contains_nil, grabs, peeks, okCells, isCell, place, cellsOf, chunk, elt, List.headD_cons, List.length_cons, List.length_nil, List.take_succ_cons, List.take_zero, List.drop_succ_cons, List.drop_zero, Nat.reduceAdd, Nat.reduceSub, Nat.reduceLeDiff, List.nil_append, List.cons_append, List.append_nil, List.all_cons, List.all_nil, plainC, takeR, setW, over, reCell, Int.reduceToNat, List.getElem?_cons_zero, List.getElem?_cons_succ, List.set_cons_zero, List.take_length, outV, resG, plainV, pack, outVG, outBx, List.set_cons_succ, Ref.idx, Ref.addOff, beq_self_eq_true, Nat.reduceBEq, bxL, Option.bind_some, writeR, isLit, viaBoxes, capsPA, boxPA, nsOf, noDup, boxesAt, argG, passG, passD, rhoIn, rhoOut, idxIn, tr, trL, List.getD_cons_zero, gives, pasOf, isPtr]
      repeat (refine ⟨by (try simp only [List.length_append, List.length_cons, List.length_nil]); omega, ?_⟩)
      rw [wrapN (i + 1) (by omega) (by omega)]
      exact keep fun h => h10 h.1
theorem tocrlf_snd (s : Bs) (hs : s.length ≤ 1048576) : Snd Tryd.prog (gl m) 19 [S s] (S (crlf 0 s)) := by
  refine snd_of (fn := Tryd.f19) (af := tocrlf) Tryd.func19 (tocrlf_comp m) mixed (kn_ok m) (Nat.le_of_ble_eq_true rfl) ?_
  simp only [tocrlf, eqs, reduceCtorEq, implies_true, List.map_cons, List.map_nil, kl, klL, roD, roL, Option.map_some, Option.map_none, Option.getD_some, Option.getD_none, binVal, binObl, unVal, Nat.reduceEqDiff, if_true, if_false, reduceIte, eq_self, passA, frnD, resD, content, getH, getR, getW, viaNot, viaSlot, viaBox, viaDeep, viaMem, List.contains_cons, List.contains_nil, grabs, peeks, okCells, isCell, place, cellsOf, chunk, elt, List.headD_cons, List.length_cons, List.length_nil, List.take_succ_cons, List.take_zero, List.drop_succ_cons, List.drop_zero, Nat.reduceAdd, Nat.reduceSub, Nat.reduceLeDiff, List.nil_append, List.cons_append, List.append_nil, List.all_cons, List.all_nil, plainC, takeR, setW, over, reCell, Int.reduceToNat, List.getElem?_cons_zero, List.getElem?_cons_succ, List.set_cons_zero, List.take_length, outV, resG, plainV, pack, outVG, outBx, List.set_cons_succ, Ref.idx, Ref.addOff, beq_self_eq_true, Nat.reduceBEq, bxL, Option.bind_some, writeR, isLit, viaBoxes, capsPA, boxPA, nsOf, noDup, boxesAt, argG, passG, passD, rhoIn, rhoOut, idxIn, tr, trL, List.getD_cons_zero, gives, pasOf, isPtr]
  repeat (refine ⟨by (try simp only [List.length_append, List.length_cons, List.length_nil]); omega, ?_⟩)
  exact tocrlf_loop s hs _ 0 rfl (by omega) [] (by simp)
theorem rcrlf_loop (s : Bs) (hs : s.length ≤ 1048576) (n : Nat) : ∀ (i : Nat) (hn : s.length - i = n) (hi : i ≤ s.length) (acc : Bs) (ha : acc.length ≤ 2 * i),
    vcL (kn m) [0, 3, 6, 7] [] rcrlf_l0 (blockK 0 (seqK (kn m) [3] [] rcrlf_k1 (outOk [.tmp 2] (S (acc ++ crlfF s i))))) (mkS [(0, S s), (3, .sl .own 1 (bs acc)), (6, N s.length), (7, N i)] []) := by
  induction n with
  | zero =>
    intro i hn hi acc ha
    have hil : i = s.length := by omega
    subst hil
    apply round
    simp only [rcrlf_l0_w, rcrlf_l0', eqs, reduceCtorEq, implies_true, List.map_cons, List.map_nil, kl, klL, roD, roL, Option.map_some, Option.map_none, Option.getD_some, Option.getD_none, binVal, binObl, unVal, Nat.reduceEqDiff, if_true, if_false, reduceIte, eq_self, passA, frnD, resD, content, getH, getR, getW, viaNot, viaSlot, viaBox, viaDeep, viaMem, List.contains_cons, List.contains_nil, grabs, peeks, okCells, isCell, place, cellsOf, chunk, elt, List.headD_cons, List.length_cons, List.length_nil, List.take_succ_cons, List.take_zero, List.drop_succ_cons, List.drop_zero, Nat.reduceAdd, Nat.reduceSub, Nat.reduceLeDiff, List.nil_append, List.cons_append, List.append_nil, List.all_cons, List.all_nil, plainC, takeR, setW, over, reCell, Int.reduceToNat, List.getElem?_cons_zero, List.getElem?_cons_succ, List.set_cons_zero, List.take_length, outV, resG, plainV, pack, outVG, outBx, List.set_cons_succ, Ref.idx, Ref.addOff, beq_self_eq_true, Nat.reduceBEq, bxL, Option.bind_some, writeR, isLit, viaBoxes, capsPA, boxPA, nsOf, noDup, boxesAt, argG, passG, passD, rhoIn, rhoOut, idxIn, tr, trL, List.getD_cons_zero, gives, pasOf, isPtr]
    rw [show decide ((s.length : Int) < s.length) = false by simp, crlfF_end]
    simp only [rcrlf_k1_w, rcrlf_k1', eqs, reduceCtorEq, implies_true, List.map_cons, List.map_nil, kl, klL, roD, roL, Option.map_some, Option.map_none, Option.getD_some, Option.getD_none, binVal, binObl, unVal, Nat.reduceEqDiff, if_true, if_false, reduceIte, eq_self, passA, frnD, resD, content, getH, getR, getW, viaNot, viaSlot, viaBox, viaDeep, viaMem, List.contains_cons, List.contains_nil, grabs, peeks, okCells, isCell, place, cellsOf, chunk, elt, List.headD_cons, List.length_cons, List.length_nil, List.take_succ_cons, List.take_zero, List.drop_succ_cons, List.drop_zero, Nat.reduceAdd, Nat.reduceSub, Nat.reduceLeDiff, List.nil_append, List.cons_append, List.append_nil, List.all_cons, List.all_nil, plainC, takeR, setW, over, reCell, Int.reduceToNat, List.getElem?_cons_zero, List.getElem?_cons_succ, List.set_cons_zero, List.take_length, outV, resG, plainV, pack, outVG, outBx, List.set_cons_succ, Ref.idx, Ref.addOff, beq_self_eq_true, Nat.reduceBEq, bxL, Option.bind_some, writeR, isLit, viaBoxes, capsPA, boxPA, nsOf, noDup, boxesAt, argG, passG, passD, rhoIn, rhoOut, idxIn, tr, trL, List.getD_cons_zero, gives, pasOf, isPtr]
    exact ⟨str acc, by rw [str_dataL]; simp [bs], rfl⟩
  | succ n ih =>
    intro i hn hi acc ha
    have hil : i < s.length := by omega
    apply round
    simp only [rcrlf_l0_w, rcrlf_l0', eqs, reduceCtorEq, implies_true, List.map_cons, List.map_nil, kl, klL, roD, roL, Option.map_some, Option.map_none, Option.getD_some, Option.getD_none, binVal, binObl, unVal, Nat.reduceEqDiff, if_true, if_false, reduceIte, eq_self, passA, frnD, resD, content, getH, getR, getW, viaNot, viaSlot, viaBox, viaDeep, viaMem, List.contains_cons, List.contains_nil, grabs, peeks, okCells, isCell, place, cellsOf, chunk, elt, List.headD_cons, List.length_cons, List.length_nil, List.take_succ_cons, List.take_zero, List.drop_succ_cons, List.drop_zero, Nat.reduceAdd, Nat.reduceSub, Nat.reduceLeDiff, List.nil_append, List.cons_append, List.append_nil, List.all_cons, List.all_nil, plainC, takeR, setW, over, reCell, Int.reduceToNat, List.getElem?_cons_zero, List.getElem?_cons_succ, List.set_cons_zero, List.take_length, outV, resG, plainV, pack, outVG, outBx, List.set_cons_succ, Ref.idx, Ref.addOff, beq_self_eq_true, Nat.reduceBEq, bxL, Option.bind_some, writeR, isLit, viaBoxes, capsPA, boxPA, nsOf, noDup, boxesAt, argG, passG, passD, rhoIn, rhoOut, idxIn, tr, trL, List.getD_cons_zero, gives, pasOf, isPtr]
    rw [show decide ((i : Int) < s.length) = true by simpa using hil]
    simp only [getE hil, bs_13, eqs, reduceCtorEq, implies_true, List.map_cons, List.map_nil, kl, klL, roD, roL, Option.map_some, Option.map_none, Option.getD_some, Option.getD_none, binVal, binObl, unVal, Nat.reduceEqDiff, if_true, if_false, reduceIte, eq_self, passA, frnD, resD, content, getH, getR, getW, viaNot, viaSlot, viaBox, viaDeep, viaMem, List.contains_cons, List.contains_nil, grabs, peeks, okCells, isCell, place, cellsOf, chunk, elt, List.headD_cons, List.length_cons, List.length_nil, List.take_succ_cons, List.take_zero, List.drop_succ_cons, List.drop_zero, Nat.reduceAdd, Nat.reduceSub, Nat.reduceLeDiff, List.nil_append, List.cons_append, List.append_nil, List.all_cons, List.all_nil, plainC, takeR, setW, over, reCell, Int.reduceToNat, List.getElem?_cons_zero, List.getElem?_cons_succ, List.set_cons_zero, List.take_length, outV, resG, plainV, pack, outVG, outBx, List.set_cons_succ, Ref.idx, Ref.addOff, beq_self_eq_true, Nat.reduceBEq, bxL, Option.bind_some, writeR, isLit, viaBoxes, capsPA, boxPA, nsOf, noDup, boxesAt, argG, passG, passD, rhoIn, rhoOut, idxIn, tr, trL, List.getD_cons_zero, gives, pasOf, isPtr]
    have add : prev s i ≠ 13 → s[i] = 10 → _ := fun hp h10 => by
      have := ih (i + 1) (by omega) (by omega) (acc ++ [13] ++ [s[i]]) (by simp; omega)
      rw [List.append_assoc, List.append_assoc, List.cons_append, List.nil_append, List.cons_append, List.nil_append, ← crlfF_add hil h10 hp] at this
      exact this
    have keep : ¬ (s[i] = 10 ∧ prev s i ≠ 13) → _ := fun h => by
      have := ih (i + 1) (by omega) (by omega) (acc ++ [s[i]]) (by simp; omega)
      rw [List.append_assoc, List.cons_append, List.nil_append, ← crlfF_keep hil h] at this
      exact this
    refine ⟨by omega, ?_⟩
    by_cases h10 : s[i] = 10
    · rw [u8b_t (n := 10) h10 rfl]
      simp only [eqs, reduceCtorEq, implies_true, List.map_cons, List.map_nil, kl, klL, roD, roL, Option.map_some, Option.map_none, Option.getD_some, Option.getD_none, binVal, binObl, unVal, Nat.reduceEqDiff, if_true, if_false, reduceIte, eq_self, passA, frnD, resD, content, getH, getR, getW, viaNot, viaSlot, viaBox, viaDeep, viaMem, List.contains_cons, List.contains_nil, grabs, peeks, okCells, isCell, place, cellsOf, chunk, elt, List.headD_cons, List.length_cons, List.length_nil, List.take_succ_cons, List.take_zero, List.drop_succ_cons, List.drop_zero, Nat.reduceAdd, Nat.reduceSub, Nat.reduceLeDiff, List.nil_append, List.cons_append, List.append_nil, List.all_cons, List.all_nil, plainC, takeR, setW, over, reCell, Int.reduceToNat, List.getElem?_cons_zero, List.getElem?_cons_succ, List.set_cons_zero, List.take_length, outV, resG, plainV, pack, outVG, outBx, List.set_cons_succ, Ref.idx, Ref.addOff, beq_self_eq_true, Nat.reduceBEq, bxL, Option.bind_some, writeR, isLit, viaBoxes, capsPA, boxPA, nsOf, noDup, boxesAt, argG, passG, passD, rhoIn, rhoOut, idxIn, tr, trL, List.getD_cons_zero, gives, pasOf, isPtr]
      by_cases h0 : i = 0
      · rw [show ((i : Int) == 0) = true by simp [h0]]
        simp only [getE hil, bs_13, eqs, reduceCtorEq, implies_true, List.map_cons, List.map_nil, kl, klL, roD, roL, Option.map_some, Option.map_none, Option.getD_some, Option.getD_none, binVal, binObl, unVal, Nat.reduceEqDiff, if_true, if_false, reduceIte, eq_self, passA, frnD, resD, content, getH, getR, getW, viaNot, viaSlot, viaBox, viaDeep, viaMem, List.contains_cons, List.contains_nil, grabs, peeks, okCells, isCell, place, cellsOf, chunk, elt, List.headD_cons, List.length_cons, List.length_nil, List.take_succ_cons, List.take_zero, List.drop_succ_cons, List.drop_zero, Nat.reduceAdd, Nat.reduceSub, Nat.reduceLeDiff, List.nil_append, List.cons_append, List.append_nil, List.all_cons, List.all_nil, plainC, takeR, setW, over, reCell, Int.reduceToNat, List.getElem?_cons_zero, List.getElem?_cons_succ, List.set_cons_zero, List.take_length, outV, resG, plainV, pack, outVG, outBx, List.set_cons_succ, Ref.idx, Ref.addOff, beq_self_eq_true, Nat.reduceBEq, bxL, Option.bind_some, writeR, isLit, viaBoxes, capsPA, boxPA, nsOf, noDup, boxesAt, argG, passG, passD, rhoIn, rhoOut, idxIn, tr, trL, List.getD_cons_zero, gives, pasOf, isPtr]
        repeat (refine ⟨by (try simp only [List.length_append, List.length_cons, List.length_nil]); omega, ?_⟩)
        rw [wrapN (i + 1) (by omega) (by omega)]
        exact add (by simp [prev, h0]) h10
      · rw [show ((i : Int) == 0) = false by simp [h0]]
        have h1 : i - 1 < s.length := by omega
        simp only [eqs, reduceCtorEq, implies_true, List.map_cons, List.map_nil, kl, klL, roD, roL, Option.map_some, Option.map_none, Option.getD_some, Option.getD_none, binVal, binObl, unVal, Nat.reduceEqDiff, if_true, if_false, reduceIte, eq_self, passA, frnD, resD, content, getH, getR, getW, viaNot, viaSlot, viaBox, viaDeep, viaMem, List.contains_cons, List.contains_nil, grabs, peeks, okCells, isCell, place, cellsOf, chunk, elt, List.headD_cons, List.length_cons, List.length_nil, List.take_succ_cons, List.take_zero, List.drop_succ_cons, List.drop_zero, Nat.reduceAdd, Nat.reduceSub, Nat.reduceLeDiff, List.nil_append, List.cons_append, List.append_nil, List.all_cons, List.all_nil, plainC, takeR, setW, over, reCell, Int.reduceToNat, List.getElem?_cons_zero, List.getElem?_cons_succ, List.set_cons_zero, List.take_length, outV, resG, plainV, pack, outVG, outBx, List.set_cons_succ, Ref.idx, Ref.addOff, beq_self_eq_true, Nat.reduceBEq, bxL, Option.bind_some, writeR, isLit, viaBoxes, capsPA, boxPA, nsOf, noDup, boxesAt, argG, passG, passD, rhoIn, rhoOut, idxIn, tr, trL, List.getD_cons_zero, gives, pasOf, isPtr]
        rw [wrapN (i - 1) (by omega) (by omega)]
        simp only [getE h1, eqs, reduceCtorEq, implies_true, List.map_cons, List.map_nil, kl, klL, roD, roL, Option.map_some, Option.map_none, Option.getD_some, Option.getD_none, binVal, binObl, unVal, Nat.reduceEqDiff, if_true, if_false, reduceIte, eq_self, passA, frnD, resD, content, getH, getR, getW, viaNot, viaSlot, viaBox, viaDeep, viaMem, List.contains_cons, List.contains_nil, grabs, peeks, okCells, isCell, place, cellsOf, chunk, elt, List.headD_cons, List.length_cons, List.length_nil, List.take_succ_cons, List.take_zero, List.drop_succ_cons, List.drop_zero, Nat.reduceAdd, Nat.reduceSub, Nat.reduceLeDiff, List.nil_append, List.cons_append, List.append_nil, List.all_cons, List.all_nil, plainC, takeR, setW, over, reCell, Int.reduceToNat, List.getElem?_cons_zero, List.getElem?_cons_succ, List.set_cons_zero, List.take_length, outV, resG, plainV, pack, outVG, outBx, List.set_cons_succ, Ref.idx, Ref.addOff, beq_self_eq_true, Nat.reduceBEq, bxL, Option.bind_some, writeR, isLit, viaBoxes, capsPA, boxPA, nsOf, noDup, boxesAt, argG, passG, passD, rhoIn, rhoOut, idxIn, tr, trL, List.getD_cons_zero, gives, pasOf, isPtr]
        refine ⟨by omega, ?_⟩
        by_cases h13 : s[i - 1] = 13
        · rw [u8n_f (n := 13) h13 rfl]
          simp only [getE hil, bs_13, eqs, reduceCtorEq, implies_true, List.map_cons, List.map_nil, kl, klL, roD, roL, Option.map_some, Option.map_none, Option.getD_some, Option.getD_none, binVal, binObl, unVal, Nat.reduceEqDiff, if_true, if_false, reduceIte, eq_self, passA, frnD, resD, content, getH, getR, getW, viaNot, viaSlot, viaBox, viaDeep, viaMem, List.contains_cons, List.contains_nil, grabs, peeks, okCells, isCell, place, cellsOf, chunk, elt, List.headD_cons, List.length_cons, List.length_nil, List.take_succ_cons, List.take_zero, List.drop_succ_cons, List.drop_zero, Nat.reduceAdd, Nat.reduceSub, Nat.reduceLeDiff, List.nil_append, List.cons_append, List.append_nil, List.all_cons, List.all_nil, plainC, takeR, setW, over, reCell, Int.reduceToNat, List.getElem?_cons_zero, List.getElem?_cons_succ, List.set_cons_zero, List.take_length, outV, resG, plainV, pack, outVG, outBx, List.set_cons_succ, Ref.idx, Ref.addOff, beq_self_eq_true, Nat.reduceBEq, bxL, Option.bind_some, writeR, isLit, viaBoxes, capsPA, boxPA, nsOf, noDup, boxesAt, argG, passG, passD, rhoIn, rhoOut, idxIn, tr, trL, List.getD_cons_zero, gives, pasOf, isPtr]
          repeat (refine ⟨by (try simp only [List.length_append, List.length_cons, List.length_nil]); omega, ?_⟩)
          rw [wrapN (i + 1) (by omega) (by omega)]
          exact keep (by rw [prev_at h0 h1]; exact fun h => h.2 h13)
        · rw [u8n_t (n := 13) h13 rfl]
          simp only [getE hil, bs_13, eqs, reduceCtorEq, implies_true, List.map_cons, List.map_nil, kl, klL, roD, roL, Option.map_some, Option.map_none, Option.getD_some, Option.getD_none, binVal, binObl, unVal, Nat.reduceEqDiff, if_true, if_false, reduceIte, eq_self, passA, frnD, resD, content, getH, getR, getW, viaNot, viaSlot, viaBox, viaDeep, viaMem, List.contains_cons, List.contains_nil, grabs, peeks, okCells, isCell, place, cellsOf, chunk, elt, List.headD_cons, List.length_cons, List.length_nil, List.take_succ_cons, List.take_zero, List.drop_succ_cons, List.drop_zero, Nat.reduceAdd, Nat.reduceSub, Nat.reduceLeDiff, List.nil_append, List.cons_append, List.append_nil, List.all_cons, List.all_nil, plainC, takeR, setW, over, reCell, Int.reduceToNat, List.getElem?_cons_zero, List.getElem?_cons_succ, List.set_cons_zero, List.take_length, outV, resG, plainV, pack, outVG, outBx, List.set_cons_succ, Ref.idx, Ref.addOff, beq_self_eq_true, Nat.reduceBEq, bxL, Option.bind_some, writeR, isLit, viaBoxes, capsPA, boxPA, nsOf, noDup, boxesAt, argG, passG, passD, rhoIn, rhoOut, idxIn, tr, trL, List.getD_cons_zero, gives, pasOf, isPtr]
          repeat (refine ⟨by (try simp only [List.length_append, List.length_cons, List.length_nil]); omega, ?_⟩)
          rw [wrapN (i + 1) (by omega) (by omega)]
          exact add (by rw [prev_at h0 h1]; exact h13) h10
    · rw [u8b_f (n := 10) h10 rfl]
      simp only [getE hil, bs_13, eqs, reduceCtorEq, implies_true, List.map_cons, List.map_nil, kl, klL, roD, roL, Option.map_some, Option.map_none, Option.getD_some, Option.getD_none, binVal, binObl, unVal, Nat.reduceEqDiff, if_true, if_false, reduceIte, eq_self, passA, frnD, resD, content, getH, getR, getW, viaNot, viaSlot, viaBox, viaDeep, viaMem, List.contains_cons, List.contains_nil, grabs, peeks, okCells, isCell, place, cellsOf, chunk, elt, List.headD_cons, List.length_cons, List.length_nil, List.take_succ_cons, List.take_zero, List.drop_succ_cons, List.drop_zero, Nat.reduceAdd, Nat.reduceSub, Nat.reduceLeDiff, List.nil_append, List.cons_append, List.append_nil, List.all_cons, List.all_nil, plainC, takeR, setW, over, reCell, Int.reduceToNat, List.getElem?_cons_zero, List.getElem?_cons_succ, List.set_cons_zero, List.take_length, outV, resG, plainV, pack, outVG, outBx, List.set_cons_succ, Ref.idx, Ref.addOff, beq_self_eq_true, Nat.reduceBEq, bxL, Option.bind_some, writeR, isLit, viaBoxes, capsPA, boxPA, nsOf, noDup, boxesAt, argG, passG, passD, rhoIn, rhoOut, idxIn, tr, trL, List.getD_cons_zero, gives, pasOf, isPtr]
      repeat (refine ⟨by (try simp only [List.length_append, List.length_cons, List.length_nil]); omega, ?_⟩)
      rw [wrapN (i + 1) (by omega) (by omega)]
      exact keep fun h => h10 h.1
theorem rcrlf_snd (s : Bs) (hs : s.length ≤ 1048576) : Snd Tryd.prog (gl m) 22 [S s] (S (crlf 0 s)) := by
  refine snd_of (fn := Tryd.f22) (af := rcrlf) Tryd.func22 (rcrlf_comp m) mixed (kn_ok m) (Nat.le_of_ble_eq_true rfl) ?_
  simp only [rcrlf, eqs, reduceCtorEq, implies_true, List.map_cons, List.map_nil, kl, klL, roD, roL, Option.map_some, Option.map_none, Option.getD_some, Option.getD_none, binVal, binObl, unVal, Nat.reduceEqDiff, if_true, if_false, reduceIte, eq_self, passA, frnD, resD, content, getH, getR, getW, viaNot, viaSlot, viaBox, viaDeep, viaMem, List.contains_cons, List.contains_nil, grabs, peeks, okCells, isCell, place, cellsOf, chunk, elt, List.headD_cons, List.length_cons, List.length_nil, List.take_succ_cons, List.take_zero, List.drop_succ_cons, List.drop_zero, Nat.reduceAdd, Nat.reduceSub, Nat.reduceLeDiff, List.nil_append, List.cons_append, List.append_nil, List.all_cons, List.all_nil, plainC, takeR, setW, over, reCell, Int.reduceToNat, List.getElem?_cons_zero, List.getElem?_cons_succ, List.set_cons_zero, List.take_length, outV, resG, plainV, pack, outVG, outBx, List.set_cons_succ, Ref.idx, Ref.addOff, beq_self_eq_true, Nat.reduceBEq, bxL, Option.bind_some, writeR, isLit, viaBoxes, capsPA, boxPA, nsOf, noDup, boxesAt, argG, passG, passD, rhoIn, rhoOut, idxIn, tr, trL, List.getD_cons_zero, gives, pasOf, isPtr]
  repeat (refine ⟨by (try simp only [List.length_append, List.length_cons, List.length_nil]); omega, ?_⟩)
  exact rcrlf_loop s hs _ 0 rfl (by omega) [] (by simp)

theorem rlf_loop (s : Bs) (hs : s.length ≤ 1048576) (n : Nat) : ∀ (i : Nat) (hn : s.length - i = n) (hi : i ≤ s.length) (acc : Bs) (ha : acc.length ≤ i),
    vcL (kn m) [0, 3, 6, 7] [] rlf_l0 (blockK 0 (seqK (kn m) [3] [] rlf_k1 (outOk [.tmp 2] (S (acc ++ lf (s.drop i)))))) (mkS [(0, S s), (3, .sl .own 1 (bs acc)), (6, N s.length), (7, N i)] []) := by
  induction n with
  | zero =>
    intro i hn hi acc ha
    have hil : i = s.length := by omega
    subst hil
    apply round
    simp only [rlf_l0_w, rlf_l0', eqs, reduceCtorEq, implies_true, List.map_cons, List.map_nil, kl, klL, roD, roL, Option.map_some, Option.map_none, Option.getD_some, Option.getD_none, binVal, binObl, unVal, Nat.reduceEqDiff, if_true, if_false, reduceIte, eq_self, passA, frnD, resD, content, getH, getR, getW, viaNot, viaSlot, viaBox, viaDeep, viaMem, List.contains_cons, List.contains_nil, grabs, peeks, okCells, isCell, place, cellsOf, chunk, elt, List.headD_cons, List.length_cons, List.length_nil, List.take_succ_cons, List.take_zero, List.drop_succ_cons, List.drop_zero, Nat.reduceAdd, Nat.reduceSub, Nat.reduceLeDiff, List.nil_append, List.cons_append, List.append_nil, List.all_cons, List.all_nil, plainC, takeR, setW, over, reCell, Int.reduceToNat, List.getElem?_cons_zero, List.getElem?_cons_succ, List.set_cons_zero, List.take_length, outV, resG, plainV, pack, outVG, outBx, List.set_cons_succ, Ref.idx, Ref.addOff, beq_self_eq_true, Nat.reduceBEq, bxL, Option.bind_some, writeR, isLit, viaBoxes, capsPA, boxPA, nsOf, noDup, boxesAt, argG, passG, passD, rhoIn, rhoOut, idxIn, tr, trL, List.getD_cons_zero, gives, pasOf, isPtr]
    rw [show decide ((s.length : Int) < s.length) = false by simp]
    simp only [rlf_k1_w, rlf_k1', eqs, reduceCtorEq, implies_true, List.map_cons, List.map_nil, kl, klL, roD, roL, Option.map_some, Option.map_none, Option.getD_some, Option.getD_none, binVal, binObl, unVal, Nat.reduceEqDiff, if_true, if_false, reduceIte, eq_self, passA, frnD, resD, content, getH, getR, getW, viaNot, viaSlot, viaBox, viaDeep, viaMem, List.contains_cons, List.contains_nil, grabs, peeks, okCells, isCell, place, cellsOf, chunk, elt, List.headD_cons, List.length_cons, List.length_nil, List.take_succ_cons, List.take_zero, List.drop_succ_cons, List.drop_zero, Nat.reduceAdd, Nat.reduceSub, Nat.reduceLeDiff, List.nil_append, List.cons_append, List.append_nil, List.all_cons, List.all_nil, plainC, takeR, setW, over, reCell, Int.reduceToNat, List.getElem?_cons_zero, List.getElem?_cons_succ, List.set_cons_zero, List.take_length, outV, resG, plainV, pack, outVG, outBx, List.set_cons_succ, Ref.idx, Ref.addOff, beq_self_eq_true, Nat.reduceBEq, bxL, Option.bind_some, writeR, isLit, viaBoxes, capsPA, boxPA, nsOf, noDup, boxesAt, argG, passG, passD, rhoIn, rhoOut, idxIn, tr, trL, List.getD_cons_zero, gives, pasOf, isPtr]
    exact ⟨str acc, by rw [str_dataL]; simp [bs], by simp [lf]⟩
  | succ n ih =>
    intro i hn hi acc ha
    have hil : i < s.length := by omega
    have hw : IntKind.i64.wrap ((i : Int) + 1) = ((i + 1 : Nat) : Int) := wrapN (i + 1) (by omega) (by omega)
    apply round
    simp only [rlf_l0_w, rlf_l0', eqs, reduceCtorEq, implies_true, List.map_cons, List.map_nil, kl, klL, roD, roL, Option.map_some, Option.map_none, Option.getD_some, Option.getD_none, binVal, binObl, unVal, Nat.reduceEqDiff, if_true, if_false, reduceIte, eq_self, passA, frnD, resD, content, getH, getR, getW, viaNot, viaSlot, viaBox, viaDeep, viaMem, List.contains_cons, List.contains_nil, grabs, peeks, okCells, isCell, place, cellsOf, chunk, elt, List.headD_cons, List.length_cons, List.length_nil, List.take_succ_cons, List.take_zero, List.drop_succ_cons, List.drop_zero, Nat.reduceAdd, Nat.reduceSub, Nat.reduceLeDiff, List.nil_append, List.cons_append, List.append_nil, List.all_cons, List.all_nil, plainC, takeR, setW, over, reCell, Int.reduceToNat, List.getElem?_cons_zero, List.getElem?_cons_succ, List.set_cons_zero, List.take_length, outV, resG, plainV, pack, outVG, outBx, List.set_cons_succ, Ref.idx, Ref.addOff, beq_self_eq_true, Nat.reduceBEq, bxL, Option.bind_some, writeR, isLit, viaBoxes, capsPA, boxPA, nsOf, noDup, boxesAt, argG, passG, passD, rhoIn, rhoOut, idxIn, tr, trL, List.getD_cons_zero, gives, pasOf, isPtr]
    rw [show decide ((i : Int) < s.length) = true by simpa using hil]
    simp only [getE hil, eqs, reduceCtorEq, implies_true, List.map_cons, List.map_nil, kl, klL, roD, roL, Option.map_some, Option.map_none, Option.getD_some, Option.getD_none, binVal, binObl, unVal, Nat.reduceEqDiff, if_true, if_false, reduceIte, eq_self, passA, frnD, resD, content, getH, getR, getW, viaNot, viaSlot, viaBox, viaDeep, viaMem, List.contains_cons, List.contains_nil, grabs, peeks, okCells, isCell, place, cellsOf, chunk, elt, List.headD_cons, List.length_cons, List.length_nil, List.take_succ_cons, List.take_zero, List.drop_succ_cons, List.drop_zero, Nat.reduceAdd, Nat.reduceSub, Nat.reduceLeDiff, List.nil_append, List.cons_append, List.append_nil, List.all_cons, List.all_nil, plainC, takeR, setW, over, reCell, Int.reduceToNat, List.getElem?_cons_zero, List.getElem?_cons_succ, List.set_cons_zero, List.take_length, outV, resG, plainV, pack, outVG, outBx, List.set_cons_succ, Ref.idx, Ref.addOff, beq_self_eq_true, Nat.reduceBEq, bxL, Option.bind_some, writeR, isLit, viaBoxes, capsPA, boxPA, nsOf, noDup, boxesAt, argG, passG, passD, rhoIn, rhoOut, idxIn, tr, trL, List.getD_cons_zero, gives, pasOf, isPtr]
    have skip : i + 1 < s.length → s[i] = 13 → s[i + 1]? = some 10 → _ := fun h h13 h10 => by
      have := ih (i + 1) (by omega) (by omega) acc (by omega)
      rw [← lf_skip h h13 (by rw [getE h] at h10; simpa using h10)] at this
      exact this
    have keep : ¬ (s[i] = 13 ∧ s[i + 1]? = some 10) → _ := fun h => by
      have := ih (i + 1) (by omega) (by omega) (acc ++ [s[i]]) (by simp; omega)
      rw [List.append_assoc, List.cons_append, List.nil_append, ← lf_keep hil h] at this
      exact this
    refine ⟨by omega, ?_⟩
    by_cases h13 : s[i] = 13
    · rw [u8n_f (n := 13) h13 rfl]
      simp only [hw, eqs, reduceCtorEq, implies_true, List.map_cons, List.map_nil, kl, klL, roD, roL, Option.map_some, Option.map_none, Option.getD_some, Option.getD_none, binVal, binObl, unVal, Nat.reduceEqDiff, if_true, if_false, reduceIte, eq_self, passA, frnD, resD, content, getH, getR, getW, viaNot, viaSlot, viaBox, viaDeep, viaMem, List.contains_cons, List.contains_nil, grabs, peeks, okCells, isCell, place, cellsOf, chunk, elt, List.headD_cons, List.length_cons, List.length_nil, List.take_succ_cons, List.take_zero, List.drop_succ_cons, List.drop_zero, Nat.reduceAdd, Nat.reduceSub, Nat.reduceLeDiff, List.nil_append, List.cons_append, List.append_nil, List.all_cons, List.all_nil, plainC, takeR, setW, over, reCell, Int.reduceToNat, List.getElem?_cons_zero, List.getElem?_cons_succ, List.set_cons_zero, List.take_length, outV, resG, plainV, pack, outVG, outBx, List.set_cons_succ, Ref.idx, Ref.addOff, beq_self_eq_true, Nat.reduceBEq, bxL, Option.bind_some, writeR, isLit, viaBoxes, capsPA, boxPA, nsOf, noDup, boxesAt, argG, passG, passD, rhoIn, rhoOut, idxIn, tr, trL, List.getD_cons_zero, gives, pasOf, isPtr]
      by_cases h1 : i + 1 = s.length
      · rw [eqN_t h1]
        simp only [hw, getE hil, eqs, reduceCtorEq, implies_true, List.map_cons, List.map_nil, kl, klL, roD, roL, Option.map_some, Option.map_none, Option.getD_some, Option.getD_none, binVal, binObl, unVal, Nat.reduceEqDiff, if_true, if_false, reduceIte, eq_self, passA, frnD, resD, content, getH, getR, getW, viaNot, viaSlot, viaBox, viaDeep, viaMem, List.contains_cons, List.contains_nil, grabs, peeks, okCells, isCell, place, cellsOf, chunk, elt, List.headD_cons, List.length_cons, List.length_nil, List.take_succ_cons, List.take_zero, List.drop_succ_cons, List.drop_zero, Nat.reduceAdd, Nat.reduceSub, Nat.reduceLeDiff, List.nil_append, List.cons_append, List.append_nil, List.all_cons, List.all_nil, plainC, takeR, setW, over, reCell, Int.reduceToNat, List.getElem?_cons_zero, List.getElem?_cons_succ, List.set_cons_zero, List.take_length, outV, resG, plainV, pack, outVG, outBx, List.set_cons_succ, Ref.idx, Ref.addOff, beq_self_eq_true, Nat.reduceBEq, bxL, Option.bind_some, writeR, isLit, viaBoxes, capsPA, boxPA, nsOf, noDup, boxesAt, argG, passG, passD, rhoIn, rhoOut, idxIn, tr, trL, List.getD_cons_zero, gives, pasOf, isPtr]
        repeat (refine ⟨by (try simp only [List.length_append, List.length_cons, List.length_nil]); omega, ?_⟩)
        exact keep (by rw [List.getElem?_eq_none (by omega)]; simp)
      · have h2 : i + 1 < s.length := by omega
        rw [eqN_f h1]
        simp only [hw, getE h2, eqs, reduceCtorEq, implies_true, List.map_cons, List.map_nil, kl, klL, roD, roL, Option.map_some, Option.map_none, Option.getD_some, Option.getD_none, binVal, binObl, unVal, Nat.reduceEqDiff, if_true, if_false, reduceIte, eq_self, passA, frnD, resD, content, getH, getR, getW, viaNot, viaSlot, viaBox, viaDeep, viaMem, List.contains_cons, List.contains_nil, grabs, peeks, okCells, isCell, place, cellsOf, chunk, elt, List.headD_cons, List.length_cons, List.length_nil, List.take_succ_cons, List.take_zero, List.drop_succ_cons, List.drop_zero, Nat.reduceAdd, Nat.reduceSub, Nat.reduceLeDiff, List.nil_append, List.cons_append, List.append_nil, List.all_cons, List.all_nil, plainC, takeR, setW, over, reCell, Int.reduceToNat, List.getElem?_cons_zero, List.getElem?_cons_succ, List.set_cons_zero, List.take_length, outV, resG, plainV, pack, outVG, outBx, List.set_cons_succ, Ref.idx, Ref.addOff, beq_self_eq_true, Nat.reduceBEq, bxL, Option.bind_some, writeR, isLit, viaBoxes, capsPA, boxPA, nsOf, noDup, boxesAt, argG, passG, passD, rhoIn, rhoOut, idxIn, tr, trL, List.getD_cons_zero, gives, pasOf, isPtr]
        refine ⟨by omega, ?_⟩
        by_cases h10 : s[i + 1] = 10
        · rw [u8n_f (n := 10) h10 rfl]
          simp only [hw, getE hil, eqs, reduceCtorEq, implies_true, List.map_cons, List.map_nil, kl, klL, roD, roL, Option.map_some, Option.map_none, Option.getD_some, Option.getD_none, binVal, binObl, unVal, Nat.reduceEqDiff, if_true, if_false, reduceIte, eq_self, passA, frnD, resD, content, getH, getR, getW, viaNot, viaSlot, viaBox, viaDeep, viaMem, List.contains_cons, List.contains_nil, grabs, peeks, okCells, isCell, place, cellsOf, chunk, elt, List.headD_cons, List.length_cons, List.length_nil, List.take_succ_cons, List.take_zero, List.drop_succ_cons, List.drop_zero, Nat.reduceAdd, Nat.reduceSub, Nat.reduceLeDiff, List.nil_append, List.cons_append, List.append_nil, List.all_cons, List.all_nil, plainC, takeR, setW, over, reCell, Int.reduceToNat, List.getElem?_cons_zero, List.getElem?_cons_succ, List.set_cons_zero, List.take_length, outV, resG, plainV, pack, outVG, outBx, List.set_cons_succ, Ref.idx, Ref.addOff, beq_self_eq_true, Nat.reduceBEq, bxL, Option.bind_some, writeR, isLit, viaBoxes, capsPA, boxPA, nsOf, noDup, boxesAt, argG, passG, passD, rhoIn, rhoOut, idxIn, tr, trL, List.getD_cons_zero, gives, pasOf, isPtr]
          repeat (refine ⟨by (try simp only [List.length_append, List.length_cons, List.length_nil]); omega, ?_⟩)
          exact skip h2 h13 (by rw [getE h2, h10])
        · rw [u8n_t (n := 10) h10 rfl]
          simp only [hw, getE hil, eqs, reduceCtorEq, implies_true, List.map_cons, List.map_nil, kl, klL, roD, roL, Option.map_some, Option.map_none, Option.getD_some, Option.getD_none, binVal, binObl, unVal, Nat.reduceEqDiff, if_true, if_false, reduceIte, eq_self, passA, frnD, resD, content, getH, getR, getW, viaNot, viaSlot, viaBox, viaDeep, viaMem, List.contains_cons, List.contains_nil, grabs, peeks, okCells, isCell, place, cellsOf, chunk, elt, List.headD_cons, List.length_cons, List.length_nil, List.take_succ_cons, List.take_zero, List.drop_succ_cons, List.drop_zero, Nat.reduceAdd, Nat.reduceSub, Nat.reduceLeDiff, List.nil_append, List.cons_append, List.append_nil, List.all_cons, List.all_nil, plainC, takeR, setW, over, reCell, Int.reduceToNat, List.getElem?_cons_zero, List.getElem?_cons_succ, List.set_cons_zero, List.take_length, outV, resG, plainV, pack, outVG, outBx, List.set_cons_succ, Ref.idx, Ref.addOff, beq_self_eq_true, Nat.reduceBEq, bxL, Option.bind_some, writeR, isLit, viaBoxes, capsPA, boxPA, nsOf, noDup, boxesAt, argG, passG, passD, rhoIn, rhoOut, idxIn, tr, trL, List.getD_cons_zero, gives, pasOf, isPtr]
          repeat (refine ⟨by (try simp only [List.length_append, List.length_cons, List.length_nil]); omega, ?_⟩)
          exact keep (by rw [getE h2]; simpa using fun _ => h10)
    · rw [u8n_t (n := 13) h13 rfl]
      simp only [hw, getE hil, eqs, reduceCtorEq, implies_true, List.map_cons, List.map_nil, kl, klL, roD, roL, Option.map_some, Option.map_none, Option.getD_some, Option.getD_none, binVal, binObl, unVal, Nat.reduceEqDiff, if_true, if_false, reduceIte, eq_self, passA, frnD, resD, content, getH, getR, getW, viaNot, viaSlot, viaBox, viaDeep, viaMem, List.contains_cons, List.contains_nil, grabs, peeks, okCells, isCell, place, cellsOf, chunk, elt, List.headD_cons, List.length_cons, List.length_nil, List.take_succ_cons, List.take_zero, List.drop_succ_cons, List.drop_zero, Nat.reduceAdd, Nat.reduceSub, Nat.reduceLeDiff, List.nil_append, List.cons_append, List.append_nil, List.all_cons, List.all_nil, plainC, takeR, setW, over, reCell, Int.reduceToNat, List.getElem?_cons_zero, List.getElem?_cons_succ, List.set_cons_zero, List.take_length, outV, resG, plainV, pack, outVG, outBx, List.set_cons_succ, Ref.idx, Ref.addOff, beq_self_eq_true, Nat.reduceBEq, bxL, Option.bind_some, writeR, isLit, viaBoxes, capsPA, boxPA, nsOf, noDup, boxesAt, argG, passG, passD, rhoIn, rhoOut, idxIn, tr, trL, List.getD_cons_zero, gives, pasOf, isPtr]
      repeat (refine ⟨by (try simp only [List.length_append, List.length_cons, List.length_nil]); omega, ?_⟩)
      exact keep fun h => h13 h.1
theorem rlf_snd (s : Bs) (hs : s.length ≤ 1048576) : Snd Tryd.prog (gl m) 21 [S s] (S (lf s)) := by
  refine snd_of (fn := Tryd.f21) (af := rlf) Tryd.func21 (rlf_comp m) mixed (kn_ok m) (Nat.le_of_ble_eq_true rfl) ?_
  simp only [rlf, eqs, reduceCtorEq, implies_true, List.map_cons, List.map_nil, kl, klL, roD, roL, Option.map_some, Option.map_none, Option.getD_some, Option.getD_none, binVal, binObl, unVal, Nat.reduceEqDiff, if_true, if_false, reduceIte, eq_self, passA, frnD, resD, content, getH, getR, getW, viaNot, viaSlot, viaBox, viaDeep, viaMem, List.contains_cons, List.contains_nil, grabs, peeks, okCells, isCell, place, cellsOf, chunk, elt, List.headD_cons, List.length_cons, List.length_nil, List.take_succ_cons, List.take_zero, List.drop_succ_cons, List.drop_zero, Nat.reduceAdd, Nat.reduceSub, Nat.reduceLeDiff, List.nil_append, List.cons_append, List.append_nil, List.all_cons, List.all_nil, plainC, takeR, setW, over, reCell, Int.reduceToNat, List.getElem?_cons_zero, List.getElem?_cons_succ, List.set_cons_zero, List.take_length, outV, resG, plainV, pack, outVG, outBx, List.set_cons_succ, Ref.idx, Ref.addOff, beq_self_eq_true, Nat.reduceBEq, bxL, Option.bind_some, writeR, isLit, viaBoxes, capsPA, boxPA, nsOf, noDup, boxesAt, argG, passG, passD, rhoIn, rhoOut, idxIn, tr, trL, List.getD_cons_zero, gives, pasOf, isPtr]
  exact rlf_loop s hs _ 0 rfl (by omega) [] (by simp)

theorem rbin_loop (s : Bs) (hs : s.length ≤ 1048576) (n : Nat) : ∀ (i : Nat) (hn : s.length - i = n) (hi : i ≤ s.length) (h8 : i ≤ 8000) (hz : ∀ (j : Nat) b, j < i → s[j]? = some b → b ≠ 0),
    vcL (kn m) [0, 3] [] rbin_l0 (blockK 0 (seqK (kn m) [] [] rbin_k1 (outOk [.tmp 2] (B (binary s))))) (mkS [(0, S s), (3, N i)] []) := by
  induction n with
  | zero =>
    intro i hn hi h8 hz
    have hil : i = s.length := by omega
    subst hil
    apply round
    simp only [rbin_l0_w, rbin_l0', eqs, reduceCtorEq, implies_true, List.map_cons, List.map_nil, kl, klL, roD, roL, Option.map_some, Option.map_none, Option.getD_some, Option.getD_none, binVal, binObl, unVal, Nat.reduceEqDiff, if_true, if_false, reduceIte, eq_self, passA, frnD, resD, content, getH, getR, getW, viaNot, viaSlot, viaBox, viaDeep, viaMem, List.contains_cons, List.contains_nil, grabs, peeks, okCells, isCell, place, cellsOf, chunk, elt, List.headD_cons, List.length_cons, List.length_nil, List.take_succ_cons, List.take_zero, List.drop_succ_cons, List.drop_zero, Nat.reduceAdd, Nat.reduceSub, Nat.reduceLeDiff, List.nil_append, List.cons_append, List.append_nil, List.all_cons, List.all_nil, plainC, takeR, setW, over, reCell, Int.reduceToNat, List.getElem?_cons_zero, List.getElem?_cons_succ, List.set_cons_zero, List.take_length, outV, resG, plainV, pack, outVG, outBx, List.set_cons_succ, Ref.idx, Ref.addOff, beq_self_eq_true, Nat.reduceBEq, bxL, Option.bind_some, writeR, isLit, viaBoxes, capsPA, boxPA, nsOf, noDup, boxesAt, argG, passG, passD, rhoIn, rhoOut, idxIn, tr, trL, List.getD_cons_zero, gives, pasOf, isPtr]
    rw [show decide ((s.length : Int) < s.length) = false by simp]
    simp only [rbin_k1_w, rbin_k1', eqs, reduceCtorEq, implies_true, List.map_cons, List.map_nil, kl, klL, roD, roL, Option.map_some, Option.map_none, Option.getD_some, Option.getD_none, binVal, binObl, unVal, Nat.reduceEqDiff, if_true, if_false, reduceIte, eq_self, passA, frnD, resD, content, getH, getR, getW, viaNot, viaSlot, viaBox, viaDeep, viaMem, List.contains_cons, List.contains_nil, grabs, peeks, okCells, isCell, place, cellsOf, chunk, elt, List.headD_cons, List.length_cons, List.length_nil, List.take_succ_cons, List.take_zero, List.drop_succ_cons, List.drop_zero, Nat.reduceAdd, Nat.reduceSub, Nat.reduceLeDiff, List.nil_append, List.cons_append, List.append_nil, List.all_cons, List.all_nil, plainC, takeR, setW, over, reCell, Int.reduceToNat, List.getElem?_cons_zero, List.getElem?_cons_succ, List.set_cons_zero, List.take_length, outV, resG, plainV, pack, outVG, outBx, List.set_cons_succ, Ref.idx, Ref.addOff, beq_self_eq_true, Nat.reduceBEq, bxL, Option.bind_some, writeR, isLit, viaBoxes, capsPA, boxPA, nsOf, noDup, boxesAt, argG, passG, passD, rhoIn, rhoOut, idxIn, tr, trL, List.getD_cons_zero, gives, pasOf, isPtr]
    rw [binary_f fun j b _ h => hz j b (by have := (List.getElem?_eq_some_iff.1 h).1; omega) h]
  | succ n ih =>
    intro i hn hi h8 hz
    have hil : i < s.length := by omega
    apply round
    simp only [rbin_l0_w, rbin_l0', eqs, reduceCtorEq, implies_true, List.map_cons, List.map_nil, kl, klL, roD, roL, Option.map_some, Option.map_none, Option.getD_some, Option.getD_none, binVal, binObl, unVal, Nat.reduceEqDiff, if_true, if_false, reduceIte, eq_self, passA, frnD, resD, content, getH, getR, getW, viaNot, viaSlot, viaBox, viaDeep, viaMem, List.contains_cons, List.contains_nil, grabs, peeks, okCells, isCell, place, cellsOf, chunk, elt, List.headD_cons, List.length_cons, List.length_nil, List.take_succ_cons, List.take_zero, List.drop_succ_cons, List.drop_zero, Nat.reduceAdd, Nat.reduceSub, Nat.reduceLeDiff, List.nil_append, List.cons_append, List.append_nil, List.all_cons, List.all_nil, plainC, takeR, setW, over, reCell, Int.reduceToNat, List.getElem?_cons_zero, List.getElem?_cons_succ, List.set_cons_zero, List.take_length, outV, resG, plainV, pack, outVG, outBx, List.set_cons_succ, Ref.idx, Ref.addOff, beq_self_eq_true, Nat.reduceBEq, bxL, Option.bind_some, writeR, isLit, viaBoxes, capsPA, boxPA, nsOf, noDup, boxesAt, argG, passG, passD, rhoIn, rhoOut, idxIn, tr, trL, List.getD_cons_zero, gives, pasOf, isPtr]
    rw [show decide ((i : Int) < s.length) = true by simpa using hil]
    simp only [eqs, reduceCtorEq, implies_true, List.map_cons, List.map_nil, kl, klL, roD, roL, Option.map_some, Option.map_none, Option.getD_some, Option.getD_none, binVal, binObl, unVal, Nat.reduceEqDiff, if_true, if_false, reduceIte, eq_self, passA, frnD, resD, content, getH, getR, getW, viaNot, viaSlot, viaBox, viaDeep, viaMem, List.contains_cons, List.contains_nil, grabs, peeks, okCells, isCell, place, cellsOf, chunk, elt, List.headD_cons, List.length_cons, List.length_nil, List.take_succ_cons, List.take_zero, List.drop_succ_cons, List.drop_zero, Nat.reduceAdd, Nat.reduceSub, Nat.reduceLeDiff, List.nil_append, List.cons_append, List.append_nil, List.all_cons, List.all_nil, plainC, takeR, setW, over, reCell, Int.reduceToNat, List.getElem?_cons_zero, List.getElem?_cons_succ, List.set_cons_zero, List.take_length, outV, resG, plainV, pack, outVG, outBx, List.set_cons_succ, Ref.idx, Ref.addOff, beq_self_eq_true, Nat.reduceBEq, bxL, Option.bind_some, writeR, isLit, viaBoxes, capsPA, boxPA, nsOf, noDup, boxesAt, argG, passG, passD, rhoIn, rhoOut, idxIn, tr, trL, List.getD_cons_zero, gives, pasOf, isPtr]
    by_cases h9 : i < 8000
    · rw [show decide ((i : Int) < 8000) = true by simp; omega]
      simp only [getE hil, eqs, reduceCtorEq, implies_true, List.map_cons, List.map_nil, kl, klL, roD, roL, Option.map_some, Option.map_none, Option.getD_some, Option.getD_none, binVal, binObl, unVal, Nat.reduceEqDiff, if_true, if_false, reduceIte, eq_self, passA, frnD, resD, content, getH, getR, getW, viaNot, viaSlot, viaBox, viaDeep, viaMem, List.contains_cons, List.contains_nil, grabs, peeks, okCells, isCell, place, cellsOf, chunk, elt, List.headD_cons, List.length_cons, List.length_nil, List.take_succ_cons, List.take_zero, List.drop_succ_cons, List.drop_zero, Nat.reduceAdd, Nat.reduceSub, Nat.reduceLeDiff, List.nil_append, List.cons_append, List.append_nil, List.all_cons, List.all_nil, plainC, takeR, setW, over, reCell, Int.reduceToNat, List.getElem?_cons_zero, List.getElem?_cons_succ, List.set_cons_zero, List.take_length, outV, resG, plainV, pack, outVG, outBx, List.set_cons_succ, Ref.idx, Ref.addOff, beq_self_eq_true, Nat.reduceBEq, bxL, Option.bind_some, writeR, isLit, viaBoxes, capsPA, boxPA, nsOf, noDup, boxesAt, argG, passG, passD, rhoIn, rhoOut, idxIn, tr, trL, List.getD_cons_zero, gives, pasOf, isPtr]
      refine ⟨by omega, ?_⟩
      by_cases h0 : s[i] = 0
      · rw [u8b_t (n := 0) h0 rfl]
        simp only [eqs, reduceCtorEq, implies_true, List.map_cons, List.map_nil, kl, klL, roD, roL, Option.map_some, Option.map_none, Option.getD_some, Option.getD_none, binVal, binObl, unVal, Nat.reduceEqDiff, if_true, if_false, reduceIte, eq_self, passA, frnD, resD, content, getH, getR, getW, viaNot, viaSlot, viaBox, viaDeep, viaMem, List.contains_cons, List.contains_nil, grabs, peeks, okCells, isCell, place, cellsOf, chunk, elt, List.headD_cons, List.length_cons, List.length_nil, List.take_succ_cons, List.take_zero, List.drop_succ_cons, List.drop_zero, Nat.reduceAdd, Nat.reduceSub, Nat.reduceLeDiff, List.nil_append, List.cons_append, List.append_nil, List.all_cons, List.all_nil, plainC, takeR, setW, over, reCell, Int.reduceToNat, List.getElem?_cons_zero, List.getElem?_cons_succ, List.set_cons_zero, List.take_length, outV, resG, plainV, pack, outVG, outBx, List.set_cons_succ, Ref.idx, Ref.addOff, beq_self_eq_true, Nat.reduceBEq, bxL, Option.bind_some, writeR, isLit, viaBoxes, capsPA, boxPA, nsOf, noDup, boxesAt, argG, passG, passD, rhoIn, rhoOut, idxIn, tr, trL, List.getD_cons_zero, gives, pasOf, isPtr]
        rw [binary_t hil h9 h0]
      · rw [u8b_f (n := 0) h0 rfl]
        simp only [eqs, reduceCtorEq, implies_true, List.map_cons, List.map_nil, kl, klL, roD, roL, Option.map_some, Option.map_none, Option.getD_some, Option.getD_none, binVal, binObl, unVal, Nat.reduceEqDiff, if_true, if_false, reduceIte, eq_self, passA, frnD, resD, content, getH, getR, getW, viaNot, viaSlot, viaBox, viaDeep, viaMem, List.contains_cons, List.contains_nil, grabs, peeks, okCells, isCell, place, cellsOf, chunk, elt, List.headD_cons, List.length_cons, List.length_nil, List.take_succ_cons, List.take_zero, List.drop_succ_cons, List.drop_zero, Nat.reduceAdd, Nat.reduceSub, Nat.reduceLeDiff, List.nil_append, List.cons_append, List.append_nil, List.all_cons, List.all_nil, plainC, takeR, setW, over, reCell, Int.reduceToNat, List.getElem?_cons_zero, List.getElem?_cons_succ, List.set_cons_zero, List.take_length, outV, resG, plainV, pack, outVG, outBx, List.set_cons_succ, Ref.idx, Ref.addOff, beq_self_eq_true, Nat.reduceBEq, bxL, Option.bind_some, writeR, isLit, viaBoxes, capsPA, boxPA, nsOf, noDup, boxesAt, argG, passG, passD, rhoIn, rhoOut, idxIn, tr, trL, List.getD_cons_zero, gives, pasOf, isPtr]
        rw [wrapN (i + 1) (by omega) (by omega)]
        refine ih (i + 1) (by omega) (by omega) (by omega) fun j b hj hb => ?_
        by_cases e : j = i
        · subst e; rw [getE hil] at hb; injection hb with hb; subst hb; exact h0
        · exact hz j b (by omega) hb
    · rw [show decide ((i : Int) < 8000) = false by simp; omega]
      simp only [rbin_k1_w, rbin_k1', eqs, reduceCtorEq, implies_true, List.map_cons, List.map_nil, kl, klL, roD, roL, Option.map_some, Option.map_none, Option.getD_some, Option.getD_none, binVal, binObl, unVal, Nat.reduceEqDiff, if_true, if_false, reduceIte, eq_self, passA, frnD, resD, content, getH, getR, getW, viaNot, viaSlot, viaBox, viaDeep, viaMem, List.contains_cons, List.contains_nil, grabs, peeks, okCells, isCell, place, cellsOf, chunk, elt, List.headD_cons, List.length_cons, List.length_nil, List.take_succ_cons, List.take_zero, List.drop_succ_cons, List.drop_zero, Nat.reduceAdd, Nat.reduceSub, Nat.reduceLeDiff, List.nil_append, List.cons_append, List.append_nil, List.all_cons, List.all_nil, plainC, takeR, setW, over, reCell, Int.reduceToNat, List.getElem?_cons_zero, List.getElem?_cons_succ, List.set_cons_zero, List.take_length, outV, resG, plainV, pack, outVG, outBx, List.set_cons_succ, Ref.idx, Ref.addOff, beq_self_eq_true, Nat.reduceBEq, bxL, Option.bind_some, writeR, isLit, viaBoxes, capsPA, boxPA, nsOf, noDup, boxesAt, argG, passG, passD, rhoIn, rhoOut, idxIn, tr, trL, List.getD_cons_zero, gives, pasOf, isPtr]
      rw [binary_f fun j b h h' => hz j b (by omega) h']
theorem rbin_snd (s : Bs) (hs : s.length ≤ 1048576) : Snd Tryd.prog (gl m) 24 [S s] (B (binary s)) := by
  refine snd_of (fn := Tryd.f24) (af := rbin) Tryd.func24 (rbin_comp m) mixed (kn_ok m) (Nat.le_of_ble_eq_true rfl) ?_
  simp only [rbin, eqs, reduceCtorEq, implies_true, List.map_cons, List.map_nil, kl, klL, roD, roL, Option.map_some, Option.map_none, Option.getD_some, Option.getD_none, binVal, binObl, unVal, Nat.reduceEqDiff, if_true, if_false, reduceIte, eq_self, passA, frnD, resD, content, getH, getR, getW, viaNot, viaSlot, viaBox, viaDeep, viaMem, List.contains_cons, List.contains_nil, grabs, peeks, okCells, isCell, place, cellsOf, chunk, elt, List.headD_cons, List.length_cons, List.length_nil, List.take_succ_cons, List.take_zero, List.drop_succ_cons, List.drop_zero, Nat.reduceAdd, Nat.reduceSub, Nat.reduceLeDiff, List.nil_append, List.cons_append, List.append_nil, List.all_cons, List.all_nil, plainC, takeR, setW, over, reCell, Int.reduceToNat, List.getElem?_cons_zero, List.getElem?_cons_succ, List.set_cons_zero, List.take_length, outV, resG, plainV, pack, outVG, outBx, List.set_cons_succ, Ref.idx, Ref.addOff, beq_self_eq_true, Nat.reduceBEq, bxL, Option.bind_some, writeR, isLit, viaBoxes, capsPA, boxPA, nsOf, noDup, boxesAt, argG, passG, passD, rhoIn, rhoOut, idxIn, tr, trL, List.getD_cons_zero, gives, pasOf, isPtr]
  exact rbin_loop s hs _ 0 rfl (by omega) (by omega) fun j b h => by omega
theorem pbin_snd (s : Bs) (hs : s.length ≤ 1048576) : Snd Tryd.prog (gl m) 23 [S s] (B (binary s)) := by
  refine snd_of (fn := Tryd.f23) (af := pbin) Tryd.func23 (pbin_comp m) mixed (kn_ok m) (Nat.le_of_ble_eq_true rfl) ?_
  simp only [pbin, eqs, reduceCtorEq, implies_true, List.map_cons, List.map_nil, kl, klL, roD, roL, Option.map_some, Option.map_none, Option.getD_some, Option.getD_none, binVal, binObl, unVal, Nat.reduceEqDiff, if_true, if_false, reduceIte, eq_self, passA, frnD, resD, content, getH, getR, getW, viaNot, viaSlot, viaBox, viaDeep, viaMem, List.contains_cons, List.contains_nil, grabs, peeks, okCells, isCell, place, cellsOf, chunk, elt, List.headD_cons, List.length_cons, List.length_nil, List.take_succ_cons, List.take_zero, List.drop_succ_cons, List.drop_zero, Nat.reduceAdd, Nat.reduceSub, Nat.reduceLeDiff, List.nil_append, List.cons_append, List.append_nil, List.all_cons, List.all_nil, plainC, takeR, setW, over, reCell, Int.reduceToNat, List.getElem?_cons_zero, List.getElem?_cons_succ, List.set_cons_zero, List.take_length, outV, resG, plainV, pack, outVG, outBx, List.set_cons_succ, Ref.idx, Ref.addOff, beq_self_eq_true, Nat.reduceBEq, bxL, Option.bind_some, writeR, isLit, viaBoxes, capsPA, boxPA, nsOf, noDup, boxesAt, argG, passG, passD, rhoIn, rhoOut, idxIn, tr, trL, List.getD_cons_zero, gives, pasOf, isPtr]
  have e : min (s.length : Int) 8000 = ((min s.length 8000 : Nat) : Int) := by omega
  rw [e]
  simp only [eqs, reduceCtorEq, implies_true, List.map_cons, List.map_nil, kl, klL, roD, roL, Option.map_some, Option.map_none, Option.getD_some, Option.getD_none, binVal, binObl, unVal, Nat.reduceEqDiff, if_true, if_false, reduceIte, eq_self, passA, frnD, resD, content, getH, getR, getW, viaNot, viaSlot, viaBox, viaDeep, viaMem, List.contains_cons, List.contains_nil, grabs, peeks, okCells, isCell, place, cellsOf, chunk, elt, List.headD_cons, List.length_cons, List.length_nil, List.take_succ_cons, List.take_zero, List.drop_succ_cons, List.drop_zero, Nat.reduceAdd, Nat.reduceSub, Nat.reduceLeDiff, List.nil_append, List.cons_append, List.append_nil, List.all_cons, List.all_nil, plainC, takeR, setW, over, reCell, Int.reduceToNat, List.getElem?_cons_zero, List.getElem?_cons_succ, List.set_cons_zero, List.take_length, outV, resG, plainV, pack, outVG, outBx, List.set_cons_succ, Ref.idx, Ref.addOff, beq_self_eq_true, Nat.reduceBEq, bxL, Option.bind_some, writeR, isLit, viaBoxes, capsPA, boxPA, nsOf, noDup, boxesAt, argG, passG, passD, rhoIn, rhoOut, idxIn, tr, trL, List.getD_cons_zero, gives, pasOf, isPtr]
  repeat (refine ⟨by (try simp only [List.length_append, List.length_cons, List.length_nil]); omega, ?_⟩)
  refine of_call (indexByte (s.take (min s.length 8000)) 0) ?_
  simp only [eqs, reduceCtorEq, implies_true, List.map_cons, List.map_nil, kl, klL, roD, roL, Option.map_some, Option.map_none, Option.getD_some, Option.getD_none, binVal, binObl, unVal, Nat.reduceEqDiff, if_true, if_false, reduceIte, eq_self, passA, frnD, resD, content, getH, getR, getW, viaNot, viaSlot, viaBox, viaDeep, viaMem, List.contains_cons, List.contains_nil, grabs, peeks, okCells, isCell, place, cellsOf, chunk, elt, List.headD_cons, List.length_cons, List.length_nil, List.take_succ_cons, List.take_zero, List.drop_succ_cons, List.drop_zero, Nat.reduceAdd, Nat.reduceSub, Nat.reduceLeDiff, List.nil_append, List.cons_append, List.append_nil, List.all_cons, List.all_nil, plainC, takeR, setW, over, reCell, Int.reduceToNat, List.getElem?_cons_zero, List.getElem?_cons_succ, List.set_cons_zero, List.take_length, outV, resG, plainV, pack, outVG, outBx, List.set_cons_succ, Ref.idx, Ref.addOff, beq_self_eq_true, Nat.reduceBEq, bxL, Option.bind_some, writeR, isLit, viaBoxes, capsPA, boxPA, nsOf, noDup, boxesAt, argG, passG, passD, rhoIn, rhoOut, idxIn, tr, trL, List.getD_cons_zero, gives, pasOf, isPtr]
  have e2 : s.take (min s.length 8000) = s.take 8000 := by
    by_cases h : s.length ≤ 8000
    · rw [Nat.min_eq_left h, List.take_length, List.take_of_length_le h]
    · rw [Nat.min_eq_right (by omega)]
  rw [e2, idx_eq, binary]
  cases idx (s.take 8000) 0 with
  | none => simp
  | some k => simp

theorem rbare_loop (s : Bs) (hs : s.length ≤ 1048576) (n : Nat) : ∀ (hn : n ≤ s.length),
    vcL (kn m) [0, 3] [] rbare_l0 (blockK 0 (seqK (kn m) [0, 3] [] rbare_k1 (outOk [.tmp 2] (S (chop (s.take n)))))) (mkS [(0, S s), (3, N n)] []) := by
  induction n with
  | zero =>
    intro hn
    apply round
    simp only [rbare_l0_w, rbare_l0', eqs, reduceCtorEq, implies_true, List.map_cons, List.map_nil, kl, klL, roD, roL, Option.map_some, Option.map_none, Option.getD_some, Option.getD_none, binVal, binObl, unVal, Nat.reduceEqDiff, if_true, if_false, reduceIte, eq_self, passA, frnD, resD, content, getH, getR, getW, viaNot, viaSlot, viaBox, viaDeep, viaMem, List.contains_cons, List.contains_nil, grabs, peeks, okCells, isCell, place, cellsOf, chunk, elt, List.headD_cons, List.length_cons, List.length_nil, List.take_succ_cons, List.take_zero, List.drop_succ_cons, List.drop_zero, Nat.reduceAdd, Nat.reduceSub, Nat.reduceLeDiff, List.nil_append, List.cons_append, List.append_nil, List.all_cons, List.all_nil, plainC, takeR, setW, over, reCell, Int.reduceToNat, List.getElem?_cons_zero, List.getElem?_cons_succ, List.set_cons_zero, List.take_length, outV, resG, plainV, pack, outVG, outBx, List.set_cons_succ, Ref.idx, Ref.addOff, beq_self_eq_true, Nat.reduceBEq, bxL, Option.bind_some, writeR, isLit, viaBoxes, capsPA, boxPA, nsOf, noDup, boxesAt, argG, passG, passD, rhoIn, rhoOut, idxIn, tr, trL, List.getD_cons_zero, gives, pasOf, isPtr]
    rw [show decide (((0 : Nat) : Int) > 0) = false by simp]
    simp only [rbare_k1_w, rbare_k1', eqs, reduceCtorEq, implies_true, List.map_cons, List.map_nil, kl, klL, roD, roL, Option.map_some, Option.map_none, Option.getD_some, Option.getD_none, binVal, binObl, unVal, Nat.reduceEqDiff, if_true, if_false, reduceIte, eq_self, passA, frnD, resD, content, getH, getR, getW, viaNot, viaSlot, viaBox, viaDeep, viaMem, List.contains_cons, List.contains_nil, grabs, peeks, okCells, isCell, place, cellsOf, chunk, elt, List.headD_cons, List.length_cons, List.length_nil, List.take_succ_cons, List.take_zero, List.drop_succ_cons, List.drop_zero, Nat.reduceAdd, Nat.reduceSub, Nat.reduceLeDiff, List.nil_append, List.cons_append, List.append_nil, List.all_cons, List.all_nil, plainC, takeR, setW, over, reCell, Int.reduceToNat, List.getElem?_cons_zero, List.getElem?_cons_succ, List.set_cons_zero, List.take_length, outV, resG, plainV, pack, outVG, outBx, List.set_cons_succ, Ref.idx, Ref.addOff, beq_self_eq_true, Nat.reduceBEq, bxL, Option.bind_some, writeR, isLit, viaBoxes, capsPA, boxPA, nsOf, noDup, boxesAt, argG, passG, passD, rhoIn, rhoOut, idxIn, tr, trL, List.getD_cons_zero, gives, pasOf, isPtr]
    repeat (refine ⟨by (try simp only [List.length_append, List.length_cons, List.length_nil]); omega, ?_⟩)
    simp [chop_nil]
  | succ n ih =>
    intro hn
    have hil : n < s.length := by omega
    have hw : IntKind.i64.wrap (((n + 1 : Nat) : Int) - 1) = ((n : Nat) : Int) := wrapN n (by omega) (by omega)
    apply round
    simp only [rbare_l0_w, rbare_l0', eqs, reduceCtorEq, implies_true, List.map_cons, List.map_nil, kl, klL, roD, roL, Option.map_some, Option.map_none, Option.getD_some, Option.getD_none, binVal, binObl, unVal, Nat.reduceEqDiff, if_true, if_false, reduceIte, eq_self, passA, frnD, resD, content, getH, getR, getW, viaNot, viaSlot, viaBox, viaDeep, viaMem, List.contains_cons, List.contains_nil, grabs, peeks, okCells, isCell, place, cellsOf, chunk, elt, List.headD_cons, List.length_cons, List.length_nil, List.take_succ_cons, List.take_zero, List.drop_succ_cons, List.drop_zero, Nat.reduceAdd, Nat.reduceSub, Nat.reduceLeDiff, List.nil_append, List.cons_append, List.append_nil, List.all_cons, List.all_nil, plainC, takeR, setW, over, reCell, Int.reduceToNat, List.getElem?_cons_zero, List.getElem?_cons_succ, List.set_cons_zero, List.take_length, outV, resG, plainV, pack, outVG, outBx, List.set_cons_succ, Ref.idx, Ref.addOff, beq_self_eq_true, Nat.reduceBEq, bxL, Option.bind_some, writeR, isLit, viaBoxes, capsPA, boxPA, nsOf, noDup, boxesAt, argG, passG, passD, rhoIn, rhoOut, idxIn, tr, trL, List.getD_cons_zero, gives, pasOf, isPtr]
    rw [show decide (((n + 1 : Nat) : Int) > 0) = true by simp]
    simp only [hw, getE hil, eqs, reduceCtorEq, implies_true, List.map_cons, List.map_nil, kl, klL, roD, roL, Option.map_some, Option.map_none, Option.getD_some, Option.getD_none, binVal, binObl, unVal, Nat.reduceEqDiff, if_true, if_false, reduceIte, eq_self, passA, frnD, resD, content, getH, getR, getW, viaNot, viaSlot, viaBox, viaDeep, viaMem, List.contains_cons, List.contains_nil, grabs, peeks, okCells, isCell, place, cellsOf, chunk, elt, List.headD_cons, List.length_cons, List.length_nil, List.take_succ_cons, List.take_zero, List.drop_succ_cons, List.drop_zero, Nat.reduceAdd, Nat.reduceSub, Nat.reduceLeDiff, List.nil_append, List.cons_append, List.append_nil, List.all_cons, List.all_nil, plainC, takeR, setW, over, reCell, Int.reduceToNat, List.getElem?_cons_zero, List.getElem?_cons_succ, List.set_cons_zero, List.take_length, outV, resG, plainV, pack, outVG, outBx, List.set_cons_succ, Ref.idx, Ref.addOff, beq_self_eq_true, Nat.reduceBEq, bxL, Option.bind_some, writeR, isLit, viaBoxes, capsPA, boxPA, nsOf, noDup, boxesAt, argG, passG, passD, rhoIn, rhoOut, idxIn, tr, trL, List.getD_cons_zero, gives, pasOf, isPtr]
    refine ⟨by omega, ?_⟩
    have go : blank s[n] = true → _ := fun h => by
      have := ih (by omega)
      rw [← chop_take hil h] at this
      exact this
    by_cases h1 : s[n] = 32
    · rw [u8b_t (n := 32) h1 rfl]
      simp only [hw, eqs, reduceCtorEq, implies_true, List.map_cons, List.map_nil, kl, klL, roD, roL, Option.map_some, Option.map_none, Option.getD_some, Option.getD_none, binVal, binObl, unVal, Nat.reduceEqDiff, if_true, if_false, reduceIte, eq_self, passA, frnD, resD, content, getH, getR, getW, viaNot, viaSlot, viaBox, viaDeep, viaMem, List.contains_cons, List.contains_nil, grabs, peeks, okCells, isCell, place, cellsOf, chunk, elt, List.headD_cons, List.length_cons, List.length_nil, List.take_succ_cons, List.take_zero, List.drop_succ_cons, List.drop_zero, Nat.reduceAdd, Nat.reduceSub, Nat.reduceLeDiff, List.nil_append, List.cons_append, List.append_nil, List.all_cons, List.all_nil, plainC, takeR, setW, over, reCell, Int.reduceToNat, List.getElem?_cons_zero, List.getElem?_cons_succ, List.set_cons_zero, List.take_length, outV, resG, plainV, pack, outVG, outBx, List.set_cons_succ, Ref.idx, Ref.addOff, beq_self_eq_true, Nat.reduceBEq, bxL, Option.bind_some, writeR, isLit, viaBoxes, capsPA, boxPA, nsOf, noDup, boxesAt, argG, passG, passD, rhoIn, rhoOut, idxIn, tr, trL, List.getD_cons_zero, gives, pasOf, isPtr]
      exact go (by simp [blank, h1])
    · rw [u8b_f (n := 32) h1 rfl]
      simp only [hw, getE hil, eqs, reduceCtorEq, implies_true, List.map_cons, List.map_nil, kl, klL, roD, roL, Option.map_some, Option.map_none, Option.getD_some, Option.getD_none, binVal, binObl, unVal, Nat.reduceEqDiff, if_true, if_false, reduceIte, eq_self, passA, frnD, resD, content, getH, getR, getW, viaNot, viaSlot, viaBox, viaDeep, viaMem, List.contains_cons, List.contains_nil, grabs, peeks, okCells, isCell, place, cellsOf, chunk, elt, List.headD_cons, List.length_cons, List.length_nil, List.take_succ_cons, List.take_zero, List.drop_succ_cons, List.drop_zero, Nat.reduceAdd, Nat.reduceSub, Nat.reduceLeDiff, List.nil_append, List.cons_append, List.append_nil, List.all_cons, List.all_nil, plainC, takeR, setW, over, reCell, Int.reduceToNat, List.getElem?_cons_zero, List.getElem?_cons_succ, List.set_cons_zero, List.take_length, outV, resG, plainV, pack, outVG, outBx, List.set_cons_succ, Ref.idx, Ref.addOff, beq_self_eq_true, Nat.reduceBEq, bxL, Option.bind_some, writeR, isLit, viaBoxes, capsPA, boxPA, nsOf, noDup, boxesAt, argG, passG, passD, rhoIn, rhoOut, idxIn, tr, trL, List.getD_cons_zero, gives, pasOf, isPtr]
      refine ⟨by omega, ?_⟩
      by_cases h2 : s[n] = 9
      · rw [u8b_t (n := 9) h2 rfl]
        simp only [hw, eqs, reduceCtorEq, implies_true, List.map_cons, List.map_nil, kl, klL, roD, roL, Option.map_some, Option.map_none, Option.getD_some, Option.getD_none, binVal, binObl, unVal, Nat.reduceEqDiff, if_true, if_false, reduceIte, eq_self, passA, frnD, resD, content, getH, getR, getW, viaNot, viaSlot, viaBox, viaDeep, viaMem, List.contains_cons, List.contains_nil, grabs, peeks, okCells, isCell, place, cellsOf, chunk, elt, List.headD_cons, List.length_cons, List.length_nil, List.take_succ_cons, List.take_zero, List.drop_succ_cons, List.drop_zero, Nat.reduceAdd, Nat.reduceSub, Nat.reduceLeDiff, List.nil_append, List.cons_append, List.append_nil, List.all_cons, List.all_nil, plainC, takeR, setW, over, reCell, Int.reduceToNat, List.getElem?_cons_zero, List.getElem?_cons_succ, List.set_cons_zero, List.take_length, outV, resG, plainV, pack, outVG, outBx, List.set_cons_succ, Ref.idx, Ref.addOff, beq_self_eq_true, Nat.reduceBEq, bxL, Option.bind_some, writeR, isLit, viaBoxes, capsPA, boxPA, nsOf, noDup, boxesAt, argG, passG, passD, rhoIn, rhoOut, idxIn, tr, trL, List.getD_cons_zero, gives, pasOf, isPtr]
        exact go (by simp [blank, h2])
      · rw [u8b_f (n := 9) h2 rfl]
        simp only [hw, getE hil, eqs, reduceCtorEq, implies_true, List.map_cons, List.map_nil, kl, klL, roD, roL, Option.map_some, Option.map_none, Option.getD_some, Option.getD_none, binVal, binObl, unVal, Nat.reduceEqDiff, if_true, if_false, reduceIte, eq_self, passA, frnD, resD, content, getH, getR, getW, viaNot, viaSlot, viaBox, viaDeep, viaMem, List.contains_cons, List.contains_nil, grabs, peeks, okCells, isCell, place, cellsOf, chunk, elt, List.headD_cons, List.length_cons, List.length_nil, List.take_succ_cons, List.take_zero, List.drop_succ_cons, List.drop_zero, Nat.reduceAdd, Nat.reduceSub, Nat.reduceLeDiff, List.nil_append, List.cons_append, List.append_nil, List.all_cons, List.all_nil, plainC, takeR, setW, over, reCell, Int.reduceToNat, List.getElem?_cons_zero, List.getElem?_cons_succ, List.set_cons_zero, List.take_length, outV, resG, plainV, pack, outVG, outBx, List.set_cons_succ, Ref.idx, Ref.addOff, beq_self_eq_true, Nat.reduceBEq, bxL, Option.bind_some, writeR, isLit, viaBoxes, capsPA, boxPA, nsOf, noDup, boxesAt, argG, passG, passD, rhoIn, rhoOut, idxIn, tr, trL, List.getD_cons_zero, gives, pasOf, isPtr]
        refine ⟨by omega, ?_⟩
        by_cases h3 : s[n] = 13
        · rw [u8b_t (n := 13) h3 rfl]
          simp only [hw, eqs, reduceCtorEq, implies_true, List.map_cons, List.map_nil, kl, klL, roD, roL, Option.map_some, Option.map_none, Option.getD_some, Option.getD_none, binVal, binObl, unVal, Nat.reduceEqDiff, if_true, if_false, reduceIte, eq_self, passA, frnD, resD, content, getH, getR, getW, viaNot, viaSlot, viaBox, viaDeep, viaMem, List.contains_cons, List.contains_nil, grabs, peeks, okCells, isCell, place, cellsOf, chunk, elt, List.headD_cons, List.length_cons, List.length_nil, List.take_succ_cons, List.take_zero, List.drop_succ_cons, List.drop_zero, Nat.reduceAdd, Nat.reduceSub, Nat.reduceLeDiff, List.nil_append, List.cons_append, List.append_nil, List.all_cons, List.all_nil, plainC, takeR, setW, over, reCell, Int.reduceToNat, List.getElem?_cons_zero, List.getElem?_cons_succ, List.set_cons_zero, List.take_length, outV, resG, plainV, pack, outVG, outBx, List.set_cons_succ, Ref.idx, Ref.addOff, beq_self_eq_true, Nat.reduceBEq, bxL, Option.bind_some, writeR, isLit, viaBoxes, capsPA, boxPA, nsOf, noDup, boxesAt, argG, passG, passD, rhoIn, rhoOut, idxIn, tr, trL, List.getD_cons_zero, gives, pasOf, isPtr]
          exact go (by simp [blank, h3])
        · rw [u8b_f (n := 13) h3 rfl]
          simp only [rbare_k1_w, rbare_k1', eqs, reduceCtorEq, implies_true, List.map_cons, List.map_nil, kl, klL, roD, roL, Option.map_some, Option.map_none, Option.getD_some, Option.getD_none, binVal, binObl, unVal, Nat.reduceEqDiff, if_true, if_false, reduceIte, eq_self, passA, frnD, resD, content, getH, getR, getW, viaNot, viaSlot, viaBox, viaDeep, viaMem, List.contains_cons, List.contains_nil, grabs, peeks, okCells, isCell, place, cellsOf, chunk, elt, List.headD_cons, List.length_cons, List.length_nil, List.take_succ_cons, List.take_zero, List.drop_succ_cons, List.drop_zero, Nat.reduceAdd, Nat.reduceSub, Nat.reduceLeDiff, List.nil_append, List.cons_append, List.append_nil, List.all_cons, List.all_nil, plainC, takeR, setW, over, reCell, Int.reduceToNat, List.getElem?_cons_zero, List.getElem?_cons_succ, List.set_cons_zero, List.take_length, outV, resG, plainV, pack, outVG, outBx, List.set_cons_succ, Ref.idx, Ref.addOff, beq_self_eq_true, Nat.reduceBEq, bxL, Option.bind_some, writeR, isLit, viaBoxes, capsPA, boxPA, nsOf, noDup, boxesAt, argG, passG, passD, rhoIn, rhoOut, idxIn, tr, trL, List.getD_cons_zero, gives, pasOf, isPtr]
          repeat (refine ⟨by (try simp only [List.length_append, List.length_cons, List.length_nil]); omega, ?_⟩)
          rw [chop_stop hil (by simp [blank, h1, h2, h3])]
theorem rbare_snd (s : Bs) (hs : s.length ≤ 1048576) : Snd Tryd.prog (gl m) 55 [S s] (S (bare s)) := by
  refine snd_of (fn := Tryd.f55) (af := rbare) Tryd.func55 (rbare_comp m) mixed (kn_ok m) (Nat.le_of_ble_eq_true rfl) ?_
  simp only [rbare, eqs, reduceCtorEq, implies_true, List.map_cons, List.map_nil, kl, klL, roD, roL, Option.map_some, Option.map_none, Option.getD_some, Option.getD_none, binVal, binObl, unVal, Nat.reduceEqDiff, if_true, if_false, reduceIte, eq_self, passA, frnD, resD, content, getH, getR, getW, viaNot, viaSlot, viaBox, viaDeep, viaMem, List.contains_cons, List.contains_nil, grabs, peeks, okCells, isCell, place, cellsOf, chunk, elt, List.headD_cons, List.length_cons, List.length_nil, List.take_succ_cons, List.take_zero, List.drop_succ_cons, List.drop_zero, Nat.reduceAdd, Nat.reduceSub, Nat.reduceLeDiff, List.nil_append, List.cons_append, List.append_nil, List.all_cons, List.all_nil, plainC, takeR, setW, over, reCell, Int.reduceToNat, List.getElem?_cons_zero, List.getElem?_cons_succ, List.set_cons_zero, List.take_length, outV, resG, plainV, pack, outVG, outBx, List.set_cons_succ, Ref.idx, Ref.addOff, beq_self_eq_true, Nat.reduceBEq, bxL, Option.bind_some, writeR, isLit, viaBoxes, capsPA, boxPA, nsOf, noDup, boxesAt, argG, passG, passD, rhoIn, rhoOut, idxIn, tr, trL, List.getD_cons_zero, gives, pasOf, isPtr]
  by_cases h0 : s.length = 0
  · have : s = [] := List.length_eq_zero_iff.1 h0
    subst this
    rw [show decide ((([] : Bs).length : Int) > 0) = false by simp]
    simp only [eqs, reduceCtorEq, implies_true, List.map_cons, List.map_nil, kl, klL, roD, roL, Option.map_some, Option.map_none, Option.getD_some, Option.getD_none, binVal, binObl, unVal, Nat.reduceEqDiff, if_true, if_false, reduceIte, eq_self, passA, frnD, resD, content, getH, getR, getW, viaNot, viaSlot, viaBox, viaDeep, viaMem, List.contains_cons, List.contains_nil, grabs, peeks, okCells, isCell, place, cellsOf, chunk, elt, List.headD_cons, List.length_cons, List.length_nil, List.take_succ_cons, List.take_zero, List.drop_succ_cons, List.drop_zero, Nat.reduceAdd, Nat.reduceSub, Nat.reduceLeDiff, List.nil_append, List.cons_append, List.append_nil, List.all_cons, List.all_nil, plainC, takeR, setW, over, reCell, Int.reduceToNat, List.getElem?_cons_zero, List.getElem?_cons_succ, List.set_cons_zero, List.take_length, outV, resG, plainV, pack, outVG, outBx, List.set_cons_succ, Ref.idx, Ref.addOff, beq_self_eq_true, Nat.reduceBEq, bxL, Option.bind_some, writeR, isLit, viaBoxes, capsPA, boxPA, nsOf, noDup, boxesAt, argG, passG, passD, rhoIn, rhoOut, idxIn, tr, trL, List.getD_cons_zero, gives, pasOf, isPtr]
    exact rbare_loop [] hs 0 (by omega)
  · have h1 : s.length - 1 < s.length := by omega
    rw [show decide ((s.length : Int) > 0) = true by simp; omega]
    simp only [eqs, reduceCtorEq, implies_true, List.map_cons, List.map_nil, kl, klL, roD, roL, Option.map_some, Option.map_none, Option.getD_some, Option.getD_none, binVal, binObl, unVal, Nat.reduceEqDiff, if_true, if_false, reduceIte, eq_self, passA, frnD, resD, content, getH, getR, getW, viaNot, viaSlot, viaBox, viaDeep, viaMem, List.contains_cons, List.contains_nil, grabs, peeks, okCells, isCell, place, cellsOf, chunk, elt, List.headD_cons, List.length_cons, List.length_nil, List.take_succ_cons, List.take_zero, List.drop_succ_cons, List.drop_zero, Nat.reduceAdd, Nat.reduceSub, Nat.reduceLeDiff, List.nil_append, List.cons_append, List.append_nil, List.all_cons, List.all_nil, plainC, takeR, setW, over, reCell, Int.reduceToNat, List.getElem?_cons_zero, List.getElem?_cons_succ, List.set_cons_zero, List.take_length, outV, resG, plainV, pack, outVG, outBx, List.set_cons_succ, Ref.idx, Ref.addOff, beq_self_eq_true, Nat.reduceBEq, bxL, Option.bind_some, writeR, isLit, viaBoxes, capsPA, boxPA, nsOf, noDup, boxesAt, argG, passG, passD, rhoIn, rhoOut, idxIn, tr, trL, List.getD_cons_zero, gives, pasOf, isPtr]
    rw [wrapN (s.length - 1) (by omega) (by omega)]
    simp only [getE h1, eqs, reduceCtorEq, implies_true, List.map_cons, List.map_nil, kl, klL, roD, roL, Option.map_some, Option.map_none, Option.getD_some, Option.getD_none, binVal, binObl, unVal, Nat.reduceEqDiff, if_true, if_false, reduceIte, eq_self, passA, frnD, resD, content, getH, getR, getW, viaNot, viaSlot, viaBox, viaDeep, viaMem, List.contains_cons, List.contains_nil, grabs, peeks, okCells, isCell, place, cellsOf, chunk, elt, List.headD_cons, List.length_cons, List.length_nil, List.take_succ_cons, List.take_zero, List.drop_succ_cons, List.drop_zero, Nat.reduceAdd, Nat.reduceSub, Nat.reduceLeDiff, List.nil_append, List.cons_append, List.append_nil, List.all_cons, List.all_nil, plainC, takeR, setW, over, reCell, Int.reduceToNat, List.getElem?_cons_zero, List.getElem?_cons_succ, List.set_cons_zero, List.take_length, outV, resG, plainV, pack, outVG, outBx, List.set_cons_succ, Ref.idx, Ref.addOff, beq_self_eq_true, Nat.reduceBEq, bxL, Option.bind_some, writeR, isLit, viaBoxes, capsPA, boxPA, nsOf, noDup, boxesAt, argG, passG, passD, rhoIn, rhoOut, idxIn, tr, trL, List.getD_cons_zero, gives, pasOf, isPtr]
    refine ⟨by omega, ?_⟩
    by_cases h2 : s[s.length - 1] = 10
    · rw [u8b_t (n := 10) h2 rfl]
      simp only [eqs, reduceCtorEq, implies_true, List.map_cons, List.map_nil, kl, klL, roD, roL, Option.map_some, Option.map_none, Option.getD_some, Option.getD_none, binVal, binObl, unVal, Nat.reduceEqDiff, if_true, if_false, reduceIte, eq_self, passA, frnD, resD, content, getH, getR, getW, viaNot, viaSlot, viaBox, viaDeep, viaMem, List.contains_cons, List.contains_nil, grabs, peeks, okCells, isCell, place, cellsOf, chunk, elt, List.headD_cons, List.length_cons, List.length_nil, List.take_succ_cons, List.take_zero, List.drop_succ_cons, List.drop_zero, Nat.reduceAdd, Nat.reduceSub, Nat.reduceLeDiff, List.nil_append, List.cons_append, List.append_nil, List.all_cons, List.all_nil, plainC, takeR, setW, over, reCell, Int.reduceToNat, List.getElem?_cons_zero, List.getElem?_cons_succ, List.set_cons_zero, List.take_length, outV, resG, plainV, pack, outVG, outBx, List.set_cons_succ, Ref.idx, Ref.addOff, beq_self_eq_true, Nat.reduceBEq, bxL, Option.bind_some, writeR, isLit, viaBoxes, capsPA, boxPA, nsOf, noDup, boxesAt, argG, passG, passD, rhoIn, rhoOut, idxIn, tr, trL, List.getD_cons_zero, gives, pasOf, isPtr]
      rw [wrapN (s.length - 1) (by omega) (by omega)]
      rw [bare, unfeed_cut (by omega), if_pos h2]
      exact rbare_loop s hs _ (by omega)
    · rw [u8b_f (n := 10) h2 rfl]
      simp only [eqs, reduceCtorEq, implies_true, List.map_cons, List.map_nil, kl, klL, roD, roL, Option.map_some, Option.map_none, Option.getD_some, Option.getD_none, binVal, binObl, unVal, Nat.reduceEqDiff, if_true, if_false, reduceIte, eq_self, passA, frnD, resD, content, getH, getR, getW, viaNot, viaSlot, viaBox, viaDeep, viaMem, List.contains_cons, List.contains_nil, grabs, peeks, okCells, isCell, place, cellsOf, chunk, elt, List.headD_cons, List.length_cons, List.length_nil, List.take_succ_cons, List.take_zero, List.drop_succ_cons, List.drop_zero, Nat.reduceAdd, Nat.reduceSub, Nat.reduceLeDiff, List.nil_append, List.cons_append, List.append_nil, List.all_cons, List.all_nil, plainC, takeR, setW, over, reCell, Int.reduceToNat, List.getElem?_cons_zero, List.getElem?_cons_succ, List.set_cons_zero, List.take_length, outV, resG, plainV, pack, outVG, outBx, List.set_cons_succ, Ref.idx, Ref.addOff, beq_self_eq_true, Nat.reduceBEq, bxL, Option.bind_some, writeR, isLit, viaBoxes, capsPA, boxPA, nsOf, noDup, boxesAt, argG, passG, passD, rhoIn, rhoOut, idxIn, tr, trL, List.getD_cons_zero, gives, pasOf, isPtr]
      have := rbare_loop (m := m) s hs s.length (by omega)
      rw [List.take_length] at this
      rw [bare, unfeed_cut (by omega), if_neg h2]
      exact this

theorem tolf_snd (s : Bs) (hs : s.length ≤ 1048576) : Snd Tryd.prog (gl m) 20 [S s] (S (lf s)) := by
  refine snd_of (fn := Tryd.f20) (af := tolf) Tryd.func20 (tolf_comp m) mixed (kn_ok m) (Nat.le_of_ble_eq_true rfl) ?_
  simp only [tolf, eqs, reduceCtorEq, implies_true, List.map_cons, List.map_nil, kl, klL, roD, roL, Option.map_some, Option.map_none, Option.getD_some, Option.getD_none, binVal, binObl, unVal, Nat.reduceEqDiff, if_true, if_false, reduceIte, eq_self, passA, frnD, resD, content, getH, getR, getW, viaNot, viaSlot, viaBox, viaDeep, viaMem, List.contains_cons, List.contains_nil, grabs, peeks, okCells, isCell, place, cellsOf, chunk, elt, List.headD_cons, List.length_cons, List.length_nil, List.take_succ_cons, List.take_zero, List.drop_succ_cons, List.drop_zero, Nat.reduceAdd, Nat.reduceSub, Nat.reduceLeDiff, List.nil_append, List.cons_append, List.append_nil, List.all_cons, List.all_nil, plainC, takeR, setW, over, reCell, Int.reduceToNat, List.getElem?_cons_zero, List.getElem?_cons_succ, List.set_cons_zero, List.take_length, outV, resG, plainV, pack, outVG, outBx, List.set_cons_succ, Ref.idx, Ref.addOff, beq_self_eq_true, Nat.reduceBEq, bxL, Option.bind_some, writeR, isLit, viaBoxes, capsPA, boxPA, nsOf, noDup, boxesAt, argG, passG, passD, rhoIn, rhoOut, idxIn, tr, trL, List.getD_cons_zero, gives, pasOf, isPtr]
  refine of_call (replaceAll s [13, 10] [10] hs (by simp) ?_) ?_
  · have := Lib.countB_mul_le (str [13, 10]) (by rw [str_size]; simp) _ (str s) (Nat.le_refl _)
    simp only [str_size, List.length_cons, List.length_nil] at this ⊢
    omega
  · simp only [replaceAll_lf, eqs, reduceCtorEq, implies_true, List.map_cons, List.map_nil, kl, klL, roD, roL, Option.map_some, Option.map_none, Option.getD_some, Option.getD_none, binVal, binObl, unVal, Nat.reduceEqDiff, if_true, if_false, reduceIte, eq_self, passA, frnD, resD, content, getH, getR, getW, viaNot, viaSlot, viaBox, viaDeep, viaMem, List.contains_cons, List.contains_nil, grabs, peeks, okCells, isCell, place, cellsOf, chunk, elt, List.headD_cons, List.length_cons, List.length_nil, List.take_succ_cons, List.take_zero, List.drop_succ_cons, List.drop_zero, Nat.reduceAdd, Nat.reduceSub, Nat.reduceLeDiff, List.nil_append, List.cons_append, List.append_nil, List.all_cons, List.all_nil, plainC, takeR, setW, over, reCell, Int.reduceToNat, List.getElem?_cons_zero, List.getElem?_cons_succ, List.set_cons_zero, List.take_length, outV, resG, plainV, pack, outVG, outBx, List.set_cons_succ, Ref.idx, Ref.addOff, beq_self_eq_true, Nat.reduceBEq, bxL, Option.bind_some, writeR, isLit, viaBoxes, capsPA, boxPA, nsOf, noDup, boxesAt, argG, passG, passD, rhoIn, rhoOut, idxIn, tr, trL, List.getD_cons_zero, gives, pasOf, isPtr]
theorem prt_snd (s : Bs) (hs : s.length ≤ 524288) : Snd Tryd.prog (gl m) 25 [S s] (B (lf (crlf 0 s) == s)) := by
  refine snd_of (fn := Tryd.f25) (af := prt) Tryd.func25 (prt_comp m) mixed (kn_ok m) (Nat.le_of_ble_eq_true rfl) ?_
  simp only [prt, eqs, reduceCtorEq, implies_true, List.map_cons, List.map_nil, kl, klL, roD, roL, Option.map_some, Option.map_none, Option.getD_some, Option.getD_none, binVal, binObl, unVal, Nat.reduceEqDiff, if_true, if_false, reduceIte, eq_self, passA, frnD, resD, content, getH, getR, getW, viaNot, viaSlot, viaBox, viaDeep, viaMem, List.contains_cons, List.contains_nil, grabs, peeks, okCells, isCell, place, cellsOf, chunk, elt, List.headD_cons, List.length_cons, List.length_nil, List.take_succ_cons, List.take_zero, List.drop_succ_cons, List.drop_zero, Nat.reduceAdd, Nat.reduceSub, Nat.reduceLeDiff, List.nil_append, List.cons_append, List.append_nil, List.all_cons, List.all_nil, plainC, takeR, setW, over, reCell, Int.reduceToNat, List.getElem?_cons_zero, List.getElem?_cons_succ, List.set_cons_zero, List.take_length, outV, resG, plainV, pack, outVG, outBx, List.set_cons_succ, Ref.idx, Ref.addOff, beq_self_eq_true, Nat.reduceBEq, bxL, Option.bind_some, writeR, isLit, viaBoxes, capsPA, boxPA, nsOf, noDup, boxesAt, argG, passG, passD, rhoIn, rhoOut, idxIn, tr, trL, List.getD_cons_zero, gives, pasOf, isPtr]
  have := crlf_len 0 s
  refine of_call (tocrlf_snd s (by omega)) ?_
  simp only [eqs, reduceCtorEq, implies_true, List.map_cons, List.map_nil, kl, klL, roD, roL, Option.map_some, Option.map_none, Option.getD_some, Option.getD_none, binVal, binObl, unVal, Nat.reduceEqDiff, if_true, if_false, reduceIte, eq_self, passA, frnD, resD, content, getH, getR, getW, viaNot, viaSlot, viaBox, viaDeep, viaMem, List.contains_cons, List.contains_nil, grabs, peeks, okCells, isCell, place, cellsOf, chunk, elt, List.headD_cons, List.length_cons, List.length_nil, List.take_succ_cons, List.take_zero, List.drop_succ_cons, List.drop_zero, Nat.reduceAdd, Nat.reduceSub, Nat.reduceLeDiff, List.nil_append, List.cons_append, List.append_nil, List.all_cons, List.all_nil, plainC, takeR, setW, over, reCell, Int.reduceToNat, List.getElem?_cons_zero, List.getElem?_cons_succ, List.set_cons_zero, List.take_length, outV, resG, plainV, pack, outVG, outBx, List.set_cons_succ, Ref.idx, Ref.addOff, beq_self_eq_true, Nat.reduceBEq, bxL, Option.bind_some, writeR, isLit, viaBoxes, capsPA, boxPA, nsOf, noDup, boxesAt, argG, passG, passD, rhoIn, rhoOut, idxIn, tr, trL, List.getD_cons_zero, gives, pasOf, isPtr]
  refine of_call (tolf_snd _ (by omega)) ?_
  simp only [eqs, reduceCtorEq, implies_true, List.map_cons, List.map_nil, kl, klL, roD, roL, Option.map_some, Option.map_none, Option.getD_some, Option.getD_none, binVal, binObl, unVal, Nat.reduceEqDiff, if_true, if_false, reduceIte, eq_self, passA, frnD, resD, content, getH, getR, getW, viaNot, viaSlot, viaBox, viaDeep, viaMem, List.contains_cons, List.contains_nil, grabs, peeks, okCells, isCell, place, cellsOf, chunk, elt, List.headD_cons, List.length_cons, List.length_nil, List.take_succ_cons, List.take_zero, List.drop_succ_cons, List.drop_zero, Nat.reduceAdd, Nat.reduceSub, Nat.reduceLeDiff, List.nil_append, List.cons_append, List.append_nil, List.all_cons, List.all_nil, plainC, takeR, setW, over, reCell, Int.reduceToNat, List.getElem?_cons_zero, List.getElem?_cons_succ, List.set_cons_zero, List.take_length, outV, resG, plainV, pack, outVG, outBx, List.set_cons_succ, Ref.idx, Ref.addOff, beq_self_eq_true, Nat.reduceBEq, bxL, Option.bind_some, writeR, isLit, viaBoxes, capsPA, boxPA, nsOf, noDup, boxesAt, argG, passG, passD, rhoIn, rhoOut, idxIn, tr, trL, List.getD_cons_zero, gives, pasOf, isPtr]
theorem rback_snd (s : Bs) (hs : s.length ≤ 524288) : Snd Tryd.prog (gl m) 26 [S s] (B (lf (crlf 0 s) == s)) := by
  refine snd_of (fn := Tryd.f26) (af := rback) Tryd.func26 (rback_comp m) mixed (kn_ok m) (Nat.le_of_ble_eq_true rfl) ?_
  simp only [rback, eqs, reduceCtorEq, implies_true, List.map_cons, List.map_nil, kl, klL, roD, roL, Option.map_some, Option.map_none, Option.getD_some, Option.getD_none, binVal, binObl, unVal, Nat.reduceEqDiff, if_true, if_false, reduceIte, eq_self, passA, frnD, resD, content, getH, getR, getW, viaNot, viaSlot, viaBox, viaDeep, viaMem, List.contains_cons, List.contains_nil, grabs, peeks, okCells, isCell, place, cellsOf, chunk, elt, List.headD_cons, List.length_cons, List.length_nil, List.take_succ_cons, List.take_zero, List.drop_succ_cons, List.drop_zero, Nat.reduceAdd, Nat.reduceSub, Nat.reduceLeDiff, List.nil_append, List.cons_append, List.append_nil, List.all_cons, List.all_nil, plainC, takeR, setW, over, reCell, Int.reduceToNat, List.getElem?_cons_zero, List.getElem?_cons_succ, List.set_cons_zero, List.take_length, outV, resG, plainV, pack, outVG, outBx, List.set_cons_succ, Ref.idx, Ref.addOff, beq_self_eq_true, Nat.reduceBEq, bxL, Option.bind_some, writeR, isLit, viaBoxes, capsPA, boxPA, nsOf, noDup, boxesAt, argG, passG, passD, rhoIn, rhoOut, idxIn, tr, trL, List.getD_cons_zero, gives, pasOf, isPtr]
  have := crlf_len 0 s
  refine of_call (rcrlf_snd s (by omega)) ?_
  simp only [eqs, reduceCtorEq, implies_true, List.map_cons, List.map_nil, kl, klL, roD, roL, Option.map_some, Option.map_none, Option.getD_some, Option.getD_none, binVal, binObl, unVal, Nat.reduceEqDiff, if_true, if_false, reduceIte, eq_self, passA, frnD, resD, content, getH, getR, getW, viaNot, viaSlot, viaBox, viaDeep, viaMem, List.contains_cons, List.contains_nil, grabs, peeks, okCells, isCell, place, cellsOf, chunk, elt, List.headD_cons, List.length_cons, List.length_nil, List.take_succ_cons, List.take_zero, List.drop_succ_cons, List.drop_zero, Nat.reduceAdd, Nat.reduceSub, Nat.reduceLeDiff, List.nil_append, List.cons_append, List.append_nil, List.all_cons, List.all_nil, plainC, takeR, setW, over, reCell, Int.reduceToNat, List.getElem?_cons_zero, List.getElem?_cons_succ, List.set_cons_zero, List.take_length, outV, resG, plainV, pack, outVG, outBx, List.set_cons_succ, Ref.idx, Ref.addOff, beq_self_eq_true, Nat.reduceBEq, bxL, Option.bind_some, writeR, isLit, viaBoxes, capsPA, boxPA, nsOf, noDup, boxesAt, argG, passG, passD, rhoIn, rhoOut, idxIn, tr, trL, List.getD_cons_zero, gives, pasOf, isPtr]
  refine of_call (rlf_snd _ (by omega)) ?_
  simp only [eqs, reduceCtorEq, implies_true, List.map_cons, List.map_nil, kl, klL, roD, roL, Option.map_some, Option.map_none, Option.getD_some, Option.getD_none, binVal, binObl, unVal, Nat.reduceEqDiff, if_true, if_false, reduceIte, eq_self, passA, frnD, resD, content, getH, getR, getW, viaNot, viaSlot, viaBox, viaDeep, viaMem, List.contains_cons, List.contains_nil, grabs, peeks, okCells, isCell, place, cellsOf, chunk, elt, List.headD_cons, List.length_cons, List.length_nil, List.take_succ_cons, List.take_zero, List.drop_succ_cons, List.drop_zero, Nat.reduceAdd, Nat.reduceSub, Nat.reduceLeDiff, List.nil_append, List.cons_append, List.append_nil, List.all_cons, List.all_nil, plainC, takeR, setW, over, reCell, Int.reduceToNat, List.getElem?_cons_zero, List.getElem?_cons_succ, List.set_cons_zero, List.take_length, outV, resG, plainV, pack, outVG, outBx, List.set_cons_succ, Ref.idx, Ref.addOff, beq_self_eq_true, Nat.reduceBEq, bxL, Option.bind_some, writeR, isLit, viaBoxes, capsPA, boxPA, nsOf, noDup, boxesAt, argG, passG, passD, rhoIn, rhoOut, idxIn, tr, trL, List.getD_cons_zero, gives, pasOf, isPtr]
end Go.Ln

/- Lines: cleaning. -/
namespace Go.Ln
open Go Go.Ev Go.Proofs
set_option linter.unusedVariables false
set_option linter.unusedSimpArgs false
variable {m : Int}

def pcl1 : AF := ⟨.seq (.reg (.seq [⟨(some (3, true)), none, .mov (.cst (.bool false) (.lit (.bool false))) .asg⟩])) [0, 1] [10000, 10001]
  (.seq (.reg (.seq [⟨(some (4, false)), none, .load (.tmp 1 true) 1 false false⟩,
      ⟨(some (5, false)), none, .mov (.tmp 0 true) .peek⟩,
      ⟨(some (6, false)), none, .iad (.tmp 4 false) (.tmp 5 false) 1⟩,
      ⟨(some (7, false)), none, .load (.tmp 6 false) 1 false false⟩,
      ⟨(some (8, false)), none, .bin .eql (.tmp 7 false) (.cst (.string (str [])) (.lit (.string (str []))))⟩,
      ⟨(some (3, true)), none, .mov (.tmp 8 false) .asg⟩])) [3] [10000, 10001]
  (.ret)),
  [.tmp 3]⟩
theorem pcl1_comp (m : Int) : compF Tryd.prog (gl m) [10000, 10001] Tryd.f50 = some pcl1 := by kernel_rfl
def pclean_l0' : AC := .seq (.reg (.seq [⟨(some (14, false)), none, .bin .lss (.tmp 13 true) (.tmp 12 true)⟩])) [3, 4, 11, 12, 13, 14] [3]
  (.seq (.cond (.tmp 14 false)
    (.skip)
    (.exit 0)) [3, 4, 11, 12, 13] [3]
  (.seq (.block 1 (.seq (.reg (.seq [⟨(some (15, false)), none, .iad (.tmp 11 true) (.tmp 13 true) 1⟩,
      ⟨(some (16, false)), none, .load (.tmp 15 false) 1 false false⟩,
      ⟨(some (6, true)), none, .mov (.tmp 16 false) .asg⟩])) [3, 4, 6, 11, 12, 13] [3]
    (.seq (.seq (.reg (.seq [⟨(some (17, false)), none, .mov (.tmp 6 true) .peek⟩,
      ⟨(some (18, false)), none, .call 51 [(.tmp 17 false), (.cst (.string (str [35])) (.lit (.string (str [35]))))]⟩])) [3, 4, 6, 11, 12, 13, 18] [3]
    (.cond (.tmp 18 false)
      (.exit 1)
      (.skip))) [3, 4, 6, 11, 12, 13] [3]
    (.seq (.reg (.seq [⟨(some (19, false)), none, .mov (.tmp 6 true) .peek⟩,
      ⟨(some (20, false)), none, .call 53 [(.tmp 19 false), (.cst (.string (str [10])) (.lit (.string (str [10]))))]⟩,
      ⟨(some (21, false)), none, .call 52 [(.tmp 20 false), (.cst (.string (str [32, 9, 13])) (.lit (.string (str [32, 9, 13]))))]⟩,
      ⟨(some (7, true)), none, .mov (.tmp 21 false) .asg⟩])) [3, 4, 7, 11, 12, 13] [3]
    (.seq (.seq (.reg (.seq [⟨(some (22, false)), none, .mov (.tmp 7 true) .peek⟩,
      ⟨(some (23, false)), none, .bin .eql (.tmp 22 false) (.cst (.string (str [])) (.lit (.string (str []))))⟩,
      ⟨(some (24, false)), none, .mov (.tmp 23 false) .peek⟩,
      ⟨(some (25, false)), (some (24, true)), .load (.tmp 3 true) 1 false false⟩,
      ⟨(some (26, false)), (some (24, true)), .lenL (.tmp 25 false)⟩,
      ⟨(some (27, false)), (some (24, true)), .bin .eql (.tmp 26 false) (.cst (.int .i64 0) (.lit (.int .i64 0)))⟩,
      ⟨(some (28, false)), (some (24, true)), .mov (.tmp 27 false) .peek⟩,
      ⟨(some (29, false)), (some (28, false)), .mov (.tmp 4 true) .peek⟩,
      ⟨(some (30, false)), (some (28, false)), .load (.tmp 3 true) 1 false false⟩,
      ⟨(some (31, false)), (some (28, false)), .lenL (.tmp 30 false)⟩,
      ⟨(some (32, false)), (some (28, false)), .bin .sub (.tmp 31 false) (.cst (.int .i64 1) (.lit (.int .i64 1)))⟩,
      ⟨(some (33, false)), (some (28, false)), .callV (.tmp 29 false) [(.tmp 32 false)]⟩,
      ⟨(some (34, false)), (some (24, true)), .pick (.tmp 28 false) (.cst (.bool true) (.lit (.bool true))) (.tmp 33 false)⟩,
      ⟨(some (35, false)), none, .pick (.tmp 24 false) (.tmp 34 false) (.cst (.bool false) (.lit (.bool false)))⟩])) [3, 4, 7, 11, 12, 13, 35] [3]
    (.cond (.tmp 35 false)
      (.exit 1)
      (.skip))) [3, 4, 7, 11, 12, 13] [3]
    (.reg (.seq [⟨(some (36, false)), none, .load (.tmp 3 true) 1 false true⟩,
      ⟨(some (37, false)), none, .mov (.tmp 7 true) .take⟩,
      ⟨(some (38, false)), none, .buildS 1 1 [(.lit (.string (str [])))] [(0, 1, (.tmp 37 false))]⟩,
      ⟨(some (39, false)), none, .app 1 16 (.tmp 36 false) (.tmp 38 false)⟩,
      ⟨none, none, .store (.tmp 3 true) (.tmp 39 false) 1⟩]))))))) [3, 4, 11, 12, 13] [3]
  (.reg (.seq [⟨(some (40, false)), none, .bin .add (.tmp 13 true) (.cst (.int .i64 1) (.lit (.int .i64 1)))⟩,
      ⟨(some (13, true)), none, .mov (.tmp 40 false) .peek⟩]))))
def pclean_l0 : AC := pclean_l0'
theorem pclean_l0_w (C : Kn) (K : Ex → St → Prop) (s : St) : vcC C pclean_l0 K s = vcC C pclean_l0' K s := nr rfl
def pclean_k1' : AC := .seq (.seq (.reg (.seq [⟨(some (41, false)), none, .load (.tmp 3 true) 1 false false⟩,
      ⟨(some (42, false)), none, .lenL (.tmp 41 false)⟩,
      ⟨(some (8, true)), none, .mov (.tmp 42 false) .asg⟩])) [3, 4, 8] [3]
  (.seq (.reg (.seq [⟨(some (43, false)), none, .mov (.tmp 8 true) .peek⟩,
      ⟨(some (44, false)), none, .bin .gtr (.tmp 43 false) (.cst (.int .i64 0) (.lit (.int .i64 0)))⟩,
      ⟨(some (45, false)), none, .mov (.tmp 44 false) .peek⟩,
      ⟨(some (46, false)), (some (45, true)), .mov (.tmp 4 true) .peek⟩,
      ⟨(some (47, false)), (some (45, true)), .mov (.tmp 8 true) .peek⟩,
      ⟨(some (48, false)), (some (45, true)), .bin .sub (.tmp 47 false) (.cst (.int .i64 1) (.lit (.int .i64 1)))⟩,
      ⟨(some (49, false)), (some (45, true)), .callV (.tmp 46 false) [(.tmp 48 false)]⟩,
      ⟨(some (50, false)), none, .pick (.tmp 45 false) (.tmp 49 false) (.cst (.bool false) (.lit (.bool false)))⟩])) [3, 8, 50] [3]
  (.cond (.tmp 50 false)
    (.reg (.seq [⟨(some (51, false)), none, .load (.tmp 3 true) 1 false false⟩,
      ⟨(some (52, false)), none, .mov (.tmp 8 true) .peek⟩,
      ⟨(some (53, false)), none, .bin .sub (.tmp 52 false) (.cst (.int .i64 1) (.lit (.int .i64 1)))⟩,
      ⟨(some (54, false)), none, .slc 1 (.tmp 51 false) none (some (.tmp 53 false))⟩,
      ⟨none, none, .store (.tmp 3 true) (.tmp 54 false) 1⟩]))
    (.skip)))) [3] [3]
  (.seq (.seq (.reg (.seq [⟨(some (55, false)), none, .load (.tmp 3 true) 1 false false⟩,
      ⟨(some (56, false)), none, .lenL (.tmp 55 false)⟩,
      ⟨(some (57, false)), none, .bin .eql (.tmp 56 false) (.cst (.int .i64 0) (.lit (.int .i64 0)))⟩])) [3, 57] [3]
  (.cond (.tmp 57 false)
    (.seq (.reg (.seq [⟨(some (2, true)), none, .mov (.cst (.string (str [])) (.lit (.string (str [])))) .asg⟩])) [2] []
    (.ret))
    (.skip))) [3] [3]
  (.seq (.reg (.seq [⟨(some (58, false)), none, .load (.tmp 3 true) 1 false false⟩,
      ⟨(some (59, false)), none, .call 54 [(.tmp 58 false), (.cst (.string (str [10])) (.lit (.string (str [10]))))]⟩,
      ⟨(some (60, false)), none, .bin .add (.tmp 59 false) (.cst (.string (str [10])) (.lit (.string (str [10]))))⟩,
      ⟨(some (2, true)), none, .mov (.tmp 60 false) .asg⟩])) [2] []
  (.ret)))
def pclean_k1 : AC := pclean_k1'
theorem pclean_k1_w (C : Kn) (K : Ex → St → Prop) (s : St) : vcC C pclean_k1 K s = vcC C pclean_k1' K s := nr rfl
def pclean : AF := ⟨.seq (.reg (.seq [⟨(some (2, true)), none, .mov (.cst (.string (str [])) (.lit (.string (str [])))) .asg⟩])) [0] []
  (.seq (.reg (.seq [⟨(some (3, true)), none, .new [(.sl .own 1 [])]⟩])) [0, 3] [3]
  (.seq (.reg (.seq [⟨(some (9, false)), none, .mkF 50 [(.tmp 3 true)]⟩,
      ⟨(some (4, true)), none, .mov (.tmp 9 false) .asg⟩])) [0, 3, 4] [3]
  (.seq (.seq (.reg (.seq [⟨(some (10, false)), none, .mov (.tmp 0 true) .peek⟩,
      ⟨(some (11, true)), none, .call 29 [(.tmp 10 false)]⟩,
      ⟨(some (12, true)), none, .lenL (.tmp 11 true)⟩,
      ⟨(some (13, true)), none, .mov (.cst (.int .i64 0) (.lit (.int .i64 0))) .peek⟩])) [3, 4, 11, 12, 13] [3]
  (.block 0 (.loop [3, 4, 11, 12, 13] [3] pclean_l0))) [3, 4] [3] pclean_k1))),
  [.tmp 2]⟩
theorem pclean_comp (m : Int) : compF Tryd.prog (gl m) [] Tryd.f17 = some pclean := by kernel_rfl
def rclean_l0' : AC := .seq (.reg (.seq [⟨(some (13, false)), none, .bin .lss (.tmp 12 true) (.tmp 11 true)⟩])) [3, 4, 5, 11, 12, 13] []
  (.seq (.cond (.tmp 13 false)
    (.skip)
    (.exit 0)) [3, 4, 5, 11, 12] []
  (.seq (.block 1 (.seq (.reg (.seq [⟨(some (14, false)), none, .mov (.tmp 12 true) .take⟩,
      ⟨(some (6, true)), none, .mov (.tmp 14 false) .asg⟩])) [3, 4, 5, 6, 11, 12] []
    (.seq (.seq (.reg (.seq [⟨(some (15, false)), none, .mov (.tmp 3 true) .peek⟩,
      ⟨(some (16, false)), none, .mov (.tmp 6 true) .peek⟩,
      ⟨(some (17, false)), none, .iad (.tmp 15 false) (.tmp 16 false) 1⟩,
      ⟨(some (18, false)), none, .load (.tmp 17 false) 1 false false⟩,
      ⟨(some (19, false)), none, .idx (.tmp 18 false) (.cst (.int .i64 0) (.lit (.int .i64 0)))⟩,
      ⟨(some (20, false)), none, .bin .eql (.tmp 19 false) (.cst (.int .u8 35) (.lit (.int .u8 35)))⟩])) [3, 4, 5, 6, 11, 12, 20] []
    (.cond (.tmp 20 false)
      (.exit 1)
      (.skip))) [3, 4, 5, 6, 11, 12] []
    (.seq (.reg (.seq [⟨(some (21, false)), none, .mov (.tmp 3 true) .peek⟩,
      ⟨(some (22, false)), none, .mov (.tmp 6 true) .peek⟩,
      ⟨(some (23, false)), none, .iad (.tmp 21 false) (.tmp 22 false) 1⟩,
      ⟨(some (24, false)), none, .load (.tmp 23 false) 1 false false⟩,
      ⟨(some (25, false)), none, .call 55 [(.tmp 24 false)]⟩,
      ⟨(some (7, true)), none, .mov (.tmp 25 false) .asg⟩])) [3, 4, 5, 7, 11, 12] []
    (.seq (.seq (.reg (.seq [⟨(some (26, false)), none, .mov (.tmp 7 true) .peek⟩,
      ⟨(some (27, false)), none, .bin .eql (.tmp 26 false) (.cst (.string (str [])) (.lit (.string (str []))))⟩])) [3, 4, 5, 7, 11, 12, 27] []
    (.cond (.tmp 27 false)
      (.seq (.reg (.seq [⟨(some (5, true)), none, .mov (.cst (.bool true) (.lit (.bool true))) .asg⟩])) [3, 4, 5, 11, 12] []
      (.exit 1))
      (.skip))) [3, 4, 5, 7, 11, 12] []
    (.seq (.seq (.reg (.seq [⟨(some (28, false)), none, .mov (.tmp 5 true) .peek⟩,
      ⟨(some (29, false)), none, .mov (.tmp 28 false) .peek⟩,
      ⟨(some (30, false)), (some (29, true)), .mov (.tmp 4 true) .peek⟩,
      ⟨(some (31, false)), (some (29, true)), .lenL (.tmp 30 false)⟩,
      ⟨(some (32, false)), (some (29, true)), .bin .gtr (.tmp 31 false) (.cst (.int .i64 0) (.lit (.int .i64 0)))⟩,
      ⟨(some (33, false)), none, .pick (.tmp 29 false) (.tmp 32 false) (.cst (.bool false) (.lit (.bool false)))⟩])) [3, 4, 7, 11, 12, 33] []
    (.cond (.tmp 33 false)
      (.reg (.seq [⟨(some (34, false)), none, .mov (.tmp 4 true) .take⟩,
      ⟨(some (35, false)), none, .buildS 1 1 [(.lit (.string (str [])))] [(0, 1, (.cst (.string (str [10])) (.lit (.string (str [10])))))]⟩,
      ⟨(some (36, false)), none, .app 1 16 (.tmp 34 false) (.tmp 35 false)⟩,
      ⟨(some (4, true)), none, .mov (.tmp 36 false) .asg⟩]))
      (.skip))) [3, 4, 7, 11, 12] []
    (.seq (.reg (.seq [⟨(some (5, true)), none, .mov (.cst (.bool false) (.lit (.bool false))) .asg⟩])) [3, 4, 5, 7, 11, 12] []
    (.reg (.seq [⟨(some (37, false)), none, .mov (.tmp 4 true) .take⟩,
      ⟨(some (38, false)), none, .mov (.tmp 7 true) .peek⟩,
      ⟨(some (39, false)), none, .bin .add (.tmp 38 false) (.cst (.string (str [10])) (.lit (.string (str [10]))))⟩,
      ⟨(some (40, false)), none, .buildS 1 1 [(.lit (.string (str [])))] [(0, 1, (.tmp 39 false))]⟩,
      ⟨(some (41, false)), none, .app 1 16 (.tmp 37 false) (.tmp 40 false)⟩,
      ⟨(some (4, true)), none, .mov (.tmp 41 false) .asg⟩]))))))))) [3, 4, 5, 11, 12] []
  (.reg (.seq [⟨(some (42, false)), none, .bin .add (.tmp 12 true) (.cst (.int .i64 1) (.lit (.int .i64 1)))⟩,
      ⟨(some (12, true)), none, .mov (.tmp 42 false) .peek⟩]))))
def rclean_l0 : AC := rclean_l0'
theorem rclean_l0_w (C : Kn) (K : Ex → St → Prop) (s : St) : vcC C rclean_l0 K s = vcC C rclean_l0' K s := nr rfl
def rclean_k1' : AC := .seq (.reg (.seq [⟨(some (43, false)), none, .mov (.tmp 4 true) .peek⟩,
      ⟨(some (44, false)), none, .call 45 [(.tmp 43 false)]⟩,
      ⟨(some (2, true)), none, .mov (.tmp 44 false) .asg⟩])) [2] []
  (.ret)
def rclean_k1 : AC := rclean_k1'
theorem rclean_k1_w (C : Kn) (K : Ex → St → Prop) (s : St) : vcC C rclean_k1 K s = vcC C rclean_k1' K s := nr rfl
def rclean : AF := ⟨.seq (.reg (.seq [⟨(some (2, true)), none, .mov (.cst (.string (str [])) (.lit (.string (str [])))) .asg⟩])) [0] []
  (.seq (.reg (.seq [⟨(some (8, false)), none, .mov (.tmp 0 true) .peek⟩,
      ⟨(some (9, false)), none, .call 43 [(.tmp 8 false)]⟩,
      ⟨(some (3, true)), none, .mov (.tmp 9 false) .asg⟩])) [3] []
  (.seq (.reg (.seq [⟨(some (4, true)), none, .mov (.cst (.slice none 0 0) (.sl .own 1 [])) .asg⟩])) [3, 4] []
  (.seq (.reg (.seq [⟨(some (5, true)), none, .mov (.cst (.bool false) (.lit (.bool false))) .asg⟩])) [3, 4, 5] []
  (.seq (.seq (.reg (.seq [⟨(some (10, false)), none, .mov (.tmp 3 true) .peek⟩,
      ⟨(some (11, true)), none, .lenL (.tmp 10 false)⟩,
      ⟨(some (12, true)), none, .mov (.cst (.int .i64 0) (.lit (.int .i64 0))) .peek⟩])) [3, 4, 5, 11, 12] []
  (.block 0 (.loop [3, 4, 5, 11, 12] [] rclean_l0))) [4] [] rclean_k1)))),
  [.tmp 2]⟩
theorem rclean_comp (m : Int) : compF Tryd.prog (gl m) [] Tryd.f18 = some rclean := by kernel_rfl
theorem pcl1_snd (out : List Bs) (k : Nat) (hk : k < out.length) (hb : out.length ≤ 4294967296) : SndG Tryd.prog (gl m) 50 [N k, .ptr ⟨.box 10000 0, []⟩] [[.sl .own 1 (ss out)]] (B (out[k] == [])) [[.sl .own 1 (ss out)]] := by
  refine sndG_of (fn := Tryd.f50) (af := pcl1) Tryd.func50 (pcl1_comp m) mixed (kn_ok m) (Nat.le_of_ble_eq_true rfl) (Nat.le_of_ble_eq_true rfl) ?_
  simp only [pcl1, ssE out hk, eqs, reduceCtorEq, implies_true, List.map_cons, List.map_nil, kl, klL, roD, roL, Option.map_some, Option.map_none, Option.getD_some, Option.getD_none, binVal, binObl, unVal, Nat.reduceEqDiff, if_true, if_false, reduceIte, eq_self, passA, frnD, resD, content, getH, getR, getW, viaNot, viaSlot, viaBox, viaDeep, viaMem, List.contains_cons, List.contains_nil, grabs, peeks, okCells, isCell, place, cellsOf, chunk, elt, List.headD_cons, List.length_cons, List.length_nil, List.take_succ_cons, List.take_zero, List.drop_succ_cons, List.drop_zero, Nat.reduceAdd, Nat.reduceSub, Nat.reduceLeDiff, List.nil_append, List.cons_append, List.append_nil, List.all_cons, List.all_nil, plainC, takeR, setW, over, reCell, Int.reduceToNat, List.getElem?_cons_zero, List.getElem?_cons_succ, List.set_cons_zero, List.take_length, outV, resG, plainV, pack, outVG, outBx, List.set_cons_succ, Ref.idx, Ref.addOff, beq_self_eq_true, Nat.reduceBEq, bxL, Option.bind_some, writeR, isLit, viaBoxes, capsPA, boxPA, nsOf, noDup, boxesAt, argG, passG, passD, rhoIn, rhoOut, idxIn, tr, trL, List.getD_cons_zero, gives, pasOf, isPtr]
  exact ⟨by omega, by omega, by omega, by omega⟩

theorem kn_v50 : (kn m).v 50 := ⟨Tryd.f50, Tryd.func50, rfl, by decide⟩
theorem hasPrefix_hash (l : Bs) : Lib.hasPrefix l [35] = starts l := by
  cases l with
  | nil => rfl
  | cons c l => simp [Lib.hasPrefix, starts, List.isPrefixOf, BEq.comm]
theorem join_bound (l : List Bs) : (Lib.join l [10]).length ≤ l.length + l.flatten.length := by
  induction l with
  | nil => simp [Lib.join, List.intercalate]
  | cons x l ih =>
    cases l with
    | nil => simp [Lib.join, List.intercalate]
    | cons y l =>
      simp only [Lib.join, List.intercalate, List.intersperse, List.flatten_cons, List.length_append, List.length_cons, List.length_nil] at ih ⊢
      omega
theorem dropLast_flatten (l : List Bs) : l.dropLast.flatten.length ≤ l.flatten.length := by
  rw [List.dropLast_eq_take]
  have : l.flatten = (l.take (l.length - 1)).flatten ++ (l.drop (l.length - 1)).flatten := by rw [← List.flatten_append, List.take_append_drop]
  rw [this, List.length_append]; omega
theorem pclean_end (out : List Bs) (ho : out.length ≤ 1048576) (hf : out.flatten.length ≤ 1048576) :
    vcC (kn m) pclean_k1 (outOk [.tmp 2] (S (joinF (dropE out)))) (mkS [(3, .ptr ⟨.box 3 0, []⟩), (4, .clo 50 [.ptr ⟨.box 3 0, []⟩])] [(3, some [.sl .own 1 (ss out)])]) := by
  simp only [pclean_k1_w, pclean_k1', eqs, reduceCtorEq, implies_true, List.map_cons, List.map_nil, kl, klL, roD, roL, Option.map_some, Option.map_none, Option.getD_some, Option.getD_none, binVal, binObl, unVal, Nat.reduceEqDiff, if_true, if_false, reduceIte, eq_self, passA, frnD, resD, content, getH, getR, getW, viaNot, viaSlot, viaBox, viaDeep, viaMem, List.contains_cons, List.contains_nil, grabs, peeks, okCells, isCell, place, cellsOf, chunk, elt, List.headD_cons, List.length_cons, List.length_nil, List.take_succ_cons, List.take_zero, List.drop_succ_cons, List.drop_zero, Nat.reduceAdd, Nat.reduceSub, Nat.reduceLeDiff, List.nil_append, List.cons_append, List.append_nil, List.all_cons, List.all_nil, plainC, takeR, setW, over, reCell, Int.reduceToNat, List.getElem?_cons_zero, List.getElem?_cons_succ, List.set_cons_zero, List.take_length, outV, resG, plainV, pack, outVG, outBx, List.set_cons_succ, Ref.idx, Ref.addOff, beq_self_eq_true, Nat.reduceBEq, bxL, Option.bind_some, writeR, isLit, viaBoxes, capsPA, boxPA, nsOf, noDup, boxesAt, argG, passG, passD, rhoIn, rhoOut, idxIn, tr, trL, List.getD_cons_zero, gives, pasOf, isPtr]
  by_cases h0 : out.length = 0
  · have : out = [] := List.length_eq_zero_iff.1 h0
    subst this
    rw [show decide ((([] : List Bs).length : Int) > 0) = false by simp]
    simp only [eqs, reduceCtorEq, implies_true, List.map_cons, List.map_nil, kl, klL, roD, roL, Option.map_some, Option.map_none, Option.getD_some, Option.getD_none, binVal, binObl, unVal, Nat.reduceEqDiff, if_true, if_false, reduceIte, eq_self, passA, frnD, resD, content, getH, getR, getW, viaNot, viaSlot, viaBox, viaDeep, viaMem, List.contains_cons, List.contains_nil, grabs, peeks, okCells, isCell, place, cellsOf, chunk, elt, List.headD_cons, List.length_cons, List.length_nil, List.take_succ_cons, List.take_zero, List.drop_succ_cons, List.drop_zero, Nat.reduceAdd, Nat.reduceSub, Nat.reduceLeDiff, List.nil_append, List.cons_append, List.append_nil, List.all_cons, List.all_nil, plainC, takeR, setW, over, reCell, Int.reduceToNat, List.getElem?_cons_zero, List.getElem?_cons_succ, List.set_cons_zero, List.take_length, outV, resG, plainV, pack, outVG, outBx, List.set_cons_succ, Ref.idx, Ref.addOff, beq_self_eq_true, Nat.reduceBEq, bxL, Option.bind_some, writeR, isLit, viaBoxes, capsPA, boxPA, nsOf, noDup, boxesAt, argG, passG, passD, rhoIn, rhoOut, idxIn, tr, trL, List.getD_cons_zero, gives, pasOf, isPtr]
    repeat (refine ⟨by (try simp only [List.length_append, List.length_cons, List.length_nil]); omega, ?_⟩)
    rw [show (((0 : Nat) : Int) == 0) = true from rfl]
    simp only [eqs, reduceCtorEq, implies_true, List.map_cons, List.map_nil, kl, klL, roD, roL, Option.map_some, Option.map_none, Option.getD_some, Option.getD_none, binVal, binObl, unVal, Nat.reduceEqDiff, if_true, if_false, reduceIte, eq_self, passA, frnD, resD, content, getH, getR, getW, viaNot, viaSlot, viaBox, viaDeep, viaMem, List.contains_cons, List.contains_nil, grabs, peeks, okCells, isCell, place, cellsOf, chunk, elt, List.headD_cons, List.length_cons, List.length_nil, List.take_succ_cons, List.take_zero, List.drop_succ_cons, List.drop_zero, Nat.reduceAdd, Nat.reduceSub, Nat.reduceLeDiff, List.nil_append, List.cons_append, List.append_nil, List.all_cons, List.all_nil, plainC, takeR, setW, over, reCell, Int.reduceToNat, List.getElem?_cons_zero, List.getElem?_cons_succ, List.set_cons_zero, List.take_length, outV, resG, plainV, pack, outVG, outBx, List.set_cons_succ, Ref.idx, Ref.addOff, beq_self_eq_true, Nat.reduceBEq, bxL, Option.bind_some, writeR, isLit, viaBoxes, capsPA, boxPA, nsOf, noDup, boxesAt, argG, passG, passD, rhoIn, rhoOut, idxIn, tr, trL, List.getD_cons_zero, gives, pasOf, isPtr]
    rfl
  · have hk : out.length - 1 < out.length := by omega
    have hw2 : IntKind.i64.wrap ((out.length : Int) - 1) = ((out.length - 1 : Nat) : Int) := wrapN (out.length - 1) (by omega) (by omega)
    have hlast : out.getLast? = some out[out.length - 1] := by rw [List.getLast?_eq_getElem?, getE hk]
    rw [show decide ((out.length : Int) > 0) = true by simp; omega]
    simp only [hw2, eqs, reduceCtorEq, implies_true, List.map_cons, List.map_nil, kl, klL, roD, roL, Option.map_some, Option.map_none, Option.getD_some, Option.getD_none, binVal, binObl, unVal, Nat.reduceEqDiff, if_true, if_false, reduceIte, eq_self, passA, frnD, resD, content, getH, getR, getW, viaNot, viaSlot, viaBox, viaDeep, viaMem, List.contains_cons, List.contains_nil, grabs, peeks, okCells, isCell, place, cellsOf, chunk, elt, List.headD_cons, List.length_cons, List.length_nil, List.take_succ_cons, List.take_zero, List.drop_succ_cons, List.drop_zero, Nat.reduceAdd, Nat.reduceSub, Nat.reduceLeDiff, List.nil_append, List.cons_append, List.append_nil, List.all_cons, List.all_nil, plainC, takeR, setW, over, reCell, Int.reduceToNat, List.getElem?_cons_zero, List.getElem?_cons_succ, List.set_cons_zero, List.take_length, outV, resG, plainV, pack, outVG, outBx, List.set_cons_succ, Ref.idx, Ref.addOff, beq_self_eq_true, Nat.reduceBEq, bxL, Option.bind_some, writeR, isLit, viaBoxes, capsPA, boxPA, nsOf, noDup, boxesAt, argG, passG, passD, rhoIn, rhoOut, idxIn, tr, trL, List.getD_cons_zero, gives, pasOf, isPtr]
    refine ⟨by omega, kn_v50, ?_⟩
    refine of_core (pcl1_snd out _ hk (by omega)) rfl ?_
    simp only [eqs, reduceCtorEq, implies_true, List.map_cons, List.map_nil, kl, klL, roD, roL, Option.map_some, Option.map_none, Option.getD_some, Option.getD_none, binVal, binObl, unVal, Nat.reduceEqDiff, if_true, if_false, reduceIte, eq_self, passA, frnD, resD, content, getH, getR, getW, viaNot, viaSlot, viaBox, viaDeep, viaMem, List.contains_cons, List.contains_nil, grabs, peeks, okCells, isCell, place, cellsOf, chunk, elt, List.headD_cons, List.length_cons, List.length_nil, List.take_succ_cons, List.take_zero, List.drop_succ_cons, List.drop_zero, Nat.reduceAdd, Nat.reduceSub, Nat.reduceLeDiff, List.nil_append, List.cons_append, List.append_nil, List.all_cons, List.all_nil, plainC, takeR, setW, over, reCell, Int.reduceToNat, List.getElem?_cons_zero, List.getElem?_cons_succ, List.set_cons_zero, List.take_length, outV, resG, plainV, pack, outVG, outBx, List.set_cons_succ, Ref.idx, Ref.addOff, beq_self_eq_true, Nat.reduceBEq, bxL, Option.bind_some, writeR, isLit, viaBoxes, capsPA, boxPA, nsOf, noDup, boxesAt, argG, passG, passD, rhoIn, rhoOut, idxIn, tr, trL, List.getD_cons_zero, gives, pasOf, isPtr]
    by_cases he : out[out.length - 1] = []
    · rw [show (out[out.length - 1] == []) = true by simp [he]]
      have hd : dropE out = out.take (out.length - 1) := by rw [dropE, hlast, he, if_pos rfl, List.dropLast_eq_take]
      have hdl := dropLast_flatten out
      rw [List.dropLast_eq_take] at hdl
      have hl : (out.take (out.length - 1)).length = out.length - 1 := by rw [List.length_take]; omega
      simp only [hw2, eqs, reduceCtorEq, implies_true, List.map_cons, List.map_nil, kl, klL, roD, roL, Option.map_some, Option.map_none, Option.getD_some, Option.getD_none, binVal, binObl, unVal, Nat.reduceEqDiff, if_true, if_false, reduceIte, eq_self, passA, frnD, resD, content, getH, getR, getW, viaNot, viaSlot, viaBox, viaDeep, viaMem, List.contains_cons, List.contains_nil, grabs, peeks, okCells, isCell, place, cellsOf, chunk, elt, List.headD_cons, List.length_cons, List.length_nil, List.take_succ_cons, List.take_zero, List.drop_succ_cons, List.drop_zero, Nat.reduceAdd, Nat.reduceSub, Nat.reduceLeDiff, List.nil_append, List.cons_append, List.append_nil, List.all_cons, List.all_nil, plainC, takeR, setW, over, reCell, Int.reduceToNat, List.getElem?_cons_zero, List.getElem?_cons_succ, List.set_cons_zero, List.take_length, outV, resG, plainV, pack, outVG, outBx, List.set_cons_succ, Ref.idx, Ref.addOff, beq_self_eq_true, Nat.reduceBEq, bxL, Option.bind_some, writeR, isLit, viaBoxes, capsPA, boxPA, nsOf, noDup, boxesAt, argG, passG, passD, rhoIn, rhoOut, idxIn, tr, trL, List.getD_cons_zero, gives, pasOf, isPtr]
      repeat (refine ⟨by (try simp only [List.length_append, List.length_cons, List.length_nil]); omega, ?_⟩)
      rw [hd]
      generalize out.take (out.length - 1) = t at hl hdl
      by_cases hz : t.length = 0
      · have : t = [] := List.length_eq_zero_iff.1 hz
        subst this
        simp only [List.length_nil]
        rw [show (((0 : Nat) : Int) == 0) = true from rfl]
        simp only [eqs, reduceCtorEq, implies_true, List.map_cons, List.map_nil, kl, klL, roD, roL, Option.map_some, Option.map_none, Option.getD_some, Option.getD_none, binVal, binObl, unVal, Nat.reduceEqDiff, if_true, if_false, reduceIte, eq_self, passA, frnD, resD, content, getH, getR, getW, viaNot, viaSlot, viaBox, viaDeep, viaMem, List.contains_cons, List.contains_nil, grabs, peeks, okCells, isCell, place, cellsOf, chunk, elt, List.headD_cons, List.length_cons, List.length_nil, List.take_succ_cons, List.take_zero, List.drop_succ_cons, List.drop_zero, Nat.reduceAdd, Nat.reduceSub, Nat.reduceLeDiff, List.nil_append, List.cons_append, List.append_nil, List.all_cons, List.all_nil, plainC, takeR, setW, over, reCell, Int.reduceToNat, List.getElem?_cons_zero, List.getElem?_cons_succ, List.set_cons_zero, List.take_length, outV, resG, plainV, pack, outVG, outBx, List.set_cons_succ, Ref.idx, Ref.addOff, beq_self_eq_true, Nat.reduceBEq, bxL, Option.bind_some, writeR, isLit, viaBoxes, capsPA, boxPA, nsOf, noDup, boxesAt, argG, passG, passD, rhoIn, rhoOut, idxIn, tr, trL, List.getD_cons_zero, gives, pasOf, isPtr]
        rfl
      · rw [show ((t.length : Int) == 0) = false by rw [beq_eq_false_iff_ne]; omega]
        simp only [eqs, reduceCtorEq, implies_true, List.map_cons, List.map_nil, kl, klL, roD, roL, Option.map_some, Option.map_none, Option.getD_some, Option.getD_none, binVal, binObl, unVal, Nat.reduceEqDiff, if_true, if_false, reduceIte, eq_self, passA, frnD, resD, content, getH, getR, getW, viaNot, viaSlot, viaBox, viaDeep, viaMem, List.contains_cons, List.contains_nil, grabs, peeks, okCells, isCell, place, cellsOf, chunk, elt, List.headD_cons, List.length_cons, List.length_nil, List.take_succ_cons, List.take_zero, List.drop_succ_cons, List.drop_zero, Nat.reduceAdd, Nat.reduceSub, Nat.reduceLeDiff, List.nil_append, List.cons_append, List.append_nil, List.all_cons, List.all_nil, plainC, takeR, setW, over, reCell, Int.reduceToNat, List.getElem?_cons_zero, List.getElem?_cons_succ, List.set_cons_zero, List.take_length, outV, resG, plainV, pack, outVG, outBx, List.set_cons_succ, Ref.idx, Ref.addOff, beq_self_eq_true, Nat.reduceBEq, bxL, Option.bind_some, writeR, isLit, viaBoxes, capsPA, boxPA, nsOf, noDup, boxesAt, argG, passG, passD, rhoIn, rhoOut, idxIn, tr, trL, List.getD_cons_zero, gives, pasOf, isPtr]
        repeat (refine ⟨by (try simp only [List.length_append, List.length_cons, List.length_nil]); omega, ?_⟩)
        refine of_call (join t [10] (by omega) (by have := join_bound t; omega)) ?_
        simp only [eqs, reduceCtorEq, implies_true, List.map_cons, List.map_nil, kl, klL, roD, roL, Option.map_some, Option.map_none, Option.getD_some, Option.getD_none, binVal, binObl, unVal, Nat.reduceEqDiff, if_true, if_false, reduceIte, eq_self, passA, frnD, resD, content, getH, getR, getW, viaNot, viaSlot, viaBox, viaDeep, viaMem, List.contains_cons, List.contains_nil, grabs, peeks, okCells, isCell, place, cellsOf, chunk, elt, List.headD_cons, List.length_cons, List.length_nil, List.take_succ_cons, List.take_zero, List.drop_succ_cons, List.drop_zero, Nat.reduceAdd, Nat.reduceSub, Nat.reduceLeDiff, List.nil_append, List.cons_append, List.append_nil, List.all_cons, List.all_nil, plainC, takeR, setW, over, reCell, Int.reduceToNat, List.getElem?_cons_zero, List.getElem?_cons_succ, List.set_cons_zero, List.take_length, outV, resG, plainV, pack, outVG, outBx, List.set_cons_succ, Ref.idx, Ref.addOff, beq_self_eq_true, Nat.reduceBEq, bxL, Option.bind_some, writeR, isLit, viaBoxes, capsPA, boxPA, nsOf, noDup, boxesAt, argG, passG, passD, rhoIn, rhoOut, idxIn, tr, trL, List.getD_cons_zero, gives, pasOf, isPtr]
        have jb := join_bound t
        repeat (refine ⟨by (try simp only [List.length_append, List.length_cons, List.length_nil]); omega, ?_⟩)
        rw [joinF, if_neg (by intro e; exact hz (by rw [e]; rfl))]; rfl
    · rw [show (out[out.length - 1] == []) = false by simp [he]]
      simp only [eqs, reduceCtorEq, implies_true, List.map_cons, List.map_nil, kl, klL, roD, roL, Option.map_some, Option.map_none, Option.getD_some, Option.getD_none, binVal, binObl, unVal, Nat.reduceEqDiff, if_true, if_false, reduceIte, eq_self, passA, frnD, resD, content, getH, getR, getW, viaNot, viaSlot, viaBox, viaDeep, viaMem, List.contains_cons, List.contains_nil, grabs, peeks, okCells, isCell, place, cellsOf, chunk, elt, List.headD_cons, List.length_cons, List.length_nil, List.take_succ_cons, List.take_zero, List.drop_succ_cons, List.drop_zero, Nat.reduceAdd, Nat.reduceSub, Nat.reduceLeDiff, List.nil_append, List.cons_append, List.append_nil, List.all_cons, List.all_nil, plainC, takeR, setW, over, reCell, Int.reduceToNat, List.getElem?_cons_zero, List.getElem?_cons_succ, List.set_cons_zero, List.take_length, outV, resG, plainV, pack, outVG, outBx, List.set_cons_succ, Ref.idx, Ref.addOff, beq_self_eq_true, Nat.reduceBEq, bxL, Option.bind_some, writeR, isLit, viaBoxes, capsPA, boxPA, nsOf, noDup, boxesAt, argG, passG, passD, rhoIn, rhoOut, idxIn, tr, trL, List.getD_cons_zero, gives, pasOf, isPtr]
      repeat (refine ⟨by (try simp only [List.length_append, List.length_cons, List.length_nil]); omega, ?_⟩)
      rw [show ((out.length : Int) == 0) = false by rw [beq_eq_false_iff_ne]; omega]
      simp only [eqs, reduceCtorEq, implies_true, List.map_cons, List.map_nil, kl, klL, roD, roL, Option.map_some, Option.map_none, Option.getD_some, Option.getD_none, binVal, binObl, unVal, Nat.reduceEqDiff, if_true, if_false, reduceIte, eq_self, passA, frnD, resD, content, getH, getR, getW, viaNot, viaSlot, viaBox, viaDeep, viaMem, List.contains_cons, List.contains_nil, grabs, peeks, okCells, isCell, place, cellsOf, chunk, elt, List.headD_cons, List.length_cons, List.length_nil, List.take_succ_cons, List.take_zero, List.drop_succ_cons, List.drop_zero, Nat.reduceAdd, Nat.reduceSub, Nat.reduceLeDiff, List.nil_append, List.cons_append, List.append_nil, List.all_cons, List.all_nil, plainC, takeR, setW, over, reCell, Int.reduceToNat, List.getElem?_cons_zero, List.getElem?_cons_succ, List.set_cons_zero, List.take_length, outV, resG, plainV, pack, outVG, outBx, List.set_cons_succ, Ref.idx, Ref.addOff, beq_self_eq_true, Nat.reduceBEq, bxL, Option.bind_some, writeR, isLit, viaBoxes, capsPA, boxPA, nsOf, noDup, boxesAt, argG, passG, passD, rhoIn, rhoOut, idxIn, tr, trL, List.getD_cons_zero, gives, pasOf, isPtr]
      repeat (refine ⟨by (try simp only [List.length_append, List.length_cons, List.length_nil]); omega, ?_⟩)
      refine of_call (join out [10] (by omega) (by have := join_bound out; omega)) ?_
      simp only [eqs, reduceCtorEq, implies_true, List.map_cons, List.map_nil, kl, klL, roD, roL, Option.map_some, Option.map_none, Option.getD_some, Option.getD_none, binVal, binObl, unVal, Nat.reduceEqDiff, if_true, if_false, reduceIte, eq_self, passA, frnD, resD, content, getH, getR, getW, viaNot, viaSlot, viaBox, viaDeep, viaMem, List.contains_cons, List.contains_nil, grabs, peeks, okCells, isCell, place, cellsOf, chunk, elt, List.headD_cons, List.length_cons, List.length_nil, List.take_succ_cons, List.take_zero, List.drop_succ_cons, List.drop_zero, Nat.reduceAdd, Nat.reduceSub, Nat.reduceLeDiff, List.nil_append, List.cons_append, List.append_nil, List.all_cons, List.all_nil, plainC, takeR, setW, over, reCell, Int.reduceToNat, List.getElem?_cons_zero, List.getElem?_cons_succ, List.set_cons_zero, List.take_length, outV, resG, plainV, pack, outVG, outBx, List.set_cons_succ, Ref.idx, Ref.addOff, beq_self_eq_true, Nat.reduceBEq, bxL, Option.bind_some, writeR, isLit, viaBoxes, capsPA, boxPA, nsOf, noDup, boxesAt, argG, passG, passD, rhoIn, rhoOut, idxIn, tr, trL, List.getD_cons_zero, gives, pasOf, isPtr]
      have jb := join_bound out
      repeat (refine ⟨by (try simp only [List.length_append, List.length_cons, List.length_nil]); omega, ?_⟩)
      rw [dropE, hlast, if_neg (by simpa using he)]
      rw [joinF, if_neg (by intro e; exact h0 (by rw [e]; rfl))]; rfl
theorem pclean_loop (L : List Bs) (hL : L.length ≤ 1048576) (hb : ∀ l, l ∈ L → l.length ≤ 1048576) (n : Nat) : ∀ (i : Nat) (hn : L.length - i = n) (hi : i ≤ L.length) (out : List Bs) (ho : out.length ≤ i) (hf : out.flatten.length + (L.drop i).flatten.length ≤ 1048576),
    vcL (kn m) [3, 4, 11, 12, 13] [3] pclean_l0 (blockK 0 (seqK (kn m) [3, 4] [3] pclean_k1 (outOk [.tmp 2] (S (joinF (dropE (keepP out (L.drop i)))))))) (mkS [(3, .ptr ⟨.box 3 0, []⟩), (4, .clo 50 [.ptr ⟨.box 3 0, []⟩]), (11, .sl .own 1 (ss L)), (12, N L.length), (13, N i)] [(3, some [.sl .own 1 (ss out)])]) := by
  induction n with
  | zero =>
    intro i hn hi out ho hf
    have hil : i = L.length := by omega
    subst hil
    apply round
    simp only [pclean_l0_w, pclean_l0', eqs, reduceCtorEq, implies_true, List.map_cons, List.map_nil, kl, klL, roD, roL, Option.map_some, Option.map_none, Option.getD_some, Option.getD_none, binVal, binObl, unVal, Nat.reduceEqDiff, if_true, if_false, reduceIte, eq_self, passA, frnD, resD, content, getH, getR, getW, viaNot, viaSlot, viaBox, viaDeep, viaMem, List.contains_cons, List.contains_nil, grabs, peeks, okCells, isCell, place, cellsOf, chunk, elt, List.headD_cons, List.length_cons, List.length_nil, List.take_succ_cons, List.take_zero, List.drop_succ_cons, List.drop_zero, Nat.reduceAdd, Nat.reduceSub, Nat.reduceLeDiff, List.nil_append, List.cons_append, List.append_nil, List.all_cons, List.all_nil, plainC, takeR, setW, over, reCell, Int.reduceToNat, List.getElem?_cons_zero, List.getElem?_cons_succ, List.set_cons_zero, List.take_length, outV, resG, plainV, pack, outVG, outBx, List.set_cons_succ, Ref.idx, Ref.addOff, beq_self_eq_true, Nat.reduceBEq, bxL, Option.bind_some, writeR, isLit, viaBoxes, capsPA, boxPA, nsOf, noDup, boxesAt, argG, passG, passD, rhoIn, rhoOut, idxIn, tr, trL, List.getD_cons_zero, gives, pasOf, isPtr]
    rw [show decide ((L.length : Int) < L.length) = false by simp]
    simp only [eqs, reduceCtorEq, implies_true, List.map_cons, List.map_nil, kl, klL, roD, roL, Option.map_some, Option.map_none, Option.getD_some, Option.getD_none, binVal, binObl, unVal, Nat.reduceEqDiff, if_true, if_false, reduceIte, eq_self, passA, frnD, resD, content, getH, getR, getW, viaNot, viaSlot, viaBox, viaDeep, viaMem, List.contains_cons, List.contains_nil, grabs, peeks, okCells, isCell, place, cellsOf, chunk, elt, List.headD_cons, List.length_cons, List.length_nil, List.take_succ_cons, List.take_zero, List.drop_succ_cons, List.drop_zero, Nat.reduceAdd, Nat.reduceSub, Nat.reduceLeDiff, List.nil_append, List.cons_append, List.append_nil, List.all_cons, List.all_nil, plainC, takeR, setW, over, reCell, Int.reduceToNat, List.getElem?_cons_zero, List.getElem?_cons_succ, List.set_cons_zero, List.take_length, outV, resG, plainV, pack, outVG, outBx, List.set_cons_succ, Ref.idx, Ref.addOff, beq_self_eq_true, Nat.reduceBEq, bxL, Option.bind_some, writeR, isLit, viaBoxes, capsPA, boxPA, nsOf, noDup, boxesAt, argG, passG, passD, rhoIn, rhoOut, idxIn, tr, trL, List.getD_cons_zero, gives, pasOf, isPtr]
    rw [List.drop_length, keepP]
    exact pclean_end out (by omega) (by omega)
  | succ n ih =>
    intro i hn hi out ho hf
    have hil : i < L.length := by omega
    have hlb := hb _ (List.getElem_mem hil)
    have hw : IntKind.i64.wrap ((i : Int) + 1) = ((i + 1 : Nat) : Int) := wrapN (i + 1) (by omega) (by omega)
    have hd : L.drop i = L[i] :: L.drop (i + 1) := List.drop_eq_getElem_cons hil
    rw [hd, List.flatten_cons, List.length_append] at hf
    rw [hd]
    apply round
    simp only [pclean_l0_w, pclean_l0', eqs, reduceCtorEq, implies_true, List.map_cons, List.map_nil, kl, klL, roD, roL, Option.map_some, Option.map_none, Option.getD_some, Option.getD_none, binVal, binObl, unVal, Nat.reduceEqDiff, if_true, if_false, reduceIte, eq_self, passA, frnD, resD, content, getH, getR, getW, viaNot, viaSlot, viaBox, viaDeep, viaMem, List.contains_cons, List.contains_nil, grabs, peeks, okCells, isCell, place, cellsOf, chunk, elt, List.headD_cons, List.length_cons, List.length_nil, List.take_succ_cons, List.take_zero, List.drop_succ_cons, List.drop_zero, Nat.reduceAdd, Nat.reduceSub, Nat.reduceLeDiff, List.nil_append, List.cons_append, List.append_nil, List.all_cons, List.all_nil, plainC, takeR, setW, over, reCell, Int.reduceToNat, List.getElem?_cons_zero, List.getElem?_cons_succ, List.set_cons_zero, List.take_length, outV, resG, plainV, pack, outVG, outBx, List.set_cons_succ, Ref.idx, Ref.addOff, beq_self_eq_true, Nat.reduceBEq, bxL, Option.bind_some, writeR, isLit, viaBoxes, capsPA, boxPA, nsOf, noDup, boxesAt, argG, passG, passD, rhoIn, rhoOut, idxIn, tr, trL, List.getD_cons_zero, gives, pasOf, isPtr]
    rw [show decide ((i : Int) < L.length) = true by simpa using hil]
    simp only [ssE L hil, eqs, reduceCtorEq, implies_true, List.map_cons, List.map_nil, kl, klL, roD, roL, Option.map_some, Option.map_none, Option.getD_some, Option.getD_none, binVal, binObl, unVal, Nat.reduceEqDiff, if_true, if_false, reduceIte, eq_self, passA, frnD, resD, content, getH, getR, getW, viaNot, viaSlot, viaBox, viaDeep, viaMem, List.contains_cons, List.contains_nil, grabs, peeks, okCells, isCell, place, cellsOf, chunk, elt, List.headD_cons, List.length_cons, List.length_nil, List.take_succ_cons, List.take_zero, List.drop_succ_cons, List.drop_zero, Nat.reduceAdd, Nat.reduceSub, Nat.reduceLeDiff, List.nil_append, List.cons_append, List.append_nil, List.all_cons, List.all_nil, plainC, takeR, setW, over, reCell, Int.reduceToNat, List.getElem?_cons_zero, List.getElem?_cons_succ, List.set_cons_zero, List.take_length, outV, resG, plainV, pack, outVG, outBx, List.set_cons_succ, Ref.idx, Ref.addOff, beq_self_eq_true, Nat.reduceBEq, bxL, Option.bind_some, writeR, isLit, viaBoxes, capsPA, boxPA, nsOf, noDup, boxesAt, argG, passG, passD, rhoIn, rhoOut, idxIn, tr, trL, List.getD_cons_zero, gives, pasOf, isPtr]
    repeat (refine ⟨by (try simp only [List.length_append, List.length_cons, List.length_nil]); omega, ?_⟩)
    refine of_call (hasPrefix L[i] [35]) ?_
    simp only [hasPrefix_hash, eqs, reduceCtorEq, implies_true, List.map_cons, List.map_nil, kl, klL, roD, roL, Option.map_some, Option.map_none, Option.getD_some, Option.getD_none, binVal, binObl, unVal, Nat.reduceEqDiff, if_true, if_false, reduceIte, eq_self, passA, frnD, resD, content, getH, getR, getW, viaNot, viaSlot, viaBox, viaDeep, viaMem, List.contains_cons, List.contains_nil, grabs, peeks, okCells, isCell, place, cellsOf, chunk, elt, List.headD_cons, List.length_cons, List.length_nil, List.take_succ_cons, List.take_zero, List.drop_succ_cons, List.drop_zero, Nat.reduceAdd, Nat.reduceSub, Nat.reduceLeDiff, List.nil_append, List.cons_append, List.append_nil, List.all_cons, List.all_nil, plainC, takeR, setW, over, reCell, Int.reduceToNat, List.getElem?_cons_zero, List.getElem?_cons_succ, List.set_cons_zero, List.take_length, outV, resG, plainV, pack, outVG, outBx, List.set_cons_succ, Ref.idx, Ref.addOff, beq_self_eq_true, Nat.reduceBEq, bxL, Option.bind_some, writeR, isLit, viaBoxes, capsPA, boxPA, nsOf, noDup, boxesAt, argG, passG, passD, rhoIn, rhoOut, idxIn, tr, trL, List.getD_cons_zero, gives, pasOf, isPtr]
    refine split_c (fun h => ?_) (fun h => ?_)
    · simp only [hw, eqs, reduceCtorEq, implies_true, List.map_cons, List.map_nil, kl, klL, roD, roL, Option.map_some, Option.map_none, Option.getD_some, Option.getD_none, binVal, binObl, unVal, Nat.reduceEqDiff, if_true, if_false, reduceIte, eq_self, passA, frnD, resD, content, getH, getR, getW, viaNot, viaSlot, viaBox, viaDeep, viaMem, List.contains_cons, List.contains_nil, grabs, peeks, okCells, isCell, place, cellsOf, chunk, elt, List.headD_cons, List.length_cons, List.length_nil, List.take_succ_cons, List.take_zero, List.drop_succ_cons, List.drop_zero, Nat.reduceAdd, Nat.reduceSub, Nat.reduceLeDiff, List.nil_append, List.cons_append, List.append_nil, List.all_cons, List.all_nil, plainC, takeR, setW, over, reCell, Int.reduceToNat, List.getElem?_cons_zero, List.getElem?_cons_succ, List.set_cons_zero, List.take_length, outV, resG, plainV, pack, outVG, outBx, List.set_cons_succ, Ref.idx, Ref.addOff, beq_self_eq_true, Nat.reduceBEq, bxL, Option.bind_some, writeR, isLit, viaBoxes, capsPA, boxPA, nsOf, noDup, boxesAt, argG, passG, passD, rhoIn, rhoOut, idxIn, tr, trL, List.getD_cons_zero, gives, pasOf, isPtr]
      have := ih (i + 1) (by omega) (by omega) out (by omega) (by omega)
      rw [keepP, if_pos h]
      exact this
    · simp only [eqs, reduceCtorEq, implies_true, List.map_cons, List.map_nil, kl, klL, roD, roL, Option.map_some, Option.map_none, Option.getD_some, Option.getD_none, binVal, binObl, unVal, Nat.reduceEqDiff, if_true, if_false, reduceIte, eq_self, passA, frnD, resD, content, getH, getR, getW, viaNot, viaSlot, viaBox, viaDeep, viaMem, List.contains_cons, List.contains_nil, grabs, peeks, okCells, isCell, place, cellsOf, chunk, elt, List.headD_cons, List.length_cons, List.length_nil, List.take_succ_cons, List.take_zero, List.drop_succ_cons, List.drop_zero, Nat.reduceAdd, Nat.reduceSub, Nat.reduceLeDiff, List.nil_append, List.cons_append, List.append_nil, List.all_cons, List.all_nil, plainC, takeR, setW, over, reCell, Int.reduceToNat, List.getElem?_cons_zero, List.getElem?_cons_succ, List.set_cons_zero, List.take_length, outV, resG, plainV, pack, outVG, outBx, List.set_cons_succ, Ref.idx, Ref.addOff, beq_self_eq_true, Nat.reduceBEq, bxL, Option.bind_some, writeR, isLit, viaBoxes, capsPA, boxPA, nsOf, noDup, boxesAt, argG, passG, passD, rhoIn, rhoOut, idxIn, tr, trL, List.getD_cons_zero, gives, pasOf, isPtr]
      refine of_call (trimSuffix L[i] [10] (by omega)) ?_
      simp only [trimSuffix_feed, eqs, reduceCtorEq, implies_true, List.map_cons, List.map_nil, kl, klL, roD, roL, Option.map_some, Option.map_none, Option.getD_some, Option.getD_none, binVal, binObl, unVal, Nat.reduceEqDiff, if_true, if_false, reduceIte, eq_self, passA, frnD, resD, content, getH, getR, getW, viaNot, viaSlot, viaBox, viaDeep, viaMem, List.contains_cons, List.contains_nil, grabs, peeks, okCells, isCell, place, cellsOf, chunk, elt, List.headD_cons, List.length_cons, List.length_nil, List.take_succ_cons, List.take_zero, List.drop_succ_cons, List.drop_zero, Nat.reduceAdd, Nat.reduceSub, Nat.reduceLeDiff, List.nil_append, List.cons_append, List.append_nil, List.all_cons, List.all_nil, plainC, takeR, setW, over, reCell, Int.reduceToNat, List.getElem?_cons_zero, List.getElem?_cons_succ, List.set_cons_zero, List.take_length, outV, resG, plainV, pack, outVG, outBx, List.set_cons_succ, Ref.idx, Ref.addOff, beq_self_eq_true, Nat.reduceBEq, bxL, Option.bind_some, writeR, isLit, viaBoxes, capsPA, boxPA, nsOf, noDup, boxesAt, argG, passG, passD, rhoIn, rhoOut, idxIn, tr, trL, List.getD_cons_zero, gives, pasOf, isPtr]
      refine of_call (trimRight (unfeed L[i]) [32, 9, 13] (by have := unfeed_len L[i]; omega) (by simp) (by intro j b hj; match j with | 0 | 1 | 2 => simp at hj; subst hj; decide | n + 3 => simp at hj)) ?_
      simp only [trimRight_chop, eqs, reduceCtorEq, implies_true, List.map_cons, List.map_nil, kl, klL, roD, roL, Option.map_some, Option.map_none, Option.getD_some, Option.getD_none, binVal, binObl, unVal, Nat.reduceEqDiff, if_true, if_false, reduceIte, eq_self, passA, frnD, resD, content, getH, getR, getW, viaNot, viaSlot, viaBox, viaDeep, viaMem, List.contains_cons, List.contains_nil, grabs, peeks, okCells, isCell, place, cellsOf, chunk, elt, List.headD_cons, List.length_cons, List.length_nil, List.take_succ_cons, List.take_zero, List.drop_succ_cons, List.drop_zero, Nat.reduceAdd, Nat.reduceSub, Nat.reduceLeDiff, List.nil_append, List.cons_append, List.append_nil, List.all_cons, List.all_nil, plainC, takeR, setW, over, reCell, Int.reduceToNat, List.getElem?_cons_zero, List.getElem?_cons_succ, List.set_cons_zero, List.take_length, outV, resG, plainV, pack, outVG, outBx, List.set_cons_succ, Ref.idx, Ref.addOff, beq_self_eq_true, Nat.reduceBEq, bxL, Option.bind_some, writeR, isLit, viaBoxes, capsPA, boxPA, nsOf, noDup, boxesAt, argG, passG, passD, rhoIn, rhoOut, idxIn, tr, trL, List.getD_cons_zero, gives, pasOf, isPtr]
      have hbl := bare_len L[i]
      rw [bare] at hbl
      have stay : ¬ (chop (unfeed L[i]) = [] ∧ (out = [] ∨ out.getLast? = some [])) → _ := fun h2 => by
        have := ih (i + 1) (by omega) (by omega) (out ++ [bare L[i]]) (by simp; omega) (by rw [List.flatten_append, List.length_append]; simp only [List.flatten_cons, List.flatten_nil, List.append_nil]; rw [bare]; omega)
        have e : keepP out (L[i] :: L.drop (i + 1)) = keepP (out ++ [bare L[i]]) (L.drop (i + 1)) := by
          rw [keepP, if_neg (by simp [h]), if_neg (by rw [bare]; exact h2)]
        rw [← e, bare] at this
        exact this
      have drop : chop (unfeed L[i]) = [] ∧ (out = [] ∨ out.getLast? = some []) → _ := fun h2 => by
        have := ih (i + 1) (by omega) (by omega) out (by omega) (by omega)
        have e : keepP out (L[i] :: L.drop (i + 1)) = keepP out (L.drop (i + 1)) := by
          rw [keepP, if_neg (by simp [h]), if_pos (by rw [bare]; exact h2)]
        rw [← e] at this
        exact this
      by_cases hc : chop (unfeed L[i]) = []
      · rw [show (chop (unfeed L[i]) == []) = true by simp [hc]]
        simp only [eqs, reduceCtorEq, implies_true, List.map_cons, List.map_nil, kl, klL, roD, roL, Option.map_some, Option.map_none, Option.getD_some, Option.getD_none, binVal, binObl, unVal, Nat.reduceEqDiff, if_true, if_false, reduceIte, eq_self, passA, frnD, resD, content, getH, getR, getW, viaNot, viaSlot, viaBox, viaDeep, viaMem, List.contains_cons, List.contains_nil, grabs, peeks, okCells, isCell, place, cellsOf, chunk, elt, List.headD_cons, List.length_cons, List.length_nil, List.take_succ_cons, List.take_zero, List.drop_succ_cons, List.drop_zero, Nat.reduceAdd, Nat.reduceSub, Nat.reduceLeDiff, List.nil_append, List.cons_append, List.append_nil, List.all_cons, List.all_nil, plainC, takeR, setW, over, reCell, Int.reduceToNat, List.getElem?_cons_zero, List.getElem?_cons_succ, List.set_cons_zero, List.take_length, outV, resG, plainV, pack, outVG, outBx, List.set_cons_succ, Ref.idx, Ref.addOff, beq_self_eq_true, Nat.reduceBEq, bxL, Option.bind_some, writeR, isLit, viaBoxes, capsPA, boxPA, nsOf, noDup, boxesAt, argG, passG, passD, rhoIn, rhoOut, idxIn, tr, trL, List.getD_cons_zero, gives, pasOf, isPtr]
        refine ⟨by omega, ?_⟩
        by_cases h0 : out.length = 0
        · rw [show ((out.length : Int) == 0) = true by simp [h0]]
          simp only [hw, eqs, reduceCtorEq, implies_true, List.map_cons, List.map_nil, kl, klL, roD, roL, Option.map_some, Option.map_none, Option.getD_some, Option.getD_none, binVal, binObl, unVal, Nat.reduceEqDiff, if_true, if_false, reduceIte, eq_self, passA, frnD, resD, content, getH, getR, getW, viaNot, viaSlot, viaBox, viaDeep, viaMem, List.contains_cons, List.contains_nil, grabs, peeks, okCells, isCell, place, cellsOf, chunk, elt, List.headD_cons, List.length_cons, List.length_nil, List.take_succ_cons, List.take_zero, List.drop_succ_cons, List.drop_zero, Nat.reduceAdd, Nat.reduceSub, Nat.reduceLeDiff, List.nil_append, List.cons_append, List.append_nil, List.all_cons, List.all_nil, plainC, takeR, setW, over, reCell, Int.reduceToNat, List.getElem?_cons_zero, List.getElem?_cons_succ, List.set_cons_zero, List.take_length, outV, resG, plainV, pack, outVG, outBx, List.set_cons_succ, Ref.idx, Ref.addOff, beq_self_eq_true, Nat.reduceBEq, bxL, Option.bind_some, writeR, isLit, viaBoxes, capsPA, boxPA, nsOf, noDup, boxesAt, argG, passG, passD, rhoIn, rhoOut, idxIn, tr, trL, List.getD_cons_zero, gives, pasOf, isPtr]
          exact drop ⟨hc, .inl (List.length_eq_zero_iff.1 h0)⟩
        · have hk : out.length - 1 < out.length := by omega
          have hw2 : IntKind.i64.wrap ((out.length : Int) - 1) = ((out.length - 1 : Nat) : Int) := wrapN (out.length - 1) (by omega) (by omega)
          rw [show ((out.length : Int) == 0) = false by rw [beq_eq_false_iff_ne]; omega]
          simp only [hw2, eqs, reduceCtorEq, implies_true, List.map_cons, List.map_nil, kl, klL, roD, roL, Option.map_some, Option.map_none, Option.getD_some, Option.getD_none, binVal, binObl, unVal, Nat.reduceEqDiff, if_true, if_false, reduceIte, eq_self, passA, frnD, resD, content, getH, getR, getW, viaNot, viaSlot, viaBox, viaDeep, viaMem, List.contains_cons, List.contains_nil, grabs, peeks, okCells, isCell, place, cellsOf, chunk, elt, List.headD_cons, List.length_cons, List.length_nil, List.take_succ_cons, List.take_zero, List.drop_succ_cons, List.drop_zero, Nat.reduceAdd, Nat.reduceSub, Nat.reduceLeDiff, List.nil_append, List.cons_append, List.append_nil, List.all_cons, List.all_nil, plainC, takeR, setW, over, reCell, Int.reduceToNat, List.getElem?_cons_zero, List.getElem?_cons_succ, List.set_cons_zero, List.take_length, outV, resG, plainV, pack, outVG, outBx, List.set_cons_succ, Ref.idx, Ref.addOff, beq_self_eq_true, Nat.reduceBEq, bxL, Option.bind_some, writeR, isLit, viaBoxes, capsPA, boxPA, nsOf, noDup, boxesAt, argG, passG, passD, rhoIn, rhoOut, idxIn, tr, trL, List.getD_cons_zero, gives, pasOf, isPtr]
          refine ⟨by omega, kn_v50, ?_⟩
          refine of_core (pcl1_snd out _ hk (by omega)) rfl ?_
          simp only [eqs, reduceCtorEq, implies_true, List.map_cons, List.map_nil, kl, klL, roD, roL, Option.map_some, Option.map_none, Option.getD_some, Option.getD_none, binVal, binObl, unVal, Nat.reduceEqDiff, if_true, if_false, reduceIte, eq_self, passA, frnD, resD, content, getH, getR, getW, viaNot, viaSlot, viaBox, viaDeep, viaMem, List.contains_cons, List.contains_nil, grabs, peeks, okCells, isCell, place, cellsOf, chunk, elt, List.headD_cons, List.length_cons, List.length_nil, List.take_succ_cons, List.take_zero, List.drop_succ_cons, List.drop_zero, Nat.reduceAdd, Nat.reduceSub, Nat.reduceLeDiff, List.nil_append, List.cons_append, List.append_nil, List.all_cons, List.all_nil, plainC, takeR, setW, over, reCell, Int.reduceToNat, List.getElem?_cons_zero, List.getElem?_cons_succ, List.set_cons_zero, List.take_length, outV, resG, plainV, pack, outVG, outBx, List.set_cons_succ, Ref.idx, Ref.addOff, beq_self_eq_true, Nat.reduceBEq, bxL, Option.bind_some, writeR, isLit, viaBoxes, capsPA, boxPA, nsOf, noDup, boxesAt, argG, passG, passD, rhoIn, rhoOut, idxIn, tr, trL, List.getD_cons_zero, gives, pasOf, isPtr]
          have hlast : out.getLast? = some out[out.length - 1] := by rw [List.getLast?_eq_getElem?, getE hk]
          by_cases he : out[out.length - 1] = []
          · rw [show (out[out.length - 1] == []) = true by simp [he]]
            simp only [hw, eqs, reduceCtorEq, implies_true, List.map_cons, List.map_nil, kl, klL, roD, roL, Option.map_some, Option.map_none, Option.getD_some, Option.getD_none, binVal, binObl, unVal, Nat.reduceEqDiff, if_true, if_false, reduceIte, eq_self, passA, frnD, resD, content, getH, getR, getW, viaNot, viaSlot, viaBox, viaDeep, viaMem, List.contains_cons, List.contains_nil, grabs, peeks, okCells, isCell, place, cellsOf, chunk, elt, List.headD_cons, List.length_cons, List.length_nil, List.take_succ_cons, List.take_zero, List.drop_succ_cons, List.drop_zero, Nat.reduceAdd, Nat.reduceSub, Nat.reduceLeDiff, List.nil_append, List.cons_append, List.append_nil, List.all_cons, List.all_nil, plainC, takeR, setW, over, reCell, Int.reduceToNat, List.getElem?_cons_zero, List.getElem?_cons_succ, List.set_cons_zero, List.take_length, outV, resG, plainV, pack, outVG, outBx, List.set_cons_succ, Ref.idx, Ref.addOff, beq_self_eq_true, Nat.reduceBEq, bxL, Option.bind_some, writeR, isLit, viaBoxes, capsPA, boxPA, nsOf, noDup, boxesAt, argG, passG, passD, rhoIn, rhoOut, idxIn, tr, trL, List.getD_cons_zero, gives, pasOf, isPtr]
            exact drop ⟨hc, .inr (by rw [hlast, he])⟩
          · rw [show (out[out.length - 1] == []) = false by simp [he]]
            simp only [hw, eqs, reduceCtorEq, implies_true, List.map_cons, List.map_nil, kl, klL, roD, roL, Option.map_some, Option.map_none, Option.getD_some, Option.getD_none, binVal, binObl, unVal, Nat.reduceEqDiff, if_true, if_false, reduceIte, eq_self, passA, frnD, resD, content, getH, getR, getW, viaNot, viaSlot, viaBox, viaDeep, viaMem, List.contains_cons, List.contains_nil, grabs, peeks, okCells, isCell, place, cellsOf, chunk, elt, List.headD_cons, List.length_cons, List.length_nil, List.take_succ_cons, List.take_zero, List.drop_succ_cons, List.drop_zero, Nat.reduceAdd, Nat.reduceSub, Nat.reduceLeDiff, List.nil_append, List.cons_append, List.append_nil, List.all_cons, List.all_nil, plainC, takeR, setW, over, reCell, Int.reduceToNat, List.getElem?_cons_zero, List.getElem?_cons_succ, List.set_cons_zero, List.take_length, outV, resG, plainV, pack, outVG, outBx, List.set_cons_succ, Ref.idx, Ref.addOff, beq_self_eq_true, Nat.reduceBEq, bxL, Option.bind_some, writeR, isLit, viaBoxes, capsPA, boxPA, nsOf, noDup, boxesAt, argG, passG, passD, rhoIn, rhoOut, idxIn, tr, trL, List.getD_cons_zero, gives, pasOf, isPtr]
            repeat (refine ⟨by (try simp only [List.length_append, List.length_cons, List.length_nil]); omega, ?_⟩)
            exact stay fun h2 => h2.2.elim (fun e => h0 (by rw [e]; rfl)) (fun e => by rw [hlast] at e; exact he (by simpa using e))
      · rw [show (chop (unfeed L[i]) == []) = false by simp [hc]]
        simp only [hw, eqs, reduceCtorEq, implies_true, List.map_cons, List.map_nil, kl, klL, roD, roL, Option.map_some, Option.map_none, Option.getD_some, Option.getD_none, binVal, binObl, unVal, Nat.reduceEqDiff, if_true, if_false, reduceIte, eq_self, passA, frnD, resD, content, getH, getR, getW, viaNot, viaSlot, viaBox, viaDeep, viaMem, List.contains_cons, List.contains_nil, grabs, peeks, okCells, isCell, place, cellsOf, chunk, elt, List.headD_cons, List.length_cons, List.length_nil, List.take_succ_cons, List.take_zero, List.drop_succ_cons, List.drop_zero, Nat.reduceAdd, Nat.reduceSub, Nat.reduceLeDiff, List.nil_append, List.cons_append, List.append_nil, List.all_cons, List.all_nil, plainC, takeR, setW, over, reCell, Int.reduceToNat, List.getElem?_cons_zero, List.getElem?_cons_succ, List.set_cons_zero, List.take_length, outV, resG, plainV, pack, outVG, outBx, List.set_cons_succ, Ref.idx, Ref.addOff, beq_self_eq_true, Nat.reduceBEq, bxL, Option.bind_some, writeR, isLit, viaBoxes, capsPA, boxPA, nsOf, noDup, boxesAt, argG, passG, passD, rhoIn, rhoOut, idxIn, tr, trL, List.getD_cons_zero, gives, pasOf, isPtr]
        repeat (refine ⟨by (try simp only [List.length_append, List.length_cons, List.length_nil]); omega, ?_⟩)
        exact stay fun h => hc h.1
theorem pclean_snd (s : Bs) (hs : s.length ≤ 1048576) : Snd Tryd.prog (gl m) 17 [S s] (S (cleanP s)) := by
  refine snd_of (fn := Tryd.f17) (af := pclean) Tryd.func17 (pclean_comp m) mixed (kn_ok m) (Nat.le_of_ble_eq_true rfl) ?_
  simp only [pclean, eqs, reduceCtorEq, implies_true, List.map_cons, List.map_nil, kl, klL, roD, roL, Option.map_some, Option.map_none, Option.getD_some, Option.getD_none, binVal, binObl, unVal, Nat.reduceEqDiff, if_true, if_false, reduceIte, eq_self, passA, frnD, resD, content, getH, getR, getW, viaNot, viaSlot, viaBox, viaDeep, viaMem, List.contains_cons, List.contains_nil, grabs, peeks, okCells, isCell, place, cellsOf, chunk, elt, List.headD_cons, List.length_cons, List.length_nil, List.take_succ_cons, List.take_zero, List.drop_succ_cons, List.drop_zero, Nat.reduceAdd, Nat.reduceSub, Nat.reduceLeDiff, List.nil_append, List.cons_append, List.append_nil, List.all_cons, List.all_nil, plainC, takeR, setW, over, reCell, Int.reduceToNat, List.getElem?_cons_zero, List.getElem?_cons_succ, List.set_cons_zero, List.take_length, outV, resG, plainV, pack, outVG, outBx, List.set_cons_succ, Ref.idx, Ref.addOff, beq_self_eq_true, Nat.reduceBEq, bxL, Option.bind_some, writeR, isLit, viaBoxes, capsPA, boxPA, nsOf, noDup, boxesAt, argG, passG, passD, rhoIn, rhoOut, idxIn, tr, trL, List.getD_cons_zero, gives, pasOf, isPtr]
  refine of_call (psplit_snd s hs) ?_
  simp only [eqs, reduceCtorEq, implies_true, List.map_cons, List.map_nil, kl, klL, roD, roL, Option.map_some, Option.map_none, Option.getD_some, Option.getD_none, binVal, binObl, unVal, Nat.reduceEqDiff, if_true, if_false, reduceIte, eq_self, passA, frnD, resD, content, getH, getR, getW, viaNot, viaSlot, viaBox, viaDeep, viaMem, List.contains_cons, List.contains_nil, grabs, peeks, okCells, isCell, place, cellsOf, chunk, elt, List.headD_cons, List.length_cons, List.length_nil, List.take_succ_cons, List.take_zero, List.drop_succ_cons, List.drop_zero, Nat.reduceAdd, Nat.reduceSub, Nat.reduceLeDiff, List.nil_append, List.cons_append, List.append_nil, List.all_cons, List.all_nil, plainC, takeR, setW, over, reCell, Int.reduceToNat, List.getElem?_cons_zero, List.getElem?_cons_succ, List.set_cons_zero, List.take_length, outV, resG, plainV, pack, outVG, outBx, List.set_cons_succ, Ref.idx, Ref.addOff, beq_self_eq_true, Nat.reduceBEq, bxL, Option.bind_some, writeR, isLit, viaBoxes, capsPA, boxPA, nsOf, noDup, boxesAt, argG, passG, passD, rhoIn, rhoOut, idxIn, tr, trL, List.getD_cons_zero, gives, pasOf, isPtr]
  exact pclean_loop (lines s) (by have := lines_len s; omega) (fun l hl => by have := line_len hl; omega) _ 0 rfl (by omega) [] (by simp) (by simp only [List.flatten_nil, List.length_nil, List.drop_zero, lines_flatten]; omega)
end Go.Ln

