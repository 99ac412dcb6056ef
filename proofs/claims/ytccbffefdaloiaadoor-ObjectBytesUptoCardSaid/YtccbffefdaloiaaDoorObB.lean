import Derived.Test.YtccbffefdaloiaaDoorObA
/- Objects: their bytes, their reading. -/
namespace Go.Aw
open Go Go.Ev Go.Proofs
open Go.Ob (word kindOf blob tree commit tag numGo number dec)
set_option linter.unusedVariables false
set_option linter.unusedSimpArgs false
attribute [local go_sem] eqs implies_true List.map_cons List.map_nil kl klL roD roL Option.map_some Option.map_none Option.getD_some Option.getD_none binVal binObl unVal if_true if_false eq_self passA frnD resD content getH getR getW viaNot viaSlot viaBox viaDeep viaMem List.contains_cons List.contains_nil grabs peeks okCells isCell place cellsOf chunk elt List.headD_cons List.length_cons List.length_nil List.take_succ_cons List.take_zero List.drop_succ_cons List.drop_zero List.nil_append List.cons_append List.append_nil List.all_cons List.all_nil plainC takeR setW over reCell List.getElem?_cons_zero List.getElem?_cons_succ List.set_cons_zero List.take_length outV resG plainV pack outVG outBx List.set_cons_succ Ref.idx Ref.addOff beq_self_eq_true bxL Option.bind_some writeR isLit viaBoxes capsPA boxPA nsOf noDup boxesAt argG passG passD rhoIn rhoOut idxIn tr trL List.getD_cons_zero gives pasOf isPtr Ins.d List.getD_cons_succ resL frnL List.getLast?_nil
variable {m : Int}
def rcheck : AF := ⟨.seq (.reg (.seq [⟨(some (1, true)), none, .box (.tmp 0 true)⟩,
      ⟨(some (2, true)), none, .mov (.cst (.int .i64 0) (.lit (.int .i64 0))) .asg⟩])) [1] [1]
  (.seq (.seq (.reg (.seq [⟨(some (3, false)), none, .fad (.tmp 1 true) 0⟩,
      ⟨(some (4, false)), none, .load (.tmp 3 false) 1 false false⟩,
      ⟨(some (5, false)), none, .call 35 [(.tmp 4 false)]⟩,
      ⟨(some (6, false)), none, .bin .eql (.tmp 5 false) (.cst (.string (str [])) (.lit (.string (str []))))⟩])) [1, 6] [1]
  (.cond (.tmp 6 false)
    (.seq (.reg (.seq [⟨(some (2, true)), none, .mov (.cst (.int .i64 140) (.lit (.int .i64 140))) .asg⟩])) [2] []
    (.ret))
    (.skip))) [1] [1]
  (.seq (.seq (.reg (.seq [⟨(some (7, false)), none, .fad (.tmp 1 true) 1⟩,
      ⟨(some (8, false)), none, .load (.tmp 7 false) 1 false false⟩,
      ⟨(some (9, false)), none, .len (.tmp 8 false)⟩,
      ⟨(some (10, false)), none, .bin .gtr (.tmp 9 false) (.cst (.int .i64 1048576) (.lit (.int .i64 1048576)))⟩])) [10] []
  (.cond (.tmp 10 false)
    (.seq (.reg (.seq [⟨(some (2, true)), none, .mov (.cst (.int .i64 4) (.lit (.int .i64 4))) .asg⟩])) [2] []
    (.ret))
    (.skip))) [] []
  (.seq (.reg (.seq [⟨(some (2, true)), none, .mov (.cst (.int .i64 0) (.lit (.int .i64 0))) .asg⟩])) [2] []
  (.ret)))),
  [.tmp 2]⟩
theorem rcheck_comp (m : Int) : compF Tryd.prog (gl m) [] Tryd.f62 = some rcheck := by kernel_rfl
def obytes : AF := ⟨.seq (.reg (.seq [⟨(some (1, true)), none, .box (.tmp 0 true)⟩,
      ⟨(some (2, true)), none, .mov (.cst (.string (str [])) (.lit (.string (str [])))) .asg⟩,
      ⟨(some (3, true)), none, .mov (.cst (.int .i64 0) (.lit (.int .i64 0))) .asg⟩])) [1] [1]
  (.seq (.reg (.seq [⟨(some (5, false)), none, .fad (.tmp 1 true) 0⟩,
      ⟨(some (6, false)), none, .load (.tmp 5 false) 1 false false⟩,
      ⟨(some (7, false)), none, .call 34 [(.tmp 6 false)]⟩,
      ⟨(some (4, true)), none, .mov (.tmp 7 false) .asg⟩])) [1, 4] [1]
  (.seq (.block 0 (.seq (.reg (.seq [⟨(some (9, false)), none, .mov (.tmp 4 true) .peek⟩,
      ⟨(some (10, false)), none, .bin .eql (.tmp 9 false) (.cst (.string (str [])) (.lit (.string (str []))))⟩,
      ⟨(some (8, false)), none, .mov (.tmp 10 false) .asg⟩])) [1, 4, 8] [1]
    (.cond (.tmp 8 false)
      (.seq (.reg (.seq [⟨(some (2, true)), none, .mov (.cst (.string (str [])) (.lit (.string (str [])))) .asg⟩,
      ⟨(some (3, true)), none, .mov (.cst (.int .i64 140) (.lit (.int .i64 140))) .asg⟩])) [2, 3] []
      (.ret))
      (.seq (.reg (.seq [⟨(some (12, false)), none, .fad (.tmp 1 true) 1⟩,
      ⟨(some (13, false)), none, .load (.tmp 12 false) 1 false false⟩,
      ⟨(some (14, false)), none, .len (.tmp 13 false)⟩,
      ⟨(some (15, false)), none, .bin .gtr (.tmp 14 false) (.cst (.int .i64 1048576) (.lit (.int .i64 1048576)))⟩,
      ⟨(some (11, false)), none, .mov (.tmp 15 false) .asg⟩])) [1, 4, 11] [1]
      (.cond (.tmp 11 false)
        (.seq (.reg (.seq [⟨(some (2, true)), none, .mov (.cst (.string (str [])) (.lit (.string (str [])))) .asg⟩,
      ⟨(some (3, true)), none, .mov (.cst (.int .i64 4) (.lit (.int .i64 4))) .asg⟩])) [2, 3] []
        (.ret))
        (.skip)))))) [1, 4] [1]
  (.seq (.reg (.draw [⟨(some (16, false)), none, .mov (.tmp 4 true) .peek⟩,
      ⟨(some (17, false)), none, .bin .add (.tmp 16 false) (.cst (.string (str [32])) (.lit (.string (str [32]))))⟩,
      ⟨(some (18, false)), none, .fad (.tmp 1 true) 1⟩,
      ⟨(some (19, false)), none, .load (.tmp 18 false) 1 false false⟩,
      ⟨(some (20, false)), none, .len (.tmp 19 false)⟩,
      ⟨(some (21, false)), none, .call 61 [(.tmp 20 false)]⟩,
      ⟨(some (22, false)), none, .bin .add (.tmp 17 false) (.tmp 21 false)⟩,
      ⟨(some (23, false)), none, .bin .add (.tmp 22 false) (.cst (.string (str [0])) (.lit (.string (str [0]))))⟩,
      ⟨(some (24, false)), none, .fad (.tmp 1 true) 1⟩,
      ⟨(some (25, false)), none, .load (.tmp 24 false) 1 false false⟩,
      ⟨(some (26, false)), none, .bin .add (.tmp 23 false) (.tmp 25 false)⟩] (.alt ⟨(some (2, true)), none, .mov (.tmp 26 false) .asg⟩ []
      (.alt ⟨(some (3, true)), none, .mov (.cst (.int .i64 0) (.lit (.int .i64 0))) .asg⟩ []
      .done .no) .no))) [2, 3] []
  (.ret)))),
  [.tmp 2, .tmp 3]⟩
theorem obytes_comp (m : Int) : compF Tryd.prog (gl m) [] Tryd.f27 = some obytes := by kernel_rfl
def rbytes : AF := ⟨.seq (.reg (.seq [⟨(some (1, true)), none, .box (.tmp 0 true)⟩,
      ⟨(some (2, true)), none, .mov (.cst (.string (str [])) (.lit (.string (str [])))) .asg⟩,
      ⟨(some (3, true)), none, .mov (.cst (.int .i64 0) (.lit (.int .i64 0))) .asg⟩])) [1] [1]
  (.seq (.seq (.reg (.seq [⟨(some (5, false)), none, .load (.tmp 1 true) 2 true false⟩,
      ⟨(some (6, false)), none, .call 62 [(.tmp 5 false)]⟩,
      ⟨(some (4, true)), none, .mov (.tmp 6 false) .asg⟩])) [1, 4] [1]
  (.seq (.reg (.seq [⟨(some (7, false)), none, .mov (.tmp 4 true) .peek⟩,
      ⟨(some (8, false)), none, .bin .neq (.tmp 7 false) (.cst (.int .i64 0) (.lit (.int .i64 0)))⟩])) [1, 4, 8] [1]
  (.cond (.tmp 8 false)
    (.seq (.reg (.seq [⟨(some (9, false)), none, .mov (.tmp 4 true) .take⟩,
      ⟨(some (2, true)), none, .mov (.cst (.string (str [])) (.lit (.string (str [])))) .asg⟩,
      ⟨(some (3, true)), none, .mov (.tmp 9 false) .asg⟩])) [2, 3] []
    (.ret))
    (.skip)))) [1] [1]
  (.seq (.reg (.draw [⟨(some (10, false)), none, .fad (.tmp 1 true) 0⟩,
      ⟨(some (11, false)), none, .load (.tmp 10 false) 1 false false⟩,
      ⟨(some (12, false)), none, .call 35 [(.tmp 11 false)]⟩,
      ⟨(some (13, false)), none, .bin .add (.tmp 12 false) (.cst (.string (str [32])) (.lit (.string (str [32]))))⟩,
      ⟨(some (14, false)), none, .fad (.tmp 1 true) 1⟩,
      ⟨(some (15, false)), none, .load (.tmp 14 false) 1 false false⟩,
      ⟨(some (16, false)), none, .len (.tmp 15 false)⟩,
      ⟨(some (17, false)), none, .call 63 [(.tmp 16 false)]⟩,
      ⟨(some (18, false)), none, .bin .add (.tmp 13 false) (.tmp 17 false)⟩,
      ⟨(some (19, false)), none, .bin .add (.tmp 18 false) (.cst (.string (str [0])) (.lit (.string (str [0]))))⟩,
      ⟨(some (20, false)), none, .fad (.tmp 1 true) 1⟩,
      ⟨(some (21, false)), none, .load (.tmp 20 false) 1 false false⟩,
      ⟨(some (22, false)), none, .bin .add (.tmp 19 false) (.tmp 21 false)⟩] (.alt ⟨(some (2, true)), none, .mov (.tmp 22 false) .asg⟩ []
      (.alt ⟨(some (3, true)), none, .mov (.cst (.int .i64 0) (.lit (.int .i64 0))) .asg⟩ []
      .done .no) .no))) [2, 3] []
  (.ret))),
  [.tmp 2, .tmp 3]⟩
theorem rbytes_comp (m : Int) : compF Tryd.prog (gl m) [] Tryd.f28 = some rbytes := by kernel_rfl
def oid : AF := ⟨.seq (.reg (.seq [⟨(some (1, true)), none, .box (.tmp 0 true)⟩,
      ⟨(some (2, true)), none, .mov (.cst (.string (str [])) (.lit (.string (str [])))) .asg⟩])) [1] [1]
  (.seq (.reg (.seq [⟨(some (6, false)), none, .load (.tmp 1 true) 2 true false⟩,
      ⟨(some (7, false)), none, .call 27 [(.tmp 6 false)]⟩,
      ⟨(some (5, false)), none, .mov (.tmp 7 false) .peek⟩,
      ⟨(some (8, false)), none, .ext (.tmp 5 false) 0⟩,
      ⟨(some (9, false)), none, .ext (.tmp 5 false) 1⟩,
      ⟨(some (3, true)), none, .mov (.tmp 8 false) .asg⟩,
      ⟨(some (4, true)), none, .mov (.tmp 9 false) .asg⟩])) [3, 4] []
  (.seq (.seq (.reg (.seq [⟨(some (10, false)), none, .mov (.tmp 4 true) .peek⟩,
      ⟨(some (11, false)), none, .bin .neq (.tmp 10 false) (.cst (.int .i64 0) (.lit (.int .i64 0)))⟩])) [3, 11] []
  (.cond (.tmp 11 false)
    (.seq (.reg (.seq [⟨(some (2, true)), none, .mov (.cst (.string (str [])) (.lit (.string (str [])))) .asg⟩])) [2] []
    (.ret))
    (.skip))) [3] []
  (.seq (.reg (.seq [⟨(some (12, false)), none, .mov (.tmp 3 true) .peek⟩,
      ⟨(some (13, false)), none, .call 64 [(.tmp 12 false)]⟩,
      ⟨(some (2, true)), none, .mov (.tmp 13 false) .asg⟩])) [2] []
  (.ret)))),
  [.tmp 2]⟩
theorem oid_comp (m : Int) : compF Tryd.prog (gl m) [] Tryd.f29 = some oid := by kernel_rfl
def rid : AF := ⟨.seq (.reg (.seq [⟨(some (1, true)), none, .box (.tmp 0 true)⟩,
      ⟨(some (2, true)), none, .mov (.cst (.string (str [])) (.lit (.string (str [])))) .asg⟩])) [1] [1]
  (.seq (.reg (.seq [⟨(some (6, false)), none, .load (.tmp 1 true) 2 true false⟩,
      ⟨(some (7, false)), none, .call 28 [(.tmp 6 false)]⟩,
      ⟨(some (5, false)), none, .mov (.tmp 7 false) .peek⟩,
      ⟨(some (8, false)), none, .ext (.tmp 5 false) 0⟩,
      ⟨(some (9, false)), none, .ext (.tmp 5 false) 1⟩,
      ⟨(some (3, true)), none, .mov (.tmp 8 false) .asg⟩,
      ⟨(some (4, true)), none, .mov (.tmp 9 false) .asg⟩])) [3, 4] []
  (.seq (.seq (.reg (.seq [⟨(some (10, false)), none, .mov (.tmp 4 true) .peek⟩,
      ⟨(some (11, false)), none, .bin .neq (.tmp 10 false) (.cst (.int .i64 0) (.lit (.int .i64 0)))⟩])) [3, 11] []
  (.cond (.tmp 11 false)
    (.seq (.reg (.seq [⟨(some (2, true)), none, .mov (.cst (.string (str [])) (.lit (.string (str [])))) .asg⟩])) [2] []
    (.ret))
    (.skip))) [3] []
  (.seq (.reg (.seq [⟨(some (12, false)), none, .mov (.tmp 3 true) .peek⟩,
      ⟨(some (13, false)), none, .call 65 [(.tmp 12 false)]⟩,
      ⟨(some (2, true)), none, .mov (.tmp 13 false) .asg⟩])) [2] []
  (.ret)))),
  [.tmp 2]⟩
theorem rid_comp (m : Int) : compF Tryd.prog (gl m) [] Tryd.f30 = some rid := by kernel_rfl
def osame : AF := ⟨.seq (.reg (.seq [⟨(some (2, true)), none, .box (.tmp 0 true)⟩,
      ⟨(some (3, true)), none, .box (.tmp 1 true)⟩,
      ⟨(some (4, true)), none, .mov (.cst (.bool false) (.lit (.bool false))) .asg⟩])) [2, 3] [2, 3]
  (.seq (.reg (.seq [⟨(some (5, false)), none, .load (.tmp 2 true) 2 true false⟩,
      ⟨(some (6, false)), none, .load (.tmp 3 true) 2 true false⟩,
      ⟨(some (7, false)), none, .eqS [0, 1] false (.tmp 5 false) (.tmp 6 false)⟩,
      ⟨(some (4, true)), none, .mov (.tmp 7 false) .asg⟩])) [4] []
  (.ret)),
  [.tmp 4]⟩
theorem osame_comp (m : Int) : compF Tryd.prog (gl m) [] Tryd.f31 = some osame := by kernel_rfl
def oparse : AF := ⟨.seq (.reg (.seq [⟨(some (2, true)), none, .new [(.lit (.int .i64 0)), (.lit (.string (str [])))]⟩,
      ⟨(some (3, true)), none, .mov (.cst (.int .i64 0) (.lit (.int .i64 0))) .asg⟩])) [0, 2] [2]
  (.seq (.reg (.seq [⟨(some (14, false)), none, .mov (.tmp 0 true) .peek⟩,
      ⟨(some (15, false)), none, .call 66 [(.tmp 14 false), (.cst (.string (str [32])) (.lit (.string (str [32]))))]⟩,
      ⟨(some (13, false)), none, .mov (.tmp 15 false) .peek⟩,
      ⟨(some (16, false)), none, .ext (.tmp 13 false) 0⟩,
      ⟨(some (17, false)), none, .ext (.tmp 13 false) 1⟩,
      ⟨(some (18, false)), none, .ext (.tmp 13 false) 2⟩,
      ⟨(some (4, true)), none, .mov (.tmp 16 false) .asg⟩,
      ⟨(some (5, true)), none, .mov (.tmp 17 false) .asg⟩,
      ⟨(some (6, true)), none, .mov (.tmp 18 false) .asg⟩])) [2, 4, 5, 6] [2]
  (.seq (.reg (.seq [⟨(some (20, false)), none, .mov (.tmp 5 true) .peek⟩,
      ⟨(some (21, false)), none, .call 66 [(.tmp 20 false), (.cst (.string (str [0])) (.lit (.string (str [0]))))]⟩,
      ⟨(some (19, false)), none, .mov (.tmp 21 false) .peek⟩,
      ⟨(some (22, false)), none, .ext (.tmp 19 false) 0⟩,
      ⟨(some (23, false)), none, .ext (.tmp 19 false) 1⟩,
      ⟨(some (24, false)), none, .ext (.tmp 19 false) 2⟩,
      ⟨(some (7, true)), none, .mov (.tmp 22 false) .asg⟩,
      ⟨(some (8, true)), none, .mov (.tmp 23 false) .asg⟩,
      ⟨(some (9, true)), none, .mov (.tmp 24 false) .asg⟩])) [2, 4, 6, 7, 8, 9] [2]
  (.seq (.reg (.seq [⟨(some (25, false)), none, .mov (.tmp 4 true) .peek⟩,
      ⟨(some (26, false)), none, .call 36 [(.tmp 25 false)]⟩,
      ⟨(some (10, true)), none, .mov (.tmp 26 false) .asg⟩])) [2, 6, 7, 8, 9, 10] [2]
  (.seq (.reg (.seq [⟨(some (28, false)), none, .mov (.tmp 7 true) .peek⟩,
      ⟨(some (29, false)), none, .call 67 [(.tmp 28 false)]⟩,
      ⟨(some (27, false)), none, .mov (.tmp 29 false) .peek⟩,
      ⟨(some (30, false)), none, .ext (.tmp 27 false) 0⟩,
      ⟨(some (31, false)), none, .ext (.tmp 27 false) 1⟩,
      ⟨(some (11, true)), none, .mov (.tmp 30 false) .asg⟩,
      ⟨(some (12, true)), none, .mov (.tmp 31 false) .asg⟩])) [2, 6, 8, 9, 10, 11, 12] [2]
  (.seq (.block 0 (.seq (.reg (.seq [⟨(some (33, false)), none, .mov (.tmp 6 true) .peek⟩,
      ⟨(some (34, false)), none, .un .not (.tmp 33 false)⟩,
      ⟨(some (35, false)), none, .mov (.tmp 34 false) .peek⟩,
      ⟨(some (36, false)), (some (35, false)), .mov (.tmp 9 true) .peek⟩,
      ⟨(some (37, false)), (some (35, false)), .un .not (.tmp 36 false)⟩,
      ⟨(some (38, false)), none, .pick (.tmp 35 false) (.cst (.bool true) (.lit (.bool true))) (.tmp 37 false)⟩,
      ⟨(some (39, false)), none, .mov (.tmp 38 false) .peek⟩,
      ⟨(some (40, false)), (some (39, false)), .mov (.tmp 10 true) .peek⟩,
      ⟨(some (41, false)), (some (39, false)), .bin .eql (.tmp 40 false) (.cst (.int .i64 0) (.lit (.int .i64 0)))⟩,
      ⟨(some (42, false)), none, .pick (.tmp 39 false) (.cst (.bool true) (.lit (.bool true))) (.tmp 41 false)⟩,
      ⟨(some (43, false)), none, .mov (.tmp 42 false) .peek⟩,
      ⟨(some (44, false)), (some (43, false)), .mov (.tmp 12 true) .peek⟩,
      ⟨(some (45, false)), (some (43, false)), .un .not (.tmp 44 false)⟩,
      ⟨(some (46, false)), none, .pick (.tmp 43 false) (.cst (.bool true) (.lit (.bool true))) (.tmp 45 false)⟩,
      ⟨(some (32, false)), none, .mov (.tmp 46 false) .asg⟩])) [2, 8, 10, 11, 32] [2]
    (.cond (.tmp 32 false)
      (.seq (.reg (.seq [⟨(some (47, false)), none, .build [(.lit (.int .i64 0)), (.lit (.string (str [])))] []⟩,
      ⟨none, none, .store (.tmp 2 true) (.tmp 47 false) 2⟩,
      ⟨(some (3, true)), none, .mov (.cst (.int .i64 2) (.lit (.int .i64 2))) .asg⟩])) [2, 3] [2]
      (.ret))
      (.seq (.reg (.seq [⟨(some (49, false)), none, .mov (.tmp 11 true) .peek⟩,
      ⟨(some (50, false)), none, .bin .gtr (.tmp 49 false) (.cst (.int .i64 1048576) (.lit (.int .i64 1048576)))⟩,
      ⟨(some (48, false)), none, .mov (.tmp 50 false) .asg⟩])) [2, 8, 10, 11, 48] [2]
      (.cond (.tmp 48 false)
        (.seq (.reg (.seq [⟨(some (51, false)), none, .build [(.lit (.int .i64 0)), (.lit (.string (str [])))] []⟩,
      ⟨none, none, .store (.tmp 2 true) (.tmp 51 false) 2⟩,
      ⟨(some (3, true)), none, .mov (.cst (.int .i64 4) (.lit (.int .i64 4))) .asg⟩])) [2, 3] [2]
        (.ret))
        (.seq (.reg (.seq [⟨(some (53, false)), none, .mov (.tmp 8 true) .peek⟩,
      ⟨(some (54, false)), none, .len (.tmp 53 false)⟩,
      ⟨(some (55, false)), none, .mov (.tmp 11 true) .peek⟩,
      ⟨(some (56, false)), none, .bin .lss (.tmp 54 false) (.tmp 55 false)⟩,
      ⟨(some (52, false)), none, .mov (.tmp 56 false) .asg⟩])) [2, 8, 10, 11, 52] [2]
        (.cond (.tmp 52 false)
          (.seq (.reg (.seq [⟨(some (57, false)), none, .build [(.lit (.int .i64 0)), (.lit (.string (str [])))] []⟩,
      ⟨none, none, .store (.tmp 2 true) (.tmp 57 false) 2⟩,
      ⟨(some (3, true)), none, .mov (.cst (.int .i64 3) (.lit (.int .i64 3))) .asg⟩])) [2, 3] [2]
          (.ret))
          (.seq (.reg (.seq [⟨(some (59, false)), none, .mov (.tmp 8 true) .peek⟩,
      ⟨(some (60, false)), none, .len (.tmp 59 false)⟩,
      ⟨(some (61, false)), none, .mov (.tmp 11 true) .peek⟩,
      ⟨(some (62, false)), none, .bin .gtr (.tmp 60 false) (.tmp 61 false)⟩,
      ⟨(some (58, false)), none, .mov (.tmp 62 false) .asg⟩])) [2, 8, 10, 58] [2]
          (.cond (.tmp 58 false)
            (.seq (.reg (.seq [⟨(some (63, false)), none, .build [(.lit (.int .i64 0)), (.lit (.string (str [])))] []⟩,
      ⟨none, none, .store (.tmp 2 true) (.tmp 63 false) 2⟩,
      ⟨(some (3, true)), none, .mov (.cst (.int .i64 2) (.lit (.int .i64 2))) .asg⟩])) [2, 3] [2]
            (.ret))
            (.skip)))))))))) [2, 8, 10] [2]
  (.seq (.reg (.seq [⟨(some (64, false)), none, .mov (.tmp 10 true) .take⟩,
      ⟨(some (65, false)), none, .mov (.tmp 8 true) .take⟩,
      ⟨(some (66, false)), none, .build [(.lit (.int .i64 0)), (.lit (.string (str [])))] [(0, 1, (.tmp 64 false)), (1, 1, (.tmp 65 false))]⟩,
      ⟨none, none, .store (.tmp 2 true) (.tmp 66 false) 2⟩,
      ⟨(some (3, true)), none, .mov (.cst (.int .i64 0) (.lit (.int .i64 0))) .asg⟩])) [2, 3] [2]
  (.ret))))))),
  [.cell 2 2 true, .tmp 3]⟩
theorem oparse_comp (m : Int) : compF Tryd.prog (gl m) [] Tryd.f32 = some oparse := by kernel_rfl
def rparse : AF := ⟨.seq (.reg (.seq [⟨(some (2, true)), none, .new [(.lit (.int .i64 0)), (.lit (.string (str [])))]⟩,
      ⟨(some (3, true)), none, .mov (.cst (.int .i64 0) (.lit (.int .i64 0))) .asg⟩])) [0, 2] [2]
  (.seq (.reg (.seq [⟨(some (7, false)), none, .mov (.tmp 0 true) .peek⟩,
      ⟨(some (8, false)), none, .call 68 [(.tmp 7 false), (.cst (.int .u8 32) (.lit (.int .u8 32))), (.cst (.int .i64 0) (.lit (.int .i64 0)))]⟩,
      ⟨(some (4, true)), none, .mov (.tmp 8 false) .asg⟩])) [0, 2, 4] [2]
  (.seq (.reg (.seq [⟨(some (9, false)), none, .mov (.tmp 0 true) .peek⟩,
      ⟨(some (10, false)), none, .call 68 [(.tmp 9 false), (.cst (.int .u8 0) (.lit (.int .u8 0))), (.cst (.int .i64 0) (.lit (.int .i64 0)))]⟩,
      ⟨(some (5, true)), none, .mov (.tmp 10 false) .asg⟩])) [0, 2, 4, 5] [2]
  (.seq (.seq (.reg (.seq [⟨(some (11, false)), none, .mov (.tmp 4 true) .peek⟩,
      ⟨(some (12, false)), none, .bin .lss (.tmp 11 false) (.cst (.int .i64 0) (.lit (.int .i64 0)))⟩,
      ⟨(some (13, false)), none, .mov (.tmp 12 false) .peek⟩,
      ⟨(some (14, false)), (some (13, false)), .mov (.tmp 5 true) .peek⟩,
      ⟨(some (15, false)), (some (13, false)), .mov (.tmp 4 true) .peek⟩,
      ⟨(some (16, false)), (some (13, false)), .bin .lss (.tmp 14 false) (.tmp 15 false)⟩,
      ⟨(some (17, false)), none, .pick (.tmp 13 false) (.cst (.bool true) (.lit (.bool true))) (.tmp 16 false)⟩,
      ⟨(some (18, false)), none, .mov (.tmp 17 false) .peek⟩,
      ⟨(some (19, false)), (some (18, false)), .mov (.tmp 0 true) .peek⟩,
      ⟨(some (20, false)), (some (18, false)), .mov (.tmp 4 true) .peek⟩,
      ⟨(some (21, false)), (some (18, false)), .sub (.tmp 19 false) none (some (.tmp 20 false))⟩,
      ⟨(some (22, false)), (some (18, false)), .call 37 [(.tmp 21 false)]⟩,
      ⟨(some (23, false)), (some (18, false)), .bin .eql (.tmp 22 false) (.cst (.int .i64 0) (.lit (.int .i64 0)))⟩,
      ⟨(some (24, false)), none, .pick (.tmp 18 false) (.cst (.bool true) (.lit (.bool true))) (.tmp 23 false)⟩])) [0, 2, 4, 5, 24] [2]
  (.cond (.tmp 24 false)
    (.seq (.reg (.seq [⟨(some (25, false)), none, .build [(.lit (.int .i64 0)), (.lit (.string (str [])))] []⟩,
      ⟨none, none, .store (.tmp 2 true) (.tmp 25 false) 2⟩,
      ⟨(some (3, true)), none, .mov (.cst (.int .i64 2) (.lit (.int .i64 2))) .asg⟩])) [2, 3] [2]
    (.ret))
    (.skip))) [0, 2, 4, 5] [2]
  (.seq (.reg (.seq [⟨(some (26, false)), none, .mov (.tmp 0 true) .peek⟩,
      ⟨(some (27, false)), none, .mov (.tmp 4 true) .peek⟩,
      ⟨(some (28, false)), none, .bin .add (.tmp 27 false) (.cst (.int .i64 1) (.lit (.int .i64 1)))⟩,
      ⟨(some (29, false)), none, .mov (.tmp 5 true) .peek⟩,
      ⟨(some (30, false)), none, .sub (.tmp 26 false) (some (.tmp 28 false)) (some (.tmp 29 false))⟩,
      ⟨(some (31, false)), none, .call 69 [(.tmp 30 false), (.cst (.int .i64 7) (.lit (.int .i64 7)))]⟩,
      ⟨(some (6, true)), none, .mov (.tmp 31 false) .asg⟩])) [0, 2, 4, 5, 6] [2]
  (.seq (.seq (.reg (.seq [⟨(some (32, false)), none, .mov (.tmp 6 true) .peek⟩,
      ⟨(some (33, false)), none, .bin .lss (.tmp 32 false) (.cst (.int .i64 0) (.lit (.int .i64 0)))⟩])) [0, 2, 4, 5, 6, 33] [2]
  (.cond (.tmp 33 false)
    (.seq (.reg (.seq [⟨(some (34, false)), none, .build [(.lit (.int .i64 0)), (.lit (.string (str [])))] []⟩,
      ⟨none, none, .store (.tmp 2 true) (.tmp 34 false) 2⟩,
      ⟨(some (3, true)), none, .mov (.cst (.int .i64 2) (.lit (.int .i64 2))) .asg⟩])) [2, 3] [2]
    (.ret))
    (.skip))) [0, 2, 4, 5, 6] [2]
  (.seq (.seq (.reg (.seq [⟨(some (35, false)), none, .mov (.tmp 6 true) .peek⟩,
      ⟨(some (36, false)), none, .bin .gtr (.tmp 35 false) (.cst (.int .i64 1048576) (.lit (.int .i64 1048576)))⟩])) [0, 2, 4, 5, 6, 36] [2]
  (.cond (.tmp 36 false)
    (.seq (.reg (.seq [⟨(some (37, false)), none, .build [(.lit (.int .i64 0)), (.lit (.string (str [])))] []⟩,
      ⟨none, none, .store (.tmp 2 true) (.tmp 37 false) 2⟩,
      ⟨(some (3, true)), none, .mov (.cst (.int .i64 4) (.lit (.int .i64 4))) .asg⟩])) [2, 3] [2]
    (.ret))
    (.skip))) [0, 2, 4, 5, 6] [2]
  (.seq (.seq (.reg (.seq [⟨(some (38, false)), none, .mov (.tmp 0 true) .peek⟩,
      ⟨(some (39, false)), none, .len (.tmp 38 false)⟩,
      ⟨(some (40, false)), none, .mov (.tmp 5 true) .peek⟩,
      ⟨(some (41, false)), none, .bin .sub (.tmp 39 false) (.tmp 40 false)⟩,
      ⟨(some (42, false)), none, .bin .sub (.tmp 41 false) (.cst (.int .i64 1) (.lit (.int .i64 1)))⟩,
      ⟨(some (43, false)), none, .mov (.tmp 6 true) .peek⟩,
      ⟨(some (44, false)), none, .bin .lss (.tmp 42 false) (.tmp 43 false)⟩])) [0, 2, 4, 5, 6, 44] [2]
  (.cond (.tmp 44 false)
    (.seq (.reg (.seq [⟨(some (45, false)), none, .build [(.lit (.int .i64 0)), (.lit (.string (str [])))] []⟩,
      ⟨none, none, .store (.tmp 2 true) (.tmp 45 false) 2⟩,
      ⟨(some (3, true)), none, .mov (.cst (.int .i64 3) (.lit (.int .i64 3))) .asg⟩])) [2, 3] [2]
    (.ret))
    (.skip))) [0, 2, 4, 5, 6] [2]
  (.seq (.seq (.reg (.seq [⟨(some (46, false)), none, .mov (.tmp 0 true) .peek⟩,
      ⟨(some (47, false)), none, .len (.tmp 46 false)⟩,
      ⟨(some (48, false)), none, .mov (.tmp 5 true) .peek⟩,
      ⟨(some (49, false)), none, .bin .sub (.tmp 47 false) (.tmp 48 false)⟩,
      ⟨(some (50, false)), none, .bin .sub (.tmp 49 false) (.cst (.int .i64 1) (.lit (.int .i64 1)))⟩,
      ⟨(some (51, false)), none, .mov (.tmp 6 true) .peek⟩,
      ⟨(some (52, false)), none, .bin .gtr (.tmp 50 false) (.tmp 51 false)⟩])) [0, 2, 4, 5, 52] [2]
  (.cond (.tmp 52 false)
    (.seq (.reg (.seq [⟨(some (53, false)), none, .build [(.lit (.int .i64 0)), (.lit (.string (str [])))] []⟩,
      ⟨none, none, .store (.tmp 2 true) (.tmp 53 false) 2⟩,
      ⟨(some (3, true)), none, .mov (.cst (.int .i64 2) (.lit (.int .i64 2))) .asg⟩])) [2, 3] [2]
    (.ret))
    (.skip))) [0, 2, 4, 5] [2]
  (.seq (.reg (.draw [⟨(some (54, false)), none, .mov (.tmp 0 true) .peek⟩,
      ⟨(some (55, false)), none, .mov (.tmp 4 true) .peek⟩,
      ⟨(some (56, false)), none, .sub (.tmp 54 false) none (some (.tmp 55 false))⟩,
      ⟨(some (57, false)), none, .call 37 [(.tmp 56 false)]⟩,
      ⟨(some (58, false)), none, .mov (.tmp 0 true) .peek⟩,
      ⟨(some (59, false)), none, .mov (.tmp 5 true) .peek⟩,
      ⟨(some (60, false)), none, .bin .add (.tmp 59 false) (.cst (.int .i64 1) (.lit (.int .i64 1)))⟩,
      ⟨(some (61, false)), none, .sub (.tmp 58 false) (some (.tmp 60 false)) none⟩,
      ⟨(some (62, false)), none, .buildP [(.lit (.int .i64 0)), (.lit (.string (str [])))] [(0, 1, (.tmp 57 false)), (1, 1, (.tmp 61 false))]⟩] (.alt ⟨none, none, .store (.tmp 2 true) (.tmp 62 false) 2⟩ []
      (.alt ⟨(some (3, true)), none, .mov (.cst (.int .i64 0) (.lit (.int .i64 0))) .asg⟩ []
      .done .no) .no))) [2, 3] [2]
  (.ret)))))))))),
  [.cell 2 2 true, .tmp 3]⟩
theorem rparse_comp (m : Int) : compF Tryd.prog (gl m) [] Tryd.f33 = some rparse := by kernel_rfl
def oblives : AF := ⟨.seq (.reg (.seq [⟨(some (0, true)), none, .mov (.cst (.bool false) (.lit (.bool false))) .asg⟩])) [] []
  (.seq (.reg (.seq [⟨(some (10, false)), none, .build [(.lit (.int .i64 0)), (.lit (.string (str [])))] [(0, 1, (.cst (.int .i64 1) (.lit (.int .i64 1)))), (1, 1, (.cst (.string (str [97, 98])) (.lit (.string (str [97, 98])))))]⟩,
      ⟨(some (11, false)), none, .call 27 [(.tmp 10 false)]⟩,
      ⟨(some (9, false)), none, .mov (.tmp 11 false) .peek⟩,
      ⟨(some (12, false)), none, .ext (.tmp 9 false) 0⟩,
      ⟨(some (13, false)), none, .ext (.tmp 9 false) 1⟩,
      ⟨(some (1, true)), none, .mov (.tmp 12 false) .asg⟩,
      ⟨(some (2, true)), none, .mov (.tmp 13 false) .asg⟩])) [1, 2] []
  (.seq (.reg (.seq [⟨(some (15, false)), none, .call 32 [(.cst (.string (str [116, 114, 101, 101, 32, 49, 0, 120])) (.lit (.string (str [116, 114, 101, 101, 32, 49, 0, 120]))))]⟩,
      ⟨(some (14, false)), none, .mov (.tmp 15 false) .peek⟩,
      ⟨(some (16, false)), none, .ext (.tmp 14 false) 0⟩,
      ⟨(some (17, false)), none, .ext (.tmp 14 false) 1⟩,
      ⟨(some (3, true)), none, .new [(.lit (.int .i64 0)), (.lit (.string (str [])))]⟩,
      ⟨none, none, .store (.tmp 3 true) (.tmp 16 false) 2⟩,
      ⟨(some (4, true)), none, .mov (.tmp 17 false) .asg⟩])) [1, 2, 3, 4] [3]
  (.seq (.reg (.seq [⟨(some (19, false)), none, .call 32 [(.cst (.string (str [98, 108, 111, 98, 32, 50, 0, 120])) (.lit (.string (str [98, 108, 111, 98, 32, 50, 0, 120]))))]⟩,
      ⟨(some (18, false)), none, .mov (.tmp 19 false) .peek⟩,
      ⟨(some (20, false)), none, .ext (.tmp 18 false) 0⟩,
      ⟨(some (21, false)), none, .ext (.tmp 18 false) 1⟩,
      ⟨(some (5, false)), none, .new [(.lit (.int .i64 0)), (.lit (.string (str [])))]⟩,
      ⟨none, none, .store (.tmp 5 false) (.tmp 20 false) 2⟩,
      ⟨(some (6, true)), none, .mov (.tmp 21 false) .asg⟩])) [1, 2, 3, 4, 6] [3]
  (.seq (.reg (.seq [⟨(some (23, false)), none, .call 32 [(.cst (.string (str [98, 108, 111, 98, 32, 48, 49, 0, 120])) (.lit (.string (str [98, 108, 111, 98, 32, 48, 49, 0, 120]))))]⟩,
      ⟨(some (22, false)), none, .mov (.tmp 23 false) .peek⟩,
      ⟨(some (24, false)), none, .ext (.tmp 22 false) 0⟩,
      ⟨(some (25, false)), none, .ext (.tmp 22 false) 1⟩,
      ⟨(some (7, false)), none, .new [(.lit (.int .i64 0)), (.lit (.string (str [])))]⟩,
      ⟨none, none, .store (.tmp 7 false) (.tmp 24 false) 2⟩,
      ⟨(some (8, true)), none, .mov (.tmp 25 false) .asg⟩])) [1, 2, 3, 4, 6, 8] [3]
  (.seq (.reg (.draw [⟨(some (26, false)), none, .mov (.tmp 1 true) .peek⟩,
      ⟨(some (27, false)), none, .bin .eql (.tmp 26 false) (.cst (.string (str [98, 108, 111, 98, 32, 50, 0, 97, 98])) (.lit (.string (str [98, 108, 111, 98, 32, 50, 0, 97, 98]))))⟩,
      ⟨(some (28, false)), none, .mov (.tmp 27 false) .peek⟩,
      ⟨(some (29, false)), (some (28, true)), .mov (.tmp 2 true) .peek⟩,
      ⟨(some (30, false)), (some (28, true)), .bin .eql (.tmp 29 false) (.cst (.int .i64 0) (.lit (.int .i64 0)))⟩,
      ⟨(some (31, false)), none, .pick (.tmp 28 false) (.tmp 30 false) (.cst (.bool false) (.lit (.bool false)))⟩,
      ⟨(some (32, false)), none, .mov (.tmp 31 false) .peek⟩,
      ⟨(some (33, false)), (some (32, true)), .load (.tmp 3 true) 2 true false⟩,
      ⟨(some (34, false)), (some (32, true)), .buildP [(.lit (.int .i64 0)), (.lit (.string (str [])))] [(0, 1, (.cst (.int .i64 2) (.lit (.int .i64 2)))), (1, 1, (.cst (.string (str [120])) (.lit (.string (str [120])))))]⟩,
      ⟨(some (35, false)), (some (32, true)), .eqS [0, 1] false (.tmp 33 false) (.tmp 34 false)⟩,
      ⟨(some (36, false)), none, .pick (.tmp 32 false) (.tmp 35 false) (.cst (.bool false) (.lit (.bool false)))⟩,
      ⟨(some (37, false)), none, .mov (.tmp 36 false) .peek⟩,
      ⟨(some (38, false)), (some (37, true)), .mov (.tmp 4 true) .peek⟩,
      ⟨(some (39, false)), (some (37, true)), .bin .eql (.tmp 38 false) (.cst (.int .i64 0) (.lit (.int .i64 0)))⟩,
      ⟨(some (40, false)), none, .pick (.tmp 37 false) (.tmp 39 false) (.cst (.bool false) (.lit (.bool false)))⟩,
      ⟨(some (41, false)), none, .mov (.tmp 40 false) .peek⟩,
      ⟨(some (42, false)), (some (41, true)), .mov (.tmp 6 true) .peek⟩,
      ⟨(some (43, false)), (some (41, true)), .bin .eql (.tmp 42 false) (.cst (.int .i64 3) (.lit (.int .i64 3)))⟩,
      ⟨(some (44, false)), none, .pick (.tmp 41 false) (.tmp 43 false) (.cst (.bool false) (.lit (.bool false)))⟩,
      ⟨(some (45, false)), none, .mov (.tmp 44 false) .peek⟩,
      ⟨(some (46, false)), (some (45, true)), .mov (.tmp 8 true) .peek⟩,
      ⟨(some (47, false)), (some (45, true)), .bin .eql (.tmp 46 false) (.cst (.int .i64 2) (.lit (.int .i64 2)))⟩,
      ⟨(some (48, false)), none, .pick (.tmp 45 false) (.tmp 47 false) (.cst (.bool false) (.lit (.bool false)))⟩,
      ⟨(some (49, false)), none, .mov (.tmp 48 false) .peek⟩,
      ⟨(some (50, false)), (some (49, true)), .call 34 [(.cst (.int .i64 3) (.lit (.int .i64 3)))]⟩,
      ⟨(some (51, false)), (some (49, true)), .bin .eql (.tmp 50 false) (.cst (.string (str [99, 111, 109, 109, 105, 116])) (.lit (.string (str [99, 111, 109, 109, 105, 116]))))⟩,
      ⟨(some (52, false)), none, .pick (.tmp 49 false) (.tmp 51 false) (.cst (.bool false) (.lit (.bool false)))⟩,
      ⟨(some (53, false)), none, .mov (.tmp 52 false) .peek⟩,
      ⟨(some (54, false)), (some (53, true)), .call 36 [(.cst (.string (str [116, 97, 103])) (.lit (.string (str [116, 97, 103]))))]⟩,
      ⟨(some (55, false)), (some (53, true)), .bin .eql (.tmp 54 false) (.cst (.int .i64 4) (.lit (.int .i64 4)))⟩,
      ⟨(some (56, false)), none, .pick (.tmp 53 false) (.tmp 55 false) (.cst (.bool false) (.lit (.bool false)))⟩,
      ⟨(some (57, false)), none, .mov (.tmp 56 false) .peek⟩,
      ⟨(some (58, false)), (some (57, true)), .call 36 [(.cst (.string (str [120])) (.lit (.string (str [120]))))]⟩,
      ⟨(some (59, false)), (some (57, true)), .bin .eql (.tmp 58 false) (.cst (.int .i64 0) (.lit (.int .i64 0)))⟩,
      ⟨(some (60, false)), none, .pick (.tmp 57 false) (.tmp 59 false) (.cst (.bool false) (.lit (.bool false)))⟩,
      ⟨(some (61, false)), none, .mov (.tmp 60 false) .peek⟩,
      ⟨(some (62, false)), (some (61, true)), .buildP [(.lit (.int .i64 0)), (.lit (.string (str [])))] []⟩,
      ⟨(some (63, false)), (some (61, true)), .call 29 [(.tmp 62 false)]⟩,
      ⟨(some (64, false)), (some (61, true)), .bin .eql (.tmp 63 false) (.cst (.string (str [])) (.lit (.string (str []))))⟩,
      ⟨(some (65, false)), none, .pick (.tmp 61 false) (.tmp 64 false) (.cst (.bool false) (.lit (.bool false)))⟩,
      ⟨(some (66, false)), none, .mov (.tmp 65 false) .peek⟩,
      ⟨(some (67, false)), (some (66, true)), .load (.tmp 3 true) 2 true false⟩,
      ⟨(some (68, false)), (some (66, true)), .call 29 [(.tmp 67 false)]⟩,
      ⟨(some (69, false)), (some (66, true)), .load (.tmp 3 true) 2 true false⟩,
      ⟨(some (70, false)), (some (66, true)), .call 30 [(.tmp 69 false)]⟩,
      ⟨(some (71, false)), (some (66, true)), .bin .eql (.tmp 68 false) (.tmp 70 false)⟩,
      ⟨(some (72, false)), none, .pick (.tmp 66 false) (.tmp 71 false) (.cst (.bool false) (.lit (.bool false)))⟩,
      ⟨(some (73, false)), none, .mov (.tmp 72 false) .peek⟩,
      ⟨(some (74, false)), (some (73, true)), .load (.tmp 3 true) 2 true false⟩,
      ⟨(some (75, false)), (some (73, true)), .load (.tmp 3 true) 2 true false⟩,
      ⟨(some (76, false)), (some (73, true)), .call 31 [(.tmp 74 false), (.tmp 75 false)]⟩,
      ⟨(some (77, false)), none, .pick (.tmp 73 false) (.tmp 76 false) (.cst (.bool false) (.lit (.bool false)))⟩] (.alt ⟨(some (0, true)), none, .mov (.tmp 77 false) .asg⟩ []
      .done .no))) [0] []
  (.ret)))))),
  [.tmp 0]⟩
theorem oblives_comp (m : Int) : compF Tryd.prog (gl m) [] Tryd.f26 = some oblives := by kernel_rfl
def objwords : AF := ⟨.seq (.reg (.seq [⟨(some (4, true)), none, .mov (.cst (.bool false) (.lit (.bool false))) .asg⟩])) [0, 1] []
  (.seq (.reg (.seq [⟨(some (5, false)), none, .call 26 []⟩,
      ⟨(some (6, false)), none, .mov (.tmp 5 false) .peek⟩,
      ⟨(some (7, false)), (some (6, true)), .mov (.tmp 0 true) .peek⟩,
      ⟨(some (8, false)), (some (6, true)), .call 34 [(.tmp 7 false)]⟩,
      ⟨(some (9, false)), (some (6, true)), .mov (.tmp 0 true) .peek⟩,
      ⟨(some (10, false)), (some (6, true)), .call 35 [(.tmp 9 false)]⟩,
      ⟨(some (11, false)), (some (6, true)), .bin .eql (.tmp 8 false) (.tmp 10 false)⟩,
      ⟨(some (12, false)), none, .pick (.tmp 6 false) (.tmp 11 false) (.cst (.bool false) (.lit (.bool false)))⟩,
      ⟨(some (13, false)), none, .mov (.tmp 12 false) .peek⟩,
      ⟨(some (14, false)), (some (13, true)), .mov (.tmp 1 true) .peek⟩,
      ⟨(some (15, false)), (some (13, true)), .call 36 [(.tmp 14 false)]⟩,
      ⟨(some (16, false)), (some (13, true)), .mov (.tmp 1 true) .peek⟩,
      ⟨(some (17, false)), (some (13, true)), .call 37 [(.tmp 16 false)]⟩,
      ⟨(some (18, false)), (some (13, true)), .bin .eql (.tmp 15 false) (.tmp 17 false)⟩,
      ⟨(some (19, false)), none, .pick (.tmp 13 false) (.tmp 18 false) (.cst (.bool false) (.lit (.bool false)))⟩,
      ⟨(some (20, false)), none, .mov (.tmp 19 false) .peek⟩,
      ⟨(some (21, false)), (some (20, true)), .mov (.tmp 0 true) .peek⟩,
      ⟨(some (22, false)), (some (20, true)), .call 34 [(.tmp 21 false)]⟩,
      ⟨(some (23, false)), (some (20, true)), .bin .eql (.tmp 22 false) (.cst (.string (str [])) (.lit (.string (str []))))⟩,
      ⟨(some (24, false)), (some (20, true)), .mov (.tmp 23 false) .peek⟩,
      ⟨(some (25, false)), (some (24, false)), .mov (.tmp 0 true) .peek⟩,
      ⟨(some (26, false)), (some (24, false)), .call 34 [(.tmp 25 false)]⟩,
      ⟨(some (27, false)), (some (24, false)), .call 36 [(.tmp 26 false)]⟩,
      ⟨(some (28, false)), (some (24, false)), .mov (.tmp 0 true) .peek⟩,
      ⟨(some (29, false)), (some (24, false)), .bin .eql (.tmp 27 false) (.tmp 28 false)⟩,
      ⟨(some (30, false)), (some (20, true)), .pick (.tmp 24 false) (.cst (.bool true) (.lit (.bool true))) (.tmp 29 false)⟩,
      ⟨(some (31, false)), none, .pick (.tmp 20 false) (.tmp 30 false) (.cst (.bool false) (.lit (.bool false)))⟩,
      ⟨(some (4, true)), none, .mov (.tmp 31 false) .asg⟩])) [4] []
  (.ret)),
  [.tmp 4]⟩
theorem objwords_comp (m : Int) : compF Tryd.prog (gl m) [] Tryd.f7 = some objwords := by kernel_rfl
def objparses : AF := ⟨.seq (.reg (.seq [⟨(some (2, true)), none, .mov (.cst (.bool false) (.lit (.bool false))) .asg⟩])) [0] []
  (.seq (.seq (.reg (.seq [⟨(some (9, false)), none, .mov (.tmp 0 true) .peek⟩,
      ⟨(some (10, false)), none, .len (.tmp 9 false)⟩,
      ⟨(some (11, false)), none, .bin .gtr (.tmp 10 false) (.cst (.int .i64 1048596) (.lit (.int .i64 1048596)))⟩])) [0, 11] []
  (.cond (.tmp 11 false)
    (.seq (.reg (.seq [⟨(some (12, false)), none, .call 26 []⟩,
      ⟨(some (2, true)), none, .mov (.tmp 12 false) .asg⟩])) [2] []
    (.ret))
    (.skip))) [0] []
  (.seq (.reg (.seq [⟨(some (14, false)), none, .mov (.tmp 0 true) .peek⟩,
      ⟨(some (15, false)), none, .call 32 [(.tmp 14 false)]⟩,
      ⟨(some (13, false)), none, .mov (.tmp 15 false) .peek⟩,
      ⟨(some (16, false)), none, .ext (.tmp 13 false) 0⟩,
      ⟨(some (17, false)), none, .ext (.tmp 13 false) 1⟩,
      ⟨(some (3, true)), none, .new [(.lit (.int .i64 0)), (.lit (.string (str [])))]⟩,
      ⟨none, none, .store (.tmp 3 true) (.tmp 16 false) 2⟩,
      ⟨(some (4, true)), none, .mov (.tmp 17 false) .asg⟩])) [0, 3, 4] [3]
  (.seq (.reg (.seq [⟨(some (19, false)), none, .mov (.tmp 0 true) .peek⟩,
      ⟨(some (20, false)), none, .call 33 [(.tmp 19 false)]⟩,
      ⟨(some (18, false)), none, .mov (.tmp 20 false) .peek⟩,
      ⟨(some (21, false)), none, .ext (.tmp 18 false) 0⟩,
      ⟨(some (22, false)), none, .ext (.tmp 18 false) 1⟩,
      ⟨(some (5, true)), none, .new [(.lit (.int .i64 0)), (.lit (.string (str [])))]⟩,
      ⟨none, none, .store (.tmp 5 true) (.tmp 21 false) 2⟩,
      ⟨(some (6, true)), none, .mov (.tmp 22 false) .asg⟩])) [0, 3, 4, 5, 6] [3, 5]
  (.seq (.seq (.reg (.seq [⟨(some (23, false)), none, .call 26 []⟩,
      ⟨(some (24, false)), none, .un .not (.tmp 23 false)⟩,
      ⟨(some (25, false)), none, .mov (.tmp 24 false) .peek⟩,
      ⟨(some (26, false)), (some (25, false)), .load (.tmp 3 true) 2 true false⟩,
      ⟨(some (27, false)), (some (25, false)), .load (.tmp 5 true) 2 true false⟩,
      ⟨(some (28, false)), (some (25, false)), .eqS [0, 1] true (.tmp 26 false) (.tmp 27 false)⟩,
      ⟨(some (29, false)), none, .pick (.tmp 25 false) (.cst (.bool true) (.lit (.bool true))) (.tmp 28 false)⟩,
      ⟨(some (30, false)), none, .mov (.tmp 29 false) .peek⟩,
      ⟨(some (31, false)), (some (30, false)), .mov (.tmp 4 true) .peek⟩,
      ⟨(some (32, false)), (some (30, false)), .mov (.tmp 6 true) .peek⟩,
      ⟨(some (33, false)), (some (30, false)), .bin .neq (.tmp 31 false) (.tmp 32 false)⟩,
      ⟨(some (34, false)), none, .pick (.tmp 30 false) (.cst (.bool true) (.lit (.bool true))) (.tmp 33 false)⟩])) [0, 3, 4, 34] [3]
  (.cond (.tmp 34 false)
    (.seq (.reg (.seq [⟨(some (2, true)), none, .mov (.cst (.bool false) (.lit (.bool false))) .asg⟩])) [2] []
    (.ret))
    (.skip))) [0, 3, 4] [3]
  (.seq (.reg (.seq [⟨(some (36, false)), none, .load (.tmp 3 true) 2 true false⟩,
      ⟨(some (37, false)), none, .call 27 [(.tmp 36 false)]⟩,
      ⟨(some (35, false)), none, .mov (.tmp 37 false) .peek⟩,
      ⟨(some (38, false)), none, .ext (.tmp 35 false) 0⟩,
      ⟨(some (39, false)), none, .ext (.tmp 35 false) 1⟩,
      ⟨(some (7, true)), none, .mov (.tmp 38 false) .asg⟩,
      ⟨(some (8, true)), none, .mov (.tmp 39 false) .asg⟩])) [0, 4, 7, 8] []
  (.seq (.reg (.seq [⟨(some (40, false)), none, .mov (.tmp 4 true) .peek⟩,
      ⟨(some (41, false)), none, .bin .neq (.tmp 40 false) (.cst (.int .i64 0) (.lit (.int .i64 0)))⟩,
      ⟨(some (42, false)), none, .mov (.tmp 41 false) .peek⟩,
      ⟨(some (43, false)), (some (42, false)), .mov (.tmp 7 true) .peek⟩,
      ⟨(some (44, false)), (some (42, false)), .mov (.tmp 0 true) .peek⟩,
      ⟨(some (45, false)), (some (42, false)), .bin .eql (.tmp 43 false) (.tmp 44 false)⟩,
      ⟨(some (46, false)), (some (42, false)), .mov (.tmp 45 false) .peek⟩,
      ⟨(some (47, false)), (some (46, true)), .mov (.tmp 8 true) .peek⟩,
      ⟨(some (48, false)), (some (46, true)), .bin .eql (.tmp 47 false) (.cst (.int .i64 0) (.lit (.int .i64 0)))⟩,
      ⟨(some (49, false)), (some (42, false)), .pick (.tmp 46 false) (.tmp 48 false) (.cst (.bool false) (.lit (.bool false)))⟩,
      ⟨(some (50, false)), none, .pick (.tmp 42 false) (.cst (.bool true) (.lit (.bool true))) (.tmp 49 false)⟩,
      ⟨(some (2, true)), none, .mov (.tmp 50 false) .asg⟩])) [2] []
  (.ret))))))),
  [.tmp 2]⟩
theorem objparses_comp (m : Int) : compF Tryd.prog (gl m) [] Tryd.f6 = some objparses := by kernel_rfl
def objbytes : AF := ⟨.seq (.reg (.seq [⟨(some (2, true)), none, .box (.tmp 0 true)⟩,
      ⟨(some (3, true)), none, .box (.tmp 1 true)⟩,
      ⟨(some (4, true)), none, .mov (.cst (.bool false) (.lit (.bool false))) .asg⟩])) [2, 3] [2, 3]
  (.seq (.seq (.reg (.seq [⟨(some (13, false)), none, .fad (.tmp 2 true) 1⟩,
      ⟨(some (14, false)), none, .load (.tmp 13 false) 1 false false⟩,
      ⟨(some (15, false)), none, .len (.tmp 14 false)⟩,
      ⟨(some (16, false)), none, .bin .gtr (.tmp 15 false) (.cst (.int .i64 1048586) (.lit (.int .i64 1048586)))⟩,
      ⟨(some (17, false)), none, .mov (.tmp 16 false) .peek⟩,
      ⟨(some (18, false)), (some (17, false)), .fad (.tmp 3 true) 1⟩,
      ⟨(some (19, false)), (some (17, false)), .load (.tmp 18 false) 1 false false⟩,
      ⟨(some (20, false)), (some (17, false)), .len (.tmp 19 false)⟩,
      ⟨(some (21, false)), (some (17, false)), .bin .gtr (.tmp 20 false) (.cst (.int .i64 1048586) (.lit (.int .i64 1048586)))⟩,
      ⟨(some (22, false)), none, .pick (.tmp 17 false) (.cst (.bool true) (.lit (.bool true))) (.tmp 21 false)⟩])) [2, 3, 22] [2, 3]
  (.cond (.tmp 22 false)
    (.seq (.reg (.seq [⟨(some (23, false)), none, .call 26 []⟩,
      ⟨(some (4, true)), none, .mov (.tmp 23 false) .asg⟩])) [4] []
    (.ret))
    (.skip))) [2, 3] [2, 3]
  (.seq (.reg (.seq [⟨(some (25, false)), none, .load (.tmp 2 true) 2 true false⟩,
      ⟨(some (26, false)), none, .call 27 [(.tmp 25 false)]⟩,
      ⟨(some (24, false)), none, .mov (.tmp 26 false) .peek⟩,
      ⟨(some (27, false)), none, .ext (.tmp 24 false) 0⟩,
      ⟨(some (28, false)), none, .ext (.tmp 24 false) 1⟩,
      ⟨(some (5, true)), none, .mov (.tmp 27 false) .asg⟩,
      ⟨(some (6, true)), none, .mov (.tmp 28 false) .asg⟩])) [2, 3, 5, 6] [2, 3]
  (.seq (.reg (.seq [⟨(some (30, false)), none, .load (.tmp 2 true) 2 true false⟩,
      ⟨(some (31, false)), none, .call 28 [(.tmp 30 false)]⟩,
      ⟨(some (29, false)), none, .mov (.tmp 31 false) .peek⟩,
      ⟨(some (32, false)), none, .ext (.tmp 29 false) 0⟩,
      ⟨(some (33, false)), none, .ext (.tmp 29 false) 1⟩,
      ⟨(some (7, true)), none, .mov (.tmp 32 false) .asg⟩,
      ⟨(some (8, true)), none, .mov (.tmp 33 false) .asg⟩])) [2, 3, 5, 6, 7, 8] [2, 3]
  (.seq (.seq (.reg (.draw [⟨(some (34, false)), none, .call 26 []⟩,
      ⟨(some (35, false)), none, .un .not (.tmp 34 false)⟩,
      ⟨(some (36, false)), none, .mov (.tmp 35 false) .peek⟩,
      ⟨(some (37, false)), (some (36, false)), .mov (.tmp 5 true) .peek⟩,
      ⟨(some (38, false)), (some (36, false)), .mov (.tmp 7 true) .peek⟩,
      ⟨(some (39, false)), (some (36, false)), .bin .neq (.tmp 37 false) (.tmp 38 false)⟩,
      ⟨(some (40, false)), none, .pick (.tmp 36 false) (.cst (.bool true) (.lit (.bool true))) (.tmp 39 false)⟩,
      ⟨(some (41, false)), none, .mov (.tmp 40 false) .peek⟩,
      ⟨(some (42, false)), (some (41, false)), .mov (.tmp 6 true) .peek⟩,
      ⟨(some (43, false)), (some (41, false)), .mov (.tmp 8 true) .peek⟩,
      ⟨(some (44, false)), (some (41, false)), .bin .neq (.tmp 42 false) (.tmp 43 false)⟩,
      ⟨(some (45, false)), none, .pick (.tmp 41 false) (.cst (.bool true) (.lit (.bool true))) (.tmp 44 false)⟩,
      ⟨(some (46, false)), none, .mov (.tmp 45 false) .peek⟩,
      ⟨(some (47, false)), (some (46, false)), .load (.tmp 2 true) 2 true false⟩,
      ⟨(some (48, false)), (some (46, false)), .call 29 [(.tmp 47 false)]⟩,
      ⟨(some (49, false)), (some (46, false)), .load (.tmp 2 true) 2 true false⟩,
      ⟨(some (50, false)), (some (46, false)), .call 30 [(.tmp 49 false)]⟩,
      ⟨(some (51, false)), (some (46, false)), .bin .neq (.tmp 48 false) (.tmp 50 false)⟩,
      ⟨(some (52, false)), none, .pick (.tmp 46 false) (.cst (.bool true) (.lit (.bool true))) (.tmp 51 false)⟩,
      ⟨(some (53, false)), none, .mov (.tmp 52 false) .peek⟩,
      ⟨(some (54, false)), (some (53, false)), .load (.tmp 2 true) 2 true false⟩,
      ⟨(some (55, false)), (some (53, false)), .load (.tmp 3 true) 2 true false⟩,
      ⟨(some (56, false)), (some (53, false)), .call 31 [(.tmp 54 false), (.tmp 55 false)]⟩,
      ⟨(some (57, false)), (some (53, false)), .load (.tmp 2 true) 2 true false⟩,
      ⟨(some (58, false)), (some (53, false)), .load (.tmp 3 true) 2 true false⟩,
      ⟨(some (59, false)), (some (53, false)), .eqS [0, 1] false (.tmp 57 false) (.tmp 58 false)⟩,
      ⟨(some (60, false)), (some (53, false)), .eqb true (.tmp 56 false) (.tmp 59 false)⟩,
      ⟨(some (61, false)), none, .pick (.tmp 53 false) (.cst (.bool true) (.lit (.bool true))) (.tmp 60 false)⟩] .done)) [2, 3, 5, 6, 61] [2, 3]
  (.cond (.tmp 61 false)
    (.seq (.reg (.seq [⟨(some (4, true)), none, .mov (.cst (.bool false) (.lit (.bool false))) .asg⟩])) [4] []
    (.ret))
    (.skip))) [2, 3, 5, 6] [2, 3]
  (.seq (.seq (.reg (.seq [⟨(some (62, false)), none, .mov (.tmp 6 true) .peek⟩,
      ⟨(some (63, false)), none, .bin .neq (.tmp 62 false) (.cst (.int .i64 0) (.lit (.int .i64 0)))⟩])) [2, 3, 5, 63] [2, 3]
  (.cond (.tmp 63 false)
    (.seq (.reg (.seq [⟨(some (4, true)), none, .mov (.cst (.bool true) (.lit (.bool true))) .asg⟩])) [4] []
    (.ret))
    (.skip))) [2, 3, 5] [2, 3]
  (.seq (.reg (.seq [⟨(some (65, false)), none, .mov (.tmp 5 true) .peek⟩,
      ⟨(some (66, false)), none, .call 32 [(.tmp 65 false)]⟩,
      ⟨(some (64, false)), none, .mov (.tmp 66 false) .peek⟩,
      ⟨(some (67, false)), none, .ext (.tmp 64 false) 0⟩,
      ⟨(some (68, false)), none, .ext (.tmp 64 false) 1⟩,
      ⟨(some (9, true)), none, .new [(.lit (.int .i64 0)), (.lit (.string (str [])))]⟩,
      ⟨none, none, .store (.tmp 9 true) (.tmp 67 false) 2⟩,
      ⟨(some (10, true)), none, .mov (.tmp 68 false) .asg⟩])) [2, 3, 5, 9, 10] [2, 3, 9]
  (.seq (.reg (.seq [⟨(some (70, false)), none, .load (.tmp 3 true) 2 true false⟩,
      ⟨(some (71, false)), none, .call 27 [(.tmp 70 false)]⟩,
      ⟨(some (69, false)), none, .mov (.tmp 71 false) .peek⟩,
      ⟨(some (72, false)), none, .ext (.tmp 69 false) 0⟩,
      ⟨(some (73, false)), none, .ext (.tmp 69 false) 1⟩,
      ⟨(some (11, true)), none, .mov (.tmp 72 false) .asg⟩,
      ⟨(some (12, true)), none, .mov (.tmp 73 false) .asg⟩])) [2, 3, 5, 9, 10, 11, 12] [2, 3, 9]
  (.seq (.reg (.seq [⟨(some (74, false)), none, .load (.tmp 9 true) 2 true false⟩,
      ⟨(some (75, false)), none, .load (.tmp 2 true) 2 true false⟩,
      ⟨(some (76, false)), none, .eqS [0, 1] false (.tmp 74 false) (.tmp 75 false)⟩,
      ⟨(some (77, false)), none, .mov (.tmp 76 false) .peek⟩,
      ⟨(some (78, false)), (some (77, true)), .mov (.tmp 10 true) .peek⟩,
      ⟨(some (79, false)), (some (77, true)), .bin .eql (.tmp 78 false) (.cst (.int .i64 0) (.lit (.int .i64 0)))⟩,
      ⟨(some (80, false)), none, .pick (.tmp 77 false) (.tmp 79 false) (.cst (.bool false) (.lit (.bool false)))⟩,
      ⟨(some (81, false)), none, .mov (.tmp 80 false) .peek⟩,
      ⟨(some (82, false)), (some (81, true)), .mov (.tmp 12 true) .peek⟩,
      ⟨(some (83, false)), (some (81, true)), .bin .neq (.tmp 82 false) (.cst (.int .i64 0) (.lit (.int .i64 0)))⟩,
      ⟨(some (84, false)), (some (81, true)), .mov (.tmp 83 false) .peek⟩,
      ⟨(some (85, false)), (some (84, false)), .mov (.tmp 5 true) .peek⟩,
      ⟨(some (86, false)), (some (84, false)), .mov (.tmp 11 true) .peek⟩,
      ⟨(some (87, false)), (some (84, false)), .bin .eql (.tmp 85 false) (.tmp 86 false)⟩,
      ⟨(some (88, false)), (some (84, false)), .load (.tmp 2 true) 2 true false⟩,
      ⟨(some (89, false)), (some (84, false)), .load (.tmp 3 true) 2 true false⟩,
      ⟨(some (90, false)), (some (84, false)), .eqS [0, 1] false (.tmp 88 false) (.tmp 89 false)⟩,
      ⟨(some (91, false)), (some (84, false)), .eqb false (.tmp 87 false) (.tmp 90 false)⟩,
      ⟨(some (92, false)), (some (81, true)), .pick (.tmp 84 false) (.cst (.bool true) (.lit (.bool true))) (.tmp 91 false)⟩,
      ⟨(some (93, false)), none, .pick (.tmp 81 false) (.tmp 92 false) (.cst (.bool false) (.lit (.bool false)))⟩,
      ⟨(some (4, true)), none, .mov (.tmp 93 false) .asg⟩])) [4] []
  (.ret))))))))),
  [.tmp 4]⟩
theorem objbytes_comp (m : Int) : compF Tryd.prog (gl m) [] Tryd.f5 = some objbytes := by kernel_rfl
/-- what reading yields: kind, body, error -/
def parse (s : Bs) : Nat × Bs × Int :=
  if Lib.indexByte s 32 < 0 ∨ Lib.indexByte s 0 < Lib.indexByte s 32 ∨ kindOf (s.take (Lib.indexByte s 32).toNat) = 0 then (0, [], 2)
  else match number ((s.take (Lib.indexByte s 0).toNat).drop ((Lib.indexByte s 32).toNat + 1)) with
    | none => (0, [], 2)
    | some n => if 1048576 < n then (0, [], 4) else if s.length - (Lib.indexByte s 0).toNat - 1 < n then (0, [], 3) else if n < s.length - (Lib.indexByte s 0).toNat - 1 then (0, [], 2)
      else (kindOf (s.take (Lib.indexByte s 32).toNat), s.drop ((Lib.indexByte s 0).toNat + 1), 0)
def parseA (p : Nat × Bs × Int) : AV := .tup [.agg [N p.1, S p.2.1], I p.2.2]
theorem kind_zero {w : Bs} {c : UInt8} (hc : c = 0 ∨ c = 32) (h : c ∈ w) : kindOf w = 0 := by
  rw [kindOf, if_neg, if_neg, if_neg, if_neg]
  all_goals (rintro rfl; rcases hc with rfl | rfl <;> exact absurd h (by decide))
abbrev objA (k : Int) (b : Bs) : AV := .agg [I k, S b]
def bytesA (k : Int) (b : Bs) : AV := if word k = [] then .tup [S [], I 140] else if 1048576 < b.length then .tup [S [], I 4] else .tup [S (Ob.bytes k b), I 0]
def checkN (k : Int) (b : Bs) : Int := if word k = [] then 140 else if 1048576 < b.length then 4 else 0
theorem rcheck_snd (k : Int) (b : Bs) : Snd Tryd.prog (gl m) 62 [objA k b] (I (checkN k b)) := by
  refine snd_of (fn := Tryd.f62) (af := rcheck) Tryd.func62 (rcheck_comp m) mixed (kn_ok m) (Nat.le_of_ble_eq_true rfl) ?_
  simp only [rcheck, checkN, go_sem, reduceCtorEq, Nat.reduceEqDiff, reduceIte, Nat.reduceAdd, Nat.reduceSub, Nat.reduceLeDiff, Int.reduceToNat, Nat.reduceBEq]
  repeat (refine ⟨by (try simp only [List.length_append, List.length_cons, List.length_nil, List.length_drop, List.length_take]); omega, ?_⟩)
  refine of_call (rword_snd k) ?_
  simp only [go_sem, reduceCtorEq, Nat.reduceEqDiff, reduceIte, Nat.reduceAdd, Nat.reduceSub, Nat.reduceLeDiff, Int.reduceToNat, Nat.reduceBEq]
  by_cases h : word k = []
  · simp only [se_t h, if_pos h, go_sem, reduceCtorEq, Nat.reduceEqDiff, reduceIte, Nat.reduceAdd, Nat.reduceSub, Nat.reduceLeDiff, Int.reduceToNat, Nat.reduceBEq]
    try rfl
  simp only [se_f h, if_neg h, go_sem, reduceCtorEq, Nat.reduceEqDiff, reduceIte, Nat.reduceAdd, Nat.reduceSub, Nat.reduceLeDiff, Int.reduceToNat, Nat.reduceBEq]
  repeat (refine ⟨by (try simp only [List.length_append, List.length_cons, List.length_nil, List.length_drop, List.length_take]); omega, ?_⟩)
  by_cases h2 : 1048576 < b.length
  · simp only [igt_t (show (1048576 : Int) < (b.length : Int) by omega), if_pos h2, go_sem, reduceCtorEq, Nat.reduceEqDiff, reduceIte, Nat.reduceAdd, Nat.reduceSub, Nat.reduceLeDiff, Int.reduceToNat, Nat.reduceBEq]
    try rfl
  · simp only [igt_f (show ¬ (1048576 : Int) < (b.length : Int) by omega), if_neg h2, go_sem, reduceCtorEq, Nat.reduceEqDiff, reduceIte, Nat.reduceAdd, Nat.reduceSub, Nat.reduceLeDiff, Int.reduceToNat, Nat.reduceBEq]
    try rfl
theorem word_len (k : Int) : (word k).length ≤ 6 := by
  simp only [word]; split <;> (try split) <;> (try split) <;> (try split) <;> decide
theorem dec_len {n : Nat} (h : n ≤ 1048576) : (dec n).length ≤ 7 := by
  rw [dec, Lib.decDigits_length]
  refine Nat.le_of_not_lt fun h8 => ?_
  have h1 := Lib.nDigits_unique 6
  rcases Nat.lt_or_ge n 10000000 with h2 | h2
  · by_cases h3 : 10 ^ 6 ≤ n
    · have := Lib.nDigits_unique 6 n h3 (by omega); omega
    · have : Lib.nDigits n ≤ 7 := by
        rcases Nat.lt_or_ge n (10 ^ 1) with g | g
        · rw [Lib.nDigits_small (by omega)]; omega
        rcases Nat.lt_or_ge n (10 ^ 2) with g2 | g2
        · rw [Lib.nDigits_unique 1 n g g2]; omega
        rcases Nat.lt_or_ge n (10 ^ 3) with g3 | g3
        · rw [Lib.nDigits_unique 2 n g2 g3]; omega
        rcases Nat.lt_or_ge n (10 ^ 4) with g4 | g4
        · rw [Lib.nDigits_unique 3 n g3 g4]; omega
        rcases Nat.lt_or_ge n (10 ^ 5) with g5 | g5
        · rw [Lib.nDigits_unique 4 n g4 g5]; omega
        · rw [Lib.nDigits_unique 5 n g5 (by omega)]; omega
      omega
  · omega
theorem obytes_snd (k : Int) (b : Bs) (hb : b.length ≤ 4294900000) : Snd Tryd.prog (gl m) 27 [objA k b] (bytesA k b) := by
  refine snd_of (fn := Tryd.f27) (af := obytes) Tryd.func27 (obytes_comp m) mixed (kn_ok m) (Nat.le_of_ble_eq_true rfl) ?_
  simp only [obytes, bytesA, go_sem, reduceCtorEq, Nat.reduceEqDiff, reduceIte, Nat.reduceAdd, Nat.reduceSub, Nat.reduceLeDiff, Int.reduceToNat, Nat.reduceBEq]
  repeat (refine ⟨by (try simp only [List.length_append, List.length_cons, List.length_nil, List.length_drop, List.length_take]); omega, ?_⟩)
  refine of_call (oword_snd k) ?_
  simp only [go_sem, reduceCtorEq, Nat.reduceEqDiff, reduceIte, Nat.reduceAdd, Nat.reduceSub, Nat.reduceLeDiff, Int.reduceToNat, Nat.reduceBEq]
  by_cases h : word k = []
  · simp only [se_t h, if_pos h, go_sem, reduceCtorEq, Nat.reduceEqDiff, reduceIte, Nat.reduceAdd, Nat.reduceSub, Nat.reduceLeDiff, Int.reduceToNat, Nat.reduceBEq]
    try rfl
  simp only [se_f h, if_neg h, go_sem, reduceCtorEq, Nat.reduceEqDiff, reduceIte, Nat.reduceAdd, Nat.reduceSub, Nat.reduceLeDiff, Int.reduceToNat, Nat.reduceBEq]
  repeat (refine ⟨by (try simp only [List.length_append, List.length_cons, List.length_nil, List.length_drop, List.length_take]); omega, ?_⟩)
  by_cases h2 : 1048576 < b.length
  · simp only [igt_t (show (1048576 : Int) < (b.length : Int) by omega), if_pos h2, go_sem, reduceCtorEq, Nat.reduceEqDiff, reduceIte, Nat.reduceAdd, Nat.reduceSub, Nat.reduceLeDiff, Int.reduceToNat, Nat.reduceBEq]
    try rfl
  simp only [igt_f (show ¬ (1048576 : Int) < (b.length : Int) by omega), if_neg h2, go_sem, reduceCtorEq, Nat.reduceEqDiff, reduceIte, Nat.reduceAdd, Nat.reduceSub, Nat.reduceLeDiff, Int.reduceToNat, Nat.reduceBEq]
  have hw := word_len k
  have hd := dec_len (n := b.length) (by omega)
  repeat (refine ⟨by (try simp only [List.length_append, List.length_cons, List.length_nil, List.length_drop, List.length_take]); omega, ?_⟩)
  refine of_call (itoa_snd b.length (by omega)) ?_
  simp only [go_sem, reduceCtorEq, Nat.reduceEqDiff, reduceIte, Nat.reduceAdd, Nat.reduceSub, Nat.reduceLeDiff, Int.reduceToNat, Nat.reduceBEq]
  repeat (refine ⟨by (try simp only [List.length_append, List.length_cons, List.length_nil, List.length_drop, List.length_take]); omega, ?_⟩)
  rfl
theorem rbytes_snd (k : Int) (b : Bs) (hb : b.length ≤ 4294900000) : Snd Tryd.prog (gl m) 28 [objA k b] (bytesA k b) := by
  refine snd_of (fn := Tryd.f28) (af := rbytes) Tryd.func28 (rbytes_comp m) mixed (kn_ok m) (Nat.le_of_ble_eq_true rfl) ?_
  simp only [rbytes, go_sem, reduceCtorEq, Nat.reduceEqDiff, reduceIte, Nat.reduceAdd, Nat.reduceSub, Nat.reduceLeDiff, Int.reduceToNat, Nat.reduceBEq]
  repeat (refine ⟨by (try simp only [List.length_append, List.length_cons, List.length_nil, List.length_drop, List.length_take]); omega, ?_⟩)
  refine of_call (rcheck_snd k b) ?_
  simp only [go_sem, reduceCtorEq, Nat.reduceEqDiff, reduceIte, Nat.reduceAdd, Nat.reduceSub, Nat.reduceLeDiff, Int.reduceToNat, Nat.reduceBEq]
  by_cases h : word k = []
  · have e : checkN k b = 140 := by rw [checkN, if_pos h]
    simp only [bytesA, e, ne_t (show (140 : Int) ≠ 0 by omega), if_pos h, go_sem, reduceCtorEq, Nat.reduceEqDiff, reduceIte, Nat.reduceAdd, Nat.reduceSub, Nat.reduceLeDiff, Int.reduceToNat, Nat.reduceBEq]
    try rfl
  by_cases h2 : 1048576 < b.length
  · have e : checkN k b = 4 := by rw [checkN, if_neg h, if_pos h2]
    simp only [bytesA, e, ne_t (show (4 : Int) ≠ 0 by omega), if_neg h, if_pos h2, go_sem, reduceCtorEq, Nat.reduceEqDiff, reduceIte, Nat.reduceAdd, Nat.reduceSub, Nat.reduceLeDiff, Int.reduceToNat, Nat.reduceBEq]
    try rfl
  have e : checkN k b = 0 := by rw [checkN, if_neg h, if_neg h2]
  simp only [e, bytesA, ne_f (show (0 : Int) = 0 from rfl), if_neg h, if_neg h2, go_sem, reduceCtorEq, Nat.reduceEqDiff, reduceIte, Nat.reduceAdd, Nat.reduceSub, Nat.reduceLeDiff, Int.reduceToNat, Nat.reduceBEq]
  have hw := word_len k
  have hd := dec_len (n := b.length) (by omega)
  repeat (refine ⟨by (try simp only [List.length_append, List.length_cons, List.length_nil, List.length_drop, List.length_take]); omega, ?_⟩)
  refine of_call (rword_snd k) ?_
  simp only [go_sem, reduceCtorEq, Nat.reduceEqDiff, reduceIte, Nat.reduceAdd, Nat.reduceSub, Nat.reduceLeDiff, Int.reduceToNat, Nat.reduceBEq]
  repeat (refine ⟨by (try simp only [List.length_append, List.length_cons, List.length_nil, List.length_drop, List.length_take]); omega, ?_⟩)
  refine of_call (rdigits_snd b.length (by omega)) ?_
  simp only [go_sem, reduceCtorEq, Nat.reduceEqDiff, reduceIte, Nat.reduceAdd, Nat.reduceSub, Nat.reduceLeDiff, Int.reduceToNat, Nat.reduceBEq]
  repeat (refine ⟨by (try simp only [List.length_append, List.length_cons, List.length_nil, List.length_drop, List.length_take]); omega, ?_⟩)
  rfl
def idA (k : Int) (b : Bs) : Bs := if word k = [] then [] else if 1048576 < b.length then [] else Sh.sha (Ob.bytes k b)
theorem bytes_len {k : Int} {b : Bs} (h : b.length ≤ 1048576) : (Ob.bytes k b).length ≤ 1048600 := by
  have := word_len k; have := dec_len h
  simp only [Ob.bytes, List.length_append, List.length_cons, List.length_nil]; omega
theorem oid_snd (k : Int) (b : Bs) (hb : b.length ≤ 4294900000) : Snd Tryd.prog (gl m) 29 [objA k b] (S (idA k b)) := by
  refine snd_of (fn := Tryd.f29) (af := oid) Tryd.func29 (oid_comp m) mixed (kn_ok m) (Nat.le_of_ble_eq_true rfl) ?_
  simp only [oid, go_sem, reduceCtorEq, Nat.reduceEqDiff, reduceIte, Nat.reduceAdd, Nat.reduceSub, Nat.reduceLeDiff, Int.reduceToNat, Nat.reduceBEq]
  repeat (refine ⟨by (try simp only [List.length_append, List.length_cons, List.length_nil, List.length_drop, List.length_take]); omega, ?_⟩)
  refine of_call (obytes_snd k b hb) ?_
  by_cases h : word k = []
  · simp only [bytesA, idA, if_pos h, ne_t (show (140 : Int) ≠ 0 by omega), go_sem, reduceCtorEq, Nat.reduceEqDiff, reduceIte, Nat.reduceAdd, Nat.reduceSub, Nat.reduceLeDiff, Int.reduceToNat, Nat.reduceBEq]
    try rfl
  by_cases h2 : 1048576 < b.length
  · simp only [bytesA, idA, if_neg h, if_pos h2, ne_t (show (4 : Int) ≠ 0 by omega), go_sem, reduceCtorEq, Nat.reduceEqDiff, reduceIte, Nat.reduceAdd, Nat.reduceSub, Nat.reduceLeDiff, Int.reduceToNat, Nat.reduceBEq]
    try rfl
  simp only [bytesA, idA, if_neg h, if_neg h2, ne_f (show (0 : Int) = 0 from rfl), go_sem, reduceCtorEq, Nat.reduceEqDiff, reduceIte, Nat.reduceAdd, Nat.reduceSub, Nat.reduceLeDiff, Int.reduceToNat, Nat.reduceBEq]
  have := bytes_len (k := k) (b := b) (by omega)
  refine of_call (pof_snd _ (by omega)) ?_
  simp only [go_sem, reduceCtorEq, Nat.reduceEqDiff, reduceIte, Nat.reduceAdd, Nat.reduceSub, Nat.reduceLeDiff, Int.reduceToNat, Nat.reduceBEq]
  try rfl
theorem rid_snd (k : Int) (b : Bs) (hb : b.length ≤ 4294900000) : Snd Tryd.prog (gl m) 30 [objA k b] (S (idA k b)) := by
  refine snd_of (fn := Tryd.f30) (af := rid) Tryd.func30 (rid_comp m) mixed (kn_ok m) (Nat.le_of_ble_eq_true rfl) ?_
  simp only [rid, go_sem, reduceCtorEq, Nat.reduceEqDiff, reduceIte, Nat.reduceAdd, Nat.reduceSub, Nat.reduceLeDiff, Int.reduceToNat, Nat.reduceBEq]
  repeat (refine ⟨by (try simp only [List.length_append, List.length_cons, List.length_nil, List.length_drop, List.length_take]); omega, ?_⟩)
  refine of_call (rbytes_snd k b hb) ?_
  by_cases h : word k = []
  · simp only [bytesA, idA, if_pos h, ne_t (show (140 : Int) ≠ 0 by omega), go_sem, reduceCtorEq, Nat.reduceEqDiff, reduceIte, Nat.reduceAdd, Nat.reduceSub, Nat.reduceLeDiff, Int.reduceToNat, Nat.reduceBEq]
    try rfl
  by_cases h2 : 1048576 < b.length
  · simp only [bytesA, idA, if_neg h, if_pos h2, ne_t (show (4 : Int) ≠ 0 by omega), go_sem, reduceCtorEq, Nat.reduceEqDiff, reduceIte, Nat.reduceAdd, Nat.reduceSub, Nat.reduceLeDiff, Int.reduceToNat, Nat.reduceBEq]
    try rfl
  simp only [bytesA, idA, if_neg h, if_neg h2, ne_f (show (0 : Int) = 0 from rfl), go_sem, reduceCtorEq, Nat.reduceEqDiff, reduceIte, Nat.reduceAdd, Nat.reduceSub, Nat.reduceLeDiff, Int.reduceToNat, Nat.reduceBEq]
  have := bytes_len (k := k) (b := b) (by omega)
  refine of_call (rof_snd _ (by omega)) ?_
  simp only [go_sem, reduceCtorEq, Nat.reduceEqDiff, reduceIte, Nat.reduceAdd, Nat.reduceSub, Nat.reduceLeDiff, Int.reduceToNat, Nat.reduceBEq]
  try rfl
theorem osame_snd (k : Int) (b : Bs) (k' : Int) (b' : Bs) : Snd Tryd.prog (gl m) 31 [objA k b, objA k' b'] (B (k == k' && b == b')) := by
  refine snd_of (fn := Tryd.f31) (af := osame) Tryd.func31 (osame_comp m) mixed (kn_ok m) (Nat.le_of_ble_eq_true rfl) ?_
  simp only [osame, go_sem, reduceCtorEq, Nat.reduceEqDiff, reduceIte, Nat.reduceAdd, Nat.reduceSub, Nat.reduceLeDiff, Int.reduceToNat, Nat.reduceBEq]
  refine ⟨by omega, by omega, ?_⟩
  have e : eqC [0, 1] [I k, S b] [I k', S b'] = some (k == k' && b == b') := by
    simp only [eqC, if_true, Option.map_some, str_toList, Bool.and_true]
  rw [e]
theorem rparse_snd (s : Bs) (hs : s.length ≤ 4294900000) : Snd Tryd.prog (gl m) 33 [S s] (parseA (parse s)) := by
  refine snd_of (fn := Tryd.f33) (af := rparse) Tryd.func33 (rparse_comp m) mixed (kn_ok m) (Nat.le_of_ble_eq_true rfl) ?_
  simp only [rparse, go_sem, reduceCtorEq, Nat.reduceEqDiff, reduceIte, Nat.reduceAdd, Nat.reduceSub, Nat.reduceLeDiff, Int.reduceToNat, Nat.reduceBEq]
  refine of_call (rfind_snd s 32 (by omega)) ?_
  simp only [go_sem, reduceCtorEq, Nat.reduceEqDiff, reduceIte, Nat.reduceAdd, Nat.reduceSub, Nat.reduceLeDiff, Int.reduceToNat, Nat.reduceBEq]
  refine of_call (rfind_snd s 0 (by omega)) ?_
  simp only [go_sem, reduceCtorEq, Nat.reduceEqDiff, reduceIte, Nat.reduceAdd, Nat.reduceSub, Nat.reduceLeDiff, Int.reduceToNat, Nat.reduceBEq]
  rcases ix_cases s 32 with ⟨i, k1, k2, k3, k4⟩ | ⟨k1, k2⟩
  · simp only [k1, ilt_f (show ¬ (i : Int) < 0 by omega), go_sem, reduceCtorEq, Nat.reduceEqDiff, reduceIte, Nat.reduceAdd, Nat.reduceSub, Nat.reduceLeDiff, Int.reduceToNat, Nat.reduceBEq]
    rcases ix_cases s 0 with ⟨j, l1, l2, l3, l4⟩ | ⟨l1, l2⟩
    · simp only [l1, go_sem, reduceCtorEq, Nat.reduceEqDiff, reduceIte, Nat.reduceAdd, Nat.reduceSub, Nat.reduceLeDiff, Int.reduceToNat, Nat.reduceBEq]
      by_cases hji : (j : Int) < (i : Int)
      · have e : parse s = (0, [], 2) := by rw [parse, if_pos (by rw [k1, l1]; exact .inr (.inl hji))]
        simp only [e, ilt_t hji, go_sem, reduceCtorEq, Nat.reduceEqDiff, reduceIte, Nat.reduceAdd, Nat.reduceSub, Nat.reduceLeDiff, Int.reduceToNat, Nat.reduceBEq]
        exact ⟨by omega, rfl⟩
      simp only [ilt_f hji, go_sem, reduceCtorEq, Nat.reduceEqDiff, reduceIte, Nat.reduceAdd, Nat.reduceSub, Nat.reduceLeDiff, Int.reduceToNat, Nat.reduceBEq]
      repeat (refine ⟨by (try simp only [List.length_append, List.length_cons, List.length_nil, List.length_drop, List.length_take]); omega, ?_⟩)
      refine of_call (rkind_snd (s.take i)) ?_
      simp only [go_sem, reduceCtorEq, Nat.reduceEqDiff, reduceIte, Nat.reduceAdd, Nat.reduceSub, Nat.reduceLeDiff, Int.reduceToNat, Nat.reduceBEq]
      by_cases hk : kindOf (s.take i) = 0
      · have e : parse s = (0, [], 2) := by rw [parse, if_pos (by rw [k1, l1]; exact .inr (.inr hk))]
        simp only [e, hk, eq_t (show ((0 : Nat) : Int) = 0 from rfl), go_sem, reduceCtorEq, Nat.reduceEqDiff, reduceIte, Nat.reduceAdd, Nat.reduceSub, Nat.reduceLeDiff, Int.reduceToNat, Nat.reduceBEq]
        exact ⟨by omega, rfl⟩
      have hne : i ≠ j := by rintro rfl; rw [k3] at l3; exact absurd l3 (by decide)
      have q1 : IntKind.i64.wrap ((i : Int) + 1) = ((i + 1 : Nat) : Int) := by rw [IntKind.wrap_i64]; omega
      have q2 : IntKind.i64.wrap ((j : Int) + 1) = ((j + 1 : Nat) : Int) := by rw [IntKind.wrap_i64]; omega
      have q3 : IntKind.i64.wrap ((s.length : Int) - (j : Int)) = ((s.length - j : Nat) : Int) := by rw [IntKind.wrap_i64]; omega
      have q4 : IntKind.i64.wrap (((s.length - j : Nat) : Int) - 1) = ((s.length - j - 1 : Nat) : Int) := by rw [IntKind.wrap_i64]; omega
      simp only [eq_f (show (kindOf (s.take i) : Int) ≠ 0 by omega), q1, go_sem, reduceCtorEq, Nat.reduceEqDiff, reduceIte, Nat.reduceAdd, Nat.reduceSub, Nat.reduceLeDiff, Int.reduceToNat, Nat.reduceBEq]
      repeat (refine ⟨by (try simp only [List.length_append, List.length_cons, List.length_nil, List.length_drop, List.length_take]); omega, ?_⟩)
      refine of_call (rnumber_snd _ (by rw [List.length_drop, List.length_take]; omega)) ?_
      have hp : parse s = (match number ((s.take j).drop (i + 1)) with
        | none => (0, [], 2)
        | some n => if 1048576 < n then (0, [], 4) else if s.length - j - 1 < n then (0, [], 3) else if n < s.length - j - 1 then (0, [], 2) else (kindOf (s.take i), s.drop (j + 1), 0)) := by
        rw [parse, if_neg (by rw [k1, l1]; simp only [Int.toNat_natCast]; omega), k1, l1]; rfl
      rw [hp]
      cases hn : number ((s.take j).drop (i + 1)) with
      | none =>
        simp only [numA, ilt_t (show (-1 : Int) < 0 by omega), go_sem, reduceCtorEq, Nat.reduceEqDiff, reduceIte, Nat.reduceAdd, Nat.reduceSub, Nat.reduceLeDiff, Int.reduceToNat, Nat.reduceBEq]
        exact ⟨by omega, rfl⟩
      | some n =>
        simp only [numA, ilt_f (show ¬ (n : Int) < 0 by omega), go_sem, reduceCtorEq, Nat.reduceEqDiff, reduceIte, Nat.reduceAdd, Nat.reduceSub, Nat.reduceLeDiff, Int.reduceToNat, Nat.reduceBEq]
        by_cases h1 : 1048576 < n
        · simp only [igt_t (show (1048576 : Int) < (n : Int) by omega), if_pos h1, go_sem, reduceCtorEq, Nat.reduceEqDiff, reduceIte, Nat.reduceAdd, Nat.reduceSub, Nat.reduceLeDiff, Int.reduceToNat, Nat.reduceBEq]
          exact ⟨by omega, rfl⟩
        simp only [igt_f (show ¬ (1048576 : Int) < (n : Int) by omega), if_neg h1, q3, q4, go_sem, reduceCtorEq, Nat.reduceEqDiff, reduceIte, Nat.reduceAdd, Nat.reduceSub, Nat.reduceLeDiff, Int.reduceToNat, Nat.reduceBEq]
        by_cases h2 : s.length - j - 1 < n
        · simp only [ilt_t (show ((s.length - j - 1 : Nat) : Int) < (n : Int) by omega), if_pos h2, go_sem, reduceCtorEq, Nat.reduceEqDiff, reduceIte, Nat.reduceAdd, Nat.reduceSub, Nat.reduceLeDiff, Int.reduceToNat, Nat.reduceBEq]
          exact ⟨by omega, rfl⟩
        simp only [ilt_f (show ¬ ((s.length - j - 1 : Nat) : Int) < (n : Int) by omega), if_neg h2, q3, q4, go_sem, reduceCtorEq, Nat.reduceEqDiff, reduceIte, Nat.reduceAdd, Nat.reduceSub, Nat.reduceLeDiff, Int.reduceToNat, Nat.reduceBEq]
        by_cases h3 : n < s.length - j - 1
        · simp only [igt_t (show (n : Int) < ((s.length - j - 1 : Nat) : Int) by omega), if_pos h3, go_sem, reduceCtorEq, Nat.reduceEqDiff, reduceIte, Nat.reduceAdd, Nat.reduceSub, Nat.reduceLeDiff, Int.reduceToNat, Nat.reduceBEq]
          exact ⟨by omega, rfl⟩
        simp only [igt_f (show ¬ (n : Int) < ((s.length - j - 1 : Nat) : Int) by omega), if_neg h3, q2, go_sem, reduceCtorEq, Nat.reduceEqDiff, reduceIte, Nat.reduceAdd, Nat.reduceSub, Nat.reduceLeDiff, Int.reduceToNat, Nat.reduceBEq]
        repeat (refine ⟨by (try simp only [List.length_append, List.length_cons, List.length_nil, List.length_drop, List.length_take]); omega, ?_⟩)
        refine of_call (rkind_snd (s.take i)) ?_
        simp only [q2, go_sem, reduceCtorEq, Nat.reduceEqDiff, reduceIte, Nat.reduceAdd, Nat.reduceSub, Nat.reduceLeDiff, Int.reduceToNat, Nat.reduceBEq]
        exact ⟨by omega, by omega, by omega, rfl⟩
    · have e : parse s = (0, [], 2) := by rw [parse, if_pos (by rw [k1, l1]; exact .inr (.inl (by omega)))]
      simp only [e, l1, ilt_t (show (-1 : Int) < (i : Int) by omega), go_sem, reduceCtorEq, Nat.reduceEqDiff, reduceIte, Nat.reduceAdd, Nat.reduceSub, Nat.reduceLeDiff, Int.reduceToNat, Nat.reduceBEq]
      exact ⟨by omega, rfl⟩
  · have e : parse s = (0, [], 2) := by rw [parse, if_pos (by rw [k1]; exact .inl (by omega))]
    simp only [e, k1, ilt_t (show (-1 : Int) < 0 by omega), go_sem, reduceCtorEq, Nat.reduceEqDiff, reduceIte, Nat.reduceAdd, Nat.reduceSub, Nat.reduceLeDiff, Int.reduceToNat, Nat.reduceBEq]
    exact ⟨by omega, rfl⟩
theorem parse_no {s : Bs} (h : (∀ j : Nat, s[j]? ≠ some 32) ∨ ∃ i, Lib.indexByte s 32 = ((i : Nat) : Int) ∧ ((∀ j : Nat, s[i + 1 + j]? ≠ some 0) ∨ kindOf (s.take i) = 0)) : parse s = (0, [], 2) := by
  rw [parse]
  rcases h with h | ⟨i, h1, h | h⟩
  · rw [if_pos]
    rcases ix_cases s 32 with ⟨i, k1, k2, k3, k4⟩ | ⟨k1, k2⟩
    · exact absurd k3 (h i)
    · rw [k1]; exact .inl (by omega)
  · rw [if_pos]
    rcases ix_cases s 0 with ⟨j, l1, l2, l3, l4⟩ | ⟨l1, l2⟩
    · rw [h1, l1]
      refine .inr (.inl ?_)
      rcases ix_cases s 32 with ⟨i', k1, k2, k3, k4⟩ | ⟨k1, k2⟩
      · have : i' = i := by omega
        subst this
        refine Classical.byContradiction fun hc => ?_
        rcases Nat.lt_or_ge i' j with hl | hl
        · have := h (j - (i' + 1))
          rw [show i' + 1 + (j - (i' + 1)) = j by omega] at this
          exact this l3
        · have : j = i' := by omega
          subst this; rw [l3] at k3; exact absurd k3 (by decide)
      · omega
    · rw [h1, l1]; exact .inr (.inl (by omega))
  · rw [if_pos]
    rw [h1, Int.toNat_natCast]; exact .inr (.inr h)
theorem parse_yes {s : Bs} {i j : Nat} (h1 : Lib.indexByte s 32 = (i : Int)) (hi : i < s.length) (hj : Lib.indexByte (s.drop (i + 1)) 0 = (j : Int)) (hjl : j < (s.drop (i + 1)).length) (hk : kindOf (s.take i) ≠ 0) :
    parse s = (match number ((s.drop (i + 1)).take j) with
      | none => (0, [], 2)
      | some n => if 1048576 < n then (0, [], 4) else if ((s.drop (i + 1)).drop (j + 1)).length < n then (0, [], 3) else if n < ((s.drop (i + 1)).drop (j + 1)).length then (0, [], 2) else (kindOf (s.take i), (s.drop (i + 1)).drop (j + 1), 0)) := by
  have e0 : Lib.indexByte s 0 = ((i + 1 + j : Nat) : Int) := by
    rcases ix_cases (s.drop (i + 1)) 0 with ⟨j', m1, m2, m3, m4⟩ | ⟨m1, m2⟩
    · have : j' = j := by omega
      subst this
      rcases ix_cases s 0 with ⟨q, l1, l2, l3, l4⟩ | ⟨l1, l2⟩
      · rw [l1]
        rcases Nat.lt_trichotomy q (i + 1 + j') with hq | hq | hq
        · rcases Nat.lt_trichotomy q i with g | g | g
          · refine absurd (kind_zero (.inl rfl) ?_) hk
            exact List.mem_of_getElem? (i := q) (by rw [List.getElem?_take_of_lt g]; exact l3)
          · subst g
            rcases ix_cases s 32 with ⟨i', k1, k2, k3, k4⟩ | ⟨k1, k2⟩
            · have : i' = q := by omega
              subst this; rw [l3] at k3; exact absurd k3 (by decide)
            · omega
          · have := m4 (q - (i + 1)) (by omega)
            rw [List.getElem?_drop, show i + 1 + (q - (i + 1)) = q by omega] at this
            exact absurd l3 this
        · rw [hq]
        · have := l4 (i + 1 + j') hq
          rw [List.getElem?_drop] at m3
          exact absurd m3 this
      · rw [List.getElem?_drop] at m3
        exact absurd m3 (l2 _)
    · omega
  have hd : ((s.take (i + 1 + j)).drop (i + 1)) = (s.drop (i + 1)).take j := by rw [List.drop_take]; congr 1; omega
  have hdd : (s.drop (i + 1)).drop (j + 1) = s.drop (i + 1 + j + 1) := by rw [List.drop_drop]; congr 1
  have hl : (s.drop (i + 1 + j + 1)).length = s.length - (i + 1 + j) - 1 := by rw [List.length_drop]; omega
  rw [parse, if_neg (by rw [h1, e0, Int.toNat_natCast]; omega), h1, e0, Int.toNat_natCast, Int.toNat_natCast, hd, hdd, hl]
theorem oparse_snd (s : Bs) (hs : s.length ≤ 4294900000) : Snd Tryd.prog (gl m) 32 [S s] (parseA (parse s)) := by
  refine snd_of (fn := Tryd.f32) (af := oparse) Tryd.func32 (oparse_comp m) mixed (kn_ok m) (Nat.le_of_ble_eq_true rfl) ?_
  simp only [oparse, go_sem, reduceCtorEq, Nat.reduceEqDiff, reduceIte, Nat.reduceAdd, Nat.reduceSub, Nat.reduceLeDiff, Int.reduceToNat, Nat.reduceBEq]
  rcases ix_cases s 32 with ⟨i, k1, k2, k3, k4⟩ | ⟨k1, k2⟩
  · refine of_call (ucut_of s 32 (scut_yes s 32 k1 k2 (by omega))) ?_
    simp only [go_sem, reduceCtorEq, Nat.reduceEqDiff, reduceIte, Nat.reduceAdd, Nat.reduceSub, Nat.reduceLeDiff, Int.reduceToNat, Nat.reduceBEq]
    rcases ix_cases (s.drop (i + 1)) 0 with ⟨j, l1, l2, l3, l4⟩ | ⟨l1, l2⟩
    · refine of_call (ucut_of _ 0 (scut_yes (s.drop (i + 1)) 0 l1 l2 (by rw [List.length_drop]; omega))) ?_
      simp only [go_sem, reduceCtorEq, Nat.reduceEqDiff, reduceIte, Nat.reduceAdd, Nat.reduceSub, Nat.reduceLeDiff, Int.reduceToNat, Nat.reduceBEq]
      refine of_call (okind_snd (s.take i)) ?_
      simp only [go_sem, reduceCtorEq, Nat.reduceEqDiff, reduceIte, Nat.reduceAdd, Nat.reduceSub, Nat.reduceLeDiff, Int.reduceToNat, Nat.reduceBEq]
      refine of_call (odigits_snd ((s.drop (i + 1)).take j) (by rw [List.length_take, List.length_drop]; omega)) ?_
      by_cases hk : kindOf (s.take i) = 0
      · have e := parse_no (s := s) (.inr ⟨i, k1, .inr hk⟩)
        rw [e]
        cases number ((s.drop (i + 1)).take j) with
        | none =>
          simp only [digA, hk, eq_t (show ((0 : Nat) : Int) = 0 from rfl), go_sem, reduceCtorEq, Nat.reduceEqDiff, reduceIte, Nat.reduceAdd, Nat.reduceSub, Nat.reduceLeDiff, Int.reduceToNat, Nat.reduceBEq]
          exact ⟨by omega, rfl⟩
        | some n =>
          simp only [digA, hk, eq_t (show ((0 : Nat) : Int) = 0 from rfl), go_sem, reduceCtorEq, Nat.reduceEqDiff, reduceIte, Nat.reduceAdd, Nat.reduceSub, Nat.reduceLeDiff, Int.reduceToNat, Nat.reduceBEq]
          exact ⟨by omega, rfl⟩
      have e := parse_yes k1 k2 l1 l2 hk
      rw [e]
      have hlen : ((s.drop (i + 1)).drop (j + 1)).length ≤ 4294900000 := by simp only [List.length_drop]; omega
      generalize (s.drop (i + 1)).drop (j + 1) = body at hlen ⊢
      cases number ((s.drop (i + 1)).take j) with
      | none =>
        simp only [digA, eq_f (show (kindOf (s.take i) : Int) ≠ 0 by omega), go_sem, reduceCtorEq, Nat.reduceEqDiff, reduceIte, Nat.reduceAdd, Nat.reduceSub, Nat.reduceLeDiff, Int.reduceToNat, Nat.reduceBEq]
        exact ⟨by omega, rfl⟩
      | some n =>
        simp only [digA, eq_f (show (kindOf (s.take i) : Int) ≠ 0 by omega), go_sem, reduceCtorEq, Nat.reduceEqDiff, reduceIte, Nat.reduceAdd, Nat.reduceSub, Nat.reduceLeDiff, Int.reduceToNat, Nat.reduceBEq]
        by_cases h1 : 1048576 < n
        · simp only [igt_t (show (1048576 : Int) < (n : Int) by omega), if_pos h1, go_sem, reduceCtorEq, Nat.reduceEqDiff, reduceIte, Nat.reduceAdd, Nat.reduceSub, Nat.reduceLeDiff, Int.reduceToNat, Nat.reduceBEq]
          exact ⟨by omega, rfl⟩
        simp only [igt_f (show ¬ (1048576 : Int) < (n : Int) by omega), if_neg h1, go_sem, reduceCtorEq, Nat.reduceEqDiff, reduceIte, Nat.reduceAdd, Nat.reduceSub, Nat.reduceLeDiff, Int.reduceToNat, Nat.reduceBEq]
        by_cases h2 : body.length < n
        · simp only [ilt_t (show (body.length : Int) < (n : Int) by omega), if_pos h2, go_sem, reduceCtorEq, Nat.reduceEqDiff, reduceIte, Nat.reduceAdd, Nat.reduceSub, Nat.reduceLeDiff, Int.reduceToNat, Nat.reduceBEq]
          exact ⟨by omega, rfl⟩
        simp only [ilt_f (show ¬ (body.length : Int) < (n : Int) by omega), if_neg h2, go_sem, reduceCtorEq, Nat.reduceEqDiff, reduceIte, Nat.reduceAdd, Nat.reduceSub, Nat.reduceLeDiff, Int.reduceToNat, Nat.reduceBEq]
        by_cases h3 : n < body.length
        · simp only [igt_t (show (n : Int) < (body.length : Int) by omega), if_pos h3, go_sem, reduceCtorEq, Nat.reduceEqDiff, reduceIte, Nat.reduceAdd, Nat.reduceSub, Nat.reduceLeDiff, Int.reduceToNat, Nat.reduceBEq]
          exact ⟨by omega, rfl⟩
        simp only [igt_f (show ¬ (n : Int) < (body.length : Int) by omega), if_neg h3, go_sem, reduceCtorEq, Nat.reduceEqDiff, reduceIte, Nat.reduceAdd, Nat.reduceSub, Nat.reduceLeDiff, Int.reduceToNat, Nat.reduceBEq]
        exact ⟨by omega, rfl⟩
    · refine of_call (ucut_of _ 0 (scut_no (s.drop (i + 1)) 0 l1)) ?_
      simp only [go_sem, reduceCtorEq, Nat.reduceEqDiff, reduceIte, Nat.reduceAdd, Nat.reduceSub, Nat.reduceLeDiff, Int.reduceToNat, Nat.reduceBEq]
      refine of_call (okind_snd (s.take i)) ?_
      simp only [go_sem, reduceCtorEq, Nat.reduceEqDiff, reduceIte, Nat.reduceAdd, Nat.reduceSub, Nat.reduceLeDiff, Int.reduceToNat, Nat.reduceBEq]
      refine of_call (odigits_snd (s.drop (i + 1)) (by rw [List.length_drop]; omega)) ?_
      have e := parse_no (s := s) (.inr ⟨i, k1, .inl fun j => by have := l2 j; rwa [List.getElem?_drop] at this⟩)
      rw [e]
      cases number (s.drop (i + 1)) with
      | none =>
        simp only [digA, go_sem, reduceCtorEq, Nat.reduceEqDiff, reduceIte, Nat.reduceAdd, Nat.reduceSub, Nat.reduceLeDiff, Int.reduceToNat, Nat.reduceBEq]
        exact ⟨by omega, rfl⟩
      | some n =>
        simp only [digA, go_sem, reduceCtorEq, Nat.reduceEqDiff, reduceIte, Nat.reduceAdd, Nat.reduceSub, Nat.reduceLeDiff, Int.reduceToNat, Nat.reduceBEq]
        exact ⟨by omega, rfl⟩
  · refine of_call (ucut_of s 32 (scut_no s 32 k1)) ?_
    simp only [go_sem, reduceCtorEq, Nat.reduceEqDiff, reduceIte, Nat.reduceAdd, Nat.reduceSub, Nat.reduceLeDiff, Int.reduceToNat, Nat.reduceBEq]
    refine of_call (ucut_of [] 0 (scut_no [] 0 rfl)) ?_
    simp only [go_sem, reduceCtorEq, Nat.reduceEqDiff, reduceIte, Nat.reduceAdd, Nat.reduceSub, Nat.reduceLeDiff, Int.reduceToNat, Nat.reduceBEq]
    refine of_call (okind_snd s) ?_
    simp only [go_sem, reduceCtorEq, Nat.reduceEqDiff, reduceIte, Nat.reduceAdd, Nat.reduceSub, Nat.reduceLeDiff, Int.reduceToNat, Nat.reduceBEq]
    refine of_call (odigits_snd [] (by simp)) ?_
    have e := parse_no (s := s) (.inl k2)
    rw [e]
    simp only [show number [] = none from rfl, digA, go_sem, reduceCtorEq, Nat.reduceEqDiff, reduceIte, Nat.reduceAdd, Nat.reduceSub, Nat.reduceLeDiff, Int.reduceToNat, Nat.reduceBEq]
    exact ⟨by omega, rfl⟩
end Go.Aw

/- Objects, in plain Lean: bytes and back. -/
namespace Go.Ob
open Go.Ev (Bs)
open Go.Aw (parse parse_yes ix_cases word_len dec_len)
set_option linter.unusedVariables false

theorem dec_push {acc : Nat} {c : UInt8} (h : 0 < acc) (h1 : ¬ (c.toNat < 48 ∨ 57 < c.toNat)) : dec (10 * acc + (c.toNat - 48)) = dec acc ++ [c] := by
  rw [dec_step (by omega), show (10 * acc + (c.toNat - 48)) / 10 = acc by omega, show (10 * acc + (c.toNat - 48)) % 10 = c.toNat - 48 by omega, show 48 + (c.toNat - 48) = c.toNat by omega]
  simp
theorem numGo_dec : ∀ (l : Bs) {acc n : Nat}, 0 < acc → numGo acc l = some n → dec n = dec acc ++ l := by
  intro l
  induction l with
  | nil => intro acc n h he; simp only [numGo, Option.some.injEq] at he; subst he; simp
  | cons c l ih =>
    intro acc n h he
    rw [numGo] at he
    split at he
    · cases he
    · rename_i hc
      rw [ih (by omega) he, dec_push h hc]; simp
theorem number_dec {d : Bs} {n : Nat} (h : number d = some n) : dec n = d := by
  rw [number] at h
  split at h
  · cases h
  rename_i hh
  cases d with
  | nil => simp at hh
  | cons c l =>
    rw [numGo] at h
    split at h
    · cases h
    rename_i hc
    by_cases hl : l = []
    · subst hl
      simp only [numGo, Option.some.injEq] at h
      subst h
      rw [dec_small (by omega)]
      have : 48 + (10 * 0 + (c.toNat - 48)) = c.toNat := by omega
      rw [this]; simp
    · have hc48 : c ≠ 48 := by
        rintro rfl
        refine hh (.inr (.inr ⟨rfl, ?_⟩))
        cases l with
        | nil => exact absurd rfl hl
        | cons => simp
      have hp : 0 < c.toNat - 48 := by
        have : c.toNat ≠ 48 := fun e => hc48 (UInt8.toNat_inj.1 e)
        omega
      have := numGo_dec l (acc := 10 * 0 + (c.toNat - 48)) (by omega) h
      rw [this, dec_small (by omega)]
      have e : 48 + (10 * 0 + (c.toNat - 48)) = c.toNat := by omega
      rw [e]; simp
theorem numGo_snoc : ∀ (l : Bs) (acc : Nat) (c : UInt8), numGo acc (l ++ [c]) = (numGo acc l).bind fun a => numGo a [c] := by
  intro l
  induction l with
  | nil => intro acc c; simp [numGo]
  | cons x l ih =>
    intro acc c
    simp only [List.cons_append, numGo]
    split
    · rfl
    · rw [ih]; simp [numGo]
theorem digit_ok {d : Nat} (h : d < 10) (acc : Nat) : numGo acc [UInt8.ofNat (48 + d)] = some (10 * acc + d) := by
  have : (UInt8.ofNat (48 + d)).toNat = 48 + d := by simp; omega
  rw [numGo, this, if_neg (by omega), numGo]; congr 1; omega
theorem dec_num (n : Nat) : numGo 0 (dec n) = some n := by
  induction n using Nat.strongRecOn with
  | _ n ih =>
    by_cases h : n < 10
    · rw [dec_small h, digit_ok h]; simp
    · rw [dec_step h, numGo_snoc, ih (n / 10) (by omega), Option.bind_some, digit_ok (by omega)]; congr 1; omega
theorem dec_head {n : Nat} (h : 0 < n) : (dec n)[0]? ≠ some 48 := by
  induction n using Nat.strongRecOn with
  | _ n ih =>
    by_cases h10 : n < 10
    · rw [dec_small h10]
      intro e
      simp only [List.getElem?_cons_zero, Option.some.injEq] at e
      have := congrArg UInt8.toNat e
      have e2 : (UInt8.ofNat (48 + n)).toNat = 48 + n := by simp; omega
      rw [e2] at this
      have e3 : (48 : UInt8).toNat = 48 := rfl
      omega
    · rw [dec_step h10, List.getElem?_append_left]
      · exact ih (n / 10) (by omega) (by omega)
      · rw [dec, Lib.decDigits_length]; exact Lib.nDigits_pos _
theorem dec_pos (n : Nat) : 1 ≤ (dec n).length := by rw [dec, Lib.decDigits_length]; exact Lib.nDigits_pos _
theorem dec_number {n : Nat} (h : n ≤ 1048576) : number (dec n) = some n := by
  rw [number, if_neg, dec_num]
  have h1 := dec_pos n; have h2 := dec_len h
  rintro (g | g | ⟨g, g'⟩)
  · omega
  · omega
  · by_cases h0 : n = 0
    · subst h0; rw [dec_small (by omega)] at g'; simp at g'
    · exact dec_head (by omega) g
theorem dec_digit {n : Nat} {c : UInt8} (h : c ∈ dec n) : 48 ≤ c.toNat := by
  induction n using Nat.strongRecOn with
  | _ n ih =>
    by_cases h10 : n < 10
    · rw [dec_small h10] at h
      obtain rfl := List.mem_singleton.1 h
      simp; omega
    · rw [dec_step h10, List.mem_append] at h
      rcases h with h | h
      · exact ih (n / 10) (by omega) h
      · obtain rfl := List.mem_singleton.1 h
        simp; omega
theorem word_kind {w : Bs} (h : kindOf w ≠ 0) : word (kindOf w : Int) = w := by
  by_cases h1 : w = blob
  · subst h1; rfl
  by_cases h2 : w = tree
  · subst h2; rfl
  by_cases h3 : w = commit
  · subst h3; rfl
  by_cases h4 : w = tag
  · subst h4; rfl
  rw [kindOf, if_neg h1, if_neg h2, if_neg h3, if_neg h4] at h; exact absurd rfl h
theorem kind_word {k : Int} (h : word k ≠ []) : (kindOf (word k) : Int) = k := by
  simp only [word] at h ⊢
  by_cases h1 : k = 1
  · subst h1; rfl
  by_cases h2 : k = 2
  · subst h2; rfl
  by_cases h3 : k = 3
  · subst h3; rfl
  by_cases h4 : k = 4
  · subst h4; rfl
  rw [if_neg h1, if_neg h2, if_neg h3, if_neg h4] at h; exact absurd rfl h
/-- the first such byte -/
theorem ix_app {a r : Bs} {c : UInt8} (h : c ∉ a) : Lib.indexByte (a ++ c :: r) c = (a.length : Int) := by
  rcases ix_cases (a ++ c :: r) c with ⟨i, k1, k2, k3, k4⟩ | ⟨k1, k2⟩
  · rw [k1]
    rcases Nat.lt_trichotomy i a.length with g | g | g
    · rw [List.getElem?_append_left g] at k3; exact absurd (List.mem_of_getElem? k3) h
    · rw [g]
    · exact absurd (by simp) (k4 a.length g)
  · exact absurd (by simp) (k2 a.length)
theorem word_clean (k : Int) : (32 : UInt8) ∉ word k := by
  simp only [word]; split <;> (try split) <;> (try split) <;> (try split) <;> decide
/-- BYTES AND BACK -/
theorem parse_bytes {k : Int} {b : Bs} (hk : word k ≠ []) (hb : b.length ≤ 1048576) : parse (bytes k b) = (kindOf (word k), b, 0) := by
  have e : bytes k b = word k ++ 32 :: (dec b.length ++ 0 :: b) := by simp [bytes]
  have hd0 : (0 : UInt8) ∉ dec b.length := fun h => by have := dec_digit h; exact absurd this (by decide)
  have h1 := ix_app (r := dec b.length ++ 0 :: b) (word_clean k)
  have hdrop : (word k ++ 32 :: (dec b.length ++ 0 :: b)).drop ((word k).length + 1) = dec b.length ++ 0 :: b := by
    rw [← List.drop_drop, List.drop_left]; rfl
  have htake : (word k ++ 32 :: (dec b.length ++ 0 :: b)).take (word k).length = word k := List.take_left
  have h2 := ix_app (r := b) hd0
  have hkk : kindOf (word k) ≠ 0 := fun h0 => by
    have := kind_word hk
    rw [h0] at this
    subst this
    exact hk rfl
  rw [e, parse_yes (i := (word k).length) (j := (dec b.length).length) h1 (by simp) (by rw [hdrop]; exact h2) (by rw [hdrop]; simp) (by rw [htake]; exact hkk)]
  rw [hdrop, htake, List.take_left, dec_number hb]
  have hdd : (dec b.length ++ 0 :: b).drop ((dec b.length).length + 1) = b := by rw [← List.drop_drop, List.drop_left]; rfl
  rw [hdd]
  simp only
  rw [if_neg (by omega), if_neg (by omega), if_neg (by omega)]
theorem parse_len (s : Bs) : (parse s).2.1.length ≤ s.length := by
  rw [parse]
  split
  · simp
  · split
    · simp
    · split
      · simp
      · split
        · simp
        · split
          · simp
          · simp only [List.length_drop]; omega
/-- READ, AND BYTES AGAIN -/
theorem parse_ok {s b : Bs} {k : Nat} (h : parse s = (k, b, 0)) : word (k : Int) ≠ [] ∧ b.length ≤ 1048576 ∧ bytes k b = s := by
  rw [parse] at h
  split at h
  · injection h with _ h; injection h with _ h; omega
  rename_i h0
  split at h
  · injection h with _ h; injection h with _ h; omega
  rename_i n hn
  split at h
  · injection h with _ h; injection h with _ h; omega
  rename_i h1
  split at h
  · injection h with _ h; injection h with _ h; omega
  rename_i h2
  split at h
  · injection h with _ h; injection h with _ h; omega
  rename_i h3
  injection h with hk h; injection h with hb h
  rcases ix_cases s 32 with ⟨i, k1, k2, k3, k4⟩ | ⟨k1, k2⟩
  · rcases ix_cases s 0 with ⟨j, l1, l2, l3, l4⟩ | ⟨l1, l2⟩
    · rw [k1, l1] at h0
      rw [k1, l1] at hn
      rw [l1] at h2 h3 hb
      rw [k1] at hk
      simp only [Int.toNat_natCast] at h0 h2 h3 hb hk hn
      have hij : i ≠ j := by rintro rfl; rw [k3] at l3; exact absurd l3 (by decide)
      have hlt : i < j := by omega
      have hk0 : kindOf (s.take i) ≠ 0 := fun g => h0 (.inr (.inr g))
      have hw : word (k : Int) = s.take i := by rw [← hk]; exact word_kind hk0
      have hbl : b.length = n := by rw [← hb, List.length_drop]; omega
      refine ⟨fun g => ?_, by omega, ?_⟩
      · rw [hw] at g
        rw [g] at hk0; exact hk0 rfl
      · rw [bytes, hw, hbl, number_dec hn, ← hb]
        have e1 : s.drop i = 32 :: s.drop (i + 1) := by
          rw [List.drop_eq_getElem_cons k2]; congr 1
          have := (List.getElem?_eq_some_iff.1 k3).2; exact this
        have e2 : s.drop j = 0 :: s.drop (j + 1) := by
          rw [List.drop_eq_getElem_cons l2]; congr 1
          have := (List.getElem?_eq_some_iff.1 l3).2; exact this
        have e3 : (s.take j).drop (i + 1) ++ s.drop j = s.drop (i + 1) := by
          rw [List.drop_take, show s.drop j = (s.drop (i + 1)).drop (j - (i + 1)) by rw [List.drop_drop]; congr 1; omega]
          exact List.take_append_drop _ _
        calc s.take i ++ [32] ++ (s.take j).drop (i + 1) ++ [0] ++ s.drop (j + 1)
            = s.take i ++ 32 :: ((s.take j).drop (i + 1) ++ s.drop j) := by rw [e2]; simp
          _ = s.take i ++ s.drop i := by rw [e3, e1]
          _ = s := List.take_append_drop _ _
    · rw [l1, k1] at h0; exact absurd (.inr (.inl (by omega))) h0
  · rw [k1] at h0; exact absurd (.inl (by omega)) h0
end Go.Ob

/- Objects: the examples. -/
namespace Go.Aw
open Go Go.Ev Go.Proofs
open Go.Ob (word kindOf blob tree commit tag numGo number dec)
set_option linter.unusedVariables false
set_option linter.unusedSimpArgs false
attribute [local go_sem] eqs implies_true List.map_cons List.map_nil kl klL roD roL Option.map_some Option.map_none Option.getD_some Option.getD_none binVal binObl unVal if_true if_false eq_self passA frnD resD content getH getR getW viaNot viaSlot viaBox viaDeep viaMem List.contains_cons List.contains_nil grabs peeks okCells isCell place cellsOf chunk elt List.headD_cons List.length_cons List.length_nil List.take_succ_cons List.take_zero List.drop_succ_cons List.drop_zero List.nil_append List.cons_append List.append_nil List.all_cons List.all_nil plainC takeR setW over reCell List.getElem?_cons_zero List.getElem?_cons_succ List.set_cons_zero List.take_length outV resG plainV pack outVG outBx List.set_cons_succ Ref.idx Ref.addOff beq_self_eq_true bxL Option.bind_some writeR isLit viaBoxes capsPA boxPA nsOf noDup boxesAt argG passG passD rhoIn rhoOut idxIn tr trL List.getD_cons_zero gives pasOf isPtr Ins.d List.getD_cons_succ resL frnL List.getLast?_nil
variable {m : Int}
theorem by1 : Ob.bytes 1 [97, 98] = [98, 108, 111, 98, 32, 50, 0, 97, 98] := by
  rw [Ob.bytes, show ([97, 98] : Bs).length = 2 by rfl, Ob.dec_small (by omega)]; rfl
theorem eqS_eq (k : Int) (b : Bs) (k' : Int) (b' : Bs) : eqC [0, 1] [I k, S b] [I k', S b'] = some (k == k' && b == b') := by
  simp only [eqC, if_true, Option.map_some, str_toList, Bool.and_true]
theorem oblives_snd : Snd Tryd.prog (gl m) 26 [] (B true) := by
  refine snd_of (fn := Tryd.f26) (af := oblives) Tryd.func26 (oblives_comp m) mixed (kn_ok m) (Nat.le_of_ble_eq_true rfl) ?_
  have p1 : parse [116, 114, 101, 101, 32, 49, 0, 120] = (2, [120], 0) := by decide +kernel
  have p2 : parse [98, 108, 111, 98, 32, 50, 0, 120] = (0, [], 3) := by decide +kernel
  have p3 : parse [98, 108, 111, 98, 32, 48, 49, 0, 120] = (0, [], 2) := by decide +kernel
  have b1 : bytesA 1 [97, 98] = .tup [S [98, 108, 111, 98, 32, 50, 0, 97, 98], I 0] := by rw [bytesA, if_neg (by decide), if_neg (by decide), by1]
  have i0 : idA 0 [] = [] := by rw [idA, if_pos (by decide)]
  have s1 : (([98, 108, 111, 98, 32, 50, 0, 97, 98] : Bs) == [98, 108, 111, 98, 32, 50, 0, 97, 98]) = true := by decide
  have s2 : ((commit : Bs) == [99, 111, 109, 109, 105, 116]) = true := by decide
  have s3 : (([120] : Bs) == [120]) = true := by decide
  have s4 : (([] : Bs) == []) = true := by decide
  simp only [oblives, go_sem, reduceCtorEq, Nat.reduceEqDiff, reduceIte, Nat.reduceAdd, Nat.reduceSub, Nat.reduceLeDiff, Int.reduceToNat, Nat.reduceBEq]
  refine of_call (obytes_snd 1 [97, 98] (by decide)) ?_
  simp only [b1, go_sem, reduceCtorEq, Nat.reduceEqDiff, reduceIte, Nat.reduceAdd, Nat.reduceSub, Nat.reduceLeDiff, Int.reduceToNat, Nat.reduceBEq]
  refine of_call (oparse_snd [116, 114, 101, 101, 32, 49, 0, 120] (by decide)) ?_
  simp only [p1, parseA, go_sem, reduceCtorEq, Nat.reduceEqDiff, reduceIte, Nat.reduceAdd, Nat.reduceSub, Nat.reduceLeDiff, Int.reduceToNat, Nat.reduceBEq]
  repeat (refine ⟨by (try simp only [List.length_append, List.length_cons, List.length_nil, List.length_drop, List.length_take]); omega, ?_⟩)
  refine of_call (oparse_snd [98, 108, 111, 98, 32, 50, 0, 120] (by decide)) ?_
  simp only [p2, parseA, go_sem, reduceCtorEq, Nat.reduceEqDiff, reduceIte, Nat.reduceAdd, Nat.reduceSub, Nat.reduceLeDiff, Int.reduceToNat, Nat.reduceBEq]
  repeat (refine ⟨by (try simp only [List.length_append, List.length_cons, List.length_nil, List.length_drop, List.length_take]); omega, ?_⟩)
  refine of_call (oparse_snd [98, 108, 111, 98, 32, 48, 49, 0, 120] (by decide)) ?_
  simp only [p3, parseA, go_sem, reduceCtorEq, Nat.reduceEqDiff, reduceIte, Nat.reduceAdd, Nat.reduceSub, Nat.reduceLeDiff, Int.reduceToNat, Nat.reduceBEq]
  repeat (refine ⟨by (try simp only [List.length_append, List.length_cons, List.length_nil, List.length_drop, List.length_take]); omega, ?_⟩)
  have eS1 : eqC [0, 1] [I ((2 : Nat) : Int), S [120]] [I 2, S [120]] = some true := by rw [eqS_eq]; rfl
  have t1 : (word 3 == [99, 111, 109, 109, 105, 116]) = true := rfl
  have t2 : kindOf [116, 97, 103] = 4 := rfl
  have t3 : kindOf [120] = 0 := rfl
  have t4 : (idA 2 [120] == idA 2 [120]) = true := by simp
  simp only [eS1, go_sem, reduceCtorEq, Nat.reduceEqDiff, reduceIte, Nat.reduceAdd, Nat.reduceSub, Nat.reduceLeDiff, Int.reduceToNat, Nat.reduceBEq]
  refine of_call (oword_snd 3) ?_
  simp only [t1, go_sem, reduceCtorEq, Nat.reduceEqDiff, reduceIte, Nat.reduceAdd, Nat.reduceSub, Nat.reduceLeDiff, Int.reduceToNat, Nat.reduceBEq]
  refine of_call (okind_snd [116, 97, 103]) ?_
  simp only [t2, eq_t (show ((4 : Nat) : Int) = 4 from rfl), go_sem, reduceCtorEq, Nat.reduceEqDiff, reduceIte, Nat.reduceAdd, Nat.reduceSub, Nat.reduceLeDiff, Int.reduceToNat, Nat.reduceBEq]
  refine of_call (okind_snd [120]) ?_
  simp only [t3, eq_t (show ((0 : Nat) : Int) = 0 from rfl), go_sem, reduceCtorEq, Nat.reduceEqDiff, reduceIte, Nat.reduceAdd, Nat.reduceSub, Nat.reduceLeDiff, Int.reduceToNat, Nat.reduceBEq]
  refine of_call (oid_snd 0 [] (by decide)) ?_
  simp only [i0, s4, go_sem, reduceCtorEq, Nat.reduceEqDiff, reduceIte, Nat.reduceAdd, Nat.reduceSub, Nat.reduceLeDiff, Int.reduceToNat, Nat.reduceBEq]
  repeat (refine ⟨by (try simp only [List.length_append, List.length_cons, List.length_nil, List.length_drop, List.length_take]); omega, ?_⟩)
  refine of_call (oid_snd 2 [120] (by decide)) ?_
  simp only [go_sem, reduceCtorEq, Nat.reduceEqDiff, reduceIte, Nat.reduceAdd, Nat.reduceSub, Nat.reduceLeDiff, Int.reduceToNat, Nat.reduceBEq]
  repeat (refine ⟨by (try simp only [List.length_append, List.length_cons, List.length_nil, List.length_drop, List.length_take]); omega, ?_⟩)
  refine of_call (rid_snd 2 [120] (by decide)) ?_
  simp only [t4, go_sem, reduceCtorEq, Nat.reduceEqDiff, reduceIte, Nat.reduceAdd, Nat.reduceSub, Nat.reduceLeDiff, Int.reduceToNat, Nat.reduceBEq]
  repeat (refine ⟨by (try simp only [List.length_append, List.length_cons, List.length_nil, List.length_drop, List.length_take]); omega, ?_⟩)
  refine of_call (osame_snd 2 [120] 2 [120]) ?_
  simp only [go_sem, reduceCtorEq, Nat.reduceEqDiff, reduceIte, Nat.reduceAdd, Nat.reduceSub, Nat.reduceLeDiff, Int.reduceToNat, Nat.reduceBEq]
theorem objwords_snd (k : Int) (w : Bs) : Snd Tryd.prog (gl m) 7 [I k, S w] (B true) := by
  refine snd_of (fn := Tryd.f7) (af := objwords) Tryd.func7 (objwords_comp m) mixed (kn_ok m) (Nat.le_of_ble_eq_true rfl) ?_
  have t1 : (word k == word k) = true := by simp
  have t2 : ((kindOf w : Int) == (kindOf w : Int)) = true := by simp
  simp only [objwords, go_sem, reduceCtorEq, Nat.reduceEqDiff, reduceIte, Nat.reduceAdd, Nat.reduceSub, Nat.reduceLeDiff, Int.reduceToNat, Nat.reduceBEq]
  refine of_call oblives_snd ?_
  simp only [go_sem, reduceCtorEq, Nat.reduceEqDiff, reduceIte, Nat.reduceAdd, Nat.reduceSub, Nat.reduceLeDiff, Int.reduceToNat, Nat.reduceBEq]
  refine of_call (oword_snd k) ?_
  simp only [go_sem, reduceCtorEq, Nat.reduceEqDiff, reduceIte, Nat.reduceAdd, Nat.reduceSub, Nat.reduceLeDiff, Int.reduceToNat, Nat.reduceBEq]
  refine of_call (rword_snd k) ?_
  simp only [t1, go_sem, reduceCtorEq, Nat.reduceEqDiff, reduceIte, Nat.reduceAdd, Nat.reduceSub, Nat.reduceLeDiff, Int.reduceToNat, Nat.reduceBEq]
  refine of_call (okind_snd w) ?_
  simp only [go_sem, reduceCtorEq, Nat.reduceEqDiff, reduceIte, Nat.reduceAdd, Nat.reduceSub, Nat.reduceLeDiff, Int.reduceToNat, Nat.reduceBEq]
  refine of_call (rkind_snd w) ?_
  simp only [t2, go_sem, reduceCtorEq, Nat.reduceEqDiff, reduceIte, Nat.reduceAdd, Nat.reduceSub, Nat.reduceLeDiff, Int.reduceToNat, Nat.reduceBEq]
  refine of_call (oword_snd k) ?_
  simp only [go_sem, reduceCtorEq, Nat.reduceEqDiff, reduceIte, Nat.reduceAdd, Nat.reduceSub, Nat.reduceLeDiff, Int.reduceToNat, Nat.reduceBEq]
  by_cases h : word k = []
  · simp only [se_t h, go_sem, reduceCtorEq, Nat.reduceEqDiff, reduceIte, Nat.reduceAdd, Nat.reduceSub, Nat.reduceLeDiff, Int.reduceToNat, Nat.reduceBEq]
  simp only [se_f h, go_sem, reduceCtorEq, Nat.reduceEqDiff, reduceIte, Nat.reduceAdd, Nat.reduceSub, Nat.reduceLeDiff, Int.reduceToNat, Nat.reduceBEq]
  refine of_call (oword_snd k) ?_
  simp only [go_sem, reduceCtorEq, Nat.reduceEqDiff, reduceIte, Nat.reduceAdd, Nat.reduceSub, Nat.reduceLeDiff, Int.reduceToNat, Nat.reduceBEq]
  refine of_call (okind_snd (word k)) ?_
  simp only [eq_t (Ob.kind_word h), go_sem, reduceCtorEq, Nat.reduceEqDiff, reduceIte, Nat.reduceAdd, Nat.reduceSub, Nat.reduceLeDiff, Int.reduceToNat, Nat.reduceBEq]
theorem bytesA_tup (k : Int) (b : Bs) : ∃ t g, bytesA k b = .tup [S t, I g] := by
  rw [bytesA]; split
  · exact ⟨_, _, rfl⟩
  · split
    · exact ⟨_, _, rfl⟩
    · exact ⟨_, _, rfl⟩
theorem objparses_snd (s : Bs) (hs : s.length ≤ 4294900000) : Snd Tryd.prog (gl m) 6 [S s] (B true) := by
  refine snd_of (fn := Tryd.f6) (af := objparses) Tryd.func6 (objparses_comp m) mixed (kn_ok m) (Nat.le_of_ble_eq_true rfl) ?_
  simp only [objparses, go_sem, reduceCtorEq, Nat.reduceEqDiff, reduceIte, Nat.reduceAdd, Nat.reduceSub, Nat.reduceLeDiff, Int.reduceToNat, Nat.reduceBEq]
  by_cases hbig : 1048596 < s.length
  · simp only [igt_t (show (1048596 : Int) < (s.length : Int) by omega), go_sem, reduceCtorEq, Nat.reduceEqDiff, reduceIte, Nat.reduceAdd, Nat.reduceSub, Nat.reduceLeDiff, Int.reduceToNat, Nat.reduceBEq]
    refine of_call oblives_snd ?_
    simp only [go_sem, reduceCtorEq, Nat.reduceEqDiff, reduceIte, Nat.reduceAdd, Nat.reduceSub, Nat.reduceLeDiff, Int.reduceToNat, Nat.reduceBEq]
    try rfl
  simp only [igt_f (show ¬ (1048596 : Int) < (s.length : Int) by omega), go_sem, reduceCtorEq, Nat.reduceEqDiff, reduceIte, Nat.reduceAdd, Nat.reduceSub, Nat.reduceLeDiff, Int.reduceToNat, Nat.reduceBEq]
  have hlen := Ob.parse_len s
  have hok := fun k b => @Ob.parse_ok s b k
  have ho := oparse_snd (m := m) s hs
  have hr := rparse_snd (m := m) s hs
  generalize parse s = p at hlen hok ho hr
  obtain ⟨kk, body, e⟩ := p
  simp only at hlen
  refine of_call ho ?_
  simp only [parseA, go_sem, reduceCtorEq, Nat.reduceEqDiff, reduceIte, Nat.reduceAdd, Nat.reduceSub, Nat.reduceLeDiff, Int.reduceToNat, Nat.reduceBEq]
  repeat (refine ⟨by (try simp only [List.length_append, List.length_cons, List.length_nil, List.length_drop, List.length_take]); omega, ?_⟩)
  refine of_call hr ?_
  simp only [parseA, go_sem, reduceCtorEq, Nat.reduceEqDiff, reduceIte, Nat.reduceAdd, Nat.reduceSub, Nat.reduceLeDiff, Int.reduceToNat, Nat.reduceBEq]
  repeat (refine ⟨by (try simp only [List.length_append, List.length_cons, List.length_nil, List.length_drop, List.length_take]); omega, ?_⟩)
  refine of_call oblives_snd ?_
  have eS : eqC [0, 1] [N kk, S body] [N kk, S body] = some true := by rw [eqS_eq]; simp
  simp only [eS, ne_f (show e = e from rfl), go_sem, reduceCtorEq, Nat.reduceEqDiff, reduceIte, Nat.reduceAdd, Nat.reduceSub, Nat.reduceLeDiff, Int.reduceToNat, Nat.reduceBEq]
  by_cases he : e = 0
  · subst he
    obtain ⟨w1, w2, w3⟩ := hok kk body rfl
    have hb : bytesA kk body = .tup [S s, I 0] := by rw [bytesA, if_neg w1, if_neg (by omega), w3]
    have hbs := obytes_snd (m := m) kk body (by omega)
    rw [hb] at hbs
    repeat (refine ⟨by (try simp only [List.length_append, List.length_cons, List.length_nil, List.length_drop, List.length_take]); omega, ?_⟩)
    refine of_call hbs ?_
    simp only [ne_f (show (0 : Int) = 0 from rfl), se_t (show s = s from rfl), go_sem, reduceCtorEq, Nat.reduceEqDiff, reduceIte, Nat.reduceAdd, Nat.reduceSub, Nat.reduceLeDiff, Int.reduceToNat, Nat.reduceBEq]
  · obtain ⟨t, g, hb⟩ := bytesA_tup kk body
    have hbs := obytes_snd (m := m) kk body (by omega)
    rw [hb] at hbs
    repeat (refine ⟨by (try simp only [List.length_append, List.length_cons, List.length_nil, List.length_drop, List.length_take]); omega, ?_⟩)
    refine of_call hbs ?_
    simp only [ne_t he, go_sem, reduceCtorEq, Nat.reduceEqDiff, reduceIte, Nat.reduceAdd, Nat.reduceSub, Nat.reduceLeDiff, Int.reduceToNat, Nat.reduceBEq]
theorem objbytes_snd (k : Int) (a : Bs) (k' : Int) (b : Bs) (ha : a.length ≤ 4294900000) (hb : b.length ≤ 4294900000) : Snd Tryd.prog (gl m) 5 [objA k a, objA k' b] (B true) := by
  refine snd_of (fn := Tryd.f5) (af := objbytes) Tryd.func5 (objbytes_comp m) mixed (kn_ok m) (Nat.le_of_ble_eq_true rfl) ?_
  simp only [objbytes, go_sem, reduceCtorEq, Nat.reduceEqDiff, reduceIte, Nat.reduceAdd, Nat.reduceSub, Nat.reduceLeDiff, Int.reduceToNat, Nat.reduceBEq]
  repeat (refine ⟨by (try simp only [List.length_append, List.length_cons, List.length_nil, List.length_drop, List.length_take]); omega, ?_⟩)
  by_cases hba : 1048586 < a.length
  · simp only [igt_t (show (1048586 : Int) < (a.length : Int) by omega), go_sem, reduceCtorEq, Nat.reduceEqDiff, reduceIte, Nat.reduceAdd, Nat.reduceSub, Nat.reduceLeDiff, Int.reduceToNat, Nat.reduceBEq]
    refine of_call oblives_snd ?_
    simp only [go_sem, reduceCtorEq, Nat.reduceEqDiff, reduceIte, Nat.reduceAdd, Nat.reduceSub, Nat.reduceLeDiff, Int.reduceToNat, Nat.reduceBEq]
  simp only [igt_f (show ¬ (1048586 : Int) < (a.length : Int) by omega), go_sem, reduceCtorEq, Nat.reduceEqDiff, reduceIte, Nat.reduceAdd, Nat.reduceSub, Nat.reduceLeDiff, Int.reduceToNat, Nat.reduceBEq]
  repeat (refine ⟨by (try simp only [List.length_append, List.length_cons, List.length_nil, List.length_drop, List.length_take]); omega, ?_⟩)
  by_cases hbb : 1048586 < b.length
  · simp only [igt_t (show (1048586 : Int) < (b.length : Int) by omega), go_sem, reduceCtorEq, Nat.reduceEqDiff, reduceIte, Nat.reduceAdd, Nat.reduceSub, Nat.reduceLeDiff, Int.reduceToNat, Nat.reduceBEq]
    refine of_call oblives_snd ?_
    simp only [go_sem, reduceCtorEq, Nat.reduceEqDiff, reduceIte, Nat.reduceAdd, Nat.reduceSub, Nat.reduceLeDiff, Int.reduceToNat, Nat.reduceBEq]
  simp only [igt_f (show ¬ (1048586 : Int) < (b.length : Int) by omega), go_sem, reduceCtorEq, Nat.reduceEqDiff, reduceIte, Nat.reduceAdd, Nat.reduceSub, Nat.reduceLeDiff, Int.reduceToNat, Nat.reduceBEq]
  have oa := obytes_snd (m := m) k a ha
  have ra := rbytes_snd (m := m) k a ha
  have ob := obytes_snd (m := m) k' b hb
  have ja : (bytesA k a = .tup [S (Ob.bytes k a), I 0] ∧ word k ≠ [] ∧ a.length ≤ 1048576) ∨ ∃ g, g ≠ 0 ∧ bytesA k a = .tup [S [], I g] := by
    by_cases h : word k = []
    · exact .inr ⟨140, by omega, by rw [bytesA, if_pos h]⟩
    by_cases h2 : 1048576 < a.length
    · exact .inr ⟨4, by omega, by rw [bytesA, if_neg h, if_pos h2]⟩
    · exact .inl ⟨by rw [bytesA, if_neg h, if_neg h2], h, by omega⟩
  have eS : eqC [0, 1] [I k, S a] [I k', S b] = some (k == k' && a == b) := eqS_eq k a k' b
  have nx : (!((k == k' && a == b) == (k == k' && a == b))) = false := by simp
  repeat (refine ⟨by (try simp only [List.length_append, List.length_cons, List.length_nil, List.length_drop, List.length_take]); omega, ?_⟩)
  rcases ja with ⟨e, hw, hl⟩ | ⟨g, hg, e⟩
  · rw [e] at oa ra
    have hp := Ob.parse_bytes hw hl
    have hlen := bytes_len (k := k) (b := a) hl
    refine of_call oa ?_
    simp only [go_sem, reduceCtorEq, Nat.reduceEqDiff, reduceIte, Nat.reduceAdd, Nat.reduceSub, Nat.reduceLeDiff, Int.reduceToNat, Nat.reduceBEq]
    repeat (refine ⟨by (try simp only [List.length_append, List.length_cons, List.length_nil, List.length_drop, List.length_take]); omega, ?_⟩)
    refine of_call ra ?_
    simp only [go_sem, reduceCtorEq, Nat.reduceEqDiff, reduceIte, Nat.reduceAdd, Nat.reduceSub, Nat.reduceLeDiff, Int.reduceToNat, Nat.reduceBEq]
    repeat (refine ⟨by (try simp only [List.length_append, List.length_cons, List.length_nil, List.length_drop, List.length_take]); omega, ?_⟩)
    refine of_call oblives_snd ?_
    simp only [sn_f (show Ob.bytes k a = Ob.bytes k a from rfl), ne_f (show (0 : Int) = 0 from rfl), go_sem, reduceCtorEq, Nat.reduceEqDiff, reduceIte, Nat.reduceAdd, Nat.reduceSub, Nat.reduceLeDiff, Int.reduceToNat, Nat.reduceBEq]
    repeat (refine ⟨by (try simp only [List.length_append, List.length_cons, List.length_nil, List.length_drop, List.length_take]); omega, ?_⟩)
    refine of_call (oid_snd k a ha) ?_
    simp only [go_sem, reduceCtorEq, Nat.reduceEqDiff, reduceIte, Nat.reduceAdd, Nat.reduceSub, Nat.reduceLeDiff, Int.reduceToNat, Nat.reduceBEq]
    repeat (refine ⟨by (try simp only [List.length_append, List.length_cons, List.length_nil, List.length_drop, List.length_take]); omega, ?_⟩)
    refine of_call (rid_snd k a ha) ?_
    simp only [sn_f (show idA k a = idA k a from rfl), go_sem, reduceCtorEq, Nat.reduceEqDiff, reduceIte, Nat.reduceAdd, Nat.reduceSub, Nat.reduceLeDiff, Int.reduceToNat, Nat.reduceBEq]
    repeat (refine ⟨by (try simp only [List.length_append, List.length_cons, List.length_nil, List.length_drop, List.length_take]); omega, ?_⟩)
    refine of_call (osame_snd k a k' b) ?_
    simp only [go_sem, reduceCtorEq, Nat.reduceEqDiff, reduceIte, Nat.reduceAdd, Nat.reduceSub, Nat.reduceLeDiff, Int.reduceToNat, Nat.reduceBEq]
    repeat (refine ⟨by (try simp only [List.length_append, List.length_cons, List.length_nil, List.length_drop, List.length_take]); omega, ?_⟩)
    simp only [eS, nx, ne_f (show (0 : Int) = 0 from rfl), go_sem, reduceCtorEq, Nat.reduceEqDiff, reduceIte, Nat.reduceAdd, Nat.reduceSub, Nat.reduceLeDiff, Int.reduceToNat, Nat.reduceBEq]
    have op := oparse_snd (m := m) (Ob.bytes k a) (by omega)
    rw [hp] at op
    refine of_call op ?_
    simp only [parseA, go_sem, reduceCtorEq, Nat.reduceEqDiff, reduceIte, Nat.reduceAdd, Nat.reduceSub, Nat.reduceLeDiff, Int.reduceToNat, Nat.reduceBEq]
    have eK : eqC [0, 1] [N (kindOf (word k)), S a] [I k, S a] = some true := by rw [eqS_eq, Ob.kind_word hw]; simp
    have jb : (bytesA k' b = .tup [S (Ob.bytes k' b), I 0] ∧ word k' ≠ [] ∧ b.length ≤ 1048576) ∨ ∃ g, g ≠ 0 ∧ bytesA k' b = .tup [S [], I g] := by
      by_cases h : word k' = []
      · exact .inr ⟨140, by omega, by rw [bytesA, if_pos h]⟩
      by_cases h2 : 1048576 < b.length
      · exact .inr ⟨4, by omega, by rw [bytesA, if_neg h, if_pos h2]⟩
      · exact .inl ⟨by rw [bytesA, if_neg h, if_neg h2], h, by omega⟩
    repeat (refine ⟨by (try simp only [List.length_append, List.length_cons, List.length_nil, List.length_drop, List.length_take]); omega, ?_⟩)
    rcases jb with ⟨e', hw', hl'⟩ | ⟨g, hg, e'⟩
    · rw [e'] at ob
      have hp' := Ob.parse_bytes hw' hl'
      have tt : ((Ob.bytes k a == Ob.bytes k' b) == (k == k' && a == b)) = true := by
        by_cases hkb : k = k' ∧ a = b
        · obtain ⟨rfl, rfl⟩ := hkb; simp
        · have n1 : Ob.bytes k a ≠ Ob.bytes k' b := fun he => by
            rw [he, hp'] at hp
            injection hp with h1 h2
            injection h2 with h2 _
            refine hkb ⟨?_, h2.symm⟩
            rw [← Ob.kind_word hw, ← Ob.kind_word hw', h1]
          have n2 : (k == k' && a == b) = false := by
            rw [Bool.and_eq_false_iff]
            by_cases hk : k = k'
            · exact .inr (by simpa using fun hab => hkb ⟨hk, hab⟩)
            · exact .inl (by simpa using hk)
          rw [n2, se_f n1]; rfl
      refine of_call ob ?_
      simp only [eK, eS, ne_f (show (0 : Int) = 0 from rfl), eq_t (show (0 : Int) = 0 from rfl), go_sem, reduceCtorEq, Nat.reduceEqDiff, reduceIte, Nat.reduceAdd, Nat.reduceSub, Nat.reduceLeDiff, Int.reduceToNat, Nat.reduceBEq]
      repeat (refine ⟨by (try simp only [List.length_append, List.length_cons, List.length_nil, List.length_drop, List.length_take]); omega, ?_⟩)
      rw [tt]
    · rw [e'] at ob
      refine of_call ob ?_
      simp only [eK, eS, ne_t hg, eq_t (show (0 : Int) = 0 from rfl), go_sem, reduceCtorEq, Nat.reduceEqDiff, reduceIte, Nat.reduceAdd, Nat.reduceSub, Nat.reduceLeDiff, Int.reduceToNat, Nat.reduceBEq]
      omega
  · rw [e] at oa ra
    refine of_call oa ?_
    simp only [go_sem, reduceCtorEq, Nat.reduceEqDiff, reduceIte, Nat.reduceAdd, Nat.reduceSub, Nat.reduceLeDiff, Int.reduceToNat, Nat.reduceBEq]
    repeat (refine ⟨by (try simp only [List.length_append, List.length_cons, List.length_nil, List.length_drop, List.length_take]); omega, ?_⟩)
    refine of_call ra ?_
    simp only [go_sem, reduceCtorEq, Nat.reduceEqDiff, reduceIte, Nat.reduceAdd, Nat.reduceSub, Nat.reduceLeDiff, Int.reduceToNat, Nat.reduceBEq]
    repeat (refine ⟨by (try simp only [List.length_append, List.length_cons, List.length_nil, List.length_drop, List.length_take]); omega, ?_⟩)
    refine of_call oblives_snd ?_
    simp only [sn_f (show ([] : Bs) = [] from rfl), ne_f (show g = g from rfl), go_sem, reduceCtorEq, Nat.reduceEqDiff, reduceIte, Nat.reduceAdd, Nat.reduceSub, Nat.reduceLeDiff, Int.reduceToNat, Nat.reduceBEq]
    repeat (refine ⟨by (try simp only [List.length_append, List.length_cons, List.length_nil, List.length_drop, List.length_take]); omega, ?_⟩)
    refine of_call (oid_snd k a ha) ?_
    simp only [go_sem, reduceCtorEq, Nat.reduceEqDiff, reduceIte, Nat.reduceAdd, Nat.reduceSub, Nat.reduceLeDiff, Int.reduceToNat, Nat.reduceBEq]
    repeat (refine ⟨by (try simp only [List.length_append, List.length_cons, List.length_nil, List.length_drop, List.length_take]); omega, ?_⟩)
    refine of_call (rid_snd k a ha) ?_
    simp only [sn_f (show idA k a = idA k a from rfl), go_sem, reduceCtorEq, Nat.reduceEqDiff, reduceIte, Nat.reduceAdd, Nat.reduceSub, Nat.reduceLeDiff, Int.reduceToNat, Nat.reduceBEq]
    repeat (refine ⟨by (try simp only [List.length_append, List.length_cons, List.length_nil, List.length_drop, List.length_take]); omega, ?_⟩)
    refine of_call (osame_snd k a k' b) ?_
    simp only [go_sem, reduceCtorEq, Nat.reduceEqDiff, reduceIte, Nat.reduceAdd, Nat.reduceSub, Nat.reduceLeDiff, Int.reduceToNat, Nat.reduceBEq]
    repeat (refine ⟨by (try simp only [List.length_append, List.length_cons, List.length_nil, List.length_drop, List.length_take]); omega, ?_⟩)
    simp only [eS, nx, ne_t hg, go_sem, reduceCtorEq, Nat.reduceEqDiff, reduceIte, Nat.reduceAdd, Nat.reduceSub, Nat.reduceLeDiff, Int.reduceToNat, Nat.reduceBEq]
end Go.Aw

