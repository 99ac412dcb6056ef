import Derived.Test.YtccbffefdaloiaaDoorAwA
/- The digest: a block, as the program reckons. -/
namespace Go.Aw
open Go Go.Ev Go.Proofs
open Go.Sh (at0 rotr word byteAt words first16 nextW)
set_option linter.unusedVariables false
set_option linter.unusedSimpArgs false
attribute [local go_sem] eqs implies_true List.map_cons List.map_nil kl klL roD roL Option.map_some Option.map_none Option.getD_some Option.getD_none binObl if_true if_false eq_self passA frnD resD content getH getR getW viaNot viaSlot viaBox viaDeep viaMem List.contains_cons List.contains_nil grabs peeks okCells isCell place cellsOf chunk elt List.headD_cons List.length_cons List.length_nil List.take_succ_cons List.take_zero List.drop_succ_cons List.drop_zero List.nil_append List.cons_append List.append_nil List.all_cons List.all_nil plainC takeR setW over reCell List.getElem?_cons_zero List.getElem?_cons_succ List.set_cons_zero List.take_length outV resG plainV pack outVG outBx List.set_cons_succ Ref.idx Ref.addOff beq_self_eq_true bxL Option.bind_some writeR isLit viaBoxes capsPA boxPA nsOf noDup boxesAt argG passG passD rhoIn rhoOut idxIn tr trL List.getD_cons_zero gives pasOf isPtr Ins.d List.getD_cons_succ resL frnL un_not un_neg uw_not bn_add bn_sub bn_mul bn_quo bn_rem bn_eql bn_neq bn_lss bn_leq bn_gtr bn_geq bn_cat bn_same bw_add bw_xor bw_and bw_or bw_andNot bw_shl24 bw_shl16 bw_shl8 bw_shr24 bw_shr16 bw_shr8 bw_shr10 bw_shr3 frnL_ws resL_ws roL_ws klL_ws map_roD_ws passL_ws trL_ws ws_length ws_append ws_snoc ws_take ws_drop w_u8 List.getLast?_nil Nat.mul_one tab0_ws
variable {m : Int}

theorem ws_lits (l : List UInt32) : (ws l).all isLit = true := by
  rw [List.all_eq_true]; intro x hx; obtain ⟨y, _, rfl⟩ := List.mem_map.1 hx; rfl
theorem ws_put {l : List UInt32} {k : Nat} (h : k < l.length) (x : UInt32) : ws (l.take k) ++ W x :: ws (l.drop (k + 1)) = ws (l.set k x) := by
  rw [List.set_eq_take_append_cons_drop, if_pos h]; simp [ws]
theorem set_put {l : List UInt32} {k : Nat} (h : k < l.length) (x : UInt32) : l.take k ++ [x] ++ l.drop (k + 1) = l.set k x := by
  rw [List.set_eq_take_append_cons_drop, if_pos h]; simp
theorem ws_head {l : List UInt32} {k : Nat} (h : k < l.length) : (ws (l.drop k))[0]? = some (W (at0 l k)) := by
  rw [ws_get _ (by simp; omega)]; simp [Sh.at0_get h]
theorem byte_get {b : Bs} {i : Nat} (h : i < b.length) : (b[i]).toUInt32 = byteAt b i := by simp [byteAt, List.getD, h]

def pblock_l0' : AC := .seq (.reg (.seq [⟨(some (22, false)), none, .bin .lss (.tmp 21 true) (.cst (.int .i64 16) (.lit (.int .i64 16)))⟩])) [0, 1, 4, 21, 22] [10000, 10001]
  (.seq (.cond (.tmp 22 false)
    (.skip)
    (.exit 0)) [0, 1, 4, 21] [10000, 10001]
  (.seq (.block 1 (.seq (.reg (.seq [⟨(some (23, false)), none, .mov (.tmp 21 true) .take⟩,
      ⟨(some (5, true)), none, .mov (.tmp 23 false) .asg⟩])) [0, 1, 4, 5, 21] [10000, 10001]
    (.reg (.draw [⟨(some (24, false)), none, .mov (.tmp 4 true) .peek⟩,
      ⟨(some (25, false)), none, .mov (.tmp 5 true) .peek⟩,
      ⟨(some (26, false)), none, .mov (.tmp 1 true) .peek⟩,
      ⟨(some (27, false)), none, .mov (.tmp 5 true) .peek⟩,
      ⟨(some (28, false)), none, .bin .mul (.cst (.int .i64 4) (.lit (.int .i64 4))) (.tmp 27 false)⟩,
      ⟨(some (29, false)), none, .idx (.tmp 26 false) (.tmp 28 false)⟩,
      ⟨(some (30, false)), none, .cvt .u32 (.tmp 29 false)⟩,
      ⟨(some (31, false)), none, .bin .shl (.tmp 30 false) (.cst (.int .u64 24) (.lit (.int .u64 24)))⟩,
      ⟨(some (32, false)), none, .mov (.tmp 1 true) .peek⟩,
      ⟨(some (33, false)), none, .mov (.tmp 5 true) .peek⟩,
      ⟨(some (34, false)), none, .bin .mul (.cst (.int .i64 4) (.lit (.int .i64 4))) (.tmp 33 false)⟩,
      ⟨(some (35, false)), none, .bin .add (.tmp 34 false) (.cst (.int .i64 1) (.lit (.int .i64 1)))⟩,
      ⟨(some (36, false)), none, .idx (.tmp 32 false) (.tmp 35 false)⟩,
      ⟨(some (37, false)), none, .cvt .u32 (.tmp 36 false)⟩,
      ⟨(some (38, false)), none, .bin .shl (.tmp 37 false) (.cst (.int .u64 16) (.lit (.int .u64 16)))⟩,
      ⟨(some (39, false)), none, .bin .or (.tmp 31 false) (.tmp 38 false)⟩,
      ⟨(some (40, false)), none, .mov (.tmp 1 true) .peek⟩,
      ⟨(some (41, false)), none, .mov (.tmp 5 true) .peek⟩,
      ⟨(some (42, false)), none, .bin .mul (.cst (.int .i64 4) (.lit (.int .i64 4))) (.tmp 41 false)⟩,
      ⟨(some (43, false)), none, .bin .add (.tmp 42 false) (.cst (.int .i64 2) (.lit (.int .i64 2)))⟩,
      ⟨(some (44, false)), none, .idx (.tmp 40 false) (.tmp 43 false)⟩,
      ⟨(some (45, false)), none, .cvt .u32 (.tmp 44 false)⟩,
      ⟨(some (46, false)), none, .bin .shl (.tmp 45 false) (.cst (.int .u64 8) (.lit (.int .u64 8)))⟩,
      ⟨(some (47, false)), none, .bin .or (.tmp 39 false) (.tmp 46 false)⟩,
      ⟨(some (48, false)), none, .mov (.tmp 1 true) .peek⟩,
      ⟨(some (49, false)), none, .mov (.tmp 5 true) .peek⟩,
      ⟨(some (50, false)), none, .bin .mul (.cst (.int .i64 4) (.lit (.int .i64 4))) (.tmp 49 false)⟩,
      ⟨(some (51, false)), none, .bin .add (.tmp 50 false) (.cst (.int .i64 3) (.lit (.int .i64 3)))⟩,
      ⟨(some (52, false)), none, .idx (.tmp 48 false) (.tmp 51 false)⟩,
      ⟨(some (53, false)), none, .cvt .u32 (.tmp 52 false)⟩,
      ⟨(some (54, false)), none, .bin .or (.tmp 47 false) (.tmp 53 false)⟩,
      ⟨(some (55, false)), none, .chk (.tmp 24 false)⟩,
      ⟨(some (56, false)), none, .iadA (.tmp 55 false) (.tmp 25 false) 64 1⟩] (.alt ⟨none, none, .store (.tmp 56 false) (.tmp 54 false) 1⟩ []
      .done .no))))) [0, 1, 4, 21] [10000, 10001]
  (.reg (.seq [⟨(some (57, false)), none, .bin .add (.tmp 21 true) (.cst (.int .i64 1) (.lit (.int .i64 1)))⟩,
      ⟨(some (21, true)), none, .mov (.tmp 57 false) .peek⟩]))))
def pblock_l0 : AC := pblock_l0'
theorem pblock_l0_w (C : Kn) (K : Ex → St → Prop) (s : St) : vcC C pblock_l0 K s = vcC C pblock_l0' K s := nr rfl
def pblock_k1' : AC := .reg (.draw [⟨(some (74, false)), none, .mov (.tmp 4 true) .peek⟩,
      ⟨(some (75, false)), none, .mov (.tmp 6 true) .peek⟩,
      ⟨(some (76, false)), none, .mov (.tmp 8 true) .peek⟩,
      ⟨(some (77, false)), none, .call 137 [(.tmp 76 false), (.cst (.int .i64 17) (.lit (.int .i64 17)))]⟩,
      ⟨(some (78, false)), none, .mov (.tmp 8 true) .peek⟩,
      ⟨(some (79, false)), none, .call 137 [(.tmp 78 false), (.cst (.int .i64 19) (.lit (.int .i64 19)))]⟩,
      ⟨(some (80, false)), none, .bin .xor (.tmp 77 false) (.tmp 79 false)⟩,
      ⟨(some (81, false)), none, .mov (.tmp 8 true) .peek⟩,
      ⟨(some (82, false)), none, .bin .shr (.tmp 81 false) (.cst (.int .u64 10) (.lit (.int .u64 10)))⟩,
      ⟨(some (83, false)), none, .bin .xor (.tmp 80 false) (.tmp 82 false)⟩,
      ⟨(some (84, false)), none, .mov (.tmp 4 true) .peek⟩,
      ⟨(some (85, false)), none, .mov (.tmp 6 true) .peek⟩,
      ⟨(some (86, false)), none, .bin .sub (.tmp 85 false) (.cst (.int .i64 7) (.lit (.int .i64 7)))⟩,
      ⟨(some (87, false)), none, .chk (.tmp 84 false)⟩,
      ⟨(some (88, false)), none, .iadA (.tmp 87 false) (.tmp 86 false) 64 1⟩,
      ⟨(some (89, false)), none, .load (.tmp 88 false) 1 false false⟩,
      ⟨(some (90, false)), none, .bin .add (.tmp 83 false) (.tmp 89 false)⟩,
      ⟨(some (91, false)), none, .mov (.tmp 7 true) .peek⟩,
      ⟨(some (92, false)), none, .call 137 [(.tmp 91 false), (.cst (.int .i64 7) (.lit (.int .i64 7)))]⟩,
      ⟨(some (93, false)), none, .mov (.tmp 7 true) .peek⟩,
      ⟨(some (94, false)), none, .call 137 [(.tmp 93 false), (.cst (.int .i64 18) (.lit (.int .i64 18)))]⟩,
      ⟨(some (95, false)), none, .bin .xor (.tmp 92 false) (.tmp 94 false)⟩,
      ⟨(some (96, false)), none, .mov (.tmp 7 true) .peek⟩,
      ⟨(some (97, false)), none, .bin .shr (.tmp 96 false) (.cst (.int .u64 3) (.lit (.int .u64 3)))⟩,
      ⟨(some (98, false)), none, .bin .xor (.tmp 95 false) (.tmp 97 false)⟩,
      ⟨(some (99, false)), none, .bin .add (.tmp 90 false) (.tmp 98 false)⟩,
      ⟨(some (100, false)), none, .mov (.tmp 4 true) .peek⟩,
      ⟨(some (101, false)), none, .mov (.tmp 6 true) .peek⟩,
      ⟨(some (102, false)), none, .bin .sub (.tmp 101 false) (.cst (.int .i64 16) (.lit (.int .i64 16)))⟩,
      ⟨(some (103, false)), none, .chk (.tmp 100 false)⟩,
      ⟨(some (104, false)), none, .iadA (.tmp 103 false) (.tmp 102 false) 64 1⟩,
      ⟨(some (105, false)), none, .load (.tmp 104 false) 1 false false⟩,
      ⟨(some (106, false)), none, .bin .add (.tmp 99 false) (.tmp 105 false)⟩,
      ⟨(some (107, false)), none, .chk (.tmp 74 false)⟩,
      ⟨(some (108, false)), none, .iadA (.tmp 107 false) (.tmp 75 false) 64 1⟩] (.alt ⟨none, none, .store (.tmp 108 false) (.tmp 106 false) 1⟩ []
      .done .no))
def pblock_k1 : AC := pblock_k1'
theorem pblock_k1_w (C : Kn) (K : Ex → St → Prop) (s : St) : vcC C pblock_k1 K s = vcC C pblock_k1' K s := nr rfl
def pblock_l2' : AC := .seq (.seq (.reg (.seq [⟨(some (58, false)), none, .mov (.tmp 6 true) .peek⟩,
      ⟨(some (59, false)), none, .bin .lss (.tmp 58 false) (.cst (.int .i64 64) (.lit (.int .i64 64)))⟩])) [0, 4, 6, 59] [10000, 10001]
  (.cond (.tmp 59 false)
    (.skip)
    (.exit 2))) [0, 4, 6] [10000, 10001]
  (.seq (.block 3 (.seq (.reg (.draw [⟨(some (62, false)), none, .mov (.tmp 4 true) .peek⟩,
      ⟨(some (63, false)), none, .mov (.tmp 6 true) .peek⟩,
      ⟨(some (64, false)), none, .bin .sub (.tmp 63 false) (.cst (.int .i64 15) (.lit (.int .i64 15)))⟩,
      ⟨(some (65, false)), none, .chk (.tmp 62 false)⟩,
      ⟨(some (66, false)), none, .iadA (.tmp 65 false) (.tmp 64 false) 64 1⟩,
      ⟨(some (67, false)), none, .load (.tmp 66 false) 1 false false⟩,
      ⟨(some (68, false)), none, .mov (.tmp 4 true) .peek⟩,
      ⟨(some (69, false)), none, .mov (.tmp 6 true) .peek⟩,
      ⟨(some (70, false)), none, .bin .sub (.tmp 69 false) (.cst (.int .i64 2) (.lit (.int .i64 2)))⟩,
      ⟨(some (71, false)), none, .chk (.tmp 68 false)⟩,
      ⟨(some (72, false)), none, .iadA (.tmp 71 false) (.tmp 70 false) 64 1⟩,
      ⟨(some (73, false)), none, .load (.tmp 72 false) 1 false false⟩] (.alt ⟨(some (7, true)), none, .mov (.tmp 67 false) .asg⟩ [⟨(some (68, false)), none, .mov (.tmp 4 true) .peek⟩,
      ⟨(some (69, false)), none, .mov (.tmp 6 true) .peek⟩,
      ⟨(some (70, false)), none, .bin .sub (.tmp 69 false) (.cst (.int .i64 2) (.lit (.int .i64 2)))⟩,
      ⟨(some (71, false)), none, .chk (.tmp 68 false)⟩,
      ⟨(some (72, false)), none, .iadA (.tmp 71 false) (.tmp 70 false) 64 1⟩,
      ⟨(some (73, false)), none, .load (.tmp 72 false) 1 false false⟩]
      (.alt ⟨(some (8, true)), none, .mov (.tmp 73 false) .asg⟩ []
      .done .no) .no))) [0, 4, 6, 7, 8] [10000, 10001] pblock_k1)) [0, 4, 6] [10000, 10001]
  (.reg (.seq [⟨(some (60, false)), none, .mov (.tmp 6 true) .peek⟩,
      ⟨(some (61, false)), none, .bin .add (.tmp 60 false) (.cst (.int .i64 1) (.lit (.int .i64 1)))⟩,
      ⟨(some (6, true)), none, .mov (.tmp 61 false) .asg⟩])))
def pblock_l2 : AC := pblock_l2'
theorem pblock_l2_w (C : Kn) (K : Ex → St → Prop) (s : St) : vcC C pblock_l2 K s = vcC C pblock_l2' K s := nr rfl
def pblock_k3' : AC := .seq (.reg (.seq [⟨(some (167, false)), none, .mov (.tmp 11 true) .peek⟩,
      ⟨(some (168, false)), none, .call 137 [(.tmp 167 false), (.cst (.int .i64 2) (.lit (.int .i64 2)))]⟩,
      ⟨(some (169, false)), none, .mov (.tmp 11 true) .peek⟩,
      ⟨(some (170, false)), none, .call 137 [(.tmp 169 false), (.cst (.int .i64 13) (.lit (.int .i64 13)))]⟩,
      ⟨(some (171, false)), none, .bin .xor (.tmp 168 false) (.tmp 170 false)⟩,
      ⟨(some (172, false)), none, .mov (.tmp 11 true) .peek⟩,
      ⟨(some (173, false)), none, .call 137 [(.tmp 172 false), (.cst (.int .i64 22) (.lit (.int .i64 22)))]⟩,
      ⟨(some (174, false)), none, .bin .xor (.tmp 171 false) (.tmp 173 false)⟩,
      ⟨(some (175, false)), none, .mov (.tmp 14 true) .peek⟩,
      ⟨(some (176, false)), none, .bin .add (.tmp 174 false) (.tmp 175 false)⟩,
      ⟨(some (16, true)), none, .mov (.tmp 176 false) .asg⟩])) [0, 4, 9, 11, 12, 15, 16, 113] [9, 10000, 10001]
    (.reg (.seq [⟨(some (177, false)), none, .mov (.tmp 15 true) .peek⟩,
      ⟨(some (178, false)), none, .mov (.tmp 16 true) .peek⟩,
      ⟨(some (179, false)), none, .bin .add (.tmp 177 false) (.tmp 178 false)⟩,
      ⟨(some (180, false)), none, .mov (.tmp 11 true) .take⟩,
      ⟨(some (181, false)), none, .iadA (.tmp 9 true) (.cst (.int .i64 1) (.lit (.int .i64 1))) 8 1⟩,
      ⟨(some (182, false)), none, .load (.tmp 181 false) 1 false true⟩,
      ⟨(some (183, false)), none, .iadA (.tmp 9 true) (.cst (.int .i64 2) (.lit (.int .i64 2))) 8 1⟩,
      ⟨(some (184, false)), none, .load (.tmp 183 false) 1 false true⟩,
      ⟨(some (185, false)), none, .iadA (.tmp 9 true) (.cst (.int .i64 3) (.lit (.int .i64 3))) 8 1⟩,
      ⟨(some (186, false)), none, .load (.tmp 185 false) 1 false false⟩,
      ⟨(some (187, false)), none, .mov (.tmp 15 true) .peek⟩,
      ⟨(some (188, false)), none, .bin .add (.tmp 186 false) (.tmp 187 false)⟩,
      ⟨(some (189, false)), none, .mov (.tmp 12 true) .take⟩,
      ⟨(some (190, false)), none, .iadA (.tmp 9 true) (.cst (.int .i64 5) (.lit (.int .i64 5))) 8 1⟩,
      ⟨(some (191, false)), none, .load (.tmp 190 false) 1 false true⟩,
      ⟨(some (192, false)), none, .iadA (.tmp 9 true) (.cst (.int .i64 6) (.lit (.int .i64 6))) 8 1⟩,
      ⟨(some (193, false)), none, .load (.tmp 192 false) 1 false true⟩,
      ⟨(some (194, false)), none, .buildP [(.lit (.int .u32 0)), (.lit (.int .u32 0)), (.lit (.int .u32 0)), (.lit (.int .u32 0)), (.lit (.int .u32 0)), (.lit (.int .u32 0)), (.lit (.int .u32 0)), (.lit (.int .u32 0))] [(0, 1, (.tmp 179 false)), (1, 1, (.tmp 180 false)), (2, 1, (.tmp 182 false)), (3, 1, (.tmp 184 false)), (4, 1, (.tmp 188 false)), (5, 1, (.tmp 189 false)), (6, 1, (.tmp 191 false)), (7, 1, (.tmp 193 false))]⟩,
      ⟨none, none, .store (.tmp 9 true) (.tmp 194 false) 8⟩]))
def pblock_k3 : AC := pblock_k3'
theorem pblock_k3_w (C : Kn) (K : Ex → St → Prop) (s : St) : vcC C pblock_k3 K s = vcC C pblock_k3' K s := nr rfl
def pblock_k4' : AC := .seq (.reg (.draw [⟨(some (144, false)), none, .iadA (.tmp 9 true) (.cst (.int .i64 7) (.lit (.int .i64 7))) 8 1⟩,
      ⟨(some (145, false)), none, .load (.tmp 144 false) 1 false false⟩,
      ⟨(some (146, false)), none, .mov (.tmp 12 true) .peek⟩,
      ⟨(some (147, false)), none, .call 137 [(.tmp 146 false), (.cst (.int .i64 6) (.lit (.int .i64 6)))]⟩,
      ⟨(some (148, false)), none, .mov (.tmp 12 true) .peek⟩,
      ⟨(some (149, false)), none, .call 137 [(.tmp 148 false), (.cst (.int .i64 11) (.lit (.int .i64 11)))]⟩,
      ⟨(some (150, false)), none, .bin .xor (.tmp 147 false) (.tmp 149 false)⟩,
      ⟨(some (151, false)), none, .mov (.tmp 12 true) .peek⟩,
      ⟨(some (152, false)), none, .call 137 [(.tmp 151 false), (.cst (.int .i64 25) (.lit (.int .i64 25)))]⟩,
      ⟨(some (153, false)), none, .bin .xor (.tmp 150 false) (.tmp 152 false)⟩,
      ⟨(some (154, false)), none, .bin .add (.tmp 145 false) (.tmp 153 false)⟩,
      ⟨(some (155, false)), none, .mov (.tmp 13 true) .peek⟩,
      ⟨(some (156, false)), none, .bin .add (.tmp 154 false) (.tmp 155 false)⟩,
      ⟨(some (157, false)), none, .mov (.tmp 10 true) .peek⟩,
      ⟨(some (158, false)), none, .iadA (.glb 0 tab0) (.tmp 157 false) 64 1⟩,
      ⟨(some (159, false)), none, .load (.tmp 158 false) 1 false false⟩,
      ⟨(some (160, false)), none, .bin .add (.tmp 156 false) (.tmp 159 false)⟩,
      ⟨(some (161, false)), none, .mov (.tmp 4 true) .peek⟩,
      ⟨(some (162, false)), none, .mov (.tmp 10 true) .peek⟩,
      ⟨(some (163, false)), none, .chk (.tmp 161 false)⟩,
      ⟨(some (164, false)), none, .iadA (.tmp 163 false) (.tmp 162 false) 64 1⟩,
      ⟨(some (165, false)), none, .load (.tmp 164 false) 1 false false⟩,
      ⟨(some (166, false)), none, .bin .add (.tmp 160 false) (.tmp 165 false)⟩] (.alt ⟨(some (15, true)), none, .mov (.tmp 166 false) .asg⟩ []
      .done .no))) [0, 4, 9, 11, 12, 14, 15, 113] [9, 10000, 10001] pblock_k3
def pblock_k4 : AC := pblock_k4'
theorem pblock_k4_w (C : Kn) (K : Ex → St → Prop) (s : St) : vcC C pblock_k4 K s = vcC C pblock_k4' K s := nr rfl
def pblock_l5' : AC := .seq (.reg (.seq [⟨(some (114, false)), none, .bin .lss (.tmp 113 true) (.cst (.int .i64 64) (.lit (.int .i64 64)))⟩])) [0, 4, 9, 113, 114] [9, 10000, 10001]
  (.seq (.cond (.tmp 114 false)
    (.skip)
    (.exit 4)) [0, 4, 9, 113] [9, 10000, 10001]
  (.seq (.block 5 (.seq (.reg (.seq [⟨(some (115, false)), none, .mov (.tmp 113 true) .take⟩,
      ⟨(some (10, true)), none, .mov (.tmp 115 false) .asg⟩])) [0, 4, 9, 10, 113] [9, 10000, 10001]
    (.seq (.reg (.draw [⟨(some (116, false)), none, .iadA (.tmp 9 true) (.cst (.int .i64 0) (.lit (.int .i64 0))) 8 1⟩,
      ⟨(some (117, false)), none, .load (.tmp 116 false) 1 false false⟩,
      ⟨(some (118, false)), none, .iadA (.tmp 9 true) (.cst (.int .i64 4) (.lit (.int .i64 4))) 8 1⟩,
      ⟨(some (119, false)), none, .load (.tmp 118 false) 1 false false⟩] (.alt ⟨(some (11, true)), none, .mov (.tmp 117 false) .asg⟩ [⟨(some (118, false)), none, .iadA (.tmp 9 true) (.cst (.int .i64 4) (.lit (.int .i64 4))) 8 1⟩,
      ⟨(some (119, false)), none, .load (.tmp 118 false) 1 false false⟩]
      (.alt ⟨(some (12, true)), none, .mov (.tmp 119 false) .asg⟩ []
      .done .no) .no))) [0, 4, 9, 10, 11, 12, 113] [9, 10000, 10001]
    (.seq (.reg (.seq [⟨(some (120, false)), none, .iadA (.tmp 9 true) (.cst (.int .i64 5) (.lit (.int .i64 5))) 8 1⟩,
      ⟨(some (121, false)), none, .load (.tmp 120 false) 1 false false⟩,
      ⟨(some (122, false)), none, .mov (.tmp 12 true) .peek⟩,
      ⟨(some (123, false)), none, .bin .and (.tmp 121 false) (.tmp 122 false)⟩,
      ⟨(some (124, false)), none, .iadA (.tmp 9 true) (.cst (.int .i64 6) (.lit (.int .i64 6))) 8 1⟩,
      ⟨(some (125, false)), none, .load (.tmp 124 false) 1 false false⟩,
      ⟨(some (126, false)), none, .mov (.tmp 12 true) .peek⟩,
      ⟨(some (127, false)), none, .bin .andNot (.tmp 125 false) (.tmp 126 false)⟩,
      ⟨(some (128, false)), none, .bin .xor (.tmp 123 false) (.tmp 127 false)⟩,
      ⟨(some (13, true)), none, .mov (.tmp 128 false) .asg⟩])) [0, 4, 9, 10, 11, 12, 13, 113] [9, 10000, 10001]
    (.seq (.reg (.seq [⟨(some (129, false)), none, .mov (.tmp 11 true) .peek⟩,
      ⟨(some (130, false)), none, .iadA (.tmp 9 true) (.cst (.int .i64 1) (.lit (.int .i64 1))) 8 1⟩,
      ⟨(some (131, false)), none, .load (.tmp 130 false) 1 false false⟩,
      ⟨(some (132, false)), none, .bin .and (.tmp 129 false) (.tmp 131 false)⟩,
      ⟨(some (133, false)), none, .mov (.tmp 11 true) .peek⟩,
      ⟨(some (134, false)), none, .iadA (.tmp 9 true) (.cst (.int .i64 2) (.lit (.int .i64 2))) 8 1⟩,
      ⟨(some (135, false)), none, .load (.tmp 134 false) 1 false false⟩,
      ⟨(some (136, false)), none, .bin .and (.tmp 133 false) (.tmp 135 false)⟩,
      ⟨(some (137, false)), none, .bin .xor (.tmp 132 false) (.tmp 136 false)⟩,
      ⟨(some (138, false)), none, .iadA (.tmp 9 true) (.cst (.int .i64 1) (.lit (.int .i64 1))) 8 1⟩,
      ⟨(some (139, false)), none, .load (.tmp 138 false) 1 false false⟩,
      ⟨(some (140, false)), none, .iadA (.tmp 9 true) (.cst (.int .i64 2) (.lit (.int .i64 2))) 8 1⟩,
      ⟨(some (141, false)), none, .load (.tmp 140 false) 1 false false⟩,
      ⟨(some (142, false)), none, .bin .and (.tmp 139 false) (.tmp 141 false)⟩,
      ⟨(some (143, false)), none, .bin .xor (.tmp 137 false) (.tmp 142 false)⟩,
      ⟨(some (14, true)), none, .mov (.tmp 143 false) .asg⟩])) [0, 4, 9, 10, 11, 12, 13, 14, 113] [9, 10000, 10001] pblock_k4))))) [0, 4, 9, 113] [9, 10000, 10001]
  (.reg (.seq [⟨(some (195, false)), none, .bin .add (.tmp 113 true) (.cst (.int .i64 1) (.lit (.int .i64 1)))⟩,
      ⟨(some (113, true)), none, .mov (.tmp 195 false) .peek⟩]))))
def pblock_l5 : AC := pblock_l5'
theorem pblock_l5_w (C : Kn) (K : Ex → St → Prop) (s : St) : vcC C pblock_l5 K s = vcC C pblock_l5' K s := nr rfl
def pblock_l6' : AC := .seq (.reg (.seq [⟨(some (197, false)), none, .bin .lss (.tmp 196 true) (.cst (.int .i64 8) (.lit (.int .i64 8)))⟩])) [0, 9, 196, 197] [9, 10000, 10001]
  (.seq (.cond (.tmp 197 false)
    (.skip)
    (.exit 6)) [0, 9, 196] [9, 10000, 10001]
  (.seq (.block 7 (.seq (.reg (.seq [⟨(some (198, false)), none, .mov (.tmp 196 true) .take⟩,
      ⟨(some (17, true)), none, .mov (.tmp 198 false) .asg⟩])) [0, 9, 17, 196] [9, 10000, 10001]
    (.reg (.draw [⟨(some (199, false)), none, .mov (.tmp 0 true) .peek⟩,
      ⟨(some (200, false)), none, .mov (.tmp 17 true) .peek⟩,
      ⟨(some (201, false)), none, .chk (.tmp 199 false)⟩,
      ⟨(some (202, false)), none, .fad (.tmp 201 false) 0⟩,
      ⟨(some (203, false)), none, .iadA (.tmp 202 false) (.tmp 200 false) 8 1⟩,
      ⟨(some (204, false)), none, .load (.tmp 203 false) 1 false false⟩,
      ⟨(some (205, false)), none, .mov (.tmp 17 true) .peek⟩,
      ⟨(some (206, false)), none, .iadA (.tmp 9 true) (.tmp 205 false) 8 1⟩,
      ⟨(some (207, false)), none, .load (.tmp 206 false) 1 false false⟩,
      ⟨(some (208, false)), none, .bin .add (.tmp 204 false) (.tmp 207 false)⟩,
      ⟨(some (209, false)), none, .chk (.tmp 199 false)⟩,
      ⟨(some (210, false)), none, .fad (.tmp 209 false) 0⟩,
      ⟨(some (211, false)), none, .iadA (.tmp 210 false) (.tmp 200 false) 8 1⟩] (.alt ⟨none, none, .store (.tmp 211 false) (.tmp 208 false) 1⟩ []
      .done .no))))) [0, 9, 196] [9, 10000, 10001]
  (.reg (.seq [⟨(some (212, false)), none, .bin .add (.tmp 196 true) (.cst (.int .i64 1) (.lit (.int .i64 1)))⟩,
      ⟨(some (196, true)), none, .mov (.tmp 212 false) .peek⟩]))))
def pblock_l6 : AC := pblock_l6'
theorem pblock_l6_w (C : Kn) (K : Ex → St → Prop) (s : St) : vcC C pblock_l6 K s = vcC C pblock_l6' K s := nr rfl
def pblock_k7' : AC := .seq (.reg (.seq [⟨(some (196, true)), none, .mov (.cst (.int .i64 0) (.lit (.int .i64 0))) .peek⟩])) [0, 9, 196] [9, 10000, 10001]
  (.block 6 (.loop [0, 9, 196] [9, 10000, 10001] pblock_l6))
def pblock_k7 : AC := pblock_k7'
theorem pblock_k7_w (C : Kn) (K : Ex → St → Prop) (s : St) : vcC C pblock_k7 K s = vcC C pblock_k7' K s := nr rfl
def pblock_k8' : AC := .seq (.reg (.seq [⟨(some (109, false)), none, .mov (.tmp 0 true) .peek⟩,
      ⟨(some (110, false)), none, .chk (.tmp 109 false)⟩,
      ⟨(some (111, false)), none, .fad (.tmp 110 false) 0⟩,
      ⟨(some (112, false)), none, .load (.tmp 111 false) 8 true true⟩,
      ⟨(some (9, true)), none, .new [(.lit (.int .u32 0)), (.lit (.int .u32 0)), (.lit (.int .u32 0)), (.lit (.int .u32 0)), (.lit (.int .u32 0)), (.lit (.int .u32 0)), (.lit (.int .u32 0)), (.lit (.int .u32 0))]⟩,
      ⟨none, none, .store (.tmp 9 true) (.tmp 112 false) 8⟩])) [0, 4, 9] [9, 10000, 10001]
  (.seq (.seq (.reg (.seq [⟨(some (113, true)), none, .mov (.cst (.int .i64 0) (.lit (.int .i64 0))) .peek⟩])) [0, 4, 9, 113] [9, 10000, 10001]
  (.block 4 (.loop [0, 4, 9, 113] [9, 10000, 10001] pblock_l5))) [0, 9] [9, 10000, 10001] pblock_k7)
def pblock_k8 : AC := pblock_k8'
theorem pblock_k8_w (C : Kn) (K : Ex → St → Prop) (s : St) : vcC C pblock_k8 K s = vcC C pblock_k8' K s := nr rfl
def pblock_k9' : AC := .seq (.seq (.reg (.seq [⟨(some (6, true)), none, .mov (.cst (.int .i64 16) (.lit (.int .i64 16))) .asg⟩])) [0, 4, 6] [10000, 10001]
  (.block 2 (.loop [0, 4, 6] [10000, 10001] pblock_l2))) [0, 4] [10000, 10001] pblock_k8
def pblock_k9 : AC := pblock_k9'
theorem pblock_k9_w (C : Kn) (K : Ex → St → Prop) (s : St) : vcC C pblock_k9 K s = vcC C pblock_k9' K s := nr rfl
def pblock : AF := ⟨.seq (.reg (.seq [⟨(some (18, false)), none, .mov (.tmp 0 true) .peek⟩,
      ⟨(some (19, false)), none, .chk (.tmp 18 false)⟩,
      ⟨(some (20, false)), none, .fad (.tmp 19 false) 8⟩,
      ⟨(some (4, true)), none, .mov (.tmp 20 false) .asg⟩])) [0, 1, 4] [10000, 10001]
  (.seq (.seq (.reg (.seq [⟨(some (21, true)), none, .mov (.cst (.int .i64 0) (.lit (.int .i64 0))) .peek⟩])) [0, 1, 4, 21] [10000, 10001]
  (.block 0 (.loop [0, 1, 4, 21] [10000, 10001] pblock_l0))) [0, 4] [10000, 10001] pblock_k9),
  []⟩
theorem pblock_comp (m : Int) : compF Tryd.prog (gl m) [10000, 10001] Tryd.f118 = some pblock := by kernel_rfl
/-- the words are behind the sums -/
structure InW (h : List UInt32) (b : Bs) (Z : List UInt32) (i : Nat) : Prop where
  len : Z.length = 72
  old : ∀ j, j < 8 → at0 Z j = at0 h j
  new : ∀ j, j < i → at0 Z (8 + j) = at0 (words b) j
theorem InW.set {h : List UInt32} {b : Bs} {Z : List UInt32} {i : Nat} (H : InW h b Z i) (hi : i < 64) {x : UInt32} (hx : x = at0 (words b) i) : InW h b (Z.set (8 + i) x) (i + 1) := by
  have hl := H.len
  refine ⟨by rw [List.length_set]; exact hl, fun j hj => ?_, fun j hj => ?_⟩
  · rw [Sh.at0_set (by omega), if_neg (by omega)]; exact H.old j hj
  · rw [Sh.at0_set (by omega)]
    by_cases e : j = i
    · subst e; rw [if_pos rfl]; exact hx
    · rw [if_neg (by omega)]; exact H.new j (by omega)
def pst (env : List (Nat × AV)) (Z : List UInt32) : Ev.St := mkS env [(10000, some (ws Z)), (10001, none)]
abbrev P0 : AV := .ptr ⟨.box 10000 0, []⟩
abbrev P8 : AV := .ptr ⟨.box 10000 8, []⟩
theorem pblock_loop0 (h : List UInt32) (b : Bs) (hb : b.length = 64) (K : Ex → Ev.St → Prop) (hK : ∀ Z, InW h b Z 16 → K (.exit 0) (pst [(0, P0), (1, S b), (4, P8), (21, N 16), (22, B false)] Z)) (n : Nat) : ∀ (i : Nat) (Z : List UInt32) (hn : 16 - i = n) (hi : i ≤ 16) (hZ : InW h b Z i),
    vcL (kn m) [0, 1, 4, 21] [10000, 10001] pblock_l0 K (pst [(0, P0), (1, S b), (4, P8), (21, N i)] Z) := by
  induction n with
  | zero =>
    intro i Z hn hi hZ
    obtain rfl : i = 16 := by omega
    apply round
    simp only [pst, pblock_l0_w, pblock_l0', go_sem, reduceCtorEq, Nat.reduceEqDiff, reduceIte, Nat.reduceAdd, Nat.reduceSub, Nat.reduceLeDiff, Int.reduceToNat, Nat.reduceBEq]
    rw [ilt_f (by omega)]
    simp only [go_sem, reduceCtorEq, Nat.reduceEqDiff, reduceIte, Nat.reduceAdd, Nat.reduceSub, Nat.reduceLeDiff, Int.reduceToNat, Nat.reduceBEq]
    exact hK Z hZ
  | succ n ih =>
    intro i Z hn hi hZ
    have q0 : IntKind.i64.wrap (4 * (i : Int)) = ((4 * i : Nat) : Int) := by rw [IntKind.wrap_i64]; omega
    have q1 : IntKind.i64.wrap (((4 * i : Nat) : Int) + 1) = ((4 * i + 1 : Nat) : Int) := by rw [IntKind.wrap_i64]; omega
    have q2 : IntKind.i64.wrap (((4 * i : Nat) : Int) + 2) = ((4 * i + 2 : Nat) : Int) := by rw [IntKind.wrap_i64]; omega
    have q3 : IntKind.i64.wrap (((4 * i : Nat) : Int) + 3) = ((4 * i + 3 : Nat) : Int) := by rw [IntKind.wrap_i64]; omega
    have q4 : IntKind.i64.wrap ((i : Int) + 1) = ((i + 1 : Nat) : Int) := by rw [IntKind.wrap_i64]; omega
    have g0 := getE (l := b) (i := 4 * i) (by omega)
    have g1 := getE (l := b) (i := 4 * i + 1) (by omega)
    have g2 := getE (l := b) (i := 4 * i + 2) (by omega)
    have g3 := getE (l := b) (i := 4 * i + 3) (by omega)
    have hlen := hZ.len
    apply round
    simp only [pst, pblock_l0_w, pblock_l0', go_sem, reduceCtorEq, Nat.reduceEqDiff, reduceIte, Nat.reduceAdd, Nat.reduceSub, Nat.reduceLeDiff, Int.reduceToNat, Nat.reduceBEq]
    rw [ilt_t (by omega)]
    simp only [q0, q1, q2, q3, q4, g0, g1, g2, g3, ws_lits, byte_get (show 4 * i < b.length by omega), byte_get (show 4 * i + 1 < b.length by omega), byte_get (show 4 * i + 2 < b.length by omega), byte_get (show 4 * i + 3 < b.length by omega), go_sem, reduceCtorEq, Nat.reduceEqDiff, reduceIte, Nat.reduceAdd, Nat.reduceSub, Nat.reduceLeDiff, Int.reduceToNat, Nat.reduceBEq]
    repeat (refine ⟨by (try simp only [List.length_append, List.length_cons, List.length_nil, List.length_drop, List.length_take]); omega, ?_⟩)
    have hp : 8 + i + 1 ≤ Z.length := by omega
    simp only [hp, ws_lits, q4, set_put (show 8 + i < Z.length by omega), go_sem, reduceCtorEq, Nat.reduceEqDiff, reduceIte, Nat.reduceAdd, Nat.reduceSub, Nat.reduceLeDiff, Int.reduceToNat, Nat.reduceBEq]
    exact ih (i + 1) _ (by omega) (by omega) (hZ.set (by omega) (by rw [Sh.words_first b (by omega)]; rfl))
theorem pblock_loop1 (h : List UInt32) (b : Bs) (K : Ex → Ev.St → Prop) (hK : ∀ Z, InW h b Z 64 → K (.exit 2) (pst [(0, P0), (4, P8), (6, N 64), (59, B false)] Z)) (n : Nat) : ∀ (i : Nat) (Z : List UInt32) (hn : 64 - i = n) (hi : i ≤ 64) (h16 : 16 ≤ i) (hZ : InW h b Z i),
    vcL (kn m) [0, 4, 6] [10000, 10001] pblock_l2 K (pst [(0, P0), (4, P8), (6, N i)] Z) := by
  induction n with
  | zero =>
    intro i Z hn hi h16 hZ
    obtain rfl : i = 64 := by omega
    apply round
    simp only [pst, pblock_l2_w, pblock_l2', go_sem, reduceCtorEq, Nat.reduceEqDiff, reduceIte, Nat.reduceAdd, Nat.reduceSub, Nat.reduceLeDiff, Int.reduceToNat, Nat.reduceBEq]
    rw [ilt_f (by omega)]
    simp only [go_sem, reduceCtorEq, Nat.reduceEqDiff, reduceIte, Nat.reduceAdd, Nat.reduceSub, Nat.reduceLeDiff, Int.reduceToNat, Nat.reduceBEq]
    exact hK Z hZ
  | succ n ih =>
    intro i Z hn hi h16 hZ
    have hlen := hZ.len
    have i15 : IntKind.i64.wrap ((i : Int) - 15) = ((i - 15 : Nat) : Int) := by rw [IntKind.wrap_i64]; omega
    have i2 : IntKind.i64.wrap ((i : Int) - 2) = ((i - 2 : Nat) : Int) := by rw [IntKind.wrap_i64]; omega
    have i7 : IntKind.i64.wrap ((i : Int) - 7) = ((i - 7 : Nat) : Int) := by rw [IntKind.wrap_i64]; omega
    have i16 : IntKind.i64.wrap ((i : Int) - 16) = ((i - 16 : Nat) : Int) := by rw [IntKind.wrap_i64]; omega
    have i1 : IntKind.i64.wrap ((i : Int) + 1) = ((i + 1 : Nat) : Int) := by rw [IntKind.wrap_i64]; omega
    have g15 := ws_head (l := Z) (k := 8 + (i - 15)) (by omega)
    have g2 := ws_head (l := Z) (k := 8 + (i - 2)) (by omega)
    have g7 := ws_head (l := Z) (k := 8 + (i - 7)) (by omega)
    have g16 := ws_head (l := Z) (k := 8 + (i - 16)) (by omega)
    have hp : 8 + i + 1 ≤ Z.length := by omega
    apply round
    simp only [pst, pblock_l2_w, pblock_l2', go_sem, reduceCtorEq, Nat.reduceEqDiff, reduceIte, Nat.reduceAdd, Nat.reduceSub, Nat.reduceLeDiff, Int.reduceToNat, Nat.reduceBEq]
    rw [ilt_t (by omega)]
    simp only [i15, i2, g15, g2, go_sem, reduceCtorEq, Nat.reduceEqDiff, reduceIte, Nat.reduceAdd, Nat.reduceSub, Nat.reduceLeDiff, Int.reduceToNat, Nat.reduceBEq]
    repeat (refine ⟨by (try simp only [List.length_append, List.length_cons, List.length_nil, List.length_drop, List.length_take]); omega, ?_⟩)
    simp only [pblock_k1_w, pblock_k1', go_sem, reduceCtorEq, Nat.reduceEqDiff, reduceIte, Nat.reduceAdd, Nat.reduceSub, Nat.reduceLeDiff, Int.reduceToNat, Nat.reduceBEq]
    repeat (refine ⟨by (try simp only [List.length_append, List.length_cons, List.length_nil, List.length_drop, List.length_take]); omega, ?_⟩)
    refine of_call (pturn_snd _ 17 (by decide) (by decide)) ?_
    simp only [i7, i16, i1, g7, g16, go_sem, reduceCtorEq, Nat.reduceEqDiff, reduceIte, Nat.reduceAdd, Nat.reduceSub, Nat.reduceLeDiff, Int.reduceToNat, Nat.reduceBEq]
    repeat (refine ⟨by (try simp only [List.length_append, List.length_cons, List.length_nil, List.length_drop, List.length_take]); omega, ?_⟩)
    refine of_call (pturn_snd _ 19 (by decide) (by decide)) ?_
    simp only [i7, i16, i1, g7, g16, go_sem, reduceCtorEq, Nat.reduceEqDiff, reduceIte, Nat.reduceAdd, Nat.reduceSub, Nat.reduceLeDiff, Int.reduceToNat, Nat.reduceBEq]
    repeat (refine ⟨by (try simp only [List.length_append, List.length_cons, List.length_nil, List.length_drop, List.length_take]); omega, ?_⟩)
    refine of_call (pturn_snd _ 7 (by decide) (by decide)) ?_
    simp only [i7, i16, i1, g7, g16, go_sem, reduceCtorEq, Nat.reduceEqDiff, reduceIte, Nat.reduceAdd, Nat.reduceSub, Nat.reduceLeDiff, Int.reduceToNat, Nat.reduceBEq]
    repeat (refine ⟨by (try simp only [List.length_append, List.length_cons, List.length_nil, List.length_drop, List.length_take]); omega, ?_⟩)
    refine of_call (pturn_snd _ 18 (by decide) (by decide)) ?_
    simp only [i7, i16, i1, g7, g16, go_sem, reduceCtorEq, Nat.reduceEqDiff, reduceIte, Nat.reduceAdd, Nat.reduceSub, Nat.reduceLeDiff, Int.reduceToNat, Nat.reduceBEq]
    repeat (refine ⟨by (try simp only [List.length_append, List.length_cons, List.length_nil, List.length_drop, List.length_take]); omega, ?_⟩)
    simp only [hp, ws_lits, i1, set_put (show 8 + i < Z.length by omega), go_sem, reduceCtorEq, Nat.reduceEqDiff, reduceIte, Nat.reduceAdd, Nat.reduceSub, Nat.reduceLeDiff, Int.reduceToNat, Nat.reduceBEq]
    refine ih (i + 1) _ (by omega) (by omega) (by omega) (hZ.set (by omega) ?_)
    rw [Sh.words_next b h16 (by omega), nextW, hZ.new (i - 2) (by omega), hZ.new (i - 7) (by omega), hZ.new (i - 15) (by omega), hZ.new (i - 16) (by omega)]
    rfl

def vst (env : List (Nat × AV)) (s : Sh.St) (Z : List UInt32) : Ev.St := mkS env [(9, some [W s.a, W s.b, W s.c, W s.d, W s.e, W s.f, W s.g, W s.h]), (10000, some (ws Z)), (10001, none)]
abbrev P9 : AV := .ptr ⟨.box 9 0, []⟩
set_option maxRecDepth 100000 in
theorem pblock_loop2 (h : List UInt32) (b : Bs) (Z : List UInt32) (hZ : InW h b Z 64) (s0 F : Sh.St) (hF : Sh.rounds (words b) s0 64 = F) (K : Ex → Ev.St → Prop) (hK : K (.exit 4) (vst [(0, P0), (4, P8), (9, P9), (113, N 64), (114, B false)] F Z)) (n : Nat) : ∀ (t : Nat) (hn : 64 - t = n) (ht : t ≤ 64),
    vcL (kn m) [0, 4, 9, 113] [9, 10000, 10001] pblock_l5 K (vst [(0, P0), (4, P8), (9, P9), (113, N t)] (Sh.rounds (words b) s0 t) Z) := by
  induction n with
  | zero =>
    intro t hn ht
    obtain rfl : t = 64 := by omega
    rw [hF]
    apply round
    simp only [vst, pblock_l5_w, pblock_l5', go_sem, reduceCtorEq, Nat.reduceEqDiff, reduceIte, Nat.reduceAdd, Nat.reduceSub, Nat.reduceLeDiff, Int.reduceToNat, Nat.reduceBEq]
    rw [ilt_f (by omega)]
    simp only [go_sem, reduceCtorEq, Nat.reduceEqDiff, reduceIte, Nat.reduceAdd, Nat.reduceSub, Nat.reduceLeDiff, Int.reduceToNat, Nat.reduceBEq]
    exact hK
  | succ n ih =>
    intro t hn ht
    have this := ih (t + 1) (by omega) (by omega)
    rw [Sh.rounds] at this
    clear ih
    generalize Sh.rounds (words b) s0 t = s at this ⊢
    have hlen := hZ.len
    have gk : (ws Sh.K)[t]? = some (W (at0 Sh.K t)) := by rw [ws_get Sh.K (i := t) (by rw [K_len]; omega), Sh.at0_get (by rw [K_len]; omega)]
    have gw := ws_head (l := Z) (k := 8 + t) (by omega)
    rw [hZ.new t (by omega)] at gw
    have q1 : IntKind.i64.wrap ((t : Int) + 1) = ((t + 1 : Nat) : Int) := by rw [IntKind.wrap_i64]; omega
    apply round
    simp only [vst, pblock_l5_w, pblock_l5', go_sem, reduceCtorEq, Nat.reduceEqDiff, reduceIte, Nat.reduceAdd, Nat.reduceSub, Nat.reduceLeDiff, Int.reduceToNat, Nat.reduceBEq]
    rw [ilt_t (by omega)]
    simp only [go_sem, reduceCtorEq, Nat.reduceEqDiff, reduceIte, Nat.reduceAdd, Nat.reduceSub, Nat.reduceLeDiff, Int.reduceToNat, Nat.reduceBEq]
    repeat (refine ⟨by (try simp only [List.length_append, List.length_cons, List.length_nil, List.length_drop, List.length_take]); omega, ?_⟩)
    simp only [pblock_k4_w, pblock_k4', go_sem, reduceCtorEq, Nat.reduceEqDiff, reduceIte, Nat.reduceAdd, Nat.reduceSub, Nat.reduceLeDiff, Int.reduceToNat, Nat.reduceBEq]
    repeat (refine ⟨by (try simp only [List.length_append, List.length_cons, List.length_nil, List.length_drop, List.length_take]); omega, ?_⟩)
    refine of_call (pturn_snd _ 6 (by decide) (by decide)) ?_
    simp only [gk, gw, q1, go_sem, reduceCtorEq, Nat.reduceEqDiff, reduceIte, Nat.reduceAdd, Nat.reduceSub, Nat.reduceLeDiff, Int.reduceToNat, Nat.reduceBEq]
    repeat (refine ⟨by (try simp only [List.length_append, List.length_cons, List.length_nil, List.length_drop, List.length_take]); omega, ?_⟩)
    refine of_call (pturn_snd _ 11 (by decide) (by decide)) ?_
    simp only [gk, gw, q1, go_sem, reduceCtorEq, Nat.reduceEqDiff, reduceIte, Nat.reduceAdd, Nat.reduceSub, Nat.reduceLeDiff, Int.reduceToNat, Nat.reduceBEq]
    repeat (refine ⟨by (try simp only [List.length_append, List.length_cons, List.length_nil, List.length_drop, List.length_take]); omega, ?_⟩)
    refine of_call (pturn_snd _ 25 (by decide) (by decide)) ?_
    simp only [gk, gw, q1, go_sem, reduceCtorEq, Nat.reduceEqDiff, reduceIte, Nat.reduceAdd, Nat.reduceSub, Nat.reduceLeDiff, Int.reduceToNat, Nat.reduceBEq]
    repeat (refine ⟨by (try simp only [List.length_append, List.length_cons, List.length_nil, List.length_drop, List.length_take]); omega, ?_⟩)
    refine ⟨by rw [K_len]; omega, ?_⟩
    repeat (refine ⟨by (try simp only [List.length_append, List.length_cons, List.length_nil, List.length_drop, List.length_take]); omega, ?_⟩)
    simp only [pblock_k3_w, pblock_k3', go_sem, reduceCtorEq, Nat.reduceEqDiff, reduceIte, Nat.reduceAdd, Nat.reduceSub, Nat.reduceLeDiff, Int.reduceToNat, Nat.reduceBEq]
    repeat (refine ⟨by (try simp only [List.length_append, List.length_cons, List.length_nil, List.length_drop, List.length_take]); omega, ?_⟩)
    refine of_call (pturn_snd _ 2 (by decide) (by decide)) ?_
    simp only [q1, go_sem, reduceCtorEq, Nat.reduceEqDiff, reduceIte, Nat.reduceAdd, Nat.reduceSub, Nat.reduceLeDiff, Int.reduceToNat, Nat.reduceBEq]
    repeat (refine ⟨by (try simp only [List.length_append, List.length_cons, List.length_nil, List.length_drop, List.length_take]); omega, ?_⟩)
    refine of_call (pturn_snd _ 13 (by decide) (by decide)) ?_
    simp only [q1, go_sem, reduceCtorEq, Nat.reduceEqDiff, reduceIte, Nat.reduceAdd, Nat.reduceSub, Nat.reduceLeDiff, Int.reduceToNat, Nat.reduceBEq]
    repeat (refine ⟨by (try simp only [List.length_append, List.length_cons, List.length_nil, List.length_drop, List.length_take]); omega, ?_⟩)
    refine of_call (pturn_snd _ 22 (by decide) (by decide)) ?_
    simp only [q1, go_sem, reduceCtorEq, Nat.reduceEqDiff, reduceIte, Nat.reduceAdd, Nat.reduceSub, Nat.reduceLeDiff, Int.reduceToNat, Nat.reduceBEq]
    repeat (refine ⟨by (try simp only [List.length_append, List.length_cons, List.length_nil, List.length_drop, List.length_take]); omega, ?_⟩)
    exact this
/-- the sums, place by place -/
structure InS (h : List UInt32) (b : Bs) (F : Sh.St) (Z : List UInt32) (i : Nat) : Prop where
  len : Z.length = 72
  done : ∀ j, j < i → at0 Z j = at0 (Sh.plus h F) j
  todo : ∀ j, i ≤ j → j < 8 → at0 Z j = at0 h j
  words : ∀ j, j < 64 → at0 Z (8 + j) = at0 (Sh.words b) j
theorem plus_at (h : List UInt32) (s : Sh.St) {j : Nat} (hj : j < 8) : at0 (Sh.plus h s) j = at0 h j + at0 s.list j := by
  match j, hj with
  | 0, _ | 1, _ | 2, _ | 3, _ | 4, _ | 5, _ | 6, _ | 7, _ => rfl
theorem vlist (s : Sh.St) {j : Nat} (hj : j < 8) : (List.drop j [W s.a, W s.b, W s.c, W s.d, W s.e, W s.f, W s.g, W s.h])[0]? = some (W (at0 s.list j)) := by
  match j, hj with
  | 0, _ | 1, _ | 2, _ | 3, _ | 4, _ | 5, _ | 6, _ | 7, _ => rfl
theorem pblock_loop3 (h : List UInt32) (b : Bs) (F : Sh.St) (K : Ex → Ev.St → Prop) (hK : ∀ Z, InS h b F Z 8 → K (.exit 6) (vst [(0, P0), (9, P9), (196, N 8), (197, B false)] F Z)) (n : Nat) : ∀ (i : Nat) (Z : List UInt32) (hn : 8 - i = n) (hi : i ≤ 8) (hZ : InS h b F Z i),
    vcL (kn m) [0, 9, 196] [9, 10000, 10001] pblock_l6 K (vst [(0, P0), (9, P9), (196, N i)] F Z) := by
  induction n with
  | zero =>
    intro i Z hn hi hZ
    obtain rfl : i = 8 := by omega
    apply round
    simp only [vst, pblock_l6_w, pblock_l6', go_sem, reduceCtorEq, Nat.reduceEqDiff, reduceIte, Nat.reduceAdd, Nat.reduceSub, Nat.reduceLeDiff, Int.reduceToNat, Nat.reduceBEq]
    rw [ilt_f (by omega)]
    simp only [go_sem, reduceCtorEq, Nat.reduceEqDiff, reduceIte, Nat.reduceAdd, Nat.reduceSub, Nat.reduceLeDiff, Int.reduceToNat, Nat.reduceBEq]
    exact hK Z hZ
  | succ n ih =>
    intro i Z hn hi hZ
    have hlen := hZ.len
    have gz := ws_head (l := Z) (k := i) (by omega)
    have gv := vlist F (j := i) (by omega)
    have q1 : IntKind.i64.wrap ((i : Int) + 1) = ((i + 1 : Nat) : Int) := by rw [IntKind.wrap_i64]; omega
    have hp : i + 1 ≤ Z.length := by omega
    apply round
    simp only [vst, pblock_l6_w, pblock_l6', go_sem, reduceCtorEq, Nat.reduceEqDiff, reduceIte, Nat.reduceAdd, Nat.reduceSub, Nat.reduceLeDiff, Int.reduceToNat, Nat.reduceBEq]
    rw [ilt_t (by omega)]
    simp only [gz, gv, hp, ws_lits, q1, set_put (show i < Z.length by omega), Nat.zero_add, go_sem, reduceCtorEq, Nat.reduceEqDiff, reduceIte, Nat.reduceAdd, Nat.reduceSub, Nat.reduceLeDiff, Int.reduceToNat, Nat.reduceBEq]
    repeat (refine ⟨by (try simp only [List.length_append, List.length_cons, List.length_nil, List.length_drop, List.length_take]); omega, ?_⟩)
    refine ih (i + 1) _ (by omega) (by omega) ⟨by rw [List.length_set]; exact hlen, fun j hj => ?_, fun j h1 h2 => ?_, fun j hj => ?_⟩
    · rw [Sh.at0_set (by omega)]
      by_cases e : j = i
      · subst e; rw [if_pos rfl, plus_at h F (by omega), hZ.todo j (by omega) (by omega)]
      · rw [if_neg e]; exact hZ.done j (by omega)
    · rw [Sh.at0_set (by omega), if_neg (by omega)]; exact hZ.todo j (by omega) h2
    · rw [Sh.at0_set (by omega), if_neg (by omega)]; exact hZ.words j hj
theorem plus_len (h : List UInt32) (s : Sh.St) : (Sh.plus h s).length = 8 := rfl
theorem InS.eq {h : List UInt32} {b : Bs} {F : Sh.St} {Z : List UInt32} (H : InS h b F Z 8) : Z = Sh.plus h F ++ Sh.words b := by
  refine Sh.list_eq (by rw [List.length_append, Sh.words_len, plus_len]; exact H.len) fun j hj => ?_
  rw [H.len] at hj
  by_cases h8 : j < 8
  · rw [H.done j h8]
    simp only [at0, List.getD, List.getElem?_append_left (show j < (Sh.plus h F).length by rw [plus_len]; exact h8)]
  · have := H.words (j - 8) (by omega)
    rw [show 8 + (j - 8) = j by omega] at this
    rw [this]
    simp only [at0, List.getD, List.getElem?_append_right (show (Sh.plus h F).length ≤ j by rw [plus_len]; omega), plus_len]
set_option maxHeartbeats 1000000 in
theorem pblock_snd (h : List UInt32) (hh : h.length = 8) (g : List UInt32) (hg : g.length = 64) (b : Bs) (hb : b.length = 64) :
    SndG Tryd.prog (gl m) 118 [P0, S b] [ws (h ++ g)] (.tup []) [ws (Sh.block h b ++ Sh.words b)] := by
  refine sndG_of (fn := Tryd.f118) (af := pblock) Tryd.func118 (pblock_comp m) mixed (kn_ok m) (Nat.le_of_ble_eq_true rfl) (Nat.le_of_ble_eq_true rfl) ?_
  have hold : ∀ j, j < 8 → at0 (h ++ g) j = at0 h j := fun j hj => by simp [at0, List.getD, List.getElem?_append_left (show j < h.length by omega)]
  generalize hF : Sh.rounds (words b) (Sh.St.of h) 64 = F
  have hB : Sh.block h b = Sh.plus h F := by rw [Sh.block, hF]
  rw [hB]
  have l0 := pblock_loop0 (m := m) h b hb (blockK 0 (seqK (kn m) [0, 4] [10000, 10001] pblock_k9 (outOkG [] (.tup []) [ws (Sh.plus h F ++ Sh.words b)]))) (fun Z hZ => by
    simp only [pst, pblock_k9_w, pblock_k9', go_sem, reduceCtorEq, Nat.reduceEqDiff, reduceIte, Nat.reduceAdd, Nat.reduceSub, Nat.reduceLeDiff, Int.reduceToNat, Nat.reduceBEq]
    refine pblock_loop1 h b _ (fun Z hZ => ?_) _ 16 Z rfl (by omega) (by omega) hZ
    have hl := hZ.len
    have z0 := ws_get Z (i := 0) (by omega); have z1 := ws_get Z (i := 1) (by omega); have z2 := ws_get Z (i := 2) (by omega); have z3 := ws_get Z (i := 3) (by omega)
    have z4 := ws_get Z (i := 4) (by omega); have z5 := ws_get Z (i := 5) (by omega); have z6 := ws_get Z (i := 6) (by omega); have z7 := ws_get Z (i := 7) (by omega)
    have h8 : ws (Z.take 8) = [W (at0 h 0), W (at0 h 1), W (at0 h 2), W (at0 h 3), W (at0 h 4), W (at0 h 5), W (at0 h 6), W (at0 h 7)] := by
      have : Z.take 8 = [at0 h 0, at0 h 1, at0 h 2, at0 h 3, at0 h 4, at0 h 5, at0 h 6, at0 h 7] := by
        refine Sh.list_eq (by simp; omega) fun j hj => ?_
        have hj8 : j < 8 := by simp at hj; omega
        have e : at0 (Z.take 8) j = at0 Z j := by simp [at0, List.getD, List.getElem?_take_of_lt hj8]
        rw [e, hZ.old j hj8]
        match j, hj8 with
        | 0, _ | 1, _ | 2, _ | 3, _ | 4, _ | 5, _ | 6, _ | 7, _ => rfl
      rw [this]; rfl
    have l2 := pblock_loop2 (m := m) h b Z hZ (Sh.St.of h) F hF (blockK 4 (seqK (kn m) [0, 9] [9, 10000, 10001] pblock_k7 (outOkG [] (.tup []) [ws (Sh.plus h F ++ Sh.words b)]))) (by
      simp only [vst, pblock_k7_w, pblock_k7', go_sem, reduceCtorEq, Nat.reduceEqDiff, reduceIte, Nat.reduceAdd, Nat.reduceSub, Nat.reduceLeDiff, Int.reduceToNat, Nat.reduceBEq]
      refine pblock_loop3 h b F _ (fun Z' hZ' => ?_) _ 0 Z rfl (by omega) ⟨hl, fun j hj => by omega, fun j _ hj => hZ.old j hj, hZ.new⟩
      rw [hZ'.eq]
      simp only [vst, go_sem, reduceCtorEq, Nat.reduceEqDiff, reduceIte, Nat.reduceAdd, Nat.reduceSub, Nat.reduceLeDiff, Int.reduceToNat, Nat.reduceBEq]) _ 0 rfl (by omega)
    rw [Sh.rounds] at l2
    simp only [pst, pblock_k8_w, pblock_k8', h8, hl, klL_ws, go_sem, reduceCtorEq, Nat.reduceEqDiff, reduceIte, Nat.reduceAdd, Nat.reduceSub, Nat.reduceLeDiff, Int.reduceToNat, Nat.reduceBEq]
    exact ⟨by omega, by omega, l2⟩) _ 0 (h ++ g) rfl (by omega) ⟨by rw [List.length_append]; omega, hold, fun j hj => by omega⟩
  simp only [pblock, go_sem, reduceCtorEq, Nat.reduceEqDiff, reduceIte, Nat.reduceAdd, Nat.reduceSub, Nat.reduceLeDiff, Int.reduceToNat, Nat.reduceBEq]
  exact l0
end Go.Aw

