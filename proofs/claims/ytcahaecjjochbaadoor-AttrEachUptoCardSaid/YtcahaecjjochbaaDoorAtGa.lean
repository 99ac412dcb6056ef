import Derived.Test.YtcahaecjjochbaaDoorEvC
import Derived.Test.YtcahaecjjochbaaDoorAtP
import Derived.Test.YtcahaecjjochbaaDoorAtA
import Derived.KernelRfl
set_option linter.unusedVariables false
set_option linter.unusedSimpArgs false
/- Glob: a class, read by the program. -/
namespace Go.Gb
open Go.At (gl kn kn_ok tab0 mixed index1 indexByte hasPrefix trimSuffix replaceAll)
open Go Go.Ev Go.Proofs
open Go.Ln (u8b_t u8b_f u8n_t u8n_f getX)
set_option linter.unusedVariables false
set_option linter.unusedSimpArgs false
attribute [local go_sem] eqs implies_true List.map_cons List.map_nil kl klL roD roL Option.map_some Option.map_none Option.getD_some Option.getD_none binVal binObl unVal if_true if_false eq_self passA frnD resD content getH getR getW viaNot viaSlot viaBox viaDeep viaMem List.contains_cons List.contains_nil grabs peeks okCells isCell place cellsOf chunk elt List.headD_cons List.length_cons List.length_nil List.take_succ_cons List.take_zero List.drop_succ_cons List.drop_zero List.nil_append List.cons_append List.append_nil List.all_cons List.all_nil plainC takeR setW over reCell List.getElem?_cons_zero List.getElem?_cons_succ List.set_cons_zero List.take_length outV resG plainV pack outVG outBx List.set_cons_succ Ref.idx Ref.addOff beq_self_eq_true bxL Option.bind_some writeR isLit viaBoxes capsPA boxPA nsOf noDup boxesAt argG passG passD rhoIn rhoOut idxIn tr trL List.getD_cons_zero gives pasOf isPtr Ins.d List.getD_cons_succ resL frnL
theorem wrap32 (c : UInt8) : IntKind.i32.wrap (c.toNat : Int) = (c.toNat : Int) := by
  have := c.toNat_lt
  rw [IntKind.wrap_i32]; omega
abbrev R32 (n : Nat) : AV := .lit (.int .i32 (n : Int))
variable {m : Int}
def gone : AF := ⟨.seq (.reg (.seq [⟨some (2, true), none, .mov (.cst (.int .i32 0) (.lit (.int .i32 0))) .asg⟩,⟨some (3, true), none, .mov (.cst (.bool false) (.lit (.bool false))) .asg⟩])) [0, 1] [10000, 10001]
  (.seq (.seq (.reg (.seq [⟨some (4, false), none, .load (.tmp 0 true) 1 false false⟩,⟨some (5, false), none, .load (.tmp 1 true) 1 false false⟩,⟨some (6, false), none, .len (.tmp 5 false)⟩,⟨some (7, false), none, .bin .lss (.tmp 4 false) (.tmp 6 false)⟩,⟨some (8, false), none, .mov (.tmp 7 false) .peek⟩,⟨some (9, false), (some (8, true)), .load (.tmp 1 true) 1 false false⟩,⟨some (10, false), (some (8, true)), .load (.tmp 0 true) 1 false false⟩,⟨some (11, false), (some (8, true)), .idx (.tmp 9 false) (.tmp 10 false)⟩,⟨some (12, false), (some (8, true)), .bin .eql (.tmp 11 false) (.cst (.int .u8 92) (.lit (.int .u8 92)))⟩,⟨some (13, false), none, .pick (.tmp 8 false) (.tmp 12 false) (.cst (.bool false) (.lit (.bool false)))⟩])) [0, 1, 13] [10000, 10001]
  (.cond (.tmp 13 false)
    (.reg (.seq [⟨some (14, false), none, .load (.tmp 0 true) 1 false false⟩,⟨some (15, false), none, .bin .add (.tmp 14 false) (.cst (.int .i64 1) (.lit (.int .i64 1)))⟩,⟨none, none, .store (.tmp 0 true) (.tmp 15 false) 1⟩]))
    (.skip))) [0, 1] [10000, 10001]
  (.seq (.seq (.reg (.seq [⟨some (16, false), none, .load (.tmp 0 true) 1 false false⟩,⟨some (17, false), none, .load (.tmp 1 true) 1 false false⟩,⟨some (18, false), none, .len (.tmp 17 false)⟩,⟨some (19, false), none, .bin .geq (.tmp 16 false) (.tmp 18 false)⟩])) [0, 1, 19] [10000, 10001]
  (.cond (.tmp 19 false)
    (.seq (.reg (.seq [⟨some (2, true), none, .mov (.cst (.int .i32 0) (.lit (.int .i32 0))) .asg⟩,⟨some (3, true), none, .mov (.cst (.bool false) (.lit (.bool false))) .asg⟩])) [2, 3] [10000, 10001]
    (.ret))
    (.skip))) [0, 1] [10000, 10001]
  (.seq (.reg (.seq [⟨some (20, false), none, .load (.tmp 0 true) 1 false false⟩,⟨some (21, false), none, .bin .add (.tmp 20 false) (.cst (.int .i64 1) (.lit (.int .i64 1)))⟩,⟨none, none, .store (.tmp 0 true) (.tmp 21 false) 1⟩])) [0, 1] [10000, 10001]
  (.seq (.reg (.seq [⟨some (22, false), none, .load (.tmp 1 true) 1 false false⟩,⟨some (23, false), none, .load (.tmp 0 true) 1 false false⟩,⟨some (24, false), none, .bin .sub (.tmp 23 false) (.cst (.int .i64 1) (.lit (.int .i64 1)))⟩,⟨some (25, false), none, .idx (.tmp 22 false) (.tmp 24 false)⟩,⟨some (26, false), none, .cvt .i32 (.tmp 25 false)⟩,⟨some (2, true), none, .mov (.tmp 26 false) .asg⟩,⟨some (3, true), none, .mov (.cst (.bool true) (.lit (.bool true))) .asg⟩])) [2, 3] [10000, 10001]
  (.ret))))),
  [.tmp 2, .tmp 3]⟩
theorem gone_comp (m : Int) : compF Tryd.prog (gl m) [10000, 10001] Tryd.f149 = some gone := by kernel_rfl
def gclass_l0' : AC := .seq (.seq (.reg (.seq [⟨some (33, false), none, .load (.tmp 4 true) 1 false false⟩,⟨some (34, false), none, .load (.tmp 3 true) 1 false false⟩,⟨some (35, false), none, .len (.tmp 34 false)⟩,⟨some (36, false), none, .bin .lss (.tmp 33 false) (.tmp 35 false)⟩,⟨some (37, false), none, .mov (.tmp 36 false) .peek⟩,⟨some (38, false), (some (37, true)), .mov (.tmp 10 true) .peek⟩,⟨some (39, false), (some (37, true)), .mov (.tmp 38 false) .peek⟩,⟨some (40, false), (some (39, false)), .load (.tmp 3 true) 1 false false⟩,⟨some (41, false), (some (39, false)), .load (.tmp 4 true) 1 false false⟩,⟨some (42, false), (some (39, false)), .idx (.tmp 40 false) (.tmp 41 false)⟩,⟨some (43, false), (some (39, false)), .bin .neq (.tmp 42 false) (.cst (.int .u8 93) (.lit (.int .u8 93)))⟩,⟨some (44, false), (some (37, true)), .pick (.tmp 39 false) (.cst (.bool true) (.lit (.bool true))) (.tmp 43 false)⟩,⟨some (45, false), none, .pick (.tmp 37 false) (.tmp 44 false) (.cst (.bool false) (.lit (.bool false)))⟩])) [2, 3, 4, 6, 8, 9, 45] [3, 4]
  (.cond (.tmp 45 false)
    (.skip)
    (.exit 0))) [2, 3, 4, 6, 8, 9] [3, 4]
  (.seq (.block 1 (.seq (.reg (.seq [⟨some (47, false), none, .mov (.tmp 9 true) .peek⟩,⟨some (48, false), none, .callV (.tmp 47 false) []⟩,⟨some (46, false), none, .mov (.tmp 48 false) .peek⟩,⟨some (49, false), none, .ext (.tmp 46 false) 0⟩,⟨some (50, false), none, .ext (.tmp 46 false) 1⟩,⟨some (11, true), none, .mov (.tmp 49 false) .asg⟩,⟨some (12, true), none, .mov (.tmp 50 false) .asg⟩])) [2, 3, 4, 6, 8, 9, 11, 12] [3, 4]
    (.seq (.reg (.seq [⟨some (51, false), none, .mov (.tmp 11 true) .take⟩,⟨some (13, true), none, .mov (.tmp 51 false) .asg⟩])) [2, 3, 4, 6, 8, 9, 11, 12, 13] [3, 4]
    (.seq (.seq (.reg (.seq [⟨some (52, false), none, .mov (.tmp 12 true) .peek⟩,⟨some (53, false), none, .mov (.tmp 52 false) .peek⟩,⟨some (54, false), (some (53, true)), .load (.tmp 4 true) 1 false false⟩,⟨some (55, false), (some (53, true)), .bin .add (.tmp 54 false) (.cst (.int .i64 1) (.lit (.int .i64 1)))⟩,⟨some (56, false), (some (53, true)), .load (.tmp 3 true) 1 false false⟩,⟨some (57, false), (some (53, true)), .len (.tmp 56 false)⟩,⟨some (58, false), (some (53, true)), .bin .lss (.tmp 55 false) (.tmp 57 false)⟩,⟨some (59, false), none, .pick (.tmp 53 false) (.tmp 58 false) (.cst (.bool false) (.lit (.bool false)))⟩,⟨some (60, false), none, .mov (.tmp 59 false) .peek⟩,⟨some (61, false), (some (60, true)), .load (.tmp 3 true) 1 false false⟩,⟨some (62, false), (some (60, true)), .load (.tmp 4 true) 1 false false⟩,⟨some (63, false), (some (60, true)), .idx (.tmp 61 false) (.tmp 62 false)⟩,⟨some (64, false), (some (60, true)), .bin .eql (.tmp 63 false) (.cst (.int .u8 45) (.lit (.int .u8 45)))⟩,⟨some (65, false), none, .pick (.tmp 60 false) (.tmp 64 false) (.cst (.bool false) (.lit (.bool false)))⟩,⟨some (66, false), none, .mov (.tmp 65 false) .peek⟩,⟨some (67, false), (some (66, true)), .load (.tmp 3 true) 1 false false⟩,⟨some (68, false), (some (66, true)), .load (.tmp 4 true) 1 false false⟩,⟨some (69, false), (some (66, true)), .bin .add (.tmp 68 false) (.cst (.int .i64 1) (.lit (.int .i64 1)))⟩,⟨some (70, false), (some (66, true)), .idx (.tmp 67 false) (.tmp 69 false)⟩,⟨some (71, false), (some (66, true)), .bin .neq (.tmp 70 false) (.cst (.int .u8 93) (.lit (.int .u8 93)))⟩,⟨some (72, false), none, .pick (.tmp 66 false) (.tmp 71 false) (.cst (.bool false) (.lit (.bool false)))⟩])) [2, 3, 4, 6, 8, 9, 11, 12, 13, 72] [3, 4]
    (.cond (.tmp 72 false)
      (.seq (.reg (.seq [⟨some (73, false), none, .load (.tmp 4 true) 1 false false⟩,⟨some (74, false), none, .bin .add (.tmp 73 false) (.cst (.int .i64 1) (.lit (.int .i64 1)))⟩,⟨none, none, .store (.tmp 4 true) (.tmp 74 false) 1⟩])) [2, 3, 4, 6, 8, 9, 11] [3, 4]
      (.reg (.seq [⟨some (76, false), none, .mov (.tmp 9 true) .peek⟩,⟨some (77, false), none, .callV (.tmp 76 false) []⟩,⟨some (75, false), none, .mov (.tmp 77 false) .peek⟩,⟨some (78, false), none, .ext (.tmp 75 false) 0⟩,⟨some (79, false), none, .ext (.tmp 75 false) 1⟩,⟨some (13, true), none, .mov (.tmp 78 false) .asg⟩,⟨some (12, true), none, .mov (.tmp 79 false) .asg⟩])))
      (.skip))) [2, 3, 4, 6, 8, 9, 11, 12, 13] [3, 4]
    (.seq (.seq (.reg (.seq [⟨some (80, false), none, .mov (.tmp 12 true) .peek⟩,⟨some (81, false), none, .un .not (.tmp 80 false)⟩])) [2, 3, 4, 6, 8, 9, 11, 13, 81] [3, 4]
    (.cond (.tmp 81 false)
      (.seq (.reg (.seq [⟨some (6, true), none, .mov (.cst (.bool false) (.lit (.bool false))) .asg⟩,⟨some (7, true), none, .mov (.cst (.int .i64 (-1)) (.lit (.int .i64 (-1)))) .asg⟩])) [6, 7] []
      (.ret))
      (.skip))) [2, 3, 4, 6, 8, 9, 11, 13] [3, 4]
    (.reg (.seq [⟨some (82, false), none, .mov (.tmp 6 true) .peek⟩,⟨some (83, false), none, .mov (.tmp 82 false) .peek⟩,⟨some (84, false), (some (83, false)), .mov (.tmp 2 true) .peek⟩,⟨some (85, false), (some (83, false)), .cvt .i32 (.tmp 84 false)⟩,⟨some (86, false), (some (83, false)), .mov (.tmp 11 true) .peek⟩,⟨some (87, false), (some (83, false)), .bin .geq (.tmp 85 false) (.tmp 86 false)⟩,⟨some (88, false), (some (83, false)), .mov (.tmp 87 false) .peek⟩,⟨some (89, false), (some (88, true)), .mov (.tmp 2 true) .peek⟩,⟨some (90, false), (some (88, true)), .cvt .i32 (.tmp 89 false)⟩,⟨some (91, false), (some (88, true)), .mov (.tmp 13 true) .peek⟩,⟨some (92, false), (some (88, true)), .bin .leq (.tmp 90 false) (.tmp 91 false)⟩,⟨some (93, false), (some (83, false)), .pick (.tmp 88 false) (.tmp 92 false) (.cst (.bool false) (.lit (.bool false)))⟩,⟨some (94, false), none, .pick (.tmp 83 false) (.cst (.bool true) (.lit (.bool true))) (.tmp 93 false)⟩,⟨some (6, true), none, .mov (.tmp 94 false) .asg⟩]))))))) [2, 3, 4, 6, 8, 9] [3, 4]
  (.reg (.seq [⟨some (10, true), none, .mov (.cst (.bool false) (.lit (.bool false))) .asg⟩])))
def gclass_l0 : AC := gclass_l0'
theorem gclass_l0_w (C : Kn) (K : Ex → St → Prop) (s : St) : vcC C gclass_l0 K s = vcC C gclass_l0' K s := nr rfl
def gclass_k1' : AC := .seq (.seq (.reg (.seq [⟨some (95, false), none, .load (.tmp 4 true) 1 false false⟩,⟨some (96, false), none, .load (.tmp 3 true) 1 false false⟩,⟨some (97, false), none, .len (.tmp 96 false)⟩,⟨some (98, false), none, .bin .geq (.tmp 95 false) (.tmp 97 false)⟩])) [4, 6, 8, 98] [4]
  (.cond (.tmp 98 false)
    (.seq (.reg (.seq [⟨some (6, true), none, .mov (.cst (.bool false) (.lit (.bool false))) .asg⟩,⟨some (7, true), none, .mov (.cst (.int .i64 (-1)) (.lit (.int .i64 (-1)))) .asg⟩])) [6, 7] []
    (.ret))
    (.skip))) [4, 6, 8] [4]
  (.seq (.reg (.draw [⟨some (99, false), none, .mov (.tmp 6 true) .peek⟩,⟨some (100, false), none, .mov (.tmp 8 true) .peek⟩,⟨some (101, false), none, .eqb true (.tmp 99 false) (.tmp 100 false)⟩,⟨some (102, false), none, .load (.tmp 4 true) 1 false false⟩,⟨some (103, false), none, .bin .add (.tmp 102 false) (.cst (.int .i64 1) (.lit (.int .i64 1)))⟩] (.alt ⟨some (6, true), none, .mov (.tmp 101 false) .asg⟩ [⟨some (102, false), none, .load (.tmp 4 true) 1 false false⟩,⟨some (103, false), none, .bin .add (.tmp 102 false) (.cst (.int .i64 1) (.lit (.int .i64 1)))⟩]
      (.alt ⟨some (7, true), none, .mov (.tmp 103 false) .asg⟩ []
      .done .no) .no))) [6, 7] []
  (.ret))
def gclass_k1 : AC := gclass_k1'
theorem gclass_k1_w (C : Kn) (K : Ex → St → Prop) (s : St) : vcC C gclass_k1 K s = vcC C gclass_k1' K s := nr rfl
def gclass : AF := ⟨.seq (.reg (.seq [⟨some (3, true), none, .box (.tmp 0 true)⟩,⟨some (4, true), none, .box (.tmp 1 true)⟩,⟨some (6, true), none, .mov (.cst (.bool false) (.lit (.bool false))) .asg⟩,⟨some (7, true), none, .mov (.cst (.int .i64 0) (.lit (.int .i64 0))) .asg⟩])) [2, 3, 4, 6] [3, 4]
  (.seq (.reg (.seq [⟨some (8, true), none, .mov (.cst (.bool false) (.lit (.bool false))) .asg⟩])) [2, 3, 4, 6, 8] [3, 4]
  (.seq (.seq (.reg (.seq [⟨some (14, false), none, .load (.tmp 4 true) 1 false false⟩,⟨some (15, false), none, .load (.tmp 3 true) 1 false false⟩,⟨some (16, false), none, .len (.tmp 15 false)⟩,⟨some (17, false), none, .bin .lss (.tmp 14 false) (.tmp 16 false)⟩,⟨some (18, false), none, .mov (.tmp 17 false) .peek⟩,⟨some (19, false), (some (18, true)), .load (.tmp 3 true) 1 false false⟩,⟨some (20, false), (some (18, true)), .load (.tmp 4 true) 1 false false⟩,⟨some (21, false), (some (18, true)), .idx (.tmp 19 false) (.tmp 20 false)⟩,⟨some (22, false), (some (18, true)), .bin .eql (.tmp 21 false) (.cst (.int .u8 33) (.lit (.int .u8 33)))⟩,⟨some (23, false), (some (18, true)), .mov (.tmp 22 false) .peek⟩,⟨some (24, false), (some (23, false)), .load (.tmp 3 true) 1 false false⟩,⟨some (25, false), (some (23, false)), .load (.tmp 4 true) 1 false false⟩,⟨some (26, false), (some (23, false)), .idx (.tmp 24 false) (.tmp 25 false)⟩,⟨some (27, false), (some (23, false)), .bin .eql (.tmp 26 false) (.cst (.int .u8 94) (.lit (.int .u8 94)))⟩,⟨some (28, false), (some (18, true)), .pick (.tmp 23 false) (.cst (.bool true) (.lit (.bool true))) (.tmp 27 false)⟩,⟨some (29, false), none, .pick (.tmp 18 false) (.tmp 28 false) (.cst (.bool false) (.lit (.bool false)))⟩])) [2, 3, 4, 6, 8, 29] [3, 4]
  (.cond (.tmp 29 false)
    (.seq (.reg (.seq [⟨some (8, true), none, .mov (.cst (.bool true) (.lit (.bool true))) .asg⟩])) [2, 3, 4, 6, 8] [3, 4]
    (.reg (.seq [⟨some (30, false), none, .load (.tmp 4 true) 1 false false⟩,⟨some (31, false), none, .bin .add (.tmp 30 false) (.cst (.int .i64 1) (.lit (.int .i64 1)))⟩,⟨none, none, .store (.tmp 4 true) (.tmp 31 false) 1⟩])))
    (.skip))) [2, 3, 4, 6, 8] [3, 4]
  (.seq (.reg (.seq [⟨some (32, false), none, .mkF 149 [.tmp 4 true, .tmp 3 true]⟩,⟨some (9, true), none, .mov (.tmp 32 false) .asg⟩])) [2, 3, 4, 6, 8, 9] [3, 4]
  (.seq (.seq (.reg (.seq [⟨some (10, true), none, .mov (.cst (.bool true) (.lit (.bool true))) .asg⟩])) [2, 3, 4, 6, 8, 9, 10] [3, 4]
  (.block 0 (.loop [2, 3, 4, 6, 8, 9, 10] [3, 4] gclass_l0))) [3, 4, 6, 8] [3, 4] gclass_k1)))),
  [.tmp 6, .tmp 7]⟩
theorem gclass_comp (m : Int) : compF Tryd.prog (gl m) [] Tryd.f136 = some gclass := by kernel_rfl
theorem item_at {p : Bs} {at_ : Nat} (h : at_ < p.length) : item (p.drop at_) = if p[at_] = 92 then (if h2 : at_ + 1 < p.length then some (p[at_ + 1], p.drop (at_ + 2)) else none) else some (p[at_], p.drop (at_ + 1)) := by
  rw [List.drop_eq_getElem_cons h]
  simp only [item]
  by_cases hb : p[at_] = 92
  · rw [if_pos hb, if_pos hb]
    by_cases h2 : at_ + 1 < p.length
    · rw [dif_pos h2, List.drop_eq_getElem_cons h2]
    · rw [dif_neg h2, List.drop_of_length_le (by omega)]
  · rw [if_neg hb, if_neg hb]
theorem item_out {p : Bs} {at_ : Nat} (h : ¬ at_ < p.length) : item (p.drop at_) = none := by rw [List.drop_of_length_le (by omega)]; rfl
theorem gone_snd (p : Bs) (hp : p.length ≤ 1048576) (at_ : Nat) (ha : at_ ≤ 2097152) : ∃ a2, a2 ≤ at_ + 2 ∧ (match item (p.drop at_) with
    | none => SndG Tryd.prog (gl m) 149 [.ptr ⟨.box 10000 0, []⟩, .ptr ⟨.box 10001 0, []⟩] [[N at_], [S p]] (.tup [R32 0, B false]) [[N a2], [S p]]
    | some (c, r) => a2 = p.length - r.length ∧ r = p.drop a2 ∧ a2 ≤ p.length ∧ SndG Tryd.prog (gl m) 149 [.ptr ⟨.box 10000 0, []⟩, .ptr ⟨.box 10001 0, []⟩] [[N at_], [S p]] (.tup [R32 c.toNat, B true]) [[N a2], [S p]]) := by
  have hw1 : IntKind.i64.wrap ((at_ : Int) + 1) = ((at_ + 1 : Nat) : Int) := wrapN (at_ + 1) (by omega) (by omega)
  have hw2 : IntKind.i64.wrap (((at_ + 1 : Nat) : Int) + 1) = ((at_ + 2 : Nat) : Int) := wrapN (at_ + 2) (by omega) (by omega)
  have hw3 : IntKind.i64.wrap (((at_ + 1 : Nat) : Int) - 1) = ((at_ : Nat) : Int) := wrapN at_ (by omega) (by omega)
  have hw4 : IntKind.i64.wrap (((at_ + 2 : Nat) : Int) - 1) = ((at_ + 1 : Nat) : Int) := wrapN (at_ + 1) (by omega) (by omega)
  by_cases h : at_ < p.length
  · rw [item_at h]
    by_cases hb : p[at_] = 92
    · rw [if_pos hb]
      by_cases h2 : at_ + 1 < p.length
      · rw [dif_pos h2]
        refine ⟨at_ + 2, by omega, by simp; omega, rfl, by omega, ?_⟩
        refine sndG_of (fn := Tryd.f149) (af := gone) Tryd.func149 (gone_comp m) mixed (kn_ok m) (Nat.le_of_ble_eq_true rfl) (Nat.le_of_ble_eq_true rfl) ?_
        simp only [gone, go_sem, reduceCtorEq, Nat.reduceEqDiff, reduceIte, Nat.reduceAdd, Nat.reduceSub, Nat.reduceLeDiff, Int.reduceToNat, Nat.reduceBEq]
        rw [lt_t h]
        simp only [getE h, go_sem, reduceCtorEq, Nat.reduceEqDiff, reduceIte, Nat.reduceAdd, Nat.reduceSub, Nat.reduceLeDiff, Int.reduceToNat, Nat.reduceBEq]
        rw [u8b_t (n := 92) hb rfl]
        simp only [hw1, hw2, hw4, go_sem, reduceCtorEq, Nat.reduceEqDiff, reduceIte, Nat.reduceAdd, Nat.reduceSub, Nat.reduceLeDiff, Int.reduceToNat, Nat.reduceBEq]
        rw [ige_f (by omega)]
        simp only [hw1, hw2, hw4, getE h2, wrap32, go_sem, reduceCtorEq, Nat.reduceEqDiff, reduceIte, Nat.reduceAdd, Nat.reduceSub, Nat.reduceLeDiff, Int.reduceToNat, Nat.reduceBEq]
        omega
      · rw [dif_neg h2]
        refine ⟨at_ + 1, by omega, ?_⟩
        refine sndG_of (fn := Tryd.f149) (af := gone) Tryd.func149 (gone_comp m) mixed (kn_ok m) (Nat.le_of_ble_eq_true rfl) (Nat.le_of_ble_eq_true rfl) ?_
        simp only [gone, go_sem, reduceCtorEq, Nat.reduceEqDiff, reduceIte, Nat.reduceAdd, Nat.reduceSub, Nat.reduceLeDiff, Int.reduceToNat, Nat.reduceBEq]
        rw [lt_t h]
        simp only [getE h, go_sem, reduceCtorEq, Nat.reduceEqDiff, reduceIte, Nat.reduceAdd, Nat.reduceSub, Nat.reduceLeDiff, Int.reduceToNat, Nat.reduceBEq]
        rw [u8b_t (n := 92) hb rfl]
        simp only [hw1, go_sem, reduceCtorEq, Nat.reduceEqDiff, reduceIte, Nat.reduceAdd, Nat.reduceSub, Nat.reduceLeDiff, Int.reduceToNat, Nat.reduceBEq]
        rw [ige_t (by omega)]
        simp only [go_sem, reduceCtorEq, Nat.reduceEqDiff, reduceIte, Nat.reduceAdd, Nat.reduceSub, Nat.reduceLeDiff, Int.reduceToNat, Nat.reduceBEq]
        repeat (refine ⟨by (try simp only [List.length_append, List.length_cons, List.length_nil, List.length_drop, List.length_take]); omega, ?_⟩)
        first | rfl | omega
    · rw [if_neg hb]
      refine ⟨at_ + 1, by omega, by simp; omega, rfl, by omega, ?_⟩
      refine sndG_of (fn := Tryd.f149) (af := gone) Tryd.func149 (gone_comp m) mixed (kn_ok m) (Nat.le_of_ble_eq_true rfl) (Nat.le_of_ble_eq_true rfl) ?_
      simp only [gone, go_sem, reduceCtorEq, Nat.reduceEqDiff, reduceIte, Nat.reduceAdd, Nat.reduceSub, Nat.reduceLeDiff, Int.reduceToNat, Nat.reduceBEq]
      rw [lt_t h]
      simp only [getE h, go_sem, reduceCtorEq, Nat.reduceEqDiff, reduceIte, Nat.reduceAdd, Nat.reduceSub, Nat.reduceLeDiff, Int.reduceToNat, Nat.reduceBEq]
      rw [u8b_f (n := 92) hb rfl]
      simp only [hw1, go_sem, reduceCtorEq, Nat.reduceEqDiff, reduceIte, Nat.reduceAdd, Nat.reduceSub, Nat.reduceLeDiff, Int.reduceToNat, Nat.reduceBEq]
      rw [ige_f (by omega)]
      simp only [hw1, hw3, getE h, wrap32, go_sem, reduceCtorEq, Nat.reduceEqDiff, reduceIte, Nat.reduceAdd, Nat.reduceSub, Nat.reduceLeDiff, Int.reduceToNat, Nat.reduceBEq]
      repeat (refine ⟨by (try simp only [List.length_append, List.length_cons, List.length_nil, List.length_drop, List.length_take]); omega, ?_⟩)
      first | rfl | omega
  · rw [item_out h]
    refine ⟨at_, by omega, ?_⟩
    refine sndG_of (fn := Tryd.f149) (af := gone) Tryd.func149 (gone_comp m) mixed (kn_ok m) (Nat.le_of_ble_eq_true rfl) (Nat.le_of_ble_eq_true rfl) ?_
    simp only [gone, go_sem, reduceCtorEq, Nat.reduceEqDiff, reduceIte, Nat.reduceAdd, Nat.reduceSub, Nat.reduceLeDiff, Int.reduceToNat, Nat.reduceBEq]
    rw [lt_f h]
    simp only [go_sem, reduceCtorEq, Nat.reduceEqDiff, reduceIte, Nat.reduceAdd, Nat.reduceSub, Nat.reduceLeDiff, Int.reduceToNat, Nat.reduceBEq]
    rw [ige_t (by omega)]
    simp only [go_sem, reduceCtorEq, Nat.reduceEqDiff, reduceIte, Nat.reduceAdd, Nat.reduceSub, Nat.reduceLeDiff, Int.reduceToNat, Nat.reduceBEq]
    exact ⟨by omega, by omega, by omega, by omega, rfl⟩
def clsRes (p : Bs) (c : UInt8) (neg inn : Bool) : Option (List Rg × Bs) → AV
  | none => .tup [B false, I (-1)]
  | some x => .tup [B ((inn || hit x.1 c) != neg), N (p.length - x.2.length)]
def clsSt (p : Bs) (c : UInt8) (at_ : Nat) (neg inn f : Bool) : St := mkS [(2, U8 c), (3, .ptr ⟨.box 3 0, []⟩), (4, .ptr ⟨.box 4 0, []⟩), (6, B inn), (8, B neg), (9, .clo 149 [.ptr ⟨.box 4 0, []⟩, .ptr ⟨.box 3 0, []⟩]), (10, B f)] [(3, some [S p]), (4, some [N at_])]
theorem kn_v108 : (kn m).v 149 := ⟨Tryd.f149, Tryd.func149, rfl, by decide⟩
theorem class_out (p : Bs) (hp : p.length ≤ 1048576) (c : UInt8) (neg inn f : Bool) (at_ : Nat) (ha : at_ ≤ 2097152) (h : p.length ≤ at_) :
    vcL (kn m) [2, 3, 4, 6, 8, 9, 10] [3, 4] gclass_l0 (blockK 0 (seqK (kn m) [3, 4, 6, 8] [3, 4] gclass_k1 (outOk [.tmp 6, .tmp 7] (.tup [B false, I (-1)])))) (clsSt p c at_ neg inn f) := by
  apply round
  simp only [clsSt, gclass_l0_w, gclass_l0', go_sem, reduceCtorEq, Nat.reduceEqDiff, reduceIte, Nat.reduceAdd, Nat.reduceSub, Nat.reduceLeDiff, Int.reduceToNat, Nat.reduceBEq]
  rw [lt_f (by omega)]
  simp only [gclass_k1_w, gclass_k1', go_sem, reduceCtorEq, Nat.reduceEqDiff, reduceIte, Nat.reduceAdd, Nat.reduceSub, Nat.reduceLeDiff, Int.reduceToNat, Nat.reduceBEq]
  rw [ige_t (by omega)]
  simp only [go_sem, reduceCtorEq, Nat.reduceEqDiff, reduceIte, Nat.reduceAdd, Nat.reduceSub, Nat.reduceLeDiff, Int.reduceToNat, Nat.reduceBEq]
  omega
theorem class_end (p : Bs) (hp : p.length ≤ 1048576) (c : UInt8) (neg inn : Bool) (at_ : Nat) (h : at_ < p.length) (h93 : p[at_] = 93) :
    vcL (kn m) [2, 3, 4, 6, 8, 9, 10] [3, 4] gclass_l0 (blockK 0 (seqK (kn m) [3, 4, 6, 8] [3, 4] gclass_k1 (outOk [.tmp 6, .tmp 7] (.tup [B (inn != neg), N (at_ + 1)])))) (clsSt p c at_ neg inn false) := by
  have hw1 : IntKind.i64.wrap ((at_ : Int) + 1) = ((at_ + 1 : Nat) : Int) := wrapN (at_ + 1) (by omega) (by omega)
  apply round
  simp only [clsSt, gclass_l0_w, gclass_l0', go_sem, reduceCtorEq, Nat.reduceEqDiff, reduceIte, Nat.reduceAdd, Nat.reduceSub, Nat.reduceLeDiff, Int.reduceToNat, Nat.reduceBEq]
  rw [lt_t h]
  simp only [getE h, go_sem, reduceCtorEq, Nat.reduceEqDiff, reduceIte, Nat.reduceAdd, Nat.reduceSub, Nat.reduceLeDiff, Int.reduceToNat, Nat.reduceBEq]
  rw [u8n_f (n := 93) h93 rfl]
  simp only [gclass_k1_w, gclass_k1', go_sem, reduceCtorEq, Nat.reduceEqDiff, reduceIte, Nat.reduceAdd, Nat.reduceSub, Nat.reduceLeDiff, Int.reduceToNat, Nat.reduceBEq]
  rw [ige_f (by omega)]
  simp only [hw1, go_sem, reduceCtorEq, Nat.reduceEqDiff, reduceIte, Nat.reduceAdd, Nat.reduceSub, Nat.reduceLeDiff, Int.reduceToNat, Nat.reduceBEq]
  repeat (refine ⟨by (try simp only [List.length_append, List.length_cons, List.length_nil, List.length_drop, List.length_take]); omega, ?_⟩)
  rfl
theorem hit_cons (x : Rg) (is : List Rg) (c : UInt8) (inn : Bool) : (inn || hit (x :: is) c) = ((inn || (decide (x.1 ≤ c) && decide (c ≤ x.2))) || hit is c) := by simp [hit, Bool.or_assoc]
theorem leN (a b : UInt8) : decide ((a.toNat : Int) ≥ b.toNat) = decide (b ≤ a) := by
  rw [Bool.eq_iff_iff, decide_eq_true_iff, decide_eq_true_iff, UInt8.le_iff_toNat_le]; omega
theorem leN2 (a b : UInt8) : decide ((a.toNat : Int) ≤ b.toNat) = decide (a ≤ b) := by
  rw [Bool.eq_iff_iff, decide_eq_true_iff, decide_eq_true_iff, UInt8.le_iff_toNat_le]; omega
theorem clsRes_map (p : Bs) (c : UInt8) (neg inn : Bool) (lo hi : UInt8) (o : Option (List Rg × Bs)) : clsRes p c neg inn (o.map fun x => ((lo, hi) :: x.1, x.2)) = clsRes p c neg (inn || (decide (lo ≤ c) && decide (c ≤ hi))) o := by
  cases o with
  | none => rfl
  | some x => simp only [Option.map_some, clsRes, hit_cons]
theorem nor_one {p : Bs} {a : Nat} (h : ¬ a + 1 < p.length) : ranged (p.drop a) = none := by
  unfold ranged
  split
  · rename_i x r e
    have := congrArg List.length e
    simp at this; omega
  · rfl
theorem nor_two {p : Bs} {a : Nat} (h : a < p.length) (hB : p[a] ≠ 45) : ranged (p.drop a) = none := by
  rw [List.drop_eq_getElem_cons h]
  unfold ranged
  split
  · rename_i x r e; injection e with e _; exact absurd e hB
  · rfl
theorem nor_three {p : Bs} {a : Nat} (h : a + 1 < p.length) (hC : p[a + 1] = 93) : ranged (p.drop a) = none := by
  rw [List.drop_eq_getElem_cons (by omega : a < p.length), List.drop_eq_getElem_cons h]
  unfold ranged
  split
  · rename_i x r e; injection e with _ e; injection e with e _; rw [if_pos (by rw [← e, hC])]
  · rfl
theorem rng_at {p : Bs} {a : Nat} (h : a + 1 < p.length) (hB : p[a] = 45) (hC : p[a + 1] ≠ 93) : ranged (p.drop a) = some (p.drop (a + 1)) := by
  rw [List.drop_eq_getElem_cons (by omega : a < p.length), List.drop_eq_getElem_cons h, hB]
  simp only [ranged]
  rw [if_neg hC]
set_option maxHeartbeats 4000000 in
theorem class_loop (p : Bs) (hp : p.length ≤ 1048576) (c : UInt8) (neg : Bool) (n : Nat) : ∀ (inn f : Bool) (at_ : Nat) (hn : p.length - at_ ≤ n) (ha : at_ ≤ p.length),
    vcL (kn m) [2, 3, 4, 6, 8, 9, 10] [3, 4] gclass_l0 (blockK 0 (seqK (kn m) [3, 4, 6, 8] [3, 4] gclass_k1 (outOk [.tmp 6, .tmp 7] (clsRes p c neg inn (items f (p.drop at_)))))) (clsSt p c at_ neg inn f) := by
  induction n with
  | zero =>
    intro inn f at_ hn ha
    rw [List.drop_of_length_le (by omega), items_nil]
    exact class_out p hp c neg inn f at_ (by omega) (by omega)
  | succ n ih =>
    intro inn f at_ hn ha
    by_cases h : at_ < p.length
    · have hd : p.drop at_ = p[at_] :: p.drop (at_ + 1) := List.drop_eq_getElem_cons h
      by_cases h0 : p[at_] = 93 ∧ f = false
      · obtain ⟨h93, rfl⟩ := h0
        rw [hd, h93, items_end]
        have e : clsRes p c neg inn (some ([], p.drop (at_ + 1))) = .tup [B (inn != neg), N (at_ + 1)] := by
          simp only [clsRes, hit, List.any_nil, Bool.or_false, List.length_drop]
          rw [show p.length - (p.length - (at_ + 1)) = at_ + 1 by omega]
        rw [e]
        exact class_end p hp c neg inn at_ h h93
      · obtain ⟨a2, ha2, hsp⟩ := gone_snd (m := m) p hp at_ (by omega)
        rw [hd]
        cases hi : item (p.drop at_) with
        | none =>
          rw [hi] at hsp
          simp only at hsp
          rw [items_bad h0 (by rw [← hd]; exact hi)]
          apply round
          simp only [clsSt, gclass_l0_w, gclass_l0', go_sem, reduceCtorEq, Nat.reduceEqDiff, reduceIte, Nat.reduceAdd, Nat.reduceSub, Nat.reduceLeDiff, Int.reduceToNat, Nat.reduceBEq]
          rw [lt_t h]
          cases f with
          | true =>
            simp only [go_sem, reduceCtorEq, Nat.reduceEqDiff, reduceIte, Nat.reduceAdd, Nat.reduceSub, Nat.reduceLeDiff, Int.reduceToNat, Nat.reduceBEq]
            repeat (refine ⟨by (try simp only [List.length_append, List.length_cons, List.length_nil, List.length_drop, List.length_take]); omega, ?_⟩)
            refine ⟨kn_v108, ?_⟩
            refine of_core hsp rfl ?_
            simp only [unVal, clsRes, go_sem, reduceCtorEq, Nat.reduceEqDiff, reduceIte, Nat.reduceAdd, Nat.reduceSub, Nat.reduceLeDiff, Int.reduceToNat, Nat.reduceBEq]
          | false =>
            simp only [getE h, go_sem, reduceCtorEq, Nat.reduceEqDiff, reduceIte, Nat.reduceAdd, Nat.reduceSub, Nat.reduceLeDiff, Int.reduceToNat, Nat.reduceBEq]
            refine ⟨by omega, by omega, by omega, by omega, by omega, ?_⟩
            rw [u8n_t (n := 93) (fun e => h0 ⟨e, rfl⟩) rfl]
            simp only [go_sem, reduceCtorEq, Nat.reduceEqDiff, reduceIte, Nat.reduceAdd, Nat.reduceSub, Nat.reduceLeDiff, Int.reduceToNat, Nat.reduceBEq]
            refine ⟨kn_v108, ?_⟩
            refine of_core hsp rfl ?_
            simp only [unVal, clsRes, go_sem, reduceCtorEq, Nat.reduceEqDiff, reduceIte, Nat.reduceAdd, Nat.reduceSub, Nat.reduceLeDiff, Int.reduceToNat, Nat.reduceBEq]
        | some q =>
          obtain ⟨lo, r1⟩ := q
          rw [hi] at hsp
          simp only at hsp
          obtain ⟨he1, hr1, hl1, hsp⟩ := hsp
          have hlt1 := item_len hi
          rw [List.length_drop] at hlt1
          have hrl := congrArg List.length hr1
          rw [List.length_drop] at hrl
          apply round
          simp only [clsSt, gclass_l0_w, gclass_l0', go_sem, reduceCtorEq, Nat.reduceEqDiff, reduceIte, Nat.reduceAdd, Nat.reduceSub, Nat.reduceLeDiff, Int.reduceToNat, Nat.reduceBEq]
          rw [lt_t h]
          cases f with
          | true =>
            simp only [go_sem, reduceCtorEq, Nat.reduceEqDiff, reduceIte, Nat.reduceAdd, Nat.reduceSub, Nat.reduceLeDiff, Int.reduceToNat, Nat.reduceBEq]
            repeat (refine ⟨by (try simp only [List.length_append, List.length_cons, List.length_nil, List.length_drop, List.length_take]); omega, ?_⟩)
            refine ⟨kn_v108, ?_⟩
            refine of_core hsp rfl ?_
            have hwa : IntKind.i64.wrap ((a2 : Int) + 1) = ((a2 + 1 : Nat) : Int) := wrapN (a2 + 1) (by omega) (by omega)
            simp only [hwa, go_sem, reduceCtorEq, Nat.reduceEqDiff, reduceIte, Nat.reduceAdd, Nat.reduceSub, Nat.reduceLeDiff, Int.reduceToNat, Nat.reduceBEq]
            by_cases hA : a2 + 1 < p.length
            · have hA2 : a2 < p.length := by omega
              rw [lt_t hA]
              simp only [getE hA2, go_sem, reduceCtorEq, Nat.reduceEqDiff, reduceIte, Nat.reduceAdd, Nat.reduceSub, Nat.reduceLeDiff, Int.reduceToNat, Nat.reduceBEq]
              refine ⟨by omega, by omega, by omega, ?_⟩
              by_cases hB : p[a2] = 45
              · rw [u8b_t (n := 45) hB rfl]
                simp only [hwa, getE hA, go_sem, reduceCtorEq, Nat.reduceEqDiff, reduceIte, Nat.reduceAdd, Nat.reduceSub, Nat.reduceLeDiff, Int.reduceToNat, Nat.reduceBEq]
                refine ⟨by omega, by omega, by omega, ?_⟩
                by_cases hC : p[a2 + 1] = 93
                · rw [u8n_f (n := 93) hC rfl]
                  simp only [unVal, go_sem, reduceCtorEq, Nat.reduceEqDiff, reduceIte, Nat.reduceAdd, Nat.reduceSub, Nat.reduceLeDiff, Int.reduceToNat, Nat.reduceBEq]
                  rw [items_one h0 (by rw [← hd]; exact hi) (by rw [hr1]; exact nor_three hA hC), clsRes_map, hr1]
                  cases inn with
                  | true =>
                    simp only [go_sem, reduceCtorEq, Nat.reduceEqDiff, reduceIte, Nat.reduceAdd, Nat.reduceSub, Nat.reduceLeDiff, Int.reduceToNat, Nat.reduceBEq]
                    have := ih true false a2 (by omega) (by omega)
                    repeat (refine ⟨by (try simp only [List.length_append, List.length_cons, List.length_nil, List.length_drop, List.length_take]); omega, ?_⟩)
                    exact this
                  | false =>
                    simp only [wrap32, leN, leN2, go_sem, reduceCtorEq, Nat.reduceEqDiff, reduceIte, Nat.reduceAdd, Nat.reduceSub, Nat.reduceLeDiff, Int.reduceToNat, Nat.reduceBEq]
                    cases hq : decide (lo ≤ c) with
                    | false =>
                      simp only [go_sem, reduceCtorEq, Nat.reduceEqDiff, reduceIte, Nat.reduceAdd, Nat.reduceSub, Nat.reduceLeDiff, Int.reduceToNat, Nat.reduceBEq]
                      have := ih false false a2 (by omega) (by omega)
                      repeat (refine ⟨by (try simp only [List.length_append, List.length_cons, List.length_nil, List.length_drop, List.length_take]); omega, ?_⟩)
                      exact this
                    | true =>
                      simp only [wrap32, leN, leN2, go_sem, reduceCtorEq, Nat.reduceEqDiff, reduceIte, Nat.reduceAdd, Nat.reduceSub, Nat.reduceLeDiff, Int.reduceToNat, Nat.reduceBEq]
                      have := ih (decide (c ≤ lo)) false a2 (by omega) (by omega)
                      repeat (refine ⟨by (try simp only [List.length_append, List.length_cons, List.length_nil, List.length_drop, List.length_take]); omega, ?_⟩)
                      exact this
                · rw [u8n_t (n := 93) hC rfl]
                  simp only [hwa, unVal, go_sem, reduceCtorEq, Nat.reduceEqDiff, reduceIte, Nat.reduceAdd, Nat.reduceSub, Nat.reduceLeDiff, Int.reduceToNat, Nat.reduceBEq]
                  obtain ⟨a3, ha3, hsp2⟩ := gone_snd (m := m) p hp (a2 + 1) (by omega)
                  have hrg : ranged r1 = some (p.drop (a2 + 1)) := by rw [hr1]; exact rng_at hA hB hC
                  repeat (refine ⟨by (try simp only [List.length_append, List.length_cons, List.length_nil, List.length_drop, List.length_take]); omega, ?_⟩)
                  refine ⟨kn_v108, ?_⟩
                  cases hi2 : item (p.drop (a2 + 1)) with
                  | none =>
                    rw [hi2] at hsp2
                    simp only at hsp2
                    refine of_core hsp2 rfl ?_
                    rw [items_rbad h0 (by rw [← hd]; exact hi) hrg hi2]
                    simp only [unVal, clsRes, go_sem, reduceCtorEq, Nat.reduceEqDiff, reduceIte, Nat.reduceAdd, Nat.reduceSub, Nat.reduceLeDiff, Int.reduceToNat, Nat.reduceBEq]
                  | some q =>
                    obtain ⟨up, r3⟩ := q
                    rw [hi2] at hsp2
                    simp only at hsp2
                    obtain ⟨he3, hr3, hl3, hsp2⟩ := hsp2
                    refine of_core hsp2 rfl ?_
                    rw [items_rng h0 (by rw [← hd]; exact hi) hrg hi2, clsRes_map, hr3]
                    have hlt3 := item_len hi2
                    rw [List.length_drop] at hlt3
                    simp only [unVal, go_sem, reduceCtorEq, Nat.reduceEqDiff, reduceIte, Nat.reduceAdd, Nat.reduceSub, Nat.reduceLeDiff, Int.reduceToNat, Nat.reduceBEq]
                    cases inn with
                    | true =>
                      simp only [go_sem, reduceCtorEq, Nat.reduceEqDiff, reduceIte, Nat.reduceAdd, Nat.reduceSub, Nat.reduceLeDiff, Int.reduceToNat, Nat.reduceBEq]
                      have := ih true false a3 (by omega) (by omega)
                      repeat (refine ⟨by (try simp only [List.length_append, List.length_cons, List.length_nil, List.length_drop, List.length_take]); omega, ?_⟩)
                      exact this
                    | false =>
                      simp only [wrap32, leN, leN2, go_sem, reduceCtorEq, Nat.reduceEqDiff, reduceIte, Nat.reduceAdd, Nat.reduceSub, Nat.reduceLeDiff, Int.reduceToNat, Nat.reduceBEq]
                      cases hq : decide (lo ≤ c) with
                      | false =>
                        simp only [go_sem, reduceCtorEq, Nat.reduceEqDiff, reduceIte, Nat.reduceAdd, Nat.reduceSub, Nat.reduceLeDiff, Int.reduceToNat, Nat.reduceBEq]
                        have := ih false false a3 (by omega) (by omega)
                        repeat (refine ⟨by (try simp only [List.length_append, List.length_cons, List.length_nil, List.length_drop, List.length_take]); omega, ?_⟩)
                        exact this
                      | true =>
                        simp only [wrap32, leN, leN2, go_sem, reduceCtorEq, Nat.reduceEqDiff, reduceIte, Nat.reduceAdd, Nat.reduceSub, Nat.reduceLeDiff, Int.reduceToNat, Nat.reduceBEq]
                        have := ih (decide (c ≤ up)) false a3 (by omega) (by omega)
                        repeat (refine ⟨by (try simp only [List.length_append, List.length_cons, List.length_nil, List.length_drop, List.length_take]); omega, ?_⟩)
                        exact this
              · rw [u8b_f (n := 45) hB rfl]
                simp only [unVal, go_sem, reduceCtorEq, Nat.reduceEqDiff, reduceIte, Nat.reduceAdd, Nat.reduceSub, Nat.reduceLeDiff, Int.reduceToNat, Nat.reduceBEq]
                rw [items_one h0 (by rw [← hd]; exact hi) (by rw [hr1]; exact nor_two hA2 hB), clsRes_map, hr1]
                cases inn with
                | true =>
                  simp only [go_sem, reduceCtorEq, Nat.reduceEqDiff, reduceIte, Nat.reduceAdd, Nat.reduceSub, Nat.reduceLeDiff, Int.reduceToNat, Nat.reduceBEq]
                  have := ih true false a2 (by omega) (by omega)
                  repeat (refine ⟨by (try simp only [List.length_append, List.length_cons, List.length_nil, List.length_drop, List.length_take]); omega, ?_⟩)
                  exact this
                | false =>
                  simp only [wrap32, leN, leN2, go_sem, reduceCtorEq, Nat.reduceEqDiff, reduceIte, Nat.reduceAdd, Nat.reduceSub, Nat.reduceLeDiff, Int.reduceToNat, Nat.reduceBEq]
                  cases hq : decide (lo ≤ c) with
                  | false =>
                    simp only [go_sem, reduceCtorEq, Nat.reduceEqDiff, reduceIte, Nat.reduceAdd, Nat.reduceSub, Nat.reduceLeDiff, Int.reduceToNat, Nat.reduceBEq]
                    have := ih false false a2 (by omega) (by omega)
                    repeat (refine ⟨by (try simp only [List.length_append, List.length_cons, List.length_nil, List.length_drop, List.length_take]); omega, ?_⟩)
                    exact this
                  | true =>
                    simp only [wrap32, leN, leN2, go_sem, reduceCtorEq, Nat.reduceEqDiff, reduceIte, Nat.reduceAdd, Nat.reduceSub, Nat.reduceLeDiff, Int.reduceToNat, Nat.reduceBEq]
                    have := ih (decide (c ≤ lo)) false a2 (by omega) (by omega)
                    repeat (refine ⟨by (try simp only [List.length_append, List.length_cons, List.length_nil, List.length_drop, List.length_take]); omega, ?_⟩)
                    exact this
            · rw [lt_f hA]
              simp only [unVal, go_sem, reduceCtorEq, Nat.reduceEqDiff, reduceIte, Nat.reduceAdd, Nat.reduceSub, Nat.reduceLeDiff, Int.reduceToNat, Nat.reduceBEq]
              rw [items_one h0 (by rw [← hd]; exact hi) (by rw [hr1]; exact nor_one hA), clsRes_map, hr1]
              cases inn with
              | true =>
                simp only [go_sem, reduceCtorEq, Nat.reduceEqDiff, reduceIte, Nat.reduceAdd, Nat.reduceSub, Nat.reduceLeDiff, Int.reduceToNat, Nat.reduceBEq]
                have := ih true false a2 (by omega) (by omega)
                repeat (refine ⟨by (try simp only [List.length_append, List.length_cons, List.length_nil, List.length_drop, List.length_take]); omega, ?_⟩)
                exact this
              | false =>
                simp only [wrap32, leN, leN2, go_sem, reduceCtorEq, Nat.reduceEqDiff, reduceIte, Nat.reduceAdd, Nat.reduceSub, Nat.reduceLeDiff, Int.reduceToNat, Nat.reduceBEq]
                cases hq : decide (lo ≤ c) with
                | false =>
                  simp only [go_sem, reduceCtorEq, Nat.reduceEqDiff, reduceIte, Nat.reduceAdd, Nat.reduceSub, Nat.reduceLeDiff, Int.reduceToNat, Nat.reduceBEq]
                  have := ih false false a2 (by omega) (by omega)
                  repeat (refine ⟨by (try simp only [List.length_append, List.length_cons, List.length_nil, List.length_drop, List.length_take]); omega, ?_⟩)
                  exact this
                | true =>
                  simp only [wrap32, leN, leN2, go_sem, reduceCtorEq, Nat.reduceEqDiff, reduceIte, Nat.reduceAdd, Nat.reduceSub, Nat.reduceLeDiff, Int.reduceToNat, Nat.reduceBEq]
                  have := ih (decide (c ≤ lo)) false a2 (by omega) (by omega)
                  repeat (refine ⟨by (try simp only [List.length_append, List.length_cons, List.length_nil, List.length_drop, List.length_take]); omega, ?_⟩)
                  exact this
          | false =>
            simp only [getE h, go_sem, reduceCtorEq, Nat.reduceEqDiff, reduceIte, Nat.reduceAdd, Nat.reduceSub, Nat.reduceLeDiff, Int.reduceToNat, Nat.reduceBEq]
            refine ⟨by omega, by omega, by omega, by omega, by omega, ?_⟩
            rw [u8n_t (n := 93) (fun e => h0 ⟨e, rfl⟩) rfl]
            simp only [go_sem, reduceCtorEq, Nat.reduceEqDiff, reduceIte, Nat.reduceAdd, Nat.reduceSub, Nat.reduceLeDiff, Int.reduceToNat, Nat.reduceBEq]
            refine ⟨kn_v108, ?_⟩
            refine of_core hsp rfl ?_
            have hwa : IntKind.i64.wrap ((a2 : Int) + 1) = ((a2 + 1 : Nat) : Int) := wrapN (a2 + 1) (by omega) (by omega)
            simp only [hwa, go_sem, reduceCtorEq, Nat.reduceEqDiff, reduceIte, Nat.reduceAdd, Nat.reduceSub, Nat.reduceLeDiff, Int.reduceToNat, Nat.reduceBEq]
            by_cases hA : a2 + 1 < p.length
            · have hA2 : a2 < p.length := by omega
              rw [lt_t hA]
              simp only [getE hA2, go_sem, reduceCtorEq, Nat.reduceEqDiff, reduceIte, Nat.reduceAdd, Nat.reduceSub, Nat.reduceLeDiff, Int.reduceToNat, Nat.reduceBEq]
              refine ⟨by omega, by omega, by omega, ?_⟩
              by_cases hB : p[a2] = 45
              · rw [u8b_t (n := 45) hB rfl]
                simp only [hwa, getE hA, go_sem, reduceCtorEq, Nat.reduceEqDiff, reduceIte, Nat.reduceAdd, Nat.reduceSub, Nat.reduceLeDiff, Int.reduceToNat, Nat.reduceBEq]
                refine ⟨by omega, by omega, by omega, ?_⟩
                by_cases hC : p[a2 + 1] = 93
                · rw [u8n_f (n := 93) hC rfl]
                  simp only [unVal, go_sem, reduceCtorEq, Nat.reduceEqDiff, reduceIte, Nat.reduceAdd, Nat.reduceSub, Nat.reduceLeDiff, Int.reduceToNat, Nat.reduceBEq]
                  rw [items_one h0 (by rw [← hd]; exact hi) (by rw [hr1]; exact nor_three hA hC), clsRes_map, hr1]
                  cases inn with
                  | true =>
                    simp only [go_sem, reduceCtorEq, Nat.reduceEqDiff, reduceIte, Nat.reduceAdd, Nat.reduceSub, Nat.reduceLeDiff, Int.reduceToNat, Nat.reduceBEq]
                    have := ih true false a2 (by omega) (by omega)
                    repeat (refine ⟨by (try simp only [List.length_append, List.length_cons, List.length_nil, List.length_drop, List.length_take]); omega, ?_⟩)
                    exact this
                  | false =>
                    simp only [wrap32, leN, leN2, go_sem, reduceCtorEq, Nat.reduceEqDiff, reduceIte, Nat.reduceAdd, Nat.reduceSub, Nat.reduceLeDiff, Int.reduceToNat, Nat.reduceBEq]
                    cases hq : decide (lo ≤ c) with
                    | false =>
                      simp only [go_sem, reduceCtorEq, Nat.reduceEqDiff, reduceIte, Nat.reduceAdd, Nat.reduceSub, Nat.reduceLeDiff, Int.reduceToNat, Nat.reduceBEq]
                      have := ih false false a2 (by omega) (by omega)
                      repeat (refine ⟨by (try simp only [List.length_append, List.length_cons, List.length_nil, List.length_drop, List.length_take]); omega, ?_⟩)
                      exact this
                    | true =>
                      simp only [wrap32, leN, leN2, go_sem, reduceCtorEq, Nat.reduceEqDiff, reduceIte, Nat.reduceAdd, Nat.reduceSub, Nat.reduceLeDiff, Int.reduceToNat, Nat.reduceBEq]
                      have := ih (decide (c ≤ lo)) false a2 (by omega) (by omega)
                      repeat (refine ⟨by (try simp only [List.length_append, List.length_cons, List.length_nil, List.length_drop, List.length_take]); omega, ?_⟩)
                      exact this
                · rw [u8n_t (n := 93) hC rfl]
                  simp only [hwa, unVal, go_sem, reduceCtorEq, Nat.reduceEqDiff, reduceIte, Nat.reduceAdd, Nat.reduceSub, Nat.reduceLeDiff, Int.reduceToNat, Nat.reduceBEq]
                  obtain ⟨a3, ha3, hsp2⟩ := gone_snd (m := m) p hp (a2 + 1) (by omega)
                  have hrg : ranged r1 = some (p.drop (a2 + 1)) := by rw [hr1]; exact rng_at hA hB hC
                  repeat (refine ⟨by (try simp only [List.length_append, List.length_cons, List.length_nil, List.length_drop, List.length_take]); omega, ?_⟩)
                  refine ⟨kn_v108, ?_⟩
                  cases hi2 : item (p.drop (a2 + 1)) with
                  | none =>
                    rw [hi2] at hsp2
                    simp only at hsp2
                    refine of_core hsp2 rfl ?_
                    rw [items_rbad h0 (by rw [← hd]; exact hi) hrg hi2]
                    simp only [unVal, clsRes, go_sem, reduceCtorEq, Nat.reduceEqDiff, reduceIte, Nat.reduceAdd, Nat.reduceSub, Nat.reduceLeDiff, Int.reduceToNat, Nat.reduceBEq]
                  | some q =>
                    obtain ⟨up, r3⟩ := q
                    rw [hi2] at hsp2
                    simp only at hsp2
                    obtain ⟨he3, hr3, hl3, hsp2⟩ := hsp2
                    refine of_core hsp2 rfl ?_
                    rw [items_rng h0 (by rw [← hd]; exact hi) hrg hi2, clsRes_map, hr3]
                    have hlt3 := item_len hi2
                    rw [List.length_drop] at hlt3
                    simp only [unVal, go_sem, reduceCtorEq, Nat.reduceEqDiff, reduceIte, Nat.reduceAdd, Nat.reduceSub, Nat.reduceLeDiff, Int.reduceToNat, Nat.reduceBEq]
                    cases inn with
                    | true =>
                      simp only [go_sem, reduceCtorEq, Nat.reduceEqDiff, reduceIte, Nat.reduceAdd, Nat.reduceSub, Nat.reduceLeDiff, Int.reduceToNat, Nat.reduceBEq]
                      have := ih true false a3 (by omega) (by omega)
                      repeat (refine ⟨by (try simp only [List.length_append, List.length_cons, List.length_nil, List.length_drop, List.length_take]); omega, ?_⟩)
                      exact this
                    | false =>
                      simp only [wrap32, leN, leN2, go_sem, reduceCtorEq, Nat.reduceEqDiff, reduceIte, Nat.reduceAdd, Nat.reduceSub, Nat.reduceLeDiff, Int.reduceToNat, Nat.reduceBEq]
                      cases hq : decide (lo ≤ c) with
                      | false =>
                        simp only [go_sem, reduceCtorEq, Nat.reduceEqDiff, reduceIte, Nat.reduceAdd, Nat.reduceSub, Nat.reduceLeDiff, Int.reduceToNat, Nat.reduceBEq]
                        have := ih false false a3 (by omega) (by omega)
                        repeat (refine ⟨by (try simp only [List.length_append, List.length_cons, List.length_nil, List.length_drop, List.length_take]); omega, ?_⟩)
                        exact this
                      | true =>
                        simp only [wrap32, leN, leN2, go_sem, reduceCtorEq, Nat.reduceEqDiff, reduceIte, Nat.reduceAdd, Nat.reduceSub, Nat.reduceLeDiff, Int.reduceToNat, Nat.reduceBEq]
                        have := ih (decide (c ≤ up)) false a3 (by omega) (by omega)
                        repeat (refine ⟨by (try simp only [List.length_append, List.length_cons, List.length_nil, List.length_drop, List.length_take]); omega, ?_⟩)
                        exact this
              · rw [u8b_f (n := 45) hB rfl]
                simp only [unVal, go_sem, reduceCtorEq, Nat.reduceEqDiff, reduceIte, Nat.reduceAdd, Nat.reduceSub, Nat.reduceLeDiff, Int.reduceToNat, Nat.reduceBEq]
                rw [items_one h0 (by rw [← hd]; exact hi) (by rw [hr1]; exact nor_two hA2 hB), clsRes_map, hr1]
                cases inn with
                | true =>
                  simp only [go_sem, reduceCtorEq, Nat.reduceEqDiff, reduceIte, Nat.reduceAdd, Nat.reduceSub, Nat.reduceLeDiff, Int.reduceToNat, Nat.reduceBEq]
                  have := ih true false a2 (by omega) (by omega)
                  repeat (refine ⟨by (try simp only [List.length_append, List.length_cons, List.length_nil, List.length_drop, List.length_take]); omega, ?_⟩)
                  exact this
                | false =>
                  simp only [wrap32, leN, leN2, go_sem, reduceCtorEq, Nat.reduceEqDiff, reduceIte, Nat.reduceAdd, Nat.reduceSub, Nat.reduceLeDiff, Int.reduceToNat, Nat.reduceBEq]
                  cases hq : decide (lo ≤ c) with
                  | false =>
                    simp only [go_sem, reduceCtorEq, Nat.reduceEqDiff, reduceIte, Nat.reduceAdd, Nat.reduceSub, Nat.reduceLeDiff, Int.reduceToNat, Nat.reduceBEq]
                    have := ih false false a2 (by omega) (by omega)
                    repeat (refine ⟨by (try simp only [List.length_append, List.length_cons, List.length_nil, List.length_drop, List.length_take]); omega, ?_⟩)
                    exact this
                  | true =>
                    simp only [wrap32, leN, leN2, go_sem, reduceCtorEq, Nat.reduceEqDiff, reduceIte, Nat.reduceAdd, Nat.reduceSub, Nat.reduceLeDiff, Int.reduceToNat, Nat.reduceBEq]
                    have := ih (decide (c ≤ lo)) false a2 (by omega) (by omega)
                    repeat (refine ⟨by (try simp only [List.length_append, List.length_cons, List.length_nil, List.length_drop, List.length_take]); omega, ?_⟩)
                    exact this
            · rw [lt_f hA]
              simp only [unVal, go_sem, reduceCtorEq, Nat.reduceEqDiff, reduceIte, Nat.reduceAdd, Nat.reduceSub, Nat.reduceLeDiff, Int.reduceToNat, Nat.reduceBEq]
              rw [items_one h0 (by rw [← hd]; exact hi) (by rw [hr1]; exact nor_one hA), clsRes_map, hr1]
              cases inn with
              | true =>
                simp only [go_sem, reduceCtorEq, Nat.reduceEqDiff, reduceIte, Nat.reduceAdd, Nat.reduceSub, Nat.reduceLeDiff, Int.reduceToNat, Nat.reduceBEq]
                have := ih true false a2 (by omega) (by omega)
                repeat (refine ⟨by (try simp only [List.length_append, List.length_cons, List.length_nil, List.length_drop, List.length_take]); omega, ?_⟩)
                exact this
              | false =>
                simp only [wrap32, leN, leN2, go_sem, reduceCtorEq, Nat.reduceEqDiff, reduceIte, Nat.reduceAdd, Nat.reduceSub, Nat.reduceLeDiff, Int.reduceToNat, Nat.reduceBEq]
                cases hq : decide (lo ≤ c) with
                | false =>
                  simp only [go_sem, reduceCtorEq, Nat.reduceEqDiff, reduceIte, Nat.reduceAdd, Nat.reduceSub, Nat.reduceLeDiff, Int.reduceToNat, Nat.reduceBEq]
                  have := ih false false a2 (by omega) (by omega)
                  repeat (refine ⟨by (try simp only [List.length_append, List.length_cons, List.length_nil, List.length_drop, List.length_take]); omega, ?_⟩)
                  exact this
                | true =>
                  simp only [wrap32, leN, leN2, go_sem, reduceCtorEq, Nat.reduceEqDiff, reduceIte, Nat.reduceAdd, Nat.reduceSub, Nat.reduceLeDiff, Int.reduceToNat, Nat.reduceBEq]
                  have := ih (decide (c ≤ lo)) false a2 (by omega) (by omega)
                  repeat (refine ⟨by (try simp only [List.length_append, List.length_cons, List.length_nil, List.length_drop, List.length_take]); omega, ?_⟩)
                  exact this
    · rw [List.drop_of_length_le (by omega), items_nil]
      exact class_out p hp c neg inn f at_ (by omega) (by omega)
theorem gclass_snd (p : Bs) (hp : p.length ≤ 1048576) (at_ : Nat) (ha : at_ ≤ p.length) (c : UInt8) : Snd Tryd.prog (gl m) 136 [S p, N at_, U8 c] (match clsL (p.drop at_) with | none => .tup [B false, I (-1)] | some x => .tup [B (hit x.2.1 c != x.1), N (p.length - x.2.2.length)]) := by
  have hw1 : IntKind.i64.wrap ((at_ : Int) + 1) = ((at_ + 1 : Nat) : Int) := wrapN (at_ + 1) (by omega) (by omega)
  refine snd_of (fn := Tryd.f136) (af := gclass) Tryd.func136 (gclass_comp m) mixed (kn_ok m) (Nat.le_of_ble_eq_true rfl) ?_
  simp only [gclass, go_sem, reduceCtorEq, Nat.reduceEqDiff, reduceIte, Nat.reduceAdd, Nat.reduceSub, Nat.reduceLeDiff, Int.reduceToNat, Nat.reduceBEq]
  by_cases h : at_ < p.length
  · have hd : p.drop at_ = p[at_] :: p.drop (at_ + 1) := List.drop_eq_getElem_cons h
    rw [lt_t h]
    simp only [getE h, go_sem, reduceCtorEq, Nat.reduceEqDiff, reduceIte, Nat.reduceAdd, Nat.reduceSub, Nat.reduceLeDiff, Int.reduceToNat, Nat.reduceBEq]
    by_cases h33 : p[at_] = 33
    · have e : clsL (p.drop at_) = (items true (p.drop (at_ + 1))).map fun x => (true, x.1, x.2) := by rw [hd, h33]; rfl
      have e2 : (match clsL (p.drop at_) with | none => AV.tup [B false, I (-1)] | some x => .tup [B (hit x.2.1 c != x.1), N (p.length - x.2.2.length)]) = clsRes p c true false (items true (p.drop (at_ + 1))) := by
        rw [e]; cases items true (p.drop (at_ + 1)) <;> rfl
      rw [e2, u8b_t (n := 33) h33 rfl]
      simp only [hw1, go_sem, reduceCtorEq, Nat.reduceEqDiff, reduceIte, Nat.reduceAdd, Nat.reduceSub, Nat.reduceLeDiff, Int.reduceToNat, Nat.reduceBEq]
      repeat (refine ⟨by (try simp only [List.length_append, List.length_cons, List.length_nil, List.length_drop, List.length_take]); omega, ?_⟩)
      exact class_loop p hp c true _ false true (at_ + 1) (Nat.le_refl _) (by omega)
    · rw [u8b_f (n := 33) h33 rfl]
      simp only [getE h, go_sem, reduceCtorEq, Nat.reduceEqDiff, reduceIte, Nat.reduceAdd, Nat.reduceSub, Nat.reduceLeDiff, Int.reduceToNat, Nat.reduceBEq]
      by_cases h94 : p[at_] = 94
      · have e : clsL (p.drop at_) = (items true (p.drop (at_ + 1))).map fun x => (true, x.1, x.2) := by rw [hd, h94]; rfl
        have e2 : (match clsL (p.drop at_) with | none => AV.tup [B false, I (-1)] | some x => .tup [B (hit x.2.1 c != x.1), N (p.length - x.2.2.length)]) = clsRes p c true false (items true (p.drop (at_ + 1))) := by
          rw [e]; cases items true (p.drop (at_ + 1)) <;> rfl
        rw [e2, u8b_t (n := 94) h94 rfl]
        simp only [hw1, go_sem, reduceCtorEq, Nat.reduceEqDiff, reduceIte, Nat.reduceAdd, Nat.reduceSub, Nat.reduceLeDiff, Int.reduceToNat, Nat.reduceBEq]
        repeat (refine ⟨by (try simp only [List.length_append, List.length_cons, List.length_nil, List.length_drop, List.length_take]); omega, ?_⟩)
        exact class_loop p hp c true _ false true (at_ + 1) (Nat.le_refl _) (by omega)
      · have hneg : negated (p.drop at_) = false := by rw [hd]; simp [negated, h33, h94]
        have e : clsL (p.drop at_) = (items true (p.drop at_)).map fun x => (false, x.1, x.2) := by simp [clsL, behindNot, hneg]
        have e2 : (match clsL (p.drop at_) with | none => AV.tup [B false, I (-1)] | some x => .tup [B (hit x.2.1 c != x.1), N (p.length - x.2.2.length)]) = clsRes p c false false (items true (p.drop at_)) := by
          rw [e]; cases items true (p.drop at_) <;> rfl
        rw [e2, u8b_f (n := 94) h94 rfl]
        simp only [go_sem, reduceCtorEq, Nat.reduceEqDiff, reduceIte, Nat.reduceAdd, Nat.reduceSub, Nat.reduceLeDiff, Int.reduceToNat, Nat.reduceBEq]
        repeat (refine ⟨by (try simp only [List.length_append, List.length_cons, List.length_nil, List.length_drop, List.length_take]); omega, ?_⟩)
        exact class_loop p hp c false _ false true at_ (Nat.le_refl _) ha
  · have e2 : (match clsL (p.drop at_) with | none => AV.tup [B false, I (-1)] | some x => .tup [B (hit x.2.1 c != x.1), N (p.length - x.2.2.length)]) = clsRes p c false false (items true (p.drop at_)) := by
      rw [List.drop_of_length_le (by omega)]; simp [clsL, behindNot, negated, items_nil, clsRes]
    rw [e2, lt_f h]
    simp only [go_sem, reduceCtorEq, Nat.reduceEqDiff, reduceIte, Nat.reduceAdd, Nat.reduceSub, Nat.reduceLeDiff, Int.reduceToNat, Nat.reduceBEq]
    repeat (refine ⟨by (try simp only [List.length_append, List.length_cons, List.length_nil, List.length_drop, List.length_take]); omega, ?_⟩)
    exact class_loop p hp c false _ false true at_ (Nat.le_refl _) ha
end Go.Gb
namespace Go.Gb
open Go.At (gl kn kn_ok tab0 mixed index1 indexByte hasPrefix trimSuffix replaceAll)
open Go Go.Ev Go.Proofs
open Go.Ln (u8b_t u8b_f u8n_t u8n_f getX idx idx_eq)
set_option linter.unusedVariables false
set_option linter.unusedSimpArgs false
attribute [local go_sem] eqs implies_true List.map_cons List.map_nil kl klL roD roL Option.map_some Option.map_none Option.getD_some Option.getD_none binVal binObl unVal if_true if_false eq_self passA frnD resD content getH getR getW viaNot viaSlot viaBox viaDeep viaMem List.contains_cons List.contains_nil grabs peeks okCells isCell place cellsOf chunk elt List.headD_cons List.length_cons List.length_nil List.take_succ_cons List.take_zero List.drop_succ_cons List.drop_zero List.nil_append List.cons_append List.append_nil List.all_cons List.all_nil plainC takeR setW over reCell List.getElem?_cons_zero List.getElem?_cons_succ List.set_cons_zero List.take_length outV resG plainV pack outVG outBx List.set_cons_succ Ref.idx Ref.addOff beq_self_eq_true bxL Option.bind_some writeR isLit viaBoxes capsPA boxPA nsOf noDup boxesAt argG passG passD rhoIn rhoOut idxIn tr trL List.getD_cons_zero gives pasOf isPtr Ins.d List.getD_cons_succ resL frnL
variable {m : Int}
theorem split_snd (s : Ln.Bs) (hs : s.length ≤ 1048576) : Snd Tryd.prog (gl m) 101 [S s, S [47]] (.sl .own 1 (ss (pieces s))) := by
  have hl : (Lib.splitB (str [47]) 0 (Lib.countB (str s) (str [47])) (str s)).map (·.data.toList) = pieces s := by
    rw [Lib.splitB_data, str_dataL, str_dataL]
    have : Lib.countB (str s) (str [47]) = Lib.count s [47] := by simp only [Lib.countB, str_dataL]
    rw [this]; exact splitK_pieces _ s (Nat.le_refl _)
  have hss : ss (pieces s) = ((Lib.splitB (str [47]) 0 (Lib.countB (str s) (str [47])) (str s)).map Value.string).map .lit := by
    rw [← hl, ss, List.map_map, List.map_map]
    apply List.map_congr_left
    intro b _
    show AV.lit (.string (str _)) = _
    rw [str_data]; rfl
  rw [hss]
  refine snd_row (us := [.string (str s), .string (str [47])]) (by intro u hu; obtain ⟨b, _, rfl⟩ := List.mem_map.1 hu; exact ⟨rfl, rfl⟩) 9 fun w zf h => ?_
  have := Tryd.strings_Split (str s) (str [47]) m w (by rw [str_size]; omega) (tab0 h) (by rw [str_size]; simp)
  rw [List.length_map, Lib.splitB_all (str [47]) (by rw [str_size]; simp) 0 _ _ rfl]
  exact this
theorem contains_snd (s : Ln.Bs) (hs : s.length ≤ 1048576) : Snd Tryd.prog (gl m) 57 [S s, S [47]] (B (s.contains 47)) := by
  have e : s.contains 47 = Lib.contains s [47] := by
    rw [Lib.contains, Lib.index_one, idx_eq]
    cases h : idx s 47 with
    | none =>
      simp only [Int.reduceNeg, Int.reduceLE, decide_false]
      rw [Bool.eq_false_iff]
      intro hc
      rw [List.contains_iff_mem] at hc
      obtain ⟨k, hk, he⟩ := List.mem_iff_getElem.1 hc
      have gen : ∀ (l : List UInt8), idx l 47 = none → ∀ (j : Nat), l[j]? ≠ some 47 := by
        intro l
        induction l with
        | nil => intro _ j; simp
        | cons b l ih =>
          intro h j
          simp only [idx] at h
          split at h
          · cases h
          · rename_i hb
            cases j with
            | zero => simpa using hb
            | succ j => simpa using ih (by simpa using h) j
      exact gen s h k (by rw [getE hk, he])
    | some k =>
      have : 0 ≤ (k : Int) := by omega
      rw [decide_eq_true this, List.contains_iff_mem]
      have gen : ∀ (l : List UInt8) (n : Nat), idx l 47 = some n → 47 ∈ l := by
        intro l
        induction l with
        | nil => intro n h; cases h
        | cons b l ih =>
          intro n h
          simp only [idx] at h
          split at h
          · rename_i hb; rw [hb]; exact List.mem_cons_self ..
          · simp only [Option.map_eq_some_iff] at h
            obtain ⟨q, h1, _⟩ := h
            exact List.mem_cons_of_mem _ (ih q h1)
      exact gen s k h
  rw [e]
  refine snd_same (us := [.string (str s), .string (str [47])]) rfl fun w zf h => ?_
  have := Tryd.strings_Contains (str s) (str [47]) m w (by rw [str_size]; omega) (tab0 h)
  simpa only [str_dataL] using this
def ggood_l0' : AC := .seq (.seq (.reg (.seq [⟨some (6, false), none, .mov (.tmp 3 true) .peek⟩,⟨some (7, false), none, .mov (.tmp 0 true) .peek⟩,⟨some (8, false), none, .len (.tmp 7 false)⟩,⟨some (9, false), none, .bin .lss (.tmp 6 false) (.tmp 8 false)⟩])) [0, 3, 9] []
  (.cond (.tmp 9 false)
    (.skip)
    (.exit 0))) [0, 3] []
  (.block 1 (.seq (.reg (.seq [⟨some (10, false), none, .mov (.tmp 0 true) .peek⟩,⟨some (11, false), none, .mov (.tmp 3 true) .peek⟩,⟨some (12, true), none, .idx (.tmp 10 false) (.tmp 11 false)⟩])) [0, 3, 12] []
    (.block 2 (.seq (.reg (.seq [⟨some (16, false), none, .bin .eql (.tmp 12 true) (.cst (.int .u8 92) (.lit (.int .u8 92)))⟩,⟨some (15, false), none, .mov (.tmp 16 false) .asg⟩])) [0, 3, 12, 15] []
      (.cond (.tmp 15 false)
        (.seq (.seq (.reg (.seq [⟨some (17, false), none, .mov (.tmp 3 true) .peek⟩,⟨some (18, false), none, .bin .add (.tmp 17 false) (.cst (.int .i64 1) (.lit (.int .i64 1)))⟩,⟨some (19, false), none, .mov (.tmp 0 true) .peek⟩,⟨some (20, false), none, .len (.tmp 19 false)⟩,⟨some (21, false), none, .bin .eql (.tmp 18 false) (.tmp 20 false)⟩])) [0, 3, 21] []
        (.cond (.tmp 21 false)
          (.seq (.reg (.seq [⟨some (2, true), none, .mov (.cst (.bool false) (.lit (.bool false))) .asg⟩])) [2] []
          (.ret))
          (.skip))) [0, 3] []
        (.reg (.seq [⟨some (22, false), none, .mov (.tmp 3 true) .peek⟩,⟨some (23, false), none, .bin .add (.tmp 22 false) (.cst (.int .i64 2) (.lit (.int .i64 2)))⟩,⟨some (3, true), none, .mov (.tmp 23 false) .asg⟩])))
        (.seq (.reg (.seq [⟨some (25, false), none, .bin .eql (.tmp 12 true) (.cst (.int .u8 91) (.lit (.int .u8 91)))⟩,⟨some (24, false), none, .mov (.tmp 25 false) .asg⟩])) [0, 3, 24] []
        (.cond (.tmp 24 false)
          (.seq (.reg (.seq [⟨some (27, false), none, .mov (.tmp 0 true) .peek⟩,⟨some (28, false), none, .mov (.tmp 3 true) .peek⟩,⟨some (29, false), none, .bin .add (.tmp 28 false) (.cst (.int .i64 1) (.lit (.int .i64 1)))⟩,⟨some (30, false), none, .call 136 [.tmp 27 false, .tmp 29 false, (.cst (.int .u8 0) (.lit (.int .u8 0)))]⟩,⟨some (26, false), none, .mov (.tmp 30 false) .peek⟩,⟨some (31, false), none, .ext (.tmp 26 false) 0⟩,⟨some (32, false), none, .ext (.tmp 26 false) 1⟩,⟨some (4, false), none, .mov (.tmp 31 false) .asg⟩,⟨some (5, true), none, .mov (.tmp 32 false) .asg⟩])) [0, 5] []
          (.seq (.seq (.reg (.seq [⟨some (33, false), none, .mov (.tmp 5 true) .peek⟩,⟨some (34, false), none, .bin .lss (.tmp 33 false) (.cst (.int .i64 0) (.lit (.int .i64 0)))⟩])) [0, 5, 34] []
          (.cond (.tmp 34 false)
            (.seq (.reg (.seq [⟨some (2, true), none, .mov (.cst (.bool false) (.lit (.bool false))) .asg⟩])) [2] []
            (.ret))
            (.skip))) [0, 5] []
          (.reg (.seq [⟨some (35, false), none, .mov (.tmp 5 true) .take⟩,⟨some (3, true), none, .mov (.tmp 35 false) .asg⟩]))))
          (.reg (.seq [⟨some (13, false), none, .mov (.tmp 3 true) .peek⟩,⟨some (14, false), none, .bin .add (.tmp 13 false) (.cst (.int .i64 1) (.lit (.int .i64 1)))⟩,⟨some (3, true), none, .mov (.tmp 14 false) .asg⟩])))))))))
def ggood_l0 : AC := ggood_l0'
theorem ggood_l0_w (C : Kn) (K : Ex → St → Prop) (s : St) : vcC C ggood_l0 K s = vcC C ggood_l0' K s := nr rfl
def ggood_k1' : AC := .seq (.reg (.seq [⟨some (36, false), none, .mov (.tmp 0 true) .peek⟩,⟨some (37, false), none, .bin .neq (.tmp 36 false) (.cst (.string (str [])) (.lit (.string (str []))))⟩,⟨some (2, true), none, .mov (.tmp 37 false) .asg⟩])) [2] []
  (.ret)
def ggood_k1 : AC := ggood_k1'
theorem ggood_k1_w (C : Kn) (K : Ex → St → Prop) (s : St) : vcC C ggood_k1 K s = vcC C ggood_k1' K s := nr rfl
def ggood : AF := ⟨.seq (.reg (.seq [⟨some (2, true), none, .mov (.cst (.bool false) (.lit (.bool false))) .asg⟩])) [0] []
  (.seq (.seq (.reg (.seq [⟨some (3, true), none, .mov (.cst (.int .i64 0) (.lit (.int .i64 0))) .asg⟩])) [0, 3] []
  (.block 0 (.loop [0, 3] [] ggood_l0))) [0] [] ggood_k1),
  [.tmp 2]⟩
theorem ggood_comp (m : Int) : compF Tryd.prog (gl m) [] Tryd.f117 = some ggood := by kernel_rfl
def gbad : AF := ⟨.seq (.reg (.seq [⟨some (2, true), none, .mov (.cst (.bool false) (.lit (.bool false))) .asg⟩])) [0] []
  (.seq (.reg (.seq [⟨some (3, false), none, .mov (.tmp 0 true) .peek⟩,⟨some (4, false), none, .call 117 [.tmp 3 false]⟩,⟨some (5, false), none, .un .not (.tmp 4 false)⟩,⟨some (2, true), none, .mov (.tmp 5 false) .asg⟩])) [2] []
  (.ret)),
  [.tmp 2]⟩
theorem gbad_comp (m : Int) : compF Tryd.prog (gl m) [] Tryd.f116 = some gbad := by kernel_rfl
def gidxf_l0' : AC := .seq (.reg (.seq [⟨some (9, false), none, .bin .lss (.tmp 8 true) (.tmp 7 true)⟩])) [0, 1, 7, 8, 9] []
  (.seq (.cond (.tmp 9 false)
    (.skip)
    (.exit 0)) [0, 1, 7, 8] []
  (.seq (.block 1 (.seq (.reg (.seq [⟨some (10, false), none, .mov (.tmp 8 true) .take⟩,⟨some (5, true), none, .mov (.tmp 10 false) .asg⟩])) [0, 1, 5, 7, 8] []
    (.seq (.reg (.seq [⟨some (11, false), none, .mov (.tmp 1 true) .peek⟩,⟨some (12, false), none, .mov (.tmp 0 true) .peek⟩,⟨some (13, false), none, .mov (.tmp 5 true) .peek⟩,⟨some (14, false), none, .iad (.tmp 12 false) (.tmp 13 false) 1⟩,⟨some (15, false), none, .load (.tmp 14 false) 1 false false⟩,⟨some (16, false), none, .callV (.tmp 11 false) [.tmp 15 false]⟩])) [0, 1, 5, 7, 8, 16] []
    (.cond (.tmp 16 false)
      (.seq (.reg (.seq [⟨some (17, false), none, .mov (.tmp 5 true) .take⟩,⟨some (4, true), none, .mov (.tmp 17 false) .asg⟩])) [4] []
      (.ret))
      (.skip))))) [0, 1, 7, 8] []
  (.reg (.seq [⟨some (18, false), none, .bin .add (.tmp 8 true) (.cst (.int .i64 1) (.lit (.int .i64 1)))⟩,⟨some (8, true), none, .mov (.tmp 18 false) .peek⟩]))))
def gidxf_l0 : AC := gidxf_l0'
theorem gidxf_l0_w (C : Kn) (K : Ex → St → Prop) (s : St) : vcC C gidxf_l0 K s = vcC C gidxf_l0' K s := nr rfl
def gidxf_k1' : AC := .seq (.reg (.seq [⟨some (4, true), none, .mov (.cst (.int .i64 (-1)) (.lit (.int .i64 (-1)))) .asg⟩])) [4] []
  (.ret)
def gidxf_k1 : AC := gidxf_k1'
theorem gidxf_k1_w (C : Kn) (K : Ex → St → Prop) (s : St) : vcC C gidxf_k1 K s = vcC C gidxf_k1' K s := nr rfl
def gidxf : AF := ⟨.seq (.reg (.seq [⟨some (4, true), none, .mov (.cst (.int .i64 0) (.lit (.int .i64 0))) .asg⟩])) [0, 1] []
  (.seq (.seq (.reg (.seq [⟨some (6, false), none, .mov (.tmp 0 true) .peek⟩,⟨some (7, true), none, .lenL (.tmp 6 false)⟩,⟨some (8, true), none, .mov (.cst (.int .i64 0) (.lit (.int .i64 0))) .peek⟩])) [0, 1, 7, 8] []
  (.block 0 (.loop [0, 1, 7, 8] [] gidxf_l0))) [] [] gidxf_k1),
  [.tmp 4]⟩
theorem gidxf_comp (m : Int) : compF Tryd.prog (gl m) [] Tryd.f135 = some gidxf := by kernel_rfl
def gconf : AF := ⟨.seq (.reg (.seq [⟨some (4, true), none, .mov (.cst (.bool false) (.lit (.bool false))) .asg⟩])) [0, 1] []
  (.seq (.reg (.seq [⟨some (5, false), none, .mov (.tmp 0 true) .peek⟩,⟨some (6, false), none, .mov (.tmp 1 true) .peek⟩,⟨some (7, false), none, .call 135 [.tmp 5 false, .tmp 6 false]⟩,⟨some (8, false), none, .bin .geq (.tmp 7 false) (.cst (.int .i64 0) (.lit (.int .i64 0)))⟩,⟨some (4, true), none, .mov (.tmp 8 false) .asg⟩])) [4] []
  (.ret)),
  [.tmp 4]⟩
theorem gconf_comp (m : Int) : compF Tryd.prog (gl m) [] Tryd.f115 = some gconf := by kernel_rfl
def gis : AF := ⟨.seq (.reg (.seq [⟨some (2, true), none, .mov (.cst (.bool false) (.lit (.bool false))) .asg⟩])) [0] []
  (.seq (.reg (.seq [⟨some (3, false), none, .mov (.tmp 0 true) .peek⟩,⟨some (4, false), none, .len (.tmp 3 false)⟩,⟨some (5, false), none, .bin .geq (.tmp 4 false) (.cst (.int .i64 1) (.lit (.int .i64 1)))⟩,⟨some (6, false), none, .mov (.tmp 5 false) .peek⟩,⟨some (7, false), (some (6, true)), .mov (.tmp 0 true) .peek⟩,⟨some (8, false), (some (6, true)), .len (.tmp 7 false)⟩,⟨some (9, false), (some (6, true)), .bin .leq (.tmp 8 false) (.cst (.int .i64 255) (.lit (.int .i64 255)))⟩,⟨some (10, false), none, .pick (.tmp 6 false) (.tmp 9 false) (.cst (.bool false) (.lit (.bool false)))⟩,⟨some (11, false), none, .mov (.tmp 10 false) .peek⟩,⟨some (12, false), (some (11, true)), .mov (.tmp 0 true) .peek⟩,⟨some (13, false), (some (11, true)), .call 101 [.tmp 12 false, (.cst (.string (str [47])) (.lit (.string (str [47]))))]⟩,⟨some (14, false), (some (11, true)), .call 115 [.tmp 13 false, (.cst (.func (.func 116) #[] #[]) (.lit (.func (.func 116) #[] #[])))]⟩,⟨some (15, false), (some (11, true)), .un .not (.tmp 14 false)⟩,⟨some (16, false), none, .pick (.tmp 11 false) (.tmp 15 false) (.cst (.bool false) (.lit (.bool false)))⟩,⟨some (2, true), none, .mov (.tmp 16 false) .asg⟩])) [2] []
  (.ret)),
  [.tmp 2]⟩
theorem gis_comp (m : Int) : compF Tryd.prog (gl m) [] Tryd.f89 = some gis := by kernel_rfl
def gstep : AF := ⟨.seq (.reg (.seq [⟨some (6, true), none, .mov (.cst (.bool false) (.lit (.bool false))) .asg⟩,⟨some (7, true), none, .mov (.cst (.int .i64 0) (.lit (.int .i64 0))) .asg⟩])) [0, 1, 2] []
  (.seq (.seq (.reg (.seq [⟨some (8, false), none, .mov (.tmp 0 true) .peek⟩,⟨some (9, false), none, .mov (.tmp 1 true) .peek⟩,⟨some (10, true), none, .idx (.tmp 8 false) (.tmp 9 false)⟩])) [0, 1, 2, 10] []
  (.block 0 (.seq (.reg (.seq [⟨some (12, false), none, .bin .eql (.tmp 10 true) (.cst (.int .u8 63) (.lit (.int .u8 63)))⟩,⟨some (11, false), none, .mov (.tmp 12 false) .asg⟩])) [0, 1, 2, 10, 11] []
    (.cond (.tmp 11 false)
      (.seq (.reg (.seq [⟨some (13, false), none, .mov (.tmp 1 true) .peek⟩,⟨some (14, false), none, .bin .add (.tmp 13 false) (.cst (.int .i64 1) (.lit (.int .i64 1)))⟩,⟨some (6, true), none, .mov (.cst (.bool true) (.lit (.bool true))) .asg⟩,⟨some (7, true), none, .mov (.tmp 14 false) .asg⟩])) [6, 7] []
      (.ret))
      (.seq (.reg (.seq [⟨some (16, false), none, .bin .eql (.tmp 10 true) (.cst (.int .u8 91) (.lit (.int .u8 91)))⟩,⟨some (15, false), none, .mov (.tmp 16 false) .asg⟩])) [0, 1, 2, 10, 15] []
      (.cond (.tmp 15 false)
        (.seq (.reg (.seq [⟨some (17, false), none, .mov (.tmp 0 true) .peek⟩,⟨some (18, false), none, .mov (.tmp 1 true) .peek⟩,⟨some (19, false), none, .bin .add (.tmp 18 false) (.cst (.int .i64 1) (.lit (.int .i64 1)))⟩,⟨some (20, false), none, .mov (.tmp 2 true) .peek⟩,⟨some (21, false), none, .call 136 [.tmp 17 false, .tmp 19 false, .tmp 20 false]⟩,⟨some (22, false), none, .ext (.tmp 21 false) 0⟩,⟨some (23, false), none, .ext (.tmp 21 false) 1⟩,⟨some (6, true), none, .mov (.tmp 22 false) .asg⟩,⟨some (7, true), none, .mov (.tmp 23 false) .asg⟩])) [6, 7] []
        (.ret))
        (.seq (.reg (.seq [⟨some (25, false), none, .bin .eql (.tmp 10 true) (.cst (.int .u8 92) (.lit (.int .u8 92)))⟩,⟨some (24, false), none, .mov (.tmp 25 false) .asg⟩])) [0, 1, 2, 24] []
        (.cond (.tmp 24 false)
          (.seq (.reg (.seq [⟨some (26, false), none, .mov (.tmp 0 true) .peek⟩,⟨some (27, false), none, .mov (.tmp 1 true) .peek⟩,⟨some (28, false), none, .bin .add (.tmp 27 false) (.cst (.int .i64 1) (.lit (.int .i64 1)))⟩,⟨some (29, false), none, .idx (.tmp 26 false) (.tmp 28 false)⟩,⟨some (30, false), none, .mov (.tmp 2 true) .peek⟩,⟨some (31, false), none, .bin .eql (.tmp 29 false) (.tmp 30 false)⟩,⟨some (32, false), none, .mov (.tmp 1 true) .peek⟩,⟨some (33, false), none, .bin .add (.tmp 32 false) (.cst (.int .i64 2) (.lit (.int .i64 2)))⟩,⟨some (6, true), none, .mov (.tmp 31 false) .asg⟩,⟨some (7, true), none, .mov (.tmp 33 false) .asg⟩])) [6, 7] []
          (.ret))
          (.skip))))))))) [0, 1, 2] []
  (.seq (.reg (.seq [⟨some (34, false), none, .mov (.tmp 0 true) .peek⟩,⟨some (35, false), none, .mov (.tmp 1 true) .peek⟩,⟨some (36, false), none, .idx (.tmp 34 false) (.tmp 35 false)⟩,⟨some (37, false), none, .mov (.tmp 2 true) .peek⟩,⟨some (38, false), none, .bin .eql (.tmp 36 false) (.tmp 37 false)⟩,⟨some (39, false), none, .mov (.tmp 1 true) .peek⟩,⟨some (40, false), none, .bin .add (.tmp 39 false) (.cst (.int .i64 1) (.lit (.int .i64 1)))⟩,⟨some (6, true), none, .mov (.tmp 38 false) .asg⟩,⟨some (7, true), none, .mov (.tmp 40 false) .asg⟩])) [6, 7] []
  (.ret))),
  [.tmp 6, .tmp 7]⟩
theorem gstep_comp (m : Int) : compF Tryd.prog (gl m) [] Tryd.f127 = some gstep := by kernel_rfl
def gpart_l0' : AC := .block 1 (.seq (.block 2 (.seq (.reg (.seq [⟨some (12, false), none, .mov (.tmp 5 true) .peek⟩,⟨some (13, false), none, .mov (.tmp 0 true) .peek⟩,⟨some (14, false), none, .len (.tmp 13 false)⟩,⟨some (15, false), none, .bin .lss (.tmp 12 false) (.tmp 14 false)⟩,⟨some (16, false), none, .mov (.tmp 15 false) .peek⟩,⟨some (17, false), (some (16, true)), .mov (.tmp 0 true) .peek⟩,⟨some (18, false), (some (16, true)), .mov (.tmp 5 true) .peek⟩,⟨some (19, false), (some (16, true)), .idx (.tmp 17 false) (.tmp 18 false)⟩,⟨some (20, false), (some (16, true)), .bin .eql (.tmp 19 false) (.cst (.int .u8 42) (.lit (.int .u8 42)))⟩,⟨some (21, false), none, .pick (.tmp 16 false) (.tmp 20 false) (.cst (.bool false) (.lit (.bool false)))⟩,⟨some (11, false), none, .mov (.tmp 21 false) .asg⟩])) [0, 1, 5, 6, 7, 8, 11] []
      (.cond (.tmp 11 false)
        (.seq (.reg (.seq [⟨some (22, false), none, .mov (.tmp 5 true) .peek⟩,⟨some (23, false), none, .bin .add (.tmp 22 false) (.cst (.int .i64 1) (.lit (.int .i64 1)))⟩,⟨some (5, true), none, .mov (.tmp 23 false) .asg⟩])) [0, 1, 5, 6] []
        (.seq (.reg (.seq [⟨some (24, false), none, .mov (.tmp 5 true) .take⟩,⟨some (25, false), none, .mov (.tmp 6 true) .take⟩,⟨some (7, true), none, .mov (.tmp 24 false) .asg⟩,⟨some (8, true), none, .mov (.tmp 25 false) .asg⟩])) [0, 1, 5, 6, 7, 8] []
        (.exit 1)))
        (.seq (.reg (.seq [⟨some (27, false), none, .mov (.tmp 5 true) .peek⟩,⟨some (28, false), none, .mov (.tmp 0 true) .peek⟩,⟨some (29, false), none, .len (.tmp 28 false)⟩,⟨some (30, false), none, .bin .eql (.tmp 27 false) (.tmp 29 false)⟩,⟨some (31, false), none, .mov (.tmp 30 false) .peek⟩,⟨some (32, false), (some (31, true)), .mov (.tmp 6 true) .peek⟩,⟨some (33, false), (some (31, true)), .mov (.tmp 1 true) .peek⟩,⟨some (34, false), (some (31, true)), .len (.tmp 33 false)⟩,⟨some (35, false), (some (31, true)), .bin .eql (.tmp 32 false) (.tmp 34 false)⟩,⟨some (36, false), none, .pick (.tmp 31 false) (.tmp 35 false) (.cst (.bool false) (.lit (.bool false)))⟩,⟨some (26, false), none, .mov (.tmp 36 false) .asg⟩])) [0, 1, 5, 6, 7, 8, 26] []
        (.cond (.tmp 26 false)
          (.seq (.reg (.seq [⟨some (4, true), none, .mov (.cst (.bool true) (.lit (.bool true))) .asg⟩])) [4] []
          (.ret))
          (.seq (.reg (.seq [⟨some (38, false), none, .mov (.tmp 5 true) .peek⟩,⟨some (39, false), none, .mov (.tmp 0 true) .peek⟩,⟨some (40, false), none, .len (.tmp 39 false)⟩,⟨some (41, false), none, .bin .lss (.tmp 38 false) (.tmp 40 false)⟩,⟨some (42, false), none, .mov (.tmp 41 false) .peek⟩,⟨some (43, false), (some (42, true)), .mov (.tmp 6 true) .peek⟩,⟨some (44, false), (some (42, true)), .mov (.tmp 1 true) .peek⟩,⟨some (45, false), (some (42, true)), .len (.tmp 44 false)⟩,⟨some (46, false), (some (42, true)), .bin .lss (.tmp 43 false) (.tmp 45 false)⟩,⟨some (47, false), none, .pick (.tmp 42 false) (.tmp 46 false) (.cst (.bool false) (.lit (.bool false)))⟩,⟨some (37, false), none, .mov (.tmp 47 false) .asg⟩])) [0, 1, 5, 6, 7, 8, 37] []
          (.cond (.tmp 37 false)
            (.seq (.reg (.seq [⟨some (49, false), none, .mov (.tmp 0 true) .peek⟩,⟨some (50, false), none, .mov (.tmp 5 true) .peek⟩,⟨some (51, false), none, .mov (.tmp 1 true) .peek⟩,⟨some (52, false), none, .mov (.tmp 6 true) .peek⟩,⟨some (53, false), none, .idx (.tmp 51 false) (.tmp 52 false)⟩,⟨some (54, false), none, .call 127 [.tmp 49 false, .tmp 50 false, .tmp 53 false]⟩,⟨some (48, false), none, .mov (.tmp 54 false) .peek⟩,⟨some (55, false), none, .ext (.tmp 48 false) 0⟩,⟨some (56, false), none, .ext (.tmp 48 false) 1⟩,⟨some (9, true), none, .mov (.tmp 55 false) .asg⟩,⟨some (10, true), none, .mov (.tmp 56 false) .asg⟩])) [0, 1, 6, 7, 8, 9, 10] []
            (.seq (.reg (.seq [⟨some (57, false), none, .mov (.tmp 9 true) .peek⟩])) [0, 1, 6, 7, 8, 10, 57] []
            (.cond (.tmp 57 false)
              (.seq (.reg (.seq [⟨some (58, false), none, .mov (.tmp 10 true) .take⟩,⟨some (59, false), none, .mov (.tmp 6 true) .peek⟩,⟨some (60, false), none, .bin .add (.tmp 59 false) (.cst (.int .i64 1) (.lit (.int .i64 1)))⟩,⟨some (5, true), none, .mov (.tmp 58 false) .asg⟩,⟨some (6, true), none, .mov (.tmp 60 false) .asg⟩])) [0, 1, 5, 6, 7, 8] []
              (.exit 1))
              (.skip))))
            (.skip)))))))) [0, 1, 7, 8] []
    (.seq (.seq (.reg (.seq [⟨some (61, false), none, .mov (.tmp 7 true) .peek⟩,⟨some (62, false), none, .bin .lss (.tmp 61 false) (.cst (.int .i64 0) (.lit (.int .i64 0)))⟩,⟨some (63, false), none, .mov (.tmp 62 false) .peek⟩,⟨some (64, false), (some (63, false)), .mov (.tmp 8 true) .peek⟩,⟨some (65, false), (some (63, false)), .mov (.tmp 1 true) .peek⟩,⟨some (66, false), (some (63, false)), .len (.tmp 65 false)⟩,⟨some (67, false), (some (63, false)), .bin .geq (.tmp 64 false) (.tmp 66 false)⟩,⟨some (68, false), none, .pick (.tmp 63 false) (.cst (.bool true) (.lit (.bool true))) (.tmp 67 false)⟩])) [0, 1, 7, 8, 68] []
    (.cond (.tmp 68 false)
      (.seq (.reg (.seq [⟨some (4, true), none, .mov (.cst (.bool false) (.lit (.bool false))) .asg⟩])) [4] []
      (.ret))
      (.skip))) [0, 1, 7, 8] []
    (.seq (.reg (.seq [⟨some (69, false), none, .mov (.tmp 8 true) .peek⟩,⟨some (70, false), none, .bin .add (.tmp 69 false) (.cst (.int .i64 1) (.lit (.int .i64 1)))⟩,⟨some (8, true), none, .mov (.tmp 70 false) .asg⟩])) [0, 1, 7, 8] []
    (.reg (.seq [⟨some (71, false), none, .mov (.tmp 7 true) .take⟩,⟨some (72, false), none, .mov (.tmp 8 true) .take⟩,⟨some (5, true), none, .mov (.tmp 71 false) .asg⟩,⟨some (6, true), none, .mov (.tmp 72 false) .asg⟩])))))
def gpart_l0 : AC := gpart_l0'
theorem gpart_l0_w (C : Kn) (K : Ex → St → Prop) (s : St) : vcC C gpart_l0 K s = vcC C gpart_l0' K s := nr rfl
def gpart : AF := ⟨.seq (.reg (.seq [⟨some (4, true), none, .mov (.cst (.bool false) (.lit (.bool false))) .asg⟩])) [0, 1] []
  (.seq (.reg (.seq [⟨some (5, true), none, .mov (.cst (.int .i64 0) (.lit (.int .i64 0))) .asg⟩,⟨some (6, true), none, .mov (.cst (.int .i64 0) (.lit (.int .i64 0))) .asg⟩])) [0, 1, 5, 6] []
  (.seq (.reg (.seq [⟨some (7, true), none, .mov (.cst (.int .i64 (-1)) (.lit (.int .i64 (-1)))) .asg⟩,⟨some (8, true), none, .mov (.cst (.int .i64 0) (.lit (.int .i64 0))) .asg⟩])) [0, 1, 5, 6, 7, 8] []
  (.seq (.skip) [0, 1, 5, 6, 7, 8] []
  (.block 0 (.loop [0, 1, 5, 6, 7, 8] [] gpart_l0))))),
  [.tmp 4]⟩
theorem gpart_comp (m : Int) : compF Tryd.prog (gl m) [] Tryd.f103 = some gpart := by kernel_rfl
theorem ggood_loop (p : Ln.Bs) (hp : p.length ≤ 1048576) (n : Nat) : ∀ (i : Nat) (hn : p.length - i ≤ n) (hi : i ≤ p.length),
    vcL (kn m) [0, 3] [] ggood_l0 (blockK 0 (seqK (kn m) [0] [] ggood_k1 (outOk [.tmp 2] (B (decide (p ≠ []) && (toks (p.drop i)).isSome))))) (mkS [(0, S p), (3, N i)] []) := by
  induction n with
  | zero =>
    intro i hn hi
    apply round
    simp only [ggood_l0_w, ggood_l0', go_sem, reduceCtorEq, Nat.reduceEqDiff, reduceIte, Nat.reduceAdd, Nat.reduceSub, Nat.reduceLeDiff, Int.reduceToNat, Nat.reduceBEq]
    rw [lt_f (by omega)]
    simp only [ggood_k1_w, ggood_k1', go_sem, reduceCtorEq, Nat.reduceEqDiff, reduceIte, Nat.reduceAdd, Nat.reduceSub, Nat.reduceLeDiff, Int.reduceToNat, Nat.reduceBEq]
    rw [toks_end (by omega)]
    rw [show (!p == []) = decide (p ≠ []) by by_cases h : p = [] <;> simp [h]]
    simp only [Option.isSome_some, Bool.and_true]
  | succ n ih =>
    intro i hn hi
    by_cases h : i < p.length
    · have hw1 : IntKind.i64.wrap ((i : Int) + 1) = ((i + 1 : Nat) : Int) := wrapN (i + 1) (by omega) (by omega)
      have hw2 : IntKind.i64.wrap ((i : Int) + 2) = ((i + 2 : Nat) : Int) := wrapN (i + 2) (by omega) (by omega)
      have hta := toks_at h
      apply round
      simp only [ggood_l0_w, ggood_l0', go_sem, reduceCtorEq, Nat.reduceEqDiff, reduceIte, Nat.reduceAdd, Nat.reduceSub, Nat.reduceLeDiff, Int.reduceToNat, Nat.reduceBEq]
      rw [lt_t h]
      simp only [getE h, go_sem, reduceCtorEq, Nat.reduceEqDiff, reduceIte, Nat.reduceAdd, Nat.reduceSub, Nat.reduceLeDiff, Int.reduceToNat, Nat.reduceBEq]
      refine ⟨by omega, ?_⟩
      by_cases h92 : p[i] = 92
      · rw [u8b_t (n := 92) h92 rfl]
        simp only [hw1, hw2, go_sem, reduceCtorEq, Nat.reduceEqDiff, reduceIte, Nat.reduceAdd, Nat.reduceSub, Nat.reduceLeDiff, Int.reduceToNat, Nat.reduceBEq]
        rw [tok_esc h h92] at hta
        by_cases h2 : i + 1 < p.length
        · rw [dif_pos h2] at hta
          simp only at hta
          rw [eq_f (by omega), hta]
          simp only [hw2, Option.isSome_map, go_sem, reduceCtorEq, Nat.reduceEqDiff, reduceIte, Nat.reduceAdd, Nat.reduceSub, Nat.reduceLeDiff, Int.reduceToNat, Nat.reduceBEq]
          exact ih (i + 2) (by omega) (by omega)
        · rw [dif_neg h2] at hta
          simp only at hta
          rw [eq_t (by omega), hta]
          simp only [Option.isSome_none, Bool.and_false, go_sem, reduceCtorEq, Nat.reduceEqDiff, reduceIte, Nat.reduceAdd, Nat.reduceSub, Nat.reduceLeDiff, Int.reduceToNat, Nat.reduceBEq]
      · rw [u8b_f (n := 92) h92 rfl]
        simp only [go_sem, reduceCtorEq, Nat.reduceEqDiff, reduceIte, Nat.reduceAdd, Nat.reduceSub, Nat.reduceLeDiff, Int.reduceToNat, Nat.reduceBEq]
        by_cases h91 : p[i] = 91
        · rw [u8b_t (n := 91) h91 rfl]
          simp only [hw1, go_sem, reduceCtorEq, Nat.reduceEqDiff, reduceIte, Nat.reduceAdd, Nat.reduceSub, Nat.reduceLeDiff, Int.reduceToNat, Nat.reduceBEq]
          have hc := gclass_snd (m := m) p hp (i + 1) (by omega) 0
          have htc := tok_cls h h91
          cases hcl : clsL (p.drop (i + 1)) with
          | none =>
            rw [hcl] at hc htc
            rw [htc] at hta
            refine of_call hc ?_
            simp only [Option.map_none] at hta
            rw [hta]
            simp only [Option.isSome_none, Bool.and_false, go_sem, reduceCtorEq, Nat.reduceEqDiff, reduceIte, Nat.reduceAdd, Nat.reduceSub, Nat.reduceLeDiff, Int.reduceToNat, Nat.reduceBEq]
            rw [ilt_t (by omega)]
            simp only [go_sem, reduceCtorEq, Nat.reduceEqDiff, reduceIte, Nat.reduceAdd, Nat.reduceSub, Nat.reduceLeDiff, Int.reduceToNat, Nat.reduceBEq]
          | some x =>
            rw [hcl] at hc htc
            simp only [Option.map_some] at htc
            have hr := tok_rest htc
            rw [htc] at hta
            simp only at hta
            refine of_call hc ?_
            simp only [go_sem, reduceCtorEq, Nat.reduceEqDiff, reduceIte, Nat.reduceAdd, Nat.reduceSub, Nat.reduceLeDiff, Int.reduceToNat, Nat.reduceBEq]
            rw [ilt_f (by omega), hta]
            simp only [Option.isSome_map, go_sem, reduceCtorEq, Nat.reduceEqDiff, reduceIte, Nat.reduceAdd, Nat.reduceSub, Nat.reduceLeDiff, Int.reduceToNat, Nat.reduceBEq]
            have := ih (p.length - x.2.2.length) (by omega) (by omega)
            rw [← hr.1] at this
            exact this
        · rw [u8b_f (n := 91) h91 rfl]
          simp only [hw1, go_sem, reduceCtorEq, Nat.reduceEqDiff, reduceIte, Nat.reduceAdd, Nat.reduceSub, Nat.reduceLeDiff, Int.reduceToNat, Nat.reduceBEq]
          rw [tok_else h h92 h91] at hta
          simp only at hta
          rw [hta, Option.isSome_map]
          exact ih (i + 1) (by omega) (by omega)
    · apply round
      simp only [ggood_l0_w, ggood_l0', go_sem, reduceCtorEq, Nat.reduceEqDiff, reduceIte, Nat.reduceAdd, Nat.reduceSub, Nat.reduceLeDiff, Int.reduceToNat, Nat.reduceBEq]
      rw [lt_f (by omega)]
      simp only [ggood_k1_w, ggood_k1', go_sem, reduceCtorEq, Nat.reduceEqDiff, reduceIte, Nat.reduceAdd, Nat.reduceSub, Nat.reduceLeDiff, Int.reduceToNat, Nat.reduceBEq]
      rw [toks_end (by omega)]
      rw [show (!p == []) = decide (p ≠ []) by by_cases h : p = [] <;> simp [h]]
      simp only [Option.isSome_some, Bool.and_true]
theorem ggood_snd (p : Ln.Bs) (hp : p.length ≤ 1048576) : Snd Tryd.prog (gl m) 117 [S p] (B (good p)) := by
  refine snd_of (fn := Tryd.f117) (af := ggood) Tryd.func117 (ggood_comp m) mixed (kn_ok m) (Nat.le_of_ble_eq_true rfl) ?_
  simp only [ggood, go_sem, reduceCtorEq, Nat.reduceEqDiff, reduceIte, Nat.reduceAdd, Nat.reduceSub, Nat.reduceLeDiff, Int.reduceToNat, Nat.reduceBEq]
  exact ggood_loop p hp _ 0 (Nat.le_refl _) (by omega)
theorem gbad_snd (p : Ln.Bs) (hp : p.length ≤ 1048576) : Snd Tryd.prog (gl m) 116 [S p] (B (!good p)) := by
  refine snd_of (fn := Tryd.f116) (af := gbad) Tryd.func116 (gbad_comp m) mixed (kn_ok m) (Nat.le_of_ble_eq_true rfl) ?_
  simp only [gbad, go_sem, reduceCtorEq, Nat.reduceEqDiff, reduceIte, Nat.reduceAdd, Nat.reduceSub, Nat.reduceLeDiff, Int.reduceToNat, Nat.reduceBEq]
  refine of_call (ggood_snd p hp) ?_
  simp only [unVal, go_sem, reduceCtorEq, Nat.reduceEqDiff, reduceIte, Nat.reduceAdd, Nat.reduceSub, Nat.reduceLeDiff, Int.reduceToNat, Nat.reduceBEq]
def fbad : List Ln.Bs → Nat → Int
  | [], _ => -1
  | x :: r, i => if good x then fbad r (i + 1) else (i : Int)
theorem kn_v63 : (kn m).v 116 := ⟨Tryd.f116, Tryd.func116, rfl, by decide⟩
abbrev F63 : AV := .lit (.func (.func 116) #[] #[])
theorem gidxf_loop (L : List Ln.Bs) (hL : L.length ≤ 1048576) (hb : ∀ l, l ∈ L → l.length ≤ 1048576) (n : Nat) : ∀ (i : Nat) (hn : L.length - i = n) (hi : i ≤ L.length),
    vcL (kn m) [0, 1, 7, 8] [] gidxf_l0 (blockK 0 (seqK (kn m) [] [] gidxf_k1 (outOk [.tmp 4] (I (fbad (L.drop i) i))))) (mkS [(0, .sl .frn 1 (ss L)), (1, F63), (7, N L.length), (8, N i)] []) := by
  induction n with
  | zero =>
    intro i hn hi
    apply round
    simp only [gidxf_l0_w, gidxf_l0', go_sem, reduceCtorEq, Nat.reduceEqDiff, reduceIte, Nat.reduceAdd, Nat.reduceSub, Nat.reduceLeDiff, Int.reduceToNat, Nat.reduceBEq]
    rw [lt_f (by omega), List.drop_of_length_le (by omega)]
    simp only [gidxf_k1_w, gidxf_k1', fbad, go_sem, reduceCtorEq, Nat.reduceEqDiff, reduceIte, Nat.reduceAdd, Nat.reduceSub, Nat.reduceLeDiff, Int.reduceToNat, Nat.reduceBEq]
  | succ n ih =>
    intro i hn hi
    have hil : i < L.length := by omega
    have hlb := hb _ (List.getElem_mem hil)
    have hw : IntKind.i64.wrap ((i : Int) + 1) = ((i + 1 : Nat) : Int) := wrapN (i + 1) (by omega) (by omega)
    rw [List.drop_eq_getElem_cons hil, fbad]
    apply round
    simp only [gidxf_l0_w, gidxf_l0', go_sem, reduceCtorEq, Nat.reduceEqDiff, reduceIte, Nat.reduceAdd, Nat.reduceSub, Nat.reduceLeDiff, Int.reduceToNat, Nat.reduceBEq]
    rw [lt_t hil]
    simp only [ssE L hil, go_sem, reduceCtorEq, Nat.reduceEqDiff, reduceIte, Nat.reduceAdd, Nat.reduceSub, Nat.reduceLeDiff, Int.reduceToNat, Nat.reduceBEq]
    repeat (refine ⟨by (try simp only [List.length_append, List.length_cons, List.length_nil, List.length_drop, List.length_take]); omega, ?_⟩)
    refine ⟨kn_v63, ?_⟩
    refine of_call (gbad_snd L[i] (by omega)) ?_
    simp only [go_sem, reduceCtorEq, Nat.reduceEqDiff, reduceIte, Nat.reduceAdd, Nat.reduceSub, Nat.reduceLeDiff, Int.reduceToNat, Nat.reduceBEq]
    cases hg : good L[i] with
    | true =>
      simp only [hw, go_sem, reduceCtorEq, Nat.reduceEqDiff, reduceIte, Nat.reduceAdd, Nat.reduceSub, Nat.reduceLeDiff, Int.reduceToNat, Nat.reduceBEq]
      exact ih (i + 1) (by omega) (by omega)
    | false =>
      simp only [go_sem, reduceCtorEq, Nat.reduceEqDiff, reduceIte, Nat.reduceAdd, Nat.reduceSub, Nat.reduceLeDiff, Int.reduceToNat, Nat.reduceBEq]
theorem gidxf_snd (L : List Ln.Bs) (hL : L.length ≤ 1048576) (hb : ∀ l, l ∈ L → l.length ≤ 1048576) : Snd Tryd.prog (gl m) 135 [.sl .frn 1 (ss L), F63] (I (fbad L 0)) := by
  refine snd_of (fn := Tryd.f135) (af := gidxf) Tryd.func135 (gidxf_comp m) mixed (kn_ok m) (Nat.le_of_ble_eq_true rfl) ?_
  simp only [gidxf, go_sem, reduceCtorEq, Nat.reduceEqDiff, reduceIte, Nat.reduceAdd, Nat.reduceSub, Nat.reduceLeDiff, Int.reduceToNat, Nat.reduceBEq]
  exact gidxf_loop L hL hb _ 0 rfl (by omega)
theorem fbad_iff (L : List Ln.Bs) : ∀ i : Nat, 0 ≤ fbad L i ↔ L.all good = false := by
  induction L with
  | nil => intro i; simp [fbad]
  | cons x L ih =>
    intro i
    simp only [fbad, List.all_cons]
    by_cases hg : good x = true
    · rw [if_pos hg, ih (i + 1), hg, Bool.true_and]
    · have e : good x = false := Bool.eq_false_iff.2 hg
      rw [if_neg hg, e]
      constructor
      · intro _; rfl
      · intro _; omega
theorem fbad_ge (L : List Ln.Bs) (i : Nat) : decide (fbad L i ≥ 0) = !L.all good := by
  rw [Bool.eq_iff_iff, decide_eq_true_iff, Bool.not_eq_true', ← fbad_iff L i]
theorem beqN (a b : UInt8) : ((a.toNat : Int) == (b.toNat : Int)) = (a == b) := by
  by_cases h : a = b
  · subst h; simp
  · rw [u8b_f (d := b) h rfl]; simp [h]
theorem gconf_snd (L : List Ln.Bs) (hL : L.length ≤ 1048576) (hb : ∀ l, l ∈ L → l.length ≤ 1048576) : Snd Tryd.prog (gl m) 115 [.sl .frn 1 (ss L), F63] (B (!L.all good)) := by
  refine snd_of (fn := Tryd.f115) (af := gconf) Tryd.func115 (gconf_comp m) mixed (kn_ok m) (Nat.le_of_ble_eq_true rfl) ?_
  simp only [gconf, go_sem, reduceCtorEq, Nat.reduceEqDiff, reduceIte, Nat.reduceAdd, Nat.reduceSub, Nat.reduceLeDiff, Int.reduceToNat, Nat.reduceBEq]
  refine of_call (gidxf_snd L hL hb) ?_
  simp only [go_sem, reduceCtorEq, Nat.reduceEqDiff, reduceIte, Nat.reduceAdd, Nat.reduceSub, Nat.reduceLeDiff, Int.reduceToNat, Nat.reduceBEq]
  rw [fbad_ge]
theorem gis_snd (p : Ln.Bs) (hp : p.length ≤ 1048576) : Snd Tryd.prog (gl m) 89 [S p] (B (isPat p)) := by
  refine snd_of (fn := Tryd.f89) (af := gis) Tryd.func89 (gis_comp m) mixed (kn_ok m) (Nat.le_of_ble_eq_true rfl) ?_
  simp only [gis, go_sem, reduceCtorEq, Nat.reduceEqDiff, reduceIte, Nat.reduceAdd, Nat.reduceSub, Nat.reduceLeDiff, Int.reduceToNat, Nat.reduceBEq]
  have hpl := pieces_len p
  unfold isPat
  by_cases h1 : 1 ≤ p.length
  · rw [ige_t (by omega), decide_eq_true h1]
    simp only [go_sem, reduceCtorEq, Nat.reduceEqDiff, reduceIte, Nat.reduceAdd, Nat.reduceSub, Nat.reduceLeDiff, Int.reduceToNat, Nat.reduceBEq]
    by_cases h2 : p.length ≤ 255
    · rw [ile_t (by omega), decide_eq_true h2]
      simp only [go_sem, reduceCtorEq, Nat.reduceEqDiff, reduceIte, Nat.reduceAdd, Nat.reduceSub, Nat.reduceLeDiff, Int.reduceToNat, Nat.reduceBEq]
      refine of_call (split_snd p hp) ?_
      simp only [go_sem, reduceCtorEq, Nat.reduceEqDiff, reduceIte, Nat.reduceAdd, Nat.reduceSub, Nat.reduceLeDiff, Int.reduceToNat, Nat.reduceBEq]
      refine of_call (gconf_snd (pieces p) (by omega) (fun l hl => by have := piece_len hl; omega)) ?_
      simp only [unVal, Bool.not_not, go_sem, reduceCtorEq, Nat.reduceEqDiff, reduceIte, Nat.reduceAdd, Nat.reduceSub, Nat.reduceLeDiff, Int.reduceToNat, Nat.reduceBEq]
    · rw [ile_f (by omega), decide_eq_false h2]
      simp only [Bool.and_false, Bool.false_and, go_sem, reduceCtorEq, Nat.reduceEqDiff, reduceIte, Nat.reduceAdd, Nat.reduceSub, Nat.reduceLeDiff, Int.reduceToNat, Nat.reduceBEq]
  · rw [ige_f (by omega), decide_eq_false h1]
    simp only [Bool.false_and, go_sem, reduceCtorEq, Nat.reduceEqDiff, reduceIte, Nat.reduceAdd, Nat.reduceSub, Nat.reduceLeDiff, Int.reduceToNat, Nat.reduceBEq]
theorem gstep_snd (p : Ln.Bs) (hp : p.length ≤ 1048576) (i : Nat) (h : i < p.length) (c : UInt8) (t : Tok) (R : Ln.Bs) (ht : tok (p.drop i) = some (t, R)) (hs : t ≠ .star) :
    Snd Tryd.prog (gl m) 127 [S p, N i, U8 c] (.tup [B (fits t c), N (p.length - R.length)]) := by
  have hw1 : IntKind.i64.wrap ((i : Int) + 1) = ((i + 1 : Nat) : Int) := wrapN (i + 1) (by omega) (by omega)
  have hw2 : IntKind.i64.wrap ((i : Int) + 2) = ((i + 2 : Nat) : Int) := wrapN (i + 2) (by omega) (by omega)
  have hr := tok_rest ht
  refine snd_of (fn := Tryd.f127) (af := gstep) Tryd.func127 (gstep_comp m) mixed (kn_ok m) (Nat.le_of_ble_eq_true rfl) ?_
  simp only [gstep, getE h, go_sem, reduceCtorEq, Nat.reduceEqDiff, reduceIte, Nat.reduceAdd, Nat.reduceSub, Nat.reduceLeDiff, Int.reduceToNat, Nat.reduceBEq]
  refine ⟨by omega, ?_⟩
  by_cases h92 : p[i] = 92
  · have h63 : p[i] ≠ 63 := by rw [h92]; decide
    have h91 : p[i] ≠ 91 := by rw [h92]; decide
    rw [tok_esc h h92] at ht
    by_cases h2 : i + 1 < p.length
    · rw [dif_pos h2] at ht
      injection ht with ht; injection ht with ht ht2; subst ht; subst ht2
      rw [u8b_f (n := 63) h63 rfl]
      simp only [go_sem, reduceCtorEq, Nat.reduceEqDiff, reduceIte, Nat.reduceAdd, Nat.reduceSub, Nat.reduceLeDiff, Int.reduceToNat, Nat.reduceBEq]
      rw [u8b_f (n := 91) h91 rfl]
      simp only [go_sem, reduceCtorEq, Nat.reduceEqDiff, reduceIte, Nat.reduceAdd, Nat.reduceSub, Nat.reduceLeDiff, Int.reduceToNat, Nat.reduceBEq]
      rw [u8b_t (n := 92) h92 rfl]
      simp only [hw1, hw2, getE h2, go_sem, reduceCtorEq, Nat.reduceEqDiff, reduceIte, Nat.reduceAdd, Nat.reduceSub, Nat.reduceLeDiff, Int.reduceToNat, Nat.reduceBEq]
      refine ⟨by omega, ?_⟩
      rw [beqN, List.length_drop, show p.length - (p.length - (i + 2)) = i + 2 by omega]; rfl
    · rw [dif_neg h2] at ht; cases ht
  · by_cases h91 : p[i] = 91
    · have h63 : p[i] ≠ 63 := by rw [h91]; decide
      rw [tok_cls h h91] at ht
      have hc := gclass_snd (m := m) p hp (i + 1) (by omega) c
      cases hcl : clsL (p.drop (i + 1)) with
      | none => rw [hcl] at ht; cases ht
      | some x =>
        rw [hcl] at ht hc
        simp only [Option.map_some, Option.some.injEq, Prod.mk.injEq] at ht
        obtain ⟨ht, hR⟩ := ht
        subst ht; subst hR
        rw [u8b_f (n := 63) h63 rfl]
        simp only [go_sem, reduceCtorEq, Nat.reduceEqDiff, reduceIte, Nat.reduceAdd, Nat.reduceSub, Nat.reduceLeDiff, Int.reduceToNat, Nat.reduceBEq]
        rw [u8b_t (n := 91) h91 rfl]
        simp only [hw1, go_sem, reduceCtorEq, Nat.reduceEqDiff, reduceIte, Nat.reduceAdd, Nat.reduceSub, Nat.reduceLeDiff, Int.reduceToNat, Nat.reduceBEq]
        refine of_call hc ?_
        simp only [go_sem, reduceCtorEq, Nat.reduceEqDiff, reduceIte, Nat.reduceAdd, Nat.reduceSub, Nat.reduceLeDiff, Int.reduceToNat, Nat.reduceBEq]
        rfl
    · rw [tok_else h h92 h91] at ht
      injection ht with ht; injection ht with ht hR; subst hR
      have e : p.length - (p.drop (i + 1)).length = i + 1 := by rw [List.length_drop]; omega
      rw [e]
      by_cases h63 : p[i] = 63
      · rw [if_neg (by rw [h63]; decide), if_pos h63] at ht
        subst ht
        rw [u8b_t (n := 63) h63 rfl]
        simp only [hw1, go_sem, reduceCtorEq, Nat.reduceEqDiff, reduceIte, Nat.reduceAdd, Nat.reduceSub, Nat.reduceLeDiff, Int.reduceToNat, Nat.reduceBEq]
        rfl
      · have h42 : p[i] ≠ 42 := fun e => hs (by rw [if_pos e] at ht; exact ht.symm)
        rw [if_neg h42, if_neg h63] at ht
        subst ht
        rw [u8b_f (n := 63) h63 rfl]
        simp only [go_sem, reduceCtorEq, Nat.reduceEqDiff, reduceIte, Nat.reduceAdd, Nat.reduceSub, Nat.reduceLeDiff, Int.reduceToNat, Nat.reduceBEq]
        rw [u8b_f (n := 91) h91 rfl]
        simp only [go_sem, reduceCtorEq, Nat.reduceEqDiff, reduceIte, Nat.reduceAdd, Nat.reduceSub, Nat.reduceLeDiff, Int.reduceToNat, Nat.reduceBEq]
        rw [u8b_f (n := 92) h92 rfl]
        simp only [hw1, getE h, go_sem, reduceCtorEq, Nat.reduceEqDiff, reduceIte, Nat.reduceAdd, Nat.reduceSub, Nat.reduceLeDiff, Int.reduceToNat, Nat.reduceBEq]
        refine ⟨by omega, ?_⟩
        rw [beqN]; rfl
def frmOf : Option (Nat × Nat) → Nat
  | none => 0
  | some (_, f) => f
def stI : Option (Nat × Nat) → Int
  | none => -1
  | some (q, _) => q
theorem stI_neg (stp : Option (Nat × Nat)) : decide (stI stp < 0) = stp.isNone := by
  cases stp with
  | none => rfl
  | some qf => exact decide_eq_false (by simp only [stI]; omega)
def StandP (p s : Ln.Bs) (R : Bool) (L : List Tok) (k : Nat) : Option (Nat × Nat) → Prop
  | none => Stand s R L k none
  | some (q, f) => ∃ Ls, toks (p.drop q) = some Ls ∧ Stand s R L k (some (Ls, f)) ∧ q ≤ p.length ∧ f ≤ s.length
theorem StandP.le {p s : Ln.Bs} {R : Bool} {L : List Tok} {k : Nat} {stp : Option (Nat × Nat)} (h : StandP p s R L k stp) : k ≤ s.length ∧ frmOf stp ≤ k := by
  cases stp with
  | none => exact ⟨Stand.le h, Nat.zero_le _⟩
  | some qf =>
    obtain ⟨Ls, _, h, _, _⟩ := h
    refine ⟨h.le, ?_⟩
    cases h with
    | star M _ _ _ he _ => simp only [frmOf]; omega
theorem StandP.onStar {p s : Ln.Bs} {R : Bool} {L : List Tok} {k i : Nat} {stp : Option (Nat × Nat)} (h : StandP p s R (.star :: L) k stp) (hL : toks (p.drop i) = some L) (hi : i ≤ p.length) : StandP p s R L k (some (i, k)) := by
  have hk := h.le.1
  cases stp with
  | none => exact ⟨L, hL, Stand.onStar h, hi, hk⟩
  | some qf => obtain ⟨Ls, _, h, _, _⟩ := h; exact ⟨L, hL, Stand.onStar h, hi, hk⟩
theorem StandP.onFit {p s : Ln.Bs} {R : Bool} {t : Tok} {L : List Tok} {k : Nat} {stp : Option (Nat × Nat)} (h : StandP p s R (t :: L) k stp) (ht : t ≠ .star) (hk : k < s.length) (hf : fits t s[k] = true) : StandP p s R L (k + 1) stp := by
  cases stp with
  | none => exact Stand.onFit h ht hk hf
  | some qf => obtain ⟨Ls, h1, h, h2, h3⟩ := h; exact ⟨Ls, h1, Stand.onFit h ht hk hf, h2, h3⟩
theorem StandP.done {p s : Ln.Bs} {R : Bool} {stp : Option (Nat × Nat)} (h : StandP p s R [] s.length stp) : R = true := by
  cases stp with
  | none => exact Stand.done h
  | some qf => obtain ⟨Ls, _, h, _, _⟩ := h; exact Stand.done h
theorem tok_star {p R : Ln.Bs} {i : Nat} {t : Tok} (h : i < p.length) (ht : tok (p.drop i) = some (t, R)) : t = .star ↔ p[i] = 42 := by
  by_cases h92 : p[i] = 92
  · rw [tok_esc h h92] at ht
    split at ht
    · injection ht with ht; injection ht with ht _; rw [← ht, h92]; simp
    · cases ht
  · by_cases h91 : p[i] = 91
    · rw [tok_cls h h91, Option.map_eq_some_iff] at ht
      obtain ⟨x, _, ht⟩ := ht
      injection ht with ht _; rw [← ht, h91]; simp
    · rw [tok_else h h92 h91] at ht
      injection ht with ht; injection ht with ht _
      rw [← ht]
      by_cases h42 : p[i] = 42
      · simp [h42]
      · rw [if_neg h42]; split <;> simp [h42]
theorem gpart_loop (p s : Ln.Bs) (hp : p.length ≤ 1048576) (hs : s.length ≤ 1048576) (R : Bool) (n : Nat) : ∀ (i k : Nat) (stp : Option (Nat × Nat)) (L : List Tok) (hL : toks (p.drop i) = some L) (hS : StandP p s R L k stp)
    (hn : (s.length + 1 - frmOf stp) * (p.length + 2) + (p.length - i) < n) (hi : i ≤ p.length),
    vcL (kn m) [0, 1, 5, 6, 7, 8] [] gpart_l0 (blockK 0 (outOk [.tmp 4] (B R))) (mkS [(0, S p), (1, S s), (5, N i), (6, N k), (7, I (stI stp)), (8, N (frmOf stp))] []) := by
  induction n with
  | zero => intro i k stp L hL hS hn; omega
  | succ n ih =>
    intro i k stp L hL hS hn hi
    obtain ⟨hk, hfk⟩ := hS.le
    have hw1 : IntKind.i64.wrap ((i : Int) + 1) = ((i + 1 : Nat) : Int) := wrapN (i + 1) (by omega) (by omega)
    have hwk : IntKind.i64.wrap ((k : Int) + 1) = ((k + 1 : Nat) : Int) := wrapN (k + 1) (by omega) (by omega)
    apply round
    simp only [gpart_l0_w, gpart_l0', go_sem, reduceCtorEq, Nat.reduceEqDiff, reduceIte, Nat.reduceAdd, Nat.reduceSub, Nat.reduceLeDiff, Int.reduceToNat, Nat.reduceBEq]
    by_cases h : i < p.length
    · rw [lt_t h]
      simp only [getE h, go_sem, reduceCtorEq, Nat.reduceEqDiff, reduceIte, Nat.reduceAdd, Nat.reduceSub, Nat.reduceLeDiff, Int.reduceToNat, Nat.reduceBEq]
      refine ⟨by omega, ?_⟩
      cases ht : tok (p.drop i) with
      | none => rw [toks_at h, ht] at hL; cases hL
      | some tr =>
        obtain ⟨t, T⟩ := tr
        have hr := tok_rest ht
        have hst := tok_star h ht
        have hL2 := hL
        rw [toks_at h, ht] at hL2
        simp only [Option.map_eq_some_iff] at hL2
        obtain ⟨L', hL', rfl⟩ := hL2
        by_cases h42 : p[i] = 42
        · rw [u8b_t (n := 42) h42 rfl]
          have hts := hst.2 h42
          subst hts
          have hT : T = p.drop (i + 1) := by
            rw [tok_else h (by rw [h42]; decide) (by rw [h42]; decide)] at ht
            injection ht with ht; injection ht with _ ht; exact ht.symm
          rw [hT] at hL'
          simp only [hw1, go_sem, reduceCtorEq, Nat.reduceEqDiff, reduceIte, Nat.reduceAdd, Nat.reduceSub, Nat.reduceLeDiff, Int.reduceToNat, Nat.reduceBEq]
          refine ih (i + 1) k (some (i + 1, k)) L' hL' (hS.onStar hL' (by omega)) ?_ (by omega)
          simp only [frmOf]
          have hmul : (s.length + 1 - k) * (p.length + 2) ≤ (s.length + 1 - frmOf stp) * (p.length + 2) := Nat.mul_le_mul_right _ (by omega)
          omega
        · have hts : t ≠ .star := fun e => h42 (hst.1 e)
          rw [u8b_f (n := 42) h42 rfl]
          simp only [go_sem, reduceCtorEq, Nat.reduceEqDiff, reduceIte, Nat.reduceAdd, Nat.reduceSub, Nat.reduceLeDiff, Int.reduceToNat, Nat.reduceBEq]
          rw [eq_f (by omega : (i : Int) ≠ (p.length : Int))]
          simp only [go_sem, reduceCtorEq, Nat.reduceEqDiff, reduceIte, Nat.reduceAdd, Nat.reduceSub, Nat.reduceLeDiff, Int.reduceToNat, Nat.reduceBEq]
          rw [lt_t h]
          simp only [go_sem, reduceCtorEq, Nat.reduceEqDiff, reduceIte, Nat.reduceAdd, Nat.reduceSub, Nat.reduceLeDiff, Int.reduceToNat, Nat.reduceBEq]
          by_cases hks : k < s.length
          · rw [lt_t hks]
            simp only [getE hks, go_sem, reduceCtorEq, Nat.reduceEqDiff, reduceIte, Nat.reduceAdd, Nat.reduceSub, Nat.reduceLeDiff, Int.reduceToNat, Nat.reduceBEq]
            refine ⟨by omega, ?_⟩
            refine of_call (gstep_snd p hp i h s[k] t T ht hts) ?_
            simp only [go_sem, reduceCtorEq, Nat.reduceEqDiff, reduceIte, Nat.reduceAdd, Nat.reduceSub, Nat.reduceLeDiff, Int.reduceToNat, Nat.reduceBEq]
            cases hf : fits t s[k] with
            | true =>
              simp only [hwk, go_sem, reduceCtorEq, Nat.reduceEqDiff, reduceIte, Nat.reduceAdd, Nat.reduceSub, Nat.reduceLeDiff, Int.reduceToNat, Nat.reduceBEq]
              rw [hr.1] at hL'
              exact ih (p.length - T.length) (k + 1) stp L' hL' (hS.onFit hts hks hf) (by omega) (by omega)
            | false =>
              simp only [go_sem, reduceCtorEq, Nat.reduceEqDiff, reduceIte, Nat.reduceAdd, Nat.reduceSub, Nat.reduceLeDiff, Int.reduceToNat, Nat.reduceBEq]
              have hw0 : whole (t :: L') (s.drop k) = false := whole_end (.inl (by simp)) ⟨hts, fun _ _ => hf⟩
              rw [stI_neg]
              cases stp with
              | none =>
                simp only [Option.isNone_none, go_sem, reduceCtorEq, Nat.reduceEqDiff, reduceIte, Nat.reduceAdd, Nat.reduceSub, Nat.reduceLeDiff, Int.reduceToNat, Nat.reduceBEq]
                rw [Stand.stop hS hw0]
              | some qf =>
                obtain ⟨q, f⟩ := qf
                obtain ⟨Ls, hLs, hS, hq, hf⟩ := hS
                simp only [frmOf] at hn
                simp only [Option.isNone_some, stI, frmOf, go_sem, reduceCtorEq, Nat.reduceEqDiff, reduceIte, Nat.reduceAdd, Nat.reduceSub, Nat.reduceLeDiff, Int.reduceToNat, Nat.reduceBEq]
                by_cases hfs : s.length ≤ f
                · rw [ige_t (by omega)]
                  simp only [go_sem, reduceCtorEq, Nat.reduceEqDiff, reduceIte, Nat.reduceAdd, Nat.reduceSub, Nat.reduceLeDiff, Int.reduceToNat, Nat.reduceBEq]
                  rw [Stand.last hS hw0 hfs]
                · have hwf : IntKind.i64.wrap ((f : Int) + 1) = ((f + 1 : Nat) : Int) := wrapN (f + 1) (by omega) (by omega)
                  rw [ige_f (by omega)]
                  simp only [hwf, go_sem, reduceCtorEq, Nat.reduceEqDiff, reduceIte, Nat.reduceAdd, Nat.reduceSub, Nat.reduceLeDiff, Int.reduceToNat, Nat.reduceBEq]
                  have hmul : (s.length + 1 - f) * (p.length + 2) = (s.length + 1 - (f + 1)) * (p.length + 2) + (p.length + 2) := by
                    rw [show s.length + 1 - f = (s.length + 1 - (f + 1)) + 1 by omega, Nat.succ_mul]
                  exact ih q (f + 1) (some (q, f + 1)) Ls hLs ⟨Ls, hLs, Stand.again hS hw0 (by omega), hq, by omega⟩ (by simp only [frmOf]; omega) hq
          · rw [lt_f hks]
            simp only [go_sem, reduceCtorEq, Nat.reduceEqDiff, reduceIte, Nat.reduceAdd, Nat.reduceSub, Nat.reduceLeDiff, Int.reduceToNat, Nat.reduceBEq]
            have hw0 : whole (t :: L') (s.drop k) = false := whole_end (.inl (by simp)) ⟨hts, fun h => absurd h hks⟩
            rw [stI_neg]
            cases stp with
            | none =>
              simp only [Option.isNone_none, go_sem, reduceCtorEq, Nat.reduceEqDiff, reduceIte, Nat.reduceAdd, Nat.reduceSub, Nat.reduceLeDiff, Int.reduceToNat, Nat.reduceBEq]
              rw [Stand.stop hS hw0]
            | some qf =>
              obtain ⟨q, f⟩ := qf
              obtain ⟨Ls, hLs, hS, hq, hf⟩ := hS
              simp only [frmOf] at hn
              simp only [Option.isNone_some, stI, frmOf, go_sem, reduceCtorEq, Nat.reduceEqDiff, reduceIte, Nat.reduceAdd, Nat.reduceSub, Nat.reduceLeDiff, Int.reduceToNat, Nat.reduceBEq]
              by_cases hfs : s.length ≤ f
              · rw [ige_t (by omega)]
                simp only [go_sem, reduceCtorEq, Nat.reduceEqDiff, reduceIte, Nat.reduceAdd, Nat.reduceSub, Nat.reduceLeDiff, Int.reduceToNat, Nat.reduceBEq]
                rw [Stand.last hS hw0 hfs]
              · have hwf : IntKind.i64.wrap ((f : Int) + 1) = ((f + 1 : Nat) : Int) := wrapN (f + 1) (by omega) (by omega)
                rw [ige_f (by omega)]
                simp only [hwf, go_sem, reduceCtorEq, Nat.reduceEqDiff, reduceIte, Nat.reduceAdd, Nat.reduceSub, Nat.reduceLeDiff, Int.reduceToNat, Nat.reduceBEq]
                have hmul : (s.length + 1 - f) * (p.length + 2) = (s.length + 1 - (f + 1)) * (p.length + 2) + (p.length + 2) := by
                  rw [show s.length + 1 - f = (s.length + 1 - (f + 1)) + 1 by omega, Nat.succ_mul]
                exact ih q (f + 1) (some (q, f + 1)) Ls hLs ⟨Ls, hLs, Stand.again hS hw0 (by omega), hq, by omega⟩ (by simp only [frmOf]; omega) hq
    · rw [lt_f h]
      simp only [go_sem, reduceCtorEq, Nat.reduceEqDiff, reduceIte, Nat.reduceAdd, Nat.reduceSub, Nat.reduceLeDiff, Int.reduceToNat, Nat.reduceBEq]
      have hil : i = p.length := by omega
      rw [toks_end h] at hL
      injection hL with hL; subst hL
      rw [eq_t (by omega : (i : Int) = (p.length : Int))]
      simp only [go_sem, reduceCtorEq, Nat.reduceEqDiff, reduceIte, Nat.reduceAdd, Nat.reduceSub, Nat.reduceLeDiff, Int.reduceToNat, Nat.reduceBEq]
      by_cases hks : k < s.length
      · rw [eq_f (by omega : (k : Int) ≠ (s.length : Int))]
        simp only [go_sem, reduceCtorEq, Nat.reduceEqDiff, reduceIte, Nat.reduceAdd, Nat.reduceSub, Nat.reduceLeDiff, Int.reduceToNat, Nat.reduceBEq]
        rw [lt_f h]
        simp only [go_sem, reduceCtorEq, Nat.reduceEqDiff, reduceIte, Nat.reduceAdd, Nat.reduceSub, Nat.reduceLeDiff, Int.reduceToNat, Nat.reduceBEq]
        have hw0 : whole [] (s.drop k) = false := whole_end (.inr hks) trivial
        rw [stI_neg]
        cases stp with
        | none =>
          simp only [Option.isNone_none, go_sem, reduceCtorEq, Nat.reduceEqDiff, reduceIte, Nat.reduceAdd, Nat.reduceSub, Nat.reduceLeDiff, Int.reduceToNat, Nat.reduceBEq]
          rw [Stand.stop hS hw0]
        | some qf =>
          obtain ⟨q, f⟩ := qf
          obtain ⟨Ls, hLs, hS, hq, hf⟩ := hS
          simp only [frmOf] at hn
          simp only [Option.isNone_some, stI, frmOf, go_sem, reduceCtorEq, Nat.reduceEqDiff, reduceIte, Nat.reduceAdd, Nat.reduceSub, Nat.reduceLeDiff, Int.reduceToNat, Nat.reduceBEq]
          by_cases hfs : s.length ≤ f
          · rw [ige_t (by omega)]
            simp only [go_sem, reduceCtorEq, Nat.reduceEqDiff, reduceIte, Nat.reduceAdd, Nat.reduceSub, Nat.reduceLeDiff, Int.reduceToNat, Nat.reduceBEq]
            rw [Stand.last hS hw0 hfs]
          · have hwf : IntKind.i64.wrap ((f : Int) + 1) = ((f + 1 : Nat) : Int) := wrapN (f + 1) (by omega) (by omega)
            rw [ige_f (by omega)]
            simp only [hwf, go_sem, reduceCtorEq, Nat.reduceEqDiff, reduceIte, Nat.reduceAdd, Nat.reduceSub, Nat.reduceLeDiff, Int.reduceToNat, Nat.reduceBEq]
            have hmul : (s.length + 1 - f) * (p.length + 2) = (s.length + 1 - (f + 1)) * (p.length + 2) + (p.length + 2) := by
              rw [show s.length + 1 - f = (s.length + 1 - (f + 1)) + 1 by omega, Nat.succ_mul]
            exact ih q (f + 1) (some (q, f + 1)) Ls hLs ⟨Ls, hLs, Stand.again hS hw0 (by omega), hq, by omega⟩ (by simp only [frmOf]; omega) hq
      · have hkl : k = s.length := by omega
        subst hkl
        rw [eq_t rfl]
        simp only [go_sem, reduceCtorEq, Nat.reduceEqDiff, reduceIte, Nat.reduceAdd, Nat.reduceSub, Nat.reduceLeDiff, Int.reduceToNat, Nat.reduceBEq]
        rw [hS.done]
theorem gpart_snd (p s : Ln.Bs) (hp : p.length ≤ 1048576) (hs : s.length ≤ 1048576) (L : List Tok) (hL : toks p = some L) : Snd Tryd.prog (gl m) 103 [S p, S s] (B (whole L s)) := by
  refine snd_of (fn := Tryd.f103) (af := gpart) Tryd.func103 (gpart_comp m) mixed (kn_ok m) (Nat.le_of_ble_eq_true rfl) ?_
  simp only [gpart, go_sem, reduceCtorEq, Nat.reduceEqDiff, reduceIte, Nat.reduceAdd, Nat.reduceSub, Nat.reduceLeDiff, Int.reduceToNat, Nat.reduceBEq]
  exact gpart_loop p s hp hs _ _ 0 0 none L hL (Stand.plain (by omega) rfl) (Nat.lt_succ_self _) (by omega)
end Go.Gb
namespace Go.Gb
open Go.At (gl kn kn_ok tab0 mixed index1 indexByte hasPrefix trimSuffix replaceAll)
open Go Go.Ev Go.Proofs
open Go.Ln (u8b_t u8b_f u8n_t u8n_f getX idx idx_eq)
set_option linter.unusedVariables false
set_option linter.unusedSimpArgs false
attribute [local go_sem] eqs implies_true List.map_cons List.map_nil kl klL roD roL Option.map_some Option.map_none Option.getD_some Option.getD_none binVal binObl unVal if_true if_false eq_self passA frnD resD content getH getR getW viaNot viaSlot viaBox viaDeep viaMem List.contains_cons List.contains_nil grabs peeks okCells isCell place cellsOf chunk elt List.headD_cons List.length_cons List.length_nil List.take_succ_cons List.take_zero List.drop_succ_cons List.drop_zero List.nil_append List.cons_append List.append_nil List.all_cons List.all_nil plainC takeR setW over reCell List.getElem?_cons_zero List.getElem?_cons_succ List.set_cons_zero List.take_length outV resG plainV pack outVG outBx List.set_cons_succ Ref.idx Ref.addOff beq_self_eq_true bxL Option.bind_some writeR isLit viaBoxes capsPA boxPA nsOf noDup boxesAt argG passG passD rhoIn rhoOut idxIn tr trL List.getD_cons_zero gives pasOf isPtr Ins.d List.getD_cons_succ resL frnL
variable {m : Int}
def tab (n : Nat) (f : Nat → Bool) : List AV := (List.range n).map fun q => .lit (.bool (f q))
theorem tab_len (n : Nat) (f : Nat → Bool) : (tab n f).length = n := by simp [tab]
theorem tab_get {n : Nat} (f : Nat → Bool) {i : Nat} (h : i < n) : (tab n f)[i]? = some (B (f i)) := by simp [tab, h]
theorem tab_ext {n : Nat} {f g : Nat → Bool} (h : ∀ q, q < n → f q = g q) : tab n f = tab n g := by
  unfold tab
  apply List.map_congr_left
  intro q hq
  rw [h q (List.mem_range.1 hq)]
theorem tab_set {n : Nat} (f : Nat → Bool) {i : Nat} (b : Bool) : (tab n f).set i (B b) = tab n fun q => if q = i then b else f q := by
  apply List.ext_getElem?
  intro j
  by_cases hj : j < n
  · rw [tab_get _ hj, List.getElem?_set]
    by_cases e : i = j
    · subst e; simp [tab_len, hj]
    · rw [if_neg e, tab_get _ hj, if_neg (fun q => e q.symm)]
  · rw [List.getElem?_eq_none (by rw [List.length_set, tab_len]; omega), List.getElem?_eq_none (by rw [tab_len]; omega)]
theorem tab_none (n : Nat) : List.replicate n (AV.lit (.bool false)) = tab n fun _ => false := by
  apply List.ext_getElem?
  intro j
  by_cases hj : j < n
  · rw [tab_get _ hj]; simp [hj]
  · rw [List.getElem?_eq_none (by simp; omega), List.getElem?_eq_none (by rw [tab_len]; omega)]
theorem frnL_tab (n : Nat) (f : Nat → Bool) : frnL (tab n f) = tab n f := frnL_lits (fun q => Value.bool (f q)) _
theorem resL_tab (n : Nat) (f : Nat → Bool) : resL (tab n f) = tab n f := resL_lits (fun q => Value.bool (f q)) _
theorem roL_tab (n : Nat) (f : Nat → Bool) : roL (tab n f) = tab n f := roL_lits (fun q => Value.bool (f q)) _
theorem klL_tab (p : Bool → Ref → Bool) (ro : Bool) (n : Nat) (f : Nat → Bool) : klL p ro (tab n f) = tab n f := klL_lits p ro (fun q => Value.bool (f q)) _
theorem map_roD_tab (n : Nat) (f : Nat → Bool) : (tab n f).map roD = tab n f := by rw [← roL_eq, roL_tab]
def gparts_l0' : AC := .seq (.reg (.seq [⟨some (30, false), none, .bin .lss (.tmp 29 true) (.tmp 28 true)⟩])) [0, 1, 5, 7, 8, 17, 18, 19, 27, 28, 29, 30] []
  (.seq (.cond (.tmp 30 false)
    (.skip)
    (.exit 2)) [0, 1, 5, 7, 8, 17, 18, 19, 27, 28, 29] []
  (.seq (.block 3 (.seq (.reg (.seq [⟨some (31, false), none, .mov (.tmp 29 true) .take⟩,⟨some (32, false), none, .iad (.tmp 27 true) (.tmp 29 true) 1⟩,⟨some (33, false), none, .load (.tmp 32 false) 1 false false⟩,⟨some (9, true), none, .mov (.tmp 31 false) .asg⟩,⟨some (10, true), none, .mov (.tmp 33 false) .asg⟩])) [0, 1, 5, 7, 8, 9, 10, 17, 18, 19, 27, 28, 29] []
    (.block 4 (.seq (.reg (.seq [⟨some (35, false), none, .mov (.tmp 7 true) .peek⟩,⟨some (36, false), none, .bin .eql (.tmp 35 false) (.cst (.string (str [42, 42])) (.lit (.string (str [42, 42]))))⟩,⟨some (34, false), none, .mov (.tmp 36 false) .asg⟩])) [0, 1, 5, 7, 8, 9, 10, 17, 18, 19, 27, 28, 29, 34] []
      (.cond (.tmp 34 false)
        (.reg (.seq [⟨some (37, false), none, .mov (.tmp 8 true) .peek⟩,⟨some (38, false), none, .mov (.tmp 9 true) .peek⟩,⟨some (39, false), none, .mov (.tmp 10 true) .peek⟩,⟨some (40, false), none, .mov (.tmp 39 false) .peek⟩,⟨some (41, false), (some (40, false)), .mov (.tmp 9 true) .peek⟩,⟨some (42, false), (some (40, false)), .bin .gtr (.tmp 41 false) (.cst (.int .i64 0) (.lit (.int .i64 0)))⟩,⟨some (43, false), (some (40, false)), .mov (.tmp 42 false) .peek⟩,⟨some (44, false), (some (43, true)), .mov (.tmp 8 true) .peek⟩,⟨some (45, false), (some (43, true)), .mov (.tmp 9 true) .peek⟩,⟨some (46, false), (some (43, true)), .bin .sub (.tmp 45 false) (.cst (.int .i64 1) (.lit (.int .i64 1)))⟩,⟨some (47, false), (some (43, true)), .iad (.tmp 44 false) (.tmp 46 false) 1⟩,⟨some (48, false), (some (43, true)), .load (.tmp 47 false) 1 false false⟩,⟨some (49, false), (some (40, false)), .pick (.tmp 43 false) (.tmp 48 false) (.cst (.bool false) (.lit (.bool false)))⟩,⟨some (50, false), none, .pick (.tmp 40 false) (.cst (.bool true) (.lit (.bool true))) (.tmp 49 false)⟩,⟨some (51, false), none, .iad (.tmp 37 false) (.tmp 38 false) 1⟩,⟨none, none, .store (.tmp 51 false) (.tmp 50 false) 1⟩]))
        (.seq (.reg (.seq [⟨some (53, false), none, .mov (.tmp 10 true) .peek⟩,⟨some (54, false), none, .mov (.tmp 53 false) .peek⟩,⟨some (55, false), (some (54, true)), .mov (.tmp 9 true) .peek⟩,⟨some (56, false), (some (54, true)), .mov (.tmp 1 true) .peek⟩,⟨some (57, false), (some (54, true)), .lenL (.tmp 56 false)⟩,⟨some (58, false), (some (54, true)), .bin .lss (.tmp 55 false) (.tmp 57 false)⟩,⟨some (59, false), none, .pick (.tmp 54 false) (.tmp 58 false) (.cst (.bool false) (.lit (.bool false)))⟩,⟨some (52, false), none, .mov (.tmp 59 false) .asg⟩])) [0, 1, 5, 7, 8, 9, 17, 18, 19, 27, 28, 29, 52] []
        (.cond (.tmp 52 false)
          (.reg (.seq [⟨some (60, false), none, .mov (.tmp 8 true) .peek⟩,⟨some (61, false), none, .mov (.tmp 9 true) .peek⟩,⟨some (62, false), none, .bin .add (.tmp 61 false) (.cst (.int .i64 1) (.lit (.int .i64 1)))⟩,⟨some (63, false), none, .mov (.tmp 7 true) .peek⟩,⟨some (64, false), none, .mov (.tmp 1 true) .peek⟩,⟨some (65, false), none, .mov (.tmp 9 true) .peek⟩,⟨some (66, false), none, .iad (.tmp 64 false) (.tmp 65 false) 1⟩,⟨some (67, false), none, .load (.tmp 66 false) 1 false false⟩,⟨some (68, false), none, .call 103 [.tmp 63 false, .tmp 67 false]⟩,⟨some (69, false), none, .iad (.tmp 60 false) (.tmp 62 false) 1⟩,⟨none, none, .store (.tmp 69 false) (.tmp 68 false) 1⟩]))
          (.skip)))))))) [0, 1, 5, 7, 8, 17, 18, 19, 27, 28, 29] []
  (.reg (.seq [⟨some (70, false), none, .bin .add (.tmp 29 true) (.cst (.int .i64 1) (.lit (.int .i64 1)))⟩,⟨some (29, true), none, .mov (.tmp 70 false) .peek⟩]))))
def gparts_l0 : AC := gparts_l0'
theorem gparts_l0_w (C : Kn) (K : Ex → St → Prop) (s : St) : vcC C gparts_l0 K s = vcC C gparts_l0' K s := nr rfl
def gparts_k1' : AC := .reg (.seq [⟨some (71, false), none, .mov (.tmp 8 true) .take⟩,⟨some (5, true), none, .mov (.tmp 71 false) .asg⟩])
def gparts_k1 : AC := gparts_k1'
theorem gparts_k1_w (C : Kn) (K : Ex → St → Prop) (s : St) : vcC C gparts_k1 K s = vcC C gparts_k1' K s := nr rfl
def gparts_k2' : AC := .reg (.seq [⟨some (72, false), none, .bin .add (.tmp 19 true) (.cst (.int .i64 1) (.lit (.int .i64 1)))⟩,⟨some (19, true), none, .mov (.tmp 72 false) .peek⟩])
def gparts_k2 : AC := gparts_k2'
theorem gparts_k2_w (C : Kn) (K : Ex → St → Prop) (s : St) : vcC C gparts_k2 K s = vcC C gparts_k2' K s := nr rfl
def gparts_l3' : AC := .seq (.reg (.seq [⟨some (20, false), none, .bin .lss (.tmp 19 true) (.tmp 18 true)⟩])) [0, 1, 5, 8, 17, 18, 19, 20] []
  (.seq (.cond (.tmp 20 false)
    (.skip)
    (.exit 0)) [0, 1, 5, 8, 17, 18, 19] []
  (.seq (.block 1 (.seq (.reg (.seq [⟨some (21, false), none, .iad (.tmp 17 true) (.tmp 19 true) 1⟩,⟨some (22, false), none, .load (.tmp 21 false) 1 false false⟩,⟨some (7, true), none, .mov (.tmp 22 false) .asg⟩])) [0, 1, 5, 7, 8, 17, 18, 19] []
    (.seq (.reg (.seq [⟨some (23, false), none, .mov (.tmp 1 true) .peek⟩,⟨some (24, false), none, .lenL (.tmp 23 false)⟩,⟨some (25, false), none, .bin .add (.tmp 24 false) (.cst (.int .i64 1) (.lit (.int .i64 1)))⟩,⟨some (26, false), none, .mkS 1 1 [(.lit (.bool false))] (.tmp 25 false) (.tmp 25 false)⟩,⟨some (8, true), none, .mov (.tmp 26 false) .asg⟩])) [0, 1, 5, 7, 8, 17, 18, 19] []
    (.seq (.seq (.reg (.seq [⟨some (27, true), none, .mov (.tmp 5 true) .peek⟩,⟨some (28, true), none, .lenL (.tmp 27 true)⟩,⟨some (29, true), none, .mov (.cst (.int .i64 0) (.lit (.int .i64 0))) .peek⟩])) [0, 1, 5, 7, 8, 17, 18, 19, 27, 28, 29] []
    (.block 2 (.loop [0, 1, 5, 7, 8, 17, 18, 19, 27, 28, 29] [] gparts_l0))) [0, 1, 8, 17, 18, 19] [] gparts_k1)))) [0, 1, 5, 8, 17, 18, 19] [] gparts_k2))
def gparts_l3 : AC := gparts_l3'
theorem gparts_l3_w (C : Kn) (K : Ex → St → Prop) (s : St) : vcC C gparts_l3 K s = vcC C gparts_l3' K s := nr rfl
def gparts_k4' : AC := .seq (.reg (.seq [⟨some (73, false), none, .mov (.tmp 5 true) .peek⟩,⟨some (74, false), none, .mov (.tmp 1 true) .peek⟩,⟨some (75, false), none, .lenL (.tmp 74 false)⟩,⟨some (76, false), none, .iad (.tmp 73 false) (.tmp 75 false) 1⟩,⟨some (77, false), none, .load (.tmp 76 false) 1 false false⟩,⟨some (4, true), none, .mov (.tmp 77 false) .asg⟩])) [4] []
  (.ret)
def gparts_k4 : AC := gparts_k4'
theorem gparts_k4_w (C : Kn) (K : Ex → St → Prop) (s : St) : vcC C gparts_k4 K s = vcC C gparts_k4' K s := nr rfl
def gparts : AF := ⟨.seq (.reg (.seq [⟨some (4, true), none, .mov (.cst (.bool false) (.lit (.bool false))) .asg⟩])) [0, 1] []
  (.seq (.reg (.seq [⟨some (11, false), none, .mov (.tmp 1 true) .peek⟩,⟨some (12, false), none, .lenL (.tmp 11 false)⟩,⟨some (13, false), none, .bin .add (.tmp 12 false) (.cst (.int .i64 1) (.lit (.int .i64 1)))⟩,⟨some (14, false), none, .mkS 1 1 [(.lit (.bool false))] (.tmp 13 false) (.tmp 13 false)⟩,⟨some (5, true), none, .mov (.tmp 14 false) .asg⟩])) [0, 1, 5, 8] []
  (.seq (.reg (.seq [⟨some (15, false), none, .mov (.tmp 5 true) .peek⟩,⟨some (16, false), none, .iad (.tmp 15 false) (.cst (.int .i64 0) (.lit (.int .i64 0))) 1⟩,⟨none, none, .store (.tmp 16 false) (.cst (.bool true) (.lit (.bool true))) 1⟩])) [0, 1, 5, 8] []
  (.seq (.seq (.reg (.seq [⟨some (17, true), none, .mov (.tmp 0 true) .peek⟩,⟨some (18, true), none, .lenL (.tmp 17 true)⟩,⟨some (19, true), none, .mov (.cst (.int .i64 0) (.lit (.int .i64 0))) .peek⟩])) [0, 1, 5, 8, 17, 18, 19] []
  (.block 0 (.loop [0, 1, 5, 8, 17, 18, 19] [] gparts_l3))) [1, 5, 8] [] gparts_k4))),
  [.tmp 4]⟩
theorem gparts_comp (m : Int) : compF Tryd.prog (gl m) [] Tryd.f105 = some gparts := by kernel_rfl
theorem gparts_in (P Y : List Ln.Bs) (hS : Y.length ≤ 1048576) (hb : ∀ l, l ∈ Y → l.length ≤ 1048576) (x : Ln.Bs) (hx : x.length ≤ 1048576) (Lx : List Tok) (hLx : toks x = some Lx) (j np : Nat) (Q : List Ln.Bs) (K : Ex → St → Prop)
    (hk : vcC (kn m) gparts_k1 K (mkS [(0, .sl .frn 1 (ss P)), (1, .sl .frn 1 (ss Y)), (8, .sl .own 1 (tab (Y.length + 1) fun q => M (Q ++ [x]) (Y.take q))), (17, .sl .frn 1 (ss P)), (18, N np), (19, N j)] [])) (n : Nat) :
    ∀ (i : Nat) (hn : Y.length + 1 - i = n) (hi : i ≤ Y.length + 1) (g : Nat → Bool) (hg : ∀ q, q ≤ Y.length → g q = if x = deep then (decide (q < i) && M (Q ++ [x]) (Y.take q)) else (decide (q ≤ i) && M (Q ++ [x]) (Y.take q))),
    vcL (kn m) [0, 1, 5, 7, 8, 17, 18, 19, 27, 28, 29] [] gparts_l0 (blockK 2 (seqK (kn m) [0, 1, 8, 17, 18, 19] [] gparts_k1 K))
      (mkS [(0, .sl .frn 1 (ss P)), (1, .sl .frn 1 (ss Y)), (5, .sl .own 1 (tab (Y.length + 1) fun q => M Q (Y.take q))), (7, S x), (8, .sl .own 1 (tab (Y.length + 1) g)), (17, .sl .frn 1 (ss P)), (18, N np), (19, N j), (27, .bor ⟨.slot 5, []⟩), (28, N (Y.length + 1)), (29, N i)] []) := by
  induction n with
  | zero =>
    intro i hn hi g hg
    have hil : i = Y.length + 1 := by omega
    subst hil
    have e : tab (Y.length + 1) g = tab (Y.length + 1) fun q => M (Q ++ [x]) (Y.take q) := tab_ext fun q hq => by
      rw [hg q (by omega)]
      split
      · rw [decide_eq_true hq, Bool.true_and]
      · rw [decide_eq_true (by omega), Bool.true_and]
    rw [e]
    apply round
    simp only [gparts_l0_w, gparts_l0', tab_none, tab_len, frnL_tab, resL_tab, roL_tab, klL_tab, map_roD_tab, go_sem, reduceCtorEq, Nat.reduceEqDiff, reduceIte, Nat.reduceAdd, Nat.reduceSub, Nat.reduceLeDiff, Int.reduceToNat, Nat.reduceBEq]
    rw [lt_f (by omega)]
    simp only [tab_none, tab_len, frnL_tab, resL_tab, roL_tab, klL_tab, map_roD_tab, go_sem, reduceCtorEq, Nat.reduceEqDiff, reduceIte, Nat.reduceAdd, Nat.reduceSub, Nat.reduceLeDiff, Int.reduceToNat, Nat.reduceBEq]
    exact hk
  | succ n ih =>
    intro i hn hi g hg
    have hil : i < Y.length + 1 := by omega
    have hw1 : IntKind.i64.wrap ((i : Int) + 1) = ((i + 1 : Nat) : Int) := wrapN (i + 1) (by omega) (by omega)
    apply round
    simp only [gparts_l0_w, gparts_l0', tab_none, tab_len, frnL_tab, resL_tab, roL_tab, klL_tab, map_roD_tab, go_sem, reduceCtorEq, Nat.reduceEqDiff, reduceIte, Nat.reduceAdd, Nat.reduceSub, Nat.reduceLeDiff, Int.reduceToNat, Nat.reduceBEq]
    rw [lt_t hil]
    simp only [tab_none, tab_len, frnL_tab, resL_tab, roL_tab, klL_tab, map_roD_tab, tab_get _ hil, go_sem, reduceCtorEq, Nat.reduceEqDiff, reduceIte, Nat.reduceAdd, Nat.reduceSub, Nat.reduceLeDiff, Int.reduceToNat, Nat.reduceBEq]
    repeat (refine ⟨by (try simp only [List.length_append, List.length_cons, List.length_nil, List.length_drop, List.length_take]); omega, ?_⟩)
    by_cases hd : x = deep
    · rw [se_t (show x = [42, 42] from hd)]
      simp only [tab_none, tab_len, frnL_tab, resL_tab, roL_tab, klL_tab, map_roD_tab, go_sem, reduceCtorEq, Nat.reduceEqDiff, reduceIte, Nat.reduceAdd, Nat.reduceSub, Nat.reduceLeDiff, Int.reduceToNat, Nat.reduceBEq]
      have fin : ∀ b : Bool, b = M (Q ++ [x]) (Y.take i) → _ := fun b hbv => ih (i + 1) (by omega) (by omega) (fun q => if q = i then b else g q) (fun q hq => by
        rw [if_pos hd]
        have hgq := hg q hq
        rw [if_pos hd] at hgq
        by_cases e : q = i
        · rw [if_pos e, decide_eq_true (by omega), Bool.true_and, hbv, e]
        · rw [if_neg e, hgq]
          by_cases e2 : q < i
          · rw [decide_eq_true e2, decide_eq_true (by omega : q < i + 1)]
          · rw [decide_eq_false e2, decide_eq_false (by omega : ¬ q < i + 1)])
      have hstep := step_deep Q Y i (by omega)
      rw [← hd] at hstep
      cases hM : M Q (Y.take i) with
      | true =>
        rw [hM, Bool.true_or] at hstep
        simp only [hw1, tab_none, tab_len, frnL_tab, resL_tab, roL_tab, klL_tab, map_roD_tab, tab_get _ hil, tab_set, go_sem, reduceCtorEq, Nat.reduceEqDiff, reduceIte, Nat.reduceAdd, Nat.reduceSub, Nat.reduceLeDiff, Int.reduceToNat, Nat.reduceBEq]
        repeat (refine ⟨by (try simp only [List.length_append, List.length_cons, List.length_nil, List.length_drop, List.length_take]); omega, ?_⟩)
        exact fin true hstep.symm
      | false =>
        rw [hM, Bool.false_or] at hstep
        simp only [tab_none, tab_len, frnL_tab, resL_tab, roL_tab, klL_tab, map_roD_tab, go_sem, reduceCtorEq, Nat.reduceEqDiff, reduceIte, Nat.reduceAdd, Nat.reduceSub, Nat.reduceLeDiff, Int.reduceToNat, Nat.reduceBEq]
        by_cases h0 : 0 < i
        · have hi1 : i - 1 < Y.length + 1 := by omega
          have hw2 : IntKind.i64.wrap ((i : Int) - 1) = ((i - 1 : Nat) : Int) := wrapN (i - 1) (by omega) (by omega)
          have hgq := hg (i - 1) (by omega)
          rw [if_pos hd, decide_eq_true (by omega), Bool.true_and] at hgq
          rw [decide_eq_true h0, Bool.true_and] at hstep
          rw [igt_t (by omega)]
          simp only [hw1, hw2, tab_none, tab_len, frnL_tab, resL_tab, roL_tab, klL_tab, map_roD_tab, tab_get _ hil, tab_get _ hi1, tab_set, hgq, go_sem, reduceCtorEq, Nat.reduceEqDiff, reduceIte, Nat.reduceAdd, Nat.reduceSub, Nat.reduceLeDiff, Int.reduceToNat, Nat.reduceBEq]
          repeat (refine ⟨by (try simp only [List.length_append, List.length_cons, List.length_nil, List.length_drop, List.length_take]); omega, ?_⟩)
          exact fin _ hstep.symm
        · rw [decide_eq_false h0, Bool.false_and] at hstep
          rw [igt_f (by omega)]
          simp only [hw1, tab_none, tab_len, frnL_tab, resL_tab, roL_tab, klL_tab, map_roD_tab, tab_get _ hil, tab_set, go_sem, reduceCtorEq, Nat.reduceEqDiff, reduceIte, Nat.reduceAdd, Nat.reduceSub, Nat.reduceLeDiff, Int.reduceToNat, Nat.reduceBEq]
          repeat (refine ⟨by (try simp only [List.length_append, List.length_cons, List.length_nil, List.length_drop, List.length_take]); omega, ?_⟩)
          exact fin false hstep.symm
    · rw [se_f (show x ≠ [42, 42] from hd)]
      simp only [tab_none, tab_len, frnL_tab, resL_tab, roL_tab, klL_tab, map_roD_tab, go_sem, reduceCtorEq, Nat.reduceEqDiff, reduceIte, Nat.reduceAdd, Nat.reduceSub, Nat.reduceLeDiff, Int.reduceToNat, Nat.reduceBEq]
      have same : (i < Y.length → M (Q ++ [x]) (Y.take (i + 1)) = false) → _ := fun h => ih (i + 1) (by omega) (by omega) g (fun q hq => by
        have hgq := hg q hq
        rw [if_neg hd] at hgq ⊢
        rw [hgq]
        by_cases e2 : q ≤ i
        · rw [decide_eq_true e2, decide_eq_true (by omega : q ≤ i + 1)]
        · rw [decide_eq_false e2, Bool.false_and]
          by_cases e3 : q ≤ i + 1
          · have e4 : q = i + 1 := by omega
            subst e4
            rw [h (by omega), Bool.and_false]
          · rw [decide_eq_false e3, Bool.false_and])
      cases hM : M Q (Y.take i) with
      | false =>
        simp only [hw1, tab_none, tab_len, frnL_tab, resL_tab, roL_tab, klL_tab, map_roD_tab, go_sem, reduceCtorEq, Nat.reduceEqDiff, reduceIte, Nat.reduceAdd, Nat.reduceSub, Nat.reduceLeDiff, Int.reduceToNat, Nat.reduceBEq]
        exact same fun h => by rw [step_lit hd Q Y i h, hM, Bool.false_and]
      | true =>
        simp only [tab_none, tab_len, frnL_tab, resL_tab, roL_tab, klL_tab, map_roD_tab, go_sem, reduceCtorEq, Nat.reduceEqDiff, reduceIte, Nat.reduceAdd, Nat.reduceSub, Nat.reduceLeDiff, Int.reduceToNat, Nat.reduceBEq]
        by_cases hin : i < Y.length
        · have hi1 : i + 1 < Y.length + 1 := by omega
          rw [lt_t hin]
          simp only [hw1, ssE Y hin, tab_none, tab_len, frnL_tab, resL_tab, roL_tab, klL_tab, map_roD_tab, go_sem, reduceCtorEq, Nat.reduceEqDiff, reduceIte, Nat.reduceAdd, Nat.reduceSub, Nat.reduceLeDiff, Int.reduceToNat, Nat.reduceBEq]
          repeat (refine ⟨by (try simp only [List.length_append, List.length_cons, List.length_nil, List.length_drop, List.length_take]); omega, ?_⟩)
          refine of_call (gpart_snd x Y[i] hx (hb _ (List.getElem_mem hin)) Lx hLx) ?_
          simp only [hw1, tab_none, tab_len, frnL_tab, resL_tab, roL_tab, klL_tab, map_roD_tab, tab_get _ hi1, tab_set, go_sem, reduceCtorEq, Nat.reduceEqDiff, reduceIte, Nat.reduceAdd, Nat.reduceSub, Nat.reduceLeDiff, Int.reduceToNat, Nat.reduceBEq]
          repeat (refine ⟨by (try simp only [List.length_append, List.length_cons, List.length_nil, List.length_drop, List.length_take]); omega, ?_⟩)
          have hst := step_lit hd Q Y i hin
          rw [hM, Bool.true_and, partF, hLx] at hst
          simp only at hst
          refine ih (i + 1) (by omega) (by omega) (fun q => if q = i + 1 then whole Lx Y[i] else g q) (fun q hq => ?_)
          have hgq := hg q hq
          rw [if_neg hd] at hgq ⊢
          by_cases e : q = i + 1
          · subst e
            rw [if_pos rfl, decide_eq_true (Nat.le_refl _), Bool.true_and, hst]
          · rw [if_neg e, hgq]
            by_cases e2 : q ≤ i
            · rw [decide_eq_true e2, decide_eq_true (by omega : q ≤ i + 1)]
            · rw [decide_eq_false e2, decide_eq_false (by omega : ¬ q ≤ i + 1)]
        · rw [lt_f hin]
          simp only [hw1, tab_none, tab_len, frnL_tab, resL_tab, roL_tab, klL_tab, map_roD_tab, go_sem, reduceCtorEq, Nat.reduceEqDiff, reduceIte, Nat.reduceAdd, Nat.reduceSub, Nat.reduceLeDiff, Int.reduceToNat, Nat.reduceBEq]
          exact same fun h => absurd h hin
theorem gparts_loop (P Y : List Ln.Bs) (hP : P.length ≤ 1048576) (hS : Y.length ≤ 1048576) (hb : ∀ l, l ∈ Y → l.length ≤ 1048576) (hbp : ∀ l, l ∈ P → l.length ≤ 1048576) (hg : ∀ x, x ∈ P → ∃ L, toks x = some L) (n : Nat) :
    ∀ (j : Nat) (hn : P.length - j = n) (hj : j ≤ P.length) (v8 : AV) (hv : v8 = .junk ∨ ∃ f, v8 = .sl .ro 1 (tab (Y.length + 1) f)),
    vcL (kn m) [0, 1, 5, 8, 17, 18, 19] [] gparts_l3 (blockK 0 (seqK (kn m) [1, 5, 8] [] gparts_k4 (outOk [.tmp 4] (B (M P Y)))))
      (mkS [(0, .sl .frn 1 (ss P)), (1, .sl .frn 1 (ss Y)), (5, .sl .own 1 (tab (Y.length + 1) fun q => M (P.take j) (Y.take q))), (8, v8), (17, .sl .frn 1 (ss P)), (18, N P.length), (19, N j)] []) := by
  have hw1 : IntKind.i64.wrap ((Y.length : Int) + 1) = ((Y.length + 1 : Nat) : Int) := wrapN (Y.length + 1) (by omega) (by omega)
  induction n with
  | zero =>
    intro j hn hj v8 hv
    have hjl : j = P.length := by omega
    subst hjl
    have hl : Y.length < Y.length + 1 := by omega
    apply round
    rw [List.take_length]
    rcases hv with rfl | ⟨f, rfl⟩
    · simp only [gparts_l3_w, gparts_l3', tab_none, tab_len, frnL_tab, resL_tab, roL_tab, klL_tab, map_roD_tab, go_sem, reduceCtorEq, Nat.reduceEqDiff, reduceIte, Nat.reduceAdd, Nat.reduceSub, Nat.reduceLeDiff, Int.reduceToNat, Nat.reduceBEq]
      rw [lt_f (by omega)]
      simp only [gparts_k4_w, gparts_k4', tab_none, tab_len, frnL_tab, resL_tab, roL_tab, klL_tab, map_roD_tab, tab_get _ hl, go_sem, reduceCtorEq, Nat.reduceEqDiff, reduceIte, Nat.reduceAdd, Nat.reduceSub, Nat.reduceLeDiff, Int.reduceToNat, Nat.reduceBEq]
      exact ⟨by omega, by omega, by omega⟩
    · simp only [gparts_l3_w, gparts_l3', tab_none, tab_len, frnL_tab, resL_tab, roL_tab, klL_tab, map_roD_tab, go_sem, reduceCtorEq, Nat.reduceEqDiff, reduceIte, Nat.reduceAdd, Nat.reduceSub, Nat.reduceLeDiff, Int.reduceToNat, Nat.reduceBEq]
      rw [lt_f (by omega)]
      simp only [gparts_k4_w, gparts_k4', tab_none, tab_len, frnL_tab, resL_tab, roL_tab, klL_tab, map_roD_tab, tab_get _ hl, go_sem, reduceCtorEq, Nat.reduceEqDiff, reduceIte, Nat.reduceAdd, Nat.reduceSub, Nat.reduceLeDiff, Int.reduceToNat, Nat.reduceBEq]
      exact ⟨by omega, by omega, by omega⟩
  | succ n ih =>
    intro j hn hj v8 hv
    have hjl : j < P.length := by omega
    have hw2 : IntKind.i64.wrap ((j : Int) + 1) = ((j + 1 : Nat) : Int) := wrapN (j + 1) (by omega) (by omega)
    obtain ⟨Lx, hLx⟩ := hg P[j] (List.getElem_mem hjl)
    have g0 : ∀ q, q ≤ Y.length → (fun _ : Nat => false) q = if P[j] = deep then (decide (q < 0) && M (P.take j ++ [P[j]]) (Y.take q)) else (decide (q ≤ 0) && M (P.take j ++ [P[j]]) (Y.take q)) := by
      intro q hq
      split
      · rw [decide_eq_false (by omega), Bool.false_and]
      · rename_i hd
        by_cases e : q = 0
        · subst e; rw [List.take_zero, step_lit_zero hd, Bool.and_false]
        · rw [decide_eq_false (by omega), Bool.false_and]
    apply round
    rcases hv with rfl | ⟨f, rfl⟩
    · simp only [gparts_l3_w, gparts_l3', tab_none, tab_len, frnL_tab, resL_tab, roL_tab, klL_tab, map_roD_tab, go_sem, reduceCtorEq, Nat.reduceEqDiff, reduceIte, Nat.reduceAdd, Nat.reduceSub, Nat.reduceLeDiff, Int.reduceToNat, Nat.reduceBEq]
      rw [lt_t hjl]
      simp only [ssE P hjl, hw1, tab_none, tab_none, tab_len, frnL_tab, resL_tab, roL_tab, klL_tab, map_roD_tab, go_sem, reduceCtorEq, Nat.reduceEqDiff, reduceIte, Nat.reduceAdd, Nat.reduceSub, Nat.reduceLeDiff, Int.reduceToNat, Nat.reduceBEq]
      repeat (refine ⟨by (try simp only [List.length_append, List.length_cons, List.length_nil, List.length_drop, List.length_take]); omega, ?_⟩)
      refine gparts_in P Y hS hb P[j] (hbp _ (List.getElem_mem hjl)) Lx hLx j P.length (P.take j) _ ?_ _ 0 rfl (by omega) (fun _ => false) g0
      simp only [gparts_k1_w, gparts_k1', gparts_k2_w, gparts_k2', hw2, tab_none, tab_len, frnL_tab, resL_tab, roL_tab, klL_tab, map_roD_tab, go_sem, reduceCtorEq, Nat.reduceEqDiff, reduceIte, Nat.reduceAdd, Nat.reduceSub, Nat.reduceLeDiff, Int.reduceToNat, Nat.reduceBEq]
      rw [← List.take_succ_eq_append_getElem hjl]
      exact ih (j + 1) (by omega) (by omega) _ (.inr ⟨_, rfl⟩)
    · simp only [gparts_l3_w, gparts_l3', tab_none, tab_len, frnL_tab, resL_tab, roL_tab, klL_tab, map_roD_tab, go_sem, reduceCtorEq, Nat.reduceEqDiff, reduceIte, Nat.reduceAdd, Nat.reduceSub, Nat.reduceLeDiff, Int.reduceToNat, Nat.reduceBEq]
      rw [lt_t hjl]
      simp only [ssE P hjl, hw1, tab_none, tab_none, tab_len, frnL_tab, resL_tab, roL_tab, klL_tab, map_roD_tab, go_sem, reduceCtorEq, Nat.reduceEqDiff, reduceIte, Nat.reduceAdd, Nat.reduceSub, Nat.reduceLeDiff, Int.reduceToNat, Nat.reduceBEq]
      repeat (refine ⟨by (try simp only [List.length_append, List.length_cons, List.length_nil, List.length_drop, List.length_take]); omega, ?_⟩)
      refine gparts_in P Y hS hb P[j] (hbp _ (List.getElem_mem hjl)) Lx hLx j P.length (P.take j) _ ?_ _ 0 rfl (by omega) (fun _ => false) g0
      simp only [gparts_k1_w, gparts_k1', gparts_k2_w, gparts_k2', hw2, tab_none, tab_len, frnL_tab, resL_tab, roL_tab, klL_tab, map_roD_tab, go_sem, reduceCtorEq, Nat.reduceEqDiff, reduceIte, Nat.reduceAdd, Nat.reduceSub, Nat.reduceLeDiff, Int.reduceToNat, Nat.reduceBEq]
      rw [← List.take_succ_eq_append_getElem hjl]
      exact ih (j + 1) (by omega) (by omega) _ (.inr ⟨_, rfl⟩)
theorem gparts_snd (P Y : List Ln.Bs) (hP : P.length ≤ 1048576) (hS : Y.length ≤ 1048576) (hb : ∀ l, l ∈ Y → l.length ≤ 1048576) (hbp : ∀ l, l ∈ P → l.length ≤ 1048576) (hg : ∀ x, x ∈ P → ∃ L, toks x = some L) : Snd Tryd.prog (gl m) 105 [.sl .frn 1 (ss P), .sl .frn 1 (ss Y)] (B (M P Y)) := by
  refine snd_of (fn := Tryd.f105) (af := gparts) Tryd.func105 (gparts_comp m) mixed (kn_ok m) (Nat.le_of_ble_eq_true rfl) ?_
  have hw1 : IntKind.i64.wrap ((Y.length : Int) + 1) = ((Y.length + 1 : Nat) : Int) := wrapN (Y.length + 1) (by omega) (by omega)
  have h0 : 0 < Y.length + 1 := by omega
  simp only [gparts, hw1, tab_none, tab_none, tab_len, frnL_tab, resL_tab, roL_tab, klL_tab, map_roD_tab, tab_get _ h0, tab_set, go_sem, reduceCtorEq, Nat.reduceEqDiff, reduceIte, Nat.reduceAdd, Nat.reduceSub, Nat.reduceLeDiff, Int.reduceToNat, Nat.reduceBEq]
  repeat (refine ⟨by (try simp only [List.length_append, List.length_cons, List.length_nil, List.length_drop, List.length_take]); omega, ?_⟩)
  have e : tab (Y.length + 1) (fun q => if q = 0 then true else false) = tab (Y.length + 1) fun q => M (P.take 0) (Y.take q) := tab_ext fun q hq => by
    rw [List.take_zero, M_nil]
    by_cases e : q = 0
    · subst e; rw [if_pos rfl, List.take_zero]; rfl
    · rw [if_neg e]
      cases hY : Y.take q with
      | nil => have := congrArg List.length hY; rw [List.length_take, List.length_nil] at this; omega
      | cons _ _ => rfl
  rw [e]
  exact gparts_loop P Y hP hS hb hbp hg _ 0 rfl (by omega) .junk (.inl rfl)
end Go.Gb
namespace Go.Gb
open Go.At (gl kn kn_ok tab0 mixed index1 indexByte hasPrefix trimSuffix replaceAll)
open Go Go.Ev Go.Proofs
open Go.Ln (u8b_t u8b_f u8n_t u8n_f getX idx idx_eq)
set_option linter.unusedVariables false
set_option linter.unusedSimpArgs false
attribute [local go_sem] eqs implies_true List.map_cons List.map_nil kl klL roD roL Option.map_some Option.map_none Option.getD_some Option.getD_none binVal binObl unVal if_true if_false eq_self passA frnD resD content getH getR getW viaNot viaSlot viaBox viaDeep viaMem List.contains_cons List.contains_nil grabs peeks okCells isCell place cellsOf chunk elt List.headD_cons List.length_cons List.length_nil List.take_succ_cons List.take_zero List.drop_succ_cons List.drop_zero List.nil_append List.cons_append List.append_nil List.all_cons List.all_nil plainC takeR setW over reCell List.getElem?_cons_zero List.getElem?_cons_succ List.set_cons_zero List.take_length outV resG plainV pack outVG outBx List.set_cons_succ Ref.idx Ref.addOff beq_self_eq_true bxL Option.bind_some writeR isLit viaBoxes capsPA boxPA nsOf noDup boxesAt argG passG passD rhoIn rhoOut idxIn tr trL List.getD_cons_zero gives pasOf isPtr Ins.d List.getD_cons_succ resL frnL
variable {m : Int}
def ppart_l0' : AC := .seq (.reg (.seq [⟨some (27, false), none, .bin .lss (.tmp 26 true) (.tmp 25 true)⟩])) [0, 25, 26, 27] []
  (.seq (.cond (.tmp 27 false)
    (.skip)
    (.exit 0)) [0, 25, 26] []
  (.seq (.block 1 (.seq (.reg (.seq [⟨some (28, false), none, .mov (.tmp 26 true) .take⟩,⟨some (3, true), none, .mov (.tmp 28 false) .asg⟩])) [0, 3, 25, 26] []
    (.seq (.reg (.seq [⟨some (29, false), none, .mov (.tmp 0 true) .peek⟩,⟨some (30, false), none, .mov (.tmp 3 true) .peek⟩,⟨some (31, false), none, .idx (.tmp 29 false) (.tmp 30 false)⟩,⟨some (32, false), none, .bin .lss (.tmp 31 false) (.cst (.int .u8 32) (.lit (.int .u8 32)))⟩])) [0, 25, 26, 32] []
    (.cond (.tmp 32 false)
      (.seq (.reg (.seq [⟨some (2, true), none, .mov (.cst (.bool false) (.lit (.bool false))) .asg⟩])) [2] []
      (.ret))
      (.skip))))) [0, 25, 26] []
  (.reg (.seq [⟨some (33, false), none, .bin .add (.tmp 26 true) (.cst (.int .i64 1) (.lit (.int .i64 1)))⟩,⟨some (26, true), none, .mov (.tmp 33 false) .peek⟩]))))
def ppart_l0 : AC := ppart_l0'
theorem ppart_l0_w (C : Kn) (K : Ex → St → Prop) (s : St) : vcC C ppart_l0 K s = vcC C ppart_l0' K s := nr rfl
def ppart_k1' : AC := .seq (.reg (.seq [⟨some (2, true), none, .mov (.cst (.bool true) (.lit (.bool true))) .asg⟩])) [2] []
  (.ret)
def ppart_k1 : AC := ppart_k1'
theorem ppart_k1_w (C : Kn) (K : Ex → St → Prop) (s : St) : vcC C ppart_k1 K s = vcC C ppart_k1' K s := nr rfl
def ppart : AF := ⟨.seq (.reg (.seq [⟨some (2, true), none, .mov (.cst (.bool false) (.lit (.bool false))) .asg⟩])) [0] []
  (.seq (.seq (.reg (.seq [⟨some (4, false), none, .mov (.tmp 0 true) .peek⟩,⟨some (5, false), none, .len (.tmp 4 false)⟩,⟨some (6, false), none, .bin .lss (.tmp 5 false) (.cst (.int .i64 1) (.lit (.int .i64 1)))⟩,⟨some (7, false), none, .mov (.tmp 6 false) .peek⟩,⟨some (8, false), (some (7, false)), .mov (.tmp 0 true) .peek⟩,⟨some (9, false), (some (7, false)), .len (.tmp 8 false)⟩,⟨some (10, false), (some (7, false)), .bin .gtr (.tmp 9 false) (.cst (.int .i64 64) (.lit (.int .i64 64)))⟩,⟨some (11, false), none, .pick (.tmp 7 false) (.cst (.bool true) (.lit (.bool true))) (.tmp 10 false)⟩,⟨some (12, false), none, .mov (.tmp 11 false) .peek⟩,⟨some (13, false), (some (12, false)), .mov (.tmp 0 true) .peek⟩,⟨some (14, false), (some (12, false)), .bin .eql (.tmp 13 false) (.cst (.string (str [46])) (.lit (.string (str [46]))))⟩,⟨some (15, false), none, .pick (.tmp 12 false) (.cst (.bool true) (.lit (.bool true))) (.tmp 14 false)⟩,⟨some (16, false), none, .mov (.tmp 15 false) .peek⟩,⟨some (17, false), (some (16, false)), .mov (.tmp 0 true) .peek⟩,⟨some (18, false), (some (16, false)), .bin .eql (.tmp 17 false) (.cst (.string (str [46, 46])) (.lit (.string (str [46, 46]))))⟩,⟨some (19, false), none, .pick (.tmp 16 false) (.cst (.bool true) (.lit (.bool true))) (.tmp 18 false)⟩,⟨some (20, false), none, .mov (.tmp 19 false) .peek⟩,⟨some (21, false), (some (20, false)), .mov (.tmp 0 true) .peek⟩,⟨some (22, false), (some (20, false)), .bin .eql (.tmp 21 false) (.cst (.string (str [46, 103, 114, 97, 102, 116])) (.lit (.string (str [46, 103, 114, 97, 102, 116]))))⟩,⟨some (23, false), none, .pick (.tmp 20 false) (.cst (.bool true) (.lit (.bool true))) (.tmp 22 false)⟩])) [0, 23] []
  (.cond (.tmp 23 false)
    (.seq (.reg (.seq [⟨some (2, true), none, .mov (.cst (.bool false) (.lit (.bool false))) .asg⟩])) [2] []
    (.ret))
    (.skip))) [0] []
  (.seq (.seq (.reg (.seq [⟨some (24, false), none, .mov (.tmp 0 true) .peek⟩,⟨some (25, true), none, .len (.tmp 24 false)⟩,⟨some (26, true), none, .mov (.cst (.int .i64 0) (.lit (.int .i64 0))) .peek⟩])) [0, 25, 26] []
  (.block 0 (.loop [0, 25, 26] [] ppart_l0))) [] [] ppart_k1)),
  [.tmp 2]⟩
theorem ppart_comp (m : Int) : compF Tryd.prog (gl m) [] Tryd.f102 = some ppart := by kernel_rfl
def pis_l0' : AC := .seq (.reg (.seq [⟨some (18, false), none, .bin .lss (.tmp 17 true) (.tmp 16 true)⟩])) [3, 15, 16, 17, 18] []
  (.seq (.cond (.tmp 18 false)
    (.skip)
    (.exit 0)) [3, 15, 16, 17] []
  (.seq (.block 1 (.seq (.reg (.seq [⟨some (19, false), none, .iad (.tmp 15 true) (.tmp 17 true) 1⟩,⟨some (20, false), none, .load (.tmp 19 false) 1 false false⟩,⟨some (5, true), none, .mov (.tmp 20 false) .asg⟩])) [3, 5, 15, 16, 17] []
    (.seq (.reg (.seq [⟨some (21, false), none, .mov (.tmp 5 true) .peek⟩,⟨some (22, false), none, .call 102 [.tmp 21 false]⟩,⟨some (23, false), none, .un .not (.tmp 22 false)⟩])) [3, 15, 16, 17, 23] []
    (.cond (.tmp 23 false)
      (.seq (.reg (.seq [⟨some (2, true), none, .mov (.cst (.bool false) (.lit (.bool false))) .asg⟩])) [2] []
      (.ret))
      (.skip))))) [3, 15, 16, 17] []
  (.reg (.seq [⟨some (24, false), none, .bin .add (.tmp 17 true) (.cst (.int .i64 1) (.lit (.int .i64 1)))⟩,⟨some (17, true), none, .mov (.tmp 24 false) .peek⟩]))))
def pis_l0 : AC := pis_l0'
theorem pis_l0_w (C : Kn) (K : Ex → St → Prop) (s : St) : vcC C pis_l0 K s = vcC C pis_l0' K s := nr rfl
def pis_k1' : AC := .seq (.reg (.seq [⟨some (25, false), none, .mov (.tmp 3 true) .peek⟩,⟨some (26, false), none, .lenL (.tmp 25 false)⟩,⟨some (27, false), none, .bin .leq (.tmp 26 false) (.cst (.int .i64 16) (.lit (.int .i64 16)))⟩,⟨some (2, true), none, .mov (.tmp 27 false) .asg⟩])) [2] []
  (.ret)
def pis_k1 : AC := pis_k1'
theorem pis_k1_w (C : Kn) (K : Ex → St → Prop) (s : St) : vcC C pis_k1 K s = vcC C pis_k1' K s := nr rfl
def pis : AF := ⟨.seq (.reg (.seq [⟨some (2, true), none, .mov (.cst (.bool false) (.lit (.bool false))) .asg⟩])) [0] []
  (.seq (.seq (.reg (.seq [⟨some (6, false), none, .mov (.tmp 0 true) .peek⟩,⟨some (7, false), none, .bin .eql (.tmp 6 false) (.cst (.string (str [])) (.lit (.string (str []))))⟩,⟨some (8, false), none, .mov (.tmp 7 false) .peek⟩,⟨some (9, false), (some (8, false)), .mov (.tmp 0 true) .peek⟩,⟨some (10, false), (some (8, false)), .len (.tmp 9 false)⟩,⟨some (11, false), (some (8, false)), .bin .gtr (.tmp 10 false) (.cst (.int .i64 255) (.lit (.int .i64 255)))⟩,⟨some (12, false), none, .pick (.tmp 8 false) (.cst (.bool true) (.lit (.bool true))) (.tmp 11 false)⟩])) [0, 12] []
  (.cond (.tmp 12 false)
    (.seq (.reg (.seq [⟨some (2, true), none, .mov (.cst (.bool false) (.lit (.bool false))) .asg⟩])) [2] []
    (.ret))
    (.skip))) [0] []
  (.seq (.reg (.seq [⟨some (13, false), none, .mov (.tmp 0 true) .peek⟩,⟨some (14, false), none, .call 101 [.tmp 13 false, (.cst (.string (str [47])) (.lit (.string (str [47]))))]⟩,⟨some (3, true), none, .mov (.tmp 14 false) .asg⟩])) [3] []
  (.seq (.seq (.reg (.seq [⟨some (15, true), none, .mov (.tmp 3 true) .peek⟩,⟨some (16, true), none, .lenL (.tmp 15 true)⟩,⟨some (17, true), none, .mov (.cst (.int .i64 0) (.lit (.int .i64 0))) .peek⟩])) [3, 15, 16, 17] []
  (.block 0 (.loop [3, 15, 16, 17] [] pis_l0))) [3] [] pis_k1))),
  [.tmp 2]⟩
theorem pis_comp (m : Int) : compF Tryd.prog (gl m) [] Tryd.f69 = some pis := by kernel_rfl
def pparts : AF := ⟨.seq (.reg (.seq [⟨some (2, true), none, .mov (.cst (.slice none 0 0) (.sl .own 1 [])) .asg⟩])) [0] []
  (.seq (.seq (.reg (.seq [⟨some (3, false), none, .mov (.tmp 0 true) .peek⟩,⟨some (4, false), none, .bin .eql (.tmp 3 false) (.cst (.string (str [])) (.lit (.string (str []))))⟩])) [0, 4] []
  (.cond (.tmp 4 false)
    (.seq (.reg (.seq [⟨some (2, true), none, .mov (.cst (.slice none 0 0) (.sl .own 1 [])) .asg⟩])) [2] []
    (.ret))
    (.skip))) [0] []
  (.seq (.reg (.seq [⟨some (5, false), none, .mov (.tmp 0 true) .peek⟩,⟨some (6, false), none, .call 101 [.tmp 5 false, (.cst (.string (str [47])) (.lit (.string (str [47]))))]⟩,⟨some (2, true), none, .mov (.tmp 6 false) .asg⟩])) [2] []
  (.ret))),
  [.tmp 2]⟩
theorem pparts_comp (m : Int) : compF Tryd.prog (gl m) [] Tryd.f106 = some pparts := by kernel_rfl
def gmatch : AF := ⟨.seq (.reg (.seq [⟨some (4, true), none, .mov (.cst (.bool false) (.lit (.bool false))) .asg⟩])) [0, 1] []
  (.seq (.reg (.seq [⟨some (5, false), none, .mov (.tmp 0 true) .peek⟩,⟨some (6, false), none, .call 89 [.tmp 5 false]⟩,⟨some (7, false), none, .mov (.tmp 6 false) .peek⟩,⟨some (8, false), (some (7, true)), .mov (.tmp 1 true) .peek⟩,⟨some (9, false), (some (7, true)), .call 69 [.tmp 8 false]⟩,⟨some (10, false), none, .pick (.tmp 7 false) (.tmp 9 false) (.cst (.bool false) (.lit (.bool false)))⟩,⟨some (11, false), none, .mov (.tmp 10 false) .peek⟩,⟨some (12, false), (some (11, true)), .mov (.tmp 0 true) .peek⟩,⟨some (13, false), (some (11, true)), .call 101 [.tmp 12 false, (.cst (.string (str [47])) (.lit (.string (str [47]))))]⟩,⟨some (14, false), (some (11, true)), .mov (.tmp 1 true) .peek⟩,⟨some (15, false), (some (11, true)), .call 106 [.tmp 14 false]⟩,⟨some (16, false), (some (11, true)), .call 105 [.tmp 13 false, .tmp 15 false]⟩,⟨some (17, false), none, .pick (.tmp 11 false) (.tmp 16 false) (.cst (.bool false) (.lit (.bool false)))⟩,⟨some (4, true), none, .mov (.tmp 17 false) .asg⟩])) [4] []
  (.ret)),
  [.tmp 4]⟩
theorem gmatch_comp (m : Int) : compF Tryd.prog (gl m) [] Tryd.f73 = some gmatch := by kernel_rfl
def gPart2 : AF := ⟨.seq (.reg (.seq [⟨some (4, true), none, .mov (.cst (.bool false) (.lit (.bool false))) .asg⟩])) [0, 1] []
  (.seq (.reg (.seq [⟨some (5, false), none, .mov (.tmp 0 true) .peek⟩,⟨some (6, false), none, .call 89 [.tmp 5 false]⟩,⟨some (7, false), none, .mov (.tmp 6 false) .peek⟩,⟨some (8, false), (some (7, true)), .mov (.tmp 0 true) .peek⟩,⟨some (9, false), (some (7, true)), .call 57 [.tmp 8 false, (.cst (.string (str [47])) (.lit (.string (str [47]))))]⟩,⟨some (10, false), (some (7, true)), .un .not (.tmp 9 false)⟩,⟨some (11, false), none, .pick (.tmp 7 false) (.tmp 10 false) (.cst (.bool false) (.lit (.bool false)))⟩,⟨some (12, false), none, .mov (.tmp 11 false) .peek⟩,⟨some (13, false), (some (12, true)), .mov (.tmp 1 true) .peek⟩,⟨some (14, false), (some (12, true)), .call 57 [.tmp 13 false, (.cst (.string (str [47])) (.lit (.string (str [47]))))]⟩,⟨some (15, false), (some (12, true)), .un .not (.tmp 14 false)⟩,⟨some (16, false), none, .pick (.tmp 12 false) (.tmp 15 false) (.cst (.bool false) (.lit (.bool false)))⟩,⟨some (17, false), none, .mov (.tmp 16 false) .peek⟩,⟨some (18, false), (some (17, true)), .mov (.tmp 0 true) .peek⟩,⟨some (19, false), (some (17, true)), .mov (.tmp 1 true) .peek⟩,⟨some (20, false), (some (17, true)), .call 103 [.tmp 18 false, .tmp 19 false]⟩,⟨some (21, false), none, .pick (.tmp 17 false) (.tmp 20 false) (.cst (.bool false) (.lit (.bool false)))⟩,⟨some (4, true), none, .mov (.tmp 21 false) .asg⟩])) [4] []
  (.ret)),
  [.tmp 4]⟩
theorem gPart2_comp (m : Int) : compF Tryd.prog (gl m) [] Tryd.f71 = some gPart2 := by kernel_rfl
theorem le32 (c : UInt8) : decide ((c.toNat : Int) < 32) = !decide (32 ≤ c) := by
  rw [Bool.eq_iff_iff, decide_eq_true_iff, Bool.not_eq_true', decide_eq_false_iff_not, UInt8.le_iff_toNat_le]
  have : (32 : UInt8).toNat = 32 := rfl
  omega
theorem ppart_loop (s : Ln.Bs) (hs : s.length ≤ 1048576) (n : Nat) : ∀ (i : Nat) (hn : s.length - i = n) (hi : i ≤ s.length),
    vcL (kn m) [0, 25, 26] [] ppart_l0 (blockK 0 (seqK (kn m) [] [] ppart_k1 (outOk [.tmp 2] (B ((s.drop i).all fun c => decide (32 ≤ c)))))) (mkS [(0, S s), (25, N s.length), (26, N i)] []) := by
  induction n with
  | zero =>
    intro i hn hi
    apply round
    simp only [ppart_l0_w, ppart_l0', go_sem, reduceCtorEq, Nat.reduceEqDiff, reduceIte, Nat.reduceAdd, Nat.reduceSub, Nat.reduceLeDiff, Int.reduceToNat, Nat.reduceBEq]
    rw [lt_f (by omega), List.drop_of_length_le (by omega)]
    simp only [ppart_k1_w, ppart_k1', go_sem, reduceCtorEq, Nat.reduceEqDiff, reduceIte, Nat.reduceAdd, Nat.reduceSub, Nat.reduceLeDiff, Int.reduceToNat, Nat.reduceBEq]
  | succ n ih =>
    intro i hn hi
    have hil : i < s.length := by omega
    have hw : IntKind.i64.wrap ((i : Int) + 1) = ((i + 1 : Nat) : Int) := wrapN (i + 1) (by omega) (by omega)
    rw [List.drop_eq_getElem_cons hil, List.all_cons]
    apply round
    simp only [ppart_l0_w, ppart_l0', go_sem, reduceCtorEq, Nat.reduceEqDiff, reduceIte, Nat.reduceAdd, Nat.reduceSub, Nat.reduceLeDiff, Int.reduceToNat, Nat.reduceBEq]
    rw [lt_t hil]
    simp only [getE hil, le32, go_sem, reduceCtorEq, Nat.reduceEqDiff, reduceIte, Nat.reduceAdd, Nat.reduceSub, Nat.reduceLeDiff, Int.reduceToNat, Nat.reduceBEq]
    refine ⟨by omega, ?_⟩
    cases hd : decide (32 ≤ s[i]) with
    | true =>
      simp only [hw, go_sem, reduceCtorEq, Nat.reduceEqDiff, reduceIte, Nat.reduceAdd, Nat.reduceSub, Nat.reduceLeDiff, Int.reduceToNat, Nat.reduceBEq]
      exact ih (i + 1) (by omega) (by omega)
    | false =>
      simp only [Bool.false_and, go_sem, reduceCtorEq, Nat.reduceEqDiff, reduceIte, Nat.reduceAdd, Nat.reduceSub, Nat.reduceLeDiff, Int.reduceToNat, Nat.reduceBEq]
theorem ppart_snd (s : Ln.Bs) (hs : s.length ≤ 1048576) : Snd Tryd.prog (gl m) 102 [S s] (B (okPart s)) := by
  refine snd_of (fn := Tryd.f102) (af := ppart) Tryd.func102 (ppart_comp m) mixed (kn_ok m) (Nat.le_of_ble_eq_true rfl) ?_
  simp only [ppart, go_sem, reduceCtorEq, Nat.reduceEqDiff, reduceIte, Nat.reduceAdd, Nat.reduceSub, Nat.reduceLeDiff, Int.reduceToNat, Nat.reduceBEq]
  by_cases h1 : 1 ≤ s.length
  · rw [ilt_f (by omega)]
    simp only [go_sem, reduceCtorEq, Nat.reduceEqDiff, reduceIte, Nat.reduceAdd, Nat.reduceSub, Nat.reduceLeDiff, Int.reduceToNat, Nat.reduceBEq]
    by_cases h2 : s.length ≤ 64
    · rw [igt_f (by omega)]
      simp only [go_sem, reduceCtorEq, Nat.reduceEqDiff, reduceIte, Nat.reduceAdd, Nat.reduceSub, Nat.reduceLeDiff, Int.reduceToNat, Nat.reduceBEq]
      by_cases h3 : s = [46]
      · rw [se_t h3, show okPart s = false by rw [h3]; rfl]
        simp only [go_sem, reduceCtorEq, Nat.reduceEqDiff, reduceIte, Nat.reduceAdd, Nat.reduceSub, Nat.reduceLeDiff, Int.reduceToNat, Nat.reduceBEq]
      · rw [se_f h3]
        simp only [go_sem, reduceCtorEq, Nat.reduceEqDiff, reduceIte, Nat.reduceAdd, Nat.reduceSub, Nat.reduceLeDiff, Int.reduceToNat, Nat.reduceBEq]
        by_cases h4 : s = [46, 46]
        · rw [se_t h4, show okPart s = false by rw [h4]; rfl]
          simp only [go_sem, reduceCtorEq, Nat.reduceEqDiff, reduceIte, Nat.reduceAdd, Nat.reduceSub, Nat.reduceLeDiff, Int.reduceToNat, Nat.reduceBEq]
        · rw [se_f h4]
          simp only [go_sem, reduceCtorEq, Nat.reduceEqDiff, reduceIte, Nat.reduceAdd, Nat.reduceSub, Nat.reduceLeDiff, Int.reduceToNat, Nat.reduceBEq]
          by_cases h5 : s = [46, 103, 114, 97, 102, 116]
          · rw [se_t h5, show okPart s = false by rw [h5]; rfl]
            simp only [go_sem, reduceCtorEq, Nat.reduceEqDiff, reduceIte, Nat.reduceAdd, Nat.reduceSub, Nat.reduceLeDiff, Int.reduceToNat, Nat.reduceBEq]
          · rw [se_f h5]
            simp only [go_sem, reduceCtorEq, Nat.reduceEqDiff, reduceIte, Nat.reduceAdd, Nat.reduceSub, Nat.reduceLeDiff, Int.reduceToNat, Nat.reduceBEq]
            rw [show okPart s = (s.drop 0).all fun c => decide (32 ≤ c) by simp [okPart, h1, h2, h3, h4, h5]]
            exact ppart_loop s hs _ 0 rfl (by omega)
    · rw [igt_t (by omega), show okPart s = false by simp [okPart, h2]]
      simp only [go_sem, reduceCtorEq, Nat.reduceEqDiff, reduceIte, Nat.reduceAdd, Nat.reduceSub, Nat.reduceLeDiff, Int.reduceToNat, Nat.reduceBEq]
  · rw [ilt_t (by omega), show okPart s = false by simp [okPart, h1]]
    simp only [go_sem, reduceCtorEq, Nat.reduceEqDiff, reduceIte, Nat.reduceAdd, Nat.reduceSub, Nat.reduceLeDiff, Int.reduceToNat, Nat.reduceBEq]
theorem pis_loop (L : List Ln.Bs) (hL : L.length ≤ 1048576) (hb : ∀ l, l ∈ L → l.length ≤ 1048576) (n : Nat) : ∀ (i : Nat) (hn : L.length - i = n) (hi : i ≤ L.length),
    vcL (kn m) [3, 15, 16, 17] [] pis_l0 (blockK 0 (seqK (kn m) [3] [] pis_k1 (outOk [.tmp 2] (B ((L.drop i).all okPart && decide (L.length ≤ 16)))))) (mkS [(3, .sl .own 1 (ss L)), (15, .bor ⟨.slot 3, []⟩), (16, N L.length), (17, N i)] []) := by
  induction n with
  | zero =>
    intro i hn hi
    apply round
    simp only [pis_l0_w, pis_l0', go_sem, reduceCtorEq, Nat.reduceEqDiff, reduceIte, Nat.reduceAdd, Nat.reduceSub, Nat.reduceLeDiff, Int.reduceToNat, Nat.reduceBEq]
    rw [lt_f (by omega), List.drop_of_length_le (by omega)]
    simp only [pis_k1_w, pis_k1', go_sem, reduceCtorEq, Nat.reduceEqDiff, reduceIte, Nat.reduceAdd, Nat.reduceSub, Nat.reduceLeDiff, Int.reduceToNat, Nat.reduceBEq]
    have e : decide ((L.length : Int) ≤ 16) = decide (L.length ≤ 16) := by rw [Bool.eq_iff_iff, decide_eq_true_iff, decide_eq_true_iff]; omega
    rw [e]
  | succ n ih =>
    intro i hn hi
    have hil : i < L.length := by omega
    have hlb := hb _ (List.getElem_mem hil)
    have hw : IntKind.i64.wrap ((i : Int) + 1) = ((i + 1 : Nat) : Int) := wrapN (i + 1) (by omega) (by omega)
    rw [List.drop_eq_getElem_cons hil, List.all_cons]
    apply round
    simp only [pis_l0_w, pis_l0', go_sem, reduceCtorEq, Nat.reduceEqDiff, reduceIte, Nat.reduceAdd, Nat.reduceSub, Nat.reduceLeDiff, Int.reduceToNat, Nat.reduceBEq]
    rw [lt_t hil]
    simp only [ssE L hil, go_sem, reduceCtorEq, Nat.reduceEqDiff, reduceIte, Nat.reduceAdd, Nat.reduceSub, Nat.reduceLeDiff, Int.reduceToNat, Nat.reduceBEq]
    repeat (refine ⟨by (try simp only [List.length_append, List.length_cons, List.length_nil, List.length_drop, List.length_take]); omega, ?_⟩)
    refine of_call (ppart_snd L[i] (by omega)) ?_
    simp only [unVal, go_sem, reduceCtorEq, Nat.reduceEqDiff, reduceIte, Nat.reduceAdd, Nat.reduceSub, Nat.reduceLeDiff, Int.reduceToNat, Nat.reduceBEq]
    cases hd : okPart L[i] with
    | true =>
      simp only [hw, go_sem, reduceCtorEq, Nat.reduceEqDiff, reduceIte, Nat.reduceAdd, Nat.reduceSub, Nat.reduceLeDiff, Int.reduceToNat, Nat.reduceBEq]
      exact ih (i + 1) (by omega) (by omega)
    | false =>
      simp only [Bool.false_and, go_sem, reduceCtorEq, Nat.reduceEqDiff, reduceIte, Nat.reduceAdd, Nat.reduceSub, Nat.reduceLeDiff, Int.reduceToNat, Nat.reduceBEq]
theorem pis_snd (p : Ln.Bs) (hp : p.length ≤ 1048576) : Snd Tryd.prog (gl m) 69 [S p] (B (isPath p)) := by
  refine snd_of (fn := Tryd.f69) (af := pis) Tryd.func69 (pis_comp m) mixed (kn_ok m) (Nat.le_of_ble_eq_true rfl) ?_
  simp only [pis, go_sem, reduceCtorEq, Nat.reduceEqDiff, reduceIte, Nat.reduceAdd, Nat.reduceSub, Nat.reduceLeDiff, Int.reduceToNat, Nat.reduceBEq]
  have hpl := pieces_len p
  by_cases h1 : p = []
  · rw [se_t h1, show isPath p = false by simp [isPath, h1]]
    simp only [go_sem, reduceCtorEq, Nat.reduceEqDiff, reduceIte, Nat.reduceAdd, Nat.reduceSub, Nat.reduceLeDiff, Int.reduceToNat, Nat.reduceBEq]
  · rw [se_f h1]
    simp only [go_sem, reduceCtorEq, Nat.reduceEqDiff, reduceIte, Nat.reduceAdd, Nat.reduceSub, Nat.reduceLeDiff, Int.reduceToNat, Nat.reduceBEq]
    by_cases h2 : p.length ≤ 255
    · rw [igt_f (by omega)]
      simp only [go_sem, reduceCtorEq, Nat.reduceEqDiff, reduceIte, Nat.reduceAdd, Nat.reduceSub, Nat.reduceLeDiff, Int.reduceToNat, Nat.reduceBEq]
      refine of_call (split_snd p hp) ?_
      simp only [go_sem, reduceCtorEq, Nat.reduceEqDiff, reduceIte, Nat.reduceAdd, Nat.reduceSub, Nat.reduceLeDiff, Int.reduceToNat, Nat.reduceBEq]
      have := pis_loop (m := m) (pieces p) (by omega) (fun l hl => by have := piece_len hl; omega) _ 0 rfl (by omega)
      rw [show isPath p = (((pieces p).drop 0).all okPart && decide ((pieces p).length ≤ 16)) by simp [isPath, h1, h2]]
      exact this
    · rw [igt_t (by omega), show isPath p = false by simp [isPath, h2]]
      simp only [go_sem, reduceCtorEq, Nat.reduceEqDiff, reduceIte, Nat.reduceAdd, Nat.reduceSub, Nat.reduceLeDiff, Int.reduceToNat, Nat.reduceBEq]
theorem pparts_snd (p : Ln.Bs) (hp : p.length ≤ 1048576) : Snd Tryd.prog (gl m) 106 [S p] (.sl .own 1 (ss (parts p))) := by
  refine snd_of (fn := Tryd.f106) (af := pparts) Tryd.func106 (pparts_comp m) mixed (kn_ok m) (Nat.le_of_ble_eq_true rfl) ?_
  simp only [pparts, go_sem, reduceCtorEq, Nat.reduceEqDiff, reduceIte, Nat.reduceAdd, Nat.reduceSub, Nat.reduceLeDiff, Int.reduceToNat, Nat.reduceBEq]
  unfold parts
  by_cases h1 : p = []
  · rw [se_t h1, if_pos h1]
    simp only [go_sem, reduceCtorEq, Nat.reduceEqDiff, reduceIte, Nat.reduceAdd, Nat.reduceSub, Nat.reduceLeDiff, Int.reduceToNat, Nat.reduceBEq]
    rfl
  · rw [se_f h1, if_neg h1]
    simp only [go_sem, reduceCtorEq, Nat.reduceEqDiff, reduceIte, Nat.reduceAdd, Nat.reduceSub, Nat.reduceLeDiff, Int.reduceToNat, Nat.reduceBEq]
    refine of_call (split_snd p hp) ?_
    simp only [go_sem, reduceCtorEq, Nat.reduceEqDiff, reduceIte, Nat.reduceAdd, Nat.reduceSub, Nat.reduceLeDiff, Int.reduceToNat, Nat.reduceBEq]
theorem good_toks {x : Ln.Bs} (h : good x = true) : ∃ L, toks x = some L := by
  simp only [good, Bool.and_eq_true] at h
  exact Option.isSome_iff_exists.1 h.2
theorem parts_len (p : Ln.Bs) : (parts p).length ≤ p.length + 1 := by
  unfold parts; split
  · simp
  · exact pieces_len p
theorem part_len {p x : Ln.Bs} (h : x ∈ parts p) : x.length ≤ p.length := by
  unfold parts at h
  split at h
  · cases h
  · exact piece_len h
theorem gmatch_snd (p s : Ln.Bs) (hp : p.length ≤ 1048575) (hs : s.length ≤ 1048575) : Snd Tryd.prog (gl m) 73 [S p, S s] (B (matchF p s)) := by
  refine snd_of (fn := Tryd.f73) (af := gmatch) Tryd.func73 (gmatch_comp m) mixed (kn_ok m) (Nat.le_of_ble_eq_true rfl) ?_
  simp only [gmatch, go_sem, reduceCtorEq, Nat.reduceEqDiff, reduceIte, Nat.reduceAdd, Nat.reduceSub, Nat.reduceLeDiff, Int.reduceToNat, Nat.reduceBEq]
  have h3 := pieces_len p
  have h4 := parts_len s
  refine of_call (gis_snd p (by omega)) ?_
  simp only [go_sem, reduceCtorEq, Nat.reduceEqDiff, reduceIte, Nat.reduceAdd, Nat.reduceSub, Nat.reduceLeDiff, Int.reduceToNat, Nat.reduceBEq]
  unfold matchF
  cases h1 : isPat p with
  | false => simp only [Bool.false_and, go_sem, reduceCtorEq, Nat.reduceEqDiff, reduceIte, Nat.reduceAdd, Nat.reduceSub, Nat.reduceLeDiff, Int.reduceToNat, Nat.reduceBEq]
  | true =>
    simp only [go_sem, reduceCtorEq, Nat.reduceEqDiff, reduceIte, Nat.reduceAdd, Nat.reduceSub, Nat.reduceLeDiff, Int.reduceToNat, Nat.reduceBEq]
    refine of_call (pis_snd s (by omega)) ?_
    simp only [go_sem, reduceCtorEq, Nat.reduceEqDiff, reduceIte, Nat.reduceAdd, Nat.reduceSub, Nat.reduceLeDiff, Int.reduceToNat, Nat.reduceBEq]
    cases h2 : isPath s with
    | false => simp only [Bool.false_and, go_sem, reduceCtorEq, Nat.reduceEqDiff, reduceIte, Nat.reduceAdd, Nat.reduceSub, Nat.reduceLeDiff, Int.reduceToNat, Nat.reduceBEq]
    | true =>
      simp only [go_sem, reduceCtorEq, Nat.reduceEqDiff, reduceIte, Nat.reduceAdd, Nat.reduceSub, Nat.reduceLeDiff, Int.reduceToNat, Nat.reduceBEq]
      refine of_call (split_snd p (by omega)) ?_
      simp only [go_sem, reduceCtorEq, Nat.reduceEqDiff, reduceIte, Nat.reduceAdd, Nat.reduceSub, Nat.reduceLeDiff, Int.reduceToNat, Nat.reduceBEq]
      refine of_call (pparts_snd s (by omega)) ?_
      simp only [go_sem, reduceCtorEq, Nat.reduceEqDiff, reduceIte, Nat.reduceAdd, Nat.reduceSub, Nat.reduceLeDiff, Int.reduceToNat, Nat.reduceBEq]
      have hg : ∀ x, x ∈ pieces p → ∃ L, toks x = some L := fun x hx => by
        simp only [isPat, Bool.and_eq_true] at h1
        exact good_toks (List.all_eq_true.1 h1.2 x hx)
      refine of_call (gparts_snd (pieces p) (parts s) (by omega) (by omega) (fun l hl => by have := part_len hl; omega) (fun l hl => by have := piece_len hl; omega) hg) ?_
      simp only [go_sem, reduceCtorEq, Nat.reduceEqDiff, reduceIte, Nat.reduceAdd, Nat.reduceSub, Nat.reduceLeDiff, Int.reduceToNat, Nat.reduceBEq]
def partP (p s : Ln.Bs) : Bool := isPat p && !p.contains 47 && !s.contains 47 && partF p s
theorem pieces_free {p : Ln.Bs} (h : p.contains 47 = false) : pieces p = [p] := by
  refine pieces_none (Ln.idx_none fun j hj e => ?_)
  rw [getE hj] at e
  injection e with e
  have : p.contains 47 = true := List.contains_iff_mem.2 (by rw [← e]; exact List.getElem_mem hj)
  rw [h] at this; cases this
theorem gPart_snd (p s : Ln.Bs) (hp : p.length ≤ 1048575) (hs : s.length ≤ 1048575) : Snd Tryd.prog (gl m) 71 [S p, S s] (B (partP p s)) := by
  refine snd_of (fn := Tryd.f71) (af := gPart2) Tryd.func71 (gPart2_comp m) mixed (kn_ok m) (Nat.le_of_ble_eq_true rfl) ?_
  simp only [gPart2, go_sem, reduceCtorEq, Nat.reduceEqDiff, reduceIte, Nat.reduceAdd, Nat.reduceSub, Nat.reduceLeDiff, Int.reduceToNat, Nat.reduceBEq]
  refine of_call (gis_snd p (by omega)) ?_
  simp only [go_sem, reduceCtorEq, Nat.reduceEqDiff, reduceIte, Nat.reduceAdd, Nat.reduceSub, Nat.reduceLeDiff, Int.reduceToNat, Nat.reduceBEq]
  unfold partP
  cases h1 : isPat p with
  | false => simp only [Bool.false_and, go_sem, reduceCtorEq, Nat.reduceEqDiff, reduceIte, Nat.reduceAdd, Nat.reduceSub, Nat.reduceLeDiff, Int.reduceToNat, Nat.reduceBEq]
  | true =>
    simp only [go_sem, reduceCtorEq, Nat.reduceEqDiff, reduceIte, Nat.reduceAdd, Nat.reduceSub, Nat.reduceLeDiff, Int.reduceToNat, Nat.reduceBEq]
    refine of_call (contains_snd p (by omega)) ?_
    simp only [unVal, go_sem, reduceCtorEq, Nat.reduceEqDiff, reduceIte, Nat.reduceAdd, Nat.reduceSub, Nat.reduceLeDiff, Int.reduceToNat, Nat.reduceBEq]
    cases h2 : p.contains 47 with
    | true => simp only [Bool.false_and, go_sem, reduceCtorEq, Nat.reduceEqDiff, reduceIte, Nat.reduceAdd, Nat.reduceSub, Nat.reduceLeDiff, Int.reduceToNat, Nat.reduceBEq]
    | false =>
      simp only [go_sem, reduceCtorEq, Nat.reduceEqDiff, reduceIte, Nat.reduceAdd, Nat.reduceSub, Nat.reduceLeDiff, Int.reduceToNat, Nat.reduceBEq]
      refine of_call (contains_snd s (by omega)) ?_
      simp only [unVal, go_sem, reduceCtorEq, Nat.reduceEqDiff, reduceIte, Nat.reduceAdd, Nat.reduceSub, Nat.reduceLeDiff, Int.reduceToNat, Nat.reduceBEq]
      cases h3 : s.contains 47 with
      | true => simp only [Bool.false_and, go_sem, reduceCtorEq, Nat.reduceEqDiff, reduceIte, Nat.reduceAdd, Nat.reduceSub, Nat.reduceLeDiff, Int.reduceToNat, Nat.reduceBEq]
      | false =>
        simp only [go_sem, reduceCtorEq, Nat.reduceEqDiff, reduceIte, Nat.reduceAdd, Nat.reduceSub, Nat.reduceLeDiff, Int.reduceToNat, Nat.reduceBEq]
        obtain ⟨L, hL⟩ : ∃ L, toks p = some L := by
          simp only [isPat, Bool.and_eq_true, pieces_free h2, List.all_cons, List.all_nil] at h1
          exact good_toks h1.2.1
        refine of_call (gpart_snd p s (by omega) (by omega) L hL) ?_
        rw [partF, hL]
        simp only [go_sem, reduceCtorEq, Nat.reduceEqDiff, reduceIte, Nat.reduceAdd, Nat.reduceSub, Nat.reduceLeDiff, Int.reduceToNat, Nat.reduceBEq]
end Go.Gb
namespace Go.Gb
open Go.At (gl kn kn_ok tab0 mixed index1 indexByte hasPrefix trimSuffix replaceAll)
open Go Go.Ev Go.Proofs
open Go.Ln (u8b_t u8b_f u8n_t u8n_f getX idx idx_eq idx_of idx_none)
set_option linter.unusedVariables false
set_option linter.unusedSimpArgs false
attribute [local go_sem] eqs implies_true List.map_cons List.map_nil kl klL roD roL Option.map_some Option.map_none Option.getD_some Option.getD_none binVal binObl unVal if_true if_false eq_self passA frnD resD content getH getR getW viaNot viaSlot viaBox viaDeep viaMem List.contains_cons List.contains_nil grabs peeks okCells isCell place cellsOf chunk elt List.headD_cons List.length_cons List.length_nil List.take_succ_cons List.take_zero List.drop_succ_cons List.drop_zero List.nil_append List.cons_append List.append_nil List.all_cons List.all_nil plainC takeR setW over reCell List.getElem?_cons_zero List.getElem?_cons_succ List.set_cons_zero List.take_length outV resG plainV pack outVG outBx List.set_cons_succ Ref.idx Ref.addOff beq_self_eq_true bxL Option.bind_some writeR isLit viaBoxes capsPA boxPA nsOf noDup boxesAt argG passG passD rhoIn rhoOut idxIn tr trL List.getD_cons_zero gives pasOf isPtr Ins.d List.getD_cons_succ resL frnL
variable {m : Int}
def rparts_l0' : AC := .seq (.seq (.reg (.seq [⟨some (8, false), none, .mov (.tmp 5 true) .peek⟩,⟨some (9, false), none, .mov (.tmp 0 true) .peek⟩,⟨some (10, false), none, .len (.tmp 9 false)⟩,⟨some (11, false), none, .bin .lss (.tmp 8 false) (.tmp 10 false)⟩])) [0, 3, 4, 5, 11] []
  (.cond (.tmp 11 false)
    (.skip)
    (.exit 0))) [0, 3, 4, 5] []
  (.seq (.block 1 (.seq (.reg (.seq [⟨some (14, false), none, .mov (.tmp 0 true) .peek⟩,⟨some (15, false), none, .mov (.tmp 5 true) .peek⟩,⟨some (16, false), none, .idx (.tmp 14 false) (.tmp 15 false)⟩,⟨some (17, false), none, .bin .eql (.tmp 16 false) (.cst (.int .u8 47) (.lit (.int .u8 47)))⟩])) [0, 3, 4, 5, 17] []
    (.cond (.tmp 17 false)
      (.seq (.reg (.seq [⟨some (18, false), none, .mov (.tmp 3 true) .take⟩,⟨some (19, false), none, .mov (.tmp 0 true) .peek⟩,⟨some (20, false), none, .mov (.tmp 4 true) .peek⟩,⟨some (21, false), none, .mov (.tmp 5 true) .peek⟩,⟨some (22, false), none, .sub (.tmp 19 false) (some (.tmp 20 false)) (some (.tmp 21 false))⟩,⟨some (23, false), none, .buildS 1 1 [(.lit (.string (str [])))] [(0, 1, (.tmp 22 false))]⟩,⟨some (24, false), none, .app 1 16 (.tmp 18 false) (.tmp 23 false)⟩,⟨some (3, true), none, .mov (.tmp 24 false) .asg⟩])) [0, 3, 5] []
      (.reg (.seq [⟨some (25, false), none, .mov (.tmp 5 true) .peek⟩,⟨some (26, false), none, .bin .add (.tmp 25 false) (.cst (.int .i64 1) (.lit (.int .i64 1)))⟩,⟨some (4, true), none, .mov (.tmp 26 false) .asg⟩])))
      (.skip)))) [0, 3, 4, 5] []
  (.reg (.seq [⟨some (12, false), none, .mov (.tmp 5 true) .peek⟩,⟨some (13, false), none, .bin .add (.tmp 12 false) (.cst (.int .i64 1) (.lit (.int .i64 1)))⟩,⟨some (5, true), none, .mov (.tmp 13 false) .asg⟩])))
def rparts_l0 : AC := rparts_l0'
theorem rparts_l0_w (C : Kn) (K : Ex → St → Prop) (s : St) : vcC C rparts_l0 K s = vcC C rparts_l0' K s := nr rfl
def rparts_k1' : AC := .seq (.reg (.seq [⟨some (27, false), none, .mov (.tmp 3 true) .take⟩,⟨some (28, false), none, .mov (.tmp 0 true) .peek⟩,⟨some (29, false), none, .mov (.tmp 4 true) .peek⟩,⟨some (30, false), none, .sub (.tmp 28 false) (some (.tmp 29 false)) none⟩,⟨some (31, false), none, .buildS 1 1 [(.lit (.string (str [])))] [(0, 1, (.tmp 30 false))]⟩,⟨some (32, false), none, .app 1 16 (.tmp 27 false) (.tmp 31 false)⟩,⟨some (2, true), none, .mov (.tmp 32 false) .asg⟩])) [2] []
  (.ret)
def rparts_k1 : AC := rparts_k1'
theorem rparts_k1_w (C : Kn) (K : Ex → St → Prop) (s : St) : vcC C rparts_k1 K s = vcC C rparts_k1' K s := nr rfl
def rparts : AF := ⟨.seq (.reg (.seq [⟨some (2, true), none, .mov (.cst (.slice none 0 0) (.sl .own 1 [])) .asg⟩])) [0] []
  (.seq (.seq (.reg (.seq [⟨some (6, false), none, .mov (.tmp 0 true) .peek⟩,⟨some (7, false), none, .bin .eql (.tmp 6 false) (.cst (.string (str [])) (.lit (.string (str []))))⟩])) [0, 7] []
  (.cond (.tmp 7 false)
    (.seq (.reg (.seq [⟨some (2, true), none, .mov (.cst (.slice none 0 0) (.sl .own 1 [])) .asg⟩])) [2] []
    (.ret))
    (.skip))) [0] []
  (.seq (.reg (.seq [⟨some (3, true), none, .mov (.cst (.slice none 0 0) (.sl .own 1 [])) .asg⟩])) [0, 3] []
  (.seq (.reg (.seq [⟨some (4, true), none, .mov (.cst (.int .i64 0) (.lit (.int .i64 0))) .asg⟩])) [0, 3, 4] []
  (.seq (.seq (.reg (.seq [⟨some (5, true), none, .mov (.cst (.int .i64 0) (.lit (.int .i64 0))) .asg⟩])) [0, 3, 4, 5] []
  (.block 0 (.loop [0, 3, 4, 5] [] rparts_l0))) [0, 3, 4] [] rparts_k1)))),
  [.tmp 2]⟩
theorem rparts_comp (m : Int) : compF Tryd.prog (gl m) [] Tryd.f43 = some rparts := by kernel_rfl
def rpart_l0' : AC := .seq (.seq (.reg (.seq [⟨some (24, false), none, .mov (.tmp 3 true) .peek⟩,⟨some (25, false), none, .mov (.tmp 0 true) .peek⟩,⟨some (26, false), none, .len (.tmp 25 false)⟩,⟨some (27, false), none, .bin .lss (.tmp 24 false) (.tmp 26 false)⟩])) [0, 3, 27] []
  (.cond (.tmp 27 false)
    (.skip)
    (.exit 0))) [0, 3] []
  (.seq (.block 1 (.seq (.reg (.seq [⟨some (30, false), none, .mov (.tmp 0 true) .peek⟩,⟨some (31, false), none, .mov (.tmp 3 true) .peek⟩,⟨some (32, false), none, .idx (.tmp 30 false) (.tmp 31 false)⟩,⟨some (33, false), none, .bin .lss (.tmp 32 false) (.cst (.int .u8 32) (.lit (.int .u8 32)))⟩,⟨some (34, false), none, .mov (.tmp 33 false) .peek⟩,⟨some (35, false), (some (34, false)), .mov (.tmp 0 true) .peek⟩,⟨some (36, false), (some (34, false)), .mov (.tmp 3 true) .peek⟩,⟨some (37, false), (some (34, false)), .idx (.tmp 35 false) (.tmp 36 false)⟩,⟨some (38, false), (some (34, false)), .bin .eql (.tmp 37 false) (.cst (.int .u8 47) (.lit (.int .u8 47)))⟩,⟨some (39, false), none, .pick (.tmp 34 false) (.cst (.bool true) (.lit (.bool true))) (.tmp 38 false)⟩])) [0, 3, 39] []
    (.cond (.tmp 39 false)
      (.seq (.reg (.seq [⟨some (2, true), none, .mov (.cst (.bool false) (.lit (.bool false))) .asg⟩])) [2] []
      (.ret))
      (.skip)))) [0, 3] []
  (.reg (.seq [⟨some (28, false), none, .mov (.tmp 3 true) .peek⟩,⟨some (29, false), none, .bin .add (.tmp 28 false) (.cst (.int .i64 1) (.lit (.int .i64 1)))⟩,⟨some (3, true), none, .mov (.tmp 29 false) .asg⟩])))
def rpart_l0 : AC := rpart_l0'
theorem rpart_l0_w (C : Kn) (K : Ex → St → Prop) (s : St) : vcC C rpart_l0 K s = vcC C rpart_l0' K s := nr rfl
def rpart_k1' : AC := .seq (.reg (.seq [⟨some (2, true), none, .mov (.cst (.bool true) (.lit (.bool true))) .asg⟩])) [2] []
  (.ret)
def rpart_k1 : AC := rpart_k1'
theorem rpart_k1_w (C : Kn) (K : Ex → St → Prop) (s : St) : vcC C rpart_k1 K s = vcC C rpart_k1' K s := nr rfl
def rpart : AF := ⟨.seq (.reg (.seq [⟨some (2, true), none, .mov (.cst (.bool false) (.lit (.bool false))) .asg⟩])) [0] []
  (.seq (.seq (.reg (.seq [⟨some (4, false), none, .mov (.tmp 0 true) .peek⟩,⟨some (5, false), none, .len (.tmp 4 false)⟩,⟨some (6, false), none, .bin .lss (.tmp 5 false) (.cst (.int .i64 1) (.lit (.int .i64 1)))⟩,⟨some (7, false), none, .mov (.tmp 6 false) .peek⟩,⟨some (8, false), (some (7, false)), .mov (.tmp 0 true) .peek⟩,⟨some (9, false), (some (7, false)), .len (.tmp 8 false)⟩,⟨some (10, false), (some (7, false)), .bin .gtr (.tmp 9 false) (.cst (.int .i64 64) (.lit (.int .i64 64)))⟩,⟨some (11, false), none, .pick (.tmp 7 false) (.cst (.bool true) (.lit (.bool true))) (.tmp 10 false)⟩,⟨some (12, false), none, .mov (.tmp 11 false) .peek⟩,⟨some (13, false), (some (12, false)), .mov (.tmp 0 true) .peek⟩,⟨some (14, false), (some (12, false)), .bin .eql (.tmp 13 false) (.cst (.string (str [46])) (.lit (.string (str [46]))))⟩,⟨some (15, false), none, .pick (.tmp 12 false) (.cst (.bool true) (.lit (.bool true))) (.tmp 14 false)⟩,⟨some (16, false), none, .mov (.tmp 15 false) .peek⟩,⟨some (17, false), (some (16, false)), .mov (.tmp 0 true) .peek⟩,⟨some (18, false), (some (16, false)), .bin .eql (.tmp 17 false) (.cst (.string (str [46, 46])) (.lit (.string (str [46, 46]))))⟩,⟨some (19, false), none, .pick (.tmp 16 false) (.cst (.bool true) (.lit (.bool true))) (.tmp 18 false)⟩,⟨some (20, false), none, .mov (.tmp 19 false) .peek⟩,⟨some (21, false), (some (20, false)), .mov (.tmp 0 true) .peek⟩,⟨some (22, false), (some (20, false)), .bin .eql (.tmp 21 false) (.cst (.string (str [46, 103, 114, 97, 102, 116])) (.lit (.string (str [46, 103, 114, 97, 102, 116]))))⟩,⟨some (23, false), none, .pick (.tmp 20 false) (.cst (.bool true) (.lit (.bool true))) (.tmp 22 false)⟩])) [0, 23] []
  (.cond (.tmp 23 false)
    (.seq (.reg (.seq [⟨some (2, true), none, .mov (.cst (.bool false) (.lit (.bool false))) .asg⟩])) [2] []
    (.ret))
    (.skip))) [0] []
  (.seq (.seq (.reg (.seq [⟨some (3, true), none, .mov (.cst (.int .i64 0) (.lit (.int .i64 0))) .asg⟩])) [0, 3] []
  (.block 0 (.loop [0, 3] [] rpart_l0))) [] [] rpart_k1)),
  [.tmp 2]⟩
theorem rpart_comp (m : Int) : compF Tryd.prog (gl m) [] Tryd.f44 = some rpart := by kernel_rfl
def ris_l0' : AC := .seq (.seq (.reg (.seq [⟨some (20, false), none, .mov (.tmp 4 true) .peek⟩,⟨some (21, false), none, .mov (.tmp 3 true) .peek⟩,⟨some (22, false), none, .lenL (.tmp 21 false)⟩,⟨some (23, false), none, .bin .lss (.tmp 20 false) (.tmp 22 false)⟩])) [3, 4, 23] []
  (.cond (.tmp 23 false)
    (.skip)
    (.exit 0))) [3, 4] []
  (.seq (.block 1 (.seq (.reg (.seq [⟨some (26, false), none, .mov (.tmp 3 true) .peek⟩,⟨some (27, false), none, .mov (.tmp 4 true) .peek⟩,⟨some (28, false), none, .iad (.tmp 26 false) (.tmp 27 false) 1⟩,⟨some (29, false), none, .load (.tmp 28 false) 1 false false⟩,⟨some (30, false), none, .call 44 [.tmp 29 false]⟩,⟨some (31, false), none, .un .not (.tmp 30 false)⟩])) [3, 4, 31] []
    (.cond (.tmp 31 false)
      (.seq (.reg (.seq [⟨some (2, true), none, .mov (.cst (.bool false) (.lit (.bool false))) .asg⟩])) [2] []
      (.ret))
      (.skip)))) [3, 4] []
  (.reg (.seq [⟨some (24, false), none, .mov (.tmp 4 true) .peek⟩,⟨some (25, false), none, .bin .add (.tmp 24 false) (.cst (.int .i64 1) (.lit (.int .i64 1)))⟩,⟨some (4, true), none, .mov (.tmp 25 false) .asg⟩])))
def ris_l0 : AC := ris_l0'
theorem ris_l0_w (C : Kn) (K : Ex → St → Prop) (s : St) : vcC C ris_l0 K s = vcC C ris_l0' K s := nr rfl
def ris_k1' : AC := .seq (.reg (.seq [⟨some (2, true), none, .mov (.cst (.bool true) (.lit (.bool true))) .asg⟩])) [2] []
  (.ret)
def ris_k1 : AC := ris_k1'
theorem ris_k1_w (C : Kn) (K : Ex → St → Prop) (s : St) : vcC C ris_k1 K s = vcC C ris_k1' K s := nr rfl
def ris : AF := ⟨.seq (.reg (.seq [⟨some (2, true), none, .mov (.cst (.bool false) (.lit (.bool false))) .asg⟩])) [0] []
  (.seq (.reg (.seq [⟨some (5, false), none, .mov (.tmp 0 true) .peek⟩,⟨some (6, false), none, .call 43 [.tmp 5 false]⟩,⟨some (3, true), none, .mov (.tmp 6 false) .asg⟩])) [0, 3] []
  (.seq (.seq (.reg (.seq [⟨some (7, false), none, .mov (.tmp 3 true) .peek⟩,⟨some (8, false), none, .lenL (.tmp 7 false)⟩,⟨some (9, false), none, .bin .lss (.tmp 8 false) (.cst (.int .i64 1) (.lit (.int .i64 1)))⟩,⟨some (10, false), none, .mov (.tmp 9 false) .peek⟩,⟨some (11, false), (some (10, false)), .mov (.tmp 3 true) .peek⟩,⟨some (12, false), (some (10, false)), .lenL (.tmp 11 false)⟩,⟨some (13, false), (some (10, false)), .bin .gtr (.tmp 12 false) (.cst (.int .i64 16) (.lit (.int .i64 16)))⟩,⟨some (14, false), none, .pick (.tmp 10 false) (.cst (.bool true) (.lit (.bool true))) (.tmp 13 false)⟩,⟨some (15, false), none, .mov (.tmp 14 false) .peek⟩,⟨some (16, false), (some (15, false)), .mov (.tmp 0 true) .peek⟩,⟨some (17, false), (some (15, false)), .len (.tmp 16 false)⟩,⟨some (18, false), (some (15, false)), .bin .gtr (.tmp 17 false) (.cst (.int .i64 255) (.lit (.int .i64 255)))⟩,⟨some (19, false), none, .pick (.tmp 15 false) (.cst (.bool true) (.lit (.bool true))) (.tmp 18 false)⟩])) [3, 19] []
  (.cond (.tmp 19 false)
    (.seq (.reg (.seq [⟨some (2, true), none, .mov (.cst (.bool false) (.lit (.bool false))) .asg⟩])) [2] []
    (.ret))
    (.skip))) [3] []
  (.seq (.seq (.reg (.seq [⟨some (4, true), none, .mov (.cst (.int .i64 0) (.lit (.int .i64 0))) .asg⟩])) [3, 4] []
  (.block 0 (.loop [3, 4] [] ris_l0))) [] [] ris_k1))),
  [.tmp 2]⟩
theorem ris_comp (m : Int) : compF Tryd.prog (gl m) [] Tryd.f14 = some ris := by kernel_rfl
theorem rparts_loop (s : Ln.Bs) (hs : s.length ≤ 1048576) (n : Nat) : ∀ (i k : Nat) (hn : s.length - i = n) (hki : k ≤ i) (hi : i ≤ s.length) (hno : ∀ j, k ≤ j → j < i → s[j]? ≠ some 47) (acc : List Ln.Bs) (ha : acc.length ≤ k),
    vcL (kn m) [0, 3, 4, 5] [] rparts_l0 (blockK 0 (seqK (kn m) [0, 3, 4] [] rparts_k1 (outOk [.tmp 2] (.sl .own 1 (ss (acc ++ pieces (s.drop k))))))) (mkS [(0, S s), (3, .sl .own 1 (ss acc)), (4, N k), (5, N i)] []) := by
  induction n with
  | zero =>
    intro i k hn hki hi hno acc ha
    have hil : i = s.length := by omega
    subst hil
    apply round
    simp only [rparts_l0_w, rparts_l0', go_sem, reduceCtorEq, Nat.reduceEqDiff, reduceIte, Nat.reduceAdd, Nat.reduceSub, Nat.reduceLeDiff, Int.reduceToNat, Nat.reduceBEq]
    rw [lt_f (by omega)]
    simp only [rparts_k1_w, rparts_k1', go_sem, reduceCtorEq, Nat.reduceEqDiff, reduceIte, Nat.reduceAdd, Nat.reduceSub, Nat.reduceLeDiff, Int.reduceToNat, Nat.reduceBEq]
    repeat (refine ⟨by (try simp only [List.length_append, List.length_cons, List.length_nil, List.length_drop, List.length_take]); omega, ?_⟩)
    have : idx (s.drop k) 47 = none := idx_none fun j hj => by rw [List.getElem?_drop]; exact hno _ (by omega) (by simp at hj; omega)
    rw [pieces_none this]
  | succ n ih =>
    intro i k hn hki hi hno acc ha
    have hil : i < s.length := by omega
    have hw : IntKind.i64.wrap ((i : Int) + 1) = ((i + 1 : Nat) : Int) := wrapN (i + 1) (by omega) (by omega)
    apply round
    simp only [rparts_l0_w, rparts_l0', go_sem, reduceCtorEq, Nat.reduceEqDiff, reduceIte, Nat.reduceAdd, Nat.reduceSub, Nat.reduceLeDiff, Int.reduceToNat, Nat.reduceBEq]
    rw [lt_t hil]
    simp only [getE hil, go_sem, reduceCtorEq, Nat.reduceEqDiff, reduceIte, Nat.reduceAdd, Nat.reduceSub, Nat.reduceLeDiff, Int.reduceToNat, Nat.reduceBEq]
    refine ⟨by omega, ?_⟩
    by_cases hc : s[i] = 47
    · rw [u8b_t (n := 47) hc rfl]
      simp only [hw, go_sem, reduceCtorEq, Nat.reduceEqDiff, reduceIte, Nat.reduceAdd, Nat.reduceSub, Nat.reduceLeDiff, Int.reduceToNat, Nat.reduceBEq]
      repeat (refine ⟨by (try simp only [List.length_append, List.length_cons, List.length_nil, List.length_drop, List.length_take]); omega, ?_⟩)
      have hidx : idx (s.drop k) 47 = some (i - k) := idx_of (by rw [List.getElem?_drop, show k + (i - k) = i by omega, getE hil, hc]) fun j hj => by rw [List.getElem?_drop]; exact hno _ (by omega) (by omega)
      have := ih (i + 1) (i + 1) (by omega) (by omega) (by omega) (fun j h1 h2 => by omega) (acc ++ [(s.take i).drop k]) (by simp; omega)
      rw [pieces_some hidx, List.drop_drop, show k + (i - k + 1) = i + 1 by omega]
      rw [List.drop_take] at this ⊢
      simp only [List.append_assoc, List.cons_append, List.nil_append] at this ⊢
      exact this
    · rw [u8b_f (n := 47) hc rfl]
      simp only [hw, go_sem, reduceCtorEq, Nat.reduceEqDiff, reduceIte, Nat.reduceAdd, Nat.reduceSub, Nat.reduceLeDiff, Int.reduceToNat, Nat.reduceBEq]
      exact ih (i + 1) k (by omega) (by omega) (by omega) (fun j h1 h2 => by
        by_cases e : j = i
        · subst e; rw [getE hil]; simpa using hc
        · exact hno j h1 (by omega)) acc ha
theorem rparts_snd (s : Ln.Bs) (hs : s.length ≤ 1048576) : Snd Tryd.prog (gl m) 43 [S s] (.sl .own 1 (ss (parts s))) := by
  refine snd_of (fn := Tryd.f43) (af := rparts) Tryd.func43 (rparts_comp m) mixed (kn_ok m) (Nat.le_of_ble_eq_true rfl) ?_
  simp only [rparts, go_sem, reduceCtorEq, Nat.reduceEqDiff, reduceIte, Nat.reduceAdd, Nat.reduceSub, Nat.reduceLeDiff, Int.reduceToNat, Nat.reduceBEq]
  unfold parts
  by_cases h1 : s = []
  · rw [se_t h1, if_pos h1]
    simp only [go_sem, reduceCtorEq, Nat.reduceEqDiff, reduceIte, Nat.reduceAdd, Nat.reduceSub, Nat.reduceLeDiff, Int.reduceToNat, Nat.reduceBEq]
    rfl
  · rw [se_f h1, if_neg h1]
    simp only [go_sem, reduceCtorEq, Nat.reduceEqDiff, reduceIte, Nat.reduceAdd, Nat.reduceSub, Nat.reduceLeDiff, Int.reduceToNat, Nat.reduceBEq]
    exact rparts_loop s hs _ 0 0 rfl (by omega) (by omega) (fun j h1 h2 => by omega) [] (by simp)
theorem rpart_loop (s : Ln.Bs) (hs : s.length ≤ 1048576) (h47 : s.contains 47 = false) (n : Nat) : ∀ (i : Nat) (hn : s.length - i = n) (hi : i ≤ s.length),
    vcL (kn m) [0, 3] [] rpart_l0 (blockK 0 (seqK (kn m) [] [] rpart_k1 (outOk [.tmp 2] (B ((s.drop i).all fun c => decide (32 ≤ c)))))) (mkS [(0, S s), (3, N i)] []) := by
  induction n with
  | zero =>
    intro i hn hi
    apply round
    simp only [rpart_l0_w, rpart_l0', go_sem, reduceCtorEq, Nat.reduceEqDiff, reduceIte, Nat.reduceAdd, Nat.reduceSub, Nat.reduceLeDiff, Int.reduceToNat, Nat.reduceBEq]
    rw [lt_f (by omega), List.drop_of_length_le (by omega)]
    simp only [rpart_k1_w, rpart_k1', go_sem, reduceCtorEq, Nat.reduceEqDiff, reduceIte, Nat.reduceAdd, Nat.reduceSub, Nat.reduceLeDiff, Int.reduceToNat, Nat.reduceBEq]
  | succ n ih =>
    intro i hn hi
    have hil : i < s.length := by omega
    have hw : IntKind.i64.wrap ((i : Int) + 1) = ((i + 1 : Nat) : Int) := wrapN (i + 1) (by omega) (by omega)
    have hne : s[i] ≠ 47 := fun e => by
      have : s.contains 47 = true := List.contains_iff_mem.2 (by rw [← e]; exact List.getElem_mem hil)
      rw [h47] at this; cases this
    rw [List.drop_eq_getElem_cons hil, List.all_cons]
    apply round
    simp only [rpart_l0_w, rpart_l0', go_sem, reduceCtorEq, Nat.reduceEqDiff, reduceIte, Nat.reduceAdd, Nat.reduceSub, Nat.reduceLeDiff, Int.reduceToNat, Nat.reduceBEq]
    rw [lt_t hil]
    simp only [getE hil, le32, go_sem, reduceCtorEq, Nat.reduceEqDiff, reduceIte, Nat.reduceAdd, Nat.reduceSub, Nat.reduceLeDiff, Int.reduceToNat, Nat.reduceBEq]
    refine ⟨by omega, ?_⟩
    cases hd : decide (32 ≤ s[i]) with
    | true =>
      simp only [hw, getE hil, go_sem, reduceCtorEq, Nat.reduceEqDiff, reduceIte, Nat.reduceAdd, Nat.reduceSub, Nat.reduceLeDiff, Int.reduceToNat, Nat.reduceBEq]
      refine ⟨by omega, ?_⟩
      rw [u8b_f (n := 47) hne rfl]
      simp only [hw, go_sem, reduceCtorEq, Nat.reduceEqDiff, reduceIte, Nat.reduceAdd, Nat.reduceSub, Nat.reduceLeDiff, Int.reduceToNat, Nat.reduceBEq]
      exact ih (i + 1) (by omega) (by omega)
    | false =>
      simp only [Bool.false_and, go_sem, reduceCtorEq, Nat.reduceEqDiff, reduceIte, Nat.reduceAdd, Nat.reduceSub, Nat.reduceLeDiff, Int.reduceToNat, Nat.reduceBEq]
theorem rpart_snd (s : Ln.Bs) (hs : s.length ≤ 1048576) (h47 : s.contains 47 = false) : Snd Tryd.prog (gl m) 44 [S s] (B (okPart s)) := by
  refine snd_of (fn := Tryd.f44) (af := rpart) Tryd.func44 (rpart_comp m) mixed (kn_ok m) (Nat.le_of_ble_eq_true rfl) ?_
  simp only [rpart, go_sem, reduceCtorEq, Nat.reduceEqDiff, reduceIte, Nat.reduceAdd, Nat.reduceSub, Nat.reduceLeDiff, Int.reduceToNat, Nat.reduceBEq]
  by_cases h1 : 1 ≤ s.length
  · rw [ilt_f (by omega)]
    simp only [go_sem, reduceCtorEq, Nat.reduceEqDiff, reduceIte, Nat.reduceAdd, Nat.reduceSub, Nat.reduceLeDiff, Int.reduceToNat, Nat.reduceBEq]
    by_cases h2 : s.length ≤ 64
    · rw [igt_f (by omega)]
      simp only [go_sem, reduceCtorEq, Nat.reduceEqDiff, reduceIte, Nat.reduceAdd, Nat.reduceSub, Nat.reduceLeDiff, Int.reduceToNat, Nat.reduceBEq]
      by_cases h3 : s = [46]
      · rw [se_t h3, show okPart s = false by rw [h3]; rfl]
        simp only [go_sem, reduceCtorEq, Nat.reduceEqDiff, reduceIte, Nat.reduceAdd, Nat.reduceSub, Nat.reduceLeDiff, Int.reduceToNat, Nat.reduceBEq]
      · rw [se_f h3]
        simp only [go_sem, reduceCtorEq, Nat.reduceEqDiff, reduceIte, Nat.reduceAdd, Nat.reduceSub, Nat.reduceLeDiff, Int.reduceToNat, Nat.reduceBEq]
        by_cases h4 : s = [46, 46]
        · rw [se_t h4, show okPart s = false by rw [h4]; rfl]
          simp only [go_sem, reduceCtorEq, Nat.reduceEqDiff, reduceIte, Nat.reduceAdd, Nat.reduceSub, Nat.reduceLeDiff, Int.reduceToNat, Nat.reduceBEq]
        · rw [se_f h4]
          simp only [go_sem, reduceCtorEq, Nat.reduceEqDiff, reduceIte, Nat.reduceAdd, Nat.reduceSub, Nat.reduceLeDiff, Int.reduceToNat, Nat.reduceBEq]
          by_cases h5 : s = [46, 103, 114, 97, 102, 116]
          · rw [se_t h5, show okPart s = false by rw [h5]; rfl]
            simp only [go_sem, reduceCtorEq, Nat.reduceEqDiff, reduceIte, Nat.reduceAdd, Nat.reduceSub, Nat.reduceLeDiff, Int.reduceToNat, Nat.reduceBEq]
          · rw [se_f h5]
            simp only [go_sem, reduceCtorEq, Nat.reduceEqDiff, reduceIte, Nat.reduceAdd, Nat.reduceSub, Nat.reduceLeDiff, Int.reduceToNat, Nat.reduceBEq]
            rw [show okPart s = (s.drop 0).all fun c => decide (32 ≤ c) by simp [okPart, h1, h2, h3, h4, h5]]
            exact rpart_loop s hs h47 _ 0 rfl (by omega)
    · rw [igt_t (by omega), show okPart s = false by simp [okPart, h2]]
      simp only [go_sem, reduceCtorEq, Nat.reduceEqDiff, reduceIte, Nat.reduceAdd, Nat.reduceSub, Nat.reduceLeDiff, Int.reduceToNat, Nat.reduceBEq]
  · rw [ilt_t (by omega), show okPart s = false by simp [okPart, h1]]
    simp only [go_sem, reduceCtorEq, Nat.reduceEqDiff, reduceIte, Nat.reduceAdd, Nat.reduceSub, Nat.reduceLeDiff, Int.reduceToNat, Nat.reduceBEq]
theorem piece_free {s x : Ln.Bs} (h : x ∈ pieces s) : x.contains 47 = false := by
  induction s generalizing x with
  | nil => simp [pieces] at h; subst h; rfl
  | cons c l ih =>
    simp only [pieces] at h
    split at h
    · rcases List.mem_cons.1 h with rfl | h
      · rfl
      · exact ih h
    · rename_i hc
      split at h
      · simp at h; subst h
        simp only [List.contains_cons, List.contains_nil, Bool.or_false, beq_eq_false_iff_ne]
        exact fun e => hc e.symm
      · rename_i y ys hy
        rcases List.mem_cons.1 h with rfl | h
        · have := ih (x := y) (by rw [hy]; exact List.mem_cons_self ..)
          rw [List.contains_cons, this, Bool.or_false, beq_eq_false_iff_ne]
          exact fun e => hc e.symm
        · exact ih (by rw [hy]; exact List.mem_cons_of_mem _ h)
theorem ris_loop (L : List Ln.Bs) (hL : L.length ≤ 1048576) (hb : ∀ l, l ∈ L → l.length ≤ 1048576) (hf : ∀ l, l ∈ L → l.contains 47 = false) (n : Nat) : ∀ (i : Nat) (hn : L.length - i = n) (hi : i ≤ L.length),
    vcL (kn m) [3, 4] [] ris_l0 (blockK 0 (seqK (kn m) [] [] ris_k1 (outOk [.tmp 2] (B ((L.drop i).all okPart))))) (mkS [(3, .sl .own 1 (ss L)), (4, N i)] []) := by
  induction n with
  | zero =>
    intro i hn hi
    apply round
    simp only [ris_l0_w, ris_l0', go_sem, reduceCtorEq, Nat.reduceEqDiff, reduceIte, Nat.reduceAdd, Nat.reduceSub, Nat.reduceLeDiff, Int.reduceToNat, Nat.reduceBEq]
    rw [lt_f (by omega), List.drop_of_length_le (by omega)]
    simp only [ris_k1_w, ris_k1', go_sem, reduceCtorEq, Nat.reduceEqDiff, reduceIte, Nat.reduceAdd, Nat.reduceSub, Nat.reduceLeDiff, Int.reduceToNat, Nat.reduceBEq]
  | succ n ih =>
    intro i hn hi
    have hil : i < L.length := by omega
    have hlb := hb _ (List.getElem_mem hil)
    have hw : IntKind.i64.wrap ((i : Int) + 1) = ((i + 1 : Nat) : Int) := wrapN (i + 1) (by omega) (by omega)
    rw [List.drop_eq_getElem_cons hil, List.all_cons]
    apply round
    simp only [ris_l0_w, ris_l0', go_sem, reduceCtorEq, Nat.reduceEqDiff, reduceIte, Nat.reduceAdd, Nat.reduceSub, Nat.reduceLeDiff, Int.reduceToNat, Nat.reduceBEq]
    rw [lt_t hil]
    simp only [ssE L hil, go_sem, reduceCtorEq, Nat.reduceEqDiff, reduceIte, Nat.reduceAdd, Nat.reduceSub, Nat.reduceLeDiff, Int.reduceToNat, Nat.reduceBEq]
    repeat (refine ⟨by (try simp only [List.length_append, List.length_cons, List.length_nil, List.length_drop, List.length_take]); omega, ?_⟩)
    refine of_call (rpart_snd L[i] (by omega) (hf _ (List.getElem_mem hil))) ?_
    simp only [unVal, go_sem, reduceCtorEq, Nat.reduceEqDiff, reduceIte, Nat.reduceAdd, Nat.reduceSub, Nat.reduceLeDiff, Int.reduceToNat, Nat.reduceBEq]
    cases hd : okPart L[i] with
    | true =>
      simp only [hw, go_sem, reduceCtorEq, Nat.reduceEqDiff, reduceIte, Nat.reduceAdd, Nat.reduceSub, Nat.reduceLeDiff, Int.reduceToNat, Nat.reduceBEq]
      exact ih (i + 1) (by omega) (by omega)
    | false =>
      simp only [Bool.false_and, go_sem, reduceCtorEq, Nat.reduceEqDiff, reduceIte, Nat.reduceAdd, Nat.reduceSub, Nat.reduceLeDiff, Int.reduceToNat, Nat.reduceBEq]
theorem ris_snd (p : Ln.Bs) (hp : p.length ≤ 1048575) : Snd Tryd.prog (gl m) 14 [S p] (B (isPath p)) := by
  refine snd_of (fn := Tryd.f14) (af := ris) Tryd.func14 (ris_comp m) mixed (kn_ok m) (Nat.le_of_ble_eq_true rfl) ?_
  simp only [ris, go_sem, reduceCtorEq, Nat.reduceEqDiff, reduceIte, Nat.reduceAdd, Nat.reduceSub, Nat.reduceLeDiff, Int.reduceToNat, Nat.reduceBEq]
  have hpl := parts_len p
  refine of_call (rparts_snd p (by omega)) ?_
  simp only [go_sem, reduceCtorEq, Nat.reduceEqDiff, reduceIte, Nat.reduceAdd, Nat.reduceSub, Nat.reduceLeDiff, Int.reduceToNat, Nat.reduceBEq]
  by_cases h1 : p = []
  · subst h1
    rw [show parts [] = [] from rfl, show isPath [] = false from rfl]
    rw [ilt_t (by simp)]
    simp only [go_sem, reduceCtorEq, Nat.reduceEqDiff, reduceIte, Nat.reduceAdd, Nat.reduceSub, Nat.reduceLeDiff, Int.reduceToNat, Nat.reduceBEq]
  · have hpe : parts p = pieces p := if_neg h1
    rw [hpe] at hpl ⊢
    have hpos : 1 ≤ (pieces p).length := by
      cases h : pieces p with
      | nil => exact absurd h (pieces_ne p)
      | cons _ _ => simp
    rw [ilt_f (by omega)]
    simp only [go_sem, reduceCtorEq, Nat.reduceEqDiff, reduceIte, Nat.reduceAdd, Nat.reduceSub, Nat.reduceLeDiff, Int.reduceToNat, Nat.reduceBEq]
    by_cases h3 : (pieces p).length ≤ 16
    · rw [igt_f (by omega)]
      simp only [go_sem, reduceCtorEq, Nat.reduceEqDiff, reduceIte, Nat.reduceAdd, Nat.reduceSub, Nat.reduceLeDiff, Int.reduceToNat, Nat.reduceBEq]
      by_cases h2 : p.length ≤ 255
      · rw [igt_f (by omega)]
        simp only [go_sem, reduceCtorEq, Nat.reduceEqDiff, reduceIte, Nat.reduceAdd, Nat.reduceSub, Nat.reduceLeDiff, Int.reduceToNat, Nat.reduceBEq]
        rw [show isPath p = ((pieces p).drop 0).all okPart by simp [isPath, h1, h2, h3]]
        exact ris_loop (pieces p) (by omega) (fun l hl => by have := piece_len hl; omega) (fun l hl => piece_free hl) _ 0 rfl (by omega)
      · rw [igt_t (by omega), show isPath p = false by simp [isPath, h2]]
        simp only [go_sem, reduceCtorEq, Nat.reduceEqDiff, reduceIte, Nat.reduceAdd, Nat.reduceSub, Nat.reduceLeDiff, Int.reduceToNat, Nat.reduceBEq]
    · rw [igt_t (by omega), show isPath p = false by simp [isPath, h3]]
      simp only [go_sem, reduceCtorEq, Nat.reduceEqDiff, reduceIte, Nat.reduceAdd, Nat.reduceSub, Nat.reduceLeDiff, Int.reduceToNat, Nat.reduceBEq]
end Go.Gb

