import Derived.Test.YtcahaecjjochbaaDoorAtS
import Derived.Test.YtcahaecjjochbaaDoorAtD
set_option linter.unusedVariables false
set_option linter.unusedSimpArgs false
/- Attributes: what words say. -/
namespace Go.At
open Go Go.Ev Go.Proofs
set_option linter.unusedVariables false
set_option maxHeartbeats 4000000
set_option linter.unusedSimpArgs false
attribute [local go_sem] eqs implies_true List.map_cons List.map_nil kl klL roD roL Option.map_some Option.map_none Option.getD_some Option.getD_none binVal binObl unVal if_true if_false eq_self passA frnD resD content getH getR getW viaNot viaSlot viaBox viaDeep viaMem List.contains_cons List.contains_nil grabs peeks okCells isCell place cellsOf chunk elt List.headD_cons List.length_cons List.length_nil List.take_succ_cons List.take_zero List.drop_succ_cons List.drop_zero List.nil_append List.cons_append List.append_nil List.all_cons List.all_nil plainC takeR setW over reCell List.getElem?_cons_zero List.getElem?_cons_succ List.set_cons_zero List.take_length outV resG plainV pack outVG outBx List.set_cons_succ Ref.idx Ref.addOff beq_self_eq_true bxL Option.bind_some writeR isLit viaBoxes capsPA boxPA nsOf noDup boxesAt argG passG passD rhoIn rhoOut idxIn tr trL List.getD_cons_zero gives pasOf isPtr Ins.d List.getD_cons_succ resL frnL List.getLast?_nil frnL_fs roL_fs resL_fs passL_fs klL_fs trL_fs map_roD_fs fs_length
variable {m : Int}
def awords : AF := ⟨.seq (.reg (.seq [⟨some (0, true), none, .new [(.lit (.string (str []))), (.lit (.int .i64 0)), (.lit (.int .i64 0)), (.lit (.int .i64 0)), (.lit (.string (str []))), (.lit (.int .i64 0)), (.lit (.int .i64 0)), (.lit (.int .i64 0)), (.lit (.string (str []))), (.lit (.int .i64 0)), (.lit (.int .i64 0)), (.lit (.int .i64 0)), (.lit (.string (str []))), (.lit (.int .i64 0)), (.lit (.int .i64 0)), (.lit (.int .i64 0)), (.lit (.string (str []))), (.lit (.int .i64 0)), (.lit (.int .i64 0)), (.lit (.int .i64 0)), (.lit (.string (str []))), (.lit (.int .i64 0)), (.lit (.int .i64 0)), (.lit (.int .i64 0)), (.lit (.string (str []))), (.lit (.int .i64 0)), (.lit (.int .i64 0)), (.lit (.int .i64 0)), (.lit (.string (str []))), (.lit (.int .i64 0)), (.lit (.int .i64 0)), (.lit (.int .i64 0)), (.lit (.string (str []))), (.lit (.int .i64 0)), (.lit (.int .i64 0)), (.lit (.int .i64 0))]⟩])) [0] [0]
  (.seq (.reg (.seq [⟨some (1, false), none, .build [(.lit (.int .i64 0)), (.lit (.int .i64 0)), (.lit (.int .i64 0))] [(0, 1, (.cst (.int .i64 1) (.lit (.int .i64 1))))]⟩,⟨some (2, false), none, .build [(.lit (.string (str []))), (.lit (.int .i64 0)), (.lit (.int .i64 0)), (.lit (.int .i64 0))] [(0, 1, (.cst (.string (str [116, 101, 120, 116])) (.lit (.string (str [116, 101, 120, 116]))))), (1, 3, (.tmp 1 false))]⟩,⟨some (3, false), none, .build [(.lit (.int .i64 0)), (.lit (.int .i64 0)), (.lit (.int .i64 0))] [(0, 1, (.cst (.int .i64 2) (.lit (.int .i64 2))))]⟩,⟨some (4, false), none, .build [(.lit (.string (str []))), (.lit (.int .i64 0)), (.lit (.int .i64 0)), (.lit (.int .i64 0))] [(0, 1, (.cst (.string (str [45, 116, 101, 120, 116])) (.lit (.string (str [45, 116, 101, 120, 116]))))), (1, 3, (.tmp 3 false))]⟩,⟨some (5, false), none, .build [(.lit (.int .i64 0)), (.lit (.int .i64 0)), (.lit (.int .i64 0))] [(0, 1, (.cst (.int .i64 3) (.lit (.int .i64 3))))]⟩,⟨some (6, false), none, .build [(.lit (.string (str []))), (.lit (.int .i64 0)), (.lit (.int .i64 0)), (.lit (.int .i64 0))] [(0, 1, (.cst (.string (str [116, 101, 120, 116, 61, 97, 117, 116, 111])) (.lit (.string (str [116, 101, 120, 116, 61, 97, 117, 116, 111]))))), (1, 3, (.tmp 5 false))]⟩,⟨some (7, false), none, .build [(.lit (.int .i64 0)), (.lit (.int .i64 0)), (.lit (.int .i64 0))] [(1, 1, (.cst (.int .i64 4) (.lit (.int .i64 4))))]⟩,⟨some (8, false), none, .build [(.lit (.string (str []))), (.lit (.int .i64 0)), (.lit (.int .i64 0)), (.lit (.int .i64 0))] [(0, 1, (.cst (.string (str [101, 111, 108, 61, 108, 102])) (.lit (.string (str [101, 111, 108, 61, 108, 102]))))), (1, 3, (.tmp 7 false))]⟩,⟨some (9, false), none, .build [(.lit (.int .i64 0)), (.lit (.int .i64 0)), (.lit (.int .i64 0))] [(1, 1, (.cst (.int .i64 5) (.lit (.int .i64 5))))]⟩,⟨some (10, false), none, .build [(.lit (.string (str []))), (.lit (.int .i64 0)), (.lit (.int .i64 0)), (.lit (.int .i64 0))] [(0, 1, (.cst (.string (str [101, 111, 108, 61, 99, 114, 108, 102])) (.lit (.string (str [101, 111, 108, 61, 99, 114, 108, 102]))))), (1, 3, (.tmp 9 false))]⟩,⟨some (11, false), none, .build [(.lit (.int .i64 0)), (.lit (.int .i64 0)), (.lit (.int .i64 0))] [(2, 1, (.cst (.int .i64 6) (.lit (.int .i64 6))))]⟩,⟨some (12, false), none, .build [(.lit (.string (str []))), (.lit (.int .i64 0)), (.lit (.int .i64 0)), (.lit (.int .i64 0))] [(0, 1, (.cst (.string (str [109, 101, 114, 103, 101, 61, 111, 117, 114, 115])) (.lit (.string (str [109, 101, 114, 103, 101, 61, 111, 117, 114, 115]))))), (1, 3, (.tmp 11 false))]⟩,⟨some (13, false), none, .build [(.lit (.int .i64 0)), (.lit (.int .i64 0)), (.lit (.int .i64 0))] [(2, 1, (.cst (.int .i64 7) (.lit (.int .i64 7))))]⟩,⟨some (14, false), none, .build [(.lit (.string (str []))), (.lit (.int .i64 0)), (.lit (.int .i64 0)), (.lit (.int .i64 0))] [(0, 1, (.cst (.string (str [109, 101, 114, 103, 101, 61, 117, 110, 105, 111, 110])) (.lit (.string (str [109, 101, 114, 103, 101, 61, 117, 110, 105, 111, 110]))))), (1, 3, (.tmp 13 false))]⟩,⟨some (15, false), none, .build [(.lit (.int .i64 0)), (.lit (.int .i64 0)), (.lit (.int .i64 0))] [(2, 1, (.cst (.int .i64 8) (.lit (.int .i64 8))))]⟩,⟨some (16, false), none, .build [(.lit (.string (str []))), (.lit (.int .i64 0)), (.lit (.int .i64 0)), (.lit (.int .i64 0))] [(0, 1, (.cst (.string (str [45, 109, 101, 114, 103, 101])) (.lit (.string (str [45, 109, 101, 114, 103, 101]))))), (1, 3, (.tmp 15 false))]⟩,⟨some (17, false), none, .build [(.lit (.int .i64 0)), (.lit (.int .i64 0)), (.lit (.int .i64 0))] [(0, 1, (.cst (.int .i64 2) (.lit (.int .i64 2)))), (2, 1, (.cst (.int .i64 8) (.lit (.int .i64 8))))]⟩,⟨some (18, false), none, .build [(.lit (.string (str []))), (.lit (.int .i64 0)), (.lit (.int .i64 0)), (.lit (.int .i64 0))] [(0, 1, (.cst (.string (str [98, 105, 110, 97, 114, 121])) (.lit (.string (str [98, 105, 110, 97, 114, 121]))))), (1, 3, (.tmp 17 false))]⟩,⟨some (19, false), none, .buildP [(.lit (.string (str []))), (.lit (.int .i64 0)), (.lit (.int .i64 0)), (.lit (.int .i64 0)), (.lit (.string (str []))), (.lit (.int .i64 0)), (.lit (.int .i64 0)), (.lit (.int .i64 0)), (.lit (.string (str []))), (.lit (.int .i64 0)), (.lit (.int .i64 0)), (.lit (.int .i64 0)), (.lit (.string (str []))), (.lit (.int .i64 0)), (.lit (.int .i64 0)), (.lit (.int .i64 0)), (.lit (.string (str []))), (.lit (.int .i64 0)), (.lit (.int .i64 0)), (.lit (.int .i64 0)), (.lit (.string (str []))), (.lit (.int .i64 0)), (.lit (.int .i64 0)), (.lit (.int .i64 0)), (.lit (.string (str []))), (.lit (.int .i64 0)), (.lit (.int .i64 0)), (.lit (.int .i64 0)), (.lit (.string (str []))), (.lit (.int .i64 0)), (.lit (.int .i64 0)), (.lit (.int .i64 0)), (.lit (.string (str []))), (.lit (.int .i64 0)), (.lit (.int .i64 0)), (.lit (.int .i64 0))] [(0, 4, (.tmp 2 false)), (4, 4, (.tmp 4 false)), (8, 4, (.tmp 6 false)), (12, 4, (.tmp 8 false)), (16, 4, (.tmp 10 false)), (20, 4, (.tmp 12 false)), (24, 4, (.tmp 14 false)), (28, 4, (.tmp 16 false)), (32, 4, (.tmp 18 false))]⟩,⟨none, none, .store (.tmp 0 true) (.tmp 19 false) 36⟩])) [0] [0]
  (.ret)),
  [.cell 0 36 true]⟩
theorem awords_comp (m : Int) : compF Tryd.prog (gl m) [] Tryd.f90 = some awords := by kernel_rfl
def asaid_k0' : AC := .reg (.seq [⟨some (28, false), none, .bin .add (.tmp 17 true) (.cst (.int .i64 1) (.lit (.int .i64 1)))⟩,⟨some (17, true), none, .mov (.tmp 28 false) .peek⟩])
def asaid_k0 : AC := asaid_k0'
theorem asaid_k0_w (C : Kn) (K : Ex → St → Prop) (s : St) : vcC C asaid_k0 K s = vcC C asaid_k0' K s := nr rfl
def asaid_k1' : AC := .seq (.block 3 (.seq (.reg (.seq [⟨some (19, false), none, .idxA (.tmp 16 true) (.tmp 17 true) 9 4 true⟩,⟨some (8, true), none, .new [(.lit (.string (str []))), (.lit (.int .i64 0)), (.lit (.int .i64 0)), (.lit (.int .i64 0))]⟩,⟨none, none, .store (.tmp 8 true) (.tmp 19 false) 4⟩])) [0, 2, 3, 4, 6, 8, 10, 11, 12, 16, 17] [2, 3, 4, 8]
    (.seq (.reg (.seq [⟨some (20, false), none, .fad (.tmp 8 true) 0⟩,⟨some (21, false), none, .load (.tmp 20 false) 1 false false⟩,⟨some (22, false), none, .mov (.tmp 6 true) .peek⟩,⟨some (23, false), none, .bin .eql (.tmp 21 false) (.tmp 22 false)⟩])) [0, 2, 3, 4, 6, 8, 10, 11, 12, 16, 17, 23] [2, 3, 4, 8]
    (.cond (.tmp 23 false)
      (.reg (.seq [⟨some (24, false), none, .load (.tmp 3 true) 3 true false⟩,⟨some (25, false), none, .fad (.tmp 8 true) 1⟩,⟨some (26, false), none, .load (.tmp 25 false) 3 true false⟩,⟨some (27, false), none, .call 47 [.tmp 24 false, .tmp 26 false]⟩,⟨none, none, .store (.tmp 3 true) (.tmp 27 false) 3⟩]))
      (.skip))))) [0, 2, 3, 4, 6, 10, 11, 12, 16, 17] [2, 3, 4] asaid_k0
def asaid_k1 : AC := asaid_k1'
theorem asaid_k1_w (C : Kn) (K : Ex → St → Prop) (s : St) : vcC C asaid_k1 K s = vcC C asaid_k1' K s := nr rfl
def asaid_l2' : AC := .seq (.reg (.seq [⟨some (18, false), none, .bin .lss (.tmp 17 true) (.cst (.int .i64 9) (.lit (.int .i64 9)))⟩])) [0, 2, 3, 4, 6, 10, 11, 12, 16, 17, 18] [2, 3, 4]
  (.seq (.cond (.tmp 18 false)
    (.skip)
    (.exit 2)) [0, 2, 3, 4, 6, 10, 11, 12, 16, 17] [2, 3, 4] asaid_k1)
def asaid_l2 : AC := asaid_l2'
theorem asaid_l2_w (C : Kn) (K : Ex → St → Prop) (s : St) : vcC C asaid_l2 K s = vcC C asaid_l2' K s := nr rfl
def asaid_k3' : AC := .reg (.seq [⟨some (29, false), none, .bin .add (.tmp 12 true) (.cst (.int .i64 1) (.lit (.int .i64 1)))⟩,⟨some (12, true), none, .mov (.tmp 29 false) .peek⟩])
def asaid_k3 : AC := asaid_k3'
theorem asaid_k3_w (C : Kn) (K : Ex → St → Prop) (s : St) : vcC C asaid_k3 K s = vcC C asaid_k3' K s := nr rfl
def asaid_k4' : AC := .seq (.block 1 (.seq (.reg (.seq [⟨some (14, false), none, .iad (.tmp 10 true) (.tmp 12 true) 1⟩,⟨some (15, false), none, .load (.tmp 14 false) 1 false false⟩,⟨some (6, true), none, .mov (.tmp 15 false) .asg⟩])) [0, 2, 3, 4, 6, 10, 11, 12] [2, 3, 4]
    (.seq (.reg (.seq [⟨some (16, true), none, .load (.tmp 4 true) 36 true false⟩,⟨some (17, true), none, .mov (.cst (.int .i64 0) (.lit (.int .i64 0))) .peek⟩])) [0, 2, 3, 4, 6, 10, 11, 12, 16, 17] [2, 3, 4]
    (.block 2 (.loop [0, 2, 3, 4, 6, 10, 11, 12, 16, 17] [2, 3, 4] asaid_l2))))) [0, 2, 3, 4, 10, 11, 12] [2, 3, 4] asaid_k3
def asaid_k4 : AC := asaid_k4'
theorem asaid_k4_w (C : Kn) (K : Ex → St → Prop) (s : St) : vcC C asaid_k4 K s = vcC C asaid_k4' K s := nr rfl
def asaid_l5' : AC := .seq (.reg (.seq [⟨some (13, false), none, .bin .lss (.tmp 12 true) (.tmp 11 true)⟩])) [0, 2, 3, 4, 10, 11, 12, 13] [2, 3, 4]
  (.seq (.cond (.tmp 13 false)
    (.skip)
    (.exit 0)) [0, 2, 3, 4, 10, 11, 12] [2, 3, 4] asaid_k4)
def asaid_l5 : AC := asaid_l5'
theorem asaid_l5_w (C : Kn) (K : Ex → St → Prop) (s : St) : vcC C asaid_l5 K s = vcC C asaid_l5' K s := nr rfl
def asaid_k6' : AC := .seq (.reg (.seq [⟨some (30, false), none, .load (.tmp 3 true) 3 true true⟩,⟨none, none, .store (.tmp 2 true) (.tmp 30 false) 3⟩])) [2] [2]
  (.ret)
def asaid_k6 : AC := asaid_k6'
theorem asaid_k6_w (C : Kn) (K : Ex → St → Prop) (s : St) : vcC C asaid_k6 K s = vcC C asaid_k6' K s := nr rfl
def asaid : AF := ⟨.seq (.reg (.seq [⟨some (2, true), none, .new [(.lit (.int .i64 0)), (.lit (.int .i64 0)), (.lit (.int .i64 0))]⟩])) [0, 2] [2]
  (.seq (.reg (.seq [⟨some (3, true), none, .new [(.lit (.int .i64 0)), (.lit (.int .i64 0)), (.lit (.int .i64 0))]⟩])) [0, 2, 3] [2, 3]
  (.seq (.reg (.seq [⟨some (9, false), none, .call 90 []⟩,⟨some (4, true), none, .new [(.lit (.string (str []))), (.lit (.int .i64 0)), (.lit (.int .i64 0)), (.lit (.int .i64 0)), (.lit (.string (str []))), (.lit (.int .i64 0)), (.lit (.int .i64 0)), (.lit (.int .i64 0)), (.lit (.string (str []))), (.lit (.int .i64 0)), (.lit (.int .i64 0)), (.lit (.int .i64 0)), (.lit (.string (str []))), (.lit (.int .i64 0)), (.lit (.int .i64 0)), (.lit (.int .i64 0)), (.lit (.string (str []))), (.lit (.int .i64 0)), (.lit (.int .i64 0)), (.lit (.int .i64 0)), (.lit (.string (str []))), (.lit (.int .i64 0)), (.lit (.int .i64 0)), (.lit (.int .i64 0)), (.lit (.string (str []))), (.lit (.int .i64 0)), (.lit (.int .i64 0)), (.lit (.int .i64 0)), (.lit (.string (str []))), (.lit (.int .i64 0)), (.lit (.int .i64 0)), (.lit (.int .i64 0)), (.lit (.string (str []))), (.lit (.int .i64 0)), (.lit (.int .i64 0)), (.lit (.int .i64 0))]⟩,⟨none, none, .store (.tmp 4 true) (.tmp 9 false) 36⟩])) [0, 2, 3, 4] [2, 3, 4]
  (.seq (.seq (.reg (.seq [⟨some (10, true), none, .mov (.tmp 0 true) .peek⟩,⟨some (11, true), none, .lenL (.tmp 10 true)⟩,⟨some (12, true), none, .mov (.cst (.int .i64 0) (.lit (.int .i64 0))) .peek⟩])) [0, 2, 3, 4, 10, 11, 12] [2, 3, 4]
  (.block 0 (.loop [0, 2, 3, 4, 10, 11, 12] [2, 3, 4] asaid_l5))) [2, 3] [2, 3] asaid_k6))),
  [.cell 2 3 true]⟩
theorem asaid_comp (m : Int) : compF Tryd.prog (gl m) [] Tryd.f53 = some asaid := by kernel_rfl
def tabW : List (Bs × Att) := [([116, 101, 120, 116], (1, 0, 0)), ([45, 116, 101, 120, 116], (2, 0, 0)), ([116, 101, 120, 116, 61, 97, 117, 116, 111], (3, 0, 0)), ([101, 111, 108, 61, 108, 102], (0, 4, 0)), ([101, 111, 108, 61, 99, 114, 108, 102], (0, 5, 0)), ([109, 101, 114, 103, 101, 61, 111, 117, 114, 115], (0, 0, 6)), ([109, 101, 114, 103, 101, 61, 117, 110, 105, 111, 110], (0, 0, 7)), ([45, 109, 101, 114, 103, 101], (0, 0, 8)), ([98, 105, 110, 97, 114, 121], (2, 0, 8))]
abbrev wordsC : List AV := [S [116, 101, 120, 116], I 1, I 0, I 0, S [45, 116, 101, 120, 116], I 2, I 0, I 0, S [116, 101, 120, 116, 61, 97, 117, 116, 111], I 3, I 0, I 0, S [101, 111, 108, 61, 108, 102], I 0, I 4, I 0, S [101, 111, 108, 61, 99, 114, 108, 102], I 0, I 5, I 0, S [109, 101, 114, 103, 101, 61, 111, 117, 114, 115], I 0, I 0, I 6, S [109, 101, 114, 103, 101, 61, 117, 110, 105, 111, 110], I 0, I 0, I 7, S [45, 109, 101, 114, 103, 101], I 0, I 0, I 8, S [98, 105, 110, 97, 114, 121], I 2, I 0, I 8]
abbrev wordsT : AV := .agg wordsC
theorem awords_snd  : Snd Tryd.prog (gl m) 90 [] (wordsT) := by
  refine snd_of (fn := Tryd.f90) (af := awords) Tryd.func90 (awords_comp m) mixed (kn_ok m) (Nat.le_of_ble_eq_true rfl) ?_
  simp only [awords, go_sem, reduceCtorEq, Nat.reduceEqDiff, reduceIte, Nat.reduceAdd, Nat.reduceSub, Nat.reduceLeDiff, Int.reduceToNat, Nat.reduceBEq]
  omega
def sayT (T : List (Bs × Att)) (s : Bs) (a : Att) : Att := T.foldl (fun a x => if x.1 = s then over a x.2 else a) a
def saidA (l : List Bs) : Att := l.foldl (fun a s => sayT tabW s a) (0, 0, 0)
abbrev P (n : Nat) : AV := .ptr ⟨.box n 0, []⟩
abbrev stO (l : List Bs) (i : Nat) (a : Att) : St := mkS [(0, .sl .frn 1 (ss l)), (2, P 2), (3, P 3), (4, P 4), (10, .sl .frn 1 (ss l)), (11, N l.length), (12, N i)] [(2, some [I 0, I 0, I 0]), (3, some [I a.1, I a.2.1, I a.2.2]), (4, some wordsC)]
abbrev stI (l : List Bs) (i : Nat) (s : Bs) (j : Nat) (a : Att) : St := mkS [(0, .sl .frn 1 (ss l)), (2, P 2), (3, P 3), (4, P 4), (6, S s), (10, .sl .frn 1 (ss l)), (11, N l.length), (12, N i), (16, wordsT), (17, N j)] [(2, some [I 0, I 0, I 0]), (3, some [I a.1, I a.2.1, I a.2.2]), (4, some wordsC)]
abbrev stE (l : List Bs) (i : Nat) (s : Bs) (a : Att) : St := mkS [(0, .sl .frn 1 (ss l)), (2, P 2), (3, P 3), (4, P 4), (6, S s), (10, .sl .frn 1 (ss l)), (11, N l.length), (12, N i), (16, wordsT), (17, N 9), (18, B false)] [(2, some [I 0, I 0, I 0]), (3, some [I a.1, I a.2.1, I a.2.2]), (4, some wordsC)]
theorem sayT_step (T : List (Bs × Att)) (j : Nat) (s : Bs) (a : Att) (h : j < T.length) : sayT (T.take (j + 1)) s a = if T[j].1 = s then over (sayT (T.take j) s a) T[j].2 else sayT (T.take j) s a := by
  rw [take_snoc h, sayT, List.foldl_append]; rfl
theorem kl4 (p : Bool → Ref → Bool) (w : Bs) (x y z : Int) : klL p false [S w, I x, I y, I z] = [S w, I x, I y, I z] := rfl
theorem ro4 (w : Bs) (x y z : Int) : roL [S w, I x, I y, I z] = [S w, I x, I y, I z] := rfl
theorem rm4 (w : Bs) (x y z : Int) : List.map roD [S w, I x, I y, I z] = [S w, I x, I y, I z] := rfl
theorem kl3 (p : Bool → Ref → Bool) (x y z : Int) : klL p false [I x, I y, I z] = [I x, I y, I z] := rfl
theorem ro3 (x y z : Int) : roL [I x, I y, I z] = [I x, I y, I z] := rfl
theorem inner (l : List Bs) (i : Nat) (s : Bs) (a : Att) (K : Ex → St → Prop) (hK : K (.exit 2) (stE l i s (sayT tabW s a))) : vcL (kn m) [0, 2, 3, 4, 6, 10, 11, 12, 16, 17] [2, 3, 4] asaid_l2 K (stI l i s 0 a) := by
  refine loop_up 9 (fun j => stI l i s j (sayT (tabW.take j) s a)) rfl ?_
  intro j hj ih
  simp only [asaid_l2_w, asaid_l2', go_sem, reduceCtorEq, Nat.reduceEqDiff, reduceIte, Nat.reduceAdd, Nat.reduceSub, Nat.reduceLeDiff, Int.reduceToNat, Nat.reduceBEq]
  repeat ((with_reducible apply And.intro); (case left => first | omega | (simp only [List.length_append, List.length_cons, List.length_nil, List.length_drop, List.length_take, List.length_tail, List.length_dropLast, fs_length, ss_length, bs_length, ns_length]; omega)))
  match j, hj with
  | 0, _ =>
    have d : decide (((0 : Nat) : Int) < 9) = true := by decide
    have q1 : IntKind.i64.wrap (((0 : Nat) : Int) + 1) = ((1 : Nat) : Int) := by decide
    have es := sayT_step tabW 0 s a (by decide)
    have hd : List.take 4 (List.drop (0 * 4) wordsC) = [S [116, 101, 120, 116], I 1, I 0, I 0] := rfl
    by_cases e : [116, 101, 120, 116] = s
    · have es : sayT (tabW.take 1) s a = over (sayT (tabW.take 0) s a) (1, 0, 0) := es.trans (if_pos e)
      have ih := ih (by decide)
      rw [es] at ih
      generalize sayT (tabW.take 0) s a = b at ih ⊢
      simp only [d, q1, asaid_k1_w, asaid_k1', se_t e, Int.toNat_natCast, hd, kl4, ro4, rm4, kl3, ro3, go_sem, reduceCtorEq, Nat.reduceEqDiff, reduceIte, Nat.reduceAdd, Nat.reduceSub, Nat.reduceLeDiff, Int.reduceToNat, Nat.reduceBEq]
      repeat ((with_reducible apply And.intro); (case left => first | omega | (simp only [List.length_append, List.length_cons, List.length_nil, List.length_drop, List.length_take, List.length_tail, List.length_dropLast, fs_length, ss_length, bs_length, ns_length]; omega)))
      refine of_call (aover_snd b (1, 0, 0)) ?_
      simp only [go_sem, reduceCtorEq, Nat.reduceEqDiff, reduceIte, Nat.reduceAdd, Nat.reduceSub, Nat.reduceLeDiff, Int.reduceToNat, Nat.reduceBEq]
      repeat ((with_reducible apply And.intro); (case left => first | omega | (simp only [List.length_append, List.length_cons, List.length_nil, List.length_drop, List.length_take, List.length_tail, List.length_dropLast, fs_length, ss_length, bs_length, ns_length]; omega)))
      simp only [attT, q1, asaid_k0_w, asaid_k0', go_sem, reduceCtorEq, Nat.reduceEqDiff, reduceIte, Nat.reduceAdd, Nat.reduceSub, Nat.reduceLeDiff, Int.reduceToNat, Nat.reduceBEq]
      repeat ((with_reducible apply And.intro); (case left => first | omega | (simp only [List.length_append, List.length_cons, List.length_nil, List.length_drop, List.length_take, List.length_tail, List.length_dropLast, fs_length, ss_length, bs_length, ns_length]; omega)))
      exact ih
    · have es : sayT (tabW.take 1) s a = sayT (tabW.take 0) s a := es.trans (if_neg e)
      have ih := ih (by decide)
      rw [es] at ih
      generalize sayT (tabW.take 0) s a = b at ih ⊢
      simp only [d, q1, asaid_k1_w, asaid_k1', se_f e, Int.toNat_natCast, hd, kl4, ro4, rm4, kl3, ro3, go_sem, reduceCtorEq, Nat.reduceEqDiff, reduceIte, Nat.reduceAdd, Nat.reduceSub, Nat.reduceLeDiff, Int.reduceToNat, Nat.reduceBEq]
      repeat ((with_reducible apply And.intro); (case left => first | omega | (simp only [List.length_append, List.length_cons, List.length_nil, List.length_drop, List.length_take, List.length_tail, List.length_dropLast, fs_length, ss_length, bs_length, ns_length]; omega)))
      simp only [q1, asaid_k0_w, asaid_k0', go_sem, reduceCtorEq, Nat.reduceEqDiff, reduceIte, Nat.reduceAdd, Nat.reduceSub, Nat.reduceLeDiff, Int.reduceToNat, Nat.reduceBEq]
      exact ih
  | 1, _ =>
    have d : decide (((1 : Nat) : Int) < 9) = true := by decide
    have q1 : IntKind.i64.wrap (((1 : Nat) : Int) + 1) = ((2 : Nat) : Int) := by decide
    have es := sayT_step tabW 1 s a (by decide)
    have hd : List.take 4 (List.drop (1 * 4) wordsC) = [S [45, 116, 101, 120, 116], I 2, I 0, I 0] := rfl
    by_cases e : [45, 116, 101, 120, 116] = s
    · have es : sayT (tabW.take 2) s a = over (sayT (tabW.take 1) s a) (2, 0, 0) := es.trans (if_pos e)
      have ih := ih (by decide)
      rw [es] at ih
      generalize sayT (tabW.take 1) s a = b at ih ⊢
      simp only [d, q1, asaid_k1_w, asaid_k1', se_t e, Int.toNat_natCast, hd, kl4, ro4, rm4, kl3, ro3, go_sem, reduceCtorEq, Nat.reduceEqDiff, reduceIte, Nat.reduceAdd, Nat.reduceSub, Nat.reduceLeDiff, Int.reduceToNat, Nat.reduceBEq]
      repeat ((with_reducible apply And.intro); (case left => first | omega | (simp only [List.length_append, List.length_cons, List.length_nil, List.length_drop, List.length_take, List.length_tail, List.length_dropLast, fs_length, ss_length, bs_length, ns_length]; omega)))
      refine of_call (aover_snd b (2, 0, 0)) ?_
      simp only [go_sem, reduceCtorEq, Nat.reduceEqDiff, reduceIte, Nat.reduceAdd, Nat.reduceSub, Nat.reduceLeDiff, Int.reduceToNat, Nat.reduceBEq]
      repeat ((with_reducible apply And.intro); (case left => first | omega | (simp only [List.length_append, List.length_cons, List.length_nil, List.length_drop, List.length_take, List.length_tail, List.length_dropLast, fs_length, ss_length, bs_length, ns_length]; omega)))
      simp only [attT, q1, asaid_k0_w, asaid_k0', go_sem, reduceCtorEq, Nat.reduceEqDiff, reduceIte, Nat.reduceAdd, Nat.reduceSub, Nat.reduceLeDiff, Int.reduceToNat, Nat.reduceBEq]
      repeat ((with_reducible apply And.intro); (case left => first | omega | (simp only [List.length_append, List.length_cons, List.length_nil, List.length_drop, List.length_take, List.length_tail, List.length_dropLast, fs_length, ss_length, bs_length, ns_length]; omega)))
      exact ih
    · have es : sayT (tabW.take 2) s a = sayT (tabW.take 1) s a := es.trans (if_neg e)
      have ih := ih (by decide)
      rw [es] at ih
      generalize sayT (tabW.take 1) s a = b at ih ⊢
      simp only [d, q1, asaid_k1_w, asaid_k1', se_f e, Int.toNat_natCast, hd, kl4, ro4, rm4, kl3, ro3, go_sem, reduceCtorEq, Nat.reduceEqDiff, reduceIte, Nat.reduceAdd, Nat.reduceSub, Nat.reduceLeDiff, Int.reduceToNat, Nat.reduceBEq]
      repeat ((with_reducible apply And.intro); (case left => first | omega | (simp only [List.length_append, List.length_cons, List.length_nil, List.length_drop, List.length_take, List.length_tail, List.length_dropLast, fs_length, ss_length, bs_length, ns_length]; omega)))
      simp only [q1, asaid_k0_w, asaid_k0', go_sem, reduceCtorEq, Nat.reduceEqDiff, reduceIte, Nat.reduceAdd, Nat.reduceSub, Nat.reduceLeDiff, Int.reduceToNat, Nat.reduceBEq]
      exact ih
  | 2, _ =>
    have d : decide (((2 : Nat) : Int) < 9) = true := by decide
    have q1 : IntKind.i64.wrap (((2 : Nat) : Int) + 1) = ((3 : Nat) : Int) := by decide
    have es := sayT_step tabW 2 s a (by decide)
    have hd : List.take 4 (List.drop (2 * 4) wordsC) = [S [116, 101, 120, 116, 61, 97, 117, 116, 111], I 3, I 0, I 0] := rfl
    by_cases e : [116, 101, 120, 116, 61, 97, 117, 116, 111] = s
    · have es : sayT (tabW.take 3) s a = over (sayT (tabW.take 2) s a) (3, 0, 0) := es.trans (if_pos e)
      have ih := ih (by decide)
      rw [es] at ih
      generalize sayT (tabW.take 2) s a = b at ih ⊢
      simp only [d, q1, asaid_k1_w, asaid_k1', se_t e, Int.toNat_natCast, hd, kl4, ro4, rm4, kl3, ro3, go_sem, reduceCtorEq, Nat.reduceEqDiff, reduceIte, Nat.reduceAdd, Nat.reduceSub, Nat.reduceLeDiff, Int.reduceToNat, Nat.reduceBEq]
      repeat ((with_reducible apply And.intro); (case left => first | omega | (simp only [List.length_append, List.length_cons, List.length_nil, List.length_drop, List.length_take, List.length_tail, List.length_dropLast, fs_length, ss_length, bs_length, ns_length]; omega)))
      refine of_call (aover_snd b (3, 0, 0)) ?_
      simp only [go_sem, reduceCtorEq, Nat.reduceEqDiff, reduceIte, Nat.reduceAdd, Nat.reduceSub, Nat.reduceLeDiff, Int.reduceToNat, Nat.reduceBEq]
      repeat ((with_reducible apply And.intro); (case left => first | omega | (simp only [List.length_append, List.length_cons, List.length_nil, List.length_drop, List.length_take, List.length_tail, List.length_dropLast, fs_length, ss_length, bs_length, ns_length]; omega)))
      simp only [attT, q1, asaid_k0_w, asaid_k0', go_sem, reduceCtorEq, Nat.reduceEqDiff, reduceIte, Nat.reduceAdd, Nat.reduceSub, Nat.reduceLeDiff, Int.reduceToNat, Nat.reduceBEq]
      repeat ((with_reducible apply And.intro); (case left => first | omega | (simp only [List.length_append, List.length_cons, List.length_nil, List.length_drop, List.length_take, List.length_tail, List.length_dropLast, fs_length, ss_length, bs_length, ns_length]; omega)))
      exact ih
    · have es : sayT (tabW.take 3) s a = sayT (tabW.take 2) s a := es.trans (if_neg e)
      have ih := ih (by decide)
      rw [es] at ih
      generalize sayT (tabW.take 2) s a = b at ih ⊢
      simp only [d, q1, asaid_k1_w, asaid_k1', se_f e, Int.toNat_natCast, hd, kl4, ro4, rm4, kl3, ro3, go_sem, reduceCtorEq, Nat.reduceEqDiff, reduceIte, Nat.reduceAdd, Nat.reduceSub, Nat.reduceLeDiff, Int.reduceToNat, Nat.reduceBEq]
      repeat ((with_reducible apply And.intro); (case left => first | omega | (simp only [List.length_append, List.length_cons, List.length_nil, List.length_drop, List.length_take, List.length_tail, List.length_dropLast, fs_length, ss_length, bs_length, ns_length]; omega)))
      simp only [q1, asaid_k0_w, asaid_k0', go_sem, reduceCtorEq, Nat.reduceEqDiff, reduceIte, Nat.reduceAdd, Nat.reduceSub, Nat.reduceLeDiff, Int.reduceToNat, Nat.reduceBEq]
      exact ih
  | 3, _ =>
    have d : decide (((3 : Nat) : Int) < 9) = true := by decide
    have q1 : IntKind.i64.wrap (((3 : Nat) : Int) + 1) = ((4 : Nat) : Int) := by decide
    have es := sayT_step tabW 3 s a (by decide)
    have hd : List.take 4 (List.drop (3 * 4) wordsC) = [S [101, 111, 108, 61, 108, 102], I 0, I 4, I 0] := rfl
    by_cases e : [101, 111, 108, 61, 108, 102] = s
    · have es : sayT (tabW.take 4) s a = over (sayT (tabW.take 3) s a) (0, 4, 0) := es.trans (if_pos e)
      have ih := ih (by decide)
      rw [es] at ih
      generalize sayT (tabW.take 3) s a = b at ih ⊢
      simp only [d, q1, asaid_k1_w, asaid_k1', se_t e, Int.toNat_natCast, hd, kl4, ro4, rm4, kl3, ro3, go_sem, reduceCtorEq, Nat.reduceEqDiff, reduceIte, Nat.reduceAdd, Nat.reduceSub, Nat.reduceLeDiff, Int.reduceToNat, Nat.reduceBEq]
      repeat ((with_reducible apply And.intro); (case left => first | omega | (simp only [List.length_append, List.length_cons, List.length_nil, List.length_drop, List.length_take, List.length_tail, List.length_dropLast, fs_length, ss_length, bs_length, ns_length]; omega)))
      refine of_call (aover_snd b (0, 4, 0)) ?_
      simp only [go_sem, reduceCtorEq, Nat.reduceEqDiff, reduceIte, Nat.reduceAdd, Nat.reduceSub, Nat.reduceLeDiff, Int.reduceToNat, Nat.reduceBEq]
      repeat ((with_reducible apply And.intro); (case left => first | omega | (simp only [List.length_append, List.length_cons, List.length_nil, List.length_drop, List.length_take, List.length_tail, List.length_dropLast, fs_length, ss_length, bs_length, ns_length]; omega)))
      simp only [attT, q1, asaid_k0_w, asaid_k0', go_sem, reduceCtorEq, Nat.reduceEqDiff, reduceIte, Nat.reduceAdd, Nat.reduceSub, Nat.reduceLeDiff, Int.reduceToNat, Nat.reduceBEq]
      repeat ((with_reducible apply And.intro); (case left => first | omega | (simp only [List.length_append, List.length_cons, List.length_nil, List.length_drop, List.length_take, List.length_tail, List.length_dropLast, fs_length, ss_length, bs_length, ns_length]; omega)))
      exact ih
    · have es : sayT (tabW.take 4) s a = sayT (tabW.take 3) s a := es.trans (if_neg e)
      have ih := ih (by decide)
      rw [es] at ih
      generalize sayT (tabW.take 3) s a = b at ih ⊢
      simp only [d, q1, asaid_k1_w, asaid_k1', se_f e, Int.toNat_natCast, hd, kl4, ro4, rm4, kl3, ro3, go_sem, reduceCtorEq, Nat.reduceEqDiff, reduceIte, Nat.reduceAdd, Nat.reduceSub, Nat.reduceLeDiff, Int.reduceToNat, Nat.reduceBEq]
      repeat ((with_reducible apply And.intro); (case left => first | omega | (simp only [List.length_append, List.length_cons, List.length_nil, List.length_drop, List.length_take, List.length_tail, List.length_dropLast, fs_length, ss_length, bs_length, ns_length]; omega)))
      simp only [q1, asaid_k0_w, asaid_k0', go_sem, reduceCtorEq, Nat.reduceEqDiff, reduceIte, Nat.reduceAdd, Nat.reduceSub, Nat.reduceLeDiff, Int.reduceToNat, Nat.reduceBEq]
      exact ih
  | 4, _ =>
    have d : decide (((4 : Nat) : Int) < 9) = true := by decide
    have q1 : IntKind.i64.wrap (((4 : Nat) : Int) + 1) = ((5 : Nat) : Int) := by decide
    have es := sayT_step tabW 4 s a (by decide)
    have hd : List.take 4 (List.drop (4 * 4) wordsC) = [S [101, 111, 108, 61, 99, 114, 108, 102], I 0, I 5, I 0] := rfl
    by_cases e : [101, 111, 108, 61, 99, 114, 108, 102] = s
    · have es : sayT (tabW.take 5) s a = over (sayT (tabW.take 4) s a) (0, 5, 0) := es.trans (if_pos e)
      have ih := ih (by decide)
      rw [es] at ih
      generalize sayT (tabW.take 4) s a = b at ih ⊢
      simp only [d, q1, asaid_k1_w, asaid_k1', se_t e, Int.toNat_natCast, hd, kl4, ro4, rm4, kl3, ro3, go_sem, reduceCtorEq, Nat.reduceEqDiff, reduceIte, Nat.reduceAdd, Nat.reduceSub, Nat.reduceLeDiff, Int.reduceToNat, Nat.reduceBEq]
      repeat ((with_reducible apply And.intro); (case left => first | omega | (simp only [List.length_append, List.length_cons, List.length_nil, List.length_drop, List.length_take, List.length_tail, List.length_dropLast, fs_length, ss_length, bs_length, ns_length]; omega)))
      refine of_call (aover_snd b (0, 5, 0)) ?_
      simp only [go_sem, reduceCtorEq, Nat.reduceEqDiff, reduceIte, Nat.reduceAdd, Nat.reduceSub, Nat.reduceLeDiff, Int.reduceToNat, Nat.reduceBEq]
      repeat ((with_reducible apply And.intro); (case left => first | omega | (simp only [List.length_append, List.length_cons, List.length_nil, List.length_drop, List.length_take, List.length_tail, List.length_dropLast, fs_length, ss_length, bs_length, ns_length]; omega)))
      simp only [attT, q1, asaid_k0_w, asaid_k0', go_sem, reduceCtorEq, Nat.reduceEqDiff, reduceIte, Nat.reduceAdd, Nat.reduceSub, Nat.reduceLeDiff, Int.reduceToNat, Nat.reduceBEq]
      repeat ((with_reducible apply And.intro); (case left => first | omega | (simp only [List.length_append, List.length_cons, List.length_nil, List.length_drop, List.length_take, List.length_tail, List.length_dropLast, fs_length, ss_length, bs_length, ns_length]; omega)))
      exact ih
    · have es : sayT (tabW.take 5) s a = sayT (tabW.take 4) s a := es.trans (if_neg e)
      have ih := ih (by decide)
      rw [es] at ih
      generalize sayT (tabW.take 4) s a = b at ih ⊢
      simp only [d, q1, asaid_k1_w, asaid_k1', se_f e, Int.toNat_natCast, hd, kl4, ro4, rm4, kl3, ro3, go_sem, reduceCtorEq, Nat.reduceEqDiff, reduceIte, Nat.reduceAdd, Nat.reduceSub, Nat.reduceLeDiff, Int.reduceToNat, Nat.reduceBEq]
      repeat ((with_reducible apply And.intro); (case left => first | omega | (simp only [List.length_append, List.length_cons, List.length_nil, List.length_drop, List.length_take, List.length_tail, List.length_dropLast, fs_length, ss_length, bs_length, ns_length]; omega)))
      simp only [q1, asaid_k0_w, asaid_k0', go_sem, reduceCtorEq, Nat.reduceEqDiff, reduceIte, Nat.reduceAdd, Nat.reduceSub, Nat.reduceLeDiff, Int.reduceToNat, Nat.reduceBEq]
      exact ih
  | 5, _ =>
    have d : decide (((5 : Nat) : Int) < 9) = true := by decide
    have q1 : IntKind.i64.wrap (((5 : Nat) : Int) + 1) = ((6 : Nat) : Int) := by decide
    have es := sayT_step tabW 5 s a (by decide)
    have hd : List.take 4 (List.drop (5 * 4) wordsC) = [S [109, 101, 114, 103, 101, 61, 111, 117, 114, 115], I 0, I 0, I 6] := rfl
    by_cases e : [109, 101, 114, 103, 101, 61, 111, 117, 114, 115] = s
    · have es : sayT (tabW.take 6) s a = over (sayT (tabW.take 5) s a) (0, 0, 6) := es.trans (if_pos e)
      have ih := ih (by decide)
      rw [es] at ih
      generalize sayT (tabW.take 5) s a = b at ih ⊢
      simp only [d, q1, asaid_k1_w, asaid_k1', se_t e, Int.toNat_natCast, hd, kl4, ro4, rm4, kl3, ro3, go_sem, reduceCtorEq, Nat.reduceEqDiff, reduceIte, Nat.reduceAdd, Nat.reduceSub, Nat.reduceLeDiff, Int.reduceToNat, Nat.reduceBEq]
      repeat ((with_reducible apply And.intro); (case left => first | omega | (simp only [List.length_append, List.length_cons, List.length_nil, List.length_drop, List.length_take, List.length_tail, List.length_dropLast, fs_length, ss_length, bs_length, ns_length]; omega)))
      refine of_call (aover_snd b (0, 0, 6)) ?_
      simp only [go_sem, reduceCtorEq, Nat.reduceEqDiff, reduceIte, Nat.reduceAdd, Nat.reduceSub, Nat.reduceLeDiff, Int.reduceToNat, Nat.reduceBEq]
      repeat ((with_reducible apply And.intro); (case left => first | omega | (simp only [List.length_append, List.length_cons, List.length_nil, List.length_drop, List.length_take, List.length_tail, List.length_dropLast, fs_length, ss_length, bs_length, ns_length]; omega)))
      simp only [attT, q1, asaid_k0_w, asaid_k0', go_sem, reduceCtorEq, Nat.reduceEqDiff, reduceIte, Nat.reduceAdd, Nat.reduceSub, Nat.reduceLeDiff, Int.reduceToNat, Nat.reduceBEq]
      repeat ((with_reducible apply And.intro); (case left => first | omega | (simp only [List.length_append, List.length_cons, List.length_nil, List.length_drop, List.length_take, List.length_tail, List.length_dropLast, fs_length, ss_length, bs_length, ns_length]; omega)))
      exact ih
    · have es : sayT (tabW.take 6) s a = sayT (tabW.take 5) s a := es.trans (if_neg e)
      have ih := ih (by decide)
      rw [es] at ih
      generalize sayT (tabW.take 5) s a = b at ih ⊢
      simp only [d, q1, asaid_k1_w, asaid_k1', se_f e, Int.toNat_natCast, hd, kl4, ro4, rm4, kl3, ro3, go_sem, reduceCtorEq, Nat.reduceEqDiff, reduceIte, Nat.reduceAdd, Nat.reduceSub, Nat.reduceLeDiff, Int.reduceToNat, Nat.reduceBEq]
      repeat ((with_reducible apply And.intro); (case left => first | omega | (simp only [List.length_append, List.length_cons, List.length_nil, List.length_drop, List.length_take, List.length_tail, List.length_dropLast, fs_length, ss_length, bs_length, ns_length]; omega)))
      simp only [q1, asaid_k0_w, asaid_k0', go_sem, reduceCtorEq, Nat.reduceEqDiff, reduceIte, Nat.reduceAdd, Nat.reduceSub, Nat.reduceLeDiff, Int.reduceToNat, Nat.reduceBEq]
      exact ih
  | 6, _ =>
    have d : decide (((6 : Nat) : Int) < 9) = true := by decide
    have q1 : IntKind.i64.wrap (((6 : Nat) : Int) + 1) = ((7 : Nat) : Int) := by decide
    have es := sayT_step tabW 6 s a (by decide)
    have hd : List.take 4 (List.drop (6 * 4) wordsC) = [S [109, 101, 114, 103, 101, 61, 117, 110, 105, 111, 110], I 0, I 0, I 7] := rfl
    by_cases e : [109, 101, 114, 103, 101, 61, 117, 110, 105, 111, 110] = s
    · have es : sayT (tabW.take 7) s a = over (sayT (tabW.take 6) s a) (0, 0, 7) := es.trans (if_pos e)
      have ih := ih (by decide)
      rw [es] at ih
      generalize sayT (tabW.take 6) s a = b at ih ⊢
      simp only [d, q1, asaid_k1_w, asaid_k1', se_t e, Int.toNat_natCast, hd, kl4, ro4, rm4, kl3, ro3, go_sem, reduceCtorEq, Nat.reduceEqDiff, reduceIte, Nat.reduceAdd, Nat.reduceSub, Nat.reduceLeDiff, Int.reduceToNat, Nat.reduceBEq]
      repeat ((with_reducible apply And.intro); (case left => first | omega | (simp only [List.length_append, List.length_cons, List.length_nil, List.length_drop, List.length_take, List.length_tail, List.length_dropLast, fs_length, ss_length, bs_length, ns_length]; omega)))
      refine of_call (aover_snd b (0, 0, 7)) ?_
      simp only [go_sem, reduceCtorEq, Nat.reduceEqDiff, reduceIte, Nat.reduceAdd, Nat.reduceSub, Nat.reduceLeDiff, Int.reduceToNat, Nat.reduceBEq]
      repeat ((with_reducible apply And.intro); (case left => first | omega | (simp only [List.length_append, List.length_cons, List.length_nil, List.length_drop, List.length_take, List.length_tail, List.length_dropLast, fs_length, ss_length, bs_length, ns_length]; omega)))
      simp only [attT, q1, asaid_k0_w, asaid_k0', go_sem, reduceCtorEq, Nat.reduceEqDiff, reduceIte, Nat.reduceAdd, Nat.reduceSub, Nat.reduceLeDiff, Int.reduceToNat, Nat.reduceBEq]
      repeat ((with_reducible apply And.intro); (case left => first | omega | (simp only [List.length_append, List.length_cons, List.length_nil, List.length_drop, List.length_take, List.length_tail, List.length_dropLast, fs_length, ss_length, bs_length, ns_length]; omega)))
      exact ih
    · have es : sayT (tabW.take 7) s a = sayT (tabW.take 6) s a := es.trans (if_neg e)
      have ih := ih (by decide)
      rw [es] at ih
      generalize sayT (tabW.take 6) s a = b at ih ⊢
      simp only [d, q1, asaid_k1_w, asaid_k1', se_f e, Int.toNat_natCast, hd, kl4, ro4, rm4, kl3, ro3, go_sem, reduceCtorEq, Nat.reduceEqDiff, reduceIte, Nat.reduceAdd, Nat.reduceSub, Nat.reduceLeDiff, Int.reduceToNat, Nat.reduceBEq]
      repeat ((with_reducible apply And.intro); (case left => first | omega | (simp only [List.length_append, List.length_cons, List.length_nil, List.length_drop, List.length_take, List.length_tail, List.length_dropLast, fs_length, ss_length, bs_length, ns_length]; omega)))
      simp only [q1, asaid_k0_w, asaid_k0', go_sem, reduceCtorEq, Nat.reduceEqDiff, reduceIte, Nat.reduceAdd, Nat.reduceSub, Nat.reduceLeDiff, Int.reduceToNat, Nat.reduceBEq]
      exact ih
  | 7, _ =>
    have d : decide (((7 : Nat) : Int) < 9) = true := by decide
    have q1 : IntKind.i64.wrap (((7 : Nat) : Int) + 1) = ((8 : Nat) : Int) := by decide
    have es := sayT_step tabW 7 s a (by decide)
    have hd : List.take 4 (List.drop (7 * 4) wordsC) = [S [45, 109, 101, 114, 103, 101], I 0, I 0, I 8] := rfl
    by_cases e : [45, 109, 101, 114, 103, 101] = s
    · have es : sayT (tabW.take 8) s a = over (sayT (tabW.take 7) s a) (0, 0, 8) := es.trans (if_pos e)
      have ih := ih (by decide)
      rw [es] at ih
      generalize sayT (tabW.take 7) s a = b at ih ⊢
      simp only [d, q1, asaid_k1_w, asaid_k1', se_t e, Int.toNat_natCast, hd, kl4, ro4, rm4, kl3, ro3, go_sem, reduceCtorEq, Nat.reduceEqDiff, reduceIte, Nat.reduceAdd, Nat.reduceSub, Nat.reduceLeDiff, Int.reduceToNat, Nat.reduceBEq]
      repeat ((with_reducible apply And.intro); (case left => first | omega | (simp only [List.length_append, List.length_cons, List.length_nil, List.length_drop, List.length_take, List.length_tail, List.length_dropLast, fs_length, ss_length, bs_length, ns_length]; omega)))
      refine of_call (aover_snd b (0, 0, 8)) ?_
      simp only [go_sem, reduceCtorEq, Nat.reduceEqDiff, reduceIte, Nat.reduceAdd, Nat.reduceSub, Nat.reduceLeDiff, Int.reduceToNat, Nat.reduceBEq]
      repeat ((with_reducible apply And.intro); (case left => first | omega | (simp only [List.length_append, List.length_cons, List.length_nil, List.length_drop, List.length_take, List.length_tail, List.length_dropLast, fs_length, ss_length, bs_length, ns_length]; omega)))
      simp only [attT, q1, asaid_k0_w, asaid_k0', go_sem, reduceCtorEq, Nat.reduceEqDiff, reduceIte, Nat.reduceAdd, Nat.reduceSub, Nat.reduceLeDiff, Int.reduceToNat, Nat.reduceBEq]
      repeat ((with_reducible apply And.intro); (case left => first | omega | (simp only [List.length_append, List.length_cons, List.length_nil, List.length_drop, List.length_take, List.length_tail, List.length_dropLast, fs_length, ss_length, bs_length, ns_length]; omega)))
      exact ih
    · have es : sayT (tabW.take 8) s a = sayT (tabW.take 7) s a := es.trans (if_neg e)
      have ih := ih (by decide)
      rw [es] at ih
      generalize sayT (tabW.take 7) s a = b at ih ⊢
      simp only [d, q1, asaid_k1_w, asaid_k1', se_f e, Int.toNat_natCast, hd, kl4, ro4, rm4, kl3, ro3, go_sem, reduceCtorEq, Nat.reduceEqDiff, reduceIte, Nat.reduceAdd, Nat.reduceSub, Nat.reduceLeDiff, Int.reduceToNat, Nat.reduceBEq]
      repeat ((with_reducible apply And.intro); (case left => first | omega | (simp only [List.length_append, List.length_cons, List.length_nil, List.length_drop, List.length_take, List.length_tail, List.length_dropLast, fs_length, ss_length, bs_length, ns_length]; omega)))
      simp only [q1, asaid_k0_w, asaid_k0', go_sem, reduceCtorEq, Nat.reduceEqDiff, reduceIte, Nat.reduceAdd, Nat.reduceSub, Nat.reduceLeDiff, Int.reduceToNat, Nat.reduceBEq]
      exact ih
  | 8, _ =>
    have d : decide (((8 : Nat) : Int) < 9) = true := by decide
    have q1 : IntKind.i64.wrap (((8 : Nat) : Int) + 1) = ((9 : Nat) : Int) := by decide
    have es := sayT_step tabW 8 s a (by decide)
    have hd : List.take 4 (List.drop (8 * 4) wordsC) = [S [98, 105, 110, 97, 114, 121], I 2, I 0, I 8] := rfl
    by_cases e : [98, 105, 110, 97, 114, 121] = s
    · have es : sayT (tabW.take 9) s a = over (sayT (tabW.take 8) s a) (2, 0, 8) := es.trans (if_pos e)
      have ih := ih (by decide)
      rw [es] at ih
      generalize sayT (tabW.take 8) s a = b at ih ⊢
      simp only [d, q1, asaid_k1_w, asaid_k1', se_t e, Int.toNat_natCast, hd, kl4, ro4, rm4, kl3, ro3, go_sem, reduceCtorEq, Nat.reduceEqDiff, reduceIte, Nat.reduceAdd, Nat.reduceSub, Nat.reduceLeDiff, Int.reduceToNat, Nat.reduceBEq]
      repeat ((with_reducible apply And.intro); (case left => first | omega | (simp only [List.length_append, List.length_cons, List.length_nil, List.length_drop, List.length_take, List.length_tail, List.length_dropLast, fs_length, ss_length, bs_length, ns_length]; omega)))
      refine of_call (aover_snd b (2, 0, 8)) ?_
      simp only [go_sem, reduceCtorEq, Nat.reduceEqDiff, reduceIte, Nat.reduceAdd, Nat.reduceSub, Nat.reduceLeDiff, Int.reduceToNat, Nat.reduceBEq]
      repeat ((with_reducible apply And.intro); (case left => first | omega | (simp only [List.length_append, List.length_cons, List.length_nil, List.length_drop, List.length_take, List.length_tail, List.length_dropLast, fs_length, ss_length, bs_length, ns_length]; omega)))
      simp only [attT, q1, asaid_k0_w, asaid_k0', go_sem, reduceCtorEq, Nat.reduceEqDiff, reduceIte, Nat.reduceAdd, Nat.reduceSub, Nat.reduceLeDiff, Int.reduceToNat, Nat.reduceBEq]
      repeat ((with_reducible apply And.intro); (case left => first | omega | (simp only [List.length_append, List.length_cons, List.length_nil, List.length_drop, List.length_take, List.length_tail, List.length_dropLast, fs_length, ss_length, bs_length, ns_length]; omega)))
      exact ih
    · have es : sayT (tabW.take 9) s a = sayT (tabW.take 8) s a := es.trans (if_neg e)
      have ih := ih (by decide)
      rw [es] at ih
      generalize sayT (tabW.take 8) s a = b at ih ⊢
      simp only [d, q1, asaid_k1_w, asaid_k1', se_f e, Int.toNat_natCast, hd, kl4, ro4, rm4, kl3, ro3, go_sem, reduceCtorEq, Nat.reduceEqDiff, reduceIte, Nat.reduceAdd, Nat.reduceSub, Nat.reduceLeDiff, Int.reduceToNat, Nat.reduceBEq]
      repeat ((with_reducible apply And.intro); (case left => first | omega | (simp only [List.length_append, List.length_cons, List.length_nil, List.length_drop, List.length_take, List.length_tail, List.length_dropLast, fs_length, ss_length, bs_length, ns_length]; omega)))
      simp only [q1, asaid_k0_w, asaid_k0', go_sem, reduceCtorEq, Nat.reduceEqDiff, reduceIte, Nat.reduceAdd, Nat.reduceSub, Nat.reduceLeDiff, Int.reduceToNat, Nat.reduceBEq]
      exact ih
  | 9, _ =>
    have d : decide (((9 : Nat) : Int) < 9) = false := by decide
    simp only [d, go_sem, reduceCtorEq, Nat.reduceEqDiff, reduceIte, Nat.reduceAdd, Nat.reduceSub, Nat.reduceLeDiff, Int.reduceToNat, Nat.reduceBEq]
    exact hK
  | n + 10, h => exact absurd h (by omega)
theorem asaid_snd (l : List Bs) (hl : l.length ≤ 1048576) (hb : ∀ x, x ∈ l → x.length ≤ 1048576) : Snd Tryd.prog (gl m) 53 [.sl .frn 1 (ss l)] (attT (saidA l)) := by
  refine snd_of (fn := Tryd.f53) (af := asaid) Tryd.func53 (asaid_comp m) mixed (kn_ok m) (Nat.le_of_ble_eq_true rfl) ?_
  simp only [asaid, go_sem, reduceCtorEq, Nat.reduceEqDiff, reduceIte, Nat.reduceAdd, Nat.reduceSub, Nat.reduceLeDiff, Int.reduceToNat, Nat.reduceBEq]
  repeat ((with_reducible apply And.intro); (case left => first | omega | (simp only [List.length_append, List.length_cons, List.length_nil, List.length_drop, List.length_take, List.length_tail, List.length_dropLast, fs_length, ss_length, bs_length, ns_length]; omega)))
  refine of_call (awords_snd) ?_
  simp only [go_sem, reduceCtorEq, Nat.reduceEqDiff, reduceIte, Nat.reduceAdd, Nat.reduceSub, Nat.reduceLeDiff, Int.reduceToNat, Nat.reduceBEq]
  repeat ((with_reducible apply And.intro); (case left => first | omega | (simp only [List.length_append, List.length_cons, List.length_nil, List.length_drop, List.length_take, List.length_tail, List.length_dropLast, fs_length, ss_length, bs_length, ns_length]; omega)))
  refine loop_up l.length (fun i => stO l i (saidA (l.take i))) rfl ?_
  intro i hi ih
  simp only [asaid_l5_w, asaid_l5', go_sem, reduceCtorEq, Nat.reduceEqDiff, reduceIte, Nat.reduceAdd, Nat.reduceSub, Nat.reduceLeDiff, Int.reduceToNat, Nat.reduceBEq]
  repeat ((with_reducible apply And.intro); (case left => first | omega | (simp only [List.length_append, List.length_cons, List.length_nil, List.length_drop, List.length_take, List.length_tail, List.length_dropLast, fs_length, ss_length, bs_length, ns_length]; omega)))
  by_cases h : i < l.length
  · have q1 : IntKind.i64.wrap ((i : Int) + 1) = ((i + 1 : Nat) : Int) := wrapN _ (by omega) (by omega)
    have g : (ss l)[i]? = some (S l[i]) := by rw [ss_get, List.getElem?_eq_getElem h]; rfl
    have e : saidA (l.take (i + 1)) = sayT tabW l[i] (saidA (l.take i)) := by rw [take_snoc h, saidA, List.foldl_append]; rfl
    have ih := ih h
    rw [e] at ih
    generalize saidA (l.take i) = a at ih ⊢
    generalize l[i] = s at ih g ⊢
    simp only [lt_t h, g, asaid_k4_w, asaid_k4', go_sem, reduceCtorEq, Nat.reduceEqDiff, reduceIte, Nat.reduceAdd, Nat.reduceSub, Nat.reduceLeDiff, Int.reduceToNat, Nat.reduceBEq]
    repeat ((with_reducible apply And.intro); (case left => first | omega | (simp only [List.length_append, List.length_cons, List.length_nil, List.length_drop, List.length_take, List.length_tail, List.length_dropLast, fs_length, ss_length, bs_length, ns_length]; omega)))
    refine inner l i s a _ ?_
    simp only [q1, asaid_k3_w, asaid_k3', go_sem, reduceCtorEq, Nat.reduceEqDiff, reduceIte, Nat.reduceAdd, Nat.reduceSub, Nat.reduceLeDiff, Int.reduceToNat, Nat.reduceBEq]
    exact ih
  · obtain rfl : i = l.length := by omega
    simp only [lt_f h, List.take_length, asaid_k6_w, asaid_k6', go_sem, reduceCtorEq, Nat.reduceEqDiff, reduceIte, Nat.reduceAdd, Nat.reduceSub, Nat.reduceLeDiff, Int.reduceToNat, Nat.reduceBEq]
    repeat ((with_reducible apply And.intro); (case left => first | omega | (simp only [List.length_append, List.length_cons, List.length_nil, List.length_drop, List.length_take, List.length_tail, List.length_dropLast, fs_length, ss_length, bs_length, ns_length]; omega)))
    rfl
end Go.At
namespace Go.At
open Go Go.Ev Go.Proofs
open Go.Ln (lines lines_len line_len psplit_snd)
set_option linter.unusedVariables false
set_option maxHeartbeats 4000000
set_option linter.unusedSimpArgs false
attribute [local go_sem] eqs implies_true List.map_cons List.map_nil kl klL roD roL Option.map_some Option.map_none Option.getD_some Option.getD_none binVal binObl unVal if_true if_false eq_self passA frnD resD content getH getR getW viaNot viaSlot viaBox viaDeep viaMem List.contains_cons List.contains_nil grabs peeks okCells isCell place cellsOf chunk elt List.headD_cons List.length_cons List.length_nil List.take_succ_cons List.take_zero List.drop_succ_cons List.drop_zero List.nil_append List.cons_append List.append_nil List.all_cons List.all_nil plainC takeR setW over reCell List.getElem?_cons_zero List.getElem?_cons_succ List.set_cons_zero List.take_length outV resG plainV pack outVG outBx List.set_cons_succ Ref.idx Ref.addOff beq_self_eq_true bxL Option.bind_some writeR isLit viaBoxes capsPA boxPA nsOf noDup boxesAt argG passG passD rhoIn rhoOut idxIn tr trL List.getD_cons_zero gives pasOf isPtr Ins.d List.getD_cons_succ resL frnL List.getLast?_nil frnL_fs roL_fs resL_fs passL_fs klL_fs trL_fs map_roD_fs fs_length
variable {m : Int}
def aparse_k0' : AC := .seq (.reg (.seq [⟨some (29, false), none, .mov (.tmp 8 true) .peek⟩,⟨some (30, false), none, .slc 1 (.tmp 29 false) (some (.cst (.int .i64 1) (.lit (.int .i64 1)))) none⟩,⟨some (31, false), none, .call 53 [.tmp 30 false]⟩,⟨some (9, true), none, .new [(.lit (.int .i64 0)), (.lit (.int .i64 0)), (.lit (.int .i64 0))]⟩,⟨none, none, .store (.tmp 9 true) (.tmp 31 false) 3⟩])) [1, 5, 8, 9, 11, 12, 13] [9]
    (.seq (.reg (.seq [⟨some (32, false), none, .load (.tmp 9 true) 3 true false⟩,⟨some (33, false), none, .build [(.lit (.int .i64 0)), (.lit (.int .i64 0)), (.lit (.int .i64 0))] []⟩,⟨some (34, false), none, .eqS [0, 0, 0] true (.tmp 32 false) (.tmp 33 false)⟩])) [1, 5, 8, 9, 11, 12, 13, 34] [9]
    (.cond (.tmp 34 false)
      (.reg (.draw [⟨some (35, false), none, .mov (.tmp 5 true) .peek⟩,⟨some (36, false), none, .mov (.tmp 8 true) .peek⟩,⟨some (37, false), none, .iad (.tmp 36 false) (.cst (.int .i64 0) (.lit (.int .i64 0))) 1⟩,⟨some (38, false), none, .load (.tmp 37 false) 1 false false⟩,⟨some (39, false), none, .mov (.tmp 1 true) .peek⟩,⟨some (40, false), none, .load (.tmp 9 true) 3 true false⟩] (.alt ⟨some (41, false), none, .build [(.lit (.string (str []))), (.lit (.string (str []))), (.lit (.int .i64 0)), (.lit (.int .i64 0)), (.lit (.int .i64 0))] [(0, 1, (.tmp 38 false)), (1, 1, (.tmp 39 false)), (2, 3, (.tmp 40 false))]⟩ [⟨some (35, false), none, .mov (.tmp 5 true) .peek⟩]
      (.alt ⟨some (42, false), none, .buildS 5 1 [(.lit (.string (str []))), (.lit (.string (str []))), (.lit (.int .i64 0)), (.lit (.int .i64 0)), (.lit (.int .i64 0))] [(0, 5, (.tmp 41 false))]⟩ [⟨some (35, false), none, .mov (.tmp 5 true) .peek⟩]
      (.alt ⟨some (43, false), none, .app 5 56 (.tmp 35 false) (.tmp 42 false)⟩ []
      (.alt ⟨some (5, true), none, .mov (.tmp 43 false) .asg⟩ []
      .done .no) .no) .no) .no)))
      (.skip)))
def aparse_k0 : AC := aparse_k0'
theorem aparse_k0_w (C : Kn) (K : Ex → St → Prop) (s : St) : vcC C aparse_k0 K s = vcC C aparse_k0' K s := nr rfl
def aparse_k1' : AC := .reg (.seq [⟨some (44, false), none, .bin .add (.tmp 13 true) (.cst (.int .i64 1) (.lit (.int .i64 1)))⟩,⟨some (13, true), none, .mov (.tmp 44 false) .peek⟩])
def aparse_k1 : AC := aparse_k1'
theorem aparse_k1_w (C : Kn) (K : Ex → St → Prop) (s : St) : vcC C aparse_k1 K s = vcC C aparse_k1' K s := nr rfl
def aparse_k2' : AC := .seq (.block 1 (.seq (.reg (.seq [⟨some (15, false), none, .iad (.tmp 11 true) (.tmp 13 true) 1⟩,⟨some (16, false), none, .load (.tmp 15 false) 1 false false⟩,⟨some (7, true), none, .mov (.tmp 16 false) .asg⟩])) [1, 5, 7, 11, 12, 13] []
    (.seq (.reg (.seq [⟨some (17, false), none, .mov (.tmp 7 true) .peek⟩,⟨some (18, false), none, .call 50 [.tmp 17 false, (.cst (.func (.func 51) #[] #[]) (.lit (.func (.func 51) #[] #[])))]⟩,⟨some (8, true), none, .mov (.tmp 18 false) .asg⟩])) [1, 5, 8, 11, 12, 13] []
    (.seq (.seq (.reg (.seq [⟨some (19, false), none, .mov (.tmp 8 true) .peek⟩,⟨some (20, false), none, .lenL (.tmp 19 false)⟩,⟨some (21, false), none, .bin .eql (.tmp 20 false) (.cst (.int .i64 0) (.lit (.int .i64 0)))⟩,⟨some (22, false), none, .mov (.tmp 21 false) .peek⟩,⟨some (23, false), (some (22, false)), .mov (.tmp 8 true) .peek⟩,⟨some (24, false), (some (22, false)), .iad (.tmp 23 false) (.cst (.int .i64 0) (.lit (.int .i64 0))) 1⟩,⟨some (25, false), (some (22, false)), .load (.tmp 24 false) 1 false false⟩,⟨some (26, false), (some (22, false)), .call 52 [.tmp 25 false]⟩,⟨some (27, false), (some (22, false)), .un .not (.tmp 26 false)⟩,⟨some (28, false), none, .pick (.tmp 22 false) (.cst (.bool true) (.lit (.bool true))) (.tmp 27 false)⟩])) [1, 5, 8, 11, 12, 13, 28] []
    (.cond (.tmp 28 false)
      (.exit 1)
      (.skip))) [1, 5, 8, 11, 12, 13] [] aparse_k0)))) [1, 5, 11, 12, 13] [] aparse_k1
def aparse_k2 : AC := aparse_k2'
theorem aparse_k2_w (C : Kn) (K : Ex → St → Prop) (s : St) : vcC C aparse_k2 K s = vcC C aparse_k2' K s := nr rfl
def aparse_l3' : AC := .seq (.reg (.seq [⟨some (14, false), none, .bin .lss (.tmp 13 true) (.tmp 12 true)⟩])) [1, 5, 11, 12, 13, 14] []
  (.seq (.cond (.tmp 14 false)
    (.skip)
    (.exit 0)) [1, 5, 11, 12, 13] [] aparse_k2)
def aparse_l3 : AC := aparse_l3'
theorem aparse_l3_w (C : Kn) (K : Ex → St → Prop) (s : St) : vcC C aparse_l3 K s = vcC C aparse_l3' K s := nr rfl
def aparse_k4' : AC := .seq (.reg (.seq [⟨some (45, false), none, .mov (.tmp 5 true) .take⟩,⟨some (4, true), none, .mov (.tmp 45 false) .asg⟩])) [4, 5] []
  (.ret)
def aparse_k4 : AC := aparse_k4'
theorem aparse_k4_w (C : Kn) (K : Ex → St → Prop) (s : St) : vcC C aparse_k4 K s = vcC C aparse_k4' K s := nr rfl
def aparse : AF := ⟨.seq (.reg (.seq [⟨some (4, true), none, .mov (.cst (.slice none 0 0) (.sl .own 5 [])) .asg⟩])) [0, 1] []
  (.seq (.reg (.seq [⟨some (5, true), none, .mov (.cst (.slice none 0 0) (.sl .own 5 [])) .asg⟩])) [0, 1, 5] []
  (.seq (.seq (.reg (.seq [⟨some (10, false), none, .mov (.tmp 0 true) .peek⟩,⟨some (11, true), none, .call 49 [.tmp 10 false]⟩,⟨some (12, true), none, .lenL (.tmp 11 true)⟩,⟨some (13, true), none, .mov (.cst (.int .i64 0) (.lit (.int .i64 0))) .peek⟩])) [1, 5, 11, 12, 13] []
  (.block 0 (.loop [1, 5, 11, 12, 13] [] aparse_l3))) [5] [] aparse_k4)),
  [.tmp 4]⟩
theorem aparse_comp (m : Int) : compF Tryd.prog (gl m) [] Tryd.f19 = some aparse := by kernel_rfl
theorem spans_len (p : Nat → Bool) (s : ByteArray) : ∀ (f pos : Nat) (st : Option Nat) (acc : List (Nat × Nat)), (Lib.spansFromP p s f pos st acc).1.length ≤ acc.length + f
  | 0, _, _, _ => Nat.le_refl _
  | f + 1, pos, st, acc => by
    unfold Lib.spansFromP
    split
    · split
      · cases st with
        | none => have := spans_len p s f (pos + (Utf8.decode s pos).2) none acc; dsimp only; omega
        | some a => have := spans_len p s f (pos + (Utf8.decode s pos).2) none (acc ++ [(a, pos)]); rw [List.length_append, List.length_singleton] at this; dsimp only; omega
      · cases st with
        | none => have := spans_len p s f (pos + (Utf8.decode s pos).2) (some pos) acc; dsimp only; omega
        | some a => have := spans_len p s f (pos + (Utf8.decode s pos).2) (some a) acc; dsimp only; omega
    · show acc.length ≤ _; omega
theorem fields_len (s : Bs) : (fieldsL s).length ≤ s.length + 1 := by
  have := spans_len blankN (str s) (str s).size 0 none []
  rw [fieldsL, List.length_map, Lib.goFieldsP, List.length_map, Lib.spansOfP]
  generalize Lib.spansFromP blankN (str s) (str s).size 0 none [] = x at this ⊢
  rw [str_size] at this
  obtain ⟨l, st⟩ := x
  cases st <;> simp [Lib.closeSpans] at this ⊢ <;> omega
theorem field_len {s x : Bs} (h : x ∈ fieldsL s) : x.length ≤ s.length := by
  rw [fieldsL, List.mem_map] at h
  obtain ⟨b, hb, rfl⟩ := h
  rw [Lib.goFieldsP, List.mem_map] at hb
  obtain ⟨y, _, rfl⟩ := hb
  have : ((str s).extract y.1 y.2).size ≤ s.length := by rw [ByteArray.size_extract, str_size]; omega
  exact this
def oneA (dir l : Bs) : Option ARule := match fieldsL l with
  | [] => none
  | p :: ws => if mayA p = true then (if saidA ws = (0, 0, 0) then none else some (p, dir, saidA ws)) else none
def pA (dir : Bs) (L : List Bs) : List ARule := L.filterMap (oneA dir)
def parseA (s dir : Bs) : List ARule := pA dir (lines s)
theorem pA_snoc (dir : Bs) (L : List Bs) (s : Bs) : pA dir (L ++ [s]) = match oneA dir s with | some r => pA dir L ++ [r] | none => pA dir L := by
  simp only [pA, List.filterMap_append, List.filterMap_cons, List.filterMap_nil]
  cases oneA dir s <;> simp
theorem pA_len (dir : Bs) (L : List Bs) : (pA dir L).length ≤ L.length := List.length_filterMap_le _ _
def fA (r : ARule) : List Value := [.string (str r.1), .string (str r.2.1), .int .i64 r.2.2.1, .int .i64 r.2.2.2.1, .int .i64 r.2.2.2.2]
theorem fs_snocA (l : List ARule) (r : ARule) : fs fA l ++ [.agg [S r.1, S r.2.1, I r.2.2.1, I r.2.2.2.1, I r.2.2.2.2]] = fs fA (l ++ [r]) := fs_snoc fA l r
theorem aparse_snd (s dir : Bs) (hs : s.length ≤ 1048575) (hd : dir.length ≤ 1048575) : Snd Tryd.prog (gl m) 19 [S s, S dir] (.sl .own 5 (fs fA (parseA s dir))) := by
  refine snd_of (fn := Tryd.f19) (af := aparse) Tryd.func19 (aparse_comp m) mixed (kn_ok m) (Nat.le_of_ble_eq_true rfl) ?_
  simp only [aparse, go_sem, reduceCtorEq, Nat.reduceEqDiff, reduceIte, Nat.reduceAdd, Nat.reduceSub, Nat.reduceLeDiff, Int.reduceToNat, Nat.reduceBEq]
  repeat ((with_reducible apply And.intro); (case left => first | omega | (simp only [List.length_append, List.length_cons, List.length_nil, List.length_drop, List.length_take, List.length_tail, List.length_dropLast, fs_length, ss_length, bs_length, ns_length]; omega)))
  refine of_call (psplit_snd s (by omega)) ?_
  simp only [go_sem, reduceCtorEq, Nat.reduceEqDiff, reduceIte, Nat.reduceAdd, Nat.reduceSub, Nat.reduceLeDiff, Int.reduceToNat, Nat.reduceBEq]
  repeat ((with_reducible apply And.intro); (case left => first | omega | (simp only [List.length_append, List.length_cons, List.length_nil, List.length_drop, List.length_take, List.length_tail, List.length_dropLast, fs_length, ss_length, bs_length, ns_length]; omega)))
  have hL := lines_len s
  have hl := fun l => @line_len s l
  show vcL _ _ _ _ (blockK 0 (seqK _ _ _ _ (outOk _ (.sl .own 5 (fs fA (pA dir (lines s))))))) _
  generalize lines s = L at hL hl
  refine loop_up L.length (fun i => mkS [(1, S dir), (5, .sl .own 5 (fs fA (pA dir (L.take i)))), (11, .sl .own 1 (ss L)), (12, N L.length), (13, N i)] []) rfl ?_
  intro i hi ih
  simp only [aparse_l3_w, aparse_l3', go_sem, reduceCtorEq, Nat.reduceEqDiff, reduceIte, Nat.reduceAdd, Nat.reduceSub, Nat.reduceLeDiff, Int.reduceToNat, Nat.reduceBEq]
  repeat ((with_reducible apply And.intro); (case left => first | omega | (simp only [List.length_append, List.length_cons, List.length_nil, List.length_drop, List.length_take, List.length_tail, List.length_dropLast, fs_length, ss_length, bs_length, ns_length]; omega)))
  by_cases h : i < L.length
  · have q1 : IntKind.i64.wrap ((i : Int) + 1) = ((i + 1 : Nat) : Int) := wrapN _ (by omega) (by omega)
    have g := ssE L h
    have ih := ih h
    simp only [take_snoc h, pA_snoc] at ih
    have hlx := hl L[i] (List.getElem_mem h)
    have hp := pA_len dir (L.take i)
    rw [List.length_take] at hp
    generalize pA dir (L.take i) = out at ih hp ⊢
    generalize L[i] = x at g ih hlx
    simp only [lt_t h, g, aparse_k2_w, aparse_k2', go_sem, reduceCtorEq, Nat.reduceEqDiff, reduceIte, Nat.reduceAdd, Nat.reduceSub, Nat.reduceLeDiff, Int.reduceToNat, Nat.reduceBEq]
    repeat ((with_reducible apply And.intro); (case left => first | omega | (simp only [List.length_append, List.length_cons, List.length_nil, List.length_drop, List.length_take, List.length_tail, List.length_dropLast, fs_length, ss_length, bs_length, ns_length]; omega)))
    repeat ((with_reducible apply And.intro); (case left => first | omega | (simp only [List.length_append, List.length_cons, List.length_nil, List.length_drop, List.length_take, List.length_tail, List.length_dropLast, fs_length, ss_length, bs_length, ns_length]; omega)))
    refine of_call (fields_snd x (by omega)) ?_
    simp only [go_sem, reduceCtorEq, Nat.reduceEqDiff, reduceIte, Nat.reduceAdd, Nat.reduceSub, Nat.reduceLeDiff, Int.reduceToNat, Nat.reduceBEq]
    repeat ((with_reducible apply And.intro); (case left => first | omega | (simp only [List.length_append, List.length_cons, List.length_nil, List.length_drop, List.length_take, List.length_tail, List.length_dropLast, fs_length, ss_length, bs_length, ns_length]; omega)))
    have h1 := fields_len x
    have h2 := fun y => @field_len x y
    rw [oneA] at ih
    generalize fieldsL x = w at ih h1 h2 ⊢
    cases w with
    | nil =>
      simp only [ss, List.map_nil, List.length_nil, eq_t (show ((0 : Nat) : Int) = 0 from rfl), q1, aparse_k1_w, aparse_k1', go_sem, reduceCtorEq, Nat.reduceEqDiff, reduceIte, Nat.reduceAdd, Nat.reduceSub, Nat.reduceLeDiff, Int.reduceToNat, Nat.reduceBEq]
      exact ih
    | cons p ws =>
      have hp1 := h2 p (List.mem_cons_self ..)
      have e0 : (ss (p :: ws))[0]? = some (S p) := rfl
      have ne : (((ss (p :: ws)).length : Int) == 0) = false := by rw [ss_length]; simp; omega
      simp only [e0, ne, ss_length, List.length_cons, eq_f (show ¬ ((ws.length + 1 : Nat) : Int) = 0 by omega), Int.toNat_zero, go_sem, reduceCtorEq, Nat.reduceEqDiff, reduceIte, Nat.reduceAdd, Nat.reduceSub, Nat.reduceLeDiff, Int.reduceToNat, Nat.reduceBEq]
      repeat ((with_reducible apply And.intro); (case left => first | omega | (simp only [List.length_append, List.length_cons, List.length_nil, List.length_drop, List.length_take, List.length_tail, List.length_dropLast, fs_length, ss_length, bs_length, ns_length]; omega)))
      refine of_call (amay_snd p (by omega)) ?_
      simp only [go_sem, reduceCtorEq, Nat.reduceEqDiff, reduceIte, Nat.reduceAdd, Nat.reduceSub, Nat.reduceLeDiff, Int.reduceToNat, Nat.reduceBEq]
      repeat ((with_reducible apply And.intro); (case left => first | omega | (simp only [List.length_append, List.length_cons, List.length_nil, List.length_drop, List.length_take, List.length_tail, List.length_dropLast, fs_length, ss_length, bs_length, ns_length]; omega)))
      cases hm : mayA p with
      | false =>
        simp only [hm, unVal, Bool.not_false, Bool.not_true, q1, aparse_k1_w, aparse_k1', go_sem, reduceCtorEq, Nat.reduceEqDiff, reduceIte, Nat.reduceAdd, Nat.reduceSub, Nat.reduceLeDiff, Int.reduceToNat, Nat.reduceBEq]
        simp only [hm, Bool.false_eq_true, if_false] at ih
        exact ih
      | true =>
        have e1 : (ss (p :: ws)).drop 1 = ss ws := rfl
        simp only [hm, if_true] at ih
        simp only [hm, unVal, Bool.not_false, Bool.not_true, e1, ss_length, List.length_cons, aparse_k0_w, aparse_k0', go_sem, reduceCtorEq, Nat.reduceEqDiff, reduceIte, Nat.reduceAdd, Nat.reduceSub, Nat.reduceLeDiff, Int.reduceToNat, Nat.reduceBEq]
        have hw : ∀ y, y ∈ ws → y.length ≤ 1048576 := fun y hy => by have := h2 y (List.mem_cons_of_mem _ hy); omega
        rw [List.length_cons] at h1
        repeat ((with_reducible apply And.intro); (case left => first | omega | (simp only [List.length_append, List.length_cons, List.length_nil, List.length_drop, List.length_take, List.length_tail, List.length_dropLast, fs_length, ss_length, bs_length, ns_length]; omega)))
        refine of_call (asaid_snd ws (by omega) hw) ?_
        simp only [go_sem, reduceCtorEq, Nat.reduceEqDiff, reduceIte, Nat.reduceAdd, Nat.reduceSub, Nat.reduceLeDiff, Int.reduceToNat, Nat.reduceBEq]
        repeat ((with_reducible apply And.intro); (case left => first | omega | (simp only [List.length_append, List.length_cons, List.length_nil, List.length_drop, List.length_take, List.length_tail, List.length_dropLast, fs_length, ss_length, bs_length, ns_length]; omega)))
        generalize saidA ws = a at ih ⊢
        have ea := eqA a (0, 0, 0)
        cases hz : (a == (0, 0, 0)) with
        | true =>
          have hz' : a = (0, 0, 0) := by simpa using hz
          rw [if_pos hz'] at ih
          rw [hz] at ea
          simp only [attT, ea, unVal, Bool.not_true, q1, aparse_k1_w, aparse_k1', go_sem, reduceCtorEq, Nat.reduceEqDiff, reduceIte, Nat.reduceAdd, Nat.reduceSub, Nat.reduceLeDiff, Int.reduceToNat, Nat.reduceBEq]
          repeat ((with_reducible apply And.intro); (case left => first | omega | (simp only [List.length_append, List.length_cons, List.length_nil, List.length_drop, List.length_take, List.length_tail, List.length_dropLast, fs_length, ss_length, bs_length, ns_length]; omega)))
          exact ih
        | false =>
          have hz' : ¬ a = (0, 0, 0) := by simpa using hz
          rw [if_neg hz'] at ih
          rw [hz] at ea
          simp only [attT, ea, e0, unVal, Bool.not_false, q1, Int.toNat_zero, aparse_k1_w, aparse_k1', go_sem, reduceCtorEq, Nat.reduceEqDiff, reduceIte, Nat.reduceAdd, Nat.reduceSub, Nat.reduceLeDiff, Int.reduceToNat, Nat.reduceBEq]
          have fx := fs_snocA out (p, dir, a)
          rw [fx]
          repeat ((with_reducible apply And.intro); (case left => first | omega | (simp only [List.length_append, List.length_cons, List.length_nil, List.length_drop, List.length_take, List.length_tail, List.length_dropLast, fs_length, ss_length, bs_length, ns_length]; omega)))
          exact ih
  · obtain rfl : i = L.length := by omega
    simp only [lt_f h, List.take_length, aparse_k4_w, aparse_k4', go_sem, reduceCtorEq, Nat.reduceEqDiff, reduceIte, Nat.reduceAdd, Nat.reduceSub, Nat.reduceLeDiff, Int.reduceToNat, Nat.reduceBEq]
    try rfl
end Go.At
namespace Go.At
open Go Go.Ev Go.Proofs
open Go.Gb (isPath matchF contains_snd gmatch_snd)
set_option linter.unusedVariables false
set_option maxHeartbeats 4000000
set_option linter.unusedSimpArgs false
attribute [local go_sem] eqs implies_true List.map_cons List.map_nil kl klL roD roL Option.map_some Option.map_none Option.getD_some Option.getD_none binVal binObl unVal if_true if_false eq_self passA frnD resD content getH getR getW viaNot viaSlot viaBox viaDeep viaMem List.contains_cons List.contains_nil grabs peeks okCells isCell place cellsOf chunk elt List.headD_cons List.length_cons List.length_nil List.take_succ_cons List.take_zero List.drop_succ_cons List.drop_zero List.nil_append List.cons_append List.append_nil List.all_cons List.all_nil plainC takeR setW over reCell List.getElem?_cons_zero List.getElem?_cons_succ List.set_cons_zero List.take_length outV resG plainV pack outVG outBx List.set_cons_succ Ref.idx Ref.addOff beq_self_eq_true bxL Option.bind_some writeR isLit viaBoxes capsPA boxPA nsOf noDup boxesAt argG passG passD rhoIn rhoOut idxIn tr trL List.getD_cons_zero gives pasOf isPtr Ins.d List.getD_cons_succ resL frnL List.getLast?_nil frnL_fs roL_fs resL_fs passL_fs klL_fs trL_fs map_roD_fs fs_length
variable {m : Int}
def ahas_k0' : AC := .seq (.reg (.seq [⟨some (27, false), none, .fad (.tmp 2 true) 0⟩,⟨some (28, false), none, .load (.tmp 27 false) 1 false false⟩,⟨some (29, false), none, .call 82 [.tmp 28 false, (.cst (.string (str [47])) (.lit (.string (str [47]))))]⟩,⟨some (30, false), none, .mov (.tmp 5 true) .peek⟩,⟨some (31, false), none, .call 73 [.tmp 29 false, .tmp 30 false]⟩,⟨some (4, true), none, .mov (.tmp 31 false) .asg⟩])) [4] []
  (.ret)
def ahas_k0 : AC := ahas_k0'
theorem ahas_k0_w (C : Kn) (K : Ex → St → Prop) (s : St) : vcC C ahas_k0 K s = vcC C ahas_k0' K s := nr rfl
def ahas_k1' : AC := .seq (.seq (.reg (.seq [⟨some (21, false), none, .fad (.tmp 2 true) 0⟩,⟨some (22, false), none, .load (.tmp 21 false) 1 false false⟩,⟨some (23, false), none, .call 57 [.tmp 22 false, (.cst (.string (str [47])) (.lit (.string (str [47]))))]⟩,⟨some (24, false), none, .un .not (.tmp 23 false)⟩])) [1, 2, 5, 24] [2]
  (.cond (.tmp 24 false)
    (.reg (.seq [⟨some (25, false), none, .mov (.tmp 1 true) .peek⟩,⟨some (26, false), none, .call 72 [.tmp 25 false]⟩,⟨some (5, true), none, .mov (.tmp 26 false) .asg⟩]))
    (.skip))) [2, 5] [2] ahas_k0
def ahas_k1 : AC := ahas_k1'
theorem ahas_k1_w (C : Kn) (K : Ex → St → Prop) (s : St) : vcC C ahas_k1 K s = vcC C ahas_k1' K s := nr rfl
def ahas_k2' : AC := .seq (.reg (.seq [⟨some (11, false), none, .mov (.tmp 1 true) .take⟩,⟨some (5, true), none, .mov (.tmp 11 false) .asg⟩])) [1, 2, 5] [2]
  (.seq (.seq (.reg (.seq [⟨some (12, false), none, .fad (.tmp 2 true) 1⟩,⟨some (13, false), none, .load (.tmp 12 false) 1 false false⟩,⟨some (14, false), none, .bin .neq (.tmp 13 false) (.cst (.string (str [])) (.lit (.string (str []))))⟩])) [1, 2, 5, 14] [2]
  (.cond (.tmp 14 false)
    (.reg (.seq [⟨some (15, false), none, .mov (.tmp 1 true) .peek⟩,⟨some (16, false), none, .fad (.tmp 2 true) 1⟩,⟨some (17, false), none, .load (.tmp 16 false) 1 false false⟩,⟨some (18, false), none, .len (.tmp 17 false)⟩,⟨some (19, false), none, .bin .add (.tmp 18 false) (.cst (.int .i64 1) (.lit (.int .i64 1)))⟩,⟨some (20, false), none, .sub (.tmp 15 false) (some (.tmp 19 false)) none⟩,⟨some (5, true), none, .mov (.tmp 20 false) .asg⟩]))
    (.skip))) [1, 2, 5] [2] ahas_k1)
def ahas_k2 : AC := ahas_k2'
theorem ahas_k2_w (C : Kn) (K : Ex → St → Prop) (s : St) : vcC C ahas_k2 K s = vcC C ahas_k2' K s := nr rfl
def ahas : AF := ⟨.seq (.reg (.seq [⟨some (2, true), none, .box (.tmp 0 true)⟩,⟨some (4, true), none, .mov (.cst (.bool false) (.lit (.bool false))) .asg⟩])) [1, 2] [2]
  (.seq (.seq (.reg (.seq [⟨some (6, false), none, .fad (.tmp 2 true) 1⟩,⟨some (7, false), none, .load (.tmp 6 false) 1 false false⟩,⟨some (8, false), none, .mov (.tmp 1 true) .peek⟩,⟨some (9, false), none, .call 70 [.tmp 7 false, .tmp 8 false]⟩,⟨some (10, false), none, .un .not (.tmp 9 false)⟩])) [1, 2, 10] [2]
  (.cond (.tmp 10 false)
    (.seq (.reg (.seq [⟨some (4, true), none, .mov (.cst (.bool false) (.lit (.bool false))) .asg⟩])) [4] []
    (.ret))
    (.skip))) [1, 2] [2] ahas_k2),
  [.tmp 4]⟩
theorem ahas_comp (m : Int) : compF Tryd.prog (gl m) [] Tryd.f46 = some ahas := by kernel_rfl
abbrev aruleT (r : ARule) : AV := .agg [S r.1, S r.2.1, I r.2.2.1, I r.2.2.2.1, I r.2.2.2.2]
def hasB (x : ARule) (p : Bs) : Bool := within x.2.1 p && matchF (headP x.1) (if x.1.contains 47 then (if x.2.1 = [] then p else p.drop (x.2.1.length + 1)) else name p)
theorem headP_free {s : Bs} (h : s.contains 47 = false) : headP s = s := by
  rw [headP, if_neg]
  intro hh
  cases s with
  | nil => cases hh
  | cons c t =>
    rw [List.head?_cons, Option.some.injEq] at hh
    subst hh
    simp at h
theorem hasB_eq (x : ARule) (p : Bs) : hasB x p = hasA x p := by
  rw [hasB, hasA]
  cases h : x.1.contains 47 with
  | true => rfl
  | false => rw [headP_free h]; rfl
theorem ahas_k0_v (pat dir : Bs) (x y z : Int) (rest : Bs) (h1 : pat.length ≤ 1048575) (hr : rest.length ≤ 1048575) :
    vcC (kn m) ahas_k0 (outOk [ROd.tmp 4] (B (matchF (headP pat) rest))) (mkS [(2, P 2), (5, S rest)] [(2, some [S pat, S dir, I x, I y, I z])]) := by
  simp only [ahas_k0_w, ahas_k0', go_sem, reduceCtorEq, Nat.reduceEqDiff, reduceIte, Nat.reduceAdd, Nat.reduceSub, Nat.reduceLeDiff, Int.reduceToNat, Nat.reduceBEq]
  repeat ((with_reducible apply And.intro); (case left => first | omega | (simp only [List.length_append, List.length_cons, List.length_nil, List.length_drop, List.length_take, List.length_tail, List.length_dropLast, fs_length, ss_length, bs_length, ns_length]; omega)))
  refine of_call (trimPrefix_snd pat [47]) ?_
  simp only [go_sem, reduceCtorEq, Nat.reduceEqDiff, reduceIte, Nat.reduceAdd, Nat.reduceSub, Nat.reduceLeDiff, Int.reduceToNat, Nat.reduceBEq]
  repeat ((with_reducible apply And.intro); (case left => first | omega | (simp only [List.length_append, List.length_cons, List.length_nil, List.length_drop, List.length_take, List.length_tail, List.length_dropLast, fs_length, ss_length, bs_length, ns_length]; omega)))
  rw [headP_tp]
  have := headP_len pat
  repeat ((with_reducible apply And.intro); (case left => first | omega | (simp only [List.length_append, List.length_cons, List.length_nil, List.length_drop, List.length_take, List.length_tail, List.length_dropLast, fs_length, ss_length, bs_length, ns_length]; omega)))
  refine of_call (gmatch_snd (headP pat) rest (by omega) hr) ?_
  simp only [go_sem, reduceCtorEq, Nat.reduceEqDiff, reduceIte, Nat.reduceAdd, Nat.reduceSub, Nat.reduceLeDiff, Int.reduceToNat, Nat.reduceBEq]
  repeat ((with_reducible apply And.intro); (case left => first | omega | (simp only [List.length_append, List.length_cons, List.length_nil, List.length_drop, List.length_take, List.length_tail, List.length_dropLast, fs_length, ss_length, bs_length, ns_length]; omega)))
  try first | rfl | omega
theorem ahas_k1_v (pat dir p : Bs) (x y z : Int) (rest : Bs) (h1 : pat.length ≤ 1048575) (hr : rest.length ≤ 1048575) (hp : p.length ≤ 1048575) :
    vcC (kn m) ahas_k1 (outOk [ROd.tmp 4] (B (matchF (headP pat) (if pat.contains 47 = true then rest else name p)))) (mkS [(1, S p), (2, P 2), (5, S rest)] [(2, some [S pat, S dir, I x, I y, I z])]) := by
  simp only [ahas_k1_w, ahas_k1', go_sem, reduceCtorEq, Nat.reduceEqDiff, reduceIte, Nat.reduceAdd, Nat.reduceSub, Nat.reduceLeDiff, Int.reduceToNat, Nat.reduceBEq]
  repeat ((with_reducible apply And.intro); (case left => first | omega | (simp only [List.length_append, List.length_cons, List.length_nil, List.length_drop, List.length_take, List.length_tail, List.length_dropLast, fs_length, ss_length, bs_length, ns_length]; omega)))
  refine of_call (contains_snd pat (by omega)) ?_
  simp only [go_sem, reduceCtorEq, Nat.reduceEqDiff, reduceIte, Nat.reduceAdd, Nat.reduceSub, Nat.reduceLeDiff, Int.reduceToNat, Nat.reduceBEq]
  repeat ((with_reducible apply And.intro); (case left => first | omega | (simp only [List.length_append, List.length_cons, List.length_nil, List.length_drop, List.length_take, List.length_tail, List.length_dropLast, fs_length, ss_length, bs_length, ns_length]; omega)))
  cases pat.contains 47 with
  | true =>
    simp only [if_true, unVal, Bool.not_true, go_sem, reduceCtorEq, Nat.reduceEqDiff, reduceIte, Nat.reduceAdd, Nat.reduceSub, Nat.reduceLeDiff, Int.reduceToNat, Nat.reduceBEq]
    repeat ((with_reducible apply And.intro); (case left => first | omega | (simp only [List.length_append, List.length_cons, List.length_nil, List.length_drop, List.length_take, List.length_tail, List.length_dropLast, fs_length, ss_length, bs_length, ns_length]; omega)))
    exact ahas_k0_v pat dir x y z rest h1 hr
  | false =>
    simp only [Bool.false_eq_true, if_false, unVal, Bool.not_false, go_sem, reduceCtorEq, Nat.reduceEqDiff, reduceIte, Nat.reduceAdd, Nat.reduceSub, Nat.reduceLeDiff, Int.reduceToNat, Nat.reduceBEq]
    repeat ((with_reducible apply And.intro); (case left => first | omega | (simp only [List.length_append, List.length_cons, List.length_nil, List.length_drop, List.length_take, List.length_tail, List.length_dropLast, fs_length, ss_length, bs_length, ns_length]; omega)))
    refine of_call (pname_snd p (by omega)) ?_
    simp only [go_sem, reduceCtorEq, Nat.reduceEqDiff, reduceIte, Nat.reduceAdd, Nat.reduceSub, Nat.reduceLeDiff, Int.reduceToNat, Nat.reduceBEq]
    repeat ((with_reducible apply And.intro); (case left => first | omega | (simp only [List.length_append, List.length_cons, List.length_nil, List.length_drop, List.length_take, List.length_tail, List.length_dropLast, fs_length, ss_length, bs_length, ns_length]; omega)))
    exact ahas_k0_v pat dir x y z (name p) h1 (by have := name_len p; omega)
theorem ahas_snd (r : ARule) (p : Bs) (h1 : r.1.length ≤ 1048575) (h2 : r.2.1.length ≤ 1048575) (hp : p.length ≤ 1048575) : Snd Tryd.prog (gl m) 46 [aruleT r, S p] (B (hasA r p)) := by
  refine snd_of (fn := Tryd.f46) (af := ahas) Tryd.func46 (ahas_comp m) mixed (kn_ok m) (Nat.le_of_ble_eq_true rfl) ?_
  simp only [ahas, go_sem, reduceCtorEq, Nat.reduceEqDiff, reduceIte, Nat.reduceAdd, Nat.reduceSub, Nat.reduceLeDiff, Int.reduceToNat, Nat.reduceBEq]
  obtain ⟨pat, dir, x, y, z⟩ := r
  rw [← hasB_eq, hasB]
  dsimp only at h1 h2 ⊢
  repeat ((with_reducible apply And.intro); (case left => first | omega | (simp only [List.length_append, List.length_cons, List.length_nil, List.length_drop, List.length_take, List.length_tail, List.length_dropLast, fs_length, ss_length, bs_length, ns_length]; omega)))
  repeat ((with_reducible apply And.intro); (case left => first | omega | (simp only [List.length_append, List.length_cons, List.length_nil, List.length_drop, List.length_take, List.length_tail, List.length_dropLast, fs_length, ss_length, bs_length, ns_length]; omega)))
  refine of_call (pwithin_snd dir p (by omega) (by omega)) ?_
  simp only [go_sem, reduceCtorEq, Nat.reduceEqDiff, reduceIte, Nat.reduceAdd, Nat.reduceSub, Nat.reduceLeDiff, Int.reduceToNat, Nat.reduceBEq]
  repeat ((with_reducible apply And.intro); (case left => first | omega | (simp only [List.length_append, List.length_cons, List.length_nil, List.length_drop, List.length_take, List.length_tail, List.length_dropLast, fs_length, ss_length, bs_length, ns_length]; omega)))
  cases hw : within dir p with
  | false =>
    simp only [unVal, Bool.not_false, Bool.false_and, go_sem, reduceCtorEq, Nat.reduceEqDiff, reduceIte, Nat.reduceAdd, Nat.reduceSub, Nat.reduceLeDiff, Int.reduceToNat, Nat.reduceBEq]
    repeat ((with_reducible apply And.intro); (case left => first | omega | (simp only [List.length_append, List.length_cons, List.length_nil, List.length_drop, List.length_take, List.length_tail, List.length_dropLast, fs_length, ss_length, bs_length, ns_length]; omega)))
    try first | rfl | omega
  | true =>
    by_cases hd : dir = []
    · subst hd
      simp only [unVal, Bool.not_true, Bool.true_and, if_true, ahas_k2_w, ahas_k2', bne, se_t (show ([] : Bs) = [] from rfl), go_sem, reduceCtorEq, Nat.reduceEqDiff, reduceIte, Nat.reduceAdd, Nat.reduceSub, Nat.reduceLeDiff, Int.reduceToNat, Nat.reduceBEq]
      repeat ((with_reducible apply And.intro); (case left => first | omega | (simp only [List.length_append, List.length_cons, List.length_nil, List.length_drop, List.length_take, List.length_tail, List.length_dropLast, fs_length, ss_length, bs_length, ns_length]; omega)))
      exact ahas_k1_v pat [] p x y z p h1 hp hp
    · obtain ⟨q, _, hq⟩ := (within_iff hd).1 hw
      have hl : dir.length + 1 ≤ p.length := by rw [hq, List.length_append, List.length_cons]; omega
      have w1 : IntKind.i64.wrap ((dir.length : Int) + 1) = ((dir.length + 1 : Nat) : Int) := wrapN _ (by omega) (by omega)
      have lt1 : (p.drop (dir.length + 1)).length ≤ 1048575 := by rw [List.length_drop]; omega
      simp only [unVal, Bool.not_true, Bool.true_and, if_neg hd, ahas_k2_w, ahas_k2', bne, se_f hd, w1, Int.toNat_natCast, go_sem, reduceCtorEq, Nat.reduceEqDiff, reduceIte, Nat.reduceAdd, Nat.reduceSub, Nat.reduceLeDiff, Int.reduceToNat, Nat.reduceBEq]
      repeat ((with_reducible apply And.intro); (case left => first | omega | (simp only [List.length_append, List.length_cons, List.length_nil, List.length_drop, List.length_take, List.length_tail, List.length_dropLast, fs_length, ss_length, bs_length, ns_length]; omega)))
      exact ahas_k1_v pat dir p x y z (p.drop (dir.length + 1)) h1 lt1 hp
end Go.At

