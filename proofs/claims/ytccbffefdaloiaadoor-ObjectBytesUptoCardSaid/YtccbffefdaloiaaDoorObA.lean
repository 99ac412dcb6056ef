import Derived.Test.YtccbffefdaloiaaDoorEvC
import Derived.Lib.ItoaNum
import Derived.Lib.Bytealg
import Derived.Test.YtccbffefdaloiaaDoorAwC
import Derived.Test.YtccbffefdaloiaaDoorShelf
/- Objects, in plain Lean. -/
namespace Go.Ob
open Go.Ev (Bs)
set_option linter.unusedVariables false

def blob : Bs := [98, 108, 111, 98]
def tree : Bs := [116, 114, 101, 101]
def commit : Bs := [99, 111, 109, 109, 105, 116]
def tag : Bs := [116, 97, 103]
def word (k : Int) : Bs := if k = 1 then blob else if k = 2 then tree else if k = 3 then commit else if k = 4 then tag else []
def kindOf (w : Bs) : Nat := if w = blob then 1 else if w = tree then 2 else if w = commit then 3 else if w = tag then 4 else 0
/-- the number that digits write -/
def numGo : Nat → Bs → Option Nat
  | acc, [] => some acc
  | acc, c :: l => if c.toNat < 48 ∨ 57 < c.toNat then none else numGo (10 * acc + (c.toNat - 48)) l
def number (s : Bs) : Option Nat := if s.length < 1 ∨ 7 < s.length ∨ (s[0]? = some 48 ∧ 1 < s.length) then none else numGo 0 s
def dec (n : Nat) : Bs := Lib.decDigits n
/-- an object as bytes -/
def bytes (k : Int) (b : Bs) : Bs := word k ++ [32] ++ dec b.length ++ [0] ++ b
theorem dec_small {n : Nat} (h : n < 10) : dec n = [UInt8.ofNat (48 + n)] := Lib.decDigits_one h
theorem dec_step {n : Nat} (h : ¬ n < 10) : dec n = dec (n / 10) ++ [UInt8.ofNat (48 + n % 10)] := by rw [dec, Lib.decDigits, dif_neg h]; rfl
end Go.Ob

/- Objects: the functions. -/
namespace Go.Aw
open Go Go.Ev Go.Proofs
open Go.Ob (word kindOf blob tree commit tag)
set_option linter.unusedVariables false
set_option linter.unusedSimpArgs false
attribute [local go_sem] eqs implies_true List.map_cons List.map_nil kl klL roD roL Option.map_some Option.map_none Option.getD_some Option.getD_none binVal binObl unVal if_true if_false eq_self passA frnD resD content getH getR getW viaNot viaSlot viaBox viaDeep viaMem List.contains_cons List.contains_nil grabs peeks okCells isCell place cellsOf chunk elt List.headD_cons List.length_cons List.length_nil List.take_succ_cons List.take_zero List.drop_succ_cons List.drop_zero List.nil_append List.cons_append List.append_nil List.all_cons List.all_nil plainC takeR setW over reCell List.getElem?_cons_zero List.getElem?_cons_succ List.set_cons_zero List.take_length outV resG plainV pack outVG outBx List.set_cons_succ Ref.idx Ref.addOff beq_self_eq_true bxL Option.bind_some writeR isLit viaBoxes capsPA boxPA nsOf noDup boxesAt argG passG passD rhoIn rhoOut idxIn tr trL List.getD_cons_zero gives pasOf isPtr Ins.d List.getD_cons_succ resL frnL List.getLast?_nil
variable {m : Int}
theorem wr0 : IntKind.i64.wrap (0 + 1) = 1 := rfl
theorem wr1 : IntKind.i64.wrap (1 + 1) = 2 := rfl
theorem wr2 : IntKind.i64.wrap (2 + 1) = 3 := rfl
theorem wr3 : IntKind.i64.wrap (3 + 1) = 4 := rfl
def kinds : AF := ⟨.seq (.reg (.seq [⟨(some (0, true)), none, .new [(.lit (.int .i64 0)), (.lit (.string (str []))), (.lit (.int .i64 0)), (.lit (.string (str []))), (.lit (.int .i64 0)), (.lit (.string (str []))), (.lit (.int .i64 0)), (.lit (.string (str [])))]⟩])) [0] [0]
  (.seq (.reg (.seq [⟨(some (1, false)), none, .build [(.lit (.int .i64 0)), (.lit (.string (str [])))] [(0, 1, (.cst (.int .i64 1) (.lit (.int .i64 1)))), (1, 1, (.cst (.string (str [98, 108, 111, 98])) (.lit (.string (str [98, 108, 111, 98])))))]⟩,
      ⟨(some (2, false)), none, .build [(.lit (.int .i64 0)), (.lit (.string (str [])))] [(0, 1, (.cst (.int .i64 2) (.lit (.int .i64 2)))), (1, 1, (.cst (.string (str [116, 114, 101, 101])) (.lit (.string (str [116, 114, 101, 101])))))]⟩,
      ⟨(some (3, false)), none, .build [(.lit (.int .i64 0)), (.lit (.string (str [])))] [(0, 1, (.cst (.int .i64 3) (.lit (.int .i64 3)))), (1, 1, (.cst (.string (str [99, 111, 109, 109, 105, 116])) (.lit (.string (str [99, 111, 109, 109, 105, 116])))))]⟩,
      ⟨(some (4, false)), none, .build [(.lit (.int .i64 0)), (.lit (.string (str [])))] [(0, 1, (.cst (.int .i64 4) (.lit (.int .i64 4)))), (1, 1, (.cst (.string (str [116, 97, 103])) (.lit (.string (str [116, 97, 103])))))]⟩,
      ⟨(some (5, false)), none, .buildP [(.lit (.int .i64 0)), (.lit (.string (str []))), (.lit (.int .i64 0)), (.lit (.string (str []))), (.lit (.int .i64 0)), (.lit (.string (str []))), (.lit (.int .i64 0)), (.lit (.string (str [])))] [(0, 2, (.tmp 1 false)), (2, 2, (.tmp 2 false)), (4, 2, (.tmp 3 false)), (6, 2, (.tmp 4 false))]⟩,
      ⟨none, none, .store (.tmp 0 true) (.tmp 5 false) 8⟩])) [0] [0]
  (.ret)),
  [.cell 0 8 true]⟩
theorem kinds_comp (m : Int) : compF Tryd.prog (gl m) [] Tryd.f70 = some kinds := by kernel_rfl
def oword_l0' : AC := .seq (.reg (.seq [⟨(some (7, false)), none, .bin .lss (.tmp 6 true) (.cst (.int .i64 4) (.lit (.int .i64 4)))⟩])) [0, 5, 6, 7] []
  (.seq (.cond (.tmp 7 false)
    (.skip)
    (.exit 0)) [0, 5, 6] []
  (.seq (.block 1 (.seq (.reg (.seq [⟨(some (8, false)), none, .idxA (.tmp 5 true) (.tmp 6 true) 4 2 true⟩,
      ⟨(some (4, true)), none, .new [(.lit (.int .i64 0)), (.lit (.string (str [])))]⟩,
      ⟨none, none, .store (.tmp 4 true) (.tmp 8 false) 2⟩])) [0, 4, 5, 6] [4]
    (.seq (.reg (.seq [⟨(some (9, false)), none, .fad (.tmp 4 true) 0⟩,
      ⟨(some (10, false)), none, .load (.tmp 9 false) 1 false false⟩,
      ⟨(some (11, false)), none, .mov (.tmp 0 true) .peek⟩,
      ⟨(some (12, false)), none, .bin .eql (.tmp 10 false) (.tmp 11 false)⟩])) [0, 4, 5, 6, 12] [4]
    (.cond (.tmp 12 false)
      (.seq (.reg (.seq [⟨(some (13, false)), none, .fad (.tmp 4 true) 1⟩,
      ⟨(some (14, false)), none, .load (.tmp 13 false) 1 false false⟩,
      ⟨(some (2, true)), none, .mov (.tmp 14 false) .asg⟩])) [2] []
      (.ret))
      (.skip))))) [0, 5, 6] []
  (.reg (.seq [⟨(some (15, false)), none, .bin .add (.tmp 6 true) (.cst (.int .i64 1) (.lit (.int .i64 1)))⟩,
      ⟨(some (6, true)), none, .mov (.tmp 15 false) .peek⟩]))))
def oword_l0 : AC := oword_l0'
theorem oword_l0_w (C : Kn) (K : Ex → St → Prop) (s : St) : vcC C oword_l0 K s = vcC C oword_l0' K s := nr rfl
def oword_k1' : AC := .seq (.reg (.seq [⟨(some (2, true)), none, .mov (.cst (.string (str [])) (.lit (.string (str [])))) .asg⟩])) [2] []
  (.ret)
def oword_k1 : AC := oword_k1'
theorem oword_k1_w (C : Kn) (K : Ex → St → Prop) (s : St) : vcC C oword_k1 K s = vcC C oword_k1' K s := nr rfl
def oword : AF := ⟨.seq (.reg (.seq [⟨(some (2, true)), none, .mov (.cst (.string (str [])) (.lit (.string (str [])))) .asg⟩])) [0] []
  (.seq (.seq (.reg (.seq [⟨(some (5, true)), none, .call 70 []⟩,
      ⟨(some (6, true)), none, .mov (.cst (.int .i64 0) (.lit (.int .i64 0))) .peek⟩])) [0, 5, 6] []
  (.block 0 (.loop [0, 5, 6] [] oword_l0))) [] [] oword_k1),
  [.tmp 2]⟩
theorem oword_comp (m : Int) : compF Tryd.prog (gl m) [] Tryd.f34 = some oword := by kernel_rfl
def rword : AF := ⟨.seq (.reg (.seq [⟨(some (2, true)), none, .mov (.cst (.string (str [])) (.lit (.string (str [])))) .asg⟩])) [0] []
  (.seq (.seq (.reg (.seq [⟨(some (3, true)), none, .mov (.tmp 0 true) .peek⟩])) [3] []
  (.block 0 (.seq (.reg (.seq [⟨(some (5, false)), none, .bin .eql (.tmp 3 true) (.cst (.int .i64 1) (.lit (.int .i64 1)))⟩,
      ⟨(some (4, false)), none, .mov (.tmp 5 false) .asg⟩])) [3, 4] []
    (.cond (.tmp 4 false)
      (.seq (.reg (.seq [⟨(some (2, true)), none, .mov (.cst (.string (str [98, 108, 111, 98])) (.lit (.string (str [98, 108, 111, 98])))) .asg⟩])) [2] []
      (.ret))
      (.seq (.reg (.seq [⟨(some (7, false)), none, .bin .eql (.tmp 3 true) (.cst (.int .i64 2) (.lit (.int .i64 2)))⟩,
      ⟨(some (6, false)), none, .mov (.tmp 7 false) .asg⟩])) [3, 6] []
      (.cond (.tmp 6 false)
        (.seq (.reg (.seq [⟨(some (2, true)), none, .mov (.cst (.string (str [116, 114, 101, 101])) (.lit (.string (str [116, 114, 101, 101])))) .asg⟩])) [2] []
        (.ret))
        (.seq (.reg (.seq [⟨(some (9, false)), none, .bin .eql (.tmp 3 true) (.cst (.int .i64 3) (.lit (.int .i64 3)))⟩,
      ⟨(some (8, false)), none, .mov (.tmp 9 false) .asg⟩])) [3, 8] []
        (.cond (.tmp 8 false)
          (.seq (.reg (.seq [⟨(some (2, true)), none, .mov (.cst (.string (str [99, 111, 109, 109, 105, 116])) (.lit (.string (str [99, 111, 109, 109, 105, 116])))) .asg⟩])) [2] []
          (.ret))
          (.seq (.reg (.seq [⟨(some (11, false)), none, .bin .eql (.tmp 3 true) (.cst (.int .i64 4) (.lit (.int .i64 4)))⟩,
      ⟨(some (10, false)), none, .mov (.tmp 11 false) .asg⟩])) [10] []
          (.cond (.tmp 10 false)
            (.seq (.reg (.seq [⟨(some (2, true)), none, .mov (.cst (.string (str [116, 97, 103])) (.lit (.string (str [116, 97, 103])))) .asg⟩])) [2] []
            (.ret))
            (.skip))))))))))) [] []
  (.seq (.reg (.seq [⟨(some (2, true)), none, .mov (.cst (.string (str [])) (.lit (.string (str [])))) .asg⟩])) [2] []
  (.ret))),
  [.tmp 2]⟩
theorem rword_comp (m : Int) : compF Tryd.prog (gl m) [] Tryd.f35 = some rword := by kernel_rfl
def okind_l0' : AC := .seq (.reg (.seq [⟨(some (7, false)), none, .bin .lss (.tmp 6 true) (.cst (.int .i64 4) (.lit (.int .i64 4)))⟩])) [0, 5, 6, 7] []
  (.seq (.cond (.tmp 7 false)
    (.skip)
    (.exit 0)) [0, 5, 6] []
  (.seq (.block 1 (.seq (.reg (.seq [⟨(some (8, false)), none, .idxA (.tmp 5 true) (.tmp 6 true) 4 2 true⟩,
      ⟨(some (4, true)), none, .new [(.lit (.int .i64 0)), (.lit (.string (str [])))]⟩,
      ⟨none, none, .store (.tmp 4 true) (.tmp 8 false) 2⟩])) [0, 4, 5, 6] [4]
    (.seq (.reg (.seq [⟨(some (9, false)), none, .fad (.tmp 4 true) 1⟩,
      ⟨(some (10, false)), none, .load (.tmp 9 false) 1 false false⟩,
      ⟨(some (11, false)), none, .mov (.tmp 0 true) .peek⟩,
      ⟨(some (12, false)), none, .bin .eql (.tmp 10 false) (.tmp 11 false)⟩])) [0, 4, 5, 6, 12] [4]
    (.cond (.tmp 12 false)
      (.seq (.reg (.seq [⟨(some (13, false)), none, .fad (.tmp 4 true) 0⟩,
      ⟨(some (14, false)), none, .load (.tmp 13 false) 1 false false⟩,
      ⟨(some (2, true)), none, .mov (.tmp 14 false) .asg⟩])) [2] []
      (.ret))
      (.skip))))) [0, 5, 6] []
  (.reg (.seq [⟨(some (15, false)), none, .bin .add (.tmp 6 true) (.cst (.int .i64 1) (.lit (.int .i64 1)))⟩,
      ⟨(some (6, true)), none, .mov (.tmp 15 false) .peek⟩]))))
def okind_l0 : AC := okind_l0'
theorem okind_l0_w (C : Kn) (K : Ex → St → Prop) (s : St) : vcC C okind_l0 K s = vcC C okind_l0' K s := nr rfl
def okind_k1' : AC := .seq (.reg (.seq [⟨(some (2, true)), none, .mov (.cst (.int .i64 0) (.lit (.int .i64 0))) .asg⟩])) [2] []
  (.ret)
def okind_k1 : AC := okind_k1'
theorem okind_k1_w (C : Kn) (K : Ex → St → Prop) (s : St) : vcC C okind_k1 K s = vcC C okind_k1' K s := nr rfl
def okind : AF := ⟨.seq (.reg (.seq [⟨(some (2, true)), none, .mov (.cst (.int .i64 0) (.lit (.int .i64 0))) .asg⟩])) [0] []
  (.seq (.seq (.reg (.seq [⟨(some (5, true)), none, .call 70 []⟩,
      ⟨(some (6, true)), none, .mov (.cst (.int .i64 0) (.lit (.int .i64 0))) .peek⟩])) [0, 5, 6] []
  (.block 0 (.loop [0, 5, 6] [] okind_l0))) [] [] okind_k1),
  [.tmp 2]⟩
theorem okind_comp (m : Int) : compF Tryd.prog (gl m) [] Tryd.f36 = some okind := by kernel_rfl
def rkind_l0' : AC := .seq (.seq (.reg (.seq [⟨(some (4, false)), none, .mov (.tmp 3 true) .peek⟩,
      ⟨(some (5, false)), none, .bin .leq (.tmp 4 false) (.cst (.int .i64 4) (.lit (.int .i64 4)))⟩])) [0, 3, 5] []
  (.cond (.tmp 5 false)
    (.skip)
    (.exit 0))) [0, 3] []
  (.seq (.block 1 (.seq (.reg (.seq [⟨(some (8, false)), none, .mov (.tmp 3 true) .peek⟩,
      ⟨(some (9, false)), none, .call 35 [(.tmp 8 false)]⟩,
      ⟨(some (10, false)), none, .mov (.tmp 0 true) .peek⟩,
      ⟨(some (11, false)), none, .bin .eql (.tmp 9 false) (.tmp 10 false)⟩])) [0, 3, 11] []
    (.cond (.tmp 11 false)
      (.seq (.reg (.seq [⟨(some (12, false)), none, .mov (.tmp 3 true) .take⟩,
      ⟨(some (2, true)), none, .mov (.tmp 12 false) .asg⟩])) [2] []
      (.ret))
      (.skip)))) [0, 3] []
  (.reg (.seq [⟨(some (6, false)), none, .mov (.tmp 3 true) .peek⟩,
      ⟨(some (7, false)), none, .bin .add (.tmp 6 false) (.cst (.int .i64 1) (.lit (.int .i64 1)))⟩,
      ⟨(some (3, true)), none, .mov (.tmp 7 false) .asg⟩])))
def rkind_l0 : AC := rkind_l0'
theorem rkind_l0_w (C : Kn) (K : Ex → St → Prop) (s : St) : vcC C rkind_l0 K s = vcC C rkind_l0' K s := nr rfl
def rkind_k1' : AC := .seq (.reg (.seq [⟨(some (2, true)), none, .mov (.cst (.int .i64 0) (.lit (.int .i64 0))) .asg⟩])) [2] []
  (.ret)
def rkind_k1 : AC := rkind_k1'
theorem rkind_k1_w (C : Kn) (K : Ex → St → Prop) (s : St) : vcC C rkind_k1 K s = vcC C rkind_k1' K s := nr rfl
def rkind : AF := ⟨.seq (.reg (.seq [⟨(some (2, true)), none, .mov (.cst (.int .i64 0) (.lit (.int .i64 0))) .asg⟩])) [0] []
  (.seq (.seq (.reg (.seq [⟨(some (3, true)), none, .mov (.cst (.int .i64 1) (.lit (.int .i64 1))) .asg⟩])) [0, 3] []
  (.block 0 (.loop [0, 3] [] rkind_l0))) [] [] rkind_k1),
  [.tmp 2]⟩
theorem rkind_comp (m : Int) : compF Tryd.prog (gl m) [] Tryd.f37 = some rkind := by kernel_rfl
def kindsA : AV := .agg [I 1, S blob, I 2, S tree, I 3, S commit, I 4, S tag]
theorem kinds_snd : Snd Tryd.prog (gl m) 70 [] kindsA := by
  refine snd_of (fn := Tryd.f70) (af := kinds) Tryd.func70 (kinds_comp m) mixed (kn_ok m) (Nat.le_of_ble_eq_true rfl) ?_
  simp only [kinds, go_sem, reduceCtorEq, Nat.reduceEqDiff, reduceIte, Nat.reduceAdd, Nat.reduceSub, Nat.reduceLeDiff, Int.reduceToNat, Nat.reduceBEq]
  exact ⟨by omega, rfl⟩
theorem oword_snd (k : Int) : Snd Tryd.prog (gl m) 34 [I k] (S (word k)) := by
  refine snd_of (fn := Tryd.f34) (af := oword) Tryd.func34 (oword_comp m) mixed (kn_ok m) (Nat.le_of_ble_eq_true rfl) ?_
  simp only [oword, go_sem, reduceCtorEq, Nat.reduceEqDiff, reduceIte, Nat.reduceAdd, Nat.reduceSub, Nat.reduceLeDiff, Int.reduceToNat, Nat.reduceBEq]
  refine of_call kinds_snd ?_
  simp only [kindsA, go_sem, reduceCtorEq, Nat.reduceEqDiff, reduceIte, Nat.reduceAdd, Nat.reduceSub, Nat.reduceLeDiff, Int.reduceToNat, Nat.reduceBEq]
  apply round
  simp only [oword_l0_w, oword_l0', go_sem, reduceCtorEq, Nat.reduceEqDiff, reduceIte, Nat.reduceAdd, Nat.reduceSub, Nat.reduceLeDiff, Int.reduceToNat, Nat.reduceBEq]
  rw [ilt_t (by omega)]
  simp only [Nat.reduceMul, go_sem, reduceCtorEq, Nat.reduceEqDiff, reduceIte, Nat.reduceAdd, Nat.reduceSub, Nat.reduceLeDiff, Int.reduceToNat, Nat.reduceBEq]
  repeat (refine ⟨by (try simp only [List.length_append, List.length_cons, List.length_nil, List.length_drop, List.length_take]); omega, ?_⟩)
  by_cases h0 : (1 : Int) = k
  · simp only [eq_t h0, go_sem, reduceCtorEq, Nat.reduceEqDiff, reduceIte, Nat.reduceAdd, Nat.reduceSub, Nat.reduceLeDiff, Int.reduceToNat, Nat.reduceBEq]
    subst h0; exact ⟨by omega, rfl⟩
  simp only [wr0, wr1, wr2, wr3, eq_f h0, go_sem, reduceCtorEq, Nat.reduceEqDiff, reduceIte, Nat.reduceAdd, Nat.reduceSub, Nat.reduceLeDiff, Int.reduceToNat, Nat.reduceBEq]
  apply round
  simp only [oword_l0_w, oword_l0', go_sem, reduceCtorEq, Nat.reduceEqDiff, reduceIte, Nat.reduceAdd, Nat.reduceSub, Nat.reduceLeDiff, Int.reduceToNat, Nat.reduceBEq]
  rw [ilt_t (by omega)]
  simp only [Nat.reduceMul, go_sem, reduceCtorEq, Nat.reduceEqDiff, reduceIte, Nat.reduceAdd, Nat.reduceSub, Nat.reduceLeDiff, Int.reduceToNat, Nat.reduceBEq]
  repeat (refine ⟨by (try simp only [List.length_append, List.length_cons, List.length_nil, List.length_drop, List.length_take]); omega, ?_⟩)
  by_cases h1 : (2 : Int) = k
  · simp only [eq_t h1, go_sem, reduceCtorEq, Nat.reduceEqDiff, reduceIte, Nat.reduceAdd, Nat.reduceSub, Nat.reduceLeDiff, Int.reduceToNat, Nat.reduceBEq]
    subst h1; exact ⟨by omega, rfl⟩
  simp only [wr0, wr1, wr2, wr3, eq_f h1, go_sem, reduceCtorEq, Nat.reduceEqDiff, reduceIte, Nat.reduceAdd, Nat.reduceSub, Nat.reduceLeDiff, Int.reduceToNat, Nat.reduceBEq]
  apply round
  simp only [oword_l0_w, oword_l0', go_sem, reduceCtorEq, Nat.reduceEqDiff, reduceIte, Nat.reduceAdd, Nat.reduceSub, Nat.reduceLeDiff, Int.reduceToNat, Nat.reduceBEq]
  rw [ilt_t (by omega)]
  simp only [Nat.reduceMul, go_sem, reduceCtorEq, Nat.reduceEqDiff, reduceIte, Nat.reduceAdd, Nat.reduceSub, Nat.reduceLeDiff, Int.reduceToNat, Nat.reduceBEq]
  repeat (refine ⟨by (try simp only [List.length_append, List.length_cons, List.length_nil, List.length_drop, List.length_take]); omega, ?_⟩)
  by_cases h2 : (3 : Int) = k
  · simp only [eq_t h2, go_sem, reduceCtorEq, Nat.reduceEqDiff, reduceIte, Nat.reduceAdd, Nat.reduceSub, Nat.reduceLeDiff, Int.reduceToNat, Nat.reduceBEq]
    subst h2; exact ⟨by omega, rfl⟩
  simp only [wr0, wr1, wr2, wr3, eq_f h2, go_sem, reduceCtorEq, Nat.reduceEqDiff, reduceIte, Nat.reduceAdd, Nat.reduceSub, Nat.reduceLeDiff, Int.reduceToNat, Nat.reduceBEq]
  apply round
  simp only [oword_l0_w, oword_l0', go_sem, reduceCtorEq, Nat.reduceEqDiff, reduceIte, Nat.reduceAdd, Nat.reduceSub, Nat.reduceLeDiff, Int.reduceToNat, Nat.reduceBEq]
  rw [ilt_t (by omega)]
  simp only [Nat.reduceMul, go_sem, reduceCtorEq, Nat.reduceEqDiff, reduceIte, Nat.reduceAdd, Nat.reduceSub, Nat.reduceLeDiff, Int.reduceToNat, Nat.reduceBEq]
  repeat (refine ⟨by (try simp only [List.length_append, List.length_cons, List.length_nil, List.length_drop, List.length_take]); omega, ?_⟩)
  by_cases h3 : (4 : Int) = k
  · simp only [eq_t h3, go_sem, reduceCtorEq, Nat.reduceEqDiff, reduceIte, Nat.reduceAdd, Nat.reduceSub, Nat.reduceLeDiff, Int.reduceToNat, Nat.reduceBEq]
    subst h3; exact ⟨by omega, rfl⟩
  simp only [wr0, wr1, wr2, wr3, eq_f h3, go_sem, reduceCtorEq, Nat.reduceEqDiff, reduceIte, Nat.reduceAdd, Nat.reduceSub, Nat.reduceLeDiff, Int.reduceToNat, Nat.reduceBEq]
  apply round
  simp only [oword_l0_w, oword_l0', go_sem, reduceCtorEq, Nat.reduceEqDiff, reduceIte, Nat.reduceAdd, Nat.reduceSub, Nat.reduceLeDiff, Int.reduceToNat, Nat.reduceBEq]
  rw [ilt_f (by omega)]
  simp only [oword_k1_w, oword_k1', go_sem, reduceCtorEq, Nat.reduceEqDiff, reduceIte, Nat.reduceAdd, Nat.reduceSub, Nat.reduceLeDiff, Int.reduceToNat, Nat.reduceBEq]
  rw [word, if_neg (Ne.symm h0), if_neg (Ne.symm h1), if_neg (Ne.symm h2), if_neg (Ne.symm h3)]
theorem okind_snd (w : Bs) : Snd Tryd.prog (gl m) 36 [S w] (N (kindOf w)) := by
  refine snd_of (fn := Tryd.f36) (af := okind) Tryd.func36 (okind_comp m) mixed (kn_ok m) (Nat.le_of_ble_eq_true rfl) ?_
  simp only [okind, go_sem, reduceCtorEq, Nat.reduceEqDiff, reduceIte, Nat.reduceAdd, Nat.reduceSub, Nat.reduceLeDiff, Int.reduceToNat, Nat.reduceBEq]
  refine of_call kinds_snd ?_
  simp only [kindsA, go_sem, reduceCtorEq, Nat.reduceEqDiff, reduceIte, Nat.reduceAdd, Nat.reduceSub, Nat.reduceLeDiff, Int.reduceToNat, Nat.reduceBEq]
  apply round
  simp only [okind_l0_w, okind_l0', go_sem, reduceCtorEq, Nat.reduceEqDiff, reduceIte, Nat.reduceAdd, Nat.reduceSub, Nat.reduceLeDiff, Int.reduceToNat, Nat.reduceBEq]
  rw [ilt_t (by omega)]
  simp only [Nat.reduceMul, go_sem, reduceCtorEq, Nat.reduceEqDiff, reduceIte, Nat.reduceAdd, Nat.reduceSub, Nat.reduceLeDiff, Int.reduceToNat, Nat.reduceBEq]
  repeat (refine ⟨by (try simp only [List.length_append, List.length_cons, List.length_nil, List.length_drop, List.length_take]); omega, ?_⟩)
  by_cases h0 : blob = w
  · simp only [se_t h0, go_sem, reduceCtorEq, Nat.reduceEqDiff, reduceIte, Nat.reduceAdd, Nat.reduceSub, Nat.reduceLeDiff, Int.reduceToNat, Nat.reduceBEq]
    subst h0; exact ⟨by omega, rfl⟩
  simp only [wr0, wr1, wr2, wr3, se_f h0, go_sem, reduceCtorEq, Nat.reduceEqDiff, reduceIte, Nat.reduceAdd, Nat.reduceSub, Nat.reduceLeDiff, Int.reduceToNat, Nat.reduceBEq]
  apply round
  simp only [okind_l0_w, okind_l0', go_sem, reduceCtorEq, Nat.reduceEqDiff, reduceIte, Nat.reduceAdd, Nat.reduceSub, Nat.reduceLeDiff, Int.reduceToNat, Nat.reduceBEq]
  rw [ilt_t (by omega)]
  simp only [Nat.reduceMul, go_sem, reduceCtorEq, Nat.reduceEqDiff, reduceIte, Nat.reduceAdd, Nat.reduceSub, Nat.reduceLeDiff, Int.reduceToNat, Nat.reduceBEq]
  repeat (refine ⟨by (try simp only [List.length_append, List.length_cons, List.length_nil, List.length_drop, List.length_take]); omega, ?_⟩)
  by_cases h1 : tree = w
  · simp only [se_t h1, go_sem, reduceCtorEq, Nat.reduceEqDiff, reduceIte, Nat.reduceAdd, Nat.reduceSub, Nat.reduceLeDiff, Int.reduceToNat, Nat.reduceBEq]
    subst h1; exact ⟨by omega, rfl⟩
  simp only [wr0, wr1, wr2, wr3, se_f h1, go_sem, reduceCtorEq, Nat.reduceEqDiff, reduceIte, Nat.reduceAdd, Nat.reduceSub, Nat.reduceLeDiff, Int.reduceToNat, Nat.reduceBEq]
  apply round
  simp only [okind_l0_w, okind_l0', go_sem, reduceCtorEq, Nat.reduceEqDiff, reduceIte, Nat.reduceAdd, Nat.reduceSub, Nat.reduceLeDiff, Int.reduceToNat, Nat.reduceBEq]
  rw [ilt_t (by omega)]
  simp only [Nat.reduceMul, go_sem, reduceCtorEq, Nat.reduceEqDiff, reduceIte, Nat.reduceAdd, Nat.reduceSub, Nat.reduceLeDiff, Int.reduceToNat, Nat.reduceBEq]
  repeat (refine ⟨by (try simp only [List.length_append, List.length_cons, List.length_nil, List.length_drop, List.length_take]); omega, ?_⟩)
  by_cases h2 : commit = w
  · simp only [se_t h2, go_sem, reduceCtorEq, Nat.reduceEqDiff, reduceIte, Nat.reduceAdd, Nat.reduceSub, Nat.reduceLeDiff, Int.reduceToNat, Nat.reduceBEq]
    subst h2; exact ⟨by omega, rfl⟩
  simp only [wr0, wr1, wr2, wr3, se_f h2, go_sem, reduceCtorEq, Nat.reduceEqDiff, reduceIte, Nat.reduceAdd, Nat.reduceSub, Nat.reduceLeDiff, Int.reduceToNat, Nat.reduceBEq]
  apply round
  simp only [okind_l0_w, okind_l0', go_sem, reduceCtorEq, Nat.reduceEqDiff, reduceIte, Nat.reduceAdd, Nat.reduceSub, Nat.reduceLeDiff, Int.reduceToNat, Nat.reduceBEq]
  rw [ilt_t (by omega)]
  simp only [Nat.reduceMul, go_sem, reduceCtorEq, Nat.reduceEqDiff, reduceIte, Nat.reduceAdd, Nat.reduceSub, Nat.reduceLeDiff, Int.reduceToNat, Nat.reduceBEq]
  repeat (refine ⟨by (try simp only [List.length_append, List.length_cons, List.length_nil, List.length_drop, List.length_take]); omega, ?_⟩)
  by_cases h3 : tag = w
  · simp only [se_t h3, go_sem, reduceCtorEq, Nat.reduceEqDiff, reduceIte, Nat.reduceAdd, Nat.reduceSub, Nat.reduceLeDiff, Int.reduceToNat, Nat.reduceBEq]
    subst h3; exact ⟨by omega, rfl⟩
  simp only [wr0, wr1, wr2, wr3, se_f h3, go_sem, reduceCtorEq, Nat.reduceEqDiff, reduceIte, Nat.reduceAdd, Nat.reduceSub, Nat.reduceLeDiff, Int.reduceToNat, Nat.reduceBEq]
  apply round
  simp only [okind_l0_w, okind_l0', go_sem, reduceCtorEq, Nat.reduceEqDiff, reduceIte, Nat.reduceAdd, Nat.reduceSub, Nat.reduceLeDiff, Int.reduceToNat, Nat.reduceBEq]
  rw [ilt_f (by omega)]
  simp only [okind_k1_w, okind_k1', go_sem, reduceCtorEq, Nat.reduceEqDiff, reduceIte, Nat.reduceAdd, Nat.reduceSub, Nat.reduceLeDiff, Int.reduceToNat, Nat.reduceBEq]
  rw [kindOf, if_neg (Ne.symm h0), if_neg (Ne.symm h1), if_neg (Ne.symm h2), if_neg (Ne.symm h3)]
  rfl
theorem rword_snd (k : Int) : Snd Tryd.prog (gl m) 35 [I k] (S (word k)) := by
  refine snd_of (fn := Tryd.f35) (af := rword) Tryd.func35 (rword_comp m) mixed (kn_ok m) (Nat.le_of_ble_eq_true rfl) ?_
  simp only [rword, go_sem, reduceCtorEq, Nat.reduceEqDiff, reduceIte, Nat.reduceAdd, Nat.reduceSub, Nat.reduceLeDiff, Int.reduceToNat, Nat.reduceBEq]
  by_cases h0 : k = 1
  · simp only [eq_t h0, go_sem, reduceCtorEq, Nat.reduceEqDiff, reduceIte, Nat.reduceAdd, Nat.reduceSub, Nat.reduceLeDiff, Int.reduceToNat, Nat.reduceBEq]
    subst h0; rfl
  simp only [eq_f h0, go_sem, reduceCtorEq, Nat.reduceEqDiff, reduceIte, Nat.reduceAdd, Nat.reduceSub, Nat.reduceLeDiff, Int.reduceToNat, Nat.reduceBEq]
  by_cases h1 : k = 2
  · simp only [eq_t h1, go_sem, reduceCtorEq, Nat.reduceEqDiff, reduceIte, Nat.reduceAdd, Nat.reduceSub, Nat.reduceLeDiff, Int.reduceToNat, Nat.reduceBEq]
    subst h1; rfl
  simp only [eq_f h1, go_sem, reduceCtorEq, Nat.reduceEqDiff, reduceIte, Nat.reduceAdd, Nat.reduceSub, Nat.reduceLeDiff, Int.reduceToNat, Nat.reduceBEq]
  by_cases h2 : k = 3
  · simp only [eq_t h2, go_sem, reduceCtorEq, Nat.reduceEqDiff, reduceIte, Nat.reduceAdd, Nat.reduceSub, Nat.reduceLeDiff, Int.reduceToNat, Nat.reduceBEq]
    subst h2; rfl
  simp only [eq_f h2, go_sem, reduceCtorEq, Nat.reduceEqDiff, reduceIte, Nat.reduceAdd, Nat.reduceSub, Nat.reduceLeDiff, Int.reduceToNat, Nat.reduceBEq]
  by_cases h3 : k = 4
  · simp only [eq_t h3, go_sem, reduceCtorEq, Nat.reduceEqDiff, reduceIte, Nat.reduceAdd, Nat.reduceSub, Nat.reduceLeDiff, Int.reduceToNat, Nat.reduceBEq]
    subst h3; rfl
  simp only [eq_f h3, go_sem, reduceCtorEq, Nat.reduceEqDiff, reduceIte, Nat.reduceAdd, Nat.reduceSub, Nat.reduceLeDiff, Int.reduceToNat, Nat.reduceBEq]
  rw [word, if_neg h0, if_neg h1, if_neg h2, if_neg h3]
theorem rkind_snd (w : Bs) : Snd Tryd.prog (gl m) 37 [S w] (N (kindOf w)) := by
  refine snd_of (fn := Tryd.f37) (af := rkind) Tryd.func37 (rkind_comp m) mixed (kn_ok m) (Nat.le_of_ble_eq_true rfl) ?_
  have w1 : IntKind.i64.wrap (1 + 1) = 2 := by rfl
  have w2 : IntKind.i64.wrap (2 + 1) = 3 := by rfl
  have w3 : IntKind.i64.wrap (3 + 1) = 4 := by rfl
  have w4 : IntKind.i64.wrap (4 + 1) = 5 := by rfl
  have z1 : word 1 = blob := rfl
  have z2 : word 2 = tree := rfl
  have z3 : word 3 = commit := rfl
  have z4 : word 4 = tag := rfl
  simp only [rkind, go_sem, reduceCtorEq, Nat.reduceEqDiff, reduceIte, Nat.reduceAdd, Nat.reduceSub, Nat.reduceLeDiff, Int.reduceToNat, Nat.reduceBEq]
  apply round
  simp only [rkind_l0_w, rkind_l0', go_sem, reduceCtorEq, Nat.reduceEqDiff, reduceIte, Nat.reduceAdd, Nat.reduceSub, Nat.reduceLeDiff, Int.reduceToNat, Nat.reduceBEq]
  rw [ile_t (by omega)]
  simp only [go_sem, reduceCtorEq, Nat.reduceEqDiff, reduceIte, Nat.reduceAdd, Nat.reduceSub, Nat.reduceLeDiff, Int.reduceToNat, Nat.reduceBEq]
  refine of_call (rword_snd 1) ?_
  simp only [z1, go_sem, reduceCtorEq, Nat.reduceEqDiff, reduceIte, Nat.reduceAdd, Nat.reduceSub, Nat.reduceLeDiff, Int.reduceToNat, Nat.reduceBEq]
  by_cases h0 : blob = w
  · simp only [se_t h0, go_sem, reduceCtorEq, Nat.reduceEqDiff, reduceIte, Nat.reduceAdd, Nat.reduceSub, Nat.reduceLeDiff, Int.reduceToNat, Nat.reduceBEq]
    subst h0; rfl
  simp only [se_f h0, w1, go_sem, reduceCtorEq, Nat.reduceEqDiff, reduceIte, Nat.reduceAdd, Nat.reduceSub, Nat.reduceLeDiff, Int.reduceToNat, Nat.reduceBEq]
  apply round
  simp only [rkind_l0_w, rkind_l0', go_sem, reduceCtorEq, Nat.reduceEqDiff, reduceIte, Nat.reduceAdd, Nat.reduceSub, Nat.reduceLeDiff, Int.reduceToNat, Nat.reduceBEq]
  rw [ile_t (by omega)]
  simp only [go_sem, reduceCtorEq, Nat.reduceEqDiff, reduceIte, Nat.reduceAdd, Nat.reduceSub, Nat.reduceLeDiff, Int.reduceToNat, Nat.reduceBEq]
  refine of_call (rword_snd 2) ?_
  simp only [z2, go_sem, reduceCtorEq, Nat.reduceEqDiff, reduceIte, Nat.reduceAdd, Nat.reduceSub, Nat.reduceLeDiff, Int.reduceToNat, Nat.reduceBEq]
  by_cases h1 : tree = w
  · simp only [se_t h1, go_sem, reduceCtorEq, Nat.reduceEqDiff, reduceIte, Nat.reduceAdd, Nat.reduceSub, Nat.reduceLeDiff, Int.reduceToNat, Nat.reduceBEq]
    subst h1; rfl
  simp only [se_f h1, w2, go_sem, reduceCtorEq, Nat.reduceEqDiff, reduceIte, Nat.reduceAdd, Nat.reduceSub, Nat.reduceLeDiff, Int.reduceToNat, Nat.reduceBEq]
  apply round
  simp only [rkind_l0_w, rkind_l0', go_sem, reduceCtorEq, Nat.reduceEqDiff, reduceIte, Nat.reduceAdd, Nat.reduceSub, Nat.reduceLeDiff, Int.reduceToNat, Nat.reduceBEq]
  rw [ile_t (by omega)]
  simp only [go_sem, reduceCtorEq, Nat.reduceEqDiff, reduceIte, Nat.reduceAdd, Nat.reduceSub, Nat.reduceLeDiff, Int.reduceToNat, Nat.reduceBEq]
  refine of_call (rword_snd 3) ?_
  simp only [z3, go_sem, reduceCtorEq, Nat.reduceEqDiff, reduceIte, Nat.reduceAdd, Nat.reduceSub, Nat.reduceLeDiff, Int.reduceToNat, Nat.reduceBEq]
  by_cases h2 : commit = w
  · simp only [se_t h2, go_sem, reduceCtorEq, Nat.reduceEqDiff, reduceIte, Nat.reduceAdd, Nat.reduceSub, Nat.reduceLeDiff, Int.reduceToNat, Nat.reduceBEq]
    subst h2; rfl
  simp only [se_f h2, w3, go_sem, reduceCtorEq, Nat.reduceEqDiff, reduceIte, Nat.reduceAdd, Nat.reduceSub, Nat.reduceLeDiff, Int.reduceToNat, Nat.reduceBEq]
  apply round
  simp only [rkind_l0_w, rkind_l0', go_sem, reduceCtorEq, Nat.reduceEqDiff, reduceIte, Nat.reduceAdd, Nat.reduceSub, Nat.reduceLeDiff, Int.reduceToNat, Nat.reduceBEq]
  rw [ile_t (by omega)]
  simp only [go_sem, reduceCtorEq, Nat.reduceEqDiff, reduceIte, Nat.reduceAdd, Nat.reduceSub, Nat.reduceLeDiff, Int.reduceToNat, Nat.reduceBEq]
  refine of_call (rword_snd 4) ?_
  simp only [z4, go_sem, reduceCtorEq, Nat.reduceEqDiff, reduceIte, Nat.reduceAdd, Nat.reduceSub, Nat.reduceLeDiff, Int.reduceToNat, Nat.reduceBEq]
  by_cases h3 : tag = w
  · simp only [se_t h3, go_sem, reduceCtorEq, Nat.reduceEqDiff, reduceIte, Nat.reduceAdd, Nat.reduceSub, Nat.reduceLeDiff, Int.reduceToNat, Nat.reduceBEq]
    subst h3; rfl
  simp only [se_f h3, w4, go_sem, reduceCtorEq, Nat.reduceEqDiff, reduceIte, Nat.reduceAdd, Nat.reduceSub, Nat.reduceLeDiff, Int.reduceToNat, Nat.reduceBEq]
  apply round
  simp only [rkind_l0_w, rkind_l0', go_sem, reduceCtorEq, Nat.reduceEqDiff, reduceIte, Nat.reduceAdd, Nat.reduceSub, Nat.reduceLeDiff, Int.reduceToNat, Nat.reduceBEq]
  rw [ile_f (by omega)]
  simp only [rkind_k1_w, rkind_k1', go_sem, reduceCtorEq, Nat.reduceEqDiff, reduceIte, Nat.reduceAdd, Nat.reduceSub, Nat.reduceLeDiff, Int.reduceToNat, Nat.reduceBEq]
  rw [kindOf, if_neg (Ne.symm h0), if_neg (Ne.symm h1), if_neg (Ne.symm h2), if_neg (Ne.symm h3)]
  rfl
end Go.Aw

/- Objects: cuts, finds, digits. -/
namespace Go.Aw
open Go Go.Ev Go.Proofs
open Go.Ob (word kindOf blob tree commit tag numGo number dec)
set_option linter.unusedVariables false
set_option linter.unusedSimpArgs false
attribute [local go_sem] eqs implies_true List.map_cons List.map_nil kl klL roD roL Option.map_some Option.map_none Option.getD_some Option.getD_none binVal binObl unVal if_true if_false eq_self passA frnD resD content getH getR getW viaNot viaSlot viaBox viaDeep viaMem List.contains_cons List.contains_nil grabs peeks okCells isCell place cellsOf chunk elt List.headD_cons List.length_cons List.length_nil List.take_succ_cons List.take_zero List.drop_succ_cons List.drop_zero List.nil_append List.cons_append List.append_nil List.all_cons List.all_nil plainC takeR setW over reCell List.getElem?_cons_zero List.getElem?_cons_succ List.set_cons_zero List.take_length outV resG plainV pack outVG outBx List.set_cons_succ Ref.idx Ref.addOff beq_self_eq_true bxL Option.bind_some writeR isLit viaBoxes capsPA boxPA nsOf noDup boxesAt argG passG passD rhoIn rhoOut idxIn tr trL List.getD_cons_zero gives pasOf isPtr Ins.d List.getD_cons_succ resL frnL List.getLast?_nil
variable {m : Int}
def scut : AF := ⟨.seq (.reg (.seq [⟨(some (4, true)), none, .mov (.cst (.string (str [])) (.lit (.string (str [])))) .asg⟩,
      ⟨(some (5, true)), none, .mov (.cst (.string (str [])) (.lit (.string (str [])))) .asg⟩,
      ⟨(some (6, true)), none, .mov (.cst (.bool false) (.lit (.bool false))) .asg⟩])) [0, 1] []
  (.seq (.seq (.reg (.seq [⟨(some (8, false)), none, .mov (.tmp 0 true) .peek⟩,
      ⟨(some (9, false)), none, .mov (.tmp 1 true) .peek⟩,
      ⟨(some (10, false)), none, .call 123 [(.tmp 8 false), (.tmp 9 false)]⟩,
      ⟨(some (7, true)), none, .mov (.tmp 10 false) .asg⟩])) [0, 1, 7] []
  (.seq (.reg (.seq [⟨(some (11, false)), none, .mov (.tmp 7 true) .peek⟩,
      ⟨(some (12, false)), none, .bin .geq (.tmp 11 false) (.cst (.int .i64 0) (.lit (.int .i64 0)))⟩])) [0, 1, 7, 12] []
  (.cond (.tmp 12 false)
    (.seq (.reg (.draw [⟨(some (13, false)), none, .mov (.tmp 0 true) .peek⟩,
      ⟨(some (14, false)), none, .mov (.tmp 7 true) .peek⟩,
      ⟨(some (15, false)), none, .sub (.tmp 13 false) none (some (.tmp 14 false))⟩,
      ⟨(some (16, false)), none, .mov (.tmp 0 true) .peek⟩,
      ⟨(some (17, false)), none, .mov (.tmp 7 true) .peek⟩,
      ⟨(some (18, false)), none, .mov (.tmp 1 true) .peek⟩,
      ⟨(some (19, false)), none, .len (.tmp 18 false)⟩,
      ⟨(some (20, false)), none, .bin .add (.tmp 17 false) (.tmp 19 false)⟩,
      ⟨(some (21, false)), none, .sub (.tmp 16 false) (some (.tmp 20 false)) none⟩] (.alt ⟨(some (4, true)), none, .mov (.tmp 15 false) .asg⟩ [⟨(some (16, false)), none, .mov (.tmp 0 true) .peek⟩,
      ⟨(some (17, false)), none, .mov (.tmp 7 true) .peek⟩,
      ⟨(some (18, false)), none, .mov (.tmp 1 true) .peek⟩,
      ⟨(some (19, false)), none, .len (.tmp 18 false)⟩,
      ⟨(some (20, false)), none, .bin .add (.tmp 17 false) (.tmp 19 false)⟩,
      ⟨(some (21, false)), none, .sub (.tmp 16 false) (some (.tmp 20 false)) none⟩]
      (.alt ⟨(some (5, true)), none, .mov (.tmp 21 false) .asg⟩ []
      (.alt ⟨(some (6, true)), none, .mov (.cst (.bool true) (.lit (.bool true))) .asg⟩ []
      .done .no) .no) .no))) [4, 5, 6] []
    (.ret))
    (.skip)))) [0] []
  (.seq (.reg (.seq [⟨(some (22, false)), none, .mov (.tmp 0 true) .take⟩,
      ⟨(some (4, true)), none, .mov (.tmp 22 false) .asg⟩,
      ⟨(some (5, true)), none, .mov (.cst (.string (str [])) (.lit (.string (str [])))) .asg⟩,
      ⟨(some (6, true)), none, .mov (.cst (.bool false) (.lit (.bool false))) .asg⟩])) [4, 5, 6] []
  (.ret))),
  [.tmp 4, .tmp 5, .tmp 6]⟩
theorem scut_comp (m : Int) : compF Tryd.prog (gl m) [] Tryd.f99 = some scut := by kernel_rfl
def ucut : AF := ⟨.seq (.reg (.seq [⟨(some (4, true)), none, .mov (.cst (.string (str [])) (.lit (.string (str [])))) .asg⟩,
      ⟨(some (5, true)), none, .mov (.cst (.string (str [])) (.lit (.string (str [])))) .asg⟩,
      ⟨(some (6, true)), none, .mov (.cst (.bool false) (.lit (.bool false))) .asg⟩])) [0, 1] []
  (.seq (.reg (.seq [⟨(some (7, false)), none, .mov (.tmp 0 true) .peek⟩,
      ⟨(some (8, false)), none, .mov (.tmp 1 true) .peek⟩,
      ⟨(some (9, false)), none, .call 99 [(.tmp 7 false), (.tmp 8 false)]⟩,
      ⟨(some (10, false)), none, .ext (.tmp 9 false) 0⟩,
      ⟨(some (11, false)), none, .ext (.tmp 9 false) 1⟩,
      ⟨(some (12, false)), none, .ext (.tmp 9 false) 2⟩,
      ⟨(some (4, true)), none, .mov (.tmp 10 false) .asg⟩,
      ⟨(some (5, true)), none, .mov (.tmp 11 false) .asg⟩,
      ⟨(some (6, true)), none, .mov (.tmp 12 false) .asg⟩])) [4, 5, 6] []
  (.ret)),
  [.tmp 4, .tmp 5, .tmp 6]⟩
theorem ucut_comp (m : Int) : compF Tryd.prog (gl m) [] Tryd.f66 = some ucut := by kernel_rfl
def rdigits_l0' : AC := .seq (.seq (.reg (.seq [⟨(some (7, false)), none, .mov (.tmp 4 true) .peek⟩,
      ⟨(some (8, false)), none, .bin .neq (.tmp 7 false) (.cst (.int .i64 0) (.lit (.int .i64 0)))⟩,
      ⟨(some (9, false)), none, .mov (.tmp 8 false) .peek⟩,
      ⟨(some (10, false)), (some (9, false)), .mov (.tmp 3 true) .peek⟩,
      ⟨(some (11, false)), (some (9, false)), .bin .eql (.tmp 10 false) (.cst (.string (str [])) (.lit (.string (str []))))⟩,
      ⟨(some (12, false)), none, .pick (.tmp 9 false) (.cst (.bool true) (.lit (.bool true))) (.tmp 11 false)⟩])) [0, 3, 4, 12] []
  (.cond (.tmp 12 false)
    (.skip)
    (.exit 0))) [0, 3, 4] []
  (.seq (.block 1 (.seq (.reg (.seq [⟨(some (15, false)), none, .mov (.tmp 4 true) .peek⟩,
      ⟨(some (16, false)), none, .bin .rem (.tmp 15 false) (.cst (.int .i64 10) (.lit (.int .i64 10)))⟩,
      ⟨(some (5, true)), none, .mov (.tmp 16 false) .asg⟩])) [0, 3, 4, 5] []
    (.reg (.seq [⟨(some (17, false)), none, .mov (.tmp 5 true) .peek⟩,
      ⟨(some (18, false)), none, .mov (.tmp 5 true) .peek⟩,
      ⟨(some (19, false)), none, .un .neg (.tmp 18 false)⟩,
      ⟨(some (20, false)), none, .mx true (.tmp 17 false) (.tmp 19 false)⟩,
      ⟨(some (21, false)), none, .bin .add (.cst (.int .i64 48) (.lit (.int .i64 48))) (.tmp 20 false)⟩,
      ⟨(some (22, false)), none, .cvt .u8 (.tmp 21 false)⟩,
      ⟨(some (23, false)), none, .buildS 1 1 [(.lit (.int .u8 0))] [(0, 1, (.tmp 22 false))]⟩,
      ⟨(some (24, false)), none, .b2s (.tmp 23 false)⟩,
      ⟨(some (25, false)), none, .mov (.tmp 3 true) .peek⟩,
      ⟨(some (26, false)), none, .bin .add (.tmp 24 false) (.tmp 25 false)⟩,
      ⟨(some (3, true)), none, .mov (.tmp 26 false) .asg⟩])))) [0, 3, 4] []
  (.reg (.seq [⟨(some (13, false)), none, .mov (.tmp 4 true) .peek⟩,
      ⟨(some (14, false)), none, .bin .quo (.tmp 13 false) (.cst (.int .i64 10) (.lit (.int .i64 10)))⟩,
      ⟨(some (4, true)), none, .mov (.tmp 14 false) .asg⟩])))
def rdigits_l0 : AC := rdigits_l0'
theorem rdigits_l0_w (C : Kn) (K : Ex → St → Prop) (s : St) : vcC C rdigits_l0 K s = vcC C rdigits_l0' K s := nr rfl
def rdigits_k1' : AC := .seq (.seq (.reg (.seq [⟨(some (27, false)), none, .mov (.tmp 0 true) .peek⟩,
      ⟨(some (28, false)), none, .bin .lss (.tmp 27 false) (.cst (.int .i64 0) (.lit (.int .i64 0)))⟩])) [3, 28] []
  (.cond (.tmp 28 false)
    (.seq (.reg (.seq [⟨(some (29, false)), none, .mov (.tmp 3 true) .peek⟩,
      ⟨(some (30, false)), none, .bin .add (.cst (.string (str [45])) (.lit (.string (str [45])))) (.tmp 29 false)⟩,
      ⟨(some (2, true)), none, .mov (.tmp 30 false) .asg⟩])) [2] []
    (.ret))
    (.skip))) [3] []
  (.seq (.reg (.seq [⟨(some (31, false)), none, .mov (.tmp 3 true) .take⟩,
      ⟨(some (2, true)), none, .mov (.tmp 31 false) .asg⟩])) [2] []
  (.ret))
def rdigits_k1 : AC := rdigits_k1'
theorem rdigits_k1_w (C : Kn) (K : Ex → St → Prop) (s : St) : vcC C rdigits_k1 K s = vcC C rdigits_k1' K s := nr rfl
def rdigits : AF := ⟨.seq (.reg (.seq [⟨(some (2, true)), none, .mov (.cst (.string (str [])) (.lit (.string (str [])))) .asg⟩])) [0] []
  (.seq (.reg (.seq [⟨(some (3, true)), none, .mov (.cst (.string (str [])) (.lit (.string (str [])))) .asg⟩])) [0, 3] []
  (.seq (.seq (.reg (.seq [⟨(some (6, false)), none, .mov (.tmp 0 true) .take⟩,
      ⟨(some (4, true)), none, .mov (.tmp 6 false) .asg⟩])) [0, 3, 4] []
  (.block 0 (.loop [0, 3, 4] [] rdigits_l0))) [0, 3] [] rdigits_k1)),
  [.tmp 2]⟩
theorem rdigits_comp (m : Int) : compF Tryd.prog (gl m) [] Tryd.f63 = some rdigits := by kernel_rfl
def odigits_l0' : AC := .seq (.reg (.seq [⟨(some (27, false)), none, .bin .lss (.tmp 26 true) (.tmp 25 true)⟩])) [0, 4, 25, 26, 27] []
  (.seq (.cond (.tmp 27 false)
    (.skip)
    (.exit 0)) [0, 4, 25, 26] []
  (.seq (.block 1 (.seq (.reg (.seq [⟨(some (28, false)), none, .mov (.tmp 26 true) .take⟩,
      ⟨(some (5, true)), none, .mov (.tmp 28 false) .asg⟩])) [0, 4, 5, 25, 26] []
    (.seq (.seq (.reg (.seq [⟨(some (29, false)), none, .mov (.tmp 0 true) .peek⟩,
      ⟨(some (30, false)), none, .mov (.tmp 5 true) .peek⟩,
      ⟨(some (31, false)), none, .idx (.tmp 29 false) (.tmp 30 false)⟩,
      ⟨(some (32, false)), none, .bin .lss (.tmp 31 false) (.cst (.int .u8 48) (.lit (.int .u8 48)))⟩,
      ⟨(some (33, false)), none, .mov (.tmp 32 false) .peek⟩,
      ⟨(some (34, false)), (some (33, false)), .mov (.tmp 0 true) .peek⟩,
      ⟨(some (35, false)), (some (33, false)), .mov (.tmp 5 true) .peek⟩,
      ⟨(some (36, false)), (some (33, false)), .idx (.tmp 34 false) (.tmp 35 false)⟩,
      ⟨(some (37, false)), (some (33, false)), .bin .gtr (.tmp 36 false) (.cst (.int .u8 57) (.lit (.int .u8 57)))⟩,
      ⟨(some (38, false)), none, .pick (.tmp 33 false) (.cst (.bool true) (.lit (.bool true))) (.tmp 37 false)⟩])) [0, 4, 5, 25, 26, 38] []
    (.cond (.tmp 38 false)
      (.seq (.reg (.seq [⟨(some (2, true)), none, .mov (.cst (.int .i64 0) (.lit (.int .i64 0))) .asg⟩,
      ⟨(some (3, true)), none, .mov (.cst (.bool false) (.lit (.bool false))) .asg⟩])) [2, 3] []
      (.ret))
      (.skip))) [0, 4, 5, 25, 26] []
    (.reg (.seq [⟨(some (39, false)), none, .mov (.tmp 4 true) .peek⟩,
      ⟨(some (40, false)), none, .bin .mul (.cst (.int .i64 10) (.lit (.int .i64 10))) (.tmp 39 false)⟩,
      ⟨(some (41, false)), none, .mov (.tmp 0 true) .peek⟩,
      ⟨(some (42, false)), none, .mov (.tmp 5 true) .peek⟩,
      ⟨(some (43, false)), none, .idx (.tmp 41 false) (.tmp 42 false)⟩,
      ⟨(some (44, false)), none, .bin .sub (.tmp 43 false) (.cst (.int .u8 48) (.lit (.int .u8 48)))⟩,
      ⟨(some (45, false)), none, .cvt .i64 (.tmp 44 false)⟩,
      ⟨(some (46, false)), none, .bin .add (.tmp 40 false) (.tmp 45 false)⟩,
      ⟨(some (4, true)), none, .mov (.tmp 46 false) .asg⟩]))))) [0, 4, 25, 26] []
  (.reg (.seq [⟨(some (47, false)), none, .bin .add (.tmp 26 true) (.cst (.int .i64 1) (.lit (.int .i64 1)))⟩,
      ⟨(some (26, true)), none, .mov (.tmp 47 false) .peek⟩]))))
def odigits_l0 : AC := odigits_l0'
theorem odigits_l0_w (C : Kn) (K : Ex → St → Prop) (s : St) : vcC C odigits_l0 K s = vcC C odigits_l0' K s := nr rfl
def odigits_k1' : AC := .seq (.reg (.seq [⟨(some (48, false)), none, .mov (.tmp 4 true) .take⟩,
      ⟨(some (2, true)), none, .mov (.tmp 48 false) .asg⟩,
      ⟨(some (3, true)), none, .mov (.cst (.bool true) (.lit (.bool true))) .asg⟩])) [2, 3] []
  (.ret)
def odigits_k1 : AC := odigits_k1'
theorem odigits_k1_w (C : Kn) (K : Ex → St → Prop) (s : St) : vcC C odigits_k1 K s = vcC C odigits_k1' K s := nr rfl
def odigits : AF := ⟨.seq (.reg (.seq [⟨(some (2, true)), none, .mov (.cst (.int .i64 0) (.lit (.int .i64 0))) .asg⟩,
      ⟨(some (3, true)), none, .mov (.cst (.bool false) (.lit (.bool false))) .asg⟩])) [0] []
  (.seq (.seq (.reg (.seq [⟨(some (6, false)), none, .mov (.tmp 0 true) .peek⟩,
      ⟨(some (7, false)), none, .len (.tmp 6 false)⟩,
      ⟨(some (8, false)), none, .bin .lss (.tmp 7 false) (.cst (.int .i64 1) (.lit (.int .i64 1)))⟩,
      ⟨(some (9, false)), none, .mov (.tmp 8 false) .peek⟩,
      ⟨(some (10, false)), (some (9, false)), .mov (.tmp 0 true) .peek⟩,
      ⟨(some (11, false)), (some (9, false)), .len (.tmp 10 false)⟩,
      ⟨(some (12, false)), (some (9, false)), .bin .gtr (.tmp 11 false) (.cst (.int .i64 7) (.lit (.int .i64 7)))⟩,
      ⟨(some (13, false)), none, .pick (.tmp 9 false) (.cst (.bool true) (.lit (.bool true))) (.tmp 12 false)⟩,
      ⟨(some (14, false)), none, .mov (.tmp 13 false) .peek⟩,
      ⟨(some (15, false)), (some (14, false)), .mov (.tmp 0 true) .peek⟩,
      ⟨(some (16, false)), (some (14, false)), .idx (.tmp 15 false) (.cst (.int .i64 0) (.lit (.int .i64 0)))⟩,
      ⟨(some (17, false)), (some (14, false)), .bin .eql (.tmp 16 false) (.cst (.int .u8 48) (.lit (.int .u8 48)))⟩,
      ⟨(some (18, false)), (some (14, false)), .mov (.tmp 17 false) .peek⟩,
      ⟨(some (19, false)), (some (18, true)), .mov (.tmp 0 true) .peek⟩,
      ⟨(some (20, false)), (some (18, true)), .len (.tmp 19 false)⟩,
      ⟨(some (21, false)), (some (18, true)), .bin .gtr (.tmp 20 false) (.cst (.int .i64 1) (.lit (.int .i64 1)))⟩,
      ⟨(some (22, false)), (some (14, false)), .pick (.tmp 18 false) (.tmp 21 false) (.cst (.bool false) (.lit (.bool false)))⟩,
      ⟨(some (23, false)), none, .pick (.tmp 14 false) (.cst (.bool true) (.lit (.bool true))) (.tmp 22 false)⟩])) [0, 23] []
  (.cond (.tmp 23 false)
    (.seq (.reg (.seq [⟨(some (2, true)), none, .mov (.cst (.int .i64 0) (.lit (.int .i64 0))) .asg⟩,
      ⟨(some (3, true)), none, .mov (.cst (.bool false) (.lit (.bool false))) .asg⟩])) [2, 3] []
    (.ret))
    (.skip))) [0] []
  (.seq (.reg (.seq [⟨(some (4, true)), none, .mov (.cst (.int .i64 0) (.lit (.int .i64 0))) .asg⟩])) [0, 4] []
  (.seq (.seq (.reg (.seq [⟨(some (24, false)), none, .mov (.tmp 0 true) .peek⟩,
      ⟨(some (25, true)), none, .len (.tmp 24 false)⟩,
      ⟨(some (26, true)), none, .mov (.cst (.int .i64 0) (.lit (.int .i64 0))) .peek⟩])) [0, 4, 25, 26] []
  (.block 0 (.loop [0, 4, 25, 26] [] odigits_l0))) [4] [] odigits_k1))),
  [.tmp 2, .tmp 3]⟩
theorem odigits_comp (m : Int) : compF Tryd.prog (gl m) [] Tryd.f67 = some odigits := by kernel_rfl
def rnumber_l0' : AC := .seq (.seq (.reg (.seq [⟨(some (26, false)), none, .mov (.tmp 6 true) .peek⟩,
      ⟨(some (27, false)), none, .mov (.tmp 0 true) .peek⟩,
      ⟨(some (28, false)), none, .len (.tmp 27 false)⟩,
      ⟨(some (29, false)), none, .bin .lss (.tmp 26 false) (.tmp 28 false)⟩])) [0, 5, 6, 29] []
  (.cond (.tmp 29 false)
    (.skip)
    (.exit 0))) [0, 5, 6] []
  (.seq (.block 1 (.seq (.seq (.reg (.seq [⟨(some (32, false)), none, .mov (.tmp 0 true) .peek⟩,
      ⟨(some (33, false)), none, .mov (.tmp 6 true) .peek⟩,
      ⟨(some (34, false)), none, .idx (.tmp 32 false) (.tmp 33 false)⟩,
      ⟨(some (35, false)), none, .bin .lss (.tmp 34 false) (.cst (.int .u8 48) (.lit (.int .u8 48)))⟩,
      ⟨(some (36, false)), none, .mov (.tmp 35 false) .peek⟩,
      ⟨(some (37, false)), (some (36, false)), .mov (.tmp 0 true) .peek⟩,
      ⟨(some (38, false)), (some (36, false)), .mov (.tmp 6 true) .peek⟩,
      ⟨(some (39, false)), (some (36, false)), .idx (.tmp 37 false) (.tmp 38 false)⟩,
      ⟨(some (40, false)), (some (36, false)), .bin .gtr (.tmp 39 false) (.cst (.int .u8 57) (.lit (.int .u8 57)))⟩,
      ⟨(some (41, false)), none, .pick (.tmp 36 false) (.cst (.bool true) (.lit (.bool true))) (.tmp 40 false)⟩])) [0, 5, 6, 41] []
    (.cond (.tmp 41 false)
      (.seq (.reg (.seq [⟨(some (4, true)), none, .mov (.cst (.int .i64 (-1)) (.lit (.int .i64 (-1)))) .asg⟩])) [4] []
      (.ret))
      (.skip))) [0, 5, 6] []
    (.reg (.seq [⟨(some (42, false)), none, .mov (.tmp 5 true) .peek⟩,
      ⟨(some (43, false)), none, .bin .mul (.cst (.int .i64 10) (.lit (.int .i64 10))) (.tmp 42 false)⟩,
      ⟨(some (44, false)), none, .mov (.tmp 0 true) .peek⟩,
      ⟨(some (45, false)), none, .mov (.tmp 6 true) .peek⟩,
      ⟨(some (46, false)), none, .idx (.tmp 44 false) (.tmp 45 false)⟩,
      ⟨(some (47, false)), none, .bin .sub (.tmp 46 false) (.cst (.int .u8 48) (.lit (.int .u8 48)))⟩,
      ⟨(some (48, false)), none, .cvt .i64 (.tmp 47 false)⟩,
      ⟨(some (49, false)), none, .bin .add (.tmp 43 false) (.tmp 48 false)⟩,
      ⟨(some (5, true)), none, .mov (.tmp 49 false) .asg⟩])))) [0, 5, 6] []
  (.reg (.seq [⟨(some (30, false)), none, .mov (.tmp 6 true) .peek⟩,
      ⟨(some (31, false)), none, .bin .add (.tmp 30 false) (.cst (.int .i64 1) (.lit (.int .i64 1)))⟩,
      ⟨(some (6, true)), none, .mov (.tmp 31 false) .asg⟩])))
def rnumber_l0 : AC := rnumber_l0'
theorem rnumber_l0_w (C : Kn) (K : Ex → St → Prop) (s : St) : vcC C rnumber_l0 K s = vcC C rnumber_l0' K s := nr rfl
def rnumber_k1' : AC := .seq (.reg (.seq [⟨(some (50, false)), none, .mov (.tmp 5 true) .take⟩,
      ⟨(some (4, true)), none, .mov (.tmp 50 false) .asg⟩])) [4] []
  (.ret)
def rnumber_k1 : AC := rnumber_k1'
theorem rnumber_k1_w (C : Kn) (K : Ex → St → Prop) (s : St) : vcC C rnumber_k1 K s = vcC C rnumber_k1' K s := nr rfl
def rnumber : AF := ⟨.seq (.reg (.seq [⟨(some (4, true)), none, .mov (.cst (.int .i64 0) (.lit (.int .i64 0))) .asg⟩])) [0, 1] []
  (.seq (.seq (.reg (.seq [⟨(some (7, false)), none, .mov (.tmp 0 true) .peek⟩,
      ⟨(some (8, false)), none, .len (.tmp 7 false)⟩,
      ⟨(some (9, false)), none, .bin .lss (.tmp 8 false) (.cst (.int .i64 1) (.lit (.int .i64 1)))⟩,
      ⟨(some (10, false)), none, .mov (.tmp 9 false) .peek⟩,
      ⟨(some (11, false)), (some (10, false)), .mov (.tmp 0 true) .peek⟩,
      ⟨(some (12, false)), (some (10, false)), .len (.tmp 11 false)⟩,
      ⟨(some (13, false)), (some (10, false)), .mov (.tmp 1 true) .peek⟩,
      ⟨(some (14, false)), (some (10, false)), .bin .gtr (.tmp 12 false) (.tmp 13 false)⟩,
      ⟨(some (15, false)), none, .pick (.tmp 10 false) (.cst (.bool true) (.lit (.bool true))) (.tmp 14 false)⟩,
      ⟨(some (16, false)), none, .mov (.tmp 15 false) .peek⟩,
      ⟨(some (17, false)), (some (16, false)), .mov (.tmp 0 true) .peek⟩,
      ⟨(some (18, false)), (some (16, false)), .len (.tmp 17 false)⟩,
      ⟨(some (19, false)), (some (16, false)), .bin .gtr (.tmp 18 false) (.cst (.int .i64 1) (.lit (.int .i64 1)))⟩,
      ⟨(some (20, false)), (some (16, false)), .mov (.tmp 19 false) .peek⟩,
      ⟨(some (21, false)), (some (20, true)), .mov (.tmp 0 true) .peek⟩,
      ⟨(some (22, false)), (some (20, true)), .idx (.tmp 21 false) (.cst (.int .i64 0) (.lit (.int .i64 0)))⟩,
      ⟨(some (23, false)), (some (20, true)), .bin .eql (.tmp 22 false) (.cst (.int .u8 48) (.lit (.int .u8 48)))⟩,
      ⟨(some (24, false)), (some (16, false)), .pick (.tmp 20 false) (.tmp 23 false) (.cst (.bool false) (.lit (.bool false)))⟩,
      ⟨(some (25, false)), none, .pick (.tmp 16 false) (.cst (.bool true) (.lit (.bool true))) (.tmp 24 false)⟩])) [0, 25] []
  (.cond (.tmp 25 false)
    (.seq (.reg (.seq [⟨(some (4, true)), none, .mov (.cst (.int .i64 (-1)) (.lit (.int .i64 (-1)))) .asg⟩])) [4] []
    (.ret))
    (.skip))) [0] []
  (.seq (.reg (.seq [⟨(some (5, true)), none, .mov (.cst (.int .i64 0) (.lit (.int .i64 0))) .asg⟩])) [0, 5] []
  (.seq (.seq (.reg (.seq [⟨(some (6, true)), none, .mov (.cst (.int .i64 0) (.lit (.int .i64 0))) .asg⟩])) [0, 5, 6] []
  (.block 0 (.loop [0, 5, 6] [] rnumber_l0))) [5] [] rnumber_k1))),
  [.tmp 4]⟩
theorem rnumber_comp (m : Int) : compF Tryd.prog (gl m) [] Tryd.f69 = some rnumber := by kernel_rfl
def rfind_l0' : AC := .seq (.seq (.reg (.seq [⟨(some (9, false)), none, .mov (.tmp 7 true) .peek⟩,
      ⟨(some (10, false)), none, .mov (.tmp 0 true) .peek⟩,
      ⟨(some (11, false)), none, .len (.tmp 10 false)⟩,
      ⟨(some (12, false)), none, .bin .lss (.tmp 9 false) (.tmp 11 false)⟩])) [0, 1, 7, 12] []
  (.cond (.tmp 12 false)
    (.skip)
    (.exit 0))) [0, 1, 7] []
  (.seq (.block 1 (.seq (.reg (.seq [⟨(some (15, false)), none, .mov (.tmp 0 true) .peek⟩,
      ⟨(some (16, false)), none, .mov (.tmp 7 true) .peek⟩,
      ⟨(some (17, false)), none, .idx (.tmp 15 false) (.tmp 16 false)⟩,
      ⟨(some (18, false)), none, .mov (.tmp 1 true) .peek⟩,
      ⟨(some (19, false)), none, .bin .eql (.tmp 17 false) (.tmp 18 false)⟩])) [0, 1, 7, 19] []
    (.cond (.tmp 19 false)
      (.seq (.reg (.seq [⟨(some (20, false)), none, .mov (.tmp 7 true) .take⟩,
      ⟨(some (6, true)), none, .mov (.tmp 20 false) .asg⟩])) [6] []
      (.ret))
      (.skip)))) [0, 1, 7] []
  (.reg (.seq [⟨(some (13, false)), none, .mov (.tmp 7 true) .peek⟩,
      ⟨(some (14, false)), none, .bin .add (.tmp 13 false) (.cst (.int .i64 1) (.lit (.int .i64 1)))⟩,
      ⟨(some (7, true)), none, .mov (.tmp 14 false) .asg⟩])))
def rfind_l0 : AC := rfind_l0'
theorem rfind_l0_w (C : Kn) (K : Ex → St → Prop) (s : St) : vcC C rfind_l0 K s = vcC C rfind_l0' K s := nr rfl
def rfind_k1' : AC := .seq (.reg (.seq [⟨(some (6, true)), none, .mov (.cst (.int .i64 (-1)) (.lit (.int .i64 (-1)))) .asg⟩])) [6] []
  (.ret)
def rfind_k1 : AC := rfind_k1'
theorem rfind_k1_w (C : Kn) (K : Ex → St → Prop) (s : St) : vcC C rfind_k1 K s = vcC C rfind_k1' K s := nr rfl
def rfind : AF := ⟨.seq (.reg (.seq [⟨(some (6, true)), none, .mov (.cst (.int .i64 0) (.lit (.int .i64 0))) .asg⟩])) [0, 1, 2] []
  (.seq (.seq (.reg (.seq [⟨(some (8, false)), none, .mov (.tmp 2 true) .take⟩,
      ⟨(some (7, true)), none, .mov (.tmp 8 false) .asg⟩])) [0, 1, 7] []
  (.block 0 (.loop [0, 1, 7] [] rfind_l0))) [] [] rfind_k1),
  [.tmp 6]⟩
theorem rfind_comp (m : Int) : compF Tryd.prog (gl m) [] Tryd.f68 = some rfind := by kernel_rfl
theorem index_snd (s : Bs) (c : UInt8) : Snd Tryd.prog (gl m) 123 [S s, S [c]] (I (Lib.indexByte s c)) :=
  snd_same (us := [.string (str s), .string (str [c])]) rfl fun w zf _ => Tryd.stringslite_Index_one (str s) c w
theorem ix_cases (s : Bs) (c : UInt8) : (∃ i : Nat, Lib.indexByte s c = (i : Int) ∧ i < s.length ∧ s[i]? = some c ∧ ∀ j, j < i → s[j]? ≠ some c) ∨ (Lib.indexByte s c = -1 ∧ ∀ j : Nat, s[j]? ≠ some c) := by
  induction s with
  | nil => exact .inr ⟨rfl, fun j => by simp⟩
  | cons b l ih =>
    by_cases hb : b = c
    · subst hb
      exact .inl ⟨0, by simp [Lib.indexByte], by simp, by simp, fun j hj => by omega⟩
    · rcases ih with ⟨i, h1, h2, h3, h4⟩ | ⟨h1, h2⟩
      · refine .inl ⟨i + 1, ?_, by simp; omega, by simpa using h3, fun j hj => ?_⟩
        · have : ¬ ((i : Int) = -1) := by omega
          simp [Lib.indexByte, hb, h1, this]
        · cases j with
          | zero => simpa using hb
          | succ j => simpa using h4 j (by omega)
      · refine .inr ⟨by simp [Lib.indexByte, hb, h1], fun j => ?_⟩
        cases j with
        | zero => simpa using hb
        | succ j => simpa using h2 j
theorem scut_yes (s : Bs) (c : UInt8) {i : Nat} (h : Lib.indexByte s c = (i : Int)) (hi : i < s.length) (hs : s.length ≤ 4294967000) :
    Snd Tryd.prog (gl m) 99 [S s, S [c]] (.tup [S (s.take i), S (s.drop (i + 1)), B true]) := by
  refine snd_of (fn := Tryd.f99) (af := scut) Tryd.func99 (scut_comp m) mixed (kn_ok m) (Nat.le_of_ble_eq_true rfl) ?_
  have q1 : IntKind.i64.wrap ((i : Int) + 1) = ((i + 1 : Nat) : Int) := by rw [IntKind.wrap_i64]; omega
  have q1' : IntKind.i64.wrap ((i : Int) + ((1 : Nat) : Int)) = ((i + 1 : Nat) : Int) := q1
  simp only [scut, go_sem, reduceCtorEq, Nat.reduceEqDiff, reduceIte, Nat.reduceAdd, Nat.reduceSub, Nat.reduceLeDiff, Int.reduceToNat, Nat.reduceBEq]
  refine of_call (index_snd s c) ?_
  simp only [h, go_sem, reduceCtorEq, Nat.reduceEqDiff, reduceIte, Nat.reduceAdd, Nat.reduceSub, Nat.reduceLeDiff, Int.reduceToNat, Nat.reduceBEq]
  rw [ige_t (by omega)]
  simp only [q1, q1', go_sem, reduceCtorEq, Nat.reduceEqDiff, reduceIte, Nat.reduceAdd, Nat.reduceSub, Nat.reduceLeDiff, Int.reduceToNat, Nat.reduceBEq]
  omega
theorem scut_no (s : Bs) (c : UInt8) (h : Lib.indexByte s c = -1) :
    Snd Tryd.prog (gl m) 99 [S s, S [c]] (.tup [S s, S [], B false]) := by
  refine snd_of (fn := Tryd.f99) (af := scut) Tryd.func99 (scut_comp m) mixed (kn_ok m) (Nat.le_of_ble_eq_true rfl) ?_
  simp only [scut, go_sem, reduceCtorEq, Nat.reduceEqDiff, reduceIte, Nat.reduceAdd, Nat.reduceSub, Nat.reduceLeDiff, Int.reduceToNat, Nat.reduceBEq]
  refine of_call (index_snd s c) ?_
  simp only [h, go_sem, reduceCtorEq, Nat.reduceEqDiff, reduceIte, Nat.reduceAdd, Nat.reduceSub, Nat.reduceLeDiff, Int.reduceToNat, Nat.reduceBEq]
  rw [ige_f (by omega)]
  simp only [go_sem, reduceCtorEq, Nat.reduceEqDiff, reduceIte, Nat.reduceAdd, Nat.reduceSub, Nat.reduceLeDiff, Int.reduceToNat, Nat.reduceBEq]
  try rfl
theorem ucut_of (s : Bs) (c : UInt8) {a b : Bs} {t : Bool} (h : Snd Tryd.prog (gl m) 99 [S s, S [c]] (.tup [S a, S b, B t])) :
    Snd Tryd.prog (gl m) 66 [S s, S [c]] (.tup [S a, S b, B t]) := by
  refine snd_of (fn := Tryd.f66) (af := ucut) Tryd.func66 (ucut_comp m) mixed (kn_ok m) (Nat.le_of_ble_eq_true rfl) ?_
  simp only [ucut, go_sem, reduceCtorEq, Nat.reduceEqDiff, reduceIte, Nat.reduceAdd, Nat.reduceSub, Nat.reduceLeDiff, Int.reduceToNat, Nat.reduceBEq]
  refine of_call h ?_
  simp only [go_sem, reduceCtorEq, Nat.reduceEqDiff, reduceIte, Nat.reduceAdd, Nat.reduceSub, Nat.reduceLeDiff, Int.reduceToNat, Nat.reduceBEq]
  try rfl
theorem rfind_loop (s : Bs) (c : UInt8) (hs : s.length ≤ 4294967000) (r : Int) (n : Nat) : ∀ (i : Nat) (hn : s.length - i = n) (hi : i ≤ s.length) (hf : ∀ j, i ≤ j → s[j]? = some c → (∀ k, i ≤ k → k < j → s[k]? ≠ some c) → r = j) (h0 : (∀ j, i ≤ j → s[j]? ≠ some c) → r = -1),
    vcL (kn m) [0, 1, 7] [] rfind_l0 (blockK 0 (seqK (kn m) [] [] rfind_k1 (outOk [.tmp 6] (I r)))) (mkS [(0, S s), (1, U8 c), (7, N i)] []) := by
  induction n with
  | zero =>
    intro i hn hi hf h0
    obtain rfl : i = s.length := by omega
    have e := h0 fun j hj => by rw [List.getElem?_eq_none hj]; simp
    subst e
    apply round
    simp only [rfind_l0_w, rfind_l0', go_sem, reduceCtorEq, Nat.reduceEqDiff, reduceIte, Nat.reduceAdd, Nat.reduceSub, Nat.reduceLeDiff, Int.reduceToNat, Nat.reduceBEq]
    rw [ilt_f (by omega)]
    simp only [rfind_k1_w, rfind_k1', go_sem, reduceCtorEq, Nat.reduceEqDiff, reduceIte, Nat.reduceAdd, Nat.reduceSub, Nat.reduceLeDiff, Int.reduceToNat, Nat.reduceBEq]
    try rfl
  | succ n ih =>
    intro i hn hi hf h0
    have g := getE (l := s) (i := i) (by omega)
    have q1 : IntKind.i64.wrap ((i : Int) + 1) = ((i + 1 : Nat) : Int) := by rw [IntKind.wrap_i64]; omega
    generalize s[i] = b at g
    apply round
    simp only [rfind_l0_w, rfind_l0', go_sem, reduceCtorEq, Nat.reduceEqDiff, reduceIte, Nat.reduceAdd, Nat.reduceSub, Nat.reduceLeDiff, Int.reduceToNat, Nat.reduceBEq]
    rw [ilt_t (by omega)]
    simp only [g, go_sem, reduceCtorEq, Nat.reduceEqDiff, reduceIte, Nat.reduceAdd, Nat.reduceSub, Nat.reduceLeDiff, Int.reduceToNat, Nat.reduceBEq]
    repeat (refine ⟨by (try simp only [List.length_append, List.length_cons, List.length_nil, List.length_drop, List.length_take]); omega, ?_⟩)
    by_cases hb : b = c
    · subst hb
      have e := hf i (Nat.le_refl _) g fun k h1 h2 => by omega
      subst e
      simp only [eq_t rfl, go_sem, reduceCtorEq, Nat.reduceEqDiff, reduceIte, Nat.reduceAdd, Nat.reduceSub, Nat.reduceLeDiff, Int.reduceToNat, Nat.reduceBEq]
      try rfl
    · have hb' : (b.toNat : Int) ≠ (c.toNat : Int) := fun h => hb (UInt8.toNat_inj.1 (by omega))
      simp only [eq_f hb', q1, go_sem, reduceCtorEq, Nat.reduceEqDiff, reduceIte, Nat.reduceAdd, Nat.reduceSub, Nat.reduceLeDiff, Int.reduceToNat, Nat.reduceBEq]
      refine ih (i + 1) (by omega) (by omega) (fun j h1 h2 h3 => hf j (by omega) h2 fun k h4 h5 => ?_) (fun h => h0 fun j hj => ?_)
      · by_cases e : k = i
        · subst e; rw [g]; simpa using hb
        · exact h3 k (by omega) h5
      · by_cases e : j = i
        · subst e; rw [g]; simpa using hb
        · exact h j (by omega)
theorem rfind_snd (s : Bs) (c : UInt8) (hs : s.length ≤ 4294967000) : Snd Tryd.prog (gl m) 68 [S s, U8 c, N 0] (I (Lib.indexByte s c)) := by
  refine snd_of (fn := Tryd.f68) (af := rfind) Tryd.func68 (rfind_comp m) mixed (kn_ok m) (Nat.le_of_ble_eq_true rfl) ?_
  simp only [rfind, go_sem, reduceCtorEq, Nat.reduceEqDiff, reduceIte, Nat.reduceAdd, Nat.reduceSub, Nat.reduceLeDiff, Int.reduceToNat, Nat.reduceBEq]
  refine rfind_loop s c hs _ _ 0 rfl (by omega) (fun j _ h1 h2 => ?_) (fun h => ?_)
  · rcases ix_cases s c with ⟨i, k1, k2, k3, k4⟩ | ⟨k1, k2⟩
    · rw [k1]
      rcases Nat.lt_trichotomy i j with hl | hl | hl
      · exact absurd k3 (h2 i (by omega) hl)
      · rw [hl]
      · exact absurd h1 (k4 j hl)
    · exact absurd h1 (k2 j)
  · rcases ix_cases s c with ⟨i, k1, k2, k3, k4⟩ | ⟨k1, k2⟩
    · exact absurd k3 (h i (by omega))
    · exact k1
def digA : Option Nat → AV
  | some n => .tup [N n, B true]
  | none => .tup [I 0, B false]
def numA : Option Nat → AV
  | some n => N n
  | none => I (-1)
theorem u8_sub {c : UInt8} (h : 48 ≤ c.toNat) : IntKind.u8.wrap ((c.toNat : Int) - 48) = ((c.toNat - 48 : Nat) : Int) := by
  have := UInt8.toNat_lt c
  rw [wrap_u8']; omega
theorem odigits_loop (s : Bs) (hs : s.length ≤ 7) (R : AV) (n : Nat) : ∀ (i acc : Nat) (hn : s.length - i = n) (hi : i ≤ s.length) (ha : acc < 10 ^ i) (hR : digA (numGo acc (s.drop i)) = R),
    vcL (kn m) [0, 4, 25, 26] [] odigits_l0 (blockK 0 (seqK (kn m) [4] [] odigits_k1 (outOk [.tmp 2, .tmp 3] R))) (mkS [(0, S s), (4, N acc), (25, N s.length), (26, N i)] []) := by
  induction n with
  | zero =>
    intro i acc hn hi ha hR
    obtain rfl : i = s.length := by omega
    rw [List.drop_length, numGo] at hR
    subst hR
    apply round
    simp only [odigits_l0_w, odigits_l0', go_sem, reduceCtorEq, Nat.reduceEqDiff, reduceIte, Nat.reduceAdd, Nat.reduceSub, Nat.reduceLeDiff, Int.reduceToNat, Nat.reduceBEq]
    rw [ilt_f (by omega)]
    simp only [odigits_k1_w, odigits_k1', go_sem, reduceCtorEq, Nat.reduceEqDiff, reduceIte, Nat.reduceAdd, Nat.reduceSub, Nat.reduceLeDiff, Int.reduceToNat, Nat.reduceBEq]
    try rfl
  | succ n ih =>
    intro i acc hn hi ha hR
    have g := getE (l := s) (i := i) (by omega)
    have q1 : IntKind.i64.wrap ((i : Int) + 1) = ((i + 1 : Nat) : Int) := by rw [IntKind.wrap_i64]; omega
    have hp : 10 ^ i ≤ 10 ^ 7 := Nat.pow_le_pow_right (by omega) (by omega)
    rw [List.drop_eq_getElem_cons (by omega), numGo] at hR
    generalize s[i] = c at g hR
    apply round
    simp only [odigits_l0_w, odigits_l0', go_sem, reduceCtorEq, Nat.reduceEqDiff, reduceIte, Nat.reduceAdd, Nat.reduceSub, Nat.reduceLeDiff, Int.reduceToNat, Nat.reduceBEq]
    rw [ilt_t (by omega)]
    simp only [g, go_sem, reduceCtorEq, Nat.reduceEqDiff, reduceIte, Nat.reduceAdd, Nat.reduceSub, Nat.reduceLeDiff, Int.reduceToNat, Nat.reduceBEq]
    repeat (refine ⟨by (try simp only [List.length_append, List.length_cons, List.length_nil, List.length_drop, List.length_take]); omega, ?_⟩)
    by_cases hlo : c.toNat < 48
    · rw [if_pos (.inl hlo)] at hR
      subst hR
      simp only [ilt_t (show (c.toNat : Int) < 48 by omega), go_sem, reduceCtorEq, Nat.reduceEqDiff, reduceIte, Nat.reduceAdd, Nat.reduceSub, Nat.reduceLeDiff, Int.reduceToNat, Nat.reduceBEq]
      try rfl
    rw [ilt_f (show ¬ (c.toNat : Int) < 48 by omega)]
    by_cases hhi : 57 < c.toNat
    · rw [if_pos (.inr hhi)] at hR
      subst hR
      simp only [g, igt_t (show (57 : Int) < (c.toNat : Int) by omega), go_sem, reduceCtorEq, Nat.reduceEqDiff, reduceIte, Nat.reduceAdd, Nat.reduceSub, Nat.reduceLeDiff, Int.reduceToNat, Nat.reduceBEq]
      repeat (refine ⟨by (try simp only [List.length_append, List.length_cons, List.length_nil, List.length_drop, List.length_take]); omega, ?_⟩)
      try rfl
    rw [if_neg (by omega)] at hR
    have hp7 : (10 : Nat) ^ 7 = 10000000 := rfl
    have q2 : IntKind.i64.wrap (10 * (acc : Int)) = ((10 * acc : Nat) : Int) := by rw [IntKind.wrap_i64]; omega
    have q3 : IntKind.i64.wrap ((c.toNat - 48 : Nat) : Int) = ((c.toNat - 48 : Nat) : Int) := by rw [IntKind.wrap_i64]; have := UInt8.toNat_lt c; omega
    have q4 : IntKind.i64.wrap (((10 * acc : Nat) : Int) + ((c.toNat - 48 : Nat) : Int)) = ((10 * acc + (c.toNat - 48) : Nat) : Int) := by rw [IntKind.wrap_i64]; have := UInt8.toNat_lt c; omega
    have q5 := u8_sub (c := c) (by omega)
    simp only [g, igt_f (show ¬ (57 : Int) < (c.toNat : Int) by omega), q1, q2, q3, q4, q5, go_sem, reduceCtorEq, Nat.reduceEqDiff, reduceIte, Nat.reduceAdd, Nat.reduceSub, Nat.reduceLeDiff, Int.reduceToNat, Nat.reduceBEq]
    repeat (refine ⟨by (try simp only [List.length_append, List.length_cons, List.length_nil, List.length_drop, List.length_take]); omega, ?_⟩)
    exact ih (i + 1) _ (by omega) (by omega) (by rw [Nat.pow_succ]; omega) hR
theorem odigits_snd (s : Bs) (hs : s.length ≤ 4294967000) : Snd Tryd.prog (gl m) 67 [S s] (digA (number s)) := by
  refine snd_of (fn := Tryd.f67) (af := odigits) Tryd.func67 (odigits_comp m) mixed (kn_ok m) (Nat.le_of_ble_eq_true rfl) ?_
  simp only [odigits, go_sem, reduceCtorEq, Nat.reduceEqDiff, reduceIte, Nat.reduceAdd, Nat.reduceSub, Nat.reduceLeDiff, Int.reduceToNat, Nat.reduceBEq]
  by_cases h1 : s.length < 1
  · rw [ilt_t (by omega)]
    have e : number s = none := by rw [number, if_pos (.inl h1)]
    simp only [e, go_sem, reduceCtorEq, Nat.reduceEqDiff, reduceIte, Nat.reduceAdd, Nat.reduceSub, Nat.reduceLeDiff, Int.reduceToNat, Nat.reduceBEq]
    try rfl
  rw [ilt_f (by omega)]
  by_cases h2 : 7 < s.length
  · have e : number s = none := by rw [number, if_pos (.inr (.inl h2))]
    simp only [e, igt_t (show (7 : Int) < (s.length : Int) by omega), go_sem, reduceCtorEq, Nat.reduceEqDiff, reduceIte, Nat.reduceAdd, Nat.reduceSub, Nat.reduceLeDiff, Int.reduceToNat, Nat.reduceBEq]
    try rfl
  have g := getE (l := s) (i := 0) (by omega)
  simp only [igt_f (show ¬ (7 : Int) < (s.length : Int) by omega), g, go_sem, reduceCtorEq, Nat.reduceEqDiff, reduceIte, Nat.reduceAdd, Nat.reduceSub, Nat.reduceLeDiff, Int.reduceToNat, Nat.reduceBEq]
  generalize hc : s[0] = c at g
  repeat (refine ⟨by (try simp only [List.length_append, List.length_cons, List.length_nil, List.length_drop, List.length_take]); omega, ?_⟩)
  by_cases hz : c = 48 ∧ 1 < s.length
  · have e : number s = none := by rw [number, if_pos (.inr (.inr ⟨by rw [g, hz.1], hz.2⟩))]
    obtain ⟨rfl, hl⟩ := hz
    simp only [e, eq_t (show (((48 : UInt8).toNat : Int) = 48) from rfl), igt_t (show (1 : Int) < (s.length : Int) by omega), go_sem, reduceCtorEq, Nat.reduceEqDiff, reduceIte, Nat.reduceAdd, Nat.reduceSub, Nat.reduceLeDiff, Int.reduceToNat, Nat.reduceBEq]
    try rfl
  have e : number s = numGo 0 s := by
    rw [number, if_neg]
    rintro (h | h | ⟨h, h'⟩)
    · exact h1 h
    · exact h2 h
    · rw [g] at h; injection h with h; exact hz ⟨h, h'⟩
  rw [e]
  have l := odigits_loop (m := m) s (by omega) _ _ 0 0 rfl (by omega) (by decide) rfl
  by_cases h48 : c = 48
  · subst h48
    simp only [eq_t (show (((48 : UInt8).toNat : Int) = 48) from rfl), igt_f (show ¬ (1 : Int) < (s.length : Int) from fun h => hz ⟨rfl, by omega⟩), go_sem, reduceCtorEq, Nat.reduceEqDiff, reduceIte, Nat.reduceAdd, Nat.reduceSub, Nat.reduceLeDiff, Int.reduceToNat, Nat.reduceBEq]
    exact l
  · simp only [eq_f (show (c.toNat : Int) ≠ 48 from fun h => h48 (UInt8.toNat_inj.1 (by rw [show (48 : UInt8).toNat = 48 by rfl]; omega))), go_sem, reduceCtorEq, Nat.reduceEqDiff, reduceIte, Nat.reduceAdd, Nat.reduceSub, Nat.reduceLeDiff, Int.reduceToNat, Nat.reduceBEq]
    exact l
theorem rnumber_loop (s : Bs) (hs : s.length ≤ 7) (R : AV) (n : Nat) : ∀ (i acc : Nat) (hn : s.length - i = n) (hi : i ≤ s.length) (ha : acc < 10 ^ i) (hR : numA (numGo acc (s.drop i)) = R),
    vcL (kn m) [0, 5, 6] [] rnumber_l0 (blockK 0 (seqK (kn m) [5] [] rnumber_k1 (outOk [.tmp 4] R))) (mkS [(0, S s), (5, N acc), (6, N i)] []) := by
  induction n with
  | zero =>
    intro i acc hn hi ha hR
    obtain rfl : i = s.length := by omega
    rw [List.drop_length, numGo] at hR
    subst hR
    apply round
    simp only [rnumber_l0_w, rnumber_l0', go_sem, reduceCtorEq, Nat.reduceEqDiff, reduceIte, Nat.reduceAdd, Nat.reduceSub, Nat.reduceLeDiff, Int.reduceToNat, Nat.reduceBEq]
    rw [ilt_f (by omega)]
    simp only [rnumber_k1_w, rnumber_k1', go_sem, reduceCtorEq, Nat.reduceEqDiff, reduceIte, Nat.reduceAdd, Nat.reduceSub, Nat.reduceLeDiff, Int.reduceToNat, Nat.reduceBEq]
    try rfl
  | succ n ih =>
    intro i acc hn hi ha hR
    have g := getE (l := s) (i := i) (by omega)
    have q1 : IntKind.i64.wrap ((i : Int) + 1) = ((i + 1 : Nat) : Int) := by rw [IntKind.wrap_i64]; omega
    have hp : 10 ^ i ≤ 10 ^ 7 := Nat.pow_le_pow_right (by omega) (by omega)
    rw [List.drop_eq_getElem_cons (by omega), numGo] at hR
    generalize s[i] = c at g hR
    apply round
    simp only [rnumber_l0_w, rnumber_l0', go_sem, reduceCtorEq, Nat.reduceEqDiff, reduceIte, Nat.reduceAdd, Nat.reduceSub, Nat.reduceLeDiff, Int.reduceToNat, Nat.reduceBEq]
    rw [ilt_t (by omega)]
    simp only [g, go_sem, reduceCtorEq, Nat.reduceEqDiff, reduceIte, Nat.reduceAdd, Nat.reduceSub, Nat.reduceLeDiff, Int.reduceToNat, Nat.reduceBEq]
    repeat (refine ⟨by (try simp only [List.length_append, List.length_cons, List.length_nil, List.length_drop, List.length_take]); omega, ?_⟩)
    by_cases hlo : c.toNat < 48
    · rw [if_pos (.inl hlo)] at hR
      subst hR
      simp only [ilt_t (show (c.toNat : Int) < 48 by omega), go_sem, reduceCtorEq, Nat.reduceEqDiff, reduceIte, Nat.reduceAdd, Nat.reduceSub, Nat.reduceLeDiff, Int.reduceToNat, Nat.reduceBEq]
      try rfl
    rw [ilt_f (show ¬ (c.toNat : Int) < 48 by omega)]
    by_cases hhi : 57 < c.toNat
    · rw [if_pos (.inr hhi)] at hR
      subst hR
      simp only [g, igt_t (show (57 : Int) < (c.toNat : Int) by omega), go_sem, reduceCtorEq, Nat.reduceEqDiff, reduceIte, Nat.reduceAdd, Nat.reduceSub, Nat.reduceLeDiff, Int.reduceToNat, Nat.reduceBEq]
      repeat (refine ⟨by (try simp only [List.length_append, List.length_cons, List.length_nil, List.length_drop, List.length_take]); omega, ?_⟩)
      try rfl
    rw [if_neg (by omega)] at hR
    have hp7 : (10 : Nat) ^ 7 = 10000000 := rfl
    have q2 : IntKind.i64.wrap (10 * (acc : Int)) = ((10 * acc : Nat) : Int) := by rw [IntKind.wrap_i64]; omega
    have q3 : IntKind.i64.wrap ((c.toNat - 48 : Nat) : Int) = ((c.toNat - 48 : Nat) : Int) := by rw [IntKind.wrap_i64]; have := UInt8.toNat_lt c; omega
    have q4 : IntKind.i64.wrap (((10 * acc : Nat) : Int) + ((c.toNat - 48 : Nat) : Int)) = ((10 * acc + (c.toNat - 48) : Nat) : Int) := by rw [IntKind.wrap_i64]; have := UInt8.toNat_lt c; omega
    have q5 := u8_sub (c := c) (by omega)
    simp only [g, igt_f (show ¬ (57 : Int) < (c.toNat : Int) by omega), q1, q2, q3, q4, q5, go_sem, reduceCtorEq, Nat.reduceEqDiff, reduceIte, Nat.reduceAdd, Nat.reduceSub, Nat.reduceLeDiff, Int.reduceToNat, Nat.reduceBEq]
    repeat (refine ⟨by (try simp only [List.length_append, List.length_cons, List.length_nil, List.length_drop, List.length_take]); omega, ?_⟩)
    exact ih (i + 1) _ (by omega) (by omega) (by rw [Nat.pow_succ]; omega) hR
theorem rnumber_snd (s : Bs) (hs : s.length ≤ 4294967000) : Snd Tryd.prog (gl m) 69 [S s, I 7] (numA (number s)) := by
  refine snd_of (fn := Tryd.f69) (af := rnumber) Tryd.func69 (rnumber_comp m) mixed (kn_ok m) (Nat.le_of_ble_eq_true rfl) ?_
  simp only [rnumber, go_sem, reduceCtorEq, Nat.reduceEqDiff, reduceIte, Nat.reduceAdd, Nat.reduceSub, Nat.reduceLeDiff, Int.reduceToNat, Nat.reduceBEq]
  by_cases h1 : s.length < 1
  · rw [ilt_t (by omega)]
    have e : number s = none := by rw [number, if_pos (.inl h1)]
    simp only [e, go_sem, reduceCtorEq, Nat.reduceEqDiff, reduceIte, Nat.reduceAdd, Nat.reduceSub, Nat.reduceLeDiff, Int.reduceToNat, Nat.reduceBEq]
    try rfl
  rw [ilt_f (by omega)]
  by_cases h2 : 7 < s.length
  · have e : number s = none := by rw [number, if_pos (.inr (.inl h2))]
    simp only [e, igt_t (show (7 : Int) < (s.length : Int) by omega), go_sem, reduceCtorEq, Nat.reduceEqDiff, reduceIte, Nat.reduceAdd, Nat.reduceSub, Nat.reduceLeDiff, Int.reduceToNat, Nat.reduceBEq]
    try rfl
  have g := getE (l := s) (i := 0) (by omega)
  simp only [igt_f (show ¬ (7 : Int) < (s.length : Int) by omega), go_sem, reduceCtorEq, Nat.reduceEqDiff, reduceIte, Nat.reduceAdd, Nat.reduceSub, Nat.reduceLeDiff, Int.reduceToNat, Nat.reduceBEq]
  generalize hc : s[0] = c at g
  have l := rnumber_loop (m := m) s (by omega) _ _ 0 0 rfl (by omega) (by decide) rfl
  by_cases hl : 1 < s.length
  · simp only [igt_t (show (1 : Int) < (s.length : Int) by omega), g, go_sem, reduceCtorEq, Nat.reduceEqDiff, reduceIte, Nat.reduceAdd, Nat.reduceSub, Nat.reduceLeDiff, Int.reduceToNat, Nat.reduceBEq]
    repeat (refine ⟨by (try simp only [List.length_append, List.length_cons, List.length_nil, List.length_drop, List.length_take]); omega, ?_⟩)
    by_cases h48 : c = 48
    · subst h48
      have e : number s = none := by rw [number, if_pos (.inr (.inr ⟨g, hl⟩))]
      simp only [e, eq_t (show (((48 : UInt8).toNat : Int) = 48) from rfl), go_sem, reduceCtorEq, Nat.reduceEqDiff, reduceIte, Nat.reduceAdd, Nat.reduceSub, Nat.reduceLeDiff, Int.reduceToNat, Nat.reduceBEq]
      try rfl
    · have e : number s = numGo 0 s := by
        rw [number, if_neg]
        rintro (h | h | ⟨h, h'⟩)
        · exact h1 h
        · exact h2 h
        · rw [g] at h; injection h with h; exact h48 h
      rw [e]
      simp only [eq_f (show (c.toNat : Int) ≠ 48 from fun h => h48 (UInt8.toNat_inj.1 (by rw [show (48 : UInt8).toNat = 48 by rfl]; omega))), go_sem, reduceCtorEq, Nat.reduceEqDiff, reduceIte, Nat.reduceAdd, Nat.reduceSub, Nat.reduceLeDiff, Int.reduceToNat, Nat.reduceBEq]
      exact l
  · have e : number s = numGo 0 s := by
      rw [number, if_neg]
      rintro (h | h | ⟨h, h'⟩)
      · exact h1 h
      · exact h2 h
      · exact hl h'
    rw [e]
    simp only [igt_f (show ¬ (1 : Int) < (s.length : Int) by omega), go_sem, reduceCtorEq, Nat.reduceEqDiff, reduceIte, Nat.reduceAdd, Nat.reduceSub, Nat.reduceLeDiff, Int.reduceToNat, Nat.reduceBEq]
    exact l
/-- digits ahead of what is written -/
def app (k : Nat) (t : Bs) : Bs := if k = 0 ∧ t ≠ [] then t else dec k ++ t
theorem app_step {k : Nat} {t : Bs} (h : ¬ (k = 0 ∧ t ≠ [])) : app (k / 10) (UInt8.ofNat (48 + k % 10) :: t) = app k t := by
  rw [app, app, if_neg h]
  by_cases h10 : k < 10
  · rw [if_pos ⟨by omega, by simp⟩, Ob.dec_small h10, Nat.mod_eq_of_lt h10]; rfl
  · rw [if_neg (by omega), Ob.dec_step h10]; simp
theorem rdigits_loop (n0 : Nat) (R : Bs) (n : Nat) : ∀ (k : Nat) (t : Bs) (hn : k + (if t = [] then 1 else 0) ≤ n) (hk : k ≤ 4294967000) (ht : t.length + k ≤ 4294967000) (hR : app k t = R),
    vcL (kn m) [0, 3, 4] [] rdigits_l0 (blockK 0 (seqK (kn m) [0, 3] [] rdigits_k1 (outOk [.tmp 2] (S R)))) (mkS [(0, N n0), (3, S t), (4, N k)] []) := by
  induction n with
  | zero =>
    intro k t hn hk ht hR
    by_cases h : t = []
    · rw [if_pos h] at hn; omega
    obtain rfl : k = 0 := by omega
    rw [app, if_pos ⟨rfl, h⟩] at hR
    subst hR
    apply round
    simp only [rdigits_l0_w, rdigits_l0', ne_f (show ((0 : Nat) : Int) = 0 from rfl), go_sem, reduceCtorEq, Nat.reduceEqDiff, reduceIte, Nat.reduceAdd, Nat.reduceSub, Nat.reduceLeDiff, Int.reduceToNat, Nat.reduceBEq]
    simp only [se_f h, go_sem, reduceCtorEq, Nat.reduceEqDiff, reduceIte, Nat.reduceAdd, Nat.reduceSub, Nat.reduceLeDiff, Int.reduceToNat, Nat.reduceBEq]
    simp only [rdigits_k1_w, rdigits_k1', go_sem, reduceCtorEq, Nat.reduceEqDiff, reduceIte, Nat.reduceAdd, Nat.reduceSub, Nat.reduceLeDiff, Int.reduceToNat, Nat.reduceBEq]
    rw [ilt_f (show ¬ (n0 : Int) < 0 by omega)]
    simp only [go_sem, reduceCtorEq, Nat.reduceEqDiff, reduceIte, Nat.reduceAdd, Nat.reduceSub, Nat.reduceLeDiff, Int.reduceToNat, Nat.reduceBEq]
    try rfl
  | succ n ih =>
    intro k t hn hk ht hR
    by_cases hz : k = 0 ∧ t ≠ []
    · rw [app, if_pos hz] at hR
      obtain ⟨rfl, h⟩ := hz
      subst hR
      apply round
      simp only [rdigits_l0_w, rdigits_l0', ne_f (show ((0 : Nat) : Int) = 0 from rfl), go_sem, reduceCtorEq, Nat.reduceEqDiff, reduceIte, Nat.reduceAdd, Nat.reduceSub, Nat.reduceLeDiff, Int.reduceToNat, Nat.reduceBEq]
      simp only [se_f h, go_sem, reduceCtorEq, Nat.reduceEqDiff, reduceIte, Nat.reduceAdd, Nat.reduceSub, Nat.reduceLeDiff, Int.reduceToNat, Nat.reduceBEq]
      simp only [rdigits_k1_w, rdigits_k1', go_sem, reduceCtorEq, Nat.reduceEqDiff, reduceIte, Nat.reduceAdd, Nat.reduceSub, Nat.reduceLeDiff, Int.reduceToNat, Nat.reduceBEq]
      rw [ilt_f (show ¬ (n0 : Int) < 0 by omega)]
      simp only [go_sem, reduceCtorEq, Nat.reduceEqDiff, reduceIte, Nat.reduceAdd, Nat.reduceSub, Nat.reduceLeDiff, Int.reduceToNat, Nat.reduceBEq]
      try rfl
    rw [← app_step hz] at hR
    have r1 : ((k : Int).tmod 10) = ((k % 10 : Nat) : Int) := by rw [show (10 : Int) = ((10 : Nat) : Int) by rfl, rem_nat]
    have r2 : IntKind.i64.wrap ((k : Int).tdiv 10) = ((k / 10 : Nat) : Int) := by rw [show (10 : Int) = ((10 : Nat) : Int) by rfl, ← Int.ofNat_tdiv, IntKind.wrap_i64]; omega
    have r3 : IntKind.i64.wrap (0 - ((k % 10 : Nat) : Int)) = -((k % 10 : Nat) : Int) := by rw [IntKind.wrap_i64]; omega
    have r4 : IntKind.i64.wrap (48 + ((k % 10 : Nat) : Int)) = ((48 + k % 10 : Nat) : Int) := by rw [IntKind.wrap_i64]; omega
    have r5 : max ((k % 10 : Nat) : Int) (-((k % 10 : Nat) : Int)) = ((k % 10 : Nat) : Int) := Int.max_eq_left (by omega)
    have hstep : vcL (kn m) [0, 3, 4] [] rdigits_l0 (blockK 0 (seqK (kn m) [0, 3] [] rdigits_k1 (outOk [.tmp 2] (S R)))) (mkS [(0, N n0), (3, S (UInt8.ofNat (48 + k % 10) :: t)), (4, N (k / 10))] []) := by
      refine ih _ _ ?_ (by omega) ?_ hR
      · rw [if_neg (by simp)]
        by_cases hk0 : k = 0
        · have ht0 : t = [] := Classical.byContradiction fun h => hz ⟨hk0, h⟩
          rw [if_pos ht0] at hn; omega
        · omega
      · simp only [List.length_cons]
        by_cases hk0 : k = 0
        · have ht0 : t = [] := Classical.byContradiction fun h => hz ⟨hk0, h⟩
          subst ht0; subst hk0; simp
        · omega
    by_cases hk0 : k = 0
    · have ht0 : t = [] := Classical.byContradiction fun h => hz ⟨hk0, h⟩
      subst hk0; subst ht0
      apply round
      simp only [rdigits_l0_w, rdigits_l0', ne_f (show ((0 : Nat) : Int) = 0 from rfl), go_sem, reduceCtorEq, Nat.reduceEqDiff, reduceIte, Nat.reduceAdd, Nat.reduceSub, Nat.reduceLeDiff, Int.reduceToNat, Nat.reduceBEq]
      simp only [r1, r2, r3, r5, r4, w_ofNat, go_sem, reduceCtorEq, Nat.reduceEqDiff, reduceIte, Nat.reduceAdd, Nat.reduceSub, Nat.reduceLeDiff, Int.reduceToNat, Nat.reduceBEq]
      refine ⟨fun _ => by omega, _, (bs_str [UInt8.ofNat (48 + 0 % 10)]).symm, by rw [str_size]; simp, fun _ => by omega, ?_⟩
      exact hstep
    · apply round
      simp only [rdigits_l0_w, rdigits_l0', ne_t (show (k : Int) ≠ 0 by omega), r1, r2, r3, r5, r4, w_ofNat, go_sem, reduceCtorEq, Nat.reduceEqDiff, reduceIte, Nat.reduceAdd, Nat.reduceSub, Nat.reduceLeDiff, Int.reduceToNat, Nat.reduceBEq]
      refine ⟨fun _ => by omega, _, (bs_str [UInt8.ofNat (48 + k % 10)]).symm, by rw [str_size]; simp only [List.length_cons, List.length_nil]; omega, fun _ => by omega, ?_⟩
      exact hstep
theorem rdigits_snd (n : Nat) (hn : n ≤ 4294960000) : Snd Tryd.prog (gl m) 63 [N n] (S (dec n)) := by
  refine snd_of (fn := Tryd.f63) (af := rdigits) Tryd.func63 (rdigits_comp m) mixed (kn_ok m) (Nat.le_of_ble_eq_true rfl) ?_
  have l := rdigits_loop (m := m) n (dec n) (n + 1) n [] (by simp) (by omega) (by simp; omega) (by rw [app, if_neg (by simp), List.append_nil])
  simp only [rdigits, go_sem, reduceCtorEq, Nat.reduceEqDiff, reduceIte, Nat.reduceAdd, Nat.reduceSub, Nat.reduceLeDiff, Int.reduceToNat, Nat.reduceBEq]
  exact l
theorem tab_pow {w : World} {zf : Nat → Nat → Prop} (h : TabsAt (gl m) w zf) : Lib.TabIs Tryd.prog w "internal/strconv.uint64pow10" .u64 Lib.pow10Tab := by
  have hg : Tryd.prog.globalNamed "internal/strconv.uint64pow10" = some 2 := by kernel_rfl
  have ht : (gl m).t 2 = some (Lib.pow10Tab.map (Value.int .u64)) := rfl
  have hl : (Lib.pow10Tab.map (Value.int .u64)).length = 20 := by rw [List.length_map, Lib.pow10Tab_length]
  obtain ⟨arr, e, fr, h1, h2⟩ := h.size _ _ ht (by rw [hl]; omega)
  have : arr = (Lib.pow10Tab.map (Value.int .u64)).toArray := by
    apply Array.ext'
    rw [List.toList_toArray]
    refine List.ext_getElem (by rw [Array.length_toList, h2]) fun i hi hj => ?_
    have hc := (h.cell _ _ ht i _ (List.getElem?_eq_getElem hj)).1
    simp only [World.cell?, h1] at hc
    have hc' : arr[i]? = some ((Lib.pow10Tab.map (Value.int .u64)).toArray.toList[i]) := hc
    rw [Array.getElem_toList]
    exact (Array.getElem?_eq_some_iff.1 hc').2
  simp only [Lib.TabIs, World.var?, hg, Option.bind_some, h1, this]
theorem itoa_snd (n : Nat) (hn : n ≤ 4294960000) : Snd Tryd.prog (gl m) 61 [N n] (S (dec n)) :=
  snd_below (us := [.int .i64 (n : Int)]) rfl fun w zf ht => (Tryd.strconv_Itoa (n : Int) (by omega) (by omega) w (tab_pow ht)).mono fun e w' ⟨h1, k, os, h2⟩ => ⟨by
    rw [h1, Lib.itoa, if_neg (by omega), Int.toNat_natCast]; rfl, by
    subst h2
    exact ⟨rfl, rfl, rfl, by show w.heap.size ≤ (w.heap ++ os).size; rw [Array.size_append]; omega, fun b hb => by
      show (w.heap ++ os)[b]? = w.heap[b]?
      rw [Array.getElem?_append_left hb]⟩⟩
end Go.Aw

