import Derived.Test.YtcahaecjjochbaaDoorEvC
import Derived.Test.YtcahaecjjochbaaDoorAtP
import Derived.Test.YtcahaecjjochbaaDoorSh
import Derived.Shelf.Strings.SlTrimAscii
import Derived.KernelRfl
set_option linter.unusedVariables false
set_option linter.unusedSimpArgs false
/- Rounds of a loop counted up; things fetched. -/
namespace Go.Ev
set_option linter.unusedVariables false
section
variable {C : Kn} {pl bl : List Nat} {c : AC} {K : Ex → St → Prop} {s : St}
theorem loop_inv (n : Nat) (st : Nat → St) (Inv : Nat → Prop) (hs : s = st 0) (h0 : Inv 0)
    (h : ∀ i, i ≤ n → Inv i → (i < n → Inv (i + 1) → vcL C pl bl c K (st (i + 1))) → vcC C c (loopK C pl bl c K) (st i)) : vcL C pl bl c K s := by
  subst hs
  have key : ∀ d i, i + d = n → Inv i → vcL C pl bl c K (st i) := by
    intro d
    induction d with
    | zero => intro i hi hI; exact round (h i (by omega) hI fun hl => by omega)
    | succ d ih => intro i hi hI; exact round (h i (by omega) hI fun _ hI' => ih (i + 1) (by omega) hI')
  exact key n 0 (by omega) h0
theorem loop_up (n : Nat) (st : Nat → St) (hs : s = st 0)
    (h : ∀ i, i ≤ n → (i < n → vcL C pl bl c K (st (i + 1))) → vcC C c (loopK C pl bl c K) (st i)) : vcL C pl bl c K s :=
  loop_inv n st (fun _ => True) hs trivial fun i hi _ ih => h i hi fun hl => ih hl trivial
end
section
variable {dst : Option (Nat × Bool)} {K : St → Prop} {s : St}
end
theorem take_snoc {α : Type} {l : List α} {i : Nat} (h : i < l.length) : l.take (i + 1) = l.take i ++ [l[i]] := by
  rw [List.take_add_one, List.getElem?_eq_getElem h]; rfl
def fe {α : Type} (f : α → List Value) (x : α) : AV := .agg ((f x).map .lit)
def fs {α : Type} (f : α → List Value) (l : List α) : List AV := l.map (fe f)
section
variable {α : Type} (f : α → List Value) (l : List α)
theorem map_lits (g : AV → AV) (hg : ∀ v, g (.lit v) = .lit v) (vs : List Value) : (vs.map AV.lit).map g = vs.map AV.lit := by
  rw [List.map_map]; exact List.map_congr_left fun v _ => hg v
theorem fs_map (g : AV → AV) (h : ∀ x, g (fe f x) = fe f x) : (fs f l).map g = fs f l := by
  rw [fs, List.map_map]; exact List.map_congr_left fun x _ => h x
theorem frnL_fs : frnL (fs f l) = fs f l := by rw [frnL_eq]; exact fs_map f l _ fun x => by rw [fe, frnD, frnL_eq, map_lits _ fun v => by rw [frnD]]
theorem roL_fs : roL (fs f l) = fs f l := by rw [roL_eq]; exact fs_map f l _ fun x => by rw [fe, roD, roL_eq, map_lits _ fun v => by rw [roD]; intro _ _ _ h; cases h; intro _ h; cases h; intro _ h; cases h]
theorem resL_fs : resL (fs f l) = fs f l := by rw [resL_eq]; exact fs_map f l _ fun x => by rw [fe, resD, resL_eq, map_lits _ fun v => by rw [resD]]
theorem passL_fs : passL (fs f l) = fs f l := by rw [passL_eq]; exact fs_map f l _ fun x => by rw [fe, passD, passL_eq, map_lits _ fun v => by rw [passD]]
theorem klL_fs (p : Bool → Ref → Bool) (ro : Bool) : klL p ro (fs f l) = fs f l := by rw [klL_eq]; exact fs_map f l _ fun x => by rw [fe, kl, klL_eq, map_lits _ fun v => by rw [kl]]
theorem trL_fs (ρ : Nat → Option Nat) (rf : Bool) : trL ρ rf (fs f l) = fs f l := by rw [trL_eq]; exact fs_map f l _ fun x => by rw [fe, tr, trL_eq, map_lits _ fun v => by rw [tr]]
theorem map_roD_fs : (fs f l).map roD = fs f l := by rw [← roL_eq, roL_fs]
theorem fs_length : (fs f l).length = l.length := by simp [fs]
theorem fs_get {i : Nat} (h : i < l.length) : (fs f l)[i]? = some (fe f l[i]) := by simp [fs, h]
theorem fs_snoc (x : α) : fs f l ++ [fe f x] = fs f (l ++ [x]) := by simp [fs]
end
end Go.Ev
namespace Go.At
open Go Go.Ev Go.Proofs
open Go.Ln (lines lf crlf binary idx idx_eq)
open Go.Gb (pieces splitK_pieces)
set_option linter.unusedVariables false
set_option linter.unusedSimpArgs false
def gl (m : Int) : Tabs := ⟨fun g => if g = 0 then some [.int .i64 m] else none, fun f => if f = 149 then some [.ptr, .ptr] else if f = 77 then some [.pass, .pass, .ptr] else none⟩
def kn (m : Int) : Kn := ⟨Snd Tryd.prog (gl m), SndG Tryd.prog (gl m), fun f => ∃ fn, Tryd.prog.funcs[f]? = some fn ∧ fn.body.isSome = true ∧ fn.name ≠ "runtime.NumGoroutine"⟩
theorem kn_ok (m : Int) : Kn.Ok Tryd.prog (gl m) (kn m) := ⟨fun _ _ _ h => h, fun _ _ _ _ _ h => h, fun _ h => h⟩
theorem tab0 {m : Int} {w : World} {zf : Nat → Nat → Prop} (h : TabsAt (gl m) w zf) : w.cell? ⟨0, 0, none⟩ = some (.int .i64 m) := (h.cell 0 [.int .i64 m] rfl 0 _ rfl).1
theorem mixed : Tryd.prog.follows .mixedOrders = true := by kernel_rfl
variable {m : Int}
theorem index1 (s : Bs) (c : UInt8) : Snd Tryd.prog (gl m) 86 [S s, S [c]] (I (Lib.indexByte s c)) :=
  snd_same (us := [.string (str s), .string (str [c])]) rfl fun w zf h => by
    have := Tryd.strings_Index_one (str s) c w
    rw [str_dataL] at this; exact this
theorem indexByte (s : Bs) (c : UInt8) : Snd Tryd.prog (gl m) 118 [S s, U8 c] (I (Lib.indexByte s c)) :=
  snd_same (us := [.string (str s), .int .u8 c.toNat]) rfl fun w zf h => by
    have := Tryd.strings_IndexByte (str s) (c.toNat : Int) w
    rw [str_dataL] at this
    simpa using this
theorem hasPrefix (s p : Bs) : Snd Tryd.prog (gl m) 87 [S s, S p] (B (Lib.hasPrefix s p)) :=
  snd_same (us := [.string (str s), .string (str p)]) rfl fun w zf h => by simpa only [str_dataL] using Tryd.strings_HasPrefix (str s) (str p) w
theorem trimSuffix (s p : Bs) (hs : s.length ≤ 4294967296) : Snd Tryd.prog (gl m) 65 [S s, S p] (S (Lib.trimSuffix s p)) :=
  snd_same (us := [.string (str s), .string (str p)]) rfl fun w zf h => by
    have := Tryd.strings_TrimSuffix (str s) (str p) w (by rw [str_size]; omega)
    simp only [str_dataL] at this; exact this
theorem replaceAll (s a b : Bs) (hs : s.length ≤ 1048576) (h1 : 1 ≤ a.length) (hlen : s.length + Lib.countB (str s) (str a) * b.length ≤ 140737488355328) : Snd Tryd.prog (gl m) 92 [S s, S a, S b] (S (Lib.replaceAll s a b)) :=
  snd_below (us := [.string (str s), .string (str a), .string (str b)]) rfl fun w zf h => by
    have := Tryd.strings_ReplaceAll (str s) (str a) (str b) m w (by rw [str_size]; omega) (tab0 h) (by rw [str_size]; exact h1) (by rw [str_size, str_size]; exact hlen)
    simp only [str_dataL] at this; exact this
end Go.At
namespace Go.Ln
open Go.At (gl kn kn_ok tab0 mixed index1 indexByte hasPrefix trimSuffix replaceAll)
open Go Go.Ev Go.Proofs
set_option linter.unusedVariables false
set_option linter.unusedSimpArgs false
attribute [local go_sem] eqs implies_true List.map_cons List.map_nil kl klL roD roL Option.map_some Option.map_none Option.getD_some Option.getD_none binVal binObl unVal if_true if_false eq_self passA frnD resD content getH getR getW viaNot viaSlot viaBox viaDeep viaMem List.contains_cons List.contains_nil grabs peeks okCells isCell place cellsOf chunk elt List.headD_cons List.length_cons List.length_nil List.take_succ_cons List.take_zero List.drop_succ_cons List.drop_zero List.nil_append List.cons_append List.append_nil List.all_cons List.all_nil plainC takeR setW over reCell List.getElem?_cons_zero List.getElem?_cons_succ List.set_cons_zero List.take_length outV resG plainV pack outVG outBx List.set_cons_succ Ref.idx Ref.addOff beq_self_eq_true bxL Option.bind_some writeR isLit viaBoxes capsPA boxPA nsOf noDup boxesAt argG passG passD rhoIn rhoOut idxIn tr trL List.getD_cons_zero gives pasOf isPtr Ins.d List.getD_cons_succ resL frnL
variable {m : Int}
def psplit_l0' : AC := .seq (.seq (.reg (.seq [⟨some (5, false), none, .mov (.tmp 0 true) .peek⟩,⟨some (6, false), none, .bin .neq (.tmp 5 false) (.cst (.string (str [])) (.lit (.string (str []))))⟩])) [0, 3, 6] []
  (.cond (.tmp 6 false)
    (.skip)
    (.exit 0))) [0, 3] []
  (.block 1 (.seq (.reg (.seq [⟨some (7, false), none, .mov (.tmp 0 true) .peek⟩,⟨some (8, false), none, .call 86 [.tmp 7 false, (.cst (.string (str [10])) (.lit (.string (str [10]))))]⟩,⟨some (9, false), none, .bin .add (.tmp 8 false) (.cst (.int .i64 1) (.lit (.int .i64 1)))⟩,⟨some (4, true), none, .mov (.tmp 9 false) .asg⟩])) [0, 3, 4] []
    (.seq (.seq (.reg (.seq [⟨some (10, false), none, .mov (.tmp 4 true) .peek⟩,⟨some (11, false), none, .bin .eql (.tmp 10 false) (.cst (.int .i64 0) (.lit (.int .i64 0)))⟩])) [0, 3, 4, 11] []
    (.cond (.tmp 11 false)
      (.reg (.seq [⟨some (12, false), none, .mov (.tmp 0 true) .peek⟩,⟨some (13, false), none, .len (.tmp 12 false)⟩,⟨some (4, true), none, .mov (.tmp 13 false) .asg⟩]))
      (.skip))) [0, 3, 4] []
    (.seq (.reg (.seq [⟨some (14, false), none, .mov (.tmp 3 true) .take⟩,⟨some (15, false), none, .mov (.tmp 0 true) .peek⟩,⟨some (16, false), none, .mov (.tmp 4 true) .peek⟩,⟨some (17, false), none, .sub (.tmp 15 false) none (some (.tmp 16 false))⟩,⟨some (18, false), none, .buildS 1 1 [(.lit (.string (str [])))] [(0, 1, (.tmp 17 false))]⟩,⟨some (19, false), none, .app 1 16 (.tmp 14 false) (.tmp 18 false)⟩,⟨some (3, true), none, .mov (.tmp 19 false) .asg⟩])) [0, 3, 4] []
    (.reg (.seq [⟨some (20, false), none, .mov (.tmp 0 true) .peek⟩,⟨some (21, false), none, .mov (.tmp 4 true) .peek⟩,⟨some (22, false), none, .sub (.tmp 20 false) (some (.tmp 21 false)) none⟩,⟨some (0, true), none, .mov (.tmp 22 false) .asg⟩]))))))
def psplit_l0 : AC := psplit_l0'
theorem psplit_l0_w (C : Kn) (K : Ex → St → Prop) (s : St) : vcC C psplit_l0 K s = vcC C psplit_l0' K s := nr rfl
def psplit_k1' : AC := .seq (.reg (.seq [⟨some (23, false), none, .mov (.tmp 3 true) .take⟩,⟨some (2, true), none, .mov (.tmp 23 false) .asg⟩])) [2, 3] []
  (.ret)
def psplit_k1 : AC := psplit_k1'
theorem psplit_k1_w (C : Kn) (K : Ex → St → Prop) (s : St) : vcC C psplit_k1 K s = vcC C psplit_k1' K s := nr rfl
def psplit : AF := ⟨.seq (.reg (.seq [⟨some (2, true), none, .mov (.cst (.slice none 0 0) (.sl .own 1 [])) .asg⟩])) [0] []
  (.seq (.reg (.seq [⟨some (3, true), none, .mov (.cst (.slice none 0 0) (.sl .own 1 [])) .asg⟩])) [0, 3] []
  (.seq (.block 0 (.loop [0, 3] [] psplit_l0)) [3] [] psplit_k1)),
  [.tmp 2]⟩
theorem psplit_comp (m : Int) : compF Tryd.prog (gl m) [] Tryd.f49 = some psplit := by kernel_rfl
def rsplit_l0' : AC := .seq (.reg (.seq [⟨some (9, false), none, .bin .lss (.tmp 8 true) (.tmp 7 true)⟩])) [0, 3, 4, 7, 8, 9] []
  (.seq (.cond (.tmp 9 false)
    (.skip)
    (.exit 0)) [0, 3, 4, 7, 8] []
  (.seq (.block 1 (.seq (.reg (.seq [⟨some (10, false), none, .mov (.tmp 8 true) .take⟩,⟨some (5, true), none, .mov (.tmp 10 false) .asg⟩])) [0, 3, 4, 5, 7, 8] []
    (.seq (.reg (.seq [⟨some (11, false), none, .mov (.tmp 0 true) .peek⟩,⟨some (12, false), none, .mov (.tmp 5 true) .peek⟩,⟨some (13, false), none, .idx (.tmp 11 false) (.tmp 12 false)⟩,⟨some (14, false), none, .bin .eql (.tmp 13 false) (.cst (.int .u8 10) (.lit (.int .u8 10)))⟩])) [0, 3, 4, 5, 7, 8, 14] []
    (.cond (.tmp 14 false)
      (.seq (.reg (.seq [⟨some (15, false), none, .mov (.tmp 3 true) .take⟩,⟨some (16, false), none, .mov (.tmp 0 true) .peek⟩,⟨some (17, false), none, .mov (.tmp 4 true) .peek⟩,⟨some (18, false), none, .mov (.tmp 5 true) .peek⟩,⟨some (19, false), none, .bin .add (.tmp 18 false) (.cst (.int .i64 1) (.lit (.int .i64 1)))⟩,⟨some (20, false), none, .sub (.tmp 16 false) (some (.tmp 17 false)) (some (.tmp 19 false))⟩,⟨some (21, false), none, .buildS 1 1 [(.lit (.string (str [])))] [(0, 1, (.tmp 20 false))]⟩,⟨some (22, false), none, .app 1 16 (.tmp 15 false) (.tmp 21 false)⟩,⟨some (3, true), none, .mov (.tmp 22 false) .asg⟩])) [0, 3, 5, 7, 8] []
      (.reg (.seq [⟨some (23, false), none, .mov (.tmp 5 true) .peek⟩,⟨some (24, false), none, .bin .add (.tmp 23 false) (.cst (.int .i64 1) (.lit (.int .i64 1)))⟩,⟨some (4, true), none, .mov (.tmp 24 false) .asg⟩])))
      (.skip))))) [0, 3, 4, 7, 8] []
  (.reg (.seq [⟨some (25, false), none, .bin .add (.tmp 8 true) (.cst (.int .i64 1) (.lit (.int .i64 1)))⟩,⟨some (8, true), none, .mov (.tmp 25 false) .peek⟩]))))
def rsplit_l0 : AC := rsplit_l0'
theorem rsplit_l0_w (C : Kn) (K : Ex → St → Prop) (s : St) : vcC C rsplit_l0 K s = vcC C rsplit_l0' K s := nr rfl
def rsplit_k1' : AC := .seq (.seq (.reg (.seq [⟨some (26, false), none, .mov (.tmp 4 true) .peek⟩,⟨some (27, false), none, .mov (.tmp 0 true) .peek⟩,⟨some (28, false), none, .len (.tmp 27 false)⟩,⟨some (29, false), none, .bin .lss (.tmp 26 false) (.tmp 28 false)⟩])) [0, 3, 4, 29] []
  (.cond (.tmp 29 false)
    (.reg (.seq [⟨some (30, false), none, .mov (.tmp 3 true) .take⟩,⟨some (31, false), none, .mov (.tmp 0 true) .peek⟩,⟨some (32, false), none, .mov (.tmp 4 true) .peek⟩,⟨some (33, false), none, .sub (.tmp 31 false) (some (.tmp 32 false)) none⟩,⟨some (34, false), none, .buildS 1 1 [(.lit (.string (str [])))] [(0, 1, (.tmp 33 false))]⟩,⟨some (35, false), none, .app 1 16 (.tmp 30 false) (.tmp 34 false)⟩,⟨some (3, true), none, .mov (.tmp 35 false) .asg⟩]))
    (.skip))) [3] []
  (.seq (.reg (.seq [⟨some (36, false), none, .mov (.tmp 3 true) .take⟩,⟨some (2, true), none, .mov (.tmp 36 false) .asg⟩])) [2, 3] []
  (.ret))
def rsplit_k1 : AC := rsplit_k1'
theorem rsplit_k1_w (C : Kn) (K : Ex → St → Prop) (s : St) : vcC C rsplit_k1 K s = vcC C rsplit_k1' K s := nr rfl
def rsplit : AF := ⟨.seq (.reg (.seq [⟨some (2, true), none, .mov (.cst (.slice none 0 0) (.sl .own 1 [])) .asg⟩])) [0] []
  (.seq (.reg (.seq [⟨some (3, true), none, .mov (.cst (.slice none 0 0) (.sl .own 1 [])) .asg⟩])) [0, 3] []
  (.seq (.reg (.seq [⟨some (4, true), none, .mov (.cst (.int .i64 0) (.lit (.int .i64 0))) .asg⟩])) [0, 3, 4] []
  (.seq (.seq (.reg (.seq [⟨some (6, false), none, .mov (.tmp 0 true) .peek⟩,⟨some (7, true), none, .len (.tmp 6 false)⟩,⟨some (8, true), none, .mov (.cst (.int .i64 0) (.lit (.int .i64 0))) .peek⟩])) [0, 3, 4, 7, 8] []
  (.block 0 (.loop [0, 3, 4, 7, 8] [] rsplit_l0))) [0, 3, 4] [] rsplit_k1))),
  [.tmp 2]⟩
theorem rsplit_comp (m : Int) : compF Tryd.prog (gl m) [] Tryd.f67 = some rsplit := by kernel_rfl
theorem psplit_loop (n : Nat) : ∀ (s : Bs) (hn : s.length = n) (acc : List Bs) (ha : acc.length + s.length ≤ 1048576),
    vcL (kn m) [0, 3] [] psplit_l0 (blockK 0 (seqK (kn m) [3] [] psplit_k1 (outOk [.tmp 2] (.sl .own 1 (ss (acc ++ lines s)))))) (mkS [(0, S s), (3, .sl .own 1 (ss acc))] []) := by
  induction n using Nat.strongRecOn with
  | _ n ih =>
  intro s hn acc ha
  apply round
  simp only [psplit_l0_w, psplit_l0', go_sem, reduceCtorEq, Nat.reduceEqDiff, reduceIte, Nat.reduceAdd, Nat.reduceSub, Nat.reduceLeDiff, Int.reduceToNat, Nat.reduceBEq]
  refine split_c (fun h => ?_) (fun h => ?_)
  · have hne : s ≠ [] := by simpa using h
    have hpos : 0 < s.length := by cases s; exact absurd rfl hne; simp
    simp only [go_sem, reduceCtorEq, Nat.reduceEqDiff, reduceIte, Nat.reduceAdd, Nat.reduceSub, Nat.reduceLeDiff, Int.reduceToNat, Nat.reduceBEq]
    refine of_call (index1 s 10) ?_
    simp only [idx_eq]
    cases hi : idx s 10 with
    | none =>
      simp only [Int.reduceNeg, go_sem, reduceCtorEq, Nat.reduceEqDiff, reduceIte, Nat.reduceAdd, Nat.reduceSub, Nat.reduceLeDiff, Int.reduceToNat, Nat.reduceBEq]
      rw [show IntKind.i64.wrap (-1 + 1) = 0 from rfl]
      simp only [BEq.rfl, go_sem, reduceCtorEq, Nat.reduceEqDiff, reduceIte, Nat.reduceAdd, Nat.reduceSub, Nat.reduceLeDiff, Int.reduceToNat, Nat.reduceBEq]
      repeat (refine ⟨by (try simp only [List.length_append, List.length_cons, List.length_nil, List.length_drop, List.length_take]); omega, ?_⟩)
      have := ih 0 (by omega) [] rfl (acc ++ [s]) (by simp; omega)
      rw [lines_none hi hne]
      simpa [lines] using this
    | some k =>
      have hm := idx_lt hi
      simp only [go_sem, reduceCtorEq, Nat.reduceEqDiff, reduceIte, Nat.reduceAdd, Nat.reduceSub, Nat.reduceLeDiff, Int.reduceToNat, Nat.reduceBEq]
      rw [wrapN (k + 1) (by omega) (by omega), show (((k + 1 : Nat) : Int) == 0) = false by simp; omega]
      simp only [go_sem, reduceCtorEq, Nat.reduceEqDiff, reduceIte, Nat.reduceAdd, Nat.reduceSub, Nat.reduceLeDiff, Int.reduceToNat, Nat.reduceBEq]
      repeat (refine ⟨by (try simp only [List.length_append, List.length_cons, List.length_nil, List.length_drop, List.length_take]); omega, ?_⟩)
      have := ih (s.length - (k + 1)) (by omega) (s.drop (k + 1)) (by simp) (acc ++ [s.take (k + 1)]) (by simp; omega)
      rw [lines_some hi]
      simpa using this
  · have : s = [] := by simpa using h
    subst this
    simp only [psplit_k1_w, psplit_k1', go_sem, reduceCtorEq, Nat.reduceEqDiff, reduceIte, Nat.reduceAdd, Nat.reduceSub, Nat.reduceLeDiff, Int.reduceToNat, Nat.reduceBEq, lines]
theorem psplit_snd (s : Bs) (hs : s.length ≤ 1048576) : Snd Tryd.prog (gl m) 49 [S s] (.sl .own 1 (ss (lines s))) := by
  refine snd_of (fn := Tryd.f49) (af := psplit) Tryd.func49 (psplit_comp m) mixed (kn_ok m) (Nat.le_of_ble_eq_true rfl) ?_
  simp only [psplit, go_sem, reduceCtorEq, Nat.reduceEqDiff, reduceIte, Nat.reduceAdd, Nat.reduceSub, Nat.reduceLeDiff, Int.reduceToNat, Nat.reduceBEq]
  exact psplit_loop _ s rfl [] (by simpa using hs)
theorem drop_drop_ (s : Bs) (a b : Nat) : (s.drop a).drop b = s.drop (a + b) := by rw [List.drop_drop]
theorem take_drop_ (s : Bs) (a b : Nat) : (s.take b).drop a = (s.drop a).take (b - a) := by rw [List.drop_take]
theorem rsplit_loop (s : Bs) (hs : s.length ≤ 1048576) (n : Nat) : ∀ (i k : Nat) (hn : s.length - i = n) (hki : k ≤ i) (hi : i ≤ s.length) (hno : ∀ j, k ≤ j → j < i → s[j]? ≠ some 10) (acc : List Bs) (ha : acc.length ≤ k),
    vcL (kn m) [0, 3, 4, 7, 8] [] rsplit_l0 (blockK 0 (seqK (kn m) [0, 3, 4] [] rsplit_k1 (outOk [.tmp 2] (.sl .own 1 (ss (acc ++ lines (s.drop k))))))) (mkS [(0, S s), (3, .sl .own 1 (ss acc)), (4, N k), (7, N s.length), (8, N i)] []) := by
  induction n with
  | zero =>
    intro i k hn hki hi hno acc ha
    have hil : i = s.length := by omega
    subst hil
    apply round
    simp only [rsplit_l0_w, rsplit_l0', go_sem, reduceCtorEq, Nat.reduceEqDiff, reduceIte, Nat.reduceAdd, Nat.reduceSub, Nat.reduceLeDiff, Int.reduceToNat, Nat.reduceBEq]
    rw [show decide ((s.length : Int) < s.length) = false by simp]
    simp only [rsplit_k1_w, rsplit_k1', go_sem, reduceCtorEq, Nat.reduceEqDiff, reduceIte, Nat.reduceAdd, Nat.reduceSub, Nat.reduceLeDiff, Int.reduceToNat, Nat.reduceBEq]
    refine split_c (fun h => ?_) (fun h => ?_)
    · have hk : k < s.length := by simpa using h
      simp only [go_sem, reduceCtorEq, Nat.reduceEqDiff, reduceIte, Nat.reduceAdd, Nat.reduceSub, Nat.reduceLeDiff, Int.reduceToNat, Nat.reduceBEq]
      repeat (refine ⟨by (try simp only [List.length_append, List.length_cons, List.length_nil, List.length_drop, List.length_take]); omega, ?_⟩)
      have hne : s.drop k ≠ [] := by intro e; have := congrArg List.length e; simp at this; omega
      have : idx (s.drop k) 10 = none := idx_none fun j hj => by rw [List.getElem?_drop]; exact hno _ (by omega) (by simp at hj; omega)
      rw [lines_none this hne]
    · have hk : k = s.length := by have : ¬ k < s.length := by simpa using h
                                   omega
      subst hk
      simp only [go_sem, reduceCtorEq, Nat.reduceEqDiff, reduceIte, Nat.reduceAdd, Nat.reduceSub, Nat.reduceLeDiff, Int.reduceToNat, Nat.reduceBEq]
      simp [lines]
  | succ n ih =>
    intro i k hn hki hi hno acc ha
    have hil : i < s.length := by omega
    apply round
    simp only [rsplit_l0_w, rsplit_l0', go_sem, reduceCtorEq, Nat.reduceEqDiff, reduceIte, Nat.reduceAdd, Nat.reduceSub, Nat.reduceLeDiff, Int.reduceToNat, Nat.reduceBEq]
    rw [show decide ((i : Int) < s.length) = true by simpa using hil]
    simp only [go_sem, reduceCtorEq, Nat.reduceEqDiff, reduceIte, Nat.reduceAdd, Nat.reduceSub, Nat.reduceLeDiff, Int.reduceToNat, Nat.reduceBEq]
    repeat (refine ⟨by (try simp only [List.length_append, List.length_cons, List.length_nil, List.length_drop, List.length_take]); omega, ?_⟩)
    simp only [getE hil, go_sem, reduceCtorEq, Nat.reduceEqDiff, reduceIte, Nat.reduceAdd, Nat.reduceSub, Nat.reduceLeDiff, Int.reduceToNat, Nat.reduceBEq]
    refine split_c (fun h => ?_) (fun h => ?_)
    · have hc : s[i] = 10 := u8_t h rfl
      simp only [go_sem, reduceCtorEq, Nat.reduceEqDiff, reduceIte, Nat.reduceAdd, Nat.reduceSub, Nat.reduceLeDiff, Int.reduceToNat, Nat.reduceBEq]
      rw [wrapN (i + 1) (by omega) (by omega)]
      simp only [go_sem, reduceCtorEq, Nat.reduceEqDiff, reduceIte, Nat.reduceAdd, Nat.reduceSub, Nat.reduceLeDiff, Int.reduceToNat, Nat.reduceBEq]
      repeat (refine ⟨by (try simp only [List.length_append, List.length_cons, List.length_nil, List.length_drop, List.length_take]); omega, ?_⟩)
      have hidx : idx (s.drop k) 10 = some (i - k) := idx_of (by rw [List.getElem?_drop, show k + (i - k) = i by omega, getE hil, hc]) fun j hj => by rw [List.getElem?_drop]; exact hno _ (by omega) (by omega)
      have := ih (i + 1) (i + 1) (by omega) (by omega) (by omega) (fun j h1 h2 => by omega) (acc ++ [(s.take (i + 1)).drop k]) (by simp; omega)
      rw [lines_some hidx, drop_drop_, show k + (i - k + 1) = i + 1 by omega]
      rw [take_drop_, show i + 1 - k = i - k + 1 by omega] at this ⊢
      simp only [List.append_assoc, List.cons_append, List.nil_append] at this ⊢
      exact this
    · have hc : s[i] ≠ 10 := u8_f h rfl
      simp only [go_sem, reduceCtorEq, Nat.reduceEqDiff, reduceIte, Nat.reduceAdd, Nat.reduceSub, Nat.reduceLeDiff, Int.reduceToNat, Nat.reduceBEq]
      rw [wrapN (i + 1) (by omega) (by omega)]
      exact ih (i + 1) k (by omega) (by omega) (by omega) (fun j h1 h2 => by
        by_cases e : j = i
        · subst e; rw [getE hil]; simpa using hc
        · exact hno j h1 (by omega)) acc ha
theorem rsplit_snd (s : Bs) (hs : s.length ≤ 1048576) : Snd Tryd.prog (gl m) 67 [S s] (.sl .own 1 (ss (lines s))) := by
  refine snd_of (fn := Tryd.f67) (af := rsplit) Tryd.func67 (rsplit_comp m) mixed (kn_ok m) (Nat.le_of_ble_eq_true rfl) ?_
  simp only [rsplit, go_sem, reduceCtorEq, Nat.reduceEqDiff, reduceIte, Nat.reduceAdd, Nat.reduceSub, Nat.reduceLeDiff, Int.reduceToNat, Nat.reduceBEq]
  exact rsplit_loop s hs _ 0 0 rfl (by omega) (by omega) (fun j h1 h2 => by omega) [] (by simp)
end Go.Ln
namespace Go.Ln
open Go.At (gl kn kn_ok tab0 mixed index1 indexByte hasPrefix trimSuffix replaceAll)
open Go Go.Ev Go.Proofs
set_option linter.unusedVariables false
set_option linter.unusedSimpArgs false
attribute [local go_sem] eqs implies_true List.map_cons List.map_nil kl klL roD roL Option.map_some Option.map_none Option.getD_some Option.getD_none binVal binObl unVal if_true if_false eq_self passA frnD resD content getH getR getW viaNot viaSlot viaBox viaDeep viaMem List.contains_cons List.contains_nil grabs peeks okCells isCell place cellsOf chunk elt List.headD_cons List.length_cons List.length_nil List.take_succ_cons List.take_zero List.drop_succ_cons List.drop_zero List.nil_append List.cons_append List.append_nil List.all_cons List.all_nil plainC takeR setW over reCell List.getElem?_cons_zero List.getElem?_cons_succ List.set_cons_zero List.take_length outV resG plainV pack outVG outBx List.set_cons_succ Ref.idx Ref.addOff beq_self_eq_true bxL Option.bind_some writeR isLit viaBoxes capsPA boxPA nsOf noDup boxesAt argG passG passD rhoIn rhoOut idxIn tr trL List.getD_cons_zero gives pasOf isPtr Ins.d List.getD_cons_succ resL frnL
variable {m : Int}
theorem bs_13 (l : Bs) : bs l ++ [.lit (.int .u8 13)] = bs (l ++ [13]) := bs_lit l rfl
def tocrlf_l0' : AC := .seq (.reg (.seq [⟨some (11, false), none, .bin .lss (.tmp 10 true) (.tmp 9 true)⟩])) [0, 3, 9, 10, 11] []
  (.seq (.cond (.tmp 11 false)
    (.skip)
    (.exit 0)) [0, 3, 9, 10] []
  (.seq (.block 1 (.seq (.reg (.seq [⟨some (12, false), none, .mov (.tmp 10 true) .take⟩,⟨some (4, true), none, .mov (.tmp 12 false) .asg⟩])) [0, 3, 4, 9, 10] []
    (.seq (.seq (.reg (.seq [⟨some (13, false), none, .mov (.tmp 0 true) .peek⟩,⟨some (14, false), none, .mov (.tmp 4 true) .peek⟩,⟨some (15, false), none, .idx (.tmp 13 false) (.tmp 14 false)⟩,⟨some (16, false), none, .bin .eql (.tmp 15 false) (.cst (.int .u8 10) (.lit (.int .u8 10)))⟩,⟨some (17, false), none, .mov (.tmp 16 false) .peek⟩,⟨some (18, false), (some (17, true)), .mov (.tmp 4 true) .peek⟩,⟨some (19, false), (some (17, true)), .bin .eql (.tmp 18 false) (.cst (.int .i64 0) (.lit (.int .i64 0)))⟩,⟨some (20, false), (some (17, true)), .mov (.tmp 19 false) .peek⟩,⟨some (21, false), (some (20, false)), .mov (.tmp 0 true) .peek⟩,⟨some (22, false), (some (20, false)), .mov (.tmp 4 true) .peek⟩,⟨some (23, false), (some (20, false)), .bin .sub (.tmp 22 false) (.cst (.int .i64 1) (.lit (.int .i64 1)))⟩,⟨some (24, false), (some (20, false)), .idx (.tmp 21 false) (.tmp 23 false)⟩,⟨some (25, false), (some (20, false)), .bin .neq (.tmp 24 false) (.cst (.int .u8 13) (.lit (.int .u8 13)))⟩,⟨some (26, false), (some (17, true)), .pick (.tmp 20 false) (.cst (.bool true) (.lit (.bool true))) (.tmp 25 false)⟩,⟨some (27, false), none, .pick (.tmp 17 false) (.tmp 26 false) (.cst (.bool false) (.lit (.bool false)))⟩])) [0, 3, 4, 9, 10, 27] []
    (.cond (.tmp 27 false)
      (.reg (.seq [⟨some (28, false), none, .mov (.tmp 3 true) .take⟩,⟨some (29, false), none, .buildS 1 1 [(.lit (.int .u8 0))] [(0, 1, (.cst (.int .u8 13) (.lit (.int .u8 13))))]⟩,⟨some (30, false), none, .app 1 1 (.tmp 28 false) (.tmp 29 false)⟩,⟨some (3, true), none, .mov (.tmp 30 false) .asg⟩]))
      (.skip))) [0, 3, 4, 9, 10] []
    (.reg (.seq [⟨some (31, false), none, .mov (.tmp 3 true) .take⟩,⟨some (32, false), none, .mov (.tmp 0 true) .peek⟩,⟨some (33, false), none, .mov (.tmp 4 true) .peek⟩,⟨some (34, false), none, .idx (.tmp 32 false) (.tmp 33 false)⟩,⟨some (35, false), none, .buildS 1 1 [(.lit (.int .u8 0))] [(0, 1, (.tmp 34 false))]⟩,⟨some (36, false), none, .app 1 1 (.tmp 31 false) (.tmp 35 false)⟩,⟨some (3, true), none, .mov (.tmp 36 false) .asg⟩]))))) [0, 3, 9, 10] []
  (.reg (.seq [⟨some (37, false), none, .bin .add (.tmp 10 true) (.cst (.int .i64 1) (.lit (.int .i64 1)))⟩,⟨some (10, true), none, .mov (.tmp 37 false) .peek⟩]))))
def tocrlf_l0 : AC := tocrlf_l0'
theorem tocrlf_l0_w (C : Kn) (K : Ex → St → Prop) (s : St) : vcC C tocrlf_l0 K s = vcC C tocrlf_l0' K s := nr rfl
def tocrlf_k1' : AC := .seq (.reg (.seq [⟨some (38, false), none, .mov (.tmp 3 true) .peek⟩,⟨some (39, false), none, .b2s (.tmp 38 false)⟩,⟨some (2, true), none, .mov (.tmp 39 false) .asg⟩])) [2] []
  (.ret)
def tocrlf_k1 : AC := tocrlf_k1'
theorem tocrlf_k1_w (C : Kn) (K : Ex → St → Prop) (s : St) : vcC C tocrlf_k1 K s = vcC C tocrlf_k1' K s := nr rfl
def tocrlf : AF := ⟨.seq (.reg (.seq [⟨some (2, true), none, .mov (.cst (.string (str [])) (.lit (.string (str [])))) .asg⟩])) [0] []
  (.seq (.reg (.seq [⟨some (5, false), none, .mov (.tmp 0 true) .peek⟩,⟨some (6, false), none, .len (.tmp 5 false)⟩,⟨some (7, false), none, .mkS 1 1 [(.lit (.int .u8 0))] (.cst (.int .i64 0) (.lit (.int .i64 0))) (.tmp 6 false)⟩,⟨some (3, true), none, .mov (.tmp 7 false) .asg⟩])) [0, 3] []
  (.seq (.seq (.reg (.seq [⟨some (8, false), none, .mov (.tmp 0 true) .peek⟩,⟨some (9, true), none, .len (.tmp 8 false)⟩,⟨some (10, true), none, .mov (.cst (.int .i64 0) (.lit (.int .i64 0))) .peek⟩])) [0, 3, 9, 10] []
  (.block 0 (.loop [0, 3, 9, 10] [] tocrlf_l0))) [3] [] tocrlf_k1)),
  [.tmp 2]⟩
theorem tocrlf_comp (m : Int) : compF Tryd.prog (gl m) [] Tryd.f58 = some tocrlf := by kernel_rfl
def rcrlf_l0' : AC := .seq (.reg (.seq [⟨some (8, false), none, .bin .lss (.tmp 7 true) (.tmp 6 true)⟩])) [0, 3, 6, 7, 8] []
  (.seq (.cond (.tmp 8 false)
    (.skip)
    (.exit 0)) [0, 3, 6, 7] []
  (.seq (.block 1 (.seq (.reg (.seq [⟨some (9, false), none, .mov (.tmp 7 true) .take⟩,⟨some (4, true), none, .mov (.tmp 9 false) .asg⟩])) [0, 3, 4, 6, 7] []
    (.seq (.seq (.reg (.seq [⟨some (10, false), none, .mov (.tmp 0 true) .peek⟩,⟨some (11, false), none, .mov (.tmp 4 true) .peek⟩,⟨some (12, false), none, .idx (.tmp 10 false) (.tmp 11 false)⟩,⟨some (13, false), none, .bin .eql (.tmp 12 false) (.cst (.int .u8 10) (.lit (.int .u8 10)))⟩,⟨some (14, false), none, .mov (.tmp 13 false) .peek⟩,⟨some (15, false), (some (14, true)), .mov (.tmp 4 true) .peek⟩,⟨some (16, false), (some (14, true)), .bin .eql (.tmp 15 false) (.cst (.int .i64 0) (.lit (.int .i64 0)))⟩,⟨some (17, false), (some (14, true)), .mov (.tmp 16 false) .peek⟩,⟨some (18, false), (some (17, false)), .mov (.tmp 0 true) .peek⟩,⟨some (19, false), (some (17, false)), .mov (.tmp 4 true) .peek⟩,⟨some (20, false), (some (17, false)), .bin .sub (.tmp 19 false) (.cst (.int .i64 1) (.lit (.int .i64 1)))⟩,⟨some (21, false), (some (17, false)), .idx (.tmp 18 false) (.tmp 20 false)⟩,⟨some (22, false), (some (17, false)), .bin .neq (.tmp 21 false) (.cst (.int .u8 13) (.lit (.int .u8 13)))⟩,⟨some (23, false), (some (14, true)), .pick (.tmp 17 false) (.cst (.bool true) (.lit (.bool true))) (.tmp 22 false)⟩,⟨some (24, false), none, .pick (.tmp 14 false) (.tmp 23 false) (.cst (.bool false) (.lit (.bool false)))⟩])) [0, 3, 4, 6, 7, 24] []
    (.cond (.tmp 24 false)
      (.reg (.seq [⟨some (25, false), none, .mov (.tmp 3 true) .take⟩,⟨some (26, false), none, .buildS 1 1 [(.lit (.int .u8 0))] [(0, 1, (.cst (.int .u8 13) (.lit (.int .u8 13))))]⟩,⟨some (27, false), none, .app 1 1 (.tmp 25 false) (.tmp 26 false)⟩,⟨some (3, true), none, .mov (.tmp 27 false) .asg⟩]))
      (.skip))) [0, 3, 4, 6, 7] []
    (.reg (.seq [⟨some (28, false), none, .mov (.tmp 3 true) .take⟩,⟨some (29, false), none, .mov (.tmp 0 true) .peek⟩,⟨some (30, false), none, .mov (.tmp 4 true) .peek⟩,⟨some (31, false), none, .idx (.tmp 29 false) (.tmp 30 false)⟩,⟨some (32, false), none, .buildS 1 1 [(.lit (.int .u8 0))] [(0, 1, (.tmp 31 false))]⟩,⟨some (33, false), none, .app 1 1 (.tmp 28 false) (.tmp 32 false)⟩,⟨some (3, true), none, .mov (.tmp 33 false) .asg⟩]))))) [0, 3, 6, 7] []
  (.reg (.seq [⟨some (34, false), none, .bin .add (.tmp 7 true) (.cst (.int .i64 1) (.lit (.int .i64 1)))⟩,⟨some (7, true), none, .mov (.tmp 34 false) .peek⟩]))))
def rcrlf_l0 : AC := rcrlf_l0'
theorem rcrlf_l0_w (C : Kn) (K : Ex → St → Prop) (s : St) : vcC C rcrlf_l0 K s = vcC C rcrlf_l0' K s := nr rfl
def rcrlf_k1' : AC := .seq (.reg (.seq [⟨some (35, false), none, .mov (.tmp 3 true) .peek⟩,⟨some (36, false), none, .b2s (.tmp 35 false)⟩,⟨some (2, true), none, .mov (.tmp 36 false) .asg⟩])) [2] []
  (.ret)
def rcrlf_k1 : AC := rcrlf_k1'
theorem rcrlf_k1_w (C : Kn) (K : Ex → St → Prop) (s : St) : vcC C rcrlf_k1 K s = vcC C rcrlf_k1' K s := nr rfl
def rcrlf : AF := ⟨.seq (.reg (.seq [⟨some (2, true), none, .mov (.cst (.string (str [])) (.lit (.string (str [])))) .asg⟩])) [0] []
  (.seq (.reg (.seq [⟨some (3, true), none, .mov (.cst (.slice none 0 0) (.sl .own 1 [])) .asg⟩])) [0, 3] []
  (.seq (.seq (.reg (.seq [⟨some (5, false), none, .mov (.tmp 0 true) .peek⟩,⟨some (6, true), none, .len (.tmp 5 false)⟩,⟨some (7, true), none, .mov (.cst (.int .i64 0) (.lit (.int .i64 0))) .peek⟩])) [0, 3, 6, 7] []
  (.block 0 (.loop [0, 3, 6, 7] [] rcrlf_l0))) [3] [] rcrlf_k1)),
  [.tmp 2]⟩
theorem rcrlf_comp (m : Int) : compF Tryd.prog (gl m) [] Tryd.f62 = some rcrlf := by kernel_rfl
def rlf_l0' : AC := .seq (.reg (.seq [⟨some (8, false), none, .bin .lss (.tmp 7 true) (.tmp 6 true)⟩])) [0, 3, 6, 7, 8] []
  (.seq (.cond (.tmp 8 false)
    (.skip)
    (.exit 0)) [0, 3, 6, 7] []
  (.seq (.block 1 (.seq (.reg (.seq [⟨some (9, false), none, .mov (.tmp 7 true) .take⟩,⟨some (4, true), none, .mov (.tmp 9 false) .asg⟩])) [0, 3, 4, 6, 7] []
    (.seq (.reg (.seq [⟨some (10, false), none, .mov (.tmp 0 true) .peek⟩,⟨some (11, false), none, .mov (.tmp 4 true) .peek⟩,⟨some (12, false), none, .idx (.tmp 10 false) (.tmp 11 false)⟩,⟨some (13, false), none, .bin .neq (.tmp 12 false) (.cst (.int .u8 13) (.lit (.int .u8 13)))⟩,⟨some (14, false), none, .mov (.tmp 13 false) .peek⟩,⟨some (15, false), (some (14, false)), .mov (.tmp 4 true) .peek⟩,⟨some (16, false), (some (14, false)), .bin .add (.tmp 15 false) (.cst (.int .i64 1) (.lit (.int .i64 1)))⟩,⟨some (17, false), (some (14, false)), .mov (.tmp 0 true) .peek⟩,⟨some (18, false), (some (14, false)), .len (.tmp 17 false)⟩,⟨some (19, false), (some (14, false)), .bin .eql (.tmp 16 false) (.tmp 18 false)⟩,⟨some (20, false), none, .pick (.tmp 14 false) (.cst (.bool true) (.lit (.bool true))) (.tmp 19 false)⟩,⟨some (21, false), none, .mov (.tmp 20 false) .peek⟩,⟨some (22, false), (some (21, false)), .mov (.tmp 0 true) .peek⟩,⟨some (23, false), (some (21, false)), .mov (.tmp 4 true) .peek⟩,⟨some (24, false), (some (21, false)), .bin .add (.tmp 23 false) (.cst (.int .i64 1) (.lit (.int .i64 1)))⟩,⟨some (25, false), (some (21, false)), .idx (.tmp 22 false) (.tmp 24 false)⟩,⟨some (26, false), (some (21, false)), .bin .neq (.tmp 25 false) (.cst (.int .u8 10) (.lit (.int .u8 10)))⟩,⟨some (27, false), none, .pick (.tmp 21 false) (.cst (.bool true) (.lit (.bool true))) (.tmp 26 false)⟩])) [0, 3, 4, 6, 7, 27] []
    (.cond (.tmp 27 false)
      (.reg (.seq [⟨some (28, false), none, .mov (.tmp 3 true) .take⟩,⟨some (29, false), none, .mov (.tmp 0 true) .peek⟩,⟨some (30, false), none, .mov (.tmp 4 true) .peek⟩,⟨some (31, false), none, .idx (.tmp 29 false) (.tmp 30 false)⟩,⟨some (32, false), none, .buildS 1 1 [(.lit (.int .u8 0))] [(0, 1, (.tmp 31 false))]⟩,⟨some (33, false), none, .app 1 1 (.tmp 28 false) (.tmp 32 false)⟩,⟨some (3, true), none, .mov (.tmp 33 false) .asg⟩]))
      (.skip))))) [0, 3, 6, 7] []
  (.reg (.seq [⟨some (34, false), none, .bin .add (.tmp 7 true) (.cst (.int .i64 1) (.lit (.int .i64 1)))⟩,⟨some (7, true), none, .mov (.tmp 34 false) .peek⟩]))))
def rlf_l0 : AC := rlf_l0'
theorem rlf_l0_w (C : Kn) (K : Ex → St → Prop) (s : St) : vcC C rlf_l0 K s = vcC C rlf_l0' K s := nr rfl
def rlf_k1' : AC := .seq (.reg (.seq [⟨some (35, false), none, .mov (.tmp 3 true) .peek⟩,⟨some (36, false), none, .b2s (.tmp 35 false)⟩,⟨some (2, true), none, .mov (.tmp 36 false) .asg⟩])) [2] []
  (.ret)
def rlf_k1 : AC := rlf_k1'
theorem rlf_k1_w (C : Kn) (K : Ex → St → Prop) (s : St) : vcC C rlf_k1 K s = vcC C rlf_k1' K s := nr rfl
def rlf : AF := ⟨.seq (.reg (.seq [⟨some (2, true), none, .mov (.cst (.string (str [])) (.lit (.string (str [])))) .asg⟩])) [0] []
  (.seq (.reg (.seq [⟨some (3, true), none, .mov (.cst (.slice none 0 0) (.sl .own 1 [])) .asg⟩])) [0, 3] []
  (.seq (.seq (.reg (.seq [⟨some (5, false), none, .mov (.tmp 0 true) .peek⟩,⟨some (6, true), none, .len (.tmp 5 false)⟩,⟨some (7, true), none, .mov (.cst (.int .i64 0) (.lit (.int .i64 0))) .peek⟩])) [0, 3, 6, 7] []
  (.block 0 (.loop [0, 3, 6, 7] [] rlf_l0))) [3] [] rlf_k1)),
  [.tmp 2]⟩
theorem rlf_comp (m : Int) : compF Tryd.prog (gl m) [] Tryd.f60 = some rlf := by kernel_rfl
def rbin_l0' : AC := .seq (.seq (.reg (.seq [⟨some (4, false), none, .mov (.tmp 3 true) .peek⟩,⟨some (5, false), none, .mov (.tmp 0 true) .peek⟩,⟨some (6, false), none, .len (.tmp 5 false)⟩,⟨some (7, false), none, .bin .lss (.tmp 4 false) (.tmp 6 false)⟩,⟨some (8, false), none, .mov (.tmp 7 false) .peek⟩,⟨some (9, false), (some (8, true)), .mov (.tmp 3 true) .peek⟩,⟨some (10, false), (some (8, true)), .bin .lss (.tmp 9 false) (.cst (.int .i64 8000) (.lit (.int .i64 8000)))⟩,⟨some (11, false), none, .pick (.tmp 8 false) (.tmp 10 false) (.cst (.bool false) (.lit (.bool false)))⟩])) [0, 3, 11] []
  (.cond (.tmp 11 false)
    (.skip)
    (.exit 0))) [0, 3] []
  (.seq (.block 1 (.seq (.reg (.seq [⟨some (14, false), none, .mov (.tmp 0 true) .peek⟩,⟨some (15, false), none, .mov (.tmp 3 true) .peek⟩,⟨some (16, false), none, .idx (.tmp 14 false) (.tmp 15 false)⟩,⟨some (17, false), none, .bin .eql (.tmp 16 false) (.cst (.int .u8 0) (.lit (.int .u8 0)))⟩])) [0, 3, 17] []
    (.cond (.tmp 17 false)
      (.seq (.reg (.seq [⟨some (2, true), none, .mov (.cst (.bool true) (.lit (.bool true))) .asg⟩])) [2] []
      (.ret))
      (.skip)))) [0, 3] []
  (.reg (.seq [⟨some (12, false), none, .mov (.tmp 3 true) .peek⟩,⟨some (13, false), none, .bin .add (.tmp 12 false) (.cst (.int .i64 1) (.lit (.int .i64 1)))⟩,⟨some (3, true), none, .mov (.tmp 13 false) .asg⟩])))
def rbin_l0 : AC := rbin_l0'
theorem rbin_l0_w (C : Kn) (K : Ex → St → Prop) (s : St) : vcC C rbin_l0 K s = vcC C rbin_l0' K s := nr rfl
def rbin_k1' : AC := .seq (.reg (.seq [⟨some (2, true), none, .mov (.cst (.bool false) (.lit (.bool false))) .asg⟩])) [2] []
  (.ret)
def rbin_k1 : AC := rbin_k1'
theorem rbin_k1_w (C : Kn) (K : Ex → St → Prop) (s : St) : vcC C rbin_k1 K s = vcC C rbin_k1' K s := nr rfl
def rbin : AF := ⟨.seq (.reg (.seq [⟨some (2, true), none, .mov (.cst (.bool false) (.lit (.bool false))) .asg⟩])) [0] []
  (.seq (.seq (.reg (.seq [⟨some (3, true), none, .mov (.cst (.int .i64 0) (.lit (.int .i64 0))) .asg⟩])) [0, 3] []
  (.block 0 (.loop [0, 3] [] rbin_l0))) [] [] rbin_k1),
  [.tmp 2]⟩
theorem rbin_comp (m : Int) : compF Tryd.prog (gl m) [] Tryd.f94 = some rbin := by kernel_rfl
def pbin : AF := ⟨.seq (.reg (.seq [⟨some (2, true), none, .mov (.cst (.bool false) (.lit (.bool false))) .asg⟩])) [0] []
  (.seq (.reg (.seq [⟨some (3, false), none, .mov (.tmp 0 true) .peek⟩,⟨some (4, false), none, .mov (.tmp 0 true) .peek⟩,⟨some (5, false), none, .len (.tmp 4 false)⟩,⟨some (6, false), none, .mx false (.tmp 5 false) (.cst (.int .i64 8000) (.lit (.int .i64 8000)))⟩,⟨some (7, false), none, .sub (.tmp 3 false) none (some (.tmp 6 false))⟩,⟨some (8, false), none, .call 118 [.tmp 7 false, (.cst (.int .u8 0) (.lit (.int .u8 0)))]⟩,⟨some (9, false), none, .bin .geq (.tmp 8 false) (.cst (.int .i64 0) (.lit (.int .i64 0)))⟩,⟨some (2, true), none, .mov (.tmp 9 false) .asg⟩])) [2] []
  (.ret)),
  [.tmp 2]⟩
theorem pbin_comp (m : Int) : compF Tryd.prog (gl m) [] Tryd.f91 = some pbin := by kernel_rfl
def tolf : AF := ⟨.seq (.reg (.seq [⟨some (2, true), none, .mov (.cst (.string (str [])) (.lit (.string (str [])))) .asg⟩])) [0] []
  (.seq (.reg (.seq [⟨some (3, false), none, .mov (.tmp 0 true) .peek⟩,⟨some (4, false), none, .call 92 [.tmp 3 false, (.cst (.string (str [13, 10])) (.lit (.string (str [13, 10])))), (.cst (.string (str [10])) (.lit (.string (str [10]))))]⟩,⟨some (2, true), none, .mov (.tmp 4 false) .asg⟩])) [2] []
  (.ret)),
  [.tmp 2]⟩
theorem tolf_comp (m : Int) : compF Tryd.prog (gl m) [] Tryd.f55 = some tolf := by kernel_rfl
def rback : AF := ⟨.seq (.reg (.seq [⟨some (2, true), none, .mov (.cst (.bool false) (.lit (.bool false))) .asg⟩])) [0] []
  (.seq (.reg (.seq [⟨some (3, false), none, .mov (.tmp 0 true) .peek⟩,⟨some (4, false), none, .call 62 [.tmp 3 false]⟩,⟨some (5, false), none, .call 60 [.tmp 4 false]⟩,⟨some (6, false), none, .mov (.tmp 0 true) .peek⟩,⟨some (7, false), none, .bin .eql (.tmp 5 false) (.tmp 6 false)⟩,⟨some (2, true), none, .mov (.tmp 7 false) .asg⟩])) [2] []
  (.ret)),
  [.tmp 2]⟩
theorem rback_comp (m : Int) : compF Tryd.prog (gl m) [] Tryd.f61 = some rback := by kernel_rfl
theorem tocrlf_loop (s : Bs) (hs : s.length ≤ 1048576) (n : Nat) : ∀ (i : Nat) (hn : s.length - i = n) (hi : i ≤ s.length) (acc : Bs) (ha : acc.length ≤ 2 * i),
    vcL (kn m) [0, 3, 9, 10] [] tocrlf_l0 (blockK 0 (seqK (kn m) [3] [] tocrlf_k1 (outOk [.tmp 2] (S (acc ++ crlfF s i))))) (mkS [(0, S s), (3, .sl .own 1 (bs acc)), (9, N s.length), (10, N i)] []) := by
  induction n with
  | zero =>
    intro i hn hi acc ha
    have hil : i = s.length := by omega
    subst hil
    apply round
    simp only [tocrlf_l0_w, tocrlf_l0', go_sem, reduceCtorEq, Nat.reduceEqDiff, reduceIte, Nat.reduceAdd, Nat.reduceSub, Nat.reduceLeDiff, Int.reduceToNat, Nat.reduceBEq]
    rw [show decide ((s.length : Int) < s.length) = false by simp, crlfF_end]
    simp only [tocrlf_k1_w, tocrlf_k1', go_sem, reduceCtorEq, Nat.reduceEqDiff, reduceIte, Nat.reduceAdd, Nat.reduceSub, Nat.reduceLeDiff, Int.reduceToNat, Nat.reduceBEq]
    exact ⟨str acc, by rw [str_dataL]; simp [bs], rfl⟩
  | succ n ih =>
    intro i hn hi acc ha
    have hil : i < s.length := by omega
    apply round
    simp only [tocrlf_l0_w, tocrlf_l0', go_sem, reduceCtorEq, Nat.reduceEqDiff, reduceIte, Nat.reduceAdd, Nat.reduceSub, Nat.reduceLeDiff, Int.reduceToNat, Nat.reduceBEq]
    rw [show decide ((i : Int) < s.length) = true by simpa using hil]
    simp only [getE hil, bs_13, go_sem, reduceCtorEq, Nat.reduceEqDiff, reduceIte, Nat.reduceAdd, Nat.reduceSub, Nat.reduceLeDiff, Int.reduceToNat, Nat.reduceBEq]
    have add : prev s i ≠ 13 → s[i] = 10 → _ := fun hp h10 => by
      have := ih (i + 1) (by omega) (by omega) (acc ++ [13] ++ [s[i]]) (by simp; omega)
      rw [List.append_assoc, List.append_assoc, List.cons_append, List.nil_append, List.cons_append, List.nil_append, ← crlfF_add hil h10 hp] at this
      exact this
    have keep : ¬ (s[i] = 10 ∧ prev s i ≠ 13) → _ := fun h => by
      have := ih (i + 1) (by omega) (by omega) (acc ++ [s[i]]) (by simp; omega)
      rw [List.append_assoc, List.cons_append, List.nil_append, ← crlfF_keep hil h] at this
      exact this
    refine ⟨by omega, ?_⟩
    by_cases h10 : s[i] = 10
    · rw [u8b_t (n := 10) h10 rfl]
      simp only [go_sem, reduceCtorEq, Nat.reduceEqDiff, reduceIte, Nat.reduceAdd, Nat.reduceSub, Nat.reduceLeDiff, Int.reduceToNat, Nat.reduceBEq]
      by_cases h0 : i = 0
      · rw [show ((i : Int) == 0) = true by simp [h0]]
        simp only [getE hil, bs_13, go_sem, reduceCtorEq, Nat.reduceEqDiff, reduceIte, Nat.reduceAdd, Nat.reduceSub, Nat.reduceLeDiff, Int.reduceToNat, Nat.reduceBEq]
        repeat (refine ⟨by (try simp only [List.length_append, List.length_cons, List.length_nil, List.length_drop, List.length_take]); omega, ?_⟩)
        rw [wrapN (i + 1) (by omega) (by omega)]
        exact add (by simp [prev, h0]) h10
      · rw [show ((i : Int) == 0) = false by simp [h0]]
        have h1 : i - 1 < s.length := by omega
        simp only [go_sem, reduceCtorEq, Nat.reduceEqDiff, reduceIte, Nat.reduceAdd, Nat.reduceSub, Nat.reduceLeDiff, Int.reduceToNat, Nat.reduceBEq]
        rw [wrapN (i - 1) (by omega) (by omega)]
        simp only [getE h1, go_sem, reduceCtorEq, Nat.reduceEqDiff, reduceIte, Nat.reduceAdd, Nat.reduceSub, Nat.reduceLeDiff, Int.reduceToNat, Nat.reduceBEq]
        refine ⟨by omega, ?_⟩
        by_cases h13 : s[i - 1] = 13
        · rw [u8n_f (n := 13) h13 rfl]
          simp only [getE hil, bs_13, go_sem, reduceCtorEq, Nat.reduceEqDiff, reduceIte, Nat.reduceAdd, Nat.reduceSub, Nat.reduceLeDiff, Int.reduceToNat, Nat.reduceBEq]
          repeat (refine ⟨by (try simp only [List.length_append, List.length_cons, List.length_nil, List.length_drop, List.length_take]); omega, ?_⟩)
          rw [wrapN (i + 1) (by omega) (by omega)]
          exact keep (by rw [prev_at h0 h1]; exact fun h => h.2 h13)
        · rw [u8n_t (n := 13) h13 rfl]
          simp only [getE hil, bs_13, go_sem, reduceCtorEq, Nat.reduceEqDiff, reduceIte, Nat.reduceAdd, Nat.reduceSub, Nat.reduceLeDiff, Int.reduceToNat, Nat.reduceBEq]
          repeat (refine ⟨by (try simp only [List.length_append, List.length_cons, List.length_nil, List.length_drop, List.length_take]); omega, ?_⟩)
          rw [wrapN (i + 1) (by omega) (by omega)]
          exact add (by rw [prev_at h0 h1]; exact h13) h10
    · rw [u8b_f (n := 10) h10 rfl]
      simp only [getE hil, bs_13, go_sem, reduceCtorEq, Nat.reduceEqDiff, reduceIte, Nat.reduceAdd, Nat.reduceSub, Nat.reduceLeDiff, Int.reduceToNat, Nat.reduceBEq]
      repeat (refine ⟨by (try simp only [List.length_append, List.length_cons, List.length_nil, List.length_drop, List.length_take]); omega, ?_⟩)
      rw [wrapN (i + 1) (by omega) (by omega)]
      exact keep fun h => h10 h.1
theorem tocrlf_snd (s : Bs) (hs : s.length ≤ 1048576) : Snd Tryd.prog (gl m) 58 [S s] (S (crlf 0 s)) := by
  refine snd_of (fn := Tryd.f58) (af := tocrlf) Tryd.func58 (tocrlf_comp m) mixed (kn_ok m) (Nat.le_of_ble_eq_true rfl) ?_
  simp only [tocrlf, go_sem, reduceCtorEq, Nat.reduceEqDiff, reduceIte, Nat.reduceAdd, Nat.reduceSub, Nat.reduceLeDiff, Int.reduceToNat, Nat.reduceBEq]
  repeat (refine ⟨by (try simp only [List.length_append, List.length_cons, List.length_nil, List.length_drop, List.length_take]); omega, ?_⟩)
  exact tocrlf_loop s hs _ 0 rfl (by omega) [] (by simp)
theorem rcrlf_loop (s : Bs) (hs : s.length ≤ 1048576) (n : Nat) : ∀ (i : Nat) (hn : s.length - i = n) (hi : i ≤ s.length) (acc : Bs) (ha : acc.length ≤ 2 * i),
    vcL (kn m) [0, 3, 6, 7] [] rcrlf_l0 (blockK 0 (seqK (kn m) [3] [] rcrlf_k1 (outOk [.tmp 2] (S (acc ++ crlfF s i))))) (mkS [(0, S s), (3, .sl .own 1 (bs acc)), (6, N s.length), (7, N i)] []) := by
  induction n with
  | zero =>
    intro i hn hi acc ha
    have hil : i = s.length := by omega
    subst hil
    apply round
    simp only [rcrlf_l0_w, rcrlf_l0', go_sem, reduceCtorEq, Nat.reduceEqDiff, reduceIte, Nat.reduceAdd, Nat.reduceSub, Nat.reduceLeDiff, Int.reduceToNat, Nat.reduceBEq]
    rw [show decide ((s.length : Int) < s.length) = false by simp, crlfF_end]
    simp only [rcrlf_k1_w, rcrlf_k1', go_sem, reduceCtorEq, Nat.reduceEqDiff, reduceIte, Nat.reduceAdd, Nat.reduceSub, Nat.reduceLeDiff, Int.reduceToNat, Nat.reduceBEq]
    exact ⟨str acc, by rw [str_dataL]; simp [bs], rfl⟩
  | succ n ih =>
    intro i hn hi acc ha
    have hil : i < s.length := by omega
    apply round
    simp only [rcrlf_l0_w, rcrlf_l0', go_sem, reduceCtorEq, Nat.reduceEqDiff, reduceIte, Nat.reduceAdd, Nat.reduceSub, Nat.reduceLeDiff, Int.reduceToNat, Nat.reduceBEq]
    rw [show decide ((i : Int) < s.length) = true by simpa using hil]
    simp only [getE hil, bs_13, go_sem, reduceCtorEq, Nat.reduceEqDiff, reduceIte, Nat.reduceAdd, Nat.reduceSub, Nat.reduceLeDiff, Int.reduceToNat, Nat.reduceBEq]
    have add : prev s i ≠ 13 → s[i] = 10 → _ := fun hp h10 => by
      have := ih (i + 1) (by omega) (by omega) (acc ++ [13] ++ [s[i]]) (by simp; omega)
      rw [List.append_assoc, List.append_assoc, List.cons_append, List.nil_append, List.cons_append, List.nil_append, ← crlfF_add hil h10 hp] at this
      exact this
    have keep : ¬ (s[i] = 10 ∧ prev s i ≠ 13) → _ := fun h => by
      have := ih (i + 1) (by omega) (by omega) (acc ++ [s[i]]) (by simp; omega)
      rw [List.append_assoc, List.cons_append, List.nil_append, ← crlfF_keep hil h] at this
      exact this
    refine ⟨by omega, ?_⟩
    by_cases h10 : s[i] = 10
    · rw [u8b_t (n := 10) h10 rfl]
      simp only [go_sem, reduceCtorEq, Nat.reduceEqDiff, reduceIte, Nat.reduceAdd, Nat.reduceSub, Nat.reduceLeDiff, Int.reduceToNat, Nat.reduceBEq]
      by_cases h0 : i = 0
      · rw [show ((i : Int) == 0) = true by simp [h0]]
        simp only [getE hil, bs_13, go_sem, reduceCtorEq, Nat.reduceEqDiff, reduceIte, Nat.reduceAdd, Nat.reduceSub, Nat.reduceLeDiff, Int.reduceToNat, Nat.reduceBEq]
        repeat (refine ⟨by (try simp only [List.length_append, List.length_cons, List.length_nil, List.length_drop, List.length_take]); omega, ?_⟩)
        rw [wrapN (i + 1) (by omega) (by omega)]
        exact add (by simp [prev, h0]) h10
      · rw [show ((i : Int) == 0) = false by simp [h0]]
        have h1 : i - 1 < s.length := by omega
        simp only [go_sem, reduceCtorEq, Nat.reduceEqDiff, reduceIte, Nat.reduceAdd, Nat.reduceSub, Nat.reduceLeDiff, Int.reduceToNat, Nat.reduceBEq]
        rw [wrapN (i - 1) (by omega) (by omega)]
        simp only [getE h1, go_sem, reduceCtorEq, Nat.reduceEqDiff, reduceIte, Nat.reduceAdd, Nat.reduceSub, Nat.reduceLeDiff, Int.reduceToNat, Nat.reduceBEq]
        refine ⟨by omega, ?_⟩
        by_cases h13 : s[i - 1] = 13
        · rw [u8n_f (n := 13) h13 rfl]
          simp only [getE hil, bs_13, go_sem, reduceCtorEq, Nat.reduceEqDiff, reduceIte, Nat.reduceAdd, Nat.reduceSub, Nat.reduceLeDiff, Int.reduceToNat, Nat.reduceBEq]
          repeat (refine ⟨by (try simp only [List.length_append, List.length_cons, List.length_nil, List.length_drop, List.length_take]); omega, ?_⟩)
          rw [wrapN (i + 1) (by omega) (by omega)]
          exact keep (by rw [prev_at h0 h1]; exact fun h => h.2 h13)
        · rw [u8n_t (n := 13) h13 rfl]
          simp only [getE hil, bs_13, go_sem, reduceCtorEq, Nat.reduceEqDiff, reduceIte, Nat.reduceAdd, Nat.reduceSub, Nat.reduceLeDiff, Int.reduceToNat, Nat.reduceBEq]
          repeat (refine ⟨by (try simp only [List.length_append, List.length_cons, List.length_nil, List.length_drop, List.length_take]); omega, ?_⟩)
          rw [wrapN (i + 1) (by omega) (by omega)]
          exact add (by rw [prev_at h0 h1]; exact h13) h10
    · rw [u8b_f (n := 10) h10 rfl]
      simp only [getE hil, bs_13, go_sem, reduceCtorEq, Nat.reduceEqDiff, reduceIte, Nat.reduceAdd, Nat.reduceSub, Nat.reduceLeDiff, Int.reduceToNat, Nat.reduceBEq]
      repeat (refine ⟨by (try simp only [List.length_append, List.length_cons, List.length_nil, List.length_drop, List.length_take]); omega, ?_⟩)
      rw [wrapN (i + 1) (by omega) (by omega)]
      exact keep fun h => h10 h.1
theorem rcrlf_snd (s : Bs) (hs : s.length ≤ 1048576) : Snd Tryd.prog (gl m) 62 [S s] (S (crlf 0 s)) := by
  refine snd_of (fn := Tryd.f62) (af := rcrlf) Tryd.func62 (rcrlf_comp m) mixed (kn_ok m) (Nat.le_of_ble_eq_true rfl) ?_
  simp only [rcrlf, go_sem, reduceCtorEq, Nat.reduceEqDiff, reduceIte, Nat.reduceAdd, Nat.reduceSub, Nat.reduceLeDiff, Int.reduceToNat, Nat.reduceBEq]
  repeat (refine ⟨by (try simp only [List.length_append, List.length_cons, List.length_nil, List.length_drop, List.length_take]); omega, ?_⟩)
  exact rcrlf_loop s hs _ 0 rfl (by omega) [] (by simp)
theorem rlf_loop (s : Bs) (hs : s.length ≤ 1048576) (n : Nat) : ∀ (i : Nat) (hn : s.length - i = n) (hi : i ≤ s.length) (acc : Bs) (ha : acc.length ≤ i),
    vcL (kn m) [0, 3, 6, 7] [] rlf_l0 (blockK 0 (seqK (kn m) [3] [] rlf_k1 (outOk [.tmp 2] (S (acc ++ lf (s.drop i)))))) (mkS [(0, S s), (3, .sl .own 1 (bs acc)), (6, N s.length), (7, N i)] []) := by
  induction n with
  | zero =>
    intro i hn hi acc ha
    have hil : i = s.length := by omega
    subst hil
    apply round
    simp only [rlf_l0_w, rlf_l0', go_sem, reduceCtorEq, Nat.reduceEqDiff, reduceIte, Nat.reduceAdd, Nat.reduceSub, Nat.reduceLeDiff, Int.reduceToNat, Nat.reduceBEq]
    rw [show decide ((s.length : Int) < s.length) = false by simp]
    simp only [rlf_k1_w, rlf_k1', go_sem, reduceCtorEq, Nat.reduceEqDiff, reduceIte, Nat.reduceAdd, Nat.reduceSub, Nat.reduceLeDiff, Int.reduceToNat, Nat.reduceBEq]
    exact ⟨str acc, by rw [str_dataL]; simp [bs], by simp [lf]⟩
  | succ n ih =>
    intro i hn hi acc ha
    have hil : i < s.length := by omega
    have hw : IntKind.i64.wrap ((i : Int) + 1) = ((i + 1 : Nat) : Int) := wrapN (i + 1) (by omega) (by omega)
    apply round
    simp only [rlf_l0_w, rlf_l0', go_sem, reduceCtorEq, Nat.reduceEqDiff, reduceIte, Nat.reduceAdd, Nat.reduceSub, Nat.reduceLeDiff, Int.reduceToNat, Nat.reduceBEq]
    rw [show decide ((i : Int) < s.length) = true by simpa using hil]
    simp only [getE hil, go_sem, reduceCtorEq, Nat.reduceEqDiff, reduceIte, Nat.reduceAdd, Nat.reduceSub, Nat.reduceLeDiff, Int.reduceToNat, Nat.reduceBEq]
    have skip : i + 1 < s.length → s[i] = 13 → s[i + 1]? = some 10 → _ := fun h h13 h10 => by
      have := ih (i + 1) (by omega) (by omega) acc (by omega)
      rw [← lf_skip h h13 (by rw [getE h] at h10; simpa using h10)] at this
      exact this
    have keep : ¬ (s[i] = 13 ∧ s[i + 1]? = some 10) → _ := fun h => by
      have := ih (i + 1) (by omega) (by omega) (acc ++ [s[i]]) (by simp; omega)
      rw [List.append_assoc, List.cons_append, List.nil_append, ← lf_keep hil h] at this
      exact this
    refine ⟨by omega, ?_⟩
    by_cases h13 : s[i] = 13
    · rw [u8n_f (n := 13) h13 rfl]
      simp only [hw, go_sem, reduceCtorEq, Nat.reduceEqDiff, reduceIte, Nat.reduceAdd, Nat.reduceSub, Nat.reduceLeDiff, Int.reduceToNat, Nat.reduceBEq]
      by_cases h1 : i + 1 = s.length
      · rw [eqN_t h1]
        simp only [hw, getE hil, go_sem, reduceCtorEq, Nat.reduceEqDiff, reduceIte, Nat.reduceAdd, Nat.reduceSub, Nat.reduceLeDiff, Int.reduceToNat, Nat.reduceBEq]
        repeat (refine ⟨by (try simp only [List.length_append, List.length_cons, List.length_nil, List.length_drop, List.length_take]); omega, ?_⟩)
        exact keep (by rw [List.getElem?_eq_none (by omega)]; simp)
      · have h2 : i + 1 < s.length := by omega
        rw [eqN_f h1]
        simp only [hw, getE h2, go_sem, reduceCtorEq, Nat.reduceEqDiff, reduceIte, Nat.reduceAdd, Nat.reduceSub, Nat.reduceLeDiff, Int.reduceToNat, Nat.reduceBEq]
        refine ⟨by omega, ?_⟩
        by_cases h10 : s[i + 1] = 10
        · rw [u8n_f (n := 10) h10 rfl]
          simp only [hw, getE hil, go_sem, reduceCtorEq, Nat.reduceEqDiff, reduceIte, Nat.reduceAdd, Nat.reduceSub, Nat.reduceLeDiff, Int.reduceToNat, Nat.reduceBEq]
          repeat (refine ⟨by (try simp only [List.length_append, List.length_cons, List.length_nil, List.length_drop, List.length_take]); omega, ?_⟩)
          exact skip h2 h13 (by rw [getE h2, h10])
        · rw [u8n_t (n := 10) h10 rfl]
          simp only [hw, getE hil, go_sem, reduceCtorEq, Nat.reduceEqDiff, reduceIte, Nat.reduceAdd, Nat.reduceSub, Nat.reduceLeDiff, Int.reduceToNat, Nat.reduceBEq]
          repeat (refine ⟨by (try simp only [List.length_append, List.length_cons, List.length_nil, List.length_drop, List.length_take]); omega, ?_⟩)
          exact keep (by rw [getE h2]; simpa using fun _ => h10)
    · rw [u8n_t (n := 13) h13 rfl]
      simp only [hw, getE hil, go_sem, reduceCtorEq, Nat.reduceEqDiff, reduceIte, Nat.reduceAdd, Nat.reduceSub, Nat.reduceLeDiff, Int.reduceToNat, Nat.reduceBEq]
      repeat (refine ⟨by (try simp only [List.length_append, List.length_cons, List.length_nil, List.length_drop, List.length_take]); omega, ?_⟩)
      exact keep fun h => h13 h.1
theorem rlf_snd (s : Bs) (hs : s.length ≤ 1048576) : Snd Tryd.prog (gl m) 60 [S s] (S (lf s)) := by
  refine snd_of (fn := Tryd.f60) (af := rlf) Tryd.func60 (rlf_comp m) mixed (kn_ok m) (Nat.le_of_ble_eq_true rfl) ?_
  simp only [rlf, go_sem, reduceCtorEq, Nat.reduceEqDiff, reduceIte, Nat.reduceAdd, Nat.reduceSub, Nat.reduceLeDiff, Int.reduceToNat, Nat.reduceBEq]
  exact rlf_loop s hs _ 0 rfl (by omega) [] (by simp)
theorem rbin_loop (s : Bs) (hs : s.length ≤ 1048576) (n : Nat) : ∀ (i : Nat) (hn : s.length - i = n) (hi : i ≤ s.length) (h8 : i ≤ 8000) (hz : ∀ (j : Nat) b, j < i → s[j]? = some b → b ≠ 0),
    vcL (kn m) [0, 3] [] rbin_l0 (blockK 0 (seqK (kn m) [] [] rbin_k1 (outOk [.tmp 2] (B (binary s))))) (mkS [(0, S s), (3, N i)] []) := by
  induction n with
  | zero =>
    intro i hn hi h8 hz
    have hil : i = s.length := by omega
    subst hil
    apply round
    simp only [rbin_l0_w, rbin_l0', go_sem, reduceCtorEq, Nat.reduceEqDiff, reduceIte, Nat.reduceAdd, Nat.reduceSub, Nat.reduceLeDiff, Int.reduceToNat, Nat.reduceBEq]
    rw [show decide ((s.length : Int) < s.length) = false by simp]
    simp only [rbin_k1_w, rbin_k1', go_sem, reduceCtorEq, Nat.reduceEqDiff, reduceIte, Nat.reduceAdd, Nat.reduceSub, Nat.reduceLeDiff, Int.reduceToNat, Nat.reduceBEq]
    rw [binary_f fun j b _ h => hz j b (by have := (List.getElem?_eq_some_iff.1 h).1; omega) h]
  | succ n ih =>
    intro i hn hi h8 hz
    have hil : i < s.length := by omega
    apply round
    simp only [rbin_l0_w, rbin_l0', go_sem, reduceCtorEq, Nat.reduceEqDiff, reduceIte, Nat.reduceAdd, Nat.reduceSub, Nat.reduceLeDiff, Int.reduceToNat, Nat.reduceBEq]
    rw [show decide ((i : Int) < s.length) = true by simpa using hil]
    simp only [go_sem, reduceCtorEq, Nat.reduceEqDiff, reduceIte, Nat.reduceAdd, Nat.reduceSub, Nat.reduceLeDiff, Int.reduceToNat, Nat.reduceBEq]
    by_cases h9 : i < 8000
    · rw [show decide ((i : Int) < 8000) = true by simp; omega]
      simp only [getE hil, go_sem, reduceCtorEq, Nat.reduceEqDiff, reduceIte, Nat.reduceAdd, Nat.reduceSub, Nat.reduceLeDiff, Int.reduceToNat, Nat.reduceBEq]
      refine ⟨by omega, ?_⟩
      by_cases h0 : s[i] = 0
      · rw [u8b_t (n := 0) h0 rfl]
        simp only [go_sem, reduceCtorEq, Nat.reduceEqDiff, reduceIte, Nat.reduceAdd, Nat.reduceSub, Nat.reduceLeDiff, Int.reduceToNat, Nat.reduceBEq]
        rw [binary_t hil h9 h0]
      · rw [u8b_f (n := 0) h0 rfl]
        simp only [go_sem, reduceCtorEq, Nat.reduceEqDiff, reduceIte, Nat.reduceAdd, Nat.reduceSub, Nat.reduceLeDiff, Int.reduceToNat, Nat.reduceBEq]
        rw [wrapN (i + 1) (by omega) (by omega)]
        refine ih (i + 1) (by omega) (by omega) (by omega) fun j b hj hb => ?_
        by_cases e : j = i
        · subst e; rw [getE hil] at hb; injection hb with hb; subst hb; exact h0
        · exact hz j b (by omega) hb
    · rw [show decide ((i : Int) < 8000) = false by simp; omega]
      simp only [rbin_k1_w, rbin_k1', go_sem, reduceCtorEq, Nat.reduceEqDiff, reduceIte, Nat.reduceAdd, Nat.reduceSub, Nat.reduceLeDiff, Int.reduceToNat, Nat.reduceBEq]
      rw [binary_f fun j b h h' => hz j b (by omega) h']
theorem rbin_snd (s : Bs) (hs : s.length ≤ 1048576) : Snd Tryd.prog (gl m) 94 [S s] (B (binary s)) := by
  refine snd_of (fn := Tryd.f94) (af := rbin) Tryd.func94 (rbin_comp m) mixed (kn_ok m) (Nat.le_of_ble_eq_true rfl) ?_
  simp only [rbin, go_sem, reduceCtorEq, Nat.reduceEqDiff, reduceIte, Nat.reduceAdd, Nat.reduceSub, Nat.reduceLeDiff, Int.reduceToNat, Nat.reduceBEq]
  exact rbin_loop s hs _ 0 rfl (by omega) (by omega) fun j b h => by omega
theorem pbin_snd (s : Bs) (hs : s.length ≤ 1048576) : Snd Tryd.prog (gl m) 91 [S s] (B (binary s)) := by
  refine snd_of (fn := Tryd.f91) (af := pbin) Tryd.func91 (pbin_comp m) mixed (kn_ok m) (Nat.le_of_ble_eq_true rfl) ?_
  simp only [pbin, go_sem, reduceCtorEq, Nat.reduceEqDiff, reduceIte, Nat.reduceAdd, Nat.reduceSub, Nat.reduceLeDiff, Int.reduceToNat, Nat.reduceBEq]
  have e : min (s.length : Int) 8000 = ((min s.length 8000 : Nat) : Int) := by omega
  rw [e]
  simp only [go_sem, reduceCtorEq, Nat.reduceEqDiff, reduceIte, Nat.reduceAdd, Nat.reduceSub, Nat.reduceLeDiff, Int.reduceToNat, Nat.reduceBEq]
  repeat (refine ⟨by (try simp only [List.length_append, List.length_cons, List.length_nil, List.length_drop, List.length_take]); omega, ?_⟩)
  refine of_call (indexByte (s.take (min s.length 8000)) 0) ?_
  simp only [go_sem, reduceCtorEq, Nat.reduceEqDiff, reduceIte, Nat.reduceAdd, Nat.reduceSub, Nat.reduceLeDiff, Int.reduceToNat, Nat.reduceBEq]
  have e2 : s.take (min s.length 8000) = s.take 8000 := by
    by_cases h : s.length ≤ 8000
    · rw [Nat.min_eq_left h, List.take_length, List.take_of_length_le h]
    · rw [Nat.min_eq_right (by omega)]
  rw [e2, idx_eq, binary]
  cases idx (s.take 8000) 0 with
  | none => simp
  | some k => simp
theorem tolf_snd (s : Bs) (hs : s.length ≤ 1048576) : Snd Tryd.prog (gl m) 55 [S s] (S (lf s)) := by
  refine snd_of (fn := Tryd.f55) (af := tolf) Tryd.func55 (tolf_comp m) mixed (kn_ok m) (Nat.le_of_ble_eq_true rfl) ?_
  simp only [tolf, go_sem, reduceCtorEq, Nat.reduceEqDiff, reduceIte, Nat.reduceAdd, Nat.reduceSub, Nat.reduceLeDiff, Int.reduceToNat, Nat.reduceBEq]
  refine of_call (replaceAll s [13, 10] [10] hs (by simp) ?_) ?_
  · have := Lib.countB_mul_le (str [13, 10]) (by rw [str_size]; simp) _ (str s) (Nat.le_refl _)
    simp only [str_size, List.length_cons, List.length_nil] at this ⊢
    omega
  · simp only [replaceAll_lf, go_sem, reduceCtorEq, Nat.reduceEqDiff, reduceIte, Nat.reduceAdd, Nat.reduceSub, Nat.reduceLeDiff, Int.reduceToNat, Nat.reduceBEq]
theorem rback_snd (s : Bs) (hs : s.length ≤ 524288) : Snd Tryd.prog (gl m) 61 [S s] (B (lf (crlf 0 s) == s)) := by
  refine snd_of (fn := Tryd.f61) (af := rback) Tryd.func61 (rback_comp m) mixed (kn_ok m) (Nat.le_of_ble_eq_true rfl) ?_
  simp only [rback, go_sem, reduceCtorEq, Nat.reduceEqDiff, reduceIte, Nat.reduceAdd, Nat.reduceSub, Nat.reduceLeDiff, Int.reduceToNat, Nat.reduceBEq]
  have := crlf_len 0 s
  refine of_call (rcrlf_snd s (by omega)) ?_
  simp only [go_sem, reduceCtorEq, Nat.reduceEqDiff, reduceIte, Nat.reduceAdd, Nat.reduceSub, Nat.reduceLeDiff, Int.reduceToNat, Nat.reduceBEq]
  refine of_call (rlf_snd _ (by omega)) ?_
  simp only [go_sem, reduceCtorEq, Nat.reduceEqDiff, reduceIte, Nat.reduceAdd, Nat.reduceSub, Nat.reduceLeDiff, Int.reduceToNat, Nat.reduceBEq]
end Go.Ln

