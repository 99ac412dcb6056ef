import Derived.Test.YtcahaecjjochbaaDoorEvC
import Derived.Test.YtcahaecjjochbaaDoorAtP
import Derived.Test.YtcahaecjjochbaaDoorSh
import Derived.Shelf.Strings.SlTrimAscii
import Derived.KernelRfl
set_option linter.unusedVariables false
set_option linter.unusedSimpArgs false
/- Rounds of a loop counted up; things fetched. -/
namespace Go.Ev
set_option linter.unusedVariables false
section
variable {C : Kn} {pl bl : List Nat} {c : AC} {K : Ex → St → Prop} {s : St}
/-- a loop whose i-th state is known, as long as what is asked holds -/
theorem loop_inv (n : Nat) (st : Nat → St) (Inv : Nat → Prop) (hs : s = st 0) (h0 : Inv 0)
    (h : ∀ i, i ≤ n → Inv i → (i < n → Inv (i + 1) → vcL C pl bl c K (st (i + 1))) → vcC C c (loopK C pl bl c K) (st i)) : vcL C pl bl c K s := by
  subst hs
  have key : ∀ d i, i + d = n → Inv i → vcL C pl bl c K (st i) := by
    intro d
    induction d with
    | zero => intro i hi hI; exact round (h i (by omega) hI fun hl => by omega)
    | succ d ih => intro i hi hI; exact round (h i (by omega) hI fun _ hI' => ih (i + 1) (by omega) hI')
  exact key n 0 (by omega) h0
theorem loop_up (n : Nat) (st : Nat → St) (hs : s = st 0)
    (h : ∀ i, i ≤ n → (i < n → vcL C pl bl c K (st (i + 1))) → vcC C c (loopK C pl bl c K) (st i)) : vcL C pl bl c K s :=
  loop_inv n st (fun _ => True) hs trivial fun i hi _ ih => h i hi fun hl => ih hl trivial
/-- the same from a number on -/
theorem loop_from (k n : Nat) (hk : k ≤ n) (st : Nat → St) (Inv : Nat → Prop) (hs : s = st k) (h0 : Inv k)
    (h : ∀ i, k ≤ i → i ≤ n → Inv i → (i < n → Inv (i + 1) → vcL C pl bl c K (st (i + 1))) → vcC C c (loopK C pl bl c K) (st i)) : vcL C pl bl c K s := by
  subst hs
  have key : ∀ d i, k ≤ i → i + d = n → Inv i → vcL C pl bl c K (st i) := by
    intro d
    induction d with
    | zero => intro i hk hi hI; exact round (h i hk (by omega) hI fun hl => by omega)
    | succ d ih => intro i hk hi hI; exact round (h i hk (by omega) hI fun _ hI' => ih (i + 1) (by omega) (by omega) hI')
  exact key (n - k) k (Nat.le_refl _) (by omega) h0
/-- a loop by a measure: P tells the states that may come -/
theorem loop_wf {α : Type} (μ : α → Nat) (st : α → St) (Inv : α → Prop) (a : α) (hs : s = st a) (h0 : Inv a)
    (h : ∀ a, Inv a → (∀ b, μ b < μ a → Inv b → vcL C pl bl c K (st b)) → vcC C c (loopK C pl bl c K) (st a)) : vcL C pl bl c K s := by
  subst hs
  have key : ∀ n a, μ a < n → Inv a → vcL C pl bl c K (st a) := by
    intro n
    induction n with
    | zero => intro a ha; omega
    | succ n ih => intro a ha hI; exact round (h a hI fun b hb hIb => ih b (by omega) hIb)
  exact key _ a (Nat.lt_succ_self _) h0
end
section
variable {dst : Option (Nat × Bool)} {K : St → Prop} {s : St}
end
theorem take_snoc {α : Type} {l : List α} {i : Nat} (h : i < l.length) : l.take (i + 1) = l.take i ++ [l[i]] := by
  rw [List.take_add_one, List.getElem?_eq_getElem h]; rfl
/-! ### Rows of structs of plain cells -/
def fe {α : Type} (f : α → List Value) (x : α) : AV := .agg ((f x).map .lit)
def fs {α : Type} (f : α → List Value) (l : List α) : List AV := l.map (fe f)
section
variable {α : Type} (f : α → List Value) (l : List α)
theorem map_lits (g : AV → AV) (hg : ∀ v, g (.lit v) = .lit v) (vs : List Value) : (vs.map AV.lit).map g = vs.map AV.lit := by
  rw [List.map_map]; exact List.map_congr_left fun v _ => hg v
theorem fs_map (g : AV → AV) (h : ∀ x, g (fe f x) = fe f x) : (fs f l).map g = fs f l := by
  rw [fs, List.map_map]; exact List.map_congr_left fun x _ => h x
theorem frnL_fs : frnL (fs f l) = fs f l := by rw [frnL_eq]; exact fs_map f l _ fun x => by rw [fe, frnD, frnL_eq, map_lits _ fun v => by rw [frnD]]
theorem roL_fs : roL (fs f l) = fs f l := by rw [roL_eq]; exact fs_map f l _ fun x => by rw [fe, roD, roL_eq, map_lits _ fun v => by rw [roD]; intro _ _ _ h; cases h; intro _ h; cases h; intro _ h; cases h]
theorem resL_fs : resL (fs f l) = fs f l := by rw [resL_eq]; exact fs_map f l _ fun x => by rw [fe, resD, resL_eq, map_lits _ fun v => by rw [resD]]
theorem passL_fs : passL (fs f l) = fs f l := by rw [passL_eq]; exact fs_map f l _ fun x => by rw [fe, passD, passL_eq, map_lits _ fun v => by rw [passD]]
theorem klL_fs (p : Bool → Ref → Bool) (ro : Bool) : klL p ro (fs f l) = fs f l := by rw [klL_eq]; exact fs_map f l _ fun x => by rw [fe, kl, klL_eq, map_lits _ fun v => by rw [kl]]
theorem trL_fs (ρ : Nat → Option Nat) (rf : Bool) : trL ρ rf (fs f l) = fs f l := by rw [trL_eq]; exact fs_map f l _ fun x => by rw [fe, tr, trL_eq, map_lits _ fun v => by rw [tr]]
theorem map_roD_fs : (fs f l).map roD = fs f l := by rw [← roL_eq, roL_fs]
theorem fs_length : (fs f l).length = l.length := by simp [fs]
theorem fs_get {i : Nat} (h : i < l.length) : (fs f l)[i]? = some (fe f l[i]) := by simp [fs, h]
theorem fs_snoc (x : α) : fs f l ++ [fe f x] = fs f (l ++ [x]) := by simp [fs]
end
end Go.Ev
/- Attr, Ignore: the beginning; the library. -/
namespace Go.At
open Go Go.Ev Go.Proofs
open Go.Ln (lines lf crlf binary idx idx_eq)
open Go.Gb (pieces splitK_pieces)
set_option linter.unusedVariables false
set_option linter.unusedSimpArgs false
def gl (m : Int) : Tabs := ⟨fun g => if g = 0 then some [.int .i64 m] else none, fun f => if f = 149 then some [.ptr, .ptr] else if f = 77 then some [.pass, .pass, .ptr] else none⟩
def kn (m : Int) : Kn := ⟨Snd Tryd.prog (gl m), SndG Tryd.prog (gl m), fun f => ∃ fn, Tryd.prog.funcs[f]? = some fn ∧ fn.body.isSome = true ∧ fn.name ≠ "runtime.NumGoroutine"⟩
theorem kn_ok (m : Int) : Kn.Ok Tryd.prog (gl m) (kn m) := ⟨fun _ _ _ h => h, fun _ _ _ _ _ h => h, fun _ h => h⟩
theorem tab0 {m : Int} {w : World} {zf : Nat → Nat → Prop} (h : TabsAt (gl m) w zf) : w.cell? ⟨0, 0, none⟩ = some (.int .i64 m) := (h.cell 0 [.int .i64 m] rfl 0 _ rfl).1
theorem mixed : Tryd.prog.follows .mixedOrders = true := by kernel_rfl
variable {m : Int}
/-! ### The library -/
theorem index1 (s : Bs) (c : UInt8) : Snd Tryd.prog (gl m) 86 [S s, S [c]] (I (Lib.indexByte s c)) :=
  snd_same (us := [.string (str s), .string (str [c])]) rfl fun w zf h => by
    have := Tryd.strings_Index_one (str s) c w
    rw [str_dataL] at this; exact this
theorem indexByte (s : Bs) (c : UInt8) : Snd Tryd.prog (gl m) 118 [S s, U8 c] (I (Lib.indexByte s c)) :=
  snd_same (us := [.string (str s), .int .u8 c.toNat]) rfl fun w zf h => by
    have := Tryd.strings_IndexByte (str s) (c.toNat : Int) w
    rw [str_dataL] at this
    simpa using this
theorem hasPrefix (s p : Bs) : Snd Tryd.prog (gl m) 87 [S s, S p] (B (Lib.hasPrefix s p)) :=
  snd_same (us := [.string (str s), .string (str p)]) rfl fun w zf h => by simpa only [str_dataL] using Tryd.strings_HasPrefix (str s) (str p) w
theorem trimSuffix (s p : Bs) (hs : s.length ≤ 4294967296) : Snd Tryd.prog (gl m) 65 [S s, S p] (S (Lib.trimSuffix s p)) :=
  snd_same (us := [.string (str s), .string (str p)]) rfl fun w zf h => by
    have := Tryd.strings_TrimSuffix (str s) (str p) w (by rw [str_size]; omega)
    simp only [str_dataL] at this; exact this
theorem replaceAll (s a b : Bs) (hs : s.length ≤ 1048576) (h1 : 1 ≤ a.length) (hlen : s.length + Lib.countB (str s) (str a) * b.length ≤ 140737488355328) : Snd Tryd.prog (gl m) 92 [S s, S a, S b] (S (Lib.replaceAll s a b)) :=
  snd_below (us := [.string (str s), .string (str a), .string (str b)]) rfl fun w zf h => by
    have := Tryd.strings_ReplaceAll (str s) (str a) (str b) m w (by rw [str_size]; omega) (tab0 h) (by rw [str_size]; exact h1) (by rw [str_size, str_size]; exact hlen)
    simp only [str_dataL] at this; exact this
end Go.At
/- Lines: the functions of layer 5, walked: the library's, splitting and joining. -/
namespace Go.Ln
open Go.At (gl kn kn_ok tab0 mixed index1 indexByte hasPrefix trimSuffix replaceAll)
open Go Go.Ev Go.Proofs
set_option linter.unusedVariables false
set_option linter.unusedSimpArgs false
attribute [local go_sem] eqs implies_true List.map_cons List.map_nil kl klL roD roL Option.map_some Option.map_none Option.getD_some Option.getD_none binVal binObl unVal if_true if_false eq_self passA frnD resD content getH getR getW viaNot viaSlot viaBox viaDeep viaMem List.contains_cons List.contains_nil grabs peeks okCells isCell place cellsOf chunk elt List.headD_cons List.length_cons List.length_nil List.take_succ_cons List.take_zero List.drop_succ_cons List.drop_zero List.nil_append List.cons_append List.append_nil List.all_cons List.all_nil plainC takeR setW over reCell List.getElem?_cons_zero List.getElem?_cons_succ List.set_cons_zero List.take_length outV resG plainV pack outVG outBx List.set_cons_succ Ref.idx Ref.addOff beq_self_eq_true bxL Option.bind_some writeR isLit viaBoxes capsPA boxPA nsOf noDup boxesAt argG passG passD rhoIn rhoOut idxIn tr trL List.getD_cons_zero gives pasOf isPtr Ins.d List.getD_cons_succ resL frnL
variable {m : Int}
/-! ### The library -/
/-! ### lines.Split -/
def psplit_l0' : AC := .seq (.seq (.reg (.seq [⟨(some (5, false)), none, .mov (.tmp 0 true) .peek⟩,
      ⟨(some (6, false)), none, .bin .neq (.tmp 5 false) (.cst (.string (str [])) (.lit (.string (str []))))⟩])) [0, 3, 6] []
  (.cond (.tmp 6 false)
    (.skip)
    (.exit 0))) [0, 3] []
  (.block 1 (.seq (.reg (.seq [⟨(some (7, false)), none, .mov (.tmp 0 true) .peek⟩,
      ⟨(some (8, false)), none, .call 86 [(.tmp 7 false), (.cst (.string (str [10])) (.lit (.string (str [10]))))]⟩,
      ⟨(some (9, false)), none, .bin .add (.tmp 8 false) (.cst (.int .i64 1) (.lit (.int .i64 1)))⟩,
      ⟨(some (4, true)), none, .mov (.tmp 9 false) .asg⟩])) [0, 3, 4] []
    (.seq (.seq (.reg (.seq [⟨(some (10, false)), none, .mov (.tmp 4 true) .peek⟩,
      ⟨(some (11, false)), none, .bin .eql (.tmp 10 false) (.cst (.int .i64 0) (.lit (.int .i64 0)))⟩])) [0, 3, 4, 11] []
    (.cond (.tmp 11 false)
      (.reg (.seq [⟨(some (12, false)), none, .mov (.tmp 0 true) .peek⟩,
      ⟨(some (13, false)), none, .len (.tmp 12 false)⟩,
      ⟨(some (4, true)), none, .mov (.tmp 13 false) .asg⟩]))
      (.skip))) [0, 3, 4] []
    (.seq (.reg (.seq [⟨(some (14, false)), none, .mov (.tmp 3 true) .take⟩,
      ⟨(some (15, false)), none, .mov (.tmp 0 true) .peek⟩,
      ⟨(some (16, false)), none, .mov (.tmp 4 true) .peek⟩,
      ⟨(some (17, false)), none, .sub (.tmp 15 false) none (some (.tmp 16 false))⟩,
      ⟨(some (18, false)), none, .buildS 1 1 [(.lit (.string (str [])))] [(0, 1, (.tmp 17 false))]⟩,
      ⟨(some (19, false)), none, .app 1 16 (.tmp 14 false) (.tmp 18 false)⟩,
      ⟨(some (3, true)), none, .mov (.tmp 19 false) .asg⟩])) [0, 3, 4] []
    (.reg (.seq [⟨(some (20, false)), none, .mov (.tmp 0 true) .peek⟩,
      ⟨(some (21, false)), none, .mov (.tmp 4 true) .peek⟩,
      ⟨(some (22, false)), none, .sub (.tmp 20 false) (some (.tmp 21 false)) none⟩,
      ⟨(some (0, true)), none, .mov (.tmp 22 false) .asg⟩]))))))
def psplit_l0 : AC := psplit_l0'
theorem psplit_l0_w (C : Kn) (K : Ex → St → Prop) (s : St) : vcC C psplit_l0 K s = vcC C psplit_l0' K s := nr rfl
def psplit_k1' : AC := .seq (.reg (.seq [⟨(some (23, false)), none, .mov (.tmp 3 true) .take⟩,
      ⟨(some (2, true)), none, .mov (.tmp 23 false) .asg⟩])) [2, 3] []
  (.ret)
def psplit_k1 : AC := psplit_k1'
theorem psplit_k1_w (C : Kn) (K : Ex → St → Prop) (s : St) : vcC C psplit_k1 K s = vcC C psplit_k1' K s := nr rfl
def psplit : AF := ⟨.seq (.reg (.seq [⟨(some (2, true)), none, .mov (.cst (.slice none 0 0) (.sl .own 1 [])) .asg⟩])) [0] []
  (.seq (.reg (.seq [⟨(some (3, true)), none, .mov (.cst (.slice none 0 0) (.sl .own 1 [])) .asg⟩])) [0, 3] []
  (.seq (.block 0 (.loop [0, 3] [] psplit_l0)) [3] [] psplit_k1)),
  [.tmp 2]⟩
theorem psplit_comp (m : Int) : compF Tryd.prog (gl m) [] Tryd.f49 = some psplit := by kernel_rfl
def rsplit_l0' : AC := .seq (.reg (.seq [⟨(some (9, false)), none, .bin .lss (.tmp 8 true) (.tmp 7 true)⟩])) [0, 3, 4, 7, 8, 9] []
  (.seq (.cond (.tmp 9 false)
    (.skip)
    (.exit 0)) [0, 3, 4, 7, 8] []
  (.seq (.block 1 (.seq (.reg (.seq [⟨(some (10, false)), none, .mov (.tmp 8 true) .take⟩,
      ⟨(some (5, true)), none, .mov (.tmp 10 false) .asg⟩])) [0, 3, 4, 5, 7, 8] []
    (.seq (.reg (.seq [⟨(some (11, false)), none, .mov (.tmp 0 true) .peek⟩,
      ⟨(some (12, false)), none, .mov (.tmp 5 true) .peek⟩,
      ⟨(some (13, false)), none, .idx (.tmp 11 false) (.tmp 12 false)⟩,
      ⟨(some (14, false)), none, .bin .eql (.tmp 13 false) (.cst (.int .u8 10) (.lit (.int .u8 10)))⟩])) [0, 3, 4, 5, 7, 8, 14] []
    (.cond (.tmp 14 false)
      (.seq (.reg (.seq [⟨(some (15, false)), none, .mov (.tmp 3 true) .take⟩,
      ⟨(some (16, false)), none, .mov (.tmp 0 true) .peek⟩,
      ⟨(some (17, false)), none, .mov (.tmp 4 true) .peek⟩,
      ⟨(some (18, false)), none, .mov (.tmp 5 true) .peek⟩,
      ⟨(some (19, false)), none, .bin .add (.tmp 18 false) (.cst (.int .i64 1) (.lit (.int .i64 1)))⟩,
      ⟨(some (20, false)), none, .sub (.tmp 16 false) (some (.tmp 17 false)) (some (.tmp 19 false))⟩,
      ⟨(some (21, false)), none, .buildS 1 1 [(.lit (.string (str [])))] [(0, 1, (.tmp 20 false))]⟩,
      ⟨(some (22, false)), none, .app 1 16 (.tmp 15 false) (.tmp 21 false)⟩,
      ⟨(some (3, true)), none, .mov (.tmp 22 false) .asg⟩])) [0, 3, 5, 7, 8] []
      (.reg (.seq [⟨(some (23, false)), none, .mov (.tmp 5 true) .peek⟩,
      ⟨(some (24, false)), none, .bin .add (.tmp 23 false) (.cst (.int .i64 1) (.lit (.int .i64 1)))⟩,
      ⟨(some (4, true)), none, .mov (.tmp 24 false) .asg⟩])))
      (.skip))))) [0, 3, 4, 7, 8] []
  (.reg (.seq [⟨(some (25, false)), none, .bin .add (.tmp 8 true) (.cst (.int .i64 1) (.lit (.int .i64 1)))⟩,
      ⟨(some (8, true)), none, .mov (.tmp 25 false) .peek⟩]))))
def rsplit_l0 : AC := rsplit_l0'
theorem rsplit_l0_w (C : Kn) (K : Ex → St → Prop) (s : St) : vcC C rsplit_l0 K s = vcC C rsplit_l0' K s := nr rfl
def rsplit_k1' : AC := .seq (.seq (.reg (.seq [⟨(some (26, false)), none, .mov (.tmp 4 true) .peek⟩,
      ⟨(some (27, false)), none, .mov (.tmp 0 true) .peek⟩,
      ⟨(some (28, false)), none, .len (.tmp 27 false)⟩,
      ⟨(some (29, false)), none, .bin .lss (.tmp 26 false) (.tmp 28 false)⟩])) [0, 3, 4, 29] []
  (.cond (.tmp 29 false)
    (.reg (.seq [⟨(some (30, false)), none, .mov (.tmp 3 true) .take⟩,
      ⟨(some (31, false)), none, .mov (.tmp 0 true) .peek⟩,
      ⟨(some (32, false)), none, .mov (.tmp 4 true) .peek⟩,
      ⟨(some (33, false)), none, .sub (.tmp 31 false) (some (.tmp 32 false)) none⟩,
      ⟨(some (34, false)), none, .buildS 1 1 [(.lit (.string (str [])))] [(0, 1, (.tmp 33 false))]⟩,
      ⟨(some (35, false)), none, .app 1 16 (.tmp 30 false) (.tmp 34 false)⟩,
      ⟨(some (3, true)), none, .mov (.tmp 35 false) .asg⟩]))
    (.skip))) [3] []
  (.seq (.reg (.seq [⟨(some (36, false)), none, .mov (.tmp 3 true) .take⟩,
      ⟨(some (2, true)), none, .mov (.tmp 36 false) .asg⟩])) [2, 3] []
  (.ret))
def rsplit_k1 : AC := rsplit_k1'
theorem rsplit_k1_w (C : Kn) (K : Ex → St → Prop) (s : St) : vcC C rsplit_k1 K s = vcC C rsplit_k1' K s := nr rfl
def rsplit : AF := ⟨.seq (.reg (.seq [⟨(some (2, true)), none, .mov (.cst (.slice none 0 0) (.sl .own 1 [])) .asg⟩])) [0] []
  (.seq (.reg (.seq [⟨(some (3, true)), none, .mov (.cst (.slice none 0 0) (.sl .own 1 [])) .asg⟩])) [0, 3] []
  (.seq (.reg (.seq [⟨(some (4, true)), none, .mov (.cst (.int .i64 0) (.lit (.int .i64 0))) .asg⟩])) [0, 3, 4] []
  (.seq (.seq (.reg (.seq [⟨(some (6, false)), none, .mov (.tmp 0 true) .peek⟩,
      ⟨(some (7, true)), none, .len (.tmp 6 false)⟩,
      ⟨(some (8, true)), none, .mov (.cst (.int .i64 0) (.lit (.int .i64 0))) .peek⟩])) [0, 3, 4, 7, 8] []
  (.block 0 (.loop [0, 3, 4, 7, 8] [] rsplit_l0))) [0, 3, 4] [] rsplit_k1))),
  [.tmp 2]⟩
theorem rsplit_comp (m : Int) : compF Tryd.prog (gl m) [] Tryd.f67 = some rsplit := by kernel_rfl
theorem psplit_loop (n : Nat) : ∀ (s : Bs) (hn : s.length = n) (acc : List Bs) (ha : acc.length + s.length ≤ 1048576),
    vcL (kn m) [0, 3] [] psplit_l0 (blockK 0 (seqK (kn m) [3] [] psplit_k1 (outOk [.tmp 2] (.sl .own 1 (ss (acc ++ lines s)))))) (mkS [(0, S s), (3, .sl .own 1 (ss acc))] []) := by
  induction n using Nat.strongRecOn with
  | _ n ih =>
  intro s hn acc ha
  apply round
  simp only [psplit_l0_w, psplit_l0', go_sem, reduceCtorEq, Nat.reduceEqDiff, reduceIte, Nat.reduceAdd, Nat.reduceSub, Nat.reduceLeDiff, Int.reduceToNat, Nat.reduceBEq]
  refine split_c (fun h => ?_) (fun h => ?_)
  · have hne : s ≠ [] := by simpa using h
    have hpos : 0 < s.length := by cases s; exact absurd rfl hne; simp
    simp only [go_sem, reduceCtorEq, Nat.reduceEqDiff, reduceIte, Nat.reduceAdd, Nat.reduceSub, Nat.reduceLeDiff, Int.reduceToNat, Nat.reduceBEq]
    refine of_call (index1 s 10) ?_
    simp only [idx_eq]
    cases hi : idx s 10 with
    | none =>
      simp only [Int.reduceNeg, go_sem, reduceCtorEq, Nat.reduceEqDiff, reduceIte, Nat.reduceAdd, Nat.reduceSub, Nat.reduceLeDiff, Int.reduceToNat, Nat.reduceBEq]
      rw [show IntKind.i64.wrap (-1 + 1) = 0 from rfl]
      simp only [BEq.rfl, go_sem, reduceCtorEq, Nat.reduceEqDiff, reduceIte, Nat.reduceAdd, Nat.reduceSub, Nat.reduceLeDiff, Int.reduceToNat, Nat.reduceBEq]
      repeat (refine ⟨by (try simp only [List.length_append, List.length_cons, List.length_nil, List.length_drop, List.length_take]); omega, ?_⟩)
      have := ih 0 (by omega) [] rfl (acc ++ [s]) (by simp; omega)
      rw [lines_none hi hne]
      simpa [lines] using this
    | some k =>
      have hm := idx_lt hi
      simp only [go_sem, reduceCtorEq, Nat.reduceEqDiff, reduceIte, Nat.reduceAdd, Nat.reduceSub, Nat.reduceLeDiff, Int.reduceToNat, Nat.reduceBEq]
      rw [wrapN (k + 1) (by omega) (by omega), show (((k + 1 : Nat) : Int) == 0) = false by simp; omega]
      simp only [go_sem, reduceCtorEq, Nat.reduceEqDiff, reduceIte, Nat.reduceAdd, Nat.reduceSub, Nat.reduceLeDiff, Int.reduceToNat, Nat.reduceBEq]
      repeat (refine ⟨by (try simp only [List.length_append, List.length_cons, List.length_nil, List.length_drop, List.length_take]); omega, ?_⟩)
      have := ih (s.length - (k + 1)) (by omega) (s.drop (k + 1)) (by simp) (acc ++ [s.take (k + 1)]) (by simp; omega)
      rw [lines_some hi]
      simpa using this
  · have : s = [] := by simpa using h
    subst this
    simp only [psplit_k1_w, psplit_k1', go_sem, reduceCtorEq, Nat.reduceEqDiff, reduceIte, Nat.reduceAdd, Nat.reduceSub, Nat.reduceLeDiff, Int.reduceToNat, Nat.reduceBEq, lines]
theorem psplit_snd (s : Bs) (hs : s.length ≤ 1048576) : Snd Tryd.prog (gl m) 49 [S s] (.sl .own 1 (ss (lines s))) := by
  refine snd_of (fn := Tryd.f49) (af := psplit) Tryd.func49 (psplit_comp m) mixed (kn_ok m) (Nat.le_of_ble_eq_true rfl) ?_
  simp only [psplit, go_sem, reduceCtorEq, Nat.reduceEqDiff, reduceIte, Nat.reduceAdd, Nat.reduceSub, Nat.reduceLeDiff, Int.reduceToNat, Nat.reduceBEq]
  exact psplit_loop _ s rfl [] (by simpa using hs)
/-! ### the reference's Split -/
theorem drop_drop_ (s : Bs) (a b : Nat) : (s.drop a).drop b = s.drop (a + b) := by rw [List.drop_drop]
theorem take_drop_ (s : Bs) (a b : Nat) : (s.take b).drop a = (s.drop a).take (b - a) := by rw [List.drop_take]
theorem rsplit_loop (s : Bs) (hs : s.length ≤ 1048576) (n : Nat) : ∀ (i k : Nat) (hn : s.length - i = n) (hki : k ≤ i) (hi : i ≤ s.length) (hno : ∀ j, k ≤ j → j < i → s[j]? ≠ some 10) (acc : List Bs) (ha : acc.length ≤ k),
    vcL (kn m) [0, 3, 4, 7, 8] [] rsplit_l0 (blockK 0 (seqK (kn m) [0, 3, 4] [] rsplit_k1 (outOk [.tmp 2] (.sl .own 1 (ss (acc ++ lines (s.drop k))))))) (mkS [(0, S s), (3, .sl .own 1 (ss acc)), (4, N k), (7, N s.length), (8, N i)] []) := by
  induction n with
  | zero =>
    intro i k hn hki hi hno acc ha
    have hil : i = s.length := by omega
    subst hil
    apply round
    simp only [rsplit_l0_w, rsplit_l0', go_sem, reduceCtorEq, Nat.reduceEqDiff, reduceIte, Nat.reduceAdd, Nat.reduceSub, Nat.reduceLeDiff, Int.reduceToNat, Nat.reduceBEq]
    rw [show decide ((s.length : Int) < s.length) = false by simp]
    simp only [rsplit_k1_w, rsplit_k1', go_sem, reduceCtorEq, Nat.reduceEqDiff, reduceIte, Nat.reduceAdd, Nat.reduceSub, Nat.reduceLeDiff, Int.reduceToNat, Nat.reduceBEq]
    refine split_c (fun h => ?_) (fun h => ?_)
    · have hk : k < s.length := by simpa using h
      simp only [go_sem, reduceCtorEq, Nat.reduceEqDiff, reduceIte, Nat.reduceAdd, Nat.reduceSub, Nat.reduceLeDiff, Int.reduceToNat, Nat.reduceBEq]
      repeat (refine ⟨by (try simp only [List.length_append, List.length_cons, List.length_nil, List.length_drop, List.length_take]); omega, ?_⟩)
      have hne : s.drop k ≠ [] := by intro e; have := congrArg List.length e; simp at this; omega
      have : idx (s.drop k) 10 = none := idx_none fun j hj => by rw [List.getElem?_drop]; exact hno _ (by omega) (by simp at hj; omega)
      rw [lines_none this hne]
    · have hk : k = s.length := by have : ¬ k < s.length := by simpa using h
                                   omega
      subst hk
      simp only [go_sem, reduceCtorEq, Nat.reduceEqDiff, reduceIte, Nat.reduceAdd, Nat.reduceSub, Nat.reduceLeDiff, Int.reduceToNat, Nat.reduceBEq]
      simp [lines]
  | succ n ih =>
    intro i k hn hki hi hno acc ha
    have hil : i < s.length := by omega
    apply round
    simp only [rsplit_l0_w, rsplit_l0', go_sem, reduceCtorEq, Nat.reduceEqDiff, reduceIte, Nat.reduceAdd, Nat.reduceSub, Nat.reduceLeDiff, Int.reduceToNat, Nat.reduceBEq]
    rw [show decide ((i : Int) < s.length) = true by simpa using hil]
    simp only [go_sem, reduceCtorEq, Nat.reduceEqDiff, reduceIte, Nat.reduceAdd, Nat.reduceSub, Nat.reduceLeDiff, Int.reduceToNat, Nat.reduceBEq]
    repeat (refine ⟨by (try simp only [List.length_append, List.length_cons, List.length_nil, List.length_drop, List.length_take]); omega, ?_⟩)
    simp only [getE hil, go_sem, reduceCtorEq, Nat.reduceEqDiff, reduceIte, Nat.reduceAdd, Nat.reduceSub, Nat.reduceLeDiff, Int.reduceToNat, Nat.reduceBEq]
    refine split_c (fun h => ?_) (fun h => ?_)
    · have hc : s[i] = 10 := u8_t h rfl
      simp only [go_sem, reduceCtorEq, Nat.reduceEqDiff, reduceIte, Nat.reduceAdd, Nat.reduceSub, Nat.reduceLeDiff, Int.reduceToNat, Nat.reduceBEq]
      rw [wrapN (i + 1) (by omega) (by omega)]
      simp only [go_sem, reduceCtorEq, Nat.reduceEqDiff, reduceIte, Nat.reduceAdd, Nat.reduceSub, Nat.reduceLeDiff, Int.reduceToNat, Nat.reduceBEq]
      repeat (refine ⟨by (try simp only [List.length_append, List.length_cons, List.length_nil, List.length_drop, List.length_take]); omega, ?_⟩)
      have hidx : idx (s.drop k) 10 = some (i - k) := idx_of (by rw [List.getElem?_drop, show k + (i - k) = i by omega, getE hil, hc]) fun j hj => by rw [List.getElem?_drop]; exact hno _ (by omega) (by omega)
      have := ih (i + 1) (i + 1) (by omega) (by omega) (by omega) (fun j h1 h2 => by omega) (acc ++ [(s.take (i + 1)).drop k]) (by simp; omega)
      rw [lines_some hidx, drop_drop_, show k + (i - k + 1) = i + 1 by omega]
      rw [take_drop_, show i + 1 - k = i - k + 1 by omega] at this ⊢
      simp only [List.append_assoc, List.cons_append, List.nil_append] at this ⊢
      exact this
    · have hc : s[i] ≠ 10 := u8_f h rfl
      simp only [go_sem, reduceCtorEq, Nat.reduceEqDiff, reduceIte, Nat.reduceAdd, Nat.reduceSub, Nat.reduceLeDiff, Int.reduceToNat, Nat.reduceBEq]
      rw [wrapN (i + 1) (by omega) (by omega)]
      exact ih (i + 1) k (by omega) (by omega) (by omega) (fun j h1 h2 => by
        by_cases e : j = i
        · subst e; rw [getE hil]; simpa using hc
        · exact hno j h1 (by omega)) acc ha
theorem rsplit_snd (s : Bs) (hs : s.length ≤ 1048576) : Snd Tryd.prog (gl m) 67 [S s] (.sl .own 1 (ss (lines s))) := by
  refine snd_of (fn := Tryd.f67) (af := rsplit) Tryd.func67 (rsplit_comp m) mixed (kn_ok m) (Nat.le_of_ble_eq_true rfl) ?_
  simp only [rsplit, go_sem, reduceCtorEq, Nat.reduceEqDiff, reduceIte, Nat.reduceAdd, Nat.reduceSub, Nat.reduceLeDiff, Int.reduceToNat, Nat.reduceBEq]
  exact rsplit_loop s hs _ 0 0 rfl (by omega) (by omega) (fun j h1 h2 => by omega) [] (by simp)
/-! ### Join -/
/-! ### First -/
end Go.Ln
/- Lines: the ends of lines. -/
namespace Go.Ln
open Go.At (gl kn kn_ok tab0 mixed index1 indexByte hasPrefix trimSuffix replaceAll)
open Go Go.Ev Go.Proofs
set_option linter.unusedVariables false
set_option linter.unusedSimpArgs false
attribute [local go_sem] eqs implies_true List.map_cons List.map_nil kl klL roD roL Option.map_some Option.map_none Option.getD_some Option.getD_none binVal binObl unVal if_true if_false eq_self passA frnD resD content getH getR getW viaNot viaSlot viaBox viaDeep viaMem List.contains_cons List.contains_nil grabs peeks okCells isCell place cellsOf chunk elt List.headD_cons List.length_cons List.length_nil List.take_succ_cons List.take_zero List.drop_succ_cons List.drop_zero List.nil_append List.cons_append List.append_nil List.all_cons List.all_nil plainC takeR setW over reCell List.getElem?_cons_zero List.getElem?_cons_succ List.set_cons_zero List.take_length outV resG plainV pack outVG outBx List.set_cons_succ Ref.idx Ref.addOff beq_self_eq_true bxL Option.bind_some writeR isLit viaBoxes capsPA boxPA nsOf noDup boxesAt argG passG passD rhoIn rhoOut idxIn tr trL List.getD_cons_zero gives pasOf isPtr Ins.d List.getD_cons_succ resL frnL
variable {m : Int}
end Go.Ln

