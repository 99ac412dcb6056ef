import Derived.Test.YtcahaecjjochbaaDoorAtGb
import Derived.Test.YtcahaecjjochbaaDoorAtA
set_option linter.unusedVariables false
set_option linter.unusedSimpArgs false
/- Ignore: paths and folders. -/
namespace Go.At
open Go Go.Ev Go.Proofs
open Go.Ln (lines lf crlf binary idx idx_eq)
open Go.Gb (isPath isPat pis_snd ris_snd)
set_option linter.unusedVariables false
set_option linter.unusedSimpArgs false
attribute [local go_sem] eqs implies_true List.map_cons List.map_nil kl klL roD roL Option.map_some Option.map_none Option.getD_some Option.getD_none binVal binObl unVal if_true if_false eq_self passA frnD resD content getH getR getW viaNot viaSlot viaBox viaDeep viaMem List.contains_cons List.contains_nil grabs peeks okCells isCell place cellsOf chunk elt List.headD_cons List.length_cons List.length_nil List.take_succ_cons List.take_zero List.drop_succ_cons List.drop_zero List.nil_append List.cons_append List.append_nil List.all_cons List.all_nil plainC takeR setW over reCell List.getElem?_cons_zero List.getElem?_cons_succ List.set_cons_zero List.take_length outV resG plainV pack outVG outBx List.set_cons_succ Ref.idx Ref.addOff beq_self_eq_true bxL Option.bind_some writeR isLit viaBoxes capsPA boxPA nsOf noDup boxesAt argG passG passD rhoIn rhoOut idxIn tr trL List.getD_cons_zero gives pasOf isPtr Ins.d List.getD_cons_succ resL frnL
variable {m : Int}
def pwithin : AF := ⟨.seq (.reg (.seq [⟨(some (4, true)), none, .mov (.cst (.bool false) (.lit (.bool false))) .asg⟩])) [0, 1] []
  (.seq (.seq (.reg (.seq [⟨(some (5, false)), none, .mov (.tmp 0 true) .peek⟩,
      ⟨(some (6, false)), none, .bin .eql (.tmp 5 false) (.cst (.string (str [])) (.lit (.string (str []))))⟩])) [0, 1, 6] []
  (.cond (.tmp 6 false)
    (.seq (.reg (.seq [⟨(some (7, false)), none, .mov (.tmp 1 true) .peek⟩,
      ⟨(some (8, false)), none, .bin .neq (.tmp 7 false) (.cst (.string (str [])) (.lit (.string (str []))))⟩,
      ⟨(some (4, true)), none, .mov (.tmp 8 false) .asg⟩])) [4] []
    (.ret))
    (.skip))) [0, 1] []
  (.seq (.reg (.seq [⟨(some (9, false)), none, .mov (.tmp 1 true) .peek⟩,
      ⟨(some (10, false)), none, .len (.tmp 9 false)⟩,
      ⟨(some (11, false)), none, .mov (.tmp 0 true) .peek⟩,
      ⟨(some (12, false)), none, .len (.tmp 11 false)⟩,
      ⟨(some (13, false)), none, .bin .add (.tmp 12 false) (.cst (.int .i64 1) (.lit (.int .i64 1)))⟩,
      ⟨(some (14, false)), none, .bin .gtr (.tmp 10 false) (.tmp 13 false)⟩,
      ⟨(some (15, false)), none, .mov (.tmp 14 false) .peek⟩,
      ⟨(some (16, false)), (some (15, true)), .mov (.tmp 1 true) .peek⟩,
      ⟨(some (17, false)), (some (15, true)), .mov (.tmp 0 true) .peek⟩,
      ⟨(some (18, false)), (some (15, true)), .len (.tmp 17 false)⟩,
      ⟨(some (19, false)), (some (15, true)), .idx (.tmp 16 false) (.tmp 18 false)⟩,
      ⟨(some (20, false)), (some (15, true)), .bin .eql (.tmp 19 false) (.cst (.int .u8 47) (.lit (.int .u8 47)))⟩,
      ⟨(some (21, false)), none, .pick (.tmp 15 false) (.tmp 20 false) (.cst (.bool false) (.lit (.bool false)))⟩,
      ⟨(some (22, false)), none, .mov (.tmp 21 false) .peek⟩,
      ⟨(some (23, false)), (some (22, true)), .mov (.tmp 1 true) .peek⟩,
      ⟨(some (24, false)), (some (22, true)), .mov (.tmp 0 true) .peek⟩,
      ⟨(some (25, false)), (some (22, true)), .len (.tmp 24 false)⟩,
      ⟨(some (26, false)), (some (22, true)), .sub (.tmp 23 false) none (some (.tmp 25 false))⟩,
      ⟨(some (27, false)), (some (22, true)), .mov (.tmp 0 true) .peek⟩,
      ⟨(some (28, false)), (some (22, true)), .bin .eql (.tmp 26 false) (.tmp 27 false)⟩,
      ⟨(some (29, false)), none, .pick (.tmp 22 false) (.tmp 28 false) (.cst (.bool false) (.lit (.bool false)))⟩,
      ⟨(some (4, true)), none, .mov (.tmp 29 false) .asg⟩])) [4] []
  (.ret))),
  [.tmp 4]⟩
theorem pwithin_comp (m : Int) : compF Tryd.prog (gl m) [] Tryd.f70 = some pwithin := by kernel_rfl
def pname : AF := ⟨.seq (.reg (.seq [⟨(some (2, true)), none, .mov (.cst (.string (str [])) (.lit (.string (str [])))) .asg⟩])) [0] []
  (.seq (.reg (.seq [⟨(some (3, false)), none, .mov (.tmp 0 true) .peek⟩,
      ⟨(some (4, false)), none, .mov (.tmp 0 true) .peek⟩,
      ⟨(some (5, false)), none, .call 104 [(.tmp 4 false), (.cst (.int .u8 47) (.lit (.int .u8 47)))]⟩,
      ⟨(some (6, false)), none, .bin .add (.tmp 5 false) (.cst (.int .i64 1) (.lit (.int .i64 1)))⟩,
      ⟨(some (7, false)), none, .sub (.tmp 3 false) (some (.tmp 6 false)) none⟩,
      ⟨(some (2, true)), none, .mov (.tmp 7 false) .asg⟩])) [2] []
  (.ret)),
  [.tmp 2]⟩
theorem pname_comp (m : Int) : compF Tryd.prog (gl m) [] Tryd.f72 = some pname := by kernel_rfl
def pfolder : AF := ⟨.seq (.reg (.seq [⟨(some (2, true)), none, .mov (.cst (.bool false) (.lit (.bool false))) .asg⟩])) [0] []
  (.seq (.reg (.seq [⟨(some (3, false)), none, .mov (.tmp 0 true) .peek⟩,
      ⟨(some (4, false)), none, .bin .eql (.tmp 3 false) (.cst (.string (str [])) (.lit (.string (str []))))⟩,
      ⟨(some (5, false)), none, .mov (.tmp 4 false) .peek⟩,
      ⟨(some (6, false)), (some (5, false)), .mov (.tmp 0 true) .peek⟩,
      ⟨(some (7, false)), (some (5, false)), .call 69 [(.tmp 6 false)]⟩,
      ⟨(some (8, false)), none, .pick (.tmp 5 false) (.cst (.bool true) (.lit (.bool true))) (.tmp 7 false)⟩,
      ⟨(some (2, true)), none, .mov (.tmp 8 false) .asg⟩])) [2] []
  (.ret)),
  [.tmp 2]⟩
theorem pfolder_comp (m : Int) : compF Tryd.prog (gl m) [] Tryd.f63 = some pfolder := by kernel_rfl
theorem str_bang {s : Bs} {j : Nat} (h : j < s.length) : (str s).data[j]! = s[j] := by
  simp [str, h]
theorem u8c_47 {c : UInt8} (h : (c.toNat : Int) = 47) : c = 47 := UInt8.toNat_inj.1 (by rw [show (47 : UInt8).toNat = 47 by rfl]; omega)
theorem lastB_eq (s : Bs) : Lib.lastIndexByte (str s) 47 = lastI s := by
  rcases Lib.lastIndexByte_spec (str s) 47 with ⟨h, hn⟩ | ⟨i, hi, h, hc, hn⟩
  · rw [h, lastI]
    cases hl : lastS s with
    | none => rfl
    | some n =>
      obtain ⟨h1, h2, _⟩ := lastS_lt hl
      refine absurd ?_ (hn n (by rw [str_size]; exact h1))
      rw [str_bang h1]
      rw [List.getElem?_eq_getElem h1] at h2
      rw [Option.some.inj h2]; rfl
  · rw [str_size] at hi
    rw [str_bang hi] at hc
    have h1 : s[i]? = some 47 := by rw [List.getElem?_eq_getElem hi, u8c_47 hc]
    rw [h, lastI, lastS_of h1]
    intro j hj he
    obtain ⟨hj2, e⟩ := List.getElem?_eq_some_iff.1 he
    refine hn j hj (by rw [str_size]; exact hj2) ?_
    rw [str_bang hj2, e]; rfl
theorem lastByte (s : Bs) (hs : s.length ≤ 1048576) : Snd Tryd.prog (gl m) 104 [S s, .lit (.int .u8 47)] (I (lastI s)) :=
  snd_same (us := [.string (str s), .int .u8 47]) rfl fun w zf h => by
    have := Tryd.strings_LastIndexByte (str s) 47 (by rw [str_size]; omega) w
    rw [lastB_eq] at this; exact this
theorem lastI_bounds (p : Bs) : -1 ≤ lastI p ∧ lastI p < p.length := by
  unfold lastI
  cases h : lastS p with
  | none => simp only; omega
  | some n => have := (lastS_lt h).1; simp only; omega
theorem u8_47 (c : UInt8) : ((c.toNat : Int) == 47) = (c == 47) := by
  rw [Bool.eq_iff_iff, beq_iff_eq, beq_iff_eq, ← UInt8.toNat_inj]
  show _ ↔ c.toNat = 47
  omega
theorem pwithin_snd (d p : Bs) (hd : d.length ≤ 1048576) (hp : p.length ≤ 1048576) : Snd Tryd.prog (gl m) 70 [S d, S p] (B (within d p)) := by
  refine snd_of (fn := Tryd.f70) (af := pwithin) Tryd.func70 (pwithin_comp m) mixed (kn_ok m) (Nat.le_of_ble_eq_true rfl) ?_
  simp only [pwithin, go_sem, reduceCtorEq, Nat.reduceEqDiff, reduceIte, Nat.reduceAdd, Nat.reduceSub, Nat.reduceLeDiff, Int.reduceToNat, Nat.reduceBEq]
  by_cases h0 : d = []
  · subst h0
    simp only [se_t (show ([] : Bs) = [] from rfl), go_sem, reduceCtorEq, Nat.reduceEqDiff, reduceIte, Nat.reduceAdd, Nat.reduceSub, Nat.reduceLeDiff, Int.reduceToNat, Nat.reduceBEq]
    repeat ((with_reducible apply And.intro); (case left => first | omega | (simp only [List.length_append, List.length_cons, List.length_nil, List.length_drop, List.length_take, List.length_tail, List.length_dropLast, fs_length, ss_length, bs_length, ns_length]; omega)))
    rw [within_nil]
    by_cases h1 : p = []
    · subst h1; rfl
    · rw [sn_t h1, decide_eq_true h1]
  have q1 : IntKind.i64.wrap ((d.length : Int) + 1) = ((d.length + 1 : Nat) : Int) := wrapN _ (by omega) (by omega)
  simp only [se_f h0, q1, go_sem, reduceCtorEq, Nat.reduceEqDiff, reduceIte, Nat.reduceAdd, Nat.reduceSub, Nat.reduceLeDiff, Int.reduceToNat, Nat.reduceBEq]
  repeat ((with_reducible apply And.intro); (case left => first | omega | (simp only [List.length_append, List.length_cons, List.length_nil, List.length_drop, List.length_take, List.length_tail, List.length_dropLast, fs_length, ss_length, bs_length, ns_length]; omega)))
  rw [within, if_neg h0]
  by_cases h1 : d.length + 1 < p.length
  · simp only [gt_t h1, decide_eq_true h1, go_sem, reduceCtorEq, Nat.reduceEqDiff, reduceIte, Nat.reduceAdd, Nat.reduceSub, Nat.reduceLeDiff, Int.reduceToNat, Nat.reduceBEq]
    have g := getE (l := p) (i := d.length) (by omega)
    generalize p[d.length] = c at g
    simp only [g, go_sem, reduceCtorEq, Nat.reduceEqDiff, reduceIte, Nat.reduceAdd, Nat.reduceSub, Nat.reduceLeDiff, Int.reduceToNat, Nat.reduceBEq]
    repeat ((with_reducible apply And.intro); (case left => first | omega | (simp only [List.length_append, List.length_cons, List.length_nil, List.length_drop, List.length_take, List.length_tail, List.length_dropLast, fs_length, ss_length, bs_length, ns_length]; omega)))
    repeat (refine ⟨by (try simp only [List.length_append, List.length_cons, List.length_nil, List.length_drop, List.length_take]); omega, ?_⟩)
    rw [u8_47]
    by_cases h2 : c = 47
    · subst h2
      simp only [go_sem, reduceCtorEq, Nat.reduceEqDiff, reduceIte, Nat.reduceAdd, Nat.reduceSub, Nat.reduceLeDiff, Int.reduceToNat, Nat.reduceBEq]
      repeat ((with_reducible apply And.intro); (case left => first | omega | (simp only [List.length_append, List.length_cons, List.length_nil, List.length_drop, List.length_take, List.length_tail, List.length_dropLast, fs_length, ss_length, bs_length, ns_length]; omega)))
      repeat (refine ⟨by (try simp only [List.length_append, List.length_cons, List.length_nil, List.length_drop, List.length_take]); omega, ?_⟩)
      by_cases h3 : p.take d.length = d
      · rw [se_t h3, decide_eq_true h3]; try rfl
      · rw [se_f h3, decide_eq_false h3]; try rfl
    · rw [show (c == 47) = false from beq_false_of_ne h2]
      simp only [go_sem, reduceCtorEq, Nat.reduceEqDiff, reduceIte, Nat.reduceAdd, Nat.reduceSub, Nat.reduceLeDiff, Int.reduceToNat, Nat.reduceBEq]
      repeat ((with_reducible apply And.intro); (case left => first | omega | (simp only [List.length_append, List.length_cons, List.length_nil, List.length_drop, List.length_take, List.length_tail, List.length_dropLast, fs_length, ss_length, bs_length, ns_length]; omega)))
      rw [show (some c == some (47 : UInt8)) = false from beq_false_of_ne fun h => h2 (Option.some.inj h)]
      rfl
  · simp only [gt_f h1, decide_eq_false h1, go_sem, reduceCtorEq, Nat.reduceEqDiff, reduceIte, Nat.reduceAdd, Nat.reduceSub, Nat.reduceLeDiff, Int.reduceToNat, Nat.reduceBEq]
    rfl
theorem pname_snd (p : Bs) (hp : p.length ≤ 1048576) : Snd Tryd.prog (gl m) 72 [S p] (S (name p)) := by
  refine snd_of (fn := Tryd.f72) (af := pname) Tryd.func72 (pname_comp m) mixed (kn_ok m) (Nat.le_of_ble_eq_true rfl) ?_
  simp only [pname, go_sem, reduceCtorEq, Nat.reduceEqDiff, reduceIte, Nat.reduceAdd, Nat.reduceSub, Nat.reduceLeDiff, Int.reduceToNat, Nat.reduceBEq]
  have hb := lastI_bounds p
  have q1 : IntKind.i64.wrap (lastI p + 1) = lastI p + 1 := wrap_in (by omega) (by omega)
  repeat ((with_reducible apply And.intro); (case left => first | omega | (simp only [List.length_append, List.length_cons, List.length_nil, List.length_drop, List.length_take, List.length_tail, List.length_dropLast, fs_length, ss_length, bs_length, ns_length]; omega)))
  refine of_call (lastByte p hp) ?_
  simp only [go_sem, reduceCtorEq, Nat.reduceEqDiff, reduceIte, Nat.reduceAdd, Nat.reduceSub, Nat.reduceLeDiff, Int.reduceToNat, Nat.reduceBEq]
  repeat ((with_reducible apply And.intro); (case left => first | omega | (simp only [List.length_append, List.length_cons, List.length_nil, List.length_drop, List.length_take, List.length_tail, List.length_dropLast, fs_length, ss_length, bs_length, ns_length]; omega)))
  simp only [q1, go_sem, reduceCtorEq, Nat.reduceEqDiff, reduceIte, Nat.reduceAdd, Nat.reduceSub, Nat.reduceLeDiff, Int.reduceToNat, Nat.reduceBEq]
  repeat ((with_reducible apply And.intro); (case left => first | omega | (simp only [List.length_append, List.length_cons, List.length_nil, List.length_drop, List.length_take, List.length_tail, List.length_dropLast, fs_length, ss_length, bs_length, ns_length]; omega)))
  unfold name lastI
  cases lastS p with
  | none => rfl
  | some n => rfl
theorem pfolder_snd (d : Bs) (hd : d.length ≤ 1048575) : Snd Tryd.prog (gl m) 63 [S d] (B (isFolder d)) := by
  refine snd_of (fn := Tryd.f63) (af := pfolder) Tryd.func63 (pfolder_comp m) mixed (kn_ok m) (Nat.le_of_ble_eq_true rfl) ?_
  simp only [pfolder, go_sem, reduceCtorEq, Nat.reduceEqDiff, reduceIte, Nat.reduceAdd, Nat.reduceSub, Nat.reduceLeDiff, Int.reduceToNat, Nat.reduceBEq]
  unfold isFolder
  by_cases h : d = []
  · simp only [se_t h, decide_eq_true h, go_sem, reduceCtorEq, Nat.reduceEqDiff, reduceIte, Nat.reduceAdd, Nat.reduceSub, Nat.reduceLeDiff, Int.reduceToNat, Nat.reduceBEq]; try rfl
  · simp only [se_f h, decide_eq_false h, go_sem, reduceCtorEq, Nat.reduceEqDiff, reduceIte, Nat.reduceAdd, Nat.reduceSub, Nat.reduceLeDiff, Int.reduceToNat, Nat.reduceBEq]
    repeat ((with_reducible apply And.intro); (case left => first | omega | (simp only [List.length_append, List.length_cons, List.length_nil, List.length_drop, List.length_take, List.length_tail, List.length_dropLast, fs_length, ss_length, bs_length, ns_length]; omega)))
    refine of_call (pis_snd d (by omega)) ?_
    simp only [go_sem, reduceCtorEq, Nat.reduceEqDiff, reduceIte, Nat.reduceAdd, Nat.reduceSub, Nat.reduceLeDiff, Int.reduceToNat, Nat.reduceBEq]
    repeat ((with_reducible apply And.intro); (case left => first | omega | (simp only [List.length_append, List.length_cons, List.length_nil, List.length_drop, List.length_take, List.length_tail, List.length_dropLast, fs_length, ss_length, bs_length, ns_length]; omega)))
    try rfl
/-! states of a rule that is read; rows of rules -/
def fR (r : Rule) : List Value := [.string (str r.1), .string (str r.2.1), .bool r.2.2.1, .bool r.2.2.2.1, .bool r.2.2.2.2]
def ruleT (r : Rule) : AV := .agg [S r.1, S r.2.1, B r.2.2.1, B r.2.2.2.1, B r.2.2.2.2]
theorem fs_getR {l : List Rule} {i : Nat} (h : i < l.length) : (fs fR l)[i]? = some (ruleT l[i]) := fs_get fR l h
theorem fs_snocR (l : List Rule) (r : Rule) : fs fR l ++ [.agg [S r.1, S r.2.1, B r.2.2.1, B r.2.2.2.1, B r.2.2.2.2]] = fs fR (l ++ [r]) := fs_snoc fR l r
abbrev P4 : AV := .ptr ⟨.box 4 0, []⟩
abbrev P6 : AV := .ptr ⟨.box 6 0, []⟩
abbrev Z5 : List AV := [S [], S [], B false, B false, B false]
abbrev rst (s : Bs) (x : List AV) : St := mkS [(0, S s), (4, P4), (6, P6)] [(4, some Z5), (6, some x)]
end Go.At
/- Ignore: rules. -/
namespace Go.At
open Go Go.Ev Go.Proofs
open Go.Ln (u8b_t u8b_f lines lf crlf binary idx idx_eq unfeed)
open Go.Gb (isPath isPat pis_snd ris_snd gis_snd r7is_snd contains_snd)
set_option linter.unusedVariables false
set_option linter.unusedSimpArgs false
attribute [local go_sem] eqs implies_true List.map_cons List.map_nil kl klL roD roL Option.map_some Option.map_none Option.getD_some Option.getD_none binVal binObl unVal if_true if_false eq_self passA frnD resD content getH getR getW viaNot viaSlot viaBox viaDeep viaMem List.contains_cons List.contains_nil grabs peeks okCells isCell place cellsOf chunk elt List.headD_cons List.length_cons List.length_nil List.take_succ_cons List.take_zero List.drop_succ_cons List.drop_zero List.nil_append List.cons_append List.append_nil List.all_cons List.all_nil plainC takeR setW over reCell List.getElem?_cons_zero List.getElem?_cons_succ List.set_cons_zero List.take_length outV resG plainV pack outVG outBx List.set_cons_succ Ref.idx Ref.addOff beq_self_eq_true bxL Option.bind_some writeR isLit viaBoxes capsPA boxPA nsOf noDup boxesAt argG passG passD rhoIn rhoOut idxIn tr trL List.getD_cons_zero gives pasOf isPtr Ins.d List.getD_cons_succ resL frnL List.getLast?_nil P4 P6 Z5 rst
variable {m : Int}
theorem hp1 (s : Bs) (c : UInt8) : Lib.hasPrefix s [c] = (s.head? == some c) := by
  cases s with
  | nil => rfl
  | cons b l =>
    show (c == b && true) = (some b == some c)
    by_cases h : b = c
    · subst h; simp
    · rw [beq_false_of_ne (Ne.symm h), beq_false_of_ne fun e => h (Option.some.inj e)]; rfl
theorem tp1 (s : Bs) (c : UInt8) : Lib.trimPrefix s [c] = if (s.head? == some c) = true then s.tail else s := by
  rw [Lib.trimPrefix, hp1]
  split <;> simp
theorem hp2 (s : Bs) (c d : UInt8) : Lib.hasPrefix s [c, d] = decide (s.take 2 = [c, d]) := by
  cases s with
  | nil => rfl
  | cons b l =>
    cases l with
    | nil => simp [Lib.hasPrefix, List.isPrefixOf]
    | cons e l =>
      show (c == b && (d == e && true)) = decide ([b, e] = [c, d])
      by_cases h : b = c
      · subst h
        by_cases h2 : e = d
        · subst h2; simp
        · rw [beq_false_of_ne (Ne.symm h2), decide_eq_false (by simpa using h2)]; simp
      · rw [beq_false_of_ne (Ne.symm h), decide_eq_false (by simp [h])]; rfl
theorem hs1 (s : Bs) (c : UInt8) : Lib.hasSuffix s [c] = (s.getLast? == some c) := by
  have h : Lib.hasSuffix s [c] = Lib.hasPrefix s.reverse [c] := rfl
  rw [h, hp1, List.head?_reverse]
theorem ts1 (s : Bs) (c : UInt8) : Lib.trimSuffix s [c] = if (s.getLast? == some c) = true then s.dropLast else s := by
  rw [Lib.trimSuffix, hs1, List.dropLast_eq_take]; rfl
theorem unfeed_trim (s : Bs) : Lib.trimSuffix s [10] = unfeed s := by
  rw [ts1, unfeed]; simp only [beq_iff_eq]
theorem chopS_len (s : Bs) : (chopS s).length ≤ s.length := by
  rw [chopS, List.length_reverse]
  have := (List.dropWhile_sublist (· == (32 : UInt8)) (l := s.reverse)).length_le
  simpa using this
theorem trimRight32 (s : Bs) (hs : s.length ≤ 4294967296) : Snd Tryd.prog (gl m) 95 [S s, S [32]] (S (chopS s)) :=
  snd_same (us := [.string (str s), .string (str [32])]) rfl fun w zf h => by
    have := Tryd.strings_TrimRight_one (str s) 32 (by decide) w (by rw [str_size]; omega)
    rw [str_dataL] at this; exact this
theorem trimPrefix_snd (s p : Bs) : Snd Tryd.prog (gl m) 82 [S s, S p] (S (Lib.trimPrefix s p)) :=
  snd_same (us := [.string (str s), .string (str p)]) rfl fun w zf h => by
    have := Tryd.strings_TrimPrefix (str s) (str p) w
    simp only [str_dataL] at this; exact this
theorem lhasPrefix (s p : Bs) : Snd Tryd.prog (gl m) 113 [S s, S p] (B (Lib.hasPrefix s p)) :=
  snd_same (us := [.string (str s), .string (str p)]) rfl fun w zf h => by simpa only [str_dataL] using Tryd.stringslite_HasPrefix (str s) (str p) w
theorem lhasSuffix (s p : Bs) (hs : s.length ≤ 4294967296) : Snd Tryd.prog (gl m) 114 [S s, S p] (B (Lib.hasSuffix s p)) :=
  snd_same (us := [.string (str s), .string (str p)]) rfl fun w zf h => by simpa only [str_dataL] using Tryd.stringslite_HasSuffix (str s) (str p) w (by rw [str_size]; omega)
def cutp : AF := ⟨.seq (.reg (.seq [⟨(some (4, true)), none, .mov (.cst (.string (str [])) (.lit (.string (str [])))) .asg⟩,
      ⟨(some (5, true)), none, .mov (.cst (.bool false) (.lit (.bool false))) .asg⟩])) [0, 1] []
  (.seq (.seq (.reg (.seq [⟨(some (6, false)), none, .mov (.tmp 0 true) .peek⟩,
      ⟨(some (7, false)), none, .mov (.tmp 1 true) .peek⟩,
      ⟨(some (8, false)), none, .call 113 [(.tmp 6 false), (.tmp 7 false)]⟩,
      ⟨(some (9, false)), none, .un .not (.tmp 8 false)⟩])) [0, 1, 9] []
  (.cond (.tmp 9 false)
    (.seq (.reg (.seq [⟨(some (10, false)), none, .mov (.tmp 0 true) .take⟩,
      ⟨(some (4, true)), none, .mov (.tmp 10 false) .asg⟩,
      ⟨(some (5, true)), none, .mov (.cst (.bool false) (.lit (.bool false))) .asg⟩])) [4, 5] []
    (.ret))
    (.skip))) [0, 1] []
  (.seq (.reg (.seq [⟨(some (11, false)), none, .mov (.tmp 0 true) .peek⟩,
      ⟨(some (12, false)), none, .mov (.tmp 1 true) .peek⟩,
      ⟨(some (13, false)), none, .len (.tmp 12 false)⟩,
      ⟨(some (14, false)), none, .sub (.tmp 11 false) (some (.tmp 13 false)) none⟩,
      ⟨(some (4, true)), none, .mov (.tmp 14 false) .asg⟩,
      ⟨(some (5, true)), none, .mov (.cst (.bool true) (.lit (.bool true))) .asg⟩])) [4, 5] []
  (.ret))),
  [.tmp 4, .tmp 5]⟩
theorem cutp_comp (m : Int) : compF Tryd.prog (gl m) [] Tryd.f124 = some cutp := by kernel_rfl
def ucutp : AF := ⟨.seq (.reg (.seq [⟨(some (4, true)), none, .mov (.cst (.string (str [])) (.lit (.string (str [])))) .asg⟩,
      ⟨(some (5, true)), none, .mov (.cst (.bool false) (.lit (.bool false))) .asg⟩])) [0, 1] []
  (.seq (.reg (.seq [⟨(some (6, false)), none, .mov (.tmp 0 true) .peek⟩,
      ⟨(some (7, false)), none, .mov (.tmp 1 true) .peek⟩,
      ⟨(some (8, false)), none, .call 124 [(.tmp 6 false), (.tmp 7 false)]⟩,
      ⟨(some (9, false)), none, .ext (.tmp 8 false) 0⟩,
      ⟨(some (10, false)), none, .ext (.tmp 8 false) 1⟩,
      ⟨(some (4, true)), none, .mov (.tmp 9 false) .asg⟩,
      ⟨(some (5, true)), none, .mov (.tmp 10 false) .asg⟩])) [4, 5] []
  (.ret)),
  [.tmp 4, .tmp 5]⟩
theorem ucutp_comp (m : Int) : compF Tryd.prog (gl m) [] Tryd.f96 = some ucutp := by kernel_rfl
def cuts : AF := ⟨.seq (.reg (.seq [⟨(some (4, true)), none, .mov (.cst (.string (str [])) (.lit (.string (str [])))) .asg⟩,
      ⟨(some (5, true)), none, .mov (.cst (.bool false) (.lit (.bool false))) .asg⟩])) [0, 1] []
  (.seq (.seq (.reg (.seq [⟨(some (6, false)), none, .mov (.tmp 0 true) .peek⟩,
      ⟨(some (7, false)), none, .mov (.tmp 1 true) .peek⟩,
      ⟨(some (8, false)), none, .call 114 [(.tmp 6 false), (.tmp 7 false)]⟩,
      ⟨(some (9, false)), none, .un .not (.tmp 8 false)⟩])) [0, 1, 9] []
  (.cond (.tmp 9 false)
    (.seq (.reg (.seq [⟨(some (10, false)), none, .mov (.tmp 0 true) .take⟩,
      ⟨(some (4, true)), none, .mov (.tmp 10 false) .asg⟩,
      ⟨(some (5, true)), none, .mov (.cst (.bool false) (.lit (.bool false))) .asg⟩])) [4, 5] []
    (.ret))
    (.skip))) [0, 1] []
  (.seq (.reg (.seq [⟨(some (11, false)), none, .mov (.tmp 0 true) .peek⟩,
      ⟨(some (12, false)), none, .mov (.tmp 0 true) .peek⟩,
      ⟨(some (13, false)), none, .len (.tmp 12 false)⟩,
      ⟨(some (14, false)), none, .mov (.tmp 1 true) .peek⟩,
      ⟨(some (15, false)), none, .len (.tmp 14 false)⟩,
      ⟨(some (16, false)), none, .bin .sub (.tmp 13 false) (.tmp 15 false)⟩,
      ⟨(some (17, false)), none, .sub (.tmp 11 false) none (some (.tmp 16 false))⟩,
      ⟨(some (4, true)), none, .mov (.tmp 17 false) .asg⟩,
      ⟨(some (5, true)), none, .mov (.cst (.bool true) (.lit (.bool true))) .asg⟩])) [4, 5] []
  (.ret))),
  [.tmp 4, .tmp 5]⟩
theorem cuts_comp (m : Int) : compF Tryd.prog (gl m) [] Tryd.f125 = some cuts := by kernel_rfl
def ucuts : AF := ⟨.seq (.reg (.seq [⟨(some (4, true)), none, .mov (.cst (.string (str [])) (.lit (.string (str [])))) .asg⟩,
      ⟨(some (5, true)), none, .mov (.cst (.bool false) (.lit (.bool false))) .asg⟩])) [0, 1] []
  (.seq (.reg (.seq [⟨(some (6, false)), none, .mov (.tmp 0 true) .peek⟩,
      ⟨(some (7, false)), none, .mov (.tmp 1 true) .peek⟩,
      ⟨(some (8, false)), none, .call 125 [(.tmp 6 false), (.tmp 7 false)]⟩,
      ⟨(some (9, false)), none, .ext (.tmp 8 false) 0⟩,
      ⟨(some (10, false)), none, .ext (.tmp 8 false) 1⟩,
      ⟨(some (4, true)), none, .mov (.tmp 9 false) .asg⟩,
      ⟨(some (5, true)), none, .mov (.tmp 10 false) .asg⟩])) [4, 5] []
  (.ret)),
  [.tmp 4, .tmp 5]⟩
theorem ucuts_comp (m : Int) : compF Tryd.prog (gl m) [] Tryd.f97 = some ucuts := by kernel_rfl
def prule_k0' : AC := .seq (.reg (.seq [⟨(some (44, false)), none, .mov (.tmp 0 true) .take⟩,
      ⟨(some (45, false)), none, .fad (.tmp 6 true) 0⟩,
      ⟨none, none, .store (.tmp 45 false) (.tmp 44 false) 1⟩])) [0, 4, 6] [4, 6]
  (.seq (.reg (.draw [⟨(some (46, false)), none, .load (.tmp 6 true) 5 true false⟩,
      ⟨(some (47, false)), none, .mov (.tmp 0 true) .peek⟩,
      ⟨(some (48, false)), none, .call 89 [(.tmp 47 false)]⟩] (.alt ⟨none, none, .store (.tmp 4 true) (.tmp 46 false) 5⟩ []
      (.alt ⟨(some (5, true)), none, .mov (.tmp 48 false) .asg⟩ []
      .done .no) .no))) [4, 5] [4]
  (.ret))
def prule_k0 : AC := prule_k0'
theorem prule_k0_w (C : Kn) (K : Ex → St → Prop) (s : St) : vcC C prule_k0 K s = vcC C prule_k0' K s := nr rfl
def prule_k1' : AC := .seq (.reg (.seq [⟨(some (34, false)), none, .mov (.tmp 0 true) .peek⟩,
      ⟨(some (35, false)), none, .call 97 [(.tmp 34 false), (.cst (.string (str [47])) (.lit (.string (str [47]))))]⟩,
      ⟨(some (33, false)), none, .mov (.tmp 35 false) .peek⟩,
      ⟨(some (36, false)), none, .ext (.tmp 33 false) 0⟩,
      ⟨(some (37, false)), none, .ext (.tmp 33 false) 1⟩,
      ⟨(some (0, true)), none, .mov (.tmp 36 false) .asg⟩,
      ⟨(some (38, false)), none, .fad (.tmp 6 true) 3⟩,
      ⟨none, none, .store (.tmp 38 false) (.tmp 37 false) 1⟩])) [0, 4, 6] [4, 6]
  (.seq (.seq (.reg (.seq [⟨(some (39, false)), none, .mov (.tmp 0 true) .peek⟩,
      ⟨(some (40, false)), none, .call 57 [(.tmp 39 false), (.cst (.string (str [47])) (.lit (.string (str [47]))))]⟩])) [0, 4, 6, 40] [4, 6]
  (.cond (.tmp 40 false)
    (.seq (.reg (.seq [⟨(some (41, false)), none, .fad (.tmp 6 true) 4⟩,
      ⟨none, none, .store (.tmp 41 false) (.cst (.bool true) (.lit (.bool true))) 1⟩])) [0, 4, 6] [4, 6]
    (.reg (.seq [⟨(some (42, false)), none, .mov (.tmp 0 true) .peek⟩,
      ⟨(some (43, false)), none, .call 82 [(.tmp 42 false), (.cst (.string (str [47])) (.lit (.string (str [47]))))]⟩,
      ⟨(some (0, true)), none, .mov (.tmp 43 false) .asg⟩])))
    (.skip))) [0, 4, 6] [4, 6] prule_k0)
def prule_k1 : AC := prule_k1'
theorem prule_k1_w (C : Kn) (K : Ex → St → Prop) (s : St) : vcC C prule_k1 K s = vcC C prule_k1' K s := nr rfl
def prule_k2' : AC := .seq (.reg (.seq [⟨(some (20, false)), none, .mov (.tmp 0 true) .peek⟩,
      ⟨(some (21, false)), none, .call 96 [(.tmp 20 false), (.cst (.string (str [33])) (.lit (.string (str [33]))))]⟩,
      ⟨(some (19, false)), none, .mov (.tmp 21 false) .peek⟩,
      ⟨(some (22, false)), none, .ext (.tmp 19 false) 0⟩,
      ⟨(some (23, false)), none, .ext (.tmp 19 false) 1⟩,
      ⟨(some (0, true)), none, .mov (.tmp 22 false) .asg⟩,
      ⟨(some (24, false)), none, .fad (.tmp 6 true) 2⟩,
      ⟨none, none, .store (.tmp 24 false) (.tmp 23 false) 1⟩])) [0, 4, 6] [4, 6]
  (.seq (.seq (.reg (.seq [⟨(some (25, false)), none, .mov (.tmp 0 true) .peek⟩,
      ⟨(some (26, false)), none, .call 87 [(.tmp 25 false), (.cst (.string (str [92, 35])) (.lit (.string (str [92, 35]))))]⟩,
      ⟨(some (27, false)), none, .mov (.tmp 26 false) .peek⟩,
      ⟨(some (28, false)), (some (27, false)), .mov (.tmp 0 true) .peek⟩,
      ⟨(some (29, false)), (some (27, false)), .call 87 [(.tmp 28 false), (.cst (.string (str [92, 33])) (.lit (.string (str [92, 33]))))]⟩,
      ⟨(some (30, false)), none, .pick (.tmp 27 false) (.cst (.bool true) (.lit (.bool true))) (.tmp 29 false)⟩])) [0, 4, 6, 30] [4, 6]
  (.cond (.tmp 30 false)
    (.reg (.seq [⟨(some (31, false)), none, .mov (.tmp 0 true) .peek⟩,
      ⟨(some (32, false)), none, .sub (.tmp 31 false) (some (.cst (.int .i64 1) (.lit (.int .i64 1)))) none⟩,
      ⟨(some (0, true)), none, .mov (.tmp 32 false) .asg⟩]))
    (.skip))) [0, 4, 6] [4, 6] prule_k1)
def prule_k2 : AC := prule_k2'
theorem prule_k2_w (C : Kn) (K : Ex → St → Prop) (s : St) : vcC C prule_k2 K s = vcC C prule_k2' K s := nr rfl
def prule : AF := ⟨.seq (.reg (.seq [⟨(some (4, true)), none, .new [(.lit (.string (str []))), (.lit (.string (str []))), (.lit (.bool false)), (.lit (.bool false)), (.lit (.bool false))]⟩,
      ⟨(some (5, true)), none, .mov (.cst (.bool false) (.lit (.bool false))) .asg⟩])) [0, 1, 4] [4]
  (.seq (.reg (.seq [⟨(some (7, false)), none, .mov (.tmp 1 true) .take⟩,
      ⟨(some (8, false)), none, .build [(.lit (.string (str []))), (.lit (.string (str []))), (.lit (.bool false)), (.lit (.bool false)), (.lit (.bool false))] [(1, 1, (.tmp 7 false))]⟩,
      ⟨(some (6, true)), none, .new [(.lit (.string (str []))), (.lit (.string (str []))), (.lit (.bool false)), (.lit (.bool false)), (.lit (.bool false))]⟩,
      ⟨none, none, .store (.tmp 6 true) (.tmp 8 false) 5⟩])) [0, 4, 6] [4, 6]
  (.seq (.reg (.seq [⟨(some (9, false)), none, .mov (.tmp 0 true) .peek⟩,
      ⟨(some (10, false)), none, .call 95 [(.tmp 9 false), (.cst (.string (str [32])) (.lit (.string (str [32]))))]⟩,
      ⟨(some (0, true)), none, .mov (.tmp 10 false) .asg⟩])) [0, 4, 6] [4, 6]
  (.seq (.seq (.reg (.seq [⟨(some (11, false)), none, .mov (.tmp 0 true) .peek⟩,
      ⟨(some (12, false)), none, .bin .eql (.tmp 11 false) (.cst (.string (str [])) (.lit (.string (str []))))⟩,
      ⟨(some (13, false)), none, .mov (.tmp 12 false) .peek⟩,
      ⟨(some (14, false)), (some (13, false)), .mov (.tmp 0 true) .peek⟩,
      ⟨(some (15, false)), (some (13, false)), .idx (.tmp 14 false) (.cst (.int .i64 0) (.lit (.int .i64 0)))⟩,
      ⟨(some (16, false)), (some (13, false)), .bin .eql (.tmp 15 false) (.cst (.int .u8 35) (.lit (.int .u8 35)))⟩,
      ⟨(some (17, false)), none, .pick (.tmp 13 false) (.cst (.bool true) (.lit (.bool true))) (.tmp 16 false)⟩])) [0, 4, 6, 17] [4, 6]
  (.cond (.tmp 17 false)
    (.seq (.reg (.seq [⟨(some (18, false)), none, .load (.tmp 6 true) 5 true true⟩,
      ⟨none, none, .store (.tmp 4 true) (.tmp 18 false) 5⟩,
      ⟨(some (5, true)), none, .mov (.cst (.bool false) (.lit (.bool false))) .asg⟩])) [4, 5] [4]
    (.ret))
    (.skip))) [0, 4, 6] [4, 6] prule_k2))),
  [.cell 4 5 true, .tmp 5]⟩
theorem prule_comp (m : Int) : compF Tryd.prog (gl m) [] Tryd.f64 = some prule := by kernel_rfl
theorem cutp_snd (s : Bs) (c : UInt8) (hs : s.length ≤ 1048576) : Snd Tryd.prog (gl m) 124 [S s, S [c]] (.tup [S (if (s.head? == some c) = true then s.tail else s), B (s.head? == some c)]) := by
  refine snd_of (fn := Tryd.f124) (af := cutp) Tryd.func124 (cutp_comp m) mixed (kn_ok m) (Nat.le_of_ble_eq_true rfl) ?_
  simp only [cutp, go_sem, reduceCtorEq, Nat.reduceEqDiff, reduceIte, Nat.reduceAdd, Nat.reduceSub, Nat.reduceLeDiff, Int.reduceToNat, Nat.reduceBEq]
  repeat ((with_reducible apply And.intro); (case left => first | omega | (simp only [List.length_append, List.length_cons, List.length_nil, List.length_drop, List.length_take, List.length_tail, List.length_dropLast, fs_length, ss_length, bs_length, ns_length]; omega)))
  refine of_call (lhasPrefix s [c]) ?_
  simp only [go_sem, reduceCtorEq, Nat.reduceEqDiff, reduceIte, Nat.reduceAdd, Nat.reduceSub, Nat.reduceLeDiff, Int.reduceToNat, Nat.reduceBEq]
  repeat ((with_reducible apply And.intro); (case left => first | omega | (simp only [List.length_append, List.length_cons, List.length_nil, List.length_drop, List.length_take, List.length_tail, List.length_dropLast, fs_length, ss_length, bs_length, ns_length]; omega)))
  rw [hp1]
  cases h : (s.head? == some c) with
  | false =>
    simp only [unVal, go_sem, reduceCtorEq, Nat.reduceEqDiff, reduceIte, Nat.reduceAdd, Nat.reduceSub, Nat.reduceLeDiff, Int.reduceToNat, Nat.reduceBEq]
    try rfl
  | true =>
    have : 1 ≤ s.length := by cases s with | nil => cases h | cons => simp
    simp only [unVal, go_sem, reduceCtorEq, Nat.reduceEqDiff, reduceIte, Nat.reduceAdd, Nat.reduceSub, Nat.reduceLeDiff, Int.reduceToNat, Nat.reduceBEq]
    repeat (refine ⟨by (try simp only [List.length_append, List.length_cons, List.length_nil, List.length_drop, List.length_take]); omega, ?_⟩)
    simp only [List.drop_one, if_true]
    try rfl
theorem ucutp_snd (s : Bs) (c : UInt8) (hs : s.length ≤ 1048576) : Snd Tryd.prog (gl m) 96 [S s, S [c]] (.tup [S (if (s.head? == some c) = true then s.tail else s), B (s.head? == some c)]) := by
  refine snd_of (fn := Tryd.f96) (af := ucutp) Tryd.func96 (ucutp_comp m) mixed (kn_ok m) (Nat.le_of_ble_eq_true rfl) ?_
  simp only [ucutp, go_sem, reduceCtorEq, Nat.reduceEqDiff, reduceIte, Nat.reduceAdd, Nat.reduceSub, Nat.reduceLeDiff, Int.reduceToNat, Nat.reduceBEq]
  repeat ((with_reducible apply And.intro); (case left => first | omega | (simp only [List.length_append, List.length_cons, List.length_nil, List.length_drop, List.length_take, List.length_tail, List.length_dropLast, fs_length, ss_length, bs_length, ns_length]; omega)))
  refine of_call (cutp_snd s c hs) ?_
  simp only [go_sem, reduceCtorEq, Nat.reduceEqDiff, reduceIte, Nat.reduceAdd, Nat.reduceSub, Nat.reduceLeDiff, Int.reduceToNat, Nat.reduceBEq]
  repeat ((with_reducible apply And.intro); (case left => first | omega | (simp only [List.length_append, List.length_cons, List.length_nil, List.length_drop, List.length_take, List.length_tail, List.length_dropLast, fs_length, ss_length, bs_length, ns_length]; omega)))
  try rfl
theorem cuts_snd (s : Bs) (c : UInt8) (hs : s.length ≤ 1048576) : Snd Tryd.prog (gl m) 125 [S s, S [c]] (.tup [S (if (s.getLast? == some c) = true then s.dropLast else s), B (s.getLast? == some c)]) := by
  refine snd_of (fn := Tryd.f125) (af := cuts) Tryd.func125 (cuts_comp m) mixed (kn_ok m) (Nat.le_of_ble_eq_true rfl) ?_
  simp only [cuts, go_sem, reduceCtorEq, Nat.reduceEqDiff, reduceIte, Nat.reduceAdd, Nat.reduceSub, Nat.reduceLeDiff, Int.reduceToNat, Nat.reduceBEq]
  repeat ((with_reducible apply And.intro); (case left => first | omega | (simp only [List.length_append, List.length_cons, List.length_nil, List.length_drop, List.length_take, List.length_tail, List.length_dropLast, fs_length, ss_length, bs_length, ns_length]; omega)))
  refine of_call (lhasSuffix s [c] (by omega)) ?_
  simp only [go_sem, reduceCtorEq, Nat.reduceEqDiff, reduceIte, Nat.reduceAdd, Nat.reduceSub, Nat.reduceLeDiff, Int.reduceToNat, Nat.reduceBEq]
  repeat ((with_reducible apply And.intro); (case left => first | omega | (simp only [List.length_append, List.length_cons, List.length_nil, List.length_drop, List.length_take, List.length_tail, List.length_dropLast, fs_length, ss_length, bs_length, ns_length]; omega)))
  rw [hs1]
  cases h : (s.getLast? == some c) with
  | false =>
    simp only [unVal, go_sem, reduceCtorEq, Nat.reduceEqDiff, reduceIte, Nat.reduceAdd, Nat.reduceSub, Nat.reduceLeDiff, Int.reduceToNat, Nat.reduceBEq]
    try rfl
  | true =>
    have : 1 ≤ s.length := by cases s with | nil => cases h | cons => simp
    have q1 : IntKind.i64.wrap ((s.length : Int) - 1) = ((s.length - 1 : Nat) : Int) := wrapN _ (by omega) (by omega)
    have q1' : IntKind.i64.wrap ((s.length : Int) - ((1 : Nat) : Int)) = ((s.length - 1 : Nat) : Int) := q1
    simp only [unVal, q1, q1', go_sem, reduceCtorEq, Nat.reduceEqDiff, reduceIte, Nat.reduceAdd, Nat.reduceSub, Nat.reduceLeDiff, Int.reduceToNat, Nat.reduceBEq]
    repeat (refine ⟨by (try simp only [List.length_append, List.length_cons, List.length_nil, List.length_drop, List.length_take]); omega, ?_⟩)
    simp only [List.dropLast_eq_take, if_true]
    try rfl
theorem ucuts_snd (s : Bs) (c : UInt8) (hs : s.length ≤ 1048576) : Snd Tryd.prog (gl m) 97 [S s, S [c]] (.tup [S (if (s.getLast? == some c) = true then s.dropLast else s), B (s.getLast? == some c)]) := by
  refine snd_of (fn := Tryd.f97) (af := ucuts) Tryd.func97 (ucuts_comp m) mixed (kn_ok m) (Nat.le_of_ble_eq_true rfl) ?_
  simp only [ucuts, go_sem, reduceCtorEq, Nat.reduceEqDiff, reduceIte, Nat.reduceAdd, Nat.reduceSub, Nat.reduceLeDiff, Int.reduceToNat, Nat.reduceBEq]
  repeat ((with_reducible apply And.intro); (case left => first | omega | (simp only [List.length_append, List.length_cons, List.length_nil, List.length_drop, List.length_take, List.length_tail, List.length_dropLast, fs_length, ss_length, bs_length, ns_length]; omega)))
  refine of_call (cuts_snd s c hs) ?_
  simp only [go_sem, reduceCtorEq, Nat.reduceEqDiff, reduceIte, Nat.reduceAdd, Nat.reduceSub, Nat.reduceLeDiff, Int.reduceToNat, Nat.reduceBEq]
  repeat ((with_reducible apply And.intro); (case left => first | omega | (simp only [List.length_append, List.length_cons, List.length_nil, List.length_drop, List.length_take, List.length_tail, List.length_dropLast, fs_length, ss_length, bs_length, ns_length]; omega)))
  try rfl
def ruleA (r : Rule × Bool) : AV := .tup [.agg [S r.1.1, S r.1.2.1, B r.1.2.2.1, B r.1.2.2.2.1, B r.1.2.2.2.2], B r.2]
/-! the stages of a rule -/
def r3 (dir : Bs) (nt fo an : Bool) (s : Bs) : Rule × Bool := ((s, dir, nt, fo, an), isPat s)
def r4 (dir : Bs) (nt fo : Bool) (s : Bs) : Rule × Bool := r3 dir nt fo (s.contains 47) (if s.head? = some 47 then s.tail else s)
def r5 (dir : Bs) (nt : Bool) (s : Bs) : Rule × Bool := r4 dir nt (s.getLast? == some 47) (if (s.getLast? == some 47) = true then s.dropLast else s)
def r6 (dir : Bs) (nt : Bool) (s : Bs) : Rule × Bool := r5 dir nt (if s.take 2 = [92, 35] ∨ s.take 2 = [92, 33] then s.tail else s)
def r7 (dir s : Bs) : Rule × Bool := r6 dir (s.head? == some 33) (if (s.head? == some 33) = true then s.tail else s)
def r8 (dir s : Bs) : Rule × Bool := if s = [] ∨ s.head? = some 35 then (([], dir, false, false, false), false) else r7 dir s
theorem r8_eq (dir s0 : Bs) : ruleOf dir s0 = r8 dir (chopS s0) := rfl
theorem prule_k0_v (dir s : Bs) (nt fo an : Bool) (hs : s.length ≤ 1048575) :
    vcC (kn m) prule_k0 (outOk [.cell 4 5 true, .tmp 5] (ruleA (r3 dir nt fo an s))) (rst s [S [], S dir, B nt, B fo, B an]) := by
  simp only [prule_k0_w, prule_k0', go_sem, reduceCtorEq, Nat.reduceEqDiff, reduceIte, Nat.reduceAdd, Nat.reduceSub, Nat.reduceLeDiff, Int.reduceToNat, Nat.reduceBEq]
  repeat ((with_reducible apply And.intro); (case left => first | omega | (simp only [List.length_append, List.length_cons, List.length_nil, List.length_drop, List.length_take, List.length_tail, List.length_dropLast, fs_length, ss_length, bs_length, ns_length]; omega)))
  repeat ((with_reducible apply And.intro); (case left => first | omega | (simp only [List.length_append, List.length_cons, List.length_nil, List.length_drop, List.length_take, List.length_tail, List.length_dropLast, fs_length, ss_length, bs_length, ns_length]; omega)))
  refine of_call (gis_snd s (by omega)) ?_
  simp only [go_sem, reduceCtorEq, Nat.reduceEqDiff, reduceIte, Nat.reduceAdd, Nat.reduceSub, Nat.reduceLeDiff, Int.reduceToNat, Nat.reduceBEq]
  repeat ((with_reducible apply And.intro); (case left => first | omega | (simp only [List.length_append, List.length_cons, List.length_nil, List.length_drop, List.length_take, List.length_tail, List.length_dropLast, fs_length, ss_length, bs_length, ns_length]; omega)))
  try rfl
theorem prule_k1_v (dir s : Bs) (nt : Bool) (hs : s.length ≤ 1048575) :
    vcC (kn m) prule_k1 (outOk [.cell 4 5 true, .tmp 5] (ruleA (r5 dir nt s))) (rst s [S [], S dir, B nt, B false, B false]) := by
  rw [r5]
  simp only [prule_k1_w, prule_k1', go_sem, reduceCtorEq, Nat.reduceEqDiff, reduceIte, Nat.reduceAdd, Nat.reduceSub, Nat.reduceLeDiff, Int.reduceToNat, Nat.reduceBEq]
  repeat ((with_reducible apply And.intro); (case left => first | omega | (simp only [List.length_append, List.length_cons, List.length_nil, List.length_drop, List.length_take, List.length_tail, List.length_dropLast, fs_length, ss_length, bs_length, ns_length]; omega)))
  repeat ((with_reducible apply And.intro); (case left => first | omega | (simp only [List.length_append, List.length_cons, List.length_nil, List.length_drop, List.length_take, List.length_tail, List.length_dropLast, fs_length, ss_length, bs_length, ns_length]; omega)))
  refine of_call (ucuts_snd s 47 (by omega)) ?_
  simp only [go_sem, reduceCtorEq, Nat.reduceEqDiff, reduceIte, Nat.reduceAdd, Nat.reduceSub, Nat.reduceLeDiff, Int.reduceToNat, Nat.reduceBEq]
  repeat ((with_reducible apply And.intro); (case left => first | omega | (simp only [List.length_append, List.length_cons, List.length_nil, List.length_drop, List.length_take, List.length_tail, List.length_dropLast, fs_length, ss_length, bs_length, ns_length]; omega)))
  have hl : (if (s.getLast? == some 47) = true then s.dropLast else s).length ≤ 1048575 := by
    split <;> (try simp only [List.length_dropLast]) <;> omega
  generalize (s.getLast? == some 47) = fo at hl ⊢
  generalize (if fo = true then s.dropLast else s) = s3 at hl ⊢
  repeat ((with_reducible apply And.intro); (case left => first | omega | (simp only [List.length_append, List.length_cons, List.length_nil, List.length_drop, List.length_take, List.length_tail, List.length_dropLast, fs_length, ss_length, bs_length, ns_length]; omega)))
  refine of_call (contains_snd s3 (by omega)) ?_
  simp only [go_sem, reduceCtorEq, Nat.reduceEqDiff, reduceIte, Nat.reduceAdd, Nat.reduceSub, Nat.reduceLeDiff, Int.reduceToNat, Nat.reduceBEq]
  repeat ((with_reducible apply And.intro); (case left => first | omega | (simp only [List.length_append, List.length_cons, List.length_nil, List.length_drop, List.length_take, List.length_tail, List.length_dropLast, fs_length, ss_length, bs_length, ns_length]; omega)))
  rw [r4]
  cases hc : s3.contains 47 with
  | true =>
    simp only [go_sem, reduceCtorEq, Nat.reduceEqDiff, reduceIte, Nat.reduceAdd, Nat.reduceSub, Nat.reduceLeDiff, Int.reduceToNat, Nat.reduceBEq]
    repeat ((with_reducible apply And.intro); (case left => first | omega | (simp only [List.length_append, List.length_cons, List.length_nil, List.length_drop, List.length_take, List.length_tail, List.length_dropLast, fs_length, ss_length, bs_length, ns_length]; omega)))
    repeat ((with_reducible apply And.intro); (case left => first | omega | (simp only [List.length_append, List.length_cons, List.length_nil, List.length_drop, List.length_take, List.length_tail, List.length_dropLast, fs_length, ss_length, bs_length, ns_length]; omega)))
    refine of_call (trimPrefix_snd s3 [47]) ?_
    simp only [go_sem, reduceCtorEq, Nat.reduceEqDiff, reduceIte, Nat.reduceAdd, Nat.reduceSub, Nat.reduceLeDiff, Int.reduceToNat, Nat.reduceBEq]
    repeat ((with_reducible apply And.intro); (case left => first | omega | (simp only [List.length_append, List.length_cons, List.length_nil, List.length_drop, List.length_take, List.length_tail, List.length_dropLast, fs_length, ss_length, bs_length, ns_length]; omega)))
    rw [tp1]
    have e : (if (s3.head? == some 47) = true then s3.tail else s3) = if s3.head? = some 47 then s3.tail else s3 := by simp only [beq_iff_eq]
    rw [e]
    exact prule_k0_v dir _ nt fo true (by split <;> (try simp only [List.length_tail]) <;> omega)
  | false =>
    have hh : s3.head? ≠ some 47 := by
      intro h
      have : s3.contains 47 = true := List.contains_iff_mem.2 (List.mem_of_head? h)
      rw [hc] at this; cases this
    rw [if_neg hh]
    simp only [go_sem, reduceCtorEq, Nat.reduceEqDiff, reduceIte, Nat.reduceAdd, Nat.reduceSub, Nat.reduceLeDiff, Int.reduceToNat, Nat.reduceBEq]
    repeat ((with_reducible apply And.intro); (case left => first | omega | (simp only [List.length_append, List.length_cons, List.length_nil, List.length_drop, List.length_take, List.length_tail, List.length_dropLast, fs_length, ss_length, bs_length, ns_length]; omega)))
    exact prule_k0_v dir s3 nt fo false hl
theorem prule_k2_v (dir s : Bs) (hs : s.length ≤ 1048575) :
    vcC (kn m) prule_k2 (outOk [.cell 4 5 true, .tmp 5] (ruleA (r7 dir s))) (rst s [S [], S dir, B false, B false, B false]) := by
  rw [r7]
  simp only [prule_k2_w, prule_k2', go_sem, reduceCtorEq, Nat.reduceEqDiff, reduceIte, Nat.reduceAdd, Nat.reduceSub, Nat.reduceLeDiff, Int.reduceToNat, Nat.reduceBEq]
  repeat ((with_reducible apply And.intro); (case left => first | omega | (simp only [List.length_append, List.length_cons, List.length_nil, List.length_drop, List.length_take, List.length_tail, List.length_dropLast, fs_length, ss_length, bs_length, ns_length]; omega)))
  repeat ((with_reducible apply And.intro); (case left => first | omega | (simp only [List.length_append, List.length_cons, List.length_nil, List.length_drop, List.length_take, List.length_tail, List.length_dropLast, fs_length, ss_length, bs_length, ns_length]; omega)))
  refine of_call (ucutp_snd s 33 (by omega)) ?_
  simp only [go_sem, reduceCtorEq, Nat.reduceEqDiff, reduceIte, Nat.reduceAdd, Nat.reduceSub, Nat.reduceLeDiff, Int.reduceToNat, Nat.reduceBEq]
  repeat ((with_reducible apply And.intro); (case left => first | omega | (simp only [List.length_append, List.length_cons, List.length_nil, List.length_drop, List.length_take, List.length_tail, List.length_dropLast, fs_length, ss_length, bs_length, ns_length]; omega)))
  have hl : (if (s.head? == some 33) = true then s.tail else s).length ≤ 1048575 := by
    split <;> (try simp only [List.length_tail]) <;> omega
  generalize (s.head? == some 33) = nt at hl ⊢
  generalize (if nt = true then s.tail else s) = s1 at hl ⊢
  rw [r6]
  have ht : s1.take 2 = [92, 35] ∨ s1.take 2 = [92, 33] → 1 ≤ s1.length := by
    intro h
    rcases h with h | h <;> (have := congrArg List.length h; simp only [List.length_take, List.length_cons, List.length_nil] at this; omega)
  refine of_call (hasPrefix s1 [92, 35]) ?_
  rw [hp2]
  by_cases h1 : s1.take 2 = [92, 35]
  · simp only [decide_eq_true h1, if_pos (Or.inl h1 : s1.take 2 = [92, 35] ∨ s1.take 2 = [92, 33]), go_sem, reduceCtorEq, Nat.reduceEqDiff, reduceIte, Nat.reduceAdd, Nat.reduceSub, Nat.reduceLeDiff, Int.reduceToNat, Nat.reduceBEq]
    have := ht (.inl h1)
    repeat ((with_reducible apply And.intro); (case left => first | omega | (simp only [List.length_append, List.length_cons, List.length_nil, List.length_drop, List.length_take, List.length_tail, List.length_dropLast, fs_length, ss_length, bs_length, ns_length]; omega)))
    rw [List.drop_one]
    exact prule_k1_v dir _ nt (by simp only [List.length_tail]; omega)
  · simp only [decide_eq_false h1, go_sem, reduceCtorEq, Nat.reduceEqDiff, reduceIte, Nat.reduceAdd, Nat.reduceSub, Nat.reduceLeDiff, Int.reduceToNat, Nat.reduceBEq]
    refine of_call (hasPrefix s1 [92, 33]) ?_
    rw [hp2]
    by_cases h2 : s1.take 2 = [92, 33]
    · simp only [decide_eq_true h2, if_pos (Or.inr h2 : s1.take 2 = [92, 35] ∨ s1.take 2 = [92, 33]), go_sem, reduceCtorEq, Nat.reduceEqDiff, reduceIte, Nat.reduceAdd, Nat.reduceSub, Nat.reduceLeDiff, Int.reduceToNat, Nat.reduceBEq]
      have := ht (.inr h2)
      repeat ((with_reducible apply And.intro); (case left => first | omega | (simp only [List.length_append, List.length_cons, List.length_nil, List.length_drop, List.length_take, List.length_tail, List.length_dropLast, fs_length, ss_length, bs_length, ns_length]; omega)))
      rw [List.drop_one]
      exact prule_k1_v dir _ nt (by simp only [List.length_tail]; omega)
    · simp only [decide_eq_false h2, if_neg (show ¬ (s1.take 2 = [92, 35] ∨ s1.take 2 = [92, 33]) from fun h => h.elim h1 h2), go_sem, reduceCtorEq, Nat.reduceEqDiff, reduceIte, Nat.reduceAdd, Nat.reduceSub, Nat.reduceLeDiff, Int.reduceToNat, Nat.reduceBEq]
      exact prule_k1_v dir s1 nt hl
theorem prule_snd (s0 dir : Bs) (hs : s0.length ≤ 1048575) : Snd Tryd.prog (gl m) 64 [S s0, S dir] (ruleA (ruleOf dir s0)) := by
  refine snd_of (fn := Tryd.f64) (af := prule) Tryd.func64 (prule_comp m) mixed (kn_ok m) (Nat.le_of_ble_eq_true rfl) ?_
  simp only [prule, go_sem, reduceCtorEq, Nat.reduceEqDiff, reduceIte, Nat.reduceAdd, Nat.reduceSub, Nat.reduceLeDiff, Int.reduceToNat, Nat.reduceBEq]
  have hl := chopS_len s0
  rw [r8_eq]
  repeat ((with_reducible apply And.intro); (case left => first | omega | (simp only [List.length_append, List.length_cons, List.length_nil, List.length_drop, List.length_take, List.length_tail, List.length_dropLast, fs_length, ss_length, bs_length, ns_length]; omega)))
  refine of_call (trimRight32 s0 (by omega)) ?_
  simp only [go_sem, reduceCtorEq, Nat.reduceEqDiff, reduceIte, Nat.reduceAdd, Nat.reduceSub, Nat.reduceLeDiff, Int.reduceToNat, Nat.reduceBEq]
  repeat ((with_reducible apply And.intro); (case left => first | omega | (simp only [List.length_append, List.length_cons, List.length_nil, List.length_drop, List.length_take, List.length_tail, List.length_dropLast, fs_length, ss_length, bs_length, ns_length]; omega)))
  generalize chopS s0 = s at hl ⊢
  rw [r8]
  by_cases h1 : s = []
  · rw [if_pos (.inl h1)]
    simp only [se_t h1, go_sem, reduceCtorEq, Nat.reduceEqDiff, reduceIte, Nat.reduceAdd, Nat.reduceSub, Nat.reduceLeDiff, Int.reduceToNat, Nat.reduceBEq]
    repeat ((with_reducible apply And.intro); (case left => first | omega | (simp only [List.length_append, List.length_cons, List.length_nil, List.length_drop, List.length_take, List.length_tail, List.length_dropLast, fs_length, ss_length, bs_length, ns_length]; omega)))
    rfl
  obtain ⟨c, s', rfl⟩ : ∃ c s', s = c :: s' := by cases s with | nil => exact absurd rfl h1 | cons c s' => exact ⟨c, s', rfl⟩
  have g : (c :: s')[0]? = some c := rfl
  by_cases h2 : c = 35
  · rw [if_pos (Or.inr (by rw [h2]; rfl) : c :: s' = [] ∨ (c :: s').head? = some 35)]
    simp only [se_f h1, g, u8b_t h2 (show ((35 : UInt8).toNat : Int) = 35 from rfl), go_sem, reduceCtorEq, Nat.reduceEqDiff, reduceIte, Nat.reduceAdd, Nat.reduceSub, Nat.reduceLeDiff, Int.reduceToNat, Nat.reduceBEq]
    repeat ((with_reducible apply And.intro); (case left => first | omega | (simp only [List.length_append, List.length_cons, List.length_nil, List.length_drop, List.length_take, List.length_tail, List.length_dropLast, fs_length, ss_length, bs_length, ns_length]; omega)))
    rfl
  rw [if_neg (show ¬ (c :: s' = [] ∨ (c :: s').head? = some 35) by rintro (h | h); exact h1 h; exact h2 (by simpa using h))]
  simp only [se_f h1, g, u8b_f h2 (show ((35 : UInt8).toNat : Int) = 35 from rfl), go_sem, reduceCtorEq, Nat.reduceEqDiff, reduceIte, Nat.reduceAdd, Nat.reduceSub, Nat.reduceLeDiff, Int.reduceToNat, Nat.reduceBEq]
  repeat ((with_reducible apply And.intro); (case left => first | omega | (simp only [List.length_append, List.length_cons, List.length_nil, List.length_drop, List.length_take, List.length_tail, List.length_dropLast, fs_length, ss_length, bs_length, ns_length]; omega)))
  exact prule_k2_v dir _ (by omega)
end Go.At

