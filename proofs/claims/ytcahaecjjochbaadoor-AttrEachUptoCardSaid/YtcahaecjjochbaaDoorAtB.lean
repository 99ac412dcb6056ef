import Derived.Test.YtcahaecjjochbaaDoorAtGb
import Derived.Test.YtcahaecjjochbaaDoorAtA
set_option linter.unusedVariables false
set_option linter.unusedSimpArgs false
/- Ignore: paths and folders. -/
namespace Go.At
open Go Go.Ev Go.Proofs
open Go.Ln (lines lf crlf binary idx idx_eq)
open Go.Gb (isPath isPat pis_snd ris_snd)
set_option linter.unusedVariables false
set_option linter.unusedSimpArgs false
attribute [local go_sem] eqs implies_true List.map_cons List.map_nil kl klL roD roL Option.map_some Option.map_none Option.getD_some Option.getD_none binVal binObl unVal if_true if_false eq_self passA frnD resD content getH getR getW viaNot viaSlot viaBox viaDeep viaMem List.contains_cons List.contains_nil grabs peeks okCells isCell place cellsOf chunk elt List.headD_cons List.length_cons List.length_nil List.take_succ_cons List.take_zero List.drop_succ_cons List.drop_zero List.nil_append List.cons_append List.append_nil List.all_cons List.all_nil plainC takeR setW over reCell List.getElem?_cons_zero List.getElem?_cons_succ List.set_cons_zero List.take_length outV resG plainV pack outVG outBx List.set_cons_succ Ref.idx Ref.addOff beq_self_eq_true bxL Option.bind_some writeR isLit viaBoxes capsPA boxPA nsOf noDup boxesAt argG passG passD rhoIn rhoOut idxIn tr trL List.getD_cons_zero gives pasOf isPtr Ins.d List.getD_cons_succ resL frnL
variable {m : Int}
def pwithin : AF := ⟨.seq (.reg (.seq [⟨some (4, true), none, .mov (.cst (.bool false) (.lit (.bool false))) .asg⟩])) [0, 1] []
  (.seq (.seq (.reg (.seq [⟨some (5, false), none, .mov (.tmp 0 true) .peek⟩,⟨some (6, false), none, .bin .eql (.tmp 5 false) (.cst (.string (str [])) (.lit (.string (str []))))⟩])) [0, 1, 6] []
  (.cond (.tmp 6 false)
    (.seq (.reg (.seq [⟨some (7, false), none, .mov (.tmp 1 true) .peek⟩,⟨some (8, false), none, .bin .neq (.tmp 7 false) (.cst (.string (str [])) (.lit (.string (str []))))⟩,⟨some (4, true), none, .mov (.tmp 8 false) .asg⟩])) [4] []
    (.ret))
    (.skip))) [0, 1] []
  (.seq (.reg (.seq [⟨some (9, false), none, .mov (.tmp 1 true) .peek⟩,⟨some (10, false), none, .len (.tmp 9 false)⟩,⟨some (11, false), none, .mov (.tmp 0 true) .peek⟩,⟨some (12, false), none, .len (.tmp 11 false)⟩,⟨some (13, false), none, .bin .add (.tmp 12 false) (.cst (.int .i64 1) (.lit (.int .i64 1)))⟩,⟨some (14, false), none, .bin .gtr (.tmp 10 false) (.tmp 13 false)⟩,⟨some (15, false), none, .mov (.tmp 14 false) .peek⟩,⟨some (16, false), (some (15, true)), .mov (.tmp 1 true) .peek⟩,⟨some (17, false), (some (15, true)), .mov (.tmp 0 true) .peek⟩,⟨some (18, false), (some (15, true)), .len (.tmp 17 false)⟩,⟨some (19, false), (some (15, true)), .idx (.tmp 16 false) (.tmp 18 false)⟩,⟨some (20, false), (some (15, true)), .bin .eql (.tmp 19 false) (.cst (.int .u8 47) (.lit (.int .u8 47)))⟩,⟨some (21, false), none, .pick (.tmp 15 false) (.tmp 20 false) (.cst (.bool false) (.lit (.bool false)))⟩,⟨some (22, false), none, .mov (.tmp 21 false) .peek⟩,⟨some (23, false), (some (22, true)), .mov (.tmp 1 true) .peek⟩,⟨some (24, false), (some (22, true)), .mov (.tmp 0 true) .peek⟩,⟨some (25, false), (some (22, true)), .len (.tmp 24 false)⟩,⟨some (26, false), (some (22, true)), .sub (.tmp 23 false) none (some (.tmp 25 false))⟩,⟨some (27, false), (some (22, true)), .mov (.tmp 0 true) .peek⟩,⟨some (28, false), (some (22, true)), .bin .eql (.tmp 26 false) (.tmp 27 false)⟩,⟨some (29, false), none, .pick (.tmp 22 false) (.tmp 28 false) (.cst (.bool false) (.lit (.bool false)))⟩,⟨some (4, true), none, .mov (.tmp 29 false) .asg⟩])) [4] []
  (.ret))),
  [.tmp 4]⟩
theorem pwithin_comp (m : Int) : compF Tryd.prog (gl m) [] Tryd.f70 = some pwithin := by kernel_rfl
def pname : AF := ⟨.seq (.reg (.seq [⟨some (2, true), none, .mov (.cst (.string (str [])) (.lit (.string (str [])))) .asg⟩])) [0] []
  (.seq (.reg (.seq [⟨some (3, false), none, .mov (.tmp 0 true) .peek⟩,⟨some (4, false), none, .mov (.tmp 0 true) .peek⟩,⟨some (5, false), none, .call 104 [.tmp 4 false, (.cst (.int .u8 47) (.lit (.int .u8 47)))]⟩,⟨some (6, false), none, .bin .add (.tmp 5 false) (.cst (.int .i64 1) (.lit (.int .i64 1)))⟩,⟨some (7, false), none, .sub (.tmp 3 false) (some (.tmp 6 false)) none⟩,⟨some (2, true), none, .mov (.tmp 7 false) .asg⟩])) [2] []
  (.ret)),
  [.tmp 2]⟩
theorem pname_comp (m : Int) : compF Tryd.prog (gl m) [] Tryd.f72 = some pname := by kernel_rfl
theorem str_bang {s : Bs} {j : Nat} (h : j < s.length) : (str s).data[j]! = s[j] := by
  simp [str, h]
theorem u8c_47 {c : UInt8} (h : (c.toNat : Int) = 47) : c = 47 := UInt8.toNat_inj.1 (by rw [show (47 : UInt8).toNat = 47 by rfl]; omega)
theorem lastB_eq (s : Bs) : Lib.lastIndexByte (str s) 47 = lastI s := by
  rcases Lib.lastIndexByte_spec (str s) 47 with ⟨h, hn⟩ | ⟨i, hi, h, hc, hn⟩
  · rw [h, lastI]
    cases hl : lastS s with
    | none => rfl
    | some n =>
      obtain ⟨h1, h2, _⟩ := lastS_lt hl
      refine absurd ?_ (hn n (by rw [str_size]; exact h1))
      rw [str_bang h1]
      rw [List.getElem?_eq_getElem h1] at h2
      rw [Option.some.inj h2]; rfl
  · rw [str_size] at hi
    rw [str_bang hi] at hc
    have h1 : s[i]? = some 47 := by rw [List.getElem?_eq_getElem hi, u8c_47 hc]
    rw [h, lastI, lastS_of h1]
    intro j hj he
    obtain ⟨hj2, e⟩ := List.getElem?_eq_some_iff.1 he
    refine hn j hj (by rw [str_size]; exact hj2) ?_
    rw [str_bang hj2, e]; rfl
theorem lastByte (s : Bs) (hs : s.length ≤ 1048576) : Snd Tryd.prog (gl m) 104 [S s, .lit (.int .u8 47)] (I (lastI s)) :=
  snd_same (us := [.string (str s), .int .u8 47]) rfl fun w zf h => by
    have := Tryd.strings_LastIndexByte (str s) 47 (by rw [str_size]; omega) w
    rw [lastB_eq] at this; exact this
theorem lastI_bounds (p : Bs) : -1 ≤ lastI p ∧ lastI p < p.length := by
  unfold lastI
  cases h : lastS p with
  | none => simp only; omega
  | some n => have := (lastS_lt h).1; simp only; omega
theorem u8_47 (c : UInt8) : ((c.toNat : Int) == 47) = (c == 47) := by
  rw [Bool.eq_iff_iff, beq_iff_eq, beq_iff_eq, ← UInt8.toNat_inj]
  show _ ↔ c.toNat = 47
  omega
theorem pwithin_snd (d p : Bs) (hd : d.length ≤ 1048576) (hp : p.length ≤ 1048576) : Snd Tryd.prog (gl m) 70 [S d, S p] (B (within d p)) := by
  refine snd_of (fn := Tryd.f70) (af := pwithin) Tryd.func70 (pwithin_comp m) mixed (kn_ok m) (Nat.le_of_ble_eq_true rfl) ?_
  simp only [pwithin, go_sem, reduceCtorEq, Nat.reduceEqDiff, reduceIte, Nat.reduceAdd, Nat.reduceSub, Nat.reduceLeDiff, Int.reduceToNat, Nat.reduceBEq]
  by_cases h0 : d = []
  · subst h0
    simp only [se_t (show ([] : Bs) = [] from rfl), go_sem, reduceCtorEq, Nat.reduceEqDiff, reduceIte, Nat.reduceAdd, Nat.reduceSub, Nat.reduceLeDiff, Int.reduceToNat, Nat.reduceBEq]
    repeat ((with_reducible apply And.intro); (case left => first | omega | (simp only [List.length_append, List.length_cons, List.length_nil, List.length_drop, List.length_take, List.length_tail, List.length_dropLast, fs_length, ss_length, bs_length, ns_length]; omega)))
    rw [within_nil]
    by_cases h1 : p = []
    · subst h1; rfl
    · rw [sn_t h1, decide_eq_true h1]
  have q1 : IntKind.i64.wrap ((d.length : Int) + 1) = ((d.length + 1 : Nat) : Int) := wrapN _ (by omega) (by omega)
  simp only [se_f h0, q1, go_sem, reduceCtorEq, Nat.reduceEqDiff, reduceIte, Nat.reduceAdd, Nat.reduceSub, Nat.reduceLeDiff, Int.reduceToNat, Nat.reduceBEq]
  repeat ((with_reducible apply And.intro); (case left => first | omega | (simp only [List.length_append, List.length_cons, List.length_nil, List.length_drop, List.length_take, List.length_tail, List.length_dropLast, fs_length, ss_length, bs_length, ns_length]; omega)))
  rw [within, if_neg h0]
  by_cases h1 : d.length + 1 < p.length
  · simp only [gt_t h1, decide_eq_true h1, go_sem, reduceCtorEq, Nat.reduceEqDiff, reduceIte, Nat.reduceAdd, Nat.reduceSub, Nat.reduceLeDiff, Int.reduceToNat, Nat.reduceBEq]
    have g := getE (l := p) (i := d.length) (by omega)
    generalize p[d.length] = c at g
    simp only [g, go_sem, reduceCtorEq, Nat.reduceEqDiff, reduceIte, Nat.reduceAdd, Nat.reduceSub, Nat.reduceLeDiff, Int.reduceToNat, Nat.reduceBEq]
    repeat ((with_reducible apply And.intro); (case left => first | omega | (simp only [List.length_append, List.length_cons, List.length_nil, List.length_drop, List.length_take, List.length_tail, List.length_dropLast, fs_length, ss_length, bs_length, ns_length]; omega)))
    repeat (refine ⟨by (try simp only [List.length_append, List.length_cons, List.length_nil, List.length_drop, List.length_take]); omega, ?_⟩)
    rw [u8_47]
    by_cases h2 : c = 47
    · subst h2
      simp only [go_sem, reduceCtorEq, Nat.reduceEqDiff, reduceIte, Nat.reduceAdd, Nat.reduceSub, Nat.reduceLeDiff, Int.reduceToNat, Nat.reduceBEq]
      repeat ((with_reducible apply And.intro); (case left => first | omega | (simp only [List.length_append, List.length_cons, List.length_nil, List.length_drop, List.length_take, List.length_tail, List.length_dropLast, fs_length, ss_length, bs_length, ns_length]; omega)))
      repeat (refine ⟨by (try simp only [List.length_append, List.length_cons, List.length_nil, List.length_drop, List.length_take]); omega, ?_⟩)
      by_cases h3 : p.take d.length = d
      · rw [se_t h3, decide_eq_true h3]; try rfl
      · rw [se_f h3, decide_eq_false h3]; try rfl
    · rw [show (c == 47) = false from beq_false_of_ne h2]
      simp only [go_sem, reduceCtorEq, Nat.reduceEqDiff, reduceIte, Nat.reduceAdd, Nat.reduceSub, Nat.reduceLeDiff, Int.reduceToNat, Nat.reduceBEq]
      repeat ((with_reducible apply And.intro); (case left => first | omega | (simp only [List.length_append, List.length_cons, List.length_nil, List.length_drop, List.length_take, List.length_tail, List.length_dropLast, fs_length, ss_length, bs_length, ns_length]; omega)))
      rw [show (some c == some (47 : UInt8)) = false from beq_false_of_ne fun h => h2 (Option.some.inj h)]
      rfl
  · simp only [gt_f h1, decide_eq_false h1, go_sem, reduceCtorEq, Nat.reduceEqDiff, reduceIte, Nat.reduceAdd, Nat.reduceSub, Nat.reduceLeDiff, Int.reduceToNat, Nat.reduceBEq]
    rfl
theorem pname_snd (p : Bs) (hp : p.length ≤ 1048576) : Snd Tryd.prog (gl m) 72 [S p] (S (name p)) := by
  refine snd_of (fn := Tryd.f72) (af := pname) Tryd.func72 (pname_comp m) mixed (kn_ok m) (Nat.le_of_ble_eq_true rfl) ?_
  simp only [pname, go_sem, reduceCtorEq, Nat.reduceEqDiff, reduceIte, Nat.reduceAdd, Nat.reduceSub, Nat.reduceLeDiff, Int.reduceToNat, Nat.reduceBEq]
  have hb := lastI_bounds p
  have q1 : IntKind.i64.wrap (lastI p + 1) = lastI p + 1 := wrap_in (by omega) (by omega)
  repeat ((with_reducible apply And.intro); (case left => first | omega | (simp only [List.length_append, List.length_cons, List.length_nil, List.length_drop, List.length_take, List.length_tail, List.length_dropLast, fs_length, ss_length, bs_length, ns_length]; omega)))
  refine of_call (lastByte p hp) ?_
  simp only [go_sem, reduceCtorEq, Nat.reduceEqDiff, reduceIte, Nat.reduceAdd, Nat.reduceSub, Nat.reduceLeDiff, Int.reduceToNat, Nat.reduceBEq]
  repeat ((with_reducible apply And.intro); (case left => first | omega | (simp only [List.length_append, List.length_cons, List.length_nil, List.length_drop, List.length_take, List.length_tail, List.length_dropLast, fs_length, ss_length, bs_length, ns_length]; omega)))
  simp only [q1, go_sem, reduceCtorEq, Nat.reduceEqDiff, reduceIte, Nat.reduceAdd, Nat.reduceSub, Nat.reduceLeDiff, Int.reduceToNat, Nat.reduceBEq]
  repeat ((with_reducible apply And.intro); (case left => first | omega | (simp only [List.length_append, List.length_cons, List.length_nil, List.length_drop, List.length_take, List.length_tail, List.length_dropLast, fs_length, ss_length, bs_length, ns_length]; omega)))
  unfold name lastI
  cases lastS p with
  | none => rfl
  | some n => rfl
def ruleT (r : Rule) : AV := .agg [S r.1, S r.2.1, B r.2.2.1, B r.2.2.2.1, B r.2.2.2.2]
abbrev P4 : AV := .ptr ⟨.box 4 0, []⟩
abbrev P6 : AV := .ptr ⟨.box 6 0, []⟩
abbrev Z5 : List AV := [S [], S [], B false, B false, B false]
abbrev rst (s : Bs) (x : List AV) : St := mkS [(0, S s), (4, P4), (6, P6)] [(4, some Z5), (6, some x)]
end Go.At
namespace Go.At
open Go Go.Ev Go.Proofs
open Go.Ln (u8b_t u8b_f lines lf crlf binary idx idx_eq unfeed)
open Go.Gb (isPath isPat pis_snd ris_snd gis_snd r7is_snd contains_snd)
set_option linter.unusedVariables false
set_option linter.unusedSimpArgs false
attribute [local go_sem] eqs implies_true List.map_cons List.map_nil kl klL roD roL Option.map_some Option.map_none Option.getD_some Option.getD_none binVal binObl unVal if_true if_false eq_self passA frnD resD content getH getR getW viaNot viaSlot viaBox viaDeep viaMem List.contains_cons List.contains_nil grabs peeks okCells isCell place cellsOf chunk elt List.headD_cons List.length_cons List.length_nil List.take_succ_cons List.take_zero List.drop_succ_cons List.drop_zero List.nil_append List.cons_append List.append_nil List.all_cons List.all_nil plainC takeR setW over reCell List.getElem?_cons_zero List.getElem?_cons_succ List.set_cons_zero List.take_length outV resG plainV pack outVG outBx List.set_cons_succ Ref.idx Ref.addOff beq_self_eq_true bxL Option.bind_some writeR isLit viaBoxes capsPA boxPA nsOf noDup boxesAt argG passG passD rhoIn rhoOut idxIn tr trL List.getD_cons_zero gives pasOf isPtr Ins.d List.getD_cons_succ resL frnL List.getLast?_nil P4 P6 Z5 rst
variable {m : Int}
theorem hp1 (s : Bs) (c : UInt8) : Lib.hasPrefix s [c] = (s.head? == some c) := by
  cases s with
  | nil => rfl
  | cons b l =>
    show (c == b && true) = (some b == some c)
    by_cases h : b = c
    · subst h; simp
    · rw [beq_false_of_ne (Ne.symm h), beq_false_of_ne fun e => h (Option.some.inj e)]; rfl
theorem tp1 (s : Bs) (c : UInt8) : Lib.trimPrefix s [c] = if (s.head? == some c) = true then s.tail else s := by
  rw [Lib.trimPrefix, hp1]
  split <;> simp
theorem hs1 (s : Bs) (c : UInt8) : Lib.hasSuffix s [c] = (s.getLast? == some c) := by
  have h : Lib.hasSuffix s [c] = Lib.hasPrefix s.reverse [c] := rfl
  rw [h, hp1, List.head?_reverse]
theorem trimPrefix_snd (s p : Bs) : Snd Tryd.prog (gl m) 82 [S s, S p] (S (Lib.trimPrefix s p)) :=
  snd_same (us := [.string (str s), .string (str p)]) rfl fun w zf h => by
    have := Tryd.strings_TrimPrefix (str s) (str p) w
    simp only [str_dataL] at this; exact this
theorem hasSuffix_snd (s p : Bs) (hs : s.length ≤ 4294967296) : Snd Tryd.prog (gl m) 88 [S s, S p] (B (Lib.hasSuffix s p)) :=
  snd_same (us := [.string (str s), .string (str p)]) rfl fun w zf h => by simpa only [str_dataL] using Tryd.strings_HasSuffix (str s) (str p) w (by rw [str_size]; omega)
def r3 (dir : Bs) (nt fo an : Bool) (s : Bs) : Rule × Bool := ((s, dir, nt, fo, an), isPat s)
def r4 (dir : Bs) (nt fo : Bool) (s : Bs) : Rule × Bool := r3 dir nt fo (s.contains 47) (if s.head? = some 47 then s.tail else s)
def r5 (dir : Bs) (nt : Bool) (s : Bs) : Rule × Bool := r4 dir nt (s.getLast? == some 47) (if (s.getLast? == some 47) = true then s.dropLast else s)
def r6 (dir : Bs) (nt : Bool) (s : Bs) : Rule × Bool := r5 dir nt (if s.take 2 = [92, 35] ∨ s.take 2 = [92, 33] then s.tail else s)
def r7 (dir s : Bs) : Rule × Bool := r6 dir (s.head? == some 33) (if (s.head? == some 33) = true then s.tail else s)
end Go.At

