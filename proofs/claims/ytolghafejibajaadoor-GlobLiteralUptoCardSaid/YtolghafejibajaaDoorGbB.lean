import Derived.Test.YtolghafejibajaaDoorGbA
import Derived.Lib.SplitLaws
import Derived.Lib.IndexBytes
/- Glob: signs at a place; pieces between slashes. -/
namespace Go.Gb
open Go.Ln (Bs getX idx idx_eq idx_lt)
set_option linter.unusedVariables false
set_option linter.unusedSimpArgs false

theorem tok_esc {p : Bs} {i : Nat} (h : i < p.length) (hb : p[i] = 92) : tok (p.drop i) = if h2 : i + 1 < p.length then some (.lit p[i + 1], p.drop (i + 2)) else none := by
  rw [List.drop_eq_getElem_cons h]
  simp only [tok]
  rw [if_pos hb]
  by_cases h2 : i + 1 < p.length
  · rw [dif_pos h2, List.drop_eq_getElem_cons h2]
  · rw [dif_neg h2, List.drop_of_length_le (by omega)]
theorem tok_cls {p : Bs} {i : Nat} (h : i < p.length) (hb : p[i] = 91) : tok (p.drop i) = (clsL (p.drop (i + 1))).map fun x => (.cls x.1 x.2.1, x.2.2) := by
  rw [List.drop_eq_getElem_cons h]
  simp only [tok]
  rw [if_neg (by rw [hb]; decide), if_pos hb]
theorem tok_else {p : Bs} {i : Nat} (h : i < p.length) (h1 : p[i] ≠ 92) (h2 : p[i] ≠ 91) : tok (p.drop i) = some (if p[i] = 42 then .star else if p[i] = 63 then .any else .lit p[i], p.drop (i + 1)) := by
  rw [List.drop_eq_getElem_cons h]
  simp only [tok]
  rw [if_neg h1, if_neg h2]
/-- where a sign ends -/
theorem tok_rest {p R : Bs} {i : Nat} {t : Tok} (h : tok (p.drop i) = some (t, R)) : R = p.drop (p.length - R.length) ∧ R.length < p.length - i ∧ p.length - R.length ≤ p.length := by
  obtain ⟨b, u, e, _⟩ := tok_seg h
  have hl := tok_len h
  rw [List.length_drop] at hl
  refine ⟨?_, hl, by omega⟩
  have e2 : p = p.take i ++ (b :: u ++ R) := by rw [← e, List.take_append_drop]
  have hlen := congrArg List.length e2
  simp only [List.length_append, List.length_take, List.length_cons] at hlen
  have : p.length - R.length = (p.take i ++ (b :: u)).length := by simp only [List.length_append, List.length_take, List.length_cons]; omega
  have e3 : p.drop (p.length - R.length) = (p.take i ++ (b :: u) ++ R).drop (p.length - R.length) := by rw [List.append_assoc, ← e2]
  rw [e3, List.drop_left' this.symm]
theorem toks_at {p : Bs} {i : Nat} (h : i < p.length) : toks (p.drop i) = match tok (p.drop i) with | none => none | some (t, R) => (toks R).map (t :: ·) := by
  have hne : p.drop i ≠ [] := by rw [List.drop_eq_getElem_cons h]; exact List.cons_ne_nil _ _
  cases ht : tok (p.drop i) with
  | none => rw [toks_none hne ht]
  | some q => obtain ⟨t, R⟩ := q; rw [toks_some ht]
theorem toks_end {p : Bs} {i : Nat} (h : ¬ i < p.length) : toks (p.drop i) = some [] := by rw [List.drop_of_length_le (by omega), toks_nil]

/-- what stands between the slashes -/
def pieces : Bs → List Bs
  | [] => [[]]
  | c :: l => if c = 47 then [] :: pieces l else match pieces l with | [] => [[c]] | x :: xs => (c :: x) :: xs
theorem pieces_ne (s : Bs) : pieces s ≠ [] := by
  cases s with
  | nil => simp [pieces]
  | cons c l =>
    simp only [pieces]
    split
    · simp
    · split <;> simp
theorem pieces_none {s : Bs} (h : idx s 47 = none) : pieces s = [s] := by
  induction s with
  | nil => rfl
  | cons c l ih =>
    simp only [idx] at h
    split at h
    · cases h
    · rename_i hc
      simp only [pieces, hc, if_false, ih (by simpa using h)]
theorem pieces_some {s : Bs} {n : Nat} (h : idx s 47 = some n) : pieces s = s.take n :: pieces (s.drop (n + 1)) := by
  induction s generalizing n with
  | nil => cases h
  | cons c l ih =>
    simp only [idx] at h
    split at h
    · rename_i hc; injection h with h; subst h; simp [pieces, hc]
    · rename_i hc
      simp only [Option.map_eq_some_iff] at h
      obtain ⟨m, h1, rfl⟩ := h
      simp only [pieces, hc, if_false, ih h1, List.take_succ_cons, List.drop_succ_cons]
open Go.Lib in
theorem splitK_pieces (n : Nat) : ∀ s : Bs, s.length ≤ n → Lib.splitK [47] 0 (Lib.count s [47]) s = pieces s := by
  induction n with
  | zero =>
    intro s h
    have : s = [] := List.length_eq_zero_iff.1 (by omega)
    subst this
    rw [count_miss (by rfl)]; rfl
  | succ n ih =>
    intro s h
    cases hi : idx s 47 with
    | none =>
      have hm : index s [47] = -1 := by rw [index_one, idx_eq, hi]
      rw [count_miss hm, pieces_none hi]; rfl
    | some k =>
      have hm : index s [47] = ((k : Nat) : Int) := by rw [index_one, idx_eq, hi]
      have hk := idx_lt hi
      rw [count_hit (by simp) hm, Nat.add_comm 1, pieces_some hi]
      have hne : ¬ (index s [47] == -1) = true := fun e => by have := beq_iff_eq.1 e; omega
      simp only [splitK]
      rw [if_neg hne]
      have e : (index s [47]).toNat = k := by omega
      rw [e]
      have := ih (s.drop (k + 1)) (by simp; omega)
      simp only [List.length_cons, List.length_nil, Nat.zero_add, Nat.add_zero] at this ⊢
      rw [this]
theorem pieces_len (s : Bs) : (pieces s).length ≤ s.length + 1 := by
  induction s with
  | nil => simp [pieces]
  | cons c l ih =>
    simp only [pieces]
    split
    · simp; omega
    · split
      · simp
      · rename_i x xs hx; rw [hx] at ih; simp only [List.length_cons] at ih ⊢; omega
theorem piece_len {s x : Bs} (h : x ∈ pieces s) : x.length ≤ s.length := by
  induction s generalizing x with
  | nil => simp [pieces] at h; subst h; simp
  | cons c l ih =>
    simp only [pieces] at h
    split at h
    · rcases List.mem_cons.1 h with rfl | h
      · simp
      · have := ih h; simp only [List.length_cons]; omega
    · split at h
      · simp at h; subst h; simp
      · rename_i y ys hy
        rcases List.mem_cons.1 h with rfl | h
        · have := ih (by rw [hy]; exact List.mem_cons_self ..); simp only [List.length_cons]; omega
        · have := ih (by rw [hy]; exact List.mem_cons_of_mem _ h); simp only [List.length_cons]; omega
/-- is it a pattern of a path -/
def isPat (p : Bs) : Bool := decide (1 ≤ p.length) && decide (p.length ≤ 255) && (pieces p).all good
end Go.Gb

/- Glob: parts; paths. -/
namespace Go.Gb
open Go.Ln (Bs getX idx idx_eq idx_lt)
set_option linter.unusedVariables false
set_option linter.unusedSimpArgs false

def partF (x s : Bs) : Bool := match toks x with | some L => whole L s | none => false
def deep : Bs := [42, 42]
def M : List Bs → List Bs → Bool
  | [], m => m.isEmpty
  | x :: l, [] => if x = deep then M l [] else false
  | x :: l, s :: m => if x = deep then M l (s :: m) || M (x :: l) m else partF x s && M l m
  termination_by l m => l.length + m.length
theorem M_nil (m : List Bs) : M [] m = m.isEmpty := by rw [M]
theorem M_deep_nil (l : List Bs) : M (deep :: l) [] = M l [] := by rw [M, if_pos rfl]
theorem M_deep_cons (l : List Bs) (s : Bs) (m : List Bs) : M (deep :: l) (s :: m) = (M l (s :: m) || M (deep :: l) m) := by rw [M, if_pos rfl]
theorem M_lit_nil {x : Bs} (h : x ≠ deep) (l : List Bs) : M (x :: l) [] = false := by rw [M, if_neg h]
theorem M_lit_cons {x : Bs} (h : x ≠ deep) (l : List Bs) (s : Bs) (m : List Bs) : M (x :: l) (s :: m) = (partF x s && M l m) := by rw [M, if_neg h]
theorem M_deep_iff (l : List Bs) (m : List Bs) : M (deep :: l) m = true ↔ ∃ j, j ≤ m.length ∧ M l (m.drop j) = true := by
  induction m with
  | nil => rw [M_deep_nil]; simp
  | cons s m ih =>
    rw [M_deep_cons, Bool.or_eq_true, ih]
    constructor
    · rintro (h | ⟨j, h1, h2⟩)
      · exact ⟨0, by simp, h⟩
      · exact ⟨j + 1, by simp; omega, h2⟩
    · rintro ⟨j, h1, h2⟩
      cases j with
      | zero => exact .inl h2
      | succ j => exact .inr ⟨j, by simp at h1; omega, h2⟩
theorem snoc_deep (P : List Bs) : ∀ T : List Bs, M (P ++ [deep]) T = true ↔ ∃ j, j ≤ T.length ∧ M P (T.take j) = true := by
  induction P with
  | nil =>
    intro T
    rw [List.nil_append, M_deep_iff]
    exact ⟨fun _ => ⟨0, by omega, by rw [List.take_zero, M_nil]; rfl⟩, fun _ => ⟨T.length, Nat.le_refl _, by rw [List.drop_length, M_nil]; rfl⟩⟩
  | cons x P ih =>
    intro T
    by_cases hx : x = deep
    · subst hx
      rw [List.cons_append, M_deep_iff]
      constructor
      · rintro ⟨i, hi, h⟩
        obtain ⟨j, hj, h⟩ := (ih _).1 h
        rw [List.length_drop] at hj
        refine ⟨i + j, by omega, (M_deep_iff _ _).2 ⟨i, by rw [List.length_take]; omega, ?_⟩⟩
        rw [List.drop_take, show i + j - i = j by omega]; exact h
      · rintro ⟨j, hj, h⟩
        obtain ⟨i, hi, h⟩ := (M_deep_iff _ _).1 h
        rw [List.length_take] at hi
        refine ⟨i, by omega, (ih _).2 ⟨j - i, by rw [List.length_drop]; omega, ?_⟩⟩
        rw [List.drop_take] at h; exact h
    · cases T with
      | nil =>
        rw [List.cons_append, M_lit_nil hx]
        refine ⟨(fun h => by cases h), ?_⟩
        rintro ⟨j, _, h⟩
        rw [List.take_nil, M_lit_nil hx] at h; cases h
      | cons s T =>
        rw [List.cons_append, M_lit_cons hx, Bool.and_eq_true, ih]
        constructor
        · rintro ⟨h1, j, hj, h⟩
          exact ⟨j + 1, by simp; omega, by rw [List.take_succ_cons, M_lit_cons hx, h1, h]; rfl⟩
        · rintro ⟨j, hj, h⟩
          cases j with
          | zero => rw [List.take_zero, M_lit_nil hx] at h; cases h
          | succ j =>
            rw [List.take_succ_cons, M_lit_cons hx, Bool.and_eq_true] at h
            exact ⟨h.1, j, by simp at hj; omega, h.2⟩
theorem snoc_lit {x : Bs} (hx : x ≠ deep) (P : List Bs) : ∀ T : List Bs, M (P ++ [x]) T = true ↔ ∃ T' s, T = T' ++ [s] ∧ M P T' = true ∧ partF x s = true := by
  induction P with
  | nil =>
    intro T
    rw [List.nil_append]
    cases T with
    | nil => rw [M_lit_nil hx]; exact ⟨(fun h => by cases h), (fun ⟨T', s, e, _⟩ => by cases T' <;> cases e)⟩
    | cons s T =>
      rw [M_lit_cons hx, Bool.and_eq_true, M_nil]
      constructor
      · rintro ⟨h1, h2⟩
        have : T = [] := by simpa using h2
        subst this
        exact ⟨[], s, rfl, by rw [M_nil]; rfl, h1⟩
      · rintro ⟨T', s', e, h1, h2⟩
        rw [M_nil] at h1
        have : T' = [] := by simpa using h1
        subst this
        simp at e
        obtain ⟨rfl, rfl⟩ := e
        exact ⟨h2, rfl⟩
  | cons y P ih =>
    intro T
    by_cases hy : y = deep
    · subst hy
      rw [List.cons_append, M_deep_iff]
      constructor
      · rintro ⟨i, hi, h⟩
        obtain ⟨T', s, e, h1, h2⟩ := (ih _).1 h
        refine ⟨T.take i ++ T', s, by rw [List.append_assoc, ← e, List.take_append_drop], (M_deep_iff _ _).2 ⟨i, by rw [List.length_append, List.length_take]; omega, ?_⟩, h2⟩
        rw [List.drop_left' (by rw [List.length_take]; omega)]; exact h1
      · rintro ⟨T', s, rfl, h1, h2⟩
        obtain ⟨i, hi, h⟩ := (M_deep_iff _ _).1 h1
        refine ⟨i, by simp; omega, (ih _).2 ⟨T'.drop i, s, ?_, h, h2⟩⟩
        rw [List.drop_append_of_le_length hi]
    · cases T with
      | nil => rw [List.cons_append, M_lit_nil hy]; exact ⟨(fun h => by cases h), (fun ⟨T', s, e, _⟩ => by cases T' <;> cases e)⟩
      | cons t T =>
        rw [List.cons_append, M_lit_cons hy, Bool.and_eq_true, ih]
        constructor
        · rintro ⟨h0, T', s, rfl, h1, h2⟩
          exact ⟨t :: T', s, rfl, by rw [M_lit_cons hy, h0, h1]; rfl, h2⟩
        · rintro ⟨T', s, e, h1, h2⟩
          cases T' with
          | nil => rw [M_lit_nil hy] at h1; cases h1
          | cons t' T' =>
            simp only [List.cons_append, List.cons.injEq] at e
            obtain ⟨rfl, rfl⟩ := e
            rw [M_lit_cons hy, Bool.and_eq_true] at h1
            exact ⟨h1.1, T', s, rfl, h1.2, h2⟩
/-- one pattern more, place by place -/
theorem step_deep (P S : List Bs) (i : Nat) (hi : i ≤ S.length) : M (P ++ [deep]) (S.take i) = (M P (S.take i) || (decide (0 < i) && M (P ++ [deep]) (S.take (i - 1)))) := by
  rw [Bool.eq_iff_iff, Bool.or_eq_true, Bool.and_eq_true, snoc_deep, snoc_deep, decide_eq_true_iff]
  simp only [List.length_take]
  constructor
  · rintro ⟨j, hj, h⟩
    rw [List.take_take] at h
    by_cases e : j = i
    · left; rw [e, Nat.min_self] at h; exact h
    · right
      refine ⟨by omega, j, by omega, ?_⟩
      rw [List.take_take, Nat.min_eq_left (by omega)]
      rw [Nat.min_eq_left (by omega)] at h; exact h
  · rintro (h | ⟨h0, j, hj, h⟩)
    · exact ⟨i, by omega, by rw [List.take_take, Nat.min_self]; exact h⟩
    · refine ⟨j, by omega, ?_⟩
      rw [List.take_take, Nat.min_eq_left (by omega)] at h ⊢; exact h
theorem step_lit {x : Bs} (hx : x ≠ deep) (P S : List Bs) (i : Nat) (hi : i < S.length) : M (P ++ [x]) (S.take (i + 1)) = (M P (S.take i) && partF x S[i]) := by
  rw [Bool.eq_iff_iff, Bool.and_eq_true, snoc_lit hx, List.take_succ_eq_append_getElem hi]
  constructor
  · rintro ⟨T', s, e, h1, h2⟩
    obtain ⟨e1, e2⟩ := List.append_inj' e rfl
    simp only [List.cons.injEq, and_true] at e2
    subst e2; subst e1
    exact ⟨h1, h2⟩
  · rintro ⟨h1, h2⟩; exact ⟨_, _, rfl, h1, h2⟩
theorem step_lit_zero {x : Bs} (hx : x ≠ deep) (P : List Bs) : M (P ++ [x]) [] = false := by
  rw [Bool.eq_false_iff, Ne, snoc_lit hx]
  rintro ⟨T', s, e, _⟩
  cases T' <;> cases e

/-- a part of a path that may be -/
def okPart (s : Bs) : Bool := decide (1 ≤ s.length) && decide (s.length ≤ 64) && decide (s ≠ [46]) && decide (s ≠ [46, 46]) && decide (s ≠ [46, 103, 114, 97, 102, 116]) && s.all fun c => decide (32 ≤ c)
def isPath (p : Bs) : Bool := decide (p ≠ []) && decide (p.length ≤ 255) && (pieces p).all okPart && decide ((pieces p).length ≤ 16)
def parts (p : Bs) : List Bs := if p = [] then [] else pieces p
def matchF (p s : Bs) : Bool := isPat p && isPath s && M (pieces p) (parts s)
end Go.Gb

/- Glob: patterns that may be. -/
namespace Go.Gb
open Go Go.Ev Go.Proofs
open Go.Ln (u8b_t u8b_f u8n_t u8n_f getX idx idx_eq)
set_option linter.unusedVariables false
set_option linter.unusedSimpArgs false
attribute [local go_sem] eqs implies_true List.map_cons List.map_nil kl klL roD roL Option.map_some Option.map_none Option.getD_some Option.getD_none binVal binObl unVal if_true if_false eq_self passA frnD resD content getH getR getW viaNot viaSlot viaBox viaDeep viaMem List.contains_cons List.contains_nil grabs peeks okCells isCell place cellsOf chunk elt List.headD_cons List.length_cons List.length_nil List.take_succ_cons List.take_zero List.drop_succ_cons List.drop_zero List.nil_append List.cons_append List.append_nil List.all_cons List.all_nil plainC takeR setW over reCell List.getElem?_cons_zero List.getElem?_cons_succ List.set_cons_zero List.take_length outV resG plainV pack outVG outBx List.set_cons_succ Ref.idx Ref.addOff beq_self_eq_true bxL Option.bind_some writeR isLit viaBoxes capsPA boxPA nsOf noDup boxesAt argG passG passD rhoIn rhoOut idxIn tr trL List.getD_cons_zero gives pasOf isPtr Ins.d List.getD_cons_succ resL frnL
variable {m : Int}

theorem split_snd (s : Ln.Bs) (hs : s.length ≤ 1048576) : Snd Tryd.prog (gl m) 62 [S s, S [47]] (.sl .own 1 (ss (pieces s))) := by
  have hl : (Lib.splitB (str [47]) 0 (Lib.countB (str s) (str [47])) (str s)).map (·.data.toList) = pieces s := by
    rw [Lib.splitB_data, str_dataL, str_dataL]
    have : Lib.countB (str s) (str [47]) = Lib.count s [47] := by simp only [Lib.countB, str_dataL]
    rw [this]; exact splitK_pieces _ s (Nat.le_refl _)
  have hss : ss (pieces s) = ((Lib.splitB (str [47]) 0 (Lib.countB (str s) (str [47])) (str s)).map Value.string).map .lit := by
    rw [← hl, ss, List.map_map, List.map_map]
    apply List.map_congr_left
    intro b _
    show AV.lit (.string (str _)) = _
    rw [str_data]; rfl
  rw [hss]
  refine snd_row (us := [.string (str s), .string (str [47])]) (by intro u hu; obtain ⟨b, _, rfl⟩ := List.mem_map.1 hu; exact ⟨rfl, rfl⟩) 9 fun w zf h => ?_
  have := Tryd.strings_Split (str s) (str [47]) m w (by rw [str_size]; omega) (tab0 h) (by rw [str_size]; simp)
  rw [List.length_map, Lib.splitB_all (str [47]) (by rw [str_size]; simp) 0 _ _ rfl]
  exact this
theorem contains_snd (s : Ln.Bs) (hs : s.length ≤ 1048576) : Snd Tryd.prog (gl m) 70 [S s, S [47]] (B (s.contains 47)) := by
  have e : s.contains 47 = Lib.contains s [47] := by
    rw [Lib.contains, Lib.index_one, idx_eq]
    cases h : idx s 47 with
    | none =>
      simp only [Int.reduceNeg, Int.reduceLE, decide_false]
      rw [Bool.eq_false_iff]
      intro hc
      rw [List.contains_iff_mem] at hc
      obtain ⟨k, hk, he⟩ := List.mem_iff_getElem.1 hc
      have gen : ∀ (l : List UInt8), idx l 47 = none → ∀ (j : Nat), l[j]? ≠ some 47 := by
        intro l
        induction l with
        | nil => intro _ j; simp
        | cons b l ih =>
          intro h j
          simp only [idx] at h
          split at h
          · cases h
          · rename_i hb
            cases j with
            | zero => simpa using hb
            | succ j => simpa using ih (by simpa using h) j
      exact gen s h k (by rw [getE hk, he])
    | some k =>
      have : 0 ≤ (k : Int) := by omega
      rw [decide_eq_true this, List.contains_iff_mem]
      have gen : ∀ (l : List UInt8) (n : Nat), idx l 47 = some n → 47 ∈ l := by
        intro l
        induction l with
        | nil => intro n h; cases h
        | cons b l ih =>
          intro n h
          simp only [idx] at h
          split at h
          · rename_i hb; rw [hb]; exact List.mem_cons_self ..
          · simp only [Option.map_eq_some_iff] at h
            obtain ⟨q, h1, _⟩ := h
            exact List.mem_cons_of_mem _ (ih q h1)
      exact gen s k h
  rw [e]
  refine snd_same (us := [.string (str s), .string (str [47])]) rfl fun w zf h => ?_
  have := Tryd.strings_Contains (str s) (str [47]) m w (by rw [str_size]; omega) (tab0 h)
  simpa only [str_dataL] using this

def ggood_l0' : AC := .seq (.seq (.reg (.seq [⟨(some (6, false)), none, .mov (.tmp 3 true) .peek⟩,
      ⟨(some (7, false)), none, .mov (.tmp 0 true) .peek⟩,
      ⟨(some (8, false)), none, .len (.tmp 7 false)⟩,
      ⟨(some (9, false)), none, .bin .lss (.tmp 6 false) (.tmp 8 false)⟩])) [0, 3, 9] []
  (.cond (.tmp 9 false)
    (.skip)
    (.exit 0))) [0, 3] []
  (.block 1 (.seq (.reg (.seq [⟨(some (10, false)), none, .mov (.tmp 0 true) .peek⟩,
      ⟨(some (11, false)), none, .mov (.tmp 3 true) .peek⟩,
      ⟨(some (12, true)), none, .idx (.tmp 10 false) (.tmp 11 false)⟩])) [0, 3, 12] []
    (.block 2 (.seq (.reg (.seq [⟨(some (16, false)), none, .bin .eql (.tmp 12 true) (.cst (.int .u8 92) (.lit (.int .u8 92)))⟩,
      ⟨(some (15, false)), none, .mov (.tmp 16 false) .asg⟩])) [0, 3, 12, 15] []
      (.cond (.tmp 15 false)
        (.seq (.seq (.reg (.seq [⟨(some (17, false)), none, .mov (.tmp 3 true) .peek⟩,
      ⟨(some (18, false)), none, .bin .add (.tmp 17 false) (.cst (.int .i64 1) (.lit (.int .i64 1)))⟩,
      ⟨(some (19, false)), none, .mov (.tmp 0 true) .peek⟩,
      ⟨(some (20, false)), none, .len (.tmp 19 false)⟩,
      ⟨(some (21, false)), none, .bin .eql (.tmp 18 false) (.tmp 20 false)⟩])) [0, 3, 21] []
        (.cond (.tmp 21 false)
          (.seq (.reg (.seq [⟨(some (2, true)), none, .mov (.cst (.bool false) (.lit (.bool false))) .asg⟩])) [2] []
          (.ret))
          (.skip))) [0, 3] []
        (.reg (.seq [⟨(some (22, false)), none, .mov (.tmp 3 true) .peek⟩,
      ⟨(some (23, false)), none, .bin .add (.tmp 22 false) (.cst (.int .i64 2) (.lit (.int .i64 2)))⟩,
      ⟨(some (3, true)), none, .mov (.tmp 23 false) .asg⟩])))
        (.seq (.reg (.seq [⟨(some (25, false)), none, .bin .eql (.tmp 12 true) (.cst (.int .u8 91) (.lit (.int .u8 91)))⟩,
      ⟨(some (24, false)), none, .mov (.tmp 25 false) .asg⟩])) [0, 3, 24] []
        (.cond (.tmp 24 false)
          (.seq (.reg (.seq [⟨(some (27, false)), none, .mov (.tmp 0 true) .peek⟩,
      ⟨(some (28, false)), none, .mov (.tmp 3 true) .peek⟩,
      ⟨(some (29, false)), none, .bin .add (.tmp 28 false) (.cst (.int .i64 1) (.lit (.int .i64 1)))⟩,
      ⟨(some (30, false)), none, .call 89 [(.tmp 27 false), (.tmp 29 false), (.cst (.int .u8 0) (.lit (.int .u8 0)))]⟩,
      ⟨(some (26, false)), none, .mov (.tmp 30 false) .peek⟩,
      ⟨(some (31, false)), none, .ext (.tmp 26 false) 0⟩,
      ⟨(some (32, false)), none, .ext (.tmp 26 false) 1⟩,
      ⟨(some (4, false)), none, .mov (.tmp 31 false) .asg⟩,
      ⟨(some (5, true)), none, .mov (.tmp 32 false) .asg⟩])) [0, 5] []
          (.seq (.seq (.reg (.seq [⟨(some (33, false)), none, .mov (.tmp 5 true) .peek⟩,
      ⟨(some (34, false)), none, .bin .lss (.tmp 33 false) (.cst (.int .i64 0) (.lit (.int .i64 0)))⟩])) [0, 5, 34] []
          (.cond (.tmp 34 false)
            (.seq (.reg (.seq [⟨(some (2, true)), none, .mov (.cst (.bool false) (.lit (.bool false))) .asg⟩])) [2] []
            (.ret))
            (.skip))) [0, 5] []
          (.reg (.seq [⟨(some (35, false)), none, .mov (.tmp 5 true) .take⟩,
      ⟨(some (3, true)), none, .mov (.tmp 35 false) .asg⟩]))))
          (.reg (.seq [⟨(some (13, false)), none, .mov (.tmp 3 true) .peek⟩,
      ⟨(some (14, false)), none, .bin .add (.tmp 13 false) (.cst (.int .i64 1) (.lit (.int .i64 1)))⟩,
      ⟨(some (3, true)), none, .mov (.tmp 14 false) .asg⟩])))))))))
def ggood_l0 : AC := ggood_l0'
theorem ggood_l0_w (C : Kn) (K : Ex → St → Prop) (s : St) : vcC C ggood_l0 K s = vcC C ggood_l0' K s := nr rfl
def ggood_k1' : AC := .seq (.reg (.seq [⟨(some (36, false)), none, .mov (.tmp 0 true) .peek⟩,
      ⟨(some (37, false)), none, .bin .neq (.tmp 36 false) (.cst (.string (str [])) (.lit (.string (str []))))⟩,
      ⟨(some (2, true)), none, .mov (.tmp 37 false) .asg⟩])) [2] []
  (.ret)
def ggood_k1 : AC := ggood_k1'
theorem ggood_k1_w (C : Kn) (K : Ex → St → Prop) (s : St) : vcC C ggood_k1 K s = vcC C ggood_k1' K s := nr rfl
def ggood : AF := ⟨.seq (.reg (.seq [⟨(some (2, true)), none, .mov (.cst (.bool false) (.lit (.bool false))) .asg⟩])) [0] []
  (.seq (.seq (.reg (.seq [⟨(some (3, true)), none, .mov (.cst (.int .i64 0) (.lit (.int .i64 0))) .asg⟩])) [0, 3] []
  (.block 0 (.loop [0, 3] [] ggood_l0))) [0] [] ggood_k1),
  [.tmp 2]⟩
theorem ggood_comp (m : Int) : compF Tryd.prog (gl m) [] Tryd.f64 = some ggood := by kernel_rfl
def gbad : AF := ⟨.seq (.reg (.seq [⟨(some (2, true)), none, .mov (.cst (.bool false) (.lit (.bool false))) .asg⟩])) [0] []
  (.seq (.reg (.seq [⟨(some (3, false)), none, .mov (.tmp 0 true) .peek⟩,
      ⟨(some (4, false)), none, .call 64 [(.tmp 3 false)]⟩,
      ⟨(some (5, false)), none, .un .not (.tmp 4 false)⟩,
      ⟨(some (2, true)), none, .mov (.tmp 5 false) .asg⟩])) [2] []
  (.ret)),
  [.tmp 2]⟩
theorem gbad_comp (m : Int) : compF Tryd.prog (gl m) [] Tryd.f63 = some gbad := by kernel_rfl
def gidxf_l0' : AC := .seq (.reg (.seq [⟨(some (9, false)), none, .bin .lss (.tmp 8 true) (.tmp 7 true)⟩])) [0, 1, 7, 8, 9] []
  (.seq (.cond (.tmp 9 false)
    (.skip)
    (.exit 0)) [0, 1, 7, 8] []
  (.seq (.block 1 (.seq (.reg (.seq [⟨(some (10, false)), none, .mov (.tmp 8 true) .take⟩,
      ⟨(some (5, true)), none, .mov (.tmp 10 false) .asg⟩])) [0, 1, 5, 7, 8] []
    (.seq (.reg (.seq [⟨(some (11, false)), none, .mov (.tmp 1 true) .peek⟩,
      ⟨(some (12, false)), none, .mov (.tmp 0 true) .peek⟩,
      ⟨(some (13, false)), none, .mov (.tmp 5 true) .peek⟩,
      ⟨(some (14, false)), none, .iad (.tmp 12 false) (.tmp 13 false) 1⟩,
      ⟨(some (15, false)), none, .load (.tmp 14 false) 1 false false⟩,
      ⟨(some (16, false)), none, .callV (.tmp 11 false) [(.tmp 15 false)]⟩])) [0, 1, 5, 7, 8, 16] []
    (.cond (.tmp 16 false)
      (.seq (.reg (.seq [⟨(some (17, false)), none, .mov (.tmp 5 true) .take⟩,
      ⟨(some (4, true)), none, .mov (.tmp 17 false) .asg⟩])) [4] []
      (.ret))
      (.skip))))) [0, 1, 7, 8] []
  (.reg (.seq [⟨(some (18, false)), none, .bin .add (.tmp 8 true) (.cst (.int .i64 1) (.lit (.int .i64 1)))⟩,
      ⟨(some (8, true)), none, .mov (.tmp 18 false) .peek⟩]))))
def gidxf_l0 : AC := gidxf_l0'
theorem gidxf_l0_w (C : Kn) (K : Ex → St → Prop) (s : St) : vcC C gidxf_l0 K s = vcC C gidxf_l0' K s := nr rfl
def gidxf_k1' : AC := .seq (.reg (.seq [⟨(some (4, true)), none, .mov (.cst (.int .i64 (-1)) (.lit (.int .i64 (-1)))) .asg⟩])) [4] []
  (.ret)
def gidxf_k1 : AC := gidxf_k1'
theorem gidxf_k1_w (C : Kn) (K : Ex → St → Prop) (s : St) : vcC C gidxf_k1 K s = vcC C gidxf_k1' K s := nr rfl
def gidxf : AF := ⟨.seq (.reg (.seq [⟨(some (4, true)), none, .mov (.cst (.int .i64 0) (.lit (.int .i64 0))) .asg⟩])) [0, 1] []
  (.seq (.seq (.reg (.seq [⟨(some (6, false)), none, .mov (.tmp 0 true) .peek⟩,
      ⟨(some (7, true)), none, .lenL (.tmp 6 false)⟩,
      ⟨(some (8, true)), none, .mov (.cst (.int .i64 0) (.lit (.int .i64 0))) .peek⟩])) [0, 1, 7, 8] []
  (.block 0 (.loop [0, 1, 7, 8] [] gidxf_l0))) [] [] gidxf_k1),
  [.tmp 4]⟩
theorem gidxf_comp (m : Int) : compF Tryd.prog (gl m) [] Tryd.f87 = some gidxf := by kernel_rfl
def gconf : AF := ⟨.seq (.reg (.seq [⟨(some (4, true)), none, .mov (.cst (.bool false) (.lit (.bool false))) .asg⟩])) [0, 1] []
  (.seq (.reg (.seq [⟨(some (5, false)), none, .mov (.tmp 0 true) .peek⟩,
      ⟨(some (6, false)), none, .mov (.tmp 1 true) .peek⟩,
      ⟨(some (7, false)), none, .call 87 [(.tmp 5 false), (.tmp 6 false)]⟩,
      ⟨(some (8, false)), none, .bin .geq (.tmp 7 false) (.cst (.int .i64 0) (.lit (.int .i64 0)))⟩,
      ⟨(some (4, true)), none, .mov (.tmp 8 false) .asg⟩])) [4] []
  (.ret)),
  [.tmp 4]⟩
theorem gconf_comp (m : Int) : compF Tryd.prog (gl m) [] Tryd.f61 = some gconf := by kernel_rfl
def gis : AF := ⟨.seq (.reg (.seq [⟨(some (2, true)), none, .mov (.cst (.bool false) (.lit (.bool false))) .asg⟩])) [0] []
  (.seq (.reg (.seq [⟨(some (3, false)), none, .mov (.tmp 0 true) .peek⟩,
      ⟨(some (4, false)), none, .len (.tmp 3 false)⟩,
      ⟨(some (5, false)), none, .bin .geq (.tmp 4 false) (.cst (.int .i64 1) (.lit (.int .i64 1)))⟩,
      ⟨(some (6, false)), none, .mov (.tmp 5 false) .peek⟩,
      ⟨(some (7, false)), (some (6, true)), .mov (.tmp 0 true) .peek⟩,
      ⟨(some (8, false)), (some (6, true)), .len (.tmp 7 false)⟩,
      ⟨(some (9, false)), (some (6, true)), .bin .leq (.tmp 8 false) (.cst (.int .i64 255) (.lit (.int .i64 255)))⟩,
      ⟨(some (10, false)), none, .pick (.tmp 6 false) (.tmp 9 false) (.cst (.bool false) (.lit (.bool false)))⟩,
      ⟨(some (11, false)), none, .mov (.tmp 10 false) .peek⟩,
      ⟨(some (12, false)), (some (11, true)), .mov (.tmp 0 true) .peek⟩,
      ⟨(some (13, false)), (some (11, true)), .call 62 [(.tmp 12 false), (.cst (.string (str [47])) (.lit (.string (str [47]))))]⟩,
      ⟨(some (14, false)), (some (11, true)), .call 61 [(.tmp 13 false), (.cst (.func (.func 63) #[] #[]) (.lit (.func (.func 63) #[] #[])))]⟩,
      ⟨(some (15, false)), (some (11, true)), .un .not (.tmp 14 false)⟩,
      ⟨(some (16, false)), none, .pick (.tmp 11 false) (.tmp 15 false) (.cst (.bool false) (.lit (.bool false)))⟩,
      ⟨(some (2, true)), none, .mov (.tmp 16 false) .asg⟩])) [2] []
  (.ret)),
  [.tmp 2]⟩
theorem gis_comp (m : Int) : compF Tryd.prog (gl m) [] Tryd.f35 = some gis := by kernel_rfl
def gstep : AF := ⟨.seq (.reg (.seq [⟨(some (6, true)), none, .mov (.cst (.bool false) (.lit (.bool false))) .asg⟩,
      ⟨(some (7, true)), none, .mov (.cst (.int .i64 0) (.lit (.int .i64 0))) .asg⟩])) [0, 1, 2] []
  (.seq (.seq (.reg (.seq [⟨(some (8, false)), none, .mov (.tmp 0 true) .peek⟩,
      ⟨(some (9, false)), none, .mov (.tmp 1 true) .peek⟩,
      ⟨(some (10, true)), none, .idx (.tmp 8 false) (.tmp 9 false)⟩])) [0, 1, 2, 10] []
  (.block 0 (.seq (.reg (.seq [⟨(some (12, false)), none, .bin .eql (.tmp 10 true) (.cst (.int .u8 63) (.lit (.int .u8 63)))⟩,
      ⟨(some (11, false)), none, .mov (.tmp 12 false) .asg⟩])) [0, 1, 2, 10, 11] []
    (.cond (.tmp 11 false)
      (.seq (.reg (.seq [⟨(some (13, false)), none, .mov (.tmp 1 true) .peek⟩,
      ⟨(some (14, false)), none, .bin .add (.tmp 13 false) (.cst (.int .i64 1) (.lit (.int .i64 1)))⟩,
      ⟨(some (6, true)), none, .mov (.cst (.bool true) (.lit (.bool true))) .asg⟩,
      ⟨(some (7, true)), none, .mov (.tmp 14 false) .asg⟩])) [6, 7] []
      (.ret))
      (.seq (.reg (.seq [⟨(some (16, false)), none, .bin .eql (.tmp 10 true) (.cst (.int .u8 91) (.lit (.int .u8 91)))⟩,
      ⟨(some (15, false)), none, .mov (.tmp 16 false) .asg⟩])) [0, 1, 2, 10, 15] []
      (.cond (.tmp 15 false)
        (.seq (.reg (.seq [⟨(some (17, false)), none, .mov (.tmp 0 true) .peek⟩,
      ⟨(some (18, false)), none, .mov (.tmp 1 true) .peek⟩,
      ⟨(some (19, false)), none, .bin .add (.tmp 18 false) (.cst (.int .i64 1) (.lit (.int .i64 1)))⟩,
      ⟨(some (20, false)), none, .mov (.tmp 2 true) .peek⟩,
      ⟨(some (21, false)), none, .call 89 [(.tmp 17 false), (.tmp 19 false), (.tmp 20 false)]⟩,
      ⟨(some (22, false)), none, .ext (.tmp 21 false) 0⟩,
      ⟨(some (23, false)), none, .ext (.tmp 21 false) 1⟩,
      ⟨(some (6, true)), none, .mov (.tmp 22 false) .asg⟩,
      ⟨(some (7, true)), none, .mov (.tmp 23 false) .asg⟩])) [6, 7] []
        (.ret))
        (.seq (.reg (.seq [⟨(some (25, false)), none, .bin .eql (.tmp 10 true) (.cst (.int .u8 92) (.lit (.int .u8 92)))⟩,
      ⟨(some (24, false)), none, .mov (.tmp 25 false) .asg⟩])) [0, 1, 2, 24] []
        (.cond (.tmp 24 false)
          (.seq (.reg (.seq [⟨(some (26, false)), none, .mov (.tmp 0 true) .peek⟩,
      ⟨(some (27, false)), none, .mov (.tmp 1 true) .peek⟩,
      ⟨(some (28, false)), none, .bin .add (.tmp 27 false) (.cst (.int .i64 1) (.lit (.int .i64 1)))⟩,
      ⟨(some (29, false)), none, .idx (.tmp 26 false) (.tmp 28 false)⟩,
      ⟨(some (30, false)), none, .mov (.tmp 2 true) .peek⟩,
      ⟨(some (31, false)), none, .bin .eql (.tmp 29 false) (.tmp 30 false)⟩,
      ⟨(some (32, false)), none, .mov (.tmp 1 true) .peek⟩,
      ⟨(some (33, false)), none, .bin .add (.tmp 32 false) (.cst (.int .i64 2) (.lit (.int .i64 2)))⟩,
      ⟨(some (6, true)), none, .mov (.tmp 31 false) .asg⟩,
      ⟨(some (7, true)), none, .mov (.tmp 33 false) .asg⟩])) [6, 7] []
          (.ret))
          (.skip))))))))) [0, 1, 2] []
  (.seq (.reg (.seq [⟨(some (34, false)), none, .mov (.tmp 0 true) .peek⟩,
      ⟨(some (35, false)), none, .mov (.tmp 1 true) .peek⟩,
      ⟨(some (36, false)), none, .idx (.tmp 34 false) (.tmp 35 false)⟩,
      ⟨(some (37, false)), none, .mov (.tmp 2 true) .peek⟩,
      ⟨(some (38, false)), none, .bin .eql (.tmp 36 false) (.tmp 37 false)⟩,
      ⟨(some (39, false)), none, .mov (.tmp 1 true) .peek⟩,
      ⟨(some (40, false)), none, .bin .add (.tmp 39 false) (.cst (.int .i64 1) (.lit (.int .i64 1)))⟩,
      ⟨(some (6, true)), none, .mov (.tmp 38 false) .asg⟩,
      ⟨(some (7, true)), none, .mov (.tmp 40 false) .asg⟩])) [6, 7] []
  (.ret))),
  [.tmp 6, .tmp 7]⟩
theorem gstep_comp (m : Int) : compF Tryd.prog (gl m) [] Tryd.f91 = some gstep := by kernel_rfl
def gpart_l0' : AC := .block 1 (.seq (.block 2 (.seq (.reg (.seq [⟨(some (12, false)), none, .mov (.tmp 5 true) .peek⟩,
      ⟨(some (13, false)), none, .mov (.tmp 0 true) .peek⟩,
      ⟨(some (14, false)), none, .len (.tmp 13 false)⟩,
      ⟨(some (15, false)), none, .bin .lss (.tmp 12 false) (.tmp 14 false)⟩,
      ⟨(some (16, false)), none, .mov (.tmp 15 false) .peek⟩,
      ⟨(some (17, false)), (some (16, true)), .mov (.tmp 0 true) .peek⟩,
      ⟨(some (18, false)), (some (16, true)), .mov (.tmp 5 true) .peek⟩,
      ⟨(some (19, false)), (some (16, true)), .idx (.tmp 17 false) (.tmp 18 false)⟩,
      ⟨(some (20, false)), (some (16, true)), .bin .eql (.tmp 19 false) (.cst (.int .u8 42) (.lit (.int .u8 42)))⟩,
      ⟨(some (21, false)), none, .pick (.tmp 16 false) (.tmp 20 false) (.cst (.bool false) (.lit (.bool false)))⟩,
      ⟨(some (11, false)), none, .mov (.tmp 21 false) .asg⟩])) [0, 1, 5, 6, 7, 8, 11] []
      (.cond (.tmp 11 false)
        (.seq (.reg (.seq [⟨(some (22, false)), none, .mov (.tmp 5 true) .peek⟩,
      ⟨(some (23, false)), none, .bin .add (.tmp 22 false) (.cst (.int .i64 1) (.lit (.int .i64 1)))⟩,
      ⟨(some (5, true)), none, .mov (.tmp 23 false) .asg⟩])) [0, 1, 5, 6] []
        (.seq (.reg (.seq [⟨(some (24, false)), none, .mov (.tmp 5 true) .take⟩,
      ⟨(some (25, false)), none, .mov (.tmp 6 true) .take⟩,
      ⟨(some (7, true)), none, .mov (.tmp 24 false) .asg⟩,
      ⟨(some (8, true)), none, .mov (.tmp 25 false) .asg⟩])) [0, 1, 5, 6, 7, 8] []
        (.exit 1)))
        (.seq (.reg (.seq [⟨(some (27, false)), none, .mov (.tmp 5 true) .peek⟩,
      ⟨(some (28, false)), none, .mov (.tmp 0 true) .peek⟩,
      ⟨(some (29, false)), none, .len (.tmp 28 false)⟩,
      ⟨(some (30, false)), none, .bin .eql (.tmp 27 false) (.tmp 29 false)⟩,
      ⟨(some (31, false)), none, .mov (.tmp 30 false) .peek⟩,
      ⟨(some (32, false)), (some (31, true)), .mov (.tmp 6 true) .peek⟩,
      ⟨(some (33, false)), (some (31, true)), .mov (.tmp 1 true) .peek⟩,
      ⟨(some (34, false)), (some (31, true)), .len (.tmp 33 false)⟩,
      ⟨(some (35, false)), (some (31, true)), .bin .eql (.tmp 32 false) (.tmp 34 false)⟩,
      ⟨(some (36, false)), none, .pick (.tmp 31 false) (.tmp 35 false) (.cst (.bool false) (.lit (.bool false)))⟩,
      ⟨(some (26, false)), none, .mov (.tmp 36 false) .asg⟩])) [0, 1, 5, 6, 7, 8, 26] []
        (.cond (.tmp 26 false)
          (.seq (.reg (.seq [⟨(some (4, true)), none, .mov (.cst (.bool true) (.lit (.bool true))) .asg⟩])) [4] []
          (.ret))
          (.seq (.reg (.seq [⟨(some (38, false)), none, .mov (.tmp 5 true) .peek⟩,
      ⟨(some (39, false)), none, .mov (.tmp 0 true) .peek⟩,
      ⟨(some (40, false)), none, .len (.tmp 39 false)⟩,
      ⟨(some (41, false)), none, .bin .lss (.tmp 38 false) (.tmp 40 false)⟩,
      ⟨(some (42, false)), none, .mov (.tmp 41 false) .peek⟩,
      ⟨(some (43, false)), (some (42, true)), .mov (.tmp 6 true) .peek⟩,
      ⟨(some (44, false)), (some (42, true)), .mov (.tmp 1 true) .peek⟩,
      ⟨(some (45, false)), (some (42, true)), .len (.tmp 44 false)⟩,
      ⟨(some (46, false)), (some (42, true)), .bin .lss (.tmp 43 false) (.tmp 45 false)⟩,
      ⟨(some (47, false)), none, .pick (.tmp 42 false) (.tmp 46 false) (.cst (.bool false) (.lit (.bool false)))⟩,
      ⟨(some (37, false)), none, .mov (.tmp 47 false) .asg⟩])) [0, 1, 5, 6, 7, 8, 37] []
          (.cond (.tmp 37 false)
            (.seq (.reg (.seq [⟨(some (49, false)), none, .mov (.tmp 0 true) .peek⟩,
      ⟨(some (50, false)), none, .mov (.tmp 5 true) .peek⟩,
      ⟨(some (51, false)), none, .mov (.tmp 1 true) .peek⟩,
      ⟨(some (52, false)), none, .mov (.tmp 6 true) .peek⟩,
      ⟨(some (53, false)), none, .idx (.tmp 51 false) (.tmp 52 false)⟩,
      ⟨(some (54, false)), none, .call 91 [(.tmp 49 false), (.tmp 50 false), (.tmp 53 false)]⟩,
      ⟨(some (48, false)), none, .mov (.tmp 54 false) .peek⟩,
      ⟨(some (55, false)), none, .ext (.tmp 48 false) 0⟩,
      ⟨(some (56, false)), none, .ext (.tmp 48 false) 1⟩,
      ⟨(some (9, true)), none, .mov (.tmp 55 false) .asg⟩,
      ⟨(some (10, true)), none, .mov (.tmp 56 false) .asg⟩])) [0, 1, 6, 7, 8, 9, 10] []
            (.seq (.reg (.seq [⟨(some (57, false)), none, .mov (.tmp 9 true) .peek⟩])) [0, 1, 6, 7, 8, 10, 57] []
            (.cond (.tmp 57 false)
              (.seq (.reg (.seq [⟨(some (58, false)), none, .mov (.tmp 10 true) .take⟩,
      ⟨(some (59, false)), none, .mov (.tmp 6 true) .peek⟩,
      ⟨(some (60, false)), none, .bin .add (.tmp 59 false) (.cst (.int .i64 1) (.lit (.int .i64 1)))⟩,
      ⟨(some (5, true)), none, .mov (.tmp 58 false) .asg⟩,
      ⟨(some (6, true)), none, .mov (.tmp 60 false) .asg⟩])) [0, 1, 5, 6, 7, 8] []
              (.exit 1))
              (.skip))))
            (.skip)))))))) [0, 1, 7, 8] []
    (.seq (.seq (.reg (.seq [⟨(some (61, false)), none, .mov (.tmp 7 true) .peek⟩,
      ⟨(some (62, false)), none, .bin .lss (.tmp 61 false) (.cst (.int .i64 0) (.lit (.int .i64 0)))⟩,
      ⟨(some (63, false)), none, .mov (.tmp 62 false) .peek⟩,
      ⟨(some (64, false)), (some (63, false)), .mov (.tmp 8 true) .peek⟩,
      ⟨(some (65, false)), (some (63, false)), .mov (.tmp 1 true) .peek⟩,
      ⟨(some (66, false)), (some (63, false)), .len (.tmp 65 false)⟩,
      ⟨(some (67, false)), (some (63, false)), .bin .geq (.tmp 64 false) (.tmp 66 false)⟩,
      ⟨(some (68, false)), none, .pick (.tmp 63 false) (.cst (.bool true) (.lit (.bool true))) (.tmp 67 false)⟩])) [0, 1, 7, 8, 68] []
    (.cond (.tmp 68 false)
      (.seq (.reg (.seq [⟨(some (4, true)), none, .mov (.cst (.bool false) (.lit (.bool false))) .asg⟩])) [4] []
      (.ret))
      (.skip))) [0, 1, 7, 8] []
    (.seq (.reg (.seq [⟨(some (69, false)), none, .mov (.tmp 8 true) .peek⟩,
      ⟨(some (70, false)), none, .bin .add (.tmp 69 false) (.cst (.int .i64 1) (.lit (.int .i64 1)))⟩,
      ⟨(some (8, true)), none, .mov (.tmp 70 false) .asg⟩])) [0, 1, 7, 8] []
    (.reg (.seq [⟨(some (71, false)), none, .mov (.tmp 7 true) .take⟩,
      ⟨(some (72, false)), none, .mov (.tmp 8 true) .take⟩,
      ⟨(some (5, true)), none, .mov (.tmp 71 false) .asg⟩,
      ⟨(some (6, true)), none, .mov (.tmp 72 false) .asg⟩])))))
def gpart_l0 : AC := gpart_l0'
theorem gpart_l0_w (C : Kn) (K : Ex → St → Prop) (s : St) : vcC C gpart_l0 K s = vcC C gpart_l0' K s := nr rfl
def gpart : AF := ⟨.seq (.reg (.seq [⟨(some (4, true)), none, .mov (.cst (.bool false) (.lit (.bool false))) .asg⟩])) [0, 1] []
  (.seq (.reg (.seq [⟨(some (5, true)), none, .mov (.cst (.int .i64 0) (.lit (.int .i64 0))) .asg⟩,
      ⟨(some (6, true)), none, .mov (.cst (.int .i64 0) (.lit (.int .i64 0))) .asg⟩])) [0, 1, 5, 6] []
  (.seq (.reg (.seq [⟨(some (7, true)), none, .mov (.cst (.int .i64 (-1)) (.lit (.int .i64 (-1)))) .asg⟩,
      ⟨(some (8, true)), none, .mov (.cst (.int .i64 0) (.lit (.int .i64 0))) .asg⟩])) [0, 1, 5, 6, 7, 8] []
  (.seq (.skip) [0, 1, 5, 6, 7, 8] []
  (.block 0 (.loop [0, 1, 5, 6, 7, 8] [] gpart_l0))))),
  [.tmp 4]⟩
theorem gpart_comp (m : Int) : compF Tryd.prog (gl m) [] Tryd.f71 = some gpart := by kernel_rfl
def gPart : AF := ⟨.seq (.reg (.seq [⟨(some (4, true)), none, .mov (.cst (.bool false) (.lit (.bool false))) .asg⟩])) [0, 1] []
  (.seq (.reg (.seq [⟨(some (5, false)), none, .mov (.tmp 0 true) .peek⟩,
      ⟨(some (6, false)), none, .call 35 [(.tmp 5 false)]⟩,
      ⟨(some (7, false)), none, .mov (.tmp 6 false) .peek⟩,
      ⟨(some (8, false)), (some (7, true)), .mov (.tmp 0 true) .peek⟩,
      ⟨(some (9, false)), (some (7, true)), .call 70 [(.tmp 8 false), (.cst (.string (str [47])) (.lit (.string (str [47]))))]⟩,
      ⟨(some (10, false)), (some (7, true)), .un .not (.tmp 9 false)⟩,
      ⟨(some (11, false)), none, .pick (.tmp 7 false) (.tmp 10 false) (.cst (.bool false) (.lit (.bool false)))⟩,
      ⟨(some (12, false)), none, .mov (.tmp 11 false) .peek⟩,
      ⟨(some (13, false)), (some (12, true)), .mov (.tmp 1 true) .peek⟩,
      ⟨(some (14, false)), (some (12, true)), .call 70 [(.tmp 13 false), (.cst (.string (str [47])) (.lit (.string (str [47]))))]⟩,
      ⟨(some (15, false)), (some (12, true)), .un .not (.tmp 14 false)⟩,
      ⟨(some (16, false)), none, .pick (.tmp 12 false) (.tmp 15 false) (.cst (.bool false) (.lit (.bool false)))⟩,
      ⟨(some (17, false)), none, .mov (.tmp 16 false) .peek⟩,
      ⟨(some (18, false)), (some (17, true)), .mov (.tmp 0 true) .peek⟩,
      ⟨(some (19, false)), (some (17, true)), .mov (.tmp 1 true) .peek⟩,
      ⟨(some (20, false)), (some (17, true)), .call 71 [(.tmp 18 false), (.tmp 19 false)]⟩,
      ⟨(some (21, false)), none, .pick (.tmp 17 false) (.tmp 20 false) (.cst (.bool false) (.lit (.bool false)))⟩,
      ⟨(some (4, true)), none, .mov (.tmp 21 false) .asg⟩])) [4] []
  (.ret)),
  [.tmp 4]⟩
theorem gPart_comp (m : Int) : compF Tryd.prog (gl m) [] Tryd.f47 = some gPart := by kernel_rfl
theorem ggood_loop (p : Ln.Bs) (hp : p.length ≤ 1048576) (n : Nat) : ∀ (i : Nat) (hn : p.length - i ≤ n) (hi : i ≤ p.length),
    vcL (kn m) [0, 3] [] ggood_l0 (blockK 0 (seqK (kn m) [0] [] ggood_k1 (outOk [.tmp 2] (B (decide (p ≠ []) && (toks (p.drop i)).isSome))))) (mkS [(0, S p), (3, N i)] []) := by
  induction n with
  | zero =>
    intro i hn hi
    apply round
    simp only [ggood_l0_w, ggood_l0', go_sem, reduceCtorEq, Nat.reduceEqDiff, reduceIte, Nat.reduceAdd, Nat.reduceSub, Nat.reduceLeDiff, Int.reduceToNat, Nat.reduceBEq]
    rw [lt_f (by omega)]
    simp only [ggood_k1_w, ggood_k1', go_sem, reduceCtorEq, Nat.reduceEqDiff, reduceIte, Nat.reduceAdd, Nat.reduceSub, Nat.reduceLeDiff, Int.reduceToNat, Nat.reduceBEq]
    rw [toks_end (by omega)]
    rw [show (!p == []) = decide (p ≠ []) by by_cases h : p = [] <;> simp [h]]
    simp only [Option.isSome_some, Bool.and_true]
  | succ n ih =>
    intro i hn hi
    by_cases h : i < p.length
    · have hw1 : IntKind.i64.wrap ((i : Int) + 1) = ((i + 1 : Nat) : Int) := wrapN (i + 1) (by omega) (by omega)
      have hw2 : IntKind.i64.wrap ((i : Int) + 2) = ((i + 2 : Nat) : Int) := wrapN (i + 2) (by omega) (by omega)
      have hta := toks_at h
      apply round
      simp only [ggood_l0_w, ggood_l0', go_sem, reduceCtorEq, Nat.reduceEqDiff, reduceIte, Nat.reduceAdd, Nat.reduceSub, Nat.reduceLeDiff, Int.reduceToNat, Nat.reduceBEq]
      rw [lt_t h]
      simp only [getE h, go_sem, reduceCtorEq, Nat.reduceEqDiff, reduceIte, Nat.reduceAdd, Nat.reduceSub, Nat.reduceLeDiff, Int.reduceToNat, Nat.reduceBEq]
      refine ⟨by omega, ?_⟩
      by_cases h92 : p[i] = 92
      · rw [u8b_t (n := 92) h92 rfl]
        simp only [hw1, hw2, go_sem, reduceCtorEq, Nat.reduceEqDiff, reduceIte, Nat.reduceAdd, Nat.reduceSub, Nat.reduceLeDiff, Int.reduceToNat, Nat.reduceBEq]
        rw [tok_esc h h92] at hta
        by_cases h2 : i + 1 < p.length
        · rw [dif_pos h2] at hta
          simp only at hta
          rw [eq_f (by omega), hta]
          simp only [hw2, Option.isSome_map, go_sem, reduceCtorEq, Nat.reduceEqDiff, reduceIte, Nat.reduceAdd, Nat.reduceSub, Nat.reduceLeDiff, Int.reduceToNat, Nat.reduceBEq]
          exact ih (i + 2) (by omega) (by omega)
        · rw [dif_neg h2] at hta
          simp only at hta
          rw [eq_t (by omega), hta]
          simp only [Option.isSome_none, Bool.and_false, go_sem, reduceCtorEq, Nat.reduceEqDiff, reduceIte, Nat.reduceAdd, Nat.reduceSub, Nat.reduceLeDiff, Int.reduceToNat, Nat.reduceBEq]
      · rw [u8b_f (n := 92) h92 rfl]
        simp only [go_sem, reduceCtorEq, Nat.reduceEqDiff, reduceIte, Nat.reduceAdd, Nat.reduceSub, Nat.reduceLeDiff, Int.reduceToNat, Nat.reduceBEq]
        by_cases h91 : p[i] = 91
        · rw [u8b_t (n := 91) h91 rfl]
          simp only [hw1, go_sem, reduceCtorEq, Nat.reduceEqDiff, reduceIte, Nat.reduceAdd, Nat.reduceSub, Nat.reduceLeDiff, Int.reduceToNat, Nat.reduceBEq]
          have hc := gclass_snd (m := m) p hp (i + 1) (by omega) 0
          have htc := tok_cls h h91
          cases hcl : clsL (p.drop (i + 1)) with
          | none =>
            rw [hcl] at hc htc
            rw [htc] at hta
            refine of_call hc ?_
            simp only [Option.map_none] at hta
            rw [hta]
            simp only [Option.isSome_none, Bool.and_false, go_sem, reduceCtorEq, Nat.reduceEqDiff, reduceIte, Nat.reduceAdd, Nat.reduceSub, Nat.reduceLeDiff, Int.reduceToNat, Nat.reduceBEq]
            rw [ilt_t (by omega)]
            simp only [go_sem, reduceCtorEq, Nat.reduceEqDiff, reduceIte, Nat.reduceAdd, Nat.reduceSub, Nat.reduceLeDiff, Int.reduceToNat, Nat.reduceBEq]
          | some x =>
            rw [hcl] at hc htc
            simp only [Option.map_some] at htc
            have hr := tok_rest htc
            rw [htc] at hta
            simp only at hta
            refine of_call hc ?_
            simp only [go_sem, reduceCtorEq, Nat.reduceEqDiff, reduceIte, Nat.reduceAdd, Nat.reduceSub, Nat.reduceLeDiff, Int.reduceToNat, Nat.reduceBEq]
            rw [ilt_f (by omega), hta]
            simp only [Option.isSome_map, go_sem, reduceCtorEq, Nat.reduceEqDiff, reduceIte, Nat.reduceAdd, Nat.reduceSub, Nat.reduceLeDiff, Int.reduceToNat, Nat.reduceBEq]
            have := ih (p.length - x.2.2.length) (by omega) (by omega)
            rw [← hr.1] at this
            exact this
        · rw [u8b_f (n := 91) h91 rfl]
          simp only [hw1, go_sem, reduceCtorEq, Nat.reduceEqDiff, reduceIte, Nat.reduceAdd, Nat.reduceSub, Nat.reduceLeDiff, Int.reduceToNat, Nat.reduceBEq]
          rw [tok_else h h92 h91] at hta
          simp only at hta
          rw [hta, Option.isSome_map]
          exact ih (i + 1) (by omega) (by omega)
    · apply round
      simp only [ggood_l0_w, ggood_l0', go_sem, reduceCtorEq, Nat.reduceEqDiff, reduceIte, Nat.reduceAdd, Nat.reduceSub, Nat.reduceLeDiff, Int.reduceToNat, Nat.reduceBEq]
      rw [lt_f (by omega)]
      simp only [ggood_k1_w, ggood_k1', go_sem, reduceCtorEq, Nat.reduceEqDiff, reduceIte, Nat.reduceAdd, Nat.reduceSub, Nat.reduceLeDiff, Int.reduceToNat, Nat.reduceBEq]
      rw [toks_end (by omega)]
      rw [show (!p == []) = decide (p ≠ []) by by_cases h : p = [] <;> simp [h]]
      simp only [Option.isSome_some, Bool.and_true]
theorem ggood_snd (p : Ln.Bs) (hp : p.length ≤ 1048576) : Snd Tryd.prog (gl m) 64 [S p] (B (good p)) := by
  refine snd_of (fn := Tryd.f64) (af := ggood) Tryd.func64 (ggood_comp m) mixed (kn_ok m) (Nat.le_of_ble_eq_true rfl) ?_
  simp only [ggood, go_sem, reduceCtorEq, Nat.reduceEqDiff, reduceIte, Nat.reduceAdd, Nat.reduceSub, Nat.reduceLeDiff, Int.reduceToNat, Nat.reduceBEq]
  exact ggood_loop p hp _ 0 (Nat.le_refl _) (by omega)
theorem gbad_snd (p : Ln.Bs) (hp : p.length ≤ 1048576) : Snd Tryd.prog (gl m) 63 [S p] (B (!good p)) := by
  refine snd_of (fn := Tryd.f63) (af := gbad) Tryd.func63 (gbad_comp m) mixed (kn_ok m) (Nat.le_of_ble_eq_true rfl) ?_
  simp only [gbad, go_sem, reduceCtorEq, Nat.reduceEqDiff, reduceIte, Nat.reduceAdd, Nat.reduceSub, Nat.reduceLeDiff, Int.reduceToNat, Nat.reduceBEq]
  refine of_call (ggood_snd p hp) ?_
  simp only [unVal, go_sem, reduceCtorEq, Nat.reduceEqDiff, reduceIte, Nat.reduceAdd, Nat.reduceSub, Nat.reduceLeDiff, Int.reduceToNat, Nat.reduceBEq]
def fbad : List Ln.Bs → Nat → Int
  | [], _ => -1
  | x :: r, i => if good x then fbad r (i + 1) else (i : Int)
theorem kn_v63 : (kn m).v 63 := ⟨Tryd.f63, Tryd.func63, rfl, by decide⟩
abbrev F63 : AV := .lit (.func (.func 63) #[] #[])
theorem gidxf_loop (L : List Ln.Bs) (hL : L.length ≤ 1048576) (hb : ∀ l, l ∈ L → l.length ≤ 1048576) (n : Nat) : ∀ (i : Nat) (hn : L.length - i = n) (hi : i ≤ L.length),
    vcL (kn m) [0, 1, 7, 8] [] gidxf_l0 (blockK 0 (seqK (kn m) [] [] gidxf_k1 (outOk [.tmp 4] (I (fbad (L.drop i) i))))) (mkS [(0, .sl .frn 1 (ss L)), (1, F63), (7, N L.length), (8, N i)] []) := by
  induction n with
  | zero =>
    intro i hn hi
    apply round
    simp only [gidxf_l0_w, gidxf_l0', go_sem, reduceCtorEq, Nat.reduceEqDiff, reduceIte, Nat.reduceAdd, Nat.reduceSub, Nat.reduceLeDiff, Int.reduceToNat, Nat.reduceBEq]
    rw [lt_f (by omega), List.drop_of_length_le (by omega)]
    simp only [gidxf_k1_w, gidxf_k1', fbad, go_sem, reduceCtorEq, Nat.reduceEqDiff, reduceIte, Nat.reduceAdd, Nat.reduceSub, Nat.reduceLeDiff, Int.reduceToNat, Nat.reduceBEq]
  | succ n ih =>
    intro i hn hi
    have hil : i < L.length := by omega
    have hlb := hb _ (List.getElem_mem hil)
    have hw : IntKind.i64.wrap ((i : Int) + 1) = ((i + 1 : Nat) : Int) := wrapN (i + 1) (by omega) (by omega)
    rw [List.drop_eq_getElem_cons hil, fbad]
    apply round
    simp only [gidxf_l0_w, gidxf_l0', go_sem, reduceCtorEq, Nat.reduceEqDiff, reduceIte, Nat.reduceAdd, Nat.reduceSub, Nat.reduceLeDiff, Int.reduceToNat, Nat.reduceBEq]
    rw [lt_t hil]
    simp only [ssE L hil, go_sem, reduceCtorEq, Nat.reduceEqDiff, reduceIte, Nat.reduceAdd, Nat.reduceSub, Nat.reduceLeDiff, Int.reduceToNat, Nat.reduceBEq]
    repeat (refine ⟨by (try simp only [List.length_append, List.length_cons, List.length_nil]); omega, ?_⟩)
    refine ⟨kn_v63, ?_⟩
    refine of_call (gbad_snd L[i] (by omega)) ?_
    simp only [go_sem, reduceCtorEq, Nat.reduceEqDiff, reduceIte, Nat.reduceAdd, Nat.reduceSub, Nat.reduceLeDiff, Int.reduceToNat, Nat.reduceBEq]
    cases hg : good L[i] with
    | true =>
      simp only [hw, go_sem, reduceCtorEq, Nat.reduceEqDiff, reduceIte, Nat.reduceAdd, Nat.reduceSub, Nat.reduceLeDiff, Int.reduceToNat, Nat.reduceBEq]
      exact ih (i + 1) (by omega) (by omega)
    | false =>
      simp only [go_sem, reduceCtorEq, Nat.reduceEqDiff, reduceIte, Nat.reduceAdd, Nat.reduceSub, Nat.reduceLeDiff, Int.reduceToNat, Nat.reduceBEq]
theorem gidxf_snd (L : List Ln.Bs) (hL : L.length ≤ 1048576) (hb : ∀ l, l ∈ L → l.length ≤ 1048576) : Snd Tryd.prog (gl m) 87 [.sl .frn 1 (ss L), F63] (I (fbad L 0)) := by
  refine snd_of (fn := Tryd.f87) (af := gidxf) Tryd.func87 (gidxf_comp m) mixed (kn_ok m) (Nat.le_of_ble_eq_true rfl) ?_
  simp only [gidxf, go_sem, reduceCtorEq, Nat.reduceEqDiff, reduceIte, Nat.reduceAdd, Nat.reduceSub, Nat.reduceLeDiff, Int.reduceToNat, Nat.reduceBEq]
  exact gidxf_loop L hL hb _ 0 rfl (by omega)
theorem fbad_iff (L : List Ln.Bs) : ∀ i : Nat, 0 ≤ fbad L i ↔ L.all good = false := by
  induction L with
  | nil => intro i; simp [fbad]
  | cons x L ih =>
    intro i
    simp only [fbad, List.all_cons]
    by_cases hg : good x = true
    · rw [if_pos hg, ih (i + 1), hg, Bool.true_and]
    · have e : good x = false := Bool.eq_false_iff.2 hg
      rw [if_neg hg, e]
      constructor
      · intro _; rfl
      · intro _; omega
theorem fbad_ge (L : List Ln.Bs) (i : Nat) : decide (fbad L i ≥ 0) = !L.all good := by
  rw [Bool.eq_iff_iff, decide_eq_true_iff, Bool.not_eq_true', ← fbad_iff L i]
theorem beqN (a b : UInt8) : ((a.toNat : Int) == (b.toNat : Int)) = (a == b) := by
  by_cases h : a = b
  · subst h; simp
  · rw [u8b_f (d := b) h rfl]; simp [h]
theorem gconf_snd (L : List Ln.Bs) (hL : L.length ≤ 1048576) (hb : ∀ l, l ∈ L → l.length ≤ 1048576) : Snd Tryd.prog (gl m) 61 [.sl .frn 1 (ss L), F63] (B (!L.all good)) := by
  refine snd_of (fn := Tryd.f61) (af := gconf) Tryd.func61 (gconf_comp m) mixed (kn_ok m) (Nat.le_of_ble_eq_true rfl) ?_
  simp only [gconf, go_sem, reduceCtorEq, Nat.reduceEqDiff, reduceIte, Nat.reduceAdd, Nat.reduceSub, Nat.reduceLeDiff, Int.reduceToNat, Nat.reduceBEq]
  refine of_call (gidxf_snd L hL hb) ?_
  simp only [go_sem, reduceCtorEq, Nat.reduceEqDiff, reduceIte, Nat.reduceAdd, Nat.reduceSub, Nat.reduceLeDiff, Int.reduceToNat, Nat.reduceBEq]
  rw [fbad_ge]
theorem gis_snd (p : Ln.Bs) (hp : p.length ≤ 1048576) : Snd Tryd.prog (gl m) 35 [S p] (B (isPat p)) := by
  refine snd_of (fn := Tryd.f35) (af := gis) Tryd.func35 (gis_comp m) mixed (kn_ok m) (Nat.le_of_ble_eq_true rfl) ?_
  simp only [gis, go_sem, reduceCtorEq, Nat.reduceEqDiff, reduceIte, Nat.reduceAdd, Nat.reduceSub, Nat.reduceLeDiff, Int.reduceToNat, Nat.reduceBEq]
  have hpl := pieces_len p
  unfold isPat
  by_cases h1 : 1 ≤ p.length
  · rw [ige_t (by omega), decide_eq_true h1]
    simp only [go_sem, reduceCtorEq, Nat.reduceEqDiff, reduceIte, Nat.reduceAdd, Nat.reduceSub, Nat.reduceLeDiff, Int.reduceToNat, Nat.reduceBEq]
    by_cases h2 : p.length ≤ 255
    · rw [ile_t (by omega), decide_eq_true h2]
      simp only [go_sem, reduceCtorEq, Nat.reduceEqDiff, reduceIte, Nat.reduceAdd, Nat.reduceSub, Nat.reduceLeDiff, Int.reduceToNat, Nat.reduceBEq]
      refine of_call (split_snd p hp) ?_
      simp only [go_sem, reduceCtorEq, Nat.reduceEqDiff, reduceIte, Nat.reduceAdd, Nat.reduceSub, Nat.reduceLeDiff, Int.reduceToNat, Nat.reduceBEq]
      refine of_call (gconf_snd (pieces p) (by omega) (fun l hl => by have := piece_len hl; omega)) ?_
      simp only [unVal, Bool.not_not, go_sem, reduceCtorEq, Nat.reduceEqDiff, reduceIte, Nat.reduceAdd, Nat.reduceSub, Nat.reduceLeDiff, Int.reduceToNat, Nat.reduceBEq]
    · rw [ile_f (by omega), decide_eq_false h2]
      simp only [Bool.and_false, Bool.false_and, go_sem, reduceCtorEq, Nat.reduceEqDiff, reduceIte, Nat.reduceAdd, Nat.reduceSub, Nat.reduceLeDiff, Int.reduceToNat, Nat.reduceBEq]
  · rw [ige_f (by omega), decide_eq_false h1]
    simp only [Bool.false_and, go_sem, reduceCtorEq, Nat.reduceEqDiff, reduceIte, Nat.reduceAdd, Nat.reduceSub, Nat.reduceLeDiff, Int.reduceToNat, Nat.reduceBEq]

/-! ### a sign, a part -/
theorem gstep_snd (p : Ln.Bs) (hp : p.length ≤ 1048576) (i : Nat) (h : i < p.length) (c : UInt8) (t : Tok) (R : Ln.Bs) (ht : tok (p.drop i) = some (t, R)) (hs : t ≠ .star) :
    Snd Tryd.prog (gl m) 91 [S p, N i, U8 c] (.tup [B (fits t c), N (p.length - R.length)]) := by
  have hw1 : IntKind.i64.wrap ((i : Int) + 1) = ((i + 1 : Nat) : Int) := wrapN (i + 1) (by omega) (by omega)
  have hw2 : IntKind.i64.wrap ((i : Int) + 2) = ((i + 2 : Nat) : Int) := wrapN (i + 2) (by omega) (by omega)
  have hr := tok_rest ht
  refine snd_of (fn := Tryd.f91) (af := gstep) Tryd.func91 (gstep_comp m) mixed (kn_ok m) (Nat.le_of_ble_eq_true rfl) ?_
  simp only [gstep, getE h, go_sem, reduceCtorEq, Nat.reduceEqDiff, reduceIte, Nat.reduceAdd, Nat.reduceSub, Nat.reduceLeDiff, Int.reduceToNat, Nat.reduceBEq]
  refine ⟨by omega, ?_⟩
  by_cases h92 : p[i] = 92
  · have h63 : p[i] ≠ 63 := by rw [h92]; decide
    have h91 : p[i] ≠ 91 := by rw [h92]; decide
    rw [tok_esc h h92] at ht
    by_cases h2 : i + 1 < p.length
    · rw [dif_pos h2] at ht
      injection ht with ht; injection ht with ht ht2; subst ht; subst ht2
      rw [u8b_f (n := 63) h63 rfl]
      simp only [go_sem, reduceCtorEq, Nat.reduceEqDiff, reduceIte, Nat.reduceAdd, Nat.reduceSub, Nat.reduceLeDiff, Int.reduceToNat, Nat.reduceBEq]
      rw [u8b_f (n := 91) h91 rfl]
      simp only [go_sem, reduceCtorEq, Nat.reduceEqDiff, reduceIte, Nat.reduceAdd, Nat.reduceSub, Nat.reduceLeDiff, Int.reduceToNat, Nat.reduceBEq]
      rw [u8b_t (n := 92) h92 rfl]
      simp only [hw1, hw2, getE h2, go_sem, reduceCtorEq, Nat.reduceEqDiff, reduceIte, Nat.reduceAdd, Nat.reduceSub, Nat.reduceLeDiff, Int.reduceToNat, Nat.reduceBEq]
      refine ⟨by omega, ?_⟩
      rw [beqN, List.length_drop, show p.length - (p.length - (i + 2)) = i + 2 by omega]; rfl
    · rw [dif_neg h2] at ht; cases ht
  · by_cases h91 : p[i] = 91
    · have h63 : p[i] ≠ 63 := by rw [h91]; decide
      rw [tok_cls h h91] at ht
      have hc := gclass_snd (m := m) p hp (i + 1) (by omega) c
      cases hcl : clsL (p.drop (i + 1)) with
      | none => rw [hcl] at ht; cases ht
      | some x =>
        rw [hcl] at ht hc
        simp only [Option.map_some, Option.some.injEq, Prod.mk.injEq] at ht
        obtain ⟨ht, hR⟩ := ht
        subst ht; subst hR
        rw [u8b_f (n := 63) h63 rfl]
        simp only [go_sem, reduceCtorEq, Nat.reduceEqDiff, reduceIte, Nat.reduceAdd, Nat.reduceSub, Nat.reduceLeDiff, Int.reduceToNat, Nat.reduceBEq]
        rw [u8b_t (n := 91) h91 rfl]
        simp only [hw1, go_sem, reduceCtorEq, Nat.reduceEqDiff, reduceIte, Nat.reduceAdd, Nat.reduceSub, Nat.reduceLeDiff, Int.reduceToNat, Nat.reduceBEq]
        refine of_call hc ?_
        simp only [go_sem, reduceCtorEq, Nat.reduceEqDiff, reduceIte, Nat.reduceAdd, Nat.reduceSub, Nat.reduceLeDiff, Int.reduceToNat, Nat.reduceBEq]
        rfl
    · rw [tok_else h h92 h91] at ht
      injection ht with ht; injection ht with ht hR; subst hR
      have e : p.length - (p.drop (i + 1)).length = i + 1 := by rw [List.length_drop]; omega
      rw [e]
      by_cases h63 : p[i] = 63
      · rw [if_neg (by rw [h63]; decide), if_pos h63] at ht
        subst ht
        rw [u8b_t (n := 63) h63 rfl]
        simp only [hw1, go_sem, reduceCtorEq, Nat.reduceEqDiff, reduceIte, Nat.reduceAdd, Nat.reduceSub, Nat.reduceLeDiff, Int.reduceToNat, Nat.reduceBEq]
        rfl
      · have h42 : p[i] ≠ 42 := fun e => hs (by rw [if_pos e] at ht; exact ht.symm)
        rw [if_neg h42, if_neg h63] at ht
        subst ht
        rw [u8b_f (n := 63) h63 rfl]
        simp only [go_sem, reduceCtorEq, Nat.reduceEqDiff, reduceIte, Nat.reduceAdd, Nat.reduceSub, Nat.reduceLeDiff, Int.reduceToNat, Nat.reduceBEq]
        rw [u8b_f (n := 91) h91 rfl]
        simp only [go_sem, reduceCtorEq, Nat.reduceEqDiff, reduceIte, Nat.reduceAdd, Nat.reduceSub, Nat.reduceLeDiff, Int.reduceToNat, Nat.reduceBEq]
        rw [u8b_f (n := 92) h92 rfl]
        simp only [hw1, getE h, go_sem, reduceCtorEq, Nat.reduceEqDiff, reduceIte, Nat.reduceAdd, Nat.reduceSub, Nat.reduceLeDiff, Int.reduceToNat, Nat.reduceBEq]
        refine ⟨by omega, ?_⟩
        rw [beqN]; rfl
/-! ### a part -/
def frmOf : Option (Nat × Nat) → Nat
  | none => 0
  | some (_, f) => f
def stI : Option (Nat × Nat) → Int
  | none => -1
  | some (q, _) => q
theorem stI_neg (stp : Option (Nat × Nat)) : decide (stI stp < 0) = stp.isNone := by
  cases stp with
  | none => rfl
  | some qf => exact decide_eq_false (by simp only [stI]; omega)
def StandP (p s : Ln.Bs) (R : Bool) (L : List Tok) (k : Nat) : Option (Nat × Nat) → Prop
  | none => Stand s R L k none
  | some (q, f) => ∃ Ls, toks (p.drop q) = some Ls ∧ Stand s R L k (some (Ls, f)) ∧ q ≤ p.length ∧ f ≤ s.length
theorem StandP.le {p s : Ln.Bs} {R : Bool} {L : List Tok} {k : Nat} {stp : Option (Nat × Nat)} (h : StandP p s R L k stp) : k ≤ s.length ∧ frmOf stp ≤ k := by
  cases stp with
  | none => exact ⟨Stand.le h, Nat.zero_le _⟩
  | some qf =>
    obtain ⟨Ls, _, h, _, _⟩ := h
    refine ⟨h.le, ?_⟩
    cases h with
    | star M _ _ _ he _ => simp only [frmOf]; omega
theorem StandP.onStar {p s : Ln.Bs} {R : Bool} {L : List Tok} {k i : Nat} {stp : Option (Nat × Nat)} (h : StandP p s R (.star :: L) k stp) (hL : toks (p.drop i) = some L) (hi : i ≤ p.length) : StandP p s R L k (some (i, k)) := by
  have hk := h.le.1
  cases stp with
  | none => exact ⟨L, hL, Stand.onStar h, hi, hk⟩
  | some qf => obtain ⟨Ls, _, h, _, _⟩ := h; exact ⟨L, hL, Stand.onStar h, hi, hk⟩
theorem StandP.onFit {p s : Ln.Bs} {R : Bool} {t : Tok} {L : List Tok} {k : Nat} {stp : Option (Nat × Nat)} (h : StandP p s R (t :: L) k stp) (ht : t ≠ .star) (hk : k < s.length) (hf : fits t s[k] = true) : StandP p s R L (k + 1) stp := by
  cases stp with
  | none => exact Stand.onFit h ht hk hf
  | some qf => obtain ⟨Ls, h1, h, h2, h3⟩ := h; exact ⟨Ls, h1, Stand.onFit h ht hk hf, h2, h3⟩
theorem StandP.done {p s : Ln.Bs} {R : Bool} {stp : Option (Nat × Nat)} (h : StandP p s R [] s.length stp) : R = true := by
  cases stp with
  | none => exact Stand.done h
  | some qf => obtain ⟨Ls, _, h, _, _⟩ := h; exact Stand.done h
theorem tok_star {p R : Ln.Bs} {i : Nat} {t : Tok} (h : i < p.length) (ht : tok (p.drop i) = some (t, R)) : t = .star ↔ p[i] = 42 := by
  by_cases h92 : p[i] = 92
  · rw [tok_esc h h92] at ht
    split at ht
    · injection ht with ht; injection ht with ht _; rw [← ht, h92]; simp
    · cases ht
  · by_cases h91 : p[i] = 91
    · rw [tok_cls h h91, Option.map_eq_some_iff] at ht
      obtain ⟨x, _, ht⟩ := ht
      injection ht with ht _; rw [← ht, h91]; simp
    · rw [tok_else h h92 h91] at ht
      injection ht with ht; injection ht with ht _
      rw [← ht]
      by_cases h42 : p[i] = 42
      · simp [h42]
      · rw [if_neg h42]; split <;> simp [h42]
theorem gpart_loop (p s : Ln.Bs) (hp : p.length ≤ 1048576) (hs : s.length ≤ 1048576) (R : Bool) (n : Nat) : ∀ (i k : Nat) (stp : Option (Nat × Nat)) (L : List Tok) (hL : toks (p.drop i) = some L) (hS : StandP p s R L k stp)
    (hn : (s.length + 1 - frmOf stp) * (p.length + 2) + (p.length - i) < n) (hi : i ≤ p.length),
    vcL (kn m) [0, 1, 5, 6, 7, 8] [] gpart_l0 (blockK 0 (outOk [.tmp 4] (B R))) (mkS [(0, S p), (1, S s), (5, N i), (6, N k), (7, I (stI stp)), (8, N (frmOf stp))] []) := by
  induction n with
  | zero => intro i k stp L hL hS hn; omega
  | succ n ih =>
    intro i k stp L hL hS hn hi
    obtain ⟨hk, hfk⟩ := hS.le
    have hw1 : IntKind.i64.wrap ((i : Int) + 1) = ((i + 1 : Nat) : Int) := wrapN (i + 1) (by omega) (by omega)
    have hwk : IntKind.i64.wrap ((k : Int) + 1) = ((k + 1 : Nat) : Int) := wrapN (k + 1) (by omega) (by omega)
    apply round
    simp only [gpart_l0_w, gpart_l0', go_sem, reduceCtorEq, Nat.reduceEqDiff, reduceIte, Nat.reduceAdd, Nat.reduceSub, Nat.reduceLeDiff, Int.reduceToNat, Nat.reduceBEq]
    by_cases h : i < p.length
    · rw [lt_t h]
      simp only [getE h, go_sem, reduceCtorEq, Nat.reduceEqDiff, reduceIte, Nat.reduceAdd, Nat.reduceSub, Nat.reduceLeDiff, Int.reduceToNat, Nat.reduceBEq]
      refine ⟨by omega, ?_⟩
      cases ht : tok (p.drop i) with
      | none => rw [toks_at h, ht] at hL; cases hL
      | some tr =>
        obtain ⟨t, T⟩ := tr
        have hr := tok_rest ht
        have hst := tok_star h ht
        have hL2 := hL
        rw [toks_at h, ht] at hL2
        simp only [Option.map_eq_some_iff] at hL2
        obtain ⟨L', hL', rfl⟩ := hL2
        by_cases h42 : p[i] = 42
        · rw [u8b_t (n := 42) h42 rfl]
          have hts := hst.2 h42
          subst hts
          have hT : T = p.drop (i + 1) := by
            rw [tok_else h (by rw [h42]; decide) (by rw [h42]; decide)] at ht
            injection ht with ht; injection ht with _ ht; exact ht.symm
          rw [hT] at hL'
          simp only [hw1, go_sem, reduceCtorEq, Nat.reduceEqDiff, reduceIte, Nat.reduceAdd, Nat.reduceSub, Nat.reduceLeDiff, Int.reduceToNat, Nat.reduceBEq]
          refine ih (i + 1) k (some (i + 1, k)) L' hL' (hS.onStar hL' (by omega)) ?_ (by omega)
          simp only [frmOf]
          have hmul : (s.length + 1 - k) * (p.length + 2) ≤ (s.length + 1 - frmOf stp) * (p.length + 2) := Nat.mul_le_mul_right _ (by omega)
          omega
        · have hts : t ≠ .star := fun e => h42 (hst.1 e)
          rw [u8b_f (n := 42) h42 rfl]
          simp only [go_sem, reduceCtorEq, Nat.reduceEqDiff, reduceIte, Nat.reduceAdd, Nat.reduceSub, Nat.reduceLeDiff, Int.reduceToNat, Nat.reduceBEq]
          rw [eq_f (by omega : (i : Int) ≠ (p.length : Int))]
          simp only [go_sem, reduceCtorEq, Nat.reduceEqDiff, reduceIte, Nat.reduceAdd, Nat.reduceSub, Nat.reduceLeDiff, Int.reduceToNat, Nat.reduceBEq]
          rw [lt_t h]
          simp only [go_sem, reduceCtorEq, Nat.reduceEqDiff, reduceIte, Nat.reduceAdd, Nat.reduceSub, Nat.reduceLeDiff, Int.reduceToNat, Nat.reduceBEq]
          by_cases hks : k < s.length
          · rw [lt_t hks]
            simp only [getE hks, go_sem, reduceCtorEq, Nat.reduceEqDiff, reduceIte, Nat.reduceAdd, Nat.reduceSub, Nat.reduceLeDiff, Int.reduceToNat, Nat.reduceBEq]
            refine ⟨by omega, ?_⟩
            refine of_call (gstep_snd p hp i h s[k] t T ht hts) ?_
            simp only [go_sem, reduceCtorEq, Nat.reduceEqDiff, reduceIte, Nat.reduceAdd, Nat.reduceSub, Nat.reduceLeDiff, Int.reduceToNat, Nat.reduceBEq]
            cases hf : fits t s[k] with
            | true =>
              simp only [hwk, go_sem, reduceCtorEq, Nat.reduceEqDiff, reduceIte, Nat.reduceAdd, Nat.reduceSub, Nat.reduceLeDiff, Int.reduceToNat, Nat.reduceBEq]
              rw [hr.1] at hL'
              exact ih (p.length - T.length) (k + 1) stp L' hL' (hS.onFit hts hks hf) (by omega) (by omega)
            | false =>
              simp only [go_sem, reduceCtorEq, Nat.reduceEqDiff, reduceIte, Nat.reduceAdd, Nat.reduceSub, Nat.reduceLeDiff, Int.reduceToNat, Nat.reduceBEq]
              have hw0 : whole (t :: L') (s.drop k) = false := whole_end (.inl (by simp)) ⟨hts, fun _ _ => hf⟩
              rw [stI_neg]
              cases stp with
              | none =>
                simp only [Option.isNone_none, go_sem, reduceCtorEq, Nat.reduceEqDiff, reduceIte, Nat.reduceAdd, Nat.reduceSub, Nat.reduceLeDiff, Int.reduceToNat, Nat.reduceBEq]
                rw [Stand.stop hS hw0]
              | some qf =>
                obtain ⟨q, f⟩ := qf
                obtain ⟨Ls, hLs, hS, hq, hf⟩ := hS
                simp only [frmOf] at hn
                simp only [Option.isNone_some, stI, frmOf, go_sem, reduceCtorEq, Nat.reduceEqDiff, reduceIte, Nat.reduceAdd, Nat.reduceSub, Nat.reduceLeDiff, Int.reduceToNat, Nat.reduceBEq]
                by_cases hfs : s.length ≤ f
                · rw [ige_t (by omega)]
                  simp only [go_sem, reduceCtorEq, Nat.reduceEqDiff, reduceIte, Nat.reduceAdd, Nat.reduceSub, Nat.reduceLeDiff, Int.reduceToNat, Nat.reduceBEq]
                  rw [Stand.last hS hw0 hfs]
                · have hwf : IntKind.i64.wrap ((f : Int) + 1) = ((f + 1 : Nat) : Int) := wrapN (f + 1) (by omega) (by omega)
                  rw [ige_f (by omega)]
                  simp only [hwf, go_sem, reduceCtorEq, Nat.reduceEqDiff, reduceIte, Nat.reduceAdd, Nat.reduceSub, Nat.reduceLeDiff, Int.reduceToNat, Nat.reduceBEq]
                  have hmul : (s.length + 1 - f) * (p.length + 2) = (s.length + 1 - (f + 1)) * (p.length + 2) + (p.length + 2) := by
                    rw [show s.length + 1 - f = (s.length + 1 - (f + 1)) + 1 by omega, Nat.succ_mul]
                  exact ih q (f + 1) (some (q, f + 1)) Ls hLs ⟨Ls, hLs, Stand.again hS hw0 (by omega), hq, by omega⟩ (by simp only [frmOf]; omega) hq
          · rw [lt_f hks]
            simp only [go_sem, reduceCtorEq, Nat.reduceEqDiff, reduceIte, Nat.reduceAdd, Nat.reduceSub, Nat.reduceLeDiff, Int.reduceToNat, Nat.reduceBEq]
            have hw0 : whole (t :: L') (s.drop k) = false := whole_end (.inl (by simp)) ⟨hts, fun h => absurd h hks⟩
            rw [stI_neg]
            cases stp with
            | none =>
              simp only [Option.isNone_none, go_sem, reduceCtorEq, Nat.reduceEqDiff, reduceIte, Nat.reduceAdd, Nat.reduceSub, Nat.reduceLeDiff, Int.reduceToNat, Nat.reduceBEq]
              rw [Stand.stop hS hw0]
            | some qf =>
              obtain ⟨q, f⟩ := qf
              obtain ⟨Ls, hLs, hS, hq, hf⟩ := hS
              simp only [frmOf] at hn
              simp only [Option.isNone_some, stI, frmOf, go_sem, reduceCtorEq, Nat.reduceEqDiff, reduceIte, Nat.reduceAdd, Nat.reduceSub, Nat.reduceLeDiff, Int.reduceToNat, Nat.reduceBEq]
              by_cases hfs : s.length ≤ f
              · rw [ige_t (by omega)]
                simp only [go_sem, reduceCtorEq, Nat.reduceEqDiff, reduceIte, Nat.reduceAdd, Nat.reduceSub, Nat.reduceLeDiff, Int.reduceToNat, Nat.reduceBEq]
                rw [Stand.last hS hw0 hfs]
              · have hwf : IntKind.i64.wrap ((f : Int) + 1) = ((f + 1 : Nat) : Int) := wrapN (f + 1) (by omega) (by omega)
                rw [ige_f (by omega)]
                simp only [hwf, go_sem, reduceCtorEq, Nat.reduceEqDiff, reduceIte, Nat.reduceAdd, Nat.reduceSub, Nat.reduceLeDiff, Int.reduceToNat, Nat.reduceBEq]
                have hmul : (s.length + 1 - f) * (p.length + 2) = (s.length + 1 - (f + 1)) * (p.length + 2) + (p.length + 2) := by
                  rw [show s.length + 1 - f = (s.length + 1 - (f + 1)) + 1 by omega, Nat.succ_mul]
                exact ih q (f + 1) (some (q, f + 1)) Ls hLs ⟨Ls, hLs, Stand.again hS hw0 (by omega), hq, by omega⟩ (by simp only [frmOf]; omega) hq
    · rw [lt_f h]
      simp only [go_sem, reduceCtorEq, Nat.reduceEqDiff, reduceIte, Nat.reduceAdd, Nat.reduceSub, Nat.reduceLeDiff, Int.reduceToNat, Nat.reduceBEq]
      have hil : i = p.length := by omega
      rw [toks_end h] at hL
      injection hL with hL; subst hL
      rw [eq_t (by omega : (i : Int) = (p.length : Int))]
      simp only [go_sem, reduceCtorEq, Nat.reduceEqDiff, reduceIte, Nat.reduceAdd, Nat.reduceSub, Nat.reduceLeDiff, Int.reduceToNat, Nat.reduceBEq]
      by_cases hks : k < s.length
      · rw [eq_f (by omega : (k : Int) ≠ (s.length : Int))]
        simp only [go_sem, reduceCtorEq, Nat.reduceEqDiff, reduceIte, Nat.reduceAdd, Nat.reduceSub, Nat.reduceLeDiff, Int.reduceToNat, Nat.reduceBEq]
        rw [lt_f h]
        simp only [go_sem, reduceCtorEq, Nat.reduceEqDiff, reduceIte, Nat.reduceAdd, Nat.reduceSub, Nat.reduceLeDiff, Int.reduceToNat, Nat.reduceBEq]
        have hw0 : whole [] (s.drop k) = false := whole_end (.inr hks) trivial
        rw [stI_neg]
        cases stp with
        | none =>
          simp only [Option.isNone_none, go_sem, reduceCtorEq, Nat.reduceEqDiff, reduceIte, Nat.reduceAdd, Nat.reduceSub, Nat.reduceLeDiff, Int.reduceToNat, Nat.reduceBEq]
          rw [Stand.stop hS hw0]
        | some qf =>
          obtain ⟨q, f⟩ := qf
          obtain ⟨Ls, hLs, hS, hq, hf⟩ := hS
          simp only [frmOf] at hn
          simp only [Option.isNone_some, stI, frmOf, go_sem, reduceCtorEq, Nat.reduceEqDiff, reduceIte, Nat.reduceAdd, Nat.reduceSub, Nat.reduceLeDiff, Int.reduceToNat, Nat.reduceBEq]
          by_cases hfs : s.length ≤ f
          · rw [ige_t (by omega)]
            simp only [go_sem, reduceCtorEq, Nat.reduceEqDiff, reduceIte, Nat.reduceAdd, Nat.reduceSub, Nat.reduceLeDiff, Int.reduceToNat, Nat.reduceBEq]
            rw [Stand.last hS hw0 hfs]
          · have hwf : IntKind.i64.wrap ((f : Int) + 1) = ((f + 1 : Nat) : Int) := wrapN (f + 1) (by omega) (by omega)
            rw [ige_f (by omega)]
            simp only [hwf, go_sem, reduceCtorEq, Nat.reduceEqDiff, reduceIte, Nat.reduceAdd, Nat.reduceSub, Nat.reduceLeDiff, Int.reduceToNat, Nat.reduceBEq]
            have hmul : (s.length + 1 - f) * (p.length + 2) = (s.length + 1 - (f + 1)) * (p.length + 2) + (p.length + 2) := by
              rw [show s.length + 1 - f = (s.length + 1 - (f + 1)) + 1 by omega, Nat.succ_mul]
            exact ih q (f + 1) (some (q, f + 1)) Ls hLs ⟨Ls, hLs, Stand.again hS hw0 (by omega), hq, by omega⟩ (by simp only [frmOf]; omega) hq
      · have hkl : k = s.length := by omega
        subst hkl
        rw [eq_t rfl]
        simp only [go_sem, reduceCtorEq, Nat.reduceEqDiff, reduceIte, Nat.reduceAdd, Nat.reduceSub, Nat.reduceLeDiff, Int.reduceToNat, Nat.reduceBEq]
        rw [hS.done]
theorem gpart_snd (p s : Ln.Bs) (hp : p.length ≤ 1048576) (hs : s.length ≤ 1048576) (L : List Tok) (hL : toks p = some L) : Snd Tryd.prog (gl m) 71 [S p, S s] (B (whole L s)) := by
  refine snd_of (fn := Tryd.f71) (af := gpart) Tryd.func71 (gpart_comp m) mixed (kn_ok m) (Nat.le_of_ble_eq_true rfl) ?_
  simp only [gpart, go_sem, reduceCtorEq, Nat.reduceEqDiff, reduceIte, Nat.reduceAdd, Nat.reduceSub, Nat.reduceLeDiff, Int.reduceToNat, Nat.reduceBEq]
  exact gpart_loop p s hp hs _ _ 0 0 none L hL (Stand.plain (by omega) rfl) (Nat.lt_succ_self _) (by omega)
end Go.Gb

/- Glob: a pattern's parts. -/
namespace Go.Gb
open Go Go.Ev Go.Proofs
open Go.Ln (u8b_t u8b_f u8n_t u8n_f getX idx idx_eq)
set_option linter.unusedVariables false
set_option linter.unusedSimpArgs false
attribute [local go_sem] eqs implies_true List.map_cons List.map_nil kl klL roD roL Option.map_some Option.map_none Option.getD_some Option.getD_none binVal binObl unVal if_true if_false eq_self passA frnD resD content getH getR getW viaNot viaSlot viaBox viaDeep viaMem List.contains_cons List.contains_nil grabs peeks okCells isCell place cellsOf chunk elt List.headD_cons List.length_cons List.length_nil List.take_succ_cons List.take_zero List.drop_succ_cons List.drop_zero List.nil_append List.cons_append List.append_nil List.all_cons List.all_nil plainC takeR setW over reCell List.getElem?_cons_zero List.getElem?_cons_succ List.set_cons_zero List.take_length outV resG plainV pack outVG outBx List.set_cons_succ Ref.idx Ref.addOff beq_self_eq_true bxL Option.bind_some writeR isLit viaBoxes capsPA boxPA nsOf noDup boxesAt argG passG passD rhoIn rhoOut idxIn tr trL List.getD_cons_zero gives pasOf isPtr Ins.d List.getD_cons_succ resL frnL
variable {m : Int}

/-! ### tables of truths -/
def tab (n : Nat) (f : Nat → Bool) : List AV := (List.range n).map fun q => .lit (.bool (f q))
theorem tab_len (n : Nat) (f : Nat → Bool) : (tab n f).length = n := by simp [tab]
theorem tab_get {n : Nat} (f : Nat → Bool) {i : Nat} (h : i < n) : (tab n f)[i]? = some (B (f i)) := by simp [tab, h]
theorem tab_ext {n : Nat} {f g : Nat → Bool} (h : ∀ q, q < n → f q = g q) : tab n f = tab n g := by
  unfold tab
  apply List.map_congr_left
  intro q hq
  rw [h q (List.mem_range.1 hq)]
theorem tab_set {n : Nat} (f : Nat → Bool) {i : Nat} (b : Bool) : (tab n f).set i (B b) = tab n fun q => if q = i then b else f q := by
  apply List.ext_getElem?
  intro j
  by_cases hj : j < n
  · rw [tab_get _ hj, List.getElem?_set]
    by_cases e : i = j
    · subst e; simp [tab_len, hj]
    · rw [if_neg e, tab_get _ hj, if_neg (fun q => e q.symm)]
  · rw [List.getElem?_eq_none (by rw [List.length_set, tab_len]; omega), List.getElem?_eq_none (by rw [tab_len]; omega)]
theorem tab_none (n : Nat) : List.replicate n (AV.lit (.bool false)) = tab n fun _ => false := by
  apply List.ext_getElem?
  intro j
  by_cases hj : j < n
  · rw [tab_get _ hj]; simp [hj]
  · rw [List.getElem?_eq_none (by simp; omega), List.getElem?_eq_none (by rw [tab_len]; omega)]
theorem frnL_tab (n : Nat) (f : Nat → Bool) : frnL (tab n f) = tab n f := frnL_lits (fun q => Value.bool (f q)) _
theorem resL_tab (n : Nat) (f : Nat → Bool) : resL (tab n f) = tab n f := resL_lits (fun q => Value.bool (f q)) _
theorem roL_tab (n : Nat) (f : Nat → Bool) : roL (tab n f) = tab n f := roL_lits (fun q => Value.bool (f q)) _
theorem klL_tab (p : Bool → Ref → Bool) (ro : Bool) (n : Nat) (f : Nat → Bool) : klL p ro (tab n f) = tab n f := klL_lits p ro (fun q => Value.bool (f q)) _
theorem map_roD_tab (n : Nat) (f : Nat → Bool) : (tab n f).map roD = tab n f := by rw [← roL_eq, roL_tab]

def gparts_l0' : AC := .seq (.reg (.seq [⟨(some (30, false)), none, .bin .lss (.tmp 29 true) (.tmp 28 true)⟩])) [0, 1, 5, 7, 8, 17, 18, 19, 27, 28, 29, 30] []
  (.seq (.cond (.tmp 30 false)
    (.skip)
    (.exit 2)) [0, 1, 5, 7, 8, 17, 18, 19, 27, 28, 29] []
  (.seq (.block 3 (.seq (.reg (.seq [⟨(some (31, false)), none, .mov (.tmp 29 true) .take⟩,
      ⟨(some (32, false)), none, .iad (.tmp 27 true) (.tmp 29 true) 1⟩,
      ⟨(some (33, false)), none, .load (.tmp 32 false) 1 false false⟩,
      ⟨(some (9, true)), none, .mov (.tmp 31 false) .asg⟩,
      ⟨(some (10, true)), none, .mov (.tmp 33 false) .asg⟩])) [0, 1, 5, 7, 8, 9, 10, 17, 18, 19, 27, 28, 29] []
    (.block 4 (.seq (.reg (.seq [⟨(some (35, false)), none, .mov (.tmp 7 true) .peek⟩,
      ⟨(some (36, false)), none, .bin .eql (.tmp 35 false) (.cst (.string (str [42, 42])) (.lit (.string (str [42, 42]))))⟩,
      ⟨(some (34, false)), none, .mov (.tmp 36 false) .asg⟩])) [0, 1, 5, 7, 8, 9, 10, 17, 18, 19, 27, 28, 29, 34] []
      (.cond (.tmp 34 false)
        (.reg (.seq [⟨(some (37, false)), none, .mov (.tmp 8 true) .peek⟩,
      ⟨(some (38, false)), none, .mov (.tmp 9 true) .peek⟩,
      ⟨(some (39, false)), none, .mov (.tmp 10 true) .peek⟩,
      ⟨(some (40, false)), none, .mov (.tmp 39 false) .peek⟩,
      ⟨(some (41, false)), (some (40, false)), .mov (.tmp 9 true) .peek⟩,
      ⟨(some (42, false)), (some (40, false)), .bin .gtr (.tmp 41 false) (.cst (.int .i64 0) (.lit (.int .i64 0)))⟩,
      ⟨(some (43, false)), (some (40, false)), .mov (.tmp 42 false) .peek⟩,
      ⟨(some (44, false)), (some (43, true)), .mov (.tmp 8 true) .peek⟩,
      ⟨(some (45, false)), (some (43, true)), .mov (.tmp 9 true) .peek⟩,
      ⟨(some (46, false)), (some (43, true)), .bin .sub (.tmp 45 false) (.cst (.int .i64 1) (.lit (.int .i64 1)))⟩,
      ⟨(some (47, false)), (some (43, true)), .iad (.tmp 44 false) (.tmp 46 false) 1⟩,
      ⟨(some (48, false)), (some (43, true)), .load (.tmp 47 false) 1 false false⟩,
      ⟨(some (49, false)), (some (40, false)), .pick (.tmp 43 false) (.tmp 48 false) (.cst (.bool false) (.lit (.bool false)))⟩,
      ⟨(some (50, false)), none, .pick (.tmp 40 false) (.cst (.bool true) (.lit (.bool true))) (.tmp 49 false)⟩,
      ⟨(some (51, false)), none, .iad (.tmp 37 false) (.tmp 38 false) 1⟩,
      ⟨none, none, .store (.tmp 51 false) (.tmp 50 false) 1⟩]))
        (.seq (.reg (.seq [⟨(some (53, false)), none, .mov (.tmp 10 true) .peek⟩,
      ⟨(some (54, false)), none, .mov (.tmp 53 false) .peek⟩,
      ⟨(some (55, false)), (some (54, true)), .mov (.tmp 9 true) .peek⟩,
      ⟨(some (56, false)), (some (54, true)), .mov (.tmp 1 true) .peek⟩,
      ⟨(some (57, false)), (some (54, true)), .lenL (.tmp 56 false)⟩,
      ⟨(some (58, false)), (some (54, true)), .bin .lss (.tmp 55 false) (.tmp 57 false)⟩,
      ⟨(some (59, false)), none, .pick (.tmp 54 false) (.tmp 58 false) (.cst (.bool false) (.lit (.bool false)))⟩,
      ⟨(some (52, false)), none, .mov (.tmp 59 false) .asg⟩])) [0, 1, 5, 7, 8, 9, 17, 18, 19, 27, 28, 29, 52] []
        (.cond (.tmp 52 false)
          (.reg (.seq [⟨(some (60, false)), none, .mov (.tmp 8 true) .peek⟩,
      ⟨(some (61, false)), none, .mov (.tmp 9 true) .peek⟩,
      ⟨(some (62, false)), none, .bin .add (.tmp 61 false) (.cst (.int .i64 1) (.lit (.int .i64 1)))⟩,
      ⟨(some (63, false)), none, .mov (.tmp 7 true) .peek⟩,
      ⟨(some (64, false)), none, .mov (.tmp 1 true) .peek⟩,
      ⟨(some (65, false)), none, .mov (.tmp 9 true) .peek⟩,
      ⟨(some (66, false)), none, .iad (.tmp 64 false) (.tmp 65 false) 1⟩,
      ⟨(some (67, false)), none, .load (.tmp 66 false) 1 false false⟩,
      ⟨(some (68, false)), none, .call 71 [(.tmp 63 false), (.tmp 67 false)]⟩,
      ⟨(some (69, false)), none, .iad (.tmp 60 false) (.tmp 62 false) 1⟩,
      ⟨none, none, .store (.tmp 69 false) (.tmp 68 false) 1⟩]))
          (.skip)))))))) [0, 1, 5, 7, 8, 17, 18, 19, 27, 28, 29] []
  (.reg (.seq [⟨(some (70, false)), none, .bin .add (.tmp 29 true) (.cst (.int .i64 1) (.lit (.int .i64 1)))⟩,
      ⟨(some (29, true)), none, .mov (.tmp 70 false) .peek⟩]))))
def gparts_l0 : AC := gparts_l0'
theorem gparts_l0_w (C : Kn) (K : Ex → St → Prop) (s : St) : vcC C gparts_l0 K s = vcC C gparts_l0' K s := nr rfl
def gparts_k1' : AC := .reg (.seq [⟨(some (71, false)), none, .mov (.tmp 8 true) .take⟩,
      ⟨(some (5, true)), none, .mov (.tmp 71 false) .asg⟩])
def gparts_k1 : AC := gparts_k1'
theorem gparts_k1_w (C : Kn) (K : Ex → St → Prop) (s : St) : vcC C gparts_k1 K s = vcC C gparts_k1' K s := nr rfl
def gparts_k2' : AC := .reg (.seq [⟨(some (72, false)), none, .bin .add (.tmp 19 true) (.cst (.int .i64 1) (.lit (.int .i64 1)))⟩,
      ⟨(some (19, true)), none, .mov (.tmp 72 false) .peek⟩])
def gparts_k2 : AC := gparts_k2'
theorem gparts_k2_w (C : Kn) (K : Ex → St → Prop) (s : St) : vcC C gparts_k2 K s = vcC C gparts_k2' K s := nr rfl
def gparts_l3' : AC := .seq (.reg (.seq [⟨(some (20, false)), none, .bin .lss (.tmp 19 true) (.tmp 18 true)⟩])) [0, 1, 5, 8, 17, 18, 19, 20] []
  (.seq (.cond (.tmp 20 false)
    (.skip)
    (.exit 0)) [0, 1, 5, 8, 17, 18, 19] []
  (.seq (.block 1 (.seq (.reg (.seq [⟨(some (21, false)), none, .iad (.tmp 17 true) (.tmp 19 true) 1⟩,
      ⟨(some (22, false)), none, .load (.tmp 21 false) 1 false false⟩,
      ⟨(some (7, true)), none, .mov (.tmp 22 false) .asg⟩])) [0, 1, 5, 7, 8, 17, 18, 19] []
    (.seq (.reg (.seq [⟨(some (23, false)), none, .mov (.tmp 1 true) .peek⟩,
      ⟨(some (24, false)), none, .lenL (.tmp 23 false)⟩,
      ⟨(some (25, false)), none, .bin .add (.tmp 24 false) (.cst (.int .i64 1) (.lit (.int .i64 1)))⟩,
      ⟨(some (26, false)), none, .mkS 1 1 [(.lit (.bool false))] (.tmp 25 false) (.tmp 25 false)⟩,
      ⟨(some (8, true)), none, .mov (.tmp 26 false) .asg⟩])) [0, 1, 5, 7, 8, 17, 18, 19] []
    (.seq (.seq (.reg (.seq [⟨(some (27, true)), none, .mov (.tmp 5 true) .peek⟩,
      ⟨(some (28, true)), none, .lenL (.tmp 27 true)⟩,
      ⟨(some (29, true)), none, .mov (.cst (.int .i64 0) (.lit (.int .i64 0))) .peek⟩])) [0, 1, 5, 7, 8, 17, 18, 19, 27, 28, 29] []
    (.block 2 (.loop [0, 1, 5, 7, 8, 17, 18, 19, 27, 28, 29] [] gparts_l0))) [0, 1, 8, 17, 18, 19] [] gparts_k1)))) [0, 1, 5, 8, 17, 18, 19] [] gparts_k2))
def gparts_l3 : AC := gparts_l3'
theorem gparts_l3_w (C : Kn) (K : Ex → St → Prop) (s : St) : vcC C gparts_l3 K s = vcC C gparts_l3' K s := nr rfl
def gparts_k4' : AC := .seq (.reg (.seq [⟨(some (73, false)), none, .mov (.tmp 5 true) .peek⟩,
      ⟨(some (74, false)), none, .mov (.tmp 1 true) .peek⟩,
      ⟨(some (75, false)), none, .lenL (.tmp 74 false)⟩,
      ⟨(some (76, false)), none, .iad (.tmp 73 false) (.tmp 75 false) 1⟩,
      ⟨(some (77, false)), none, .load (.tmp 76 false) 1 false false⟩,
      ⟨(some (4, true)), none, .mov (.tmp 77 false) .asg⟩])) [4] []
  (.ret)
def gparts_k4 : AC := gparts_k4'
theorem gparts_k4_w (C : Kn) (K : Ex → St → Prop) (s : St) : vcC C gparts_k4 K s = vcC C gparts_k4' K s := nr rfl
def gparts : AF := ⟨.seq (.reg (.seq [⟨(some (4, true)), none, .mov (.cst (.bool false) (.lit (.bool false))) .asg⟩])) [0, 1] []
  (.seq (.reg (.seq [⟨(some (11, false)), none, .mov (.tmp 1 true) .peek⟩,
      ⟨(some (12, false)), none, .lenL (.tmp 11 false)⟩,
      ⟨(some (13, false)), none, .bin .add (.tmp 12 false) (.cst (.int .i64 1) (.lit (.int .i64 1)))⟩,
      ⟨(some (14, false)), none, .mkS 1 1 [(.lit (.bool false))] (.tmp 13 false) (.tmp 13 false)⟩,
      ⟨(some (5, true)), none, .mov (.tmp 14 false) .asg⟩])) [0, 1, 5, 8] []
  (.seq (.reg (.seq [⟨(some (15, false)), none, .mov (.tmp 5 true) .peek⟩,
      ⟨(some (16, false)), none, .iad (.tmp 15 false) (.cst (.int .i64 0) (.lit (.int .i64 0))) 1⟩,
      ⟨none, none, .store (.tmp 16 false) (.cst (.bool true) (.lit (.bool true))) 1⟩])) [0, 1, 5, 8] []
  (.seq (.seq (.reg (.seq [⟨(some (17, true)), none, .mov (.tmp 0 true) .peek⟩,
      ⟨(some (18, true)), none, .lenL (.tmp 17 true)⟩,
      ⟨(some (19, true)), none, .mov (.cst (.int .i64 0) (.lit (.int .i64 0))) .peek⟩])) [0, 1, 5, 8, 17, 18, 19] []
  (.block 0 (.loop [0, 1, 5, 8, 17, 18, 19] [] gparts_l3))) [1, 5, 8] [] gparts_k4))),
  [.tmp 4]⟩
theorem gparts_comp (m : Int) : compF Tryd.prog (gl m) [] Tryd.f66 = some gparts := by kernel_rfl
theorem gparts_in (P Y : List Ln.Bs) (hS : Y.length ≤ 1048576) (hb : ∀ l, l ∈ Y → l.length ≤ 1048576) (x : Ln.Bs) (hx : x.length ≤ 1048576) (Lx : List Tok) (hLx : toks x = some Lx) (j np : Nat) (Q : List Ln.Bs) (K : Ex → St → Prop)
    (hk : vcC (kn m) gparts_k1 K (mkS [(0, .sl .frn 1 (ss P)), (1, .sl .frn 1 (ss Y)), (8, .sl .own 1 (tab (Y.length + 1) fun q => M (Q ++ [x]) (Y.take q))), (17, .sl .frn 1 (ss P)), (18, N np), (19, N j)] [])) (n : Nat) :
    ∀ (i : Nat) (hn : Y.length + 1 - i = n) (hi : i ≤ Y.length + 1) (g : Nat → Bool) (hg : ∀ q, q ≤ Y.length → g q = if x = deep then (decide (q < i) && M (Q ++ [x]) (Y.take q)) else (decide (q ≤ i) && M (Q ++ [x]) (Y.take q))),
    vcL (kn m) [0, 1, 5, 7, 8, 17, 18, 19, 27, 28, 29] [] gparts_l0 (blockK 2 (seqK (kn m) [0, 1, 8, 17, 18, 19] [] gparts_k1 K))
      (mkS [(0, .sl .frn 1 (ss P)), (1, .sl .frn 1 (ss Y)), (5, .sl .own 1 (tab (Y.length + 1) fun q => M Q (Y.take q))), (7, S x), (8, .sl .own 1 (tab (Y.length + 1) g)), (17, .sl .frn 1 (ss P)), (18, N np), (19, N j), (27, .bor ⟨.slot 5, []⟩), (28, N (Y.length + 1)), (29, N i)] []) := by
  induction n with
  | zero =>
    intro i hn hi g hg
    have hil : i = Y.length + 1 := by omega
    subst hil
    have e : tab (Y.length + 1) g = tab (Y.length + 1) fun q => M (Q ++ [x]) (Y.take q) := tab_ext fun q hq => by
      rw [hg q (by omega)]
      split
      · rw [decide_eq_true hq, Bool.true_and]
      · rw [decide_eq_true (by omega), Bool.true_and]
    rw [e]
    apply round
    simp only [gparts_l0_w, gparts_l0', tab_none, tab_len, frnL_tab, resL_tab, roL_tab, klL_tab, map_roD_tab, go_sem, reduceCtorEq, Nat.reduceEqDiff, reduceIte, Nat.reduceAdd, Nat.reduceSub, Nat.reduceLeDiff, Int.reduceToNat, Nat.reduceBEq]
    rw [lt_f (by omega)]
    simp only [tab_none, tab_len, frnL_tab, resL_tab, roL_tab, klL_tab, map_roD_tab, go_sem, reduceCtorEq, Nat.reduceEqDiff, reduceIte, Nat.reduceAdd, Nat.reduceSub, Nat.reduceLeDiff, Int.reduceToNat, Nat.reduceBEq]
    exact hk
  | succ n ih =>
    intro i hn hi g hg
    have hil : i < Y.length + 1 := by omega
    have hw1 : IntKind.i64.wrap ((i : Int) + 1) = ((i + 1 : Nat) : Int) := wrapN (i + 1) (by omega) (by omega)
    apply round
    simp only [gparts_l0_w, gparts_l0', tab_none, tab_len, frnL_tab, resL_tab, roL_tab, klL_tab, map_roD_tab, go_sem, reduceCtorEq, Nat.reduceEqDiff, reduceIte, Nat.reduceAdd, Nat.reduceSub, Nat.reduceLeDiff, Int.reduceToNat, Nat.reduceBEq]
    rw [lt_t hil]
    simp only [tab_none, tab_len, frnL_tab, resL_tab, roL_tab, klL_tab, map_roD_tab, tab_get _ hil, go_sem, reduceCtorEq, Nat.reduceEqDiff, reduceIte, Nat.reduceAdd, Nat.reduceSub, Nat.reduceLeDiff, Int.reduceToNat, Nat.reduceBEq]
    repeat (refine ⟨by (try simp only [List.length_append, List.length_cons, List.length_nil]); omega, ?_⟩)
    by_cases hd : x = deep
    · rw [se_t (show x = [42, 42] from hd)]
      simp only [tab_none, tab_len, frnL_tab, resL_tab, roL_tab, klL_tab, map_roD_tab, go_sem, reduceCtorEq, Nat.reduceEqDiff, reduceIte, Nat.reduceAdd, Nat.reduceSub, Nat.reduceLeDiff, Int.reduceToNat, Nat.reduceBEq]
      have fin : ∀ b : Bool, b = M (Q ++ [x]) (Y.take i) → _ := fun b hbv => ih (i + 1) (by omega) (by omega) (fun q => if q = i then b else g q) (fun q hq => by
        rw [if_pos hd]
        have hgq := hg q hq
        rw [if_pos hd] at hgq
        by_cases e : q = i
        · rw [if_pos e, decide_eq_true (by omega), Bool.true_and, hbv, e]
        · rw [if_neg e, hgq]
          by_cases e2 : q < i
          · rw [decide_eq_true e2, decide_eq_true (by omega : q < i + 1)]
          · rw [decide_eq_false e2, decide_eq_false (by omega : ¬ q < i + 1)])
      have hstep := step_deep Q Y i (by omega)
      rw [← hd] at hstep
      cases hM : M Q (Y.take i) with
      | true =>
        rw [hM, Bool.true_or] at hstep
        simp only [hw1, tab_none, tab_len, frnL_tab, resL_tab, roL_tab, klL_tab, map_roD_tab, tab_get _ hil, tab_set, go_sem, reduceCtorEq, Nat.reduceEqDiff, reduceIte, Nat.reduceAdd, Nat.reduceSub, Nat.reduceLeDiff, Int.reduceToNat, Nat.reduceBEq]
        repeat (refine ⟨by (try simp only [List.length_append, List.length_cons, List.length_nil]); omega, ?_⟩)
        exact fin true hstep.symm
      | false =>
        rw [hM, Bool.false_or] at hstep
        simp only [tab_none, tab_len, frnL_tab, resL_tab, roL_tab, klL_tab, map_roD_tab, go_sem, reduceCtorEq, Nat.reduceEqDiff, reduceIte, Nat.reduceAdd, Nat.reduceSub, Nat.reduceLeDiff, Int.reduceToNat, Nat.reduceBEq]
        by_cases h0 : 0 < i
        · have hi1 : i - 1 < Y.length + 1 := by omega
          have hw2 : IntKind.i64.wrap ((i : Int) - 1) = ((i - 1 : Nat) : Int) := wrapN (i - 1) (by omega) (by omega)
          have hgq := hg (i - 1) (by omega)
          rw [if_pos hd, decide_eq_true (by omega), Bool.true_and] at hgq
          rw [decide_eq_true h0, Bool.true_and] at hstep
          rw [igt_t (by omega)]
          simp only [hw1, hw2, tab_none, tab_len, frnL_tab, resL_tab, roL_tab, klL_tab, map_roD_tab, tab_get _ hil, tab_get _ hi1, tab_set, hgq, go_sem, reduceCtorEq, Nat.reduceEqDiff, reduceIte, Nat.reduceAdd, Nat.reduceSub, Nat.reduceLeDiff, Int.reduceToNat, Nat.reduceBEq]
          repeat (refine ⟨by (try simp only [List.length_append, List.length_cons, List.length_nil]); omega, ?_⟩)
          exact fin _ hstep.symm
        · rw [decide_eq_false h0, Bool.false_and] at hstep
          rw [igt_f (by omega)]
          simp only [hw1, tab_none, tab_len, frnL_tab, resL_tab, roL_tab, klL_tab, map_roD_tab, tab_get _ hil, tab_set, go_sem, reduceCtorEq, Nat.reduceEqDiff, reduceIte, Nat.reduceAdd, Nat.reduceSub, Nat.reduceLeDiff, Int.reduceToNat, Nat.reduceBEq]
          repeat (refine ⟨by (try simp only [List.length_append, List.length_cons, List.length_nil]); omega, ?_⟩)
          exact fin false hstep.symm
    · rw [se_f (show x ≠ [42, 42] from hd)]
      simp only [tab_none, tab_len, frnL_tab, resL_tab, roL_tab, klL_tab, map_roD_tab, go_sem, reduceCtorEq, Nat.reduceEqDiff, reduceIte, Nat.reduceAdd, Nat.reduceSub, Nat.reduceLeDiff, Int.reduceToNat, Nat.reduceBEq]
      have same : (i < Y.length → M (Q ++ [x]) (Y.take (i + 1)) = false) → _ := fun h => ih (i + 1) (by omega) (by omega) g (fun q hq => by
        have hgq := hg q hq
        rw [if_neg hd] at hgq ⊢
        rw [hgq]
        by_cases e2 : q ≤ i
        · rw [decide_eq_true e2, decide_eq_true (by omega : q ≤ i + 1)]
        · rw [decide_eq_false e2, Bool.false_and]
          by_cases e3 : q ≤ i + 1
          · have e4 : q = i + 1 := by omega
            subst e4
            rw [h (by omega), Bool.and_false]
          · rw [decide_eq_false e3, Bool.false_and])
      cases hM : M Q (Y.take i) with
      | false =>
        simp only [hw1, tab_none, tab_len, frnL_tab, resL_tab, roL_tab, klL_tab, map_roD_tab, go_sem, reduceCtorEq, Nat.reduceEqDiff, reduceIte, Nat.reduceAdd, Nat.reduceSub, Nat.reduceLeDiff, Int.reduceToNat, Nat.reduceBEq]
        exact same fun h => by rw [step_lit hd Q Y i h, hM, Bool.false_and]
      | true =>
        simp only [tab_none, tab_len, frnL_tab, resL_tab, roL_tab, klL_tab, map_roD_tab, go_sem, reduceCtorEq, Nat.reduceEqDiff, reduceIte, Nat.reduceAdd, Nat.reduceSub, Nat.reduceLeDiff, Int.reduceToNat, Nat.reduceBEq]
        by_cases hin : i < Y.length
        · have hi1 : i + 1 < Y.length + 1 := by omega
          rw [lt_t hin]
          simp only [hw1, ssE Y hin, tab_none, tab_len, frnL_tab, resL_tab, roL_tab, klL_tab, map_roD_tab, go_sem, reduceCtorEq, Nat.reduceEqDiff, reduceIte, Nat.reduceAdd, Nat.reduceSub, Nat.reduceLeDiff, Int.reduceToNat, Nat.reduceBEq]
          repeat (refine ⟨by (try simp only [List.length_append, List.length_cons, List.length_nil]); omega, ?_⟩)
          refine of_call (gpart_snd x Y[i] hx (hb _ (List.getElem_mem hin)) Lx hLx) ?_
          simp only [hw1, tab_none, tab_len, frnL_tab, resL_tab, roL_tab, klL_tab, map_roD_tab, tab_get _ hi1, tab_set, go_sem, reduceCtorEq, Nat.reduceEqDiff, reduceIte, Nat.reduceAdd, Nat.reduceSub, Nat.reduceLeDiff, Int.reduceToNat, Nat.reduceBEq]
          repeat (refine ⟨by (try simp only [List.length_append, List.length_cons, List.length_nil]); omega, ?_⟩)
          have hst := step_lit hd Q Y i hin
          rw [hM, Bool.true_and, partF, hLx] at hst
          simp only at hst
          refine ih (i + 1) (by omega) (by omega) (fun q => if q = i + 1 then whole Lx Y[i] else g q) (fun q hq => ?_)
          have hgq := hg q hq
          rw [if_neg hd] at hgq ⊢
          by_cases e : q = i + 1
          · subst e
            rw [if_pos rfl, decide_eq_true (Nat.le_refl _), Bool.true_and, hst]
          · rw [if_neg e, hgq]
            by_cases e2 : q ≤ i
            · rw [decide_eq_true e2, decide_eq_true (by omega : q ≤ i + 1)]
            · rw [decide_eq_false e2, decide_eq_false (by omega : ¬ q ≤ i + 1)]
        · rw [lt_f hin]
          simp only [hw1, tab_none, tab_len, frnL_tab, resL_tab, roL_tab, klL_tab, map_roD_tab, go_sem, reduceCtorEq, Nat.reduceEqDiff, reduceIte, Nat.reduceAdd, Nat.reduceSub, Nat.reduceLeDiff, Int.reduceToNat, Nat.reduceBEq]
          exact same fun h => absurd h hin
theorem gparts_loop (P Y : List Ln.Bs) (hP : P.length ≤ 1048576) (hS : Y.length ≤ 1048576) (hb : ∀ l, l ∈ Y → l.length ≤ 1048576) (hbp : ∀ l, l ∈ P → l.length ≤ 1048576) (hg : ∀ x, x ∈ P → ∃ L, toks x = some L) (n : Nat) :
    ∀ (j : Nat) (hn : P.length - j = n) (hj : j ≤ P.length) (v8 : AV) (hv : v8 = .junk ∨ ∃ f, v8 = .sl .ro 1 (tab (Y.length + 1) f)),
    vcL (kn m) [0, 1, 5, 8, 17, 18, 19] [] gparts_l3 (blockK 0 (seqK (kn m) [1, 5, 8] [] gparts_k4 (outOk [.tmp 4] (B (M P Y)))))
      (mkS [(0, .sl .frn 1 (ss P)), (1, .sl .frn 1 (ss Y)), (5, .sl .own 1 (tab (Y.length + 1) fun q => M (P.take j) (Y.take q))), (8, v8), (17, .sl .frn 1 (ss P)), (18, N P.length), (19, N j)] []) := by
  have hw1 : IntKind.i64.wrap ((Y.length : Int) + 1) = ((Y.length + 1 : Nat) : Int) := wrapN (Y.length + 1) (by omega) (by omega)
  induction n with
  | zero =>
    intro j hn hj v8 hv
    have hjl : j = P.length := by omega
    subst hjl
    have hl : Y.length < Y.length + 1 := by omega
    apply round
    rw [List.take_length]
    rcases hv with rfl | ⟨f, rfl⟩
    · simp only [gparts_l3_w, gparts_l3', tab_none, tab_len, frnL_tab, resL_tab, roL_tab, klL_tab, map_roD_tab, go_sem, reduceCtorEq, Nat.reduceEqDiff, reduceIte, Nat.reduceAdd, Nat.reduceSub, Nat.reduceLeDiff, Int.reduceToNat, Nat.reduceBEq]
      rw [lt_f (by omega)]
      simp only [gparts_k4_w, gparts_k4', tab_none, tab_len, frnL_tab, resL_tab, roL_tab, klL_tab, map_roD_tab, tab_get _ hl, go_sem, reduceCtorEq, Nat.reduceEqDiff, reduceIte, Nat.reduceAdd, Nat.reduceSub, Nat.reduceLeDiff, Int.reduceToNat, Nat.reduceBEq]
      exact ⟨by omega, by omega, by omega⟩
    · simp only [gparts_l3_w, gparts_l3', tab_none, tab_len, frnL_tab, resL_tab, roL_tab, klL_tab, map_roD_tab, go_sem, reduceCtorEq, Nat.reduceEqDiff, reduceIte, Nat.reduceAdd, Nat.reduceSub, Nat.reduceLeDiff, Int.reduceToNat, Nat.reduceBEq]
      rw [lt_f (by omega)]
      simp only [gparts_k4_w, gparts_k4', tab_none, tab_len, frnL_tab, resL_tab, roL_tab, klL_tab, map_roD_tab, tab_get _ hl, go_sem, reduceCtorEq, Nat.reduceEqDiff, reduceIte, Nat.reduceAdd, Nat.reduceSub, Nat.reduceLeDiff, Int.reduceToNat, Nat.reduceBEq]
      exact ⟨by omega, by omega, by omega⟩
  | succ n ih =>
    intro j hn hj v8 hv
    have hjl : j < P.length := by omega
    have hw2 : IntKind.i64.wrap ((j : Int) + 1) = ((j + 1 : Nat) : Int) := wrapN (j + 1) (by omega) (by omega)
    obtain ⟨Lx, hLx⟩ := hg P[j] (List.getElem_mem hjl)
    have g0 : ∀ q, q ≤ Y.length → (fun _ : Nat => false) q = if P[j] = deep then (decide (q < 0) && M (P.take j ++ [P[j]]) (Y.take q)) else (decide (q ≤ 0) && M (P.take j ++ [P[j]]) (Y.take q)) := by
      intro q hq
      split
      · rw [decide_eq_false (by omega), Bool.false_and]
      · rename_i hd
        by_cases e : q = 0
        · subst e; rw [List.take_zero, step_lit_zero hd, Bool.and_false]
        · rw [decide_eq_false (by omega), Bool.false_and]
    apply round
    rcases hv with rfl | ⟨f, rfl⟩
    · simp only [gparts_l3_w, gparts_l3', tab_none, tab_len, frnL_tab, resL_tab, roL_tab, klL_tab, map_roD_tab, go_sem, reduceCtorEq, Nat.reduceEqDiff, reduceIte, Nat.reduceAdd, Nat.reduceSub, Nat.reduceLeDiff, Int.reduceToNat, Nat.reduceBEq]
      rw [lt_t hjl]
      simp only [ssE P hjl, hw1, tab_none, tab_none, tab_len, frnL_tab, resL_tab, roL_tab, klL_tab, map_roD_tab, go_sem, reduceCtorEq, Nat.reduceEqDiff, reduceIte, Nat.reduceAdd, Nat.reduceSub, Nat.reduceLeDiff, Int.reduceToNat, Nat.reduceBEq]
      repeat (refine ⟨by (try simp only [List.length_append, List.length_cons, List.length_nil]); omega, ?_⟩)
      refine gparts_in P Y hS hb P[j] (hbp _ (List.getElem_mem hjl)) Lx hLx j P.length (P.take j) _ ?_ _ 0 rfl (by omega) (fun _ => false) g0
      simp only [gparts_k1_w, gparts_k1', gparts_k2_w, gparts_k2', hw2, tab_none, tab_len, frnL_tab, resL_tab, roL_tab, klL_tab, map_roD_tab, go_sem, reduceCtorEq, Nat.reduceEqDiff, reduceIte, Nat.reduceAdd, Nat.reduceSub, Nat.reduceLeDiff, Int.reduceToNat, Nat.reduceBEq]
      rw [← List.take_succ_eq_append_getElem hjl]
      exact ih (j + 1) (by omega) (by omega) _ (.inr ⟨_, rfl⟩)
    · simp only [gparts_l3_w, gparts_l3', tab_none, tab_len, frnL_tab, resL_tab, roL_tab, klL_tab, map_roD_tab, go_sem, reduceCtorEq, Nat.reduceEqDiff, reduceIte, Nat.reduceAdd, Nat.reduceSub, Nat.reduceLeDiff, Int.reduceToNat, Nat.reduceBEq]
      rw [lt_t hjl]
      simp only [ssE P hjl, hw1, tab_none, tab_none, tab_len, frnL_tab, resL_tab, roL_tab, klL_tab, map_roD_tab, go_sem, reduceCtorEq, Nat.reduceEqDiff, reduceIte, Nat.reduceAdd, Nat.reduceSub, Nat.reduceLeDiff, Int.reduceToNat, Nat.reduceBEq]
      repeat (refine ⟨by (try simp only [List.length_append, List.length_cons, List.length_nil]); omega, ?_⟩)
      refine gparts_in P Y hS hb P[j] (hbp _ (List.getElem_mem hjl)) Lx hLx j P.length (P.take j) _ ?_ _ 0 rfl (by omega) (fun _ => false) g0
      simp only [gparts_k1_w, gparts_k1', gparts_k2_w, gparts_k2', hw2, tab_none, tab_len, frnL_tab, resL_tab, roL_tab, klL_tab, map_roD_tab, go_sem, reduceCtorEq, Nat.reduceEqDiff, reduceIte, Nat.reduceAdd, Nat.reduceSub, Nat.reduceLeDiff, Int.reduceToNat, Nat.reduceBEq]
      rw [← List.take_succ_eq_append_getElem hjl]
      exact ih (j + 1) (by omega) (by omega) _ (.inr ⟨_, rfl⟩)
theorem gparts_snd (P Y : List Ln.Bs) (hP : P.length ≤ 1048576) (hS : Y.length ≤ 1048576) (hb : ∀ l, l ∈ Y → l.length ≤ 1048576) (hbp : ∀ l, l ∈ P → l.length ≤ 1048576) (hg : ∀ x, x ∈ P → ∃ L, toks x = some L) : Snd Tryd.prog (gl m) 66 [.sl .frn 1 (ss P), .sl .frn 1 (ss Y)] (B (M P Y)) := by
  refine snd_of (fn := Tryd.f66) (af := gparts) Tryd.func66 (gparts_comp m) mixed (kn_ok m) (Nat.le_of_ble_eq_true rfl) ?_
  have hw1 : IntKind.i64.wrap ((Y.length : Int) + 1) = ((Y.length + 1 : Nat) : Int) := wrapN (Y.length + 1) (by omega) (by omega)
  have h0 : 0 < Y.length + 1 := by omega
  simp only [gparts, hw1, tab_none, tab_none, tab_len, frnL_tab, resL_tab, roL_tab, klL_tab, map_roD_tab, tab_get _ h0, tab_set, go_sem, reduceCtorEq, Nat.reduceEqDiff, reduceIte, Nat.reduceAdd, Nat.reduceSub, Nat.reduceLeDiff, Int.reduceToNat, Nat.reduceBEq]
  repeat (refine ⟨by (try simp only [List.length_append, List.length_cons, List.length_nil]); omega, ?_⟩)
  have e : tab (Y.length + 1) (fun q => if q = 0 then true else false) = tab (Y.length + 1) fun q => M (P.take 0) (Y.take q) := tab_ext fun q hq => by
    rw [List.take_zero, M_nil]
    by_cases e : q = 0
    · subst e; rw [if_pos rfl, List.take_zero]; rfl
    · rw [if_neg e]
      cases hY : Y.take q with
      | nil => have := congrArg List.length hY; rw [List.length_take, List.length_nil] at this; omega
      | cons _ _ => rfl
  rw [e]
  exact gparts_loop P Y hP hS hb hbp hg _ 0 rfl (by omega) .junk (.inl rfl)
end Go.Gb

