import Derived.Test.YtolghafejibajaaDoorLnA
/- Lines: the laws, in plain lists. -/
namespace Go.Ln
set_option linter.unusedVariables false
set_option linter.unusedSimpArgs false

/-! ### the ends of lines -/
theorem crlf_head13 (l : Bs) : (crlf 13 l).head? = l.head? := by
  cases l with
  | nil => rfl
  | cons c l => simp [crlf]
theorem lf_crlf (s : Bs) : ∀ p, lf (crlf p s) = lf s := by
  induction s with
  | nil => intro p; rfl
  | cons c l ih =>
    intro p
    simp only [crlf]
    split
    · rename_i h
      obtain ⟨rfl, _⟩ := h
      rw [lf, if_pos ⟨rfl, rfl⟩, lf, if_neg (by simp), ih, lf, if_neg (by simp)]
    · rw [lf, lf]
      by_cases hc : c = 13
      · subst hc; rw [crlf_head13, ih]
      · rw [if_neg (fun h => hc h.1), if_neg (fun h => hc h.1), ih]
theorem crlf_crlf (s : Bs) : ∀ p, crlf p (crlf p s) = crlf p s := by
  induction s with
  | nil => intro p; rfl
  | cons c l ih =>
    intro p
    by_cases h : c = 10 ∧ p ≠ 13
    · obtain ⟨rfl, hp⟩ := h
      have e : crlf p (10 :: l) = 13 :: 10 :: crlf 10 l := by rw [crlf, if_pos ⟨rfl, hp⟩]
      rw [e, crlf, if_neg (by simp), crlf, if_neg (by simp), ih]
    · have e : crlf p (c :: l) = c :: crlf c l := by rw [crlf, if_neg h]
      rw [e, crlf, if_neg h, ih]
theorem lf_free {s : Bs} (h : 13 ∉ s) : lf s = s := by
  induction s with
  | nil => rfl
  | cons c l ih =>
    simp only [List.mem_cons, not_or] at h
    rw [lf, if_neg (fun e => h.1 e.1.symm), ih h.2]
/-- no carriage return ahead of a line feed, up to place n -/
def pf (s : Bs) : Nat → Bool
  | 0 => true
  | i + 1 => pf s i && !(decide (s[i]? = some 10) && decide (i ≠ 0) && decide (s[i - 1]? = some 13))
theorem pf_iff (s : Bs) (n : Nat) : pf s n = true ↔ ∀ i, i < n → ¬ (s[i]? = some 10 ∧ i ≠ 0 ∧ s[i - 1]? = some 13) := by
  induction n with
  | zero => simp [pf]
  | succ n ih =>
    simp only [pf, Bool.and_eq_true, ih]
    constructor
    · rintro ⟨h1, h2⟩ i hi ⟨h3, h4, h5⟩
      by_cases e : i = n
      · subst e; simp [h3, h4, h5] at h2
      · exact h1 i (by omega) ⟨h3, h4, h5⟩
    · intro h
      refine ⟨fun i hi => h i (by omega), ?_⟩
      have := h n (by omega)
      rw [Bool.not_eq_true', Bool.eq_false_iff]
      intro e
      simp only [Bool.and_eq_true, decide_eq_true_eq] at e
      exact this ⟨e.1.1, e.1.2, e.2⟩
theorem lf_same {s : Bs} : lf s = s ↔ ∀ i : Nat, ¬ (s[i]? = some 13 ∧ s[i + 1]? = some 10) := by
  induction s with
  | nil => simp [lf]
  | cons c l ih =>
    constructor
    · intro h i hi
      by_cases hc : c = 13 ∧ l.head? = some 10
      · rw [lf, if_pos hc] at h
        have := lf_len l
        rw [h] at this
        simp only [List.length_cons] at this
        omega
      · rw [lf, if_neg hc] at h
        have h2 := ih.1 (List.cons.inj h).2
        cases i with
        | zero =>
          obtain ⟨h3, h4⟩ := hi
          rw [List.getElem?_cons_zero] at h3
          rw [List.getElem?_cons_succ] at h4
          exact hc ⟨Option.some.inj h3, by rw [List.head?_eq_getElem?]; exact h4⟩
        | succ i => exact h2 i ⟨by rw [← hi.1, List.getElem?_cons_succ], by rw [← hi.2, List.getElem?_cons_succ]⟩
    · intro h
      have hc : ¬ (c = 13 ∧ l.head? = some 10) := fun e => h 0 ⟨by rw [List.getElem?_cons_zero, e.1], by rw [List.getElem?_cons_succ, ← List.head?_eq_getElem?]; exact e.2⟩
      rw [lf, if_neg hc, ih.2 fun i hi => h (i + 1) ⟨by rw [List.getElem?_cons_succ]; exact hi.1, by rw [List.getElem?_cons_succ]; exact hi.2⟩]
theorem round_trip (s : Bs) : (lf (crlf 0 s) == s) = pf s s.length := by
  rw [lf_crlf, Bool.eq_iff_iff, beq_iff_eq, lf_same, pf_iff]
  constructor
  · rintro h i hi ⟨h1, h2, h3⟩
    exact h (i - 1) ⟨h3, by rw [show i - 1 + 1 = i by omega]; exact h1⟩
  · rintro h i ⟨h1, h2⟩
    have hi := (List.getElem?_eq_some_iff.1 h2).1
    exact h (i + 1) hi ⟨h2, by omega, by simpa using h1⟩

/-! ### lines and what they are put together to -/
theorem lines_feed {x : Bs} (h : 10 ∉ x) (r : Bs) : lines (x ++ 10 :: r) = (x ++ [10]) :: lines r := by
  induction x with
  | nil => simp [lines]
  | cons c x ih =>
    simp only [List.mem_cons, not_or] at h
    simp only [List.cons_append, lines, ih h.2]
    rw [if_neg (fun e => h.1 e.symm)]
theorem idx_free {x : Bs} {c : UInt8} (h : c ∉ x) : idx x c = none := by
  refine idx_none fun j hj e => h ?_
  rw [getX hj] at e
  injection e with e
  rw [← e]; exact List.getElem_mem hj
theorem lines_map {K : List Bs} (h : ∀ x, x ∈ K → 10 ∉ x) : lines (K.map (· ++ [10])).flatten = K.map (· ++ [10]) := by
  induction K with
  | nil => rfl
  | cons x K ih =>
    simp only [List.map_cons, List.flatten_cons, List.append_assoc, List.cons_append, List.nil_append]
    rw [lines_feed (h x (List.mem_cons_self ..)), ih fun y hy => h y (List.mem_cons_of_mem _ hy)]
theorem okLines_lines (s : Bs) : okLines (lines s) = true := by
  induction s with
  | nil => rfl
  | cons c l ih =>
    simp only [lines]
    split
    · simp [okLines, okLine, ih]
    · rename_i hc
      split
      · simp [okLines, okLine]
      · rename_i x xs hx
        rw [hx] at ih
        have hne : x ≠ [] := lines_ne (by rw [hx]; exact List.mem_cons_self ..)
        simp only [okLines, Bool.and_eq_true] at ih ⊢
        refine ⟨?_, ih.2⟩
        have h1 := ih.1
        simp only [okLine, Bool.and_eq_true, decide_eq_true_eq] at h1 ⊢
        refine ⟨⟨by simp, ?_⟩, ?_⟩
        · rw [List.dropLast_cons_of_ne_nil hne]
          have := h1.1.2
          simp only [Bool.not_eq_true', List.contains_cons] at this ⊢
          rw [this, Bool.or_false, beq_eq_false_iff_ne]; exact fun e => hc e.symm
        · rw [List.getLast?_cons_of_ne_nil hne]; exact h1.2
theorem lines_flat {L : List Bs} (h : okLines L = true) : lines L.flatten = L := by
  induction L with
  | nil => rfl
  | cons l r ih =>
    simp only [okLines, Bool.and_eq_true] at h
    obtain ⟨h1, h2⟩ := h
    simp only [okLine, Bool.and_eq_true, decide_eq_true_eq] at h1
    obtain ⟨⟨hne, hno⟩, hlast⟩ := h1
    have hno : 10 ∉ l.dropLast := by
      intro hm
      rw [← List.contains_iff_mem] at hm
      rw [hm] at hno; cases hno
    have hl := List.dropLast_concat_getLast hne
    by_cases hf : l.getLast hne = 10
    · rw [hf] at hl
      rw [List.flatten_cons, ← hl, List.append_assoc, List.cons_append, List.nil_append, lines_feed hno, ih h2]
    · have hr : r = [] := by
        rw [List.getLast?_eq_some_getLast hne, Bool.or_eq_true] at hlast
        rcases hlast with e | e
        · exact absurd (by simpa using e) hf
        · simpa using e
      subst hr
      rw [List.flatten_cons, List.flatten_nil, List.append_nil, lines_none (idx_free ?_) hne]
      rw [← hl]
      simp only [List.mem_append, List.mem_cons, List.not_mem_nil, or_false, not_or]
      exact ⟨hno, fun e => hf e.symm⟩
theorem line_no10 {s : Bs} : ∀ {l : Bs}, l ∈ lines s → 10 ∉ l.dropLast := by
  induction s with
  | nil => intro l h; simp [lines] at h
  | cons c s ih =>
    intro l h
    simp only [lines] at h
    split at h
    · rcases List.mem_cons.1 h with rfl | h
      · simp
      · exact ih h
    · rename_i hc
      split at h
      · simp at h; subst h; simp
      · rename_i x xs hx
        rcases List.mem_cons.1 h with rfl | h
        · have hne : x ≠ [] := lines_ne (by rw [hx]; exact List.mem_cons_self ..)
          rw [List.dropLast_cons_of_ne_nil hne]
          simp only [List.mem_cons, not_or]
          exact ⟨fun e => hc e.symm, ih (by rw [hx]; exact List.mem_cons_self ..)⟩
        · exact ih (by rw [hx]; exact List.mem_cons_of_mem _ h)

/-! ### cleaned lines -/
theorem unfeed_no10 {l : Bs} (h : 10 ∉ l.dropLast) : 10 ∉ unfeed l := by
  simp only [unfeed]
  split
  · exact h
  · rename_i hn
    by_cases hne : l = []
    · subst hne; simp
    · have hl := List.dropLast_concat_getLast hne
      rw [List.getLast?_eq_some_getLast hne] at hn
      intro hm
      rw [← hl] at hm
      simp only [List.mem_append, List.mem_cons, List.not_mem_nil, or_false] at hm
      rcases hm with hm | hm
      · exact h hm
      · exact hn (by rw [← hm])
theorem chop_pre (s : Bs) : chop s <+: s := by
  have := List.dropWhile_suffix (l := s.reverse) blank
  rw [← List.reverse_prefix, List.reverse_reverse] at this
  exact this
theorem unfeed_pre (s : Bs) : unfeed s <+: s := by
  simp only [unfeed]
  split
  · exact List.dropLast_prefix s
  · exact List.prefix_refl s
theorem bare_pre (s : Bs) : bare s <+: s := (chop_pre _).trans (unfeed_pre _)
theorem dropWhile_twice {α : Type} (p : α → Bool) (l : List α) : (l.dropWhile p).dropWhile p = l.dropWhile p := by
  induction l with
  | nil => rfl
  | cons a l ih =>
    simp only [List.dropWhile_cons]
    split
    · exact ih
    · rename_i h; rw [List.dropWhile_cons, if_neg h]
theorem chop_chop (s : Bs) : chop (chop s) = chop s := by
  unfold chop
  rw [List.reverse_reverse, dropWhile_twice]
theorem starts_pre {x l : Bs} (h : x <+: l) (hs : starts l = false) : starts x = false := by
  obtain ⟨t, rfl⟩ := h
  cases x with
  | nil => rfl
  | cons c x => simpa [starts] using hs
theorem bare_feed {x : Bs} (h : chop x = x) : bare (x ++ [10]) = x := by
  rw [bare, unfeed, if_pos (by simp), List.dropLast_concat, h]

/-- what is kept -/
structure Tidy (K : List Bs) : Prop where
  no10 : ∀ x, x ∈ K → 10 ∉ x
  hash : ∀ x, x ∈ K → starts x = false
  chp : ∀ x, x ∈ K → chop x = x
  emp : ∀ i : Nat, K[i]? = some [] → i ≠ 0 ∧ K[i - 1]? ≠ some [] ∧ i + 1 < K.length
theorem Tidy.nil : Tidy [] := ⟨by simp, by simp, by simp, by simp⟩
theorem Tidy.last {K : List Bs} (h : Tidy K) : K.getLast? ≠ some [] := by
  intro e
  rw [List.getLast?_eq_getElem?] at e
  have h1 := h.emp _ e
  have h2 := (List.getElem?_eq_some_iff.1 e).1
  omega
theorem Tidy.snoc {K : List Bs} (h : Tidy K) {x : Bs} (hx : x ≠ []) (h1 : 10 ∉ x) (h2 : starts x = false) (h3 : chop x = x) : Tidy (K ++ [x]) where
  no10 y hy := by rcases List.mem_append.1 hy with hy | hy; exact h.no10 y hy; simp at hy; subst hy; exact h1
  hash y hy := by rcases List.mem_append.1 hy with hy | hy; exact h.hash y hy; simp at hy; subst hy; exact h2
  chp y hy := by rcases List.mem_append.1 hy with hy | hy; exact h.chp y hy; simp at hy; subst hy; exact h3
  emp i hi := by
    by_cases hlt : i < K.length
    · rw [List.getElem?_append_left hlt] at hi
      have := h.emp i hi
      rw [List.getElem?_append_left (by omega)]
      exact ⟨this.1, this.2.1, by simp; omega⟩
    · rw [List.getElem?_append_right (by omega)] at hi
      by_cases e : i - K.length = 0
      · rw [e] at hi; simp at hi; exact absurd hi hx
      · rw [List.getElem?_eq_none (by simp; omega)] at hi; cases hi
theorem Tidy.gap {K : List Bs} (h : Tidy K) (hK : K ≠ []) {x : Bs} (hx : x ≠ []) (h1 : 10 ∉ x) (h2 : starts x = false) (h3 : chop x = x) : Tidy (K ++ [[], x]) where
  no10 y hy := by
    rcases List.mem_append.1 hy with hy | hy
    · exact h.no10 y hy
    · simp at hy; rcases hy with rfl | rfl
      · simp
      · exact h1
  hash y hy := by
    rcases List.mem_append.1 hy with hy | hy
    · exact h.hash y hy
    · simp at hy; rcases hy with rfl | rfl
      · rfl
      · exact h2
  chp y hy := by
    rcases List.mem_append.1 hy with hy | hy
    · exact h.chp y hy
    · simp at hy; rcases hy with rfl | rfl
      · rfl
      · exact h3
  emp i hi := by
    have hpos : 0 < K.length := by cases K; exact absurd rfl hK; simp
    by_cases hlt : i < K.length
    · rw [List.getElem?_append_left hlt] at hi
      have := h.emp i hi
      rw [List.getElem?_append_left (by omega)]
      exact ⟨this.1, this.2.1, by simp; omega⟩
    · by_cases e : i = K.length
      · subst e
        refine ⟨by omega, ?_, by simp⟩
        rw [List.getElem?_append_left (by omega)]
        have := h.last
        rw [List.getLast?_eq_getElem?] at this
        exact this
      · rw [List.getElem?_append_right (by omega)] at hi
        by_cases e1 : i - K.length = 1
        · rw [e1] at hi; simp at hi; exact absurd hi hx
        · rw [List.getElem?_eq_none (by simp; omega)] at hi; cases hi

def withGap (O : List Bs) (e : Bool) : List Bs := if e = true ∧ O ≠ [] then O ++ [[]] else O
def feeds (O : List Bs) : Bs := (O.map (· ++ [10])).flatten
theorem keep_both (L : List Bs) : ∀ (O : List Bs) (e : Bool) (out : List Bs), (∀ l, l ∈ L → 10 ∉ l.dropLast) → Tidy O → out.flatten = feeds O → (out = [] ↔ O = []) →
    ∃ O', Tidy O' ∧ dropE (keepP (withGap O e) L) = O' ∧ (keepR out e L).flatten = feeds O' := by
  induction L with
  | nil =>
    intro O e out _ hT hf _
    refine ⟨O, hT, ?_, hf⟩
    simp only [keepP, withGap]
    split
    · rw [dropE, if_pos (by simp), List.dropLast_concat]
    · rw [dropE, if_neg hT.last]
  | cons l L ih =>
    intro O e out hL hT hf ho
    have hL' : ∀ l, l ∈ L → 10 ∉ l.dropLast := fun x hx => hL x (List.mem_cons_of_mem _ hx)
    simp only [keepP, keepR]
    by_cases hs : starts l = true
    · rw [if_pos hs, if_pos hs]; exact ih O e out hL' hT hf ho
    · rw [if_neg hs, if_neg hs]
      by_cases hb : bare l = []
      · rw [if_pos hb]
        have := ih O true out hL' hT hf ho
        by_cases hc : withGap O e = [] ∨ (withGap O e).getLast? = some []
        · rw [if_pos ⟨hb, hc⟩]
          have e1 : withGap O e = withGap O true := by
            unfold withGap at hc ⊢
            by_cases hO : O = []
            · rw [if_neg (fun h => h.2 hO), if_neg (fun h => h.2 hO)]
            · cases e with
              | true => rfl
              | false =>
                rw [if_neg (by simp)] at hc
                rcases hc with h | h
                · exact absurd h hO
                · exact absurd h hT.last
          rw [e1]; exact this
        · rw [if_neg (fun h => hc h.2)]
          have e1 : withGap O e ++ [bare l] = withGap O true := by
            rw [hb]
            unfold withGap at hc ⊢
            by_cases hO : O = []
            · rw [if_neg (fun h => h.2 hO)] at hc; exact absurd (.inl hO) hc
            · cases e with
              | true => rw [if_pos ⟨rfl, hO⟩] at hc; exact absurd (.inr (by simp)) hc
              | false => rw [if_neg (by simp), if_pos ⟨rfl, hO⟩]
          rw [e1]; exact this
      · rw [if_neg hb, if_neg (fun h => hb h.1)]
        have p1 : 10 ∉ bare l := fun h => unfeed_no10 (hL l (List.mem_cons_self ..)) ((chop_pre _).subset h)
        have p2 : starts (bare l) = false := starts_pre (bare_pre l) (by simpa using hs)
        have p3 : chop (bare l) = bare l := chop_chop _
        by_cases hc : e = true ∧ O ≠ []
        · have hc' : e = true ∧ out ≠ [] := ⟨hc.1, fun h => hc.2 (ho.1 h)⟩
          rw [if_pos hc']
          have e1 : withGap O e ++ [bare l] = withGap (O ++ [[], bare l]) false := by
            unfold withGap; rw [if_pos hc, if_neg (by simp)]; simp
          rw [e1]
          exact ih _ false _ hL' (hT.gap hc.2 hb p1 p2 p3) (by simp [feeds, hf]) (by simp)
        · have hc' : ¬ (e = true ∧ out ≠ []) := fun h => hc ⟨h.1, fun q => h.2 (ho.2 q)⟩
          rw [if_neg hc']
          have e1 : withGap O e ++ [bare l] = withGap (O ++ [bare l]) false := by
            unfold withGap; rw [if_neg hc, if_neg (by simp)]
          rw [e1]
          exact ih _ false _ hL' (hT.snoc hb p1 p2 p3) (by simp [feeds, hf]) (by simp)
theorem joinF_feeds (O : List Bs) : joinF O = feeds O := by
  unfold joinF
  split
  · rename_i h; subst h; rfl
  · rename_i h
    induction O with
    | nil => exact absurd rfl h
    | cons x O ih =>
      cases O with
      | nil => simp [feeds, List.intercalate]
      | cons y O =>
        have := ih (by simp)
        simp only [feeds, List.map_cons, List.flatten_cons, List.intercalate, List.intersperse, List.append_assoc] at this ⊢
        rw [this]
/-- what Clean leaves, both ways -/
theorem clean_both (s : Bs) : ∃ K, Tidy K ∧ cleanP s = feeds K ∧ cleanR s = feeds K := by
  obtain ⟨K, h1, h2, h3⟩ := keep_both (lines s) [] false [] (fun l hl => line_no10 hl) Tidy.nil rfl (by simp)
  refine ⟨K, h1, ?_, h3⟩
  unfold cleanP
  rw [show withGap [] false = [] from rfl] at h2
  rw [h2, joinF_feeds]
theorem clean_same (s : Bs) : cleanP s = cleanR s := by obtain ⟨K, _, h1, h2⟩ := clean_both s; rw [h1, h2]
theorem keep_tidy {K : List Bs} (h : Tidy K) (n : Nat) : ∀ i, K.length - i = n → i ≤ K.length → keepP (K.take i) ((K.map (· ++ [10])).drop i) = K := by
  induction n with
  | zero =>
    intro i hn hi
    have : i = K.length := by omega
    subst this
    rw [List.take_length, List.drop_of_length_le (by simp), keepP]
  | succ n ih =>
    intro i hn hi
    have hlt : i < K.length := by omega
    have hm := List.getElem_mem hlt
    rw [List.drop_eq_getElem_cons (by simpa using hlt), keepP, List.getElem_map]
    have hst : starts (K[i] ++ [10]) = false := by
      have := h.hash _ hm
      cases hk : K[i] with
      | nil => rfl
      | cons c x => rw [hk] at this; simpa [starts] using this
    rw [if_neg (by rw [hst]; simp), bare_feed (h.chp _ hm), if_neg, ← List.take_succ_eq_append_getElem hlt, ih (i + 1) (by omega) (by omega)]
    rintro ⟨he, hc⟩
    have h1 := h.emp i (by rw [getX hlt, he])
    rcases hc with hc | hc
    · have h2 := congrArg List.length hc
      rw [List.length_take, List.length_nil] at h2
      have := h1.1
      omega
    · rw [List.getLast?_eq_getElem?, List.length_take, Nat.min_eq_left hi, List.getElem?_take_of_lt (by have := h1.1; omega)] at hc
      exact h1.2.1 hc
theorem clean_twice (s : Bs) : cleanP (cleanP s) = cleanP s := by
  obtain ⟨K, h, h1, _⟩ := clean_both s
  rw [h1]
  unfold cleanP
  have hl : lines (feeds K) = K.map (· ++ [10]) := lines_map h.no10
  have := keep_tidy h _ 0 rfl (by omega)
  simp only [List.take_zero, List.drop_zero] at this
  rw [hl, this, dropE, if_neg h.last, joinF_feeds]
theorem feeds_len {K : List Bs} : K.length ≤ (feeds K).length := by
  induction K with
  | nil => simp [feeds]
  | cons x K ih => simp only [feeds, List.map_cons, List.flatten_cons, List.length_append, List.length_cons, List.length_nil] at ih ⊢; omega
theorem keepP_len (L : List Bs) : ∀ out : List Bs, (keepP out L).flatten.length + (keepP out L).length ≤ out.flatten.length + out.length + L.flatten.length + L.length := by
  induction L with
  | nil => intro out; simp [keepP]
  | cons l L ih =>
    intro out
    simp only [keepP, List.flatten_cons, List.length_append, List.length_cons]
    have h1 := bare_len l
    split
    · have := ih out; omega
    · split
      · have := ih out; omega
      · have := ih (out ++ [bare l])
        simp only [List.flatten_append, List.length_append, List.flatten_cons, List.flatten_nil, List.append_nil, List.length_cons, List.length_nil] at this
        omega
theorem dropE_len (K : List Bs) : (feeds (dropE K)).length ≤ K.flatten.length + K.length := by
  have h : ∀ K : List Bs, (feeds K).length = K.flatten.length + K.length := by
    intro K
    induction K with
    | nil => rfl
    | cons x K ih => simp only [feeds, List.map_cons, List.flatten_cons, List.length_append, List.length_cons, List.length_nil] at ih ⊢; omega
  rw [h]
  unfold dropE
  split
  · have h2 : K.flatten = (K.take (K.length - 1)).flatten ++ (K.drop (K.length - 1)).flatten := by rw [← List.flatten_append, List.take_append_drop]
    rw [List.dropLast_eq_take, h2, List.length_append, List.length_take]
    omega
  · omega
theorem cleanP_len (s : Bs) : (cleanP s).length ≤ 2 * s.length := by
  unfold cleanP
  rw [joinF_feeds]
  have h1 := dropE_len (keepP [] (lines s))
  have h2 := keepP_len (lines s) []
  have h3 := lines_len s
  have h4 := congrArg List.length (lines_flatten s)
  simp only [List.flatten_nil, List.length_nil] at h2
  omega
end Go.Ln

