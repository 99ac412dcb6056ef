import Derived.Lib.Bytealg
import Derived.Lib.Strings
import Derived.Lib.Replace
import Derived.Lib.ReplaceLaws
import Derived.Lib.SlTrimSet
import Derived.Test.YtolghafejibajaaDoorEvC
import Derived.Test.YtolghafejibajaaDoorShelf
import Derived.KernelRfl
/- Lines: what the functions of layer 5 compute, in plain lists. -/
namespace Go.Ln
set_option linter.unusedVariables false
abbrev Bs := List UInt8

/-- the place of the first byte c -/
def idx (s : Bs) (c : UInt8) : Option Nat := match s with
  | [] => none
  | b :: l => if b = c then some 0 else (idx l c).map (· + 1)
theorem idx_eq (s : Bs) (c : UInt8) : Lib.indexByte s c = match idx s c with | none => -1 | some n => (n : Int) := by
  induction s with
  | nil => rfl
  | cons b l ih =>
    simp only [Lib.indexByte, idx]
    by_cases h : b = c
    · simp [h]
    · simp only [beq_iff_eq, h, if_false, ih]
      cases idx l c with
      | none => simp
      | some n =>
        simp only [Option.map_some]
        rw [if_neg (by omega)]; rfl
theorem idx_lt {s : Bs} {c : UInt8} {n : Nat} (h : idx s c = some n) : n < s.length := by
  induction s generalizing n with
  | nil => cases h
  | cons b l ih =>
    simp only [idx] at h
    split at h
    · injection h with h; subst h; simp
    · simp only [Option.map_eq_some_iff] at h
      obtain ⟨m, h1, rfl⟩ := h
      have := ih h1; simp; omega
theorem idx_of {s : Bs} {c : UInt8} {n : Nat} (h : s[n]? = some c) (hn : ∀ j, j < n → s[j]? ≠ some c) : idx s c = some n := by
  induction s generalizing n with
  | nil => simp at h
  | cons b l ih =>
    simp only [idx]
    cases n with
    | zero => simp at h; simp [h]
    | succ n =>
      have : b ≠ c := by intro e; exact hn 0 (by omega) (by simp [e])
      rw [if_neg this, ih (by simpa using h) (fun j hj => by have := hn (j + 1) (by omega); simpa using this)]; rfl
theorem idx_none {s : Bs} {c : UInt8} (hn : ∀ j, j < s.length → s[j]? ≠ some c) : idx s c = none := by
  induction s with
  | nil => rfl
  | cons b l ih =>
    simp only [idx]
    have : b ≠ c := by intro e; exact hn 0 (by simp) (by simp [e])
    rw [if_neg this, ih (fun j hj => by have := hn (j + 1) (by simp; omega); simpa using this)]; rfl

/-- the lines of a text -/
def lines : Bs → List Bs
  | [] => []
  | c :: l => if c = 10 then [10] :: lines l else match lines l with | [] => [[c]] | x :: xs => (c :: x) :: xs
theorem lines_none {s : Bs} (h : idx s 10 = none) (hs : s ≠ []) : lines s = [s] := by
  induction s with
  | nil => exact absurd rfl hs
  | cons b l ih =>
    simp only [idx] at h
    split at h
    · cases h
    · rename_i hb
      simp only [lines, hb, if_false]
      by_cases hl : l = []
      · subst hl; rfl
      · rw [ih (by simpa using h) hl]
theorem lines_some {s : Bs} {n : Nat} (h : idx s 10 = some n) : lines s = s.take (n + 1) :: lines (s.drop (n + 1)) := by
  induction s generalizing n with
  | nil => cases h
  | cons b l ih =>
    simp only [idx] at h
    split at h
    · rename_i hb; injection h with h; subst h; simp [lines, hb]
    · rename_i hb
      simp only [Option.map_eq_some_iff] at h
      obtain ⟨m, h1, rfl⟩ := h
      simp only [lines, hb, if_false, ih h1, List.take_succ_cons, List.drop_succ_cons]

/-- a carriage return ahead of each line feed that has none; p: the byte ahead -/
def crlf : UInt8 → Bs → Bs
  | _, [] => []
  | p, c :: l => if c = 10 ∧ p ≠ 13 then 13 :: 10 :: crlf 10 l else c :: crlf c l
/-- no carriage return ahead of a line feed -/
def lf : Bs → Bs
  | [] => []
  | c :: l => if c = 13 ∧ l.head? = some 10 then lf l else c :: lf l
/-- the bytes at the end that are blank -/
def blank (c : UInt8) : Bool := c == 32 || c == 9 || c == 13
def chop (s : Bs) : Bs := (s.reverse.dropWhile blank).reverse
def unfeed (s : Bs) : Bs := if s.getLast? = some 10 then s.dropLast else s
/-- a line without what is blank at its end -/
def bare (s : Bs) : Bs := chop (unfeed s)
/-- the first line that is not empty -/
def first : List Bs → Bs
  | [] => []
  | l :: r => if unfeed l ≠ [] then unfeed l else first r
def starts (s : Bs) : Bool := s.head? == some 35
/-- the program's way: the lines that stay -/
def keepP (out : List Bs) : List Bs → List Bs
  | [] => out
  | l :: r => if starts l then keepP out r else if bare l = [] ∧ (out = [] ∨ out.getLast? = some []) then keepP out r else keepP (out ++ [bare l]) r
def dropE (out : List Bs) : List Bs := if out.getLast? = some [] then out.dropLast else out
def joinF (out : List Bs) : Bs := if out = [] then [] else [10].intercalate out ++ [10]
def cleanP (s : Bs) : Bs := joinF (dropE (keepP [] (lines s)))
/-- the reference's way -/
def keepR (out : List Bs) (e : Bool) : List Bs → List Bs
  | [] => out
  | l :: r => if starts l then keepR out e r else if bare l = [] then keepR out true r else keepR ((if e = true ∧ out ≠ [] then out ++ [[10]] else out) ++ [bare l ++ [10]]) false r
def cleanR (s : Bs) : Bs := (keepR [] false (lines s)).flatten

/-! ### lines are not empty -/
theorem lines_ne : ∀ {s : Bs} {l : Bs}, l ∈ lines s → l ≠ [] := by
  intro s
  induction s with
  | nil => intro l h; simp [lines] at h
  | cons c s ih =>
    intro l h
    simp only [lines] at h
    split at h
    · rcases List.mem_cons.1 h with rfl | h
      · simp
      · exact ih h
    · split at h
      · simp at h; subst h; simp
      · rename_i x xs hx
        rcases List.mem_cons.1 h with rfl | h
        · simp
        · exact ih (by rw [hx]; exact List.mem_cons_of_mem _ h)
theorem lines_flatten (s : Bs) : (lines s).flatten = s := by
  induction s with
  | nil => rfl
  | cons c s ih =>
    simp only [lines]
    split
    · rename_i h; simp [h, ih]
    · split
      · rename_i hx; rw [hx] at ih; simp at ih; simp [← ih]
      · rename_i x xs hx; rw [hx] at ih; simp only [List.flatten_cons, List.cons_append] at ih ⊢; rw [ih]
theorem lines_len (s : Bs) : (lines s).length ≤ s.length := by
  have : ∀ (L : List Bs), (∀ l, l ∈ L → l ≠ []) → L.length ≤ L.flatten.length := by
    intro L
    induction L with
    | nil => simp
    | cons l L ih =>
      intro h
      have h1 := ih fun x hx => h x (List.mem_cons_of_mem _ hx)
      have h2 : 0 < l.length := by have := h l (List.mem_cons_self ..); cases l; exact absurd rfl this; simp
      simp only [List.length_cons, List.flatten_cons, List.length_append]; omega
  have h := this (lines s) fun l hl => lines_ne hl
  rwa [lines_flatten] at h
theorem mem_len {L : List Bs} {l : Bs} (h : l ∈ L) : l.length ≤ L.flatten.length := by
  induction L with
  | nil => cases h
  | cons x L ih =>
    simp only [List.flatten_cons, List.length_append]
    rcases List.mem_cons.1 h with rfl | h
    · omega
    · have := ih h; omega
theorem line_len {s l : Bs} (h : l ∈ lines s) : l.length ≤ s.length := by have := mem_len h; rwa [lines_flatten] at this
theorem take_flatten_succ (l : List Bs) {i : Nat} (h : i < l.length) : (l.take (i + 1)).flatten = (l.take i).flatten ++ l[i] := by
  rw [List.take_succ_eq_append_getElem h, List.flatten_append]; simp
theorem hasSuffix_feed (s : Bs) : Lib.hasSuffix s [10] = true ↔ s.getLast? = some 10 := by
  simp only [Lib.hasSuffix]
  rw [List.isSuffixOf_iff_suffix]
  constructor
  · rintro ⟨t, rfl⟩; simp
  · intro h
    have hne : s ≠ [] := by rintro rfl; simp at h
    refine ⟨s.dropLast, ?_⟩
    have := List.dropLast_concat_getLast hne
    rw [List.getLast?_eq_some_getLast hne] at h
    injection h with h
    rw [h] at this; exact this
theorem trimSuffix_feed (s : Bs) : Lib.trimSuffix s [10] = unfeed s := by
  have hb := hasSuffix_feed s
  unfold Lib.trimSuffix unfeed
  by_cases h : s.getLast? = some 10
  · rw [if_pos (hb.2 h), if_pos h, List.dropLast_eq_take]; rfl
  · rw [if_neg (fun e => h (hb.1 e)), if_neg h]
theorem unfeed_nil {l : Bs} (hl : l ≠ []) : unfeed l = [] ↔ l = [10] := by
  constructor
  · intro h
    simp only [unfeed] at h
    split at h
    · rename_i h1
      have := List.dropLast_concat_getLast hl
      rw [List.getLast?_eq_some_getLast hl] at h1
      injection h1 with h1
      rw [h, h1] at this; simpa using this.symm
    · exact absurd h hl
  · rintro rfl; rfl
theorem first_drop_t (L : List Bs) {i : Nat} (h : i < L.length) (hu : unfeed L[i] ≠ []) : first (L.drop i) = unfeed L[i] := by
  rw [List.drop_eq_getElem_cons h]; simp [first, hu]
theorem first_drop_f (L : List Bs) {i : Nat} (h : i < L.length) (hu : unfeed L[i] = []) : first (L.drop i) = first (L.drop (i + 1)) := by
  rw [List.drop_eq_getElem_cons h]; simp [first, hu]
end Go.Ln

/- Lines: the ends of lines, the first bytes, bounds. -/
namespace Go.Ln
set_option linter.unusedVariables false
theorem getX {α : Type} {l : List α} {i : Nat} (h : i < l.length) : l[i]? = some l[i] := List.getElem?_eq_getElem h
theorem u8b_t {c d : UInt8} {n : Int} (h : c = d) (hd : (d.toNat : Int) = n) : ((c.toNat : Int) == n) = true := by rw [h, hd]; simp
theorem u8b_f {c d : UInt8} {n : Int} (h : c ≠ d) (hd : (d.toNat : Int) = n) : ((c.toNat : Int) == n) = false := by
  rw [← hd]; simp only [beq_eq_false_iff_ne]; intro e; exact h (UInt8.toNat_inj.1 (by omega))
theorem u8n_t {c d : UInt8} {n : Int} (h : c ≠ d) (hd : (d.toNat : Int) = n) : ((c.toNat : Int) != n) = true := by
  rw [bne, u8b_f h hd]; rfl
theorem u8n_f {c d : UInt8} {n : Int} (h : c = d) (hd : (d.toNat : Int) = n) : ((c.toNat : Int) != n) = false := by
  rw [bne, u8b_t h hd]; rfl
theorem eqN_t {a b : Nat} (h : a = b) : (((a : Int)) == (b : Int)) = true := by simp [h]
theorem eqN_f {a b : Nat} (h : a ≠ b) : (((a : Int)) == (b : Int)) = false := by simp; omega

/-- the byte ahead of place i -/
def prev (s : Bs) (i : Nat) : UInt8 := if i = 0 then 0 else s.getD (i - 1) 0
def crlfF (s : Bs) (i : Nat) : Bs := crlf (prev s i) (s.drop i)
theorem prev_succ {s : Bs} {i : Nat} (h : i < s.length) : prev s (i + 1) = s[i] := by simp [prev, List.getD, getX h]
theorem prev_at {s : Bs} {i : Nat} (h : i ≠ 0) (h2 : i - 1 < s.length) : prev s i = s[i - 1] := by simp [prev, h, List.getD, getX h2]
theorem crlfF_add {s : Bs} {i : Nat} (h : i < s.length) (h1 : s[i] = 10) (h2 : prev s i ≠ 13) : crlfF s i = 13 :: s[i] :: crlfF s (i + 1) := by
  rw [crlfF, List.drop_eq_getElem_cons h, crlf, if_pos ⟨h1, h2⟩, crlfF, prev_succ h, h1]
theorem crlfF_keep {s : Bs} {i : Nat} (h : i < s.length) (h1 : ¬ (s[i] = 10 ∧ prev s i ≠ 13)) : crlfF s i = s[i] :: crlfF s (i + 1) := by
  rw [crlfF, List.drop_eq_getElem_cons h, crlf, if_neg h1, crlfF, prev_succ h]
theorem crlfF_end (s : Bs) : crlfF s s.length = [] := by simp [crlfF, crlf]
theorem crlf_len : ∀ (p : UInt8) (s : Bs), (crlf p s).length ≤ 2 * s.length := by
  intro p s
  induction s generalizing p with
  | nil => simp [crlf]
  | cons c s ih =>
    simp only [crlf]
    split
    · have := ih 10; simp only [List.length_cons]; omega
    · have := ih c; simp only [List.length_cons]; omega
theorem lf_skip {s : Bs} {i : Nat} (h : i + 1 < s.length) (h1 : s[i] = 13) (h2 : s[i + 1] = 10) : lf (s.drop i) = lf (s.drop (i + 1)) := by
  rw [List.drop_eq_getElem_cons (by omega), lf, if_pos]
  exact ⟨h1, by rw [List.head?_drop, getX h, h2]⟩
theorem lf_keep {s : Bs} {i : Nat} (h : i < s.length) (h1 : ¬ (s[i] = 13 ∧ s[i + 1]? = some 10)) : lf (s.drop i) = s[i] :: lf (s.drop (i + 1)) := by
  rw [List.drop_eq_getElem_cons h, lf, if_neg]
  rw [List.head?_drop]; exact h1
theorem lf_len : ∀ (s : Bs), (lf s).length ≤ s.length := by
  intro s
  induction s with
  | nil => simp [lf]
  | cons c s ih => simp only [lf]; split <;> simp only [List.length_cons] <;> omega
/-- a zero among the first 8000 bytes -/
def binary (s : Bs) : Bool := (idx (s.take 8000) 0).isSome
theorem binary_t {s : Bs} {i : Nat} (h : i < s.length) (h2 : i < 8000) (h3 : s[i] = 0) : binary s = true := by
  rw [binary]
  cases he : idx (s.take 8000) 0 with
  | some n => rfl
  | none =>
    have : ∀ (l : List UInt8), idx l 0 = none → ∀ (j : Nat), l[j]? ≠ some 0 := by
      intro l
      induction l with
      | nil => intro _ j; simp
      | cons b l ih =>
        intro h j
        simp only [idx] at h
        split at h
        · cases h
        · rename_i hb
          cases j with
          | zero => simpa using hb
          | succ j => simpa using ih (by simpa using h) j
    exact absurd (by rw [List.getElem?_take_of_lt h2, getX h, h3]) (this _ he i)
theorem binary_f {s : Bs} (h : ∀ (j : Nat) b, j < 8000 → s[j]? = some b → b ≠ 0) : binary s = false := by
  rw [binary, idx_none]; rfl
  intro j hj e
  have h8 : j < 8000 := by simp only [List.length_take] at hj; omega
  rw [List.getElem?_take_of_lt h8] at e
  exact h j _ h8 e rfl
/-- not too many, not too long -/
def short (L : List Bs) (n b : Nat) : Bool := decide (L.flatten.length ≤ b) && decide (L.length ≤ n)
/-- a list that is the lines of a text, as the reference looks at it -/
def okLine (l : Bs) (last : Bool) : Bool := decide (l ≠ []) && !(l.dropLast.contains 10) && (l.getLast? == some 10 || last)
def okLines : List Bs → Bool
  | [] => true
  | l :: r => okLine l r.isEmpty && okLines r
end Go.Ln

/- Lines: what ReplaceAll does for the ends of lines; what is blank. -/
namespace Go.Ln
set_option linter.unusedVariables false
open Go.Lib in
theorem replace_lf (n : Nat) : ∀ (s : Bs), s.length ≤ n → Lib.replaceK [13, 10] [10] (Lib.count s [13, 10]) s = lf s := by
  induction n with
  | zero =>
    intro s h
    have : s = [] := List.length_eq_zero_iff.1 (by omega)
    subst this
    rw [count_miss (by rfl)]; rfl
  | succ n ih =>
    intro s h
    cases s with
    | nil => rw [count_miss (by rfl)]; rfl
    | cons c l =>
      simp only [List.length_cons] at h
      by_cases hp : [13, 10].isPrefixOf (c :: l) = true
      · rw [List.isPrefixOf_iff_prefix] at hp
        obtain ⟨t, ht⟩ := hp
        simp only [List.cons_append, List.nil_append, List.cons.injEq] at ht
        obtain ⟨rfl, rfl⟩ := ht
        have hi : index (13 :: 10 :: t) [13, 10] = ((0 : Nat) : Int) := by simp [index, List.isPrefixOf]
        simp only [List.length_cons] at h
        have := ih t (by omega)
        rw [count_hit (by simp) hi, Nat.add_comm, replaceK_hit _ _ _ _ 0 hi]
        simp only [List.length_cons, List.length_nil, List.take_zero, List.nil_append, Nat.zero_add, Nat.reduceAdd, List.drop_succ_cons, List.drop_zero, this]
        simp [lf]
      · have hl : lf (c :: l) = c :: lf l := by
          rw [lf, if_neg]
          rintro ⟨rfl, h2⟩
          cases l with
          | nil => cases h2
          | cons d l => simp only [List.head?_cons, Option.some.injEq] at h2; subst h2; exact hp (by simp [List.isPrefixOf])
        have hb := ih l (by omega)
        have hx : index (c :: l) [13, 10] = if index l [13, 10] == -1 then -1 else index l [13, 10] + 1 := by
          simp only [index]; rw [if_neg hp]
        by_cases hm : index l [13, 10] = -1
        · rw [hm] at hx
          rw [count_miss (by rw [hx]; rfl), hl, ← hb, count_miss hm]; rfl
        · have hge := index_ge l [13, 10]
          obtain ⟨i, hi⟩ : ∃ i : Nat, index l [13, 10] = i := ⟨(index l [13, 10]).toNat, by omega⟩
          have hx' : index (c :: l) [13, 10] = ((i + 1 : Nat) : Int) := by
            rw [hx, if_neg (by simpa using hm), hi]; rfl
          rw [count_hit (by simp) hx', Nat.add_comm 1, replaceK_hit _ _ _ _ (i + 1) hx', hl, ← hb, count_hit (by simp) hi, Nat.add_comm 1, replaceK_hit _ _ _ _ i hi]
          simp [Nat.add_right_comm i 1]
theorem replaceAll_lf (s : Bs) : Lib.replaceAll s [13, 10] [10] = lf s := by
  unfold Lib.replaceAll Lib.replace
  rw [if_neg (by simp)]
  have : Lib.replaceNum s [13, 10] (-1) = Lib.count s [13, 10] := by simp [Lib.replaceNum]
  rw [this]; exact replace_lf _ s (Nat.le_refl _)
theorem trimRight_chop (s : Bs) : Lib.trimRightS s [32, 9, 13] = chop s := by
  unfold Lib.trimRightS chop
  have : (fun x => [32, 9, 13].contains x) = blank := by
    funext x
    simp only [List.contains_cons, List.contains_nil, blank, Bool.or_false, Bool.or_assoc]
  rw [this]
theorem chop_take {s : Bs} {n : Nat} (h : n < s.length) (h2 : blank s[n] = true) : chop (s.take (n + 1)) = chop (s.take n) := by
  rw [chop, List.take_succ_eq_append_getElem h, List.reverse_append]; simp [h2, chop]
theorem chop_stop {s : Bs} {n : Nat} (h : n < s.length) (h2 : blank s[n] = false) : chop (s.take (n + 1)) = s.take (n + 1) := by
  rw [chop]
  have e : (s.take (n + 1)).reverse = s[n] :: (s.take n).reverse := by rw [List.take_succ_eq_append_getElem h, List.reverse_append]; simp
  rw [e, List.dropWhile_cons, h2, if_neg (by simp), ← e, List.reverse_reverse]
theorem chop_nil : chop [] = [] := rfl
theorem unfeed_cut {s : Bs} (h : 0 < s.length) : unfeed s = if s[s.length - 1] = 10 then s.take (s.length - 1) else s := by
  rw [unfeed, List.getLast?_eq_getElem?, getX (by omega : s.length - 1 < s.length), List.dropLast_eq_take]
  simp only [Option.some.injEq]
theorem chop_len (s : Bs) : (chop s).length ≤ s.length := by
  rw [chop, List.length_reverse]
  have := (List.dropWhile_sublist blank (l := s.reverse)).length_le
  simpa using this
theorem unfeed_len (s : Bs) : (unfeed s).length ≤ s.length := by rw [unfeed]; split <;> simp
theorem bare_len (s : Bs) : (bare s).length ≤ s.length := Nat.le_trans (chop_len _) (unfeed_len _)
end Go.Ln

/- Glob: patterns as lists of signs, and how they match. -/
namespace Go.Gb
open Go.Ln (Bs getX)
set_option linter.unusedVariables false
set_option linter.unusedSimpArgs false

abbrev Rg := UInt8 × UInt8
/-- the next byte of an item -/
def item : Bs → Option (UInt8 × Bs)
  | [] => none
  | b :: l => if b = 92 then (match l with | [] => none | c :: r => some (c, r)) else some (b, l)
theorem item_len {l r : Bs} {c : UInt8} (h : item l = some (c, r)) : r.length < l.length := by
  cases l with
  | nil => cases h
  | cons b l =>
    simp only [item] at h
    split at h
    · cases l with
      | nil => cases h
      | cons d l => simp only [Option.some.injEq, Prod.mk.injEq] at h; obtain ⟨_, rfl⟩ := h; simp; omega
    · simp only [Option.some.injEq, Prod.mk.injEq] at h; obtain ⟨_, rfl⟩ := h; simp
/-- does a range go on behind an item; and where -/
def ranged : Bs → Option Bs
  | 45 :: x :: r => if x = 93 then none else some (x :: r)
  | _ => none
theorem ranged_len {l r : Bs} (h : ranged l = some r) : r.length < l.length := by
  unfold ranged at h
  split at h
  · split at h
    · cases h
    · injection h with h; subst h; simp
  · cases h
/-- the items of a class, up to behind its end -/
def items (first : Bool) (l : Bs) : Option (List Rg × Bs) :=
  match l with
  | [] => none
  | b :: r => if b = 93 ∧ first = false then some ([], r) else
    match h : item (b :: r) with
    | none => none
    | some (lo, r1) =>
      match h2 : ranged r1 with
      | none => (items false r1).map fun x => ((lo, lo) :: x.1, x.2)
      | some r2 => match h3 : item r2 with
        | none => none
        | some (hi, r3) => (items false r3).map fun x => ((lo, hi) :: x.1, x.2)
  termination_by l.length
  decreasing_by
    · exact item_len h
    · exact Nat.lt_trans (item_len h3) (Nat.lt_trans (ranged_len h2) (item_len h))
theorem items_nil (f : Bool) : items f [] = none := by rw [items]
theorem items_end (r : Bs) : items false (93 :: r) = some ([], r) := by rw [items]; simp
theorem items_bad {f : Bool} {b : UInt8} {r : Bs} (h0 : ¬ (b = 93 ∧ f = false)) (h : item (b :: r) = none) : items f (b :: r) = none := by
  rw [items, if_neg h0]
  split
  · rfl
  · rename_i h1; rw [h] at h1; cases h1
theorem items_one {f : Bool} {b lo : UInt8} {r r1 : Bs} (h0 : ¬ (b = 93 ∧ f = false)) (h : item (b :: r) = some (lo, r1)) (h2 : ranged r1 = none) :
    items f (b :: r) = (items false r1).map fun x => ((lo, lo) :: x.1, x.2) := by
  rw [items, if_neg h0]
  split
  · rename_i h1; rw [h] at h1; cases h1
  · rename_i lo' r1' h1
    rw [h] at h1; injection h1 with h1; injection h1 with h1 h1'; subst h1; subst h1'
    split
    · rfl
    · rename_i h3; rw [h2] at h3; cases h3
theorem items_rng {f : Bool} {b lo hi : UInt8} {r r1 r2 r3 : Bs} (h0 : ¬ (b = 93 ∧ f = false)) (h : item (b :: r) = some (lo, r1)) (h2 : ranged r1 = some r2) (h3 : item r2 = some (hi, r3)) :
    items f (b :: r) = (items false r3).map fun x => ((lo, hi) :: x.1, x.2) := by
  rw [items, if_neg h0]
  split
  · rename_i h1; rw [h] at h1; cases h1
  · rename_i lo' r1' h1
    rw [h] at h1; injection h1 with h1; injection h1 with h1 h1'; subst h1; subst h1'
    split
    · rename_i h4; rw [h2] at h4; cases h4
    · rename_i r2' h4
      rw [h2] at h4; injection h4 with h4; subst h4
      split
      · rename_i h5; rw [h3] at h5; cases h5
      · rename_i hi' r3' h5
        rw [h3] at h5; injection h5 with h5; injection h5 with h5 h5'; subst h5; subst h5'; rfl
theorem items_rbad {f : Bool} {b lo : UInt8} {r r1 r2 : Bs} (h0 : ¬ (b = 93 ∧ f = false)) (h : item (b :: r) = some (lo, r1)) (h2 : ranged r1 = some r2) (h3 : item r2 = none) :
    items f (b :: r) = none := by
  rw [items, if_neg h0]
  split
  · rfl
  · rename_i lo' r1' h1
    rw [h] at h1; injection h1 with h1; injection h1 with h1 h1'; subst h1; subst h1'
    split
    · rename_i h4; rw [h2] at h4; cases h4
    · rename_i r2' h4
      rw [h2] at h4; injection h4 with h4; subst h4
      split
      · rfl
      · rename_i h5; rw [h3] at h5; cases h5
theorem items_len (n : Nat) : ∀ {f : Bool} {l r : Bs} {is : List Rg}, l.length ≤ n → items f l = some (is, r) → r.length < l.length := by
  induction n with
  | zero =>
    intro f l r is hl h
    have : l = [] := List.length_eq_zero_iff.1 (by omega)
    subst this; rw [items_nil] at h; cases h
  | succ n ih =>
    intro f l r is hl h
    cases l with
    | nil => rw [items_nil] at h; cases h
    | cons b l =>
      by_cases h0 : b = 93 ∧ f = false
      · obtain ⟨rfl, rfl⟩ := h0
        rw [items_end] at h; injection h with h; injection h with _ h; subst h; simp
      · cases h1 : item (b :: l) with
        | none => rw [items_bad h0 h1] at h; cases h
        | some q =>
          obtain ⟨lo, r1⟩ := q
          have l1 := item_len h1
          simp only [List.length_cons] at l1 hl ⊢
          cases h2 : ranged r1 with
          | none =>
            rw [items_one h0 h1 h2, Option.map_eq_some_iff] at h
            obtain ⟨x, hx, h⟩ := h
            injection h with _ h; subst h
            have := ih (by omega) hx; omega
          | some r2 =>
            have l2 := ranged_len h2
            cases h3 : item r2 with
            | none => rw [items_rbad h0 h1 h2 h3] at h; cases h
            | some q =>
              obtain ⟨hi, r3⟩ := q
              have l3 := item_len h3
              rw [items_rng h0 h1 h2 h3, Option.map_eq_some_iff] at h
              obtain ⟨x, hx, h⟩ := h
              injection h with _ h; subst h
              have := ih (by omega) hx; omega

def negated (l : Bs) : Bool := match l with | b :: _ => b == 33 || b == 94 | [] => false
def behindNot (l : Bs) : Bs := if negated l then l.tail else l
def clsL (l : Bs) : Option (Bool × List Rg × Bs) := (items true (behindNot l)).map fun x => (negated l, x.1, x.2)
theorem behindNot_len (l : Bs) : (behindNot l).length ≤ l.length := by unfold behindNot; split <;> simp
theorem clsL_len {l r : Bs} {n : Bool} {is : List Rg} (h : clsL l = some (n, is, r)) : r.length < l.length := by
  simp only [clsL, Option.map_eq_some_iff] at h
  obtain ⟨x, hx, h⟩ := h
  injection h with _ h; injection h with _ h; subst h
  have := items_len _ (Nat.le_refl _) hx
  have := behindNot_len l
  omega
def hit (is : List Rg) (c : UInt8) : Bool := is.any fun x => decide (x.1 ≤ c) && decide (c ≤ x.2)

inductive Tok
  | star
  | any
  | lit (c : UInt8)
  | cls (neg : Bool) (is : List Rg)
deriving DecidableEq
def fits : Tok → UInt8 → Bool
  | .star, c => c == 42
  | .any, _ => true
  | .lit d, c => d == c
  | .cls n is, c => hit is c != n
def tok : Bs → Option (Tok × Bs)
  | [] => none
  | b :: r => if b = 92 then (match r with | [] => none | c :: r' => some (.lit c, r'))
    else if b = 91 then (clsL r).map fun x => (.cls x.1 x.2.1, x.2.2)
    else some (if b = 42 then .star else if b = 63 then .any else .lit b, r)
theorem tok_len {l r : Bs} {t : Tok} (h : tok l = some (t, r)) : r.length < l.length := by
  cases l with
  | nil => cases h
  | cons b l =>
    simp only [tok] at h
    split at h
    · cases l with
      | nil => cases h
      | cons d l => simp only [Option.some.injEq, Prod.mk.injEq] at h; obtain ⟨_, rfl⟩ := h; simp; omega
    · split at h
      · simp only [Option.map_eq_some_iff] at h
        obtain ⟨⟨n, is, r'⟩, hx, h⟩ := h
        injection h with _ h; subst h
        have := clsL_len hx; simp only [List.length_cons]; omega
      · simp only [Option.some.injEq, Prod.mk.injEq] at h; obtain ⟨_, rfl⟩ := h; simp
def toks (l : Bs) : Option (List Tok) :=
  if l = [] then some [] else match h : tok l with
  | none => none
  | some (t, r) => (toks r).map (t :: ·)
  termination_by l.length
  decreasing_by exact tok_len h
theorem toks_nil : toks [] = some [] := by rw [toks]; rfl
theorem toks_none {l : Bs} (hl : l ≠ []) (h : tok l = none) : toks l = none := by
  rw [toks, if_neg hl]
  split
  · rfl
  · rename_i h1; rw [h] at h1; cases h1
theorem toks_some {l r : Bs} {t : Tok} (h : tok l = some (t, r)) : toks l = (toks r).map (t :: ·) := by
  have hl : l ≠ [] := by rintro rfl; cases h
  rw [toks, if_neg hl]
  split
  · rename_i h1; rw [h] at h1; cases h1
  · rename_i t' r' h1; rw [h] at h1; injection h1 with h1; injection h1 with h1 h2; subst h1; subst h2; rfl
/-- a pattern of a part that may be -/
def good (p : Bs) : Bool := decide (p ≠ []) && (toks p).isSome

/-- the whole of a text -/
def whole : List Tok → Bs → Bool
  | [], s => s == []
  | .star :: l, [] => whole l []
  | .star :: l, c :: s => whole l (c :: s) || whole (.star :: l) s
  | _ :: _, [] => false
  | t :: l, c :: s => fits t c && whole l s
  termination_by l s => l.length + s.length
theorem whole_star (l : List Tok) (s : Bs) : whole (.star :: l) s = (whole l s || match s with | [] => false | _ :: s' => whole (.star :: l) s') := by
  cases s with
  | nil => rw [whole]; simp
  | cons c s => rw [whole]
theorem whole_tok {t : Tok} (ht : t ≠ .star) (l : List Tok) (s : Bs) : whole (t :: l) s = match s with | [] => false | c :: s' => fits t c && whole l s' := by
  cases t with
  | star => exact absurd rfl ht
  | _ => cases s <;> rw [whole] <;> intro h <;> cases h
theorem whole_star_iff (l : List Tok) (s : Bs) : whole (.star :: l) s = true ↔ ∃ j, j ≤ s.length ∧ whole l (s.drop j) = true := by
  induction s with
  | nil => rw [whole_star]; simp
  | cons c s ih =>
    rw [whole_star, Bool.or_eq_true, ih]
    constructor
    · rintro (h | ⟨j, h1, h2⟩)
      · exact ⟨0, by simp, h⟩
      · exact ⟨j + 1, by simp; omega, h2⟩
    · rintro ⟨j, h1, h2⟩
      cases j with
      | zero => exact .inl h2
      | succ j => exact .inr ⟨j, by simp at h1; omega, h2⟩
theorem whole_pre {M : List Tok} (hM : ∀ t, t ∈ M → t ≠ .star) (l : List Tok) : ∀ s : Bs, whole (M ++ l) s = true → M.length ≤ s.length ∧ whole l (s.drop M.length) = true := by
  induction M with
  | nil => intro s h; exact ⟨by simp, h⟩
  | cons t M ih =>
    intro s h
    rw [List.cons_append, whole_tok (hM t (List.mem_cons_self ..))] at h
    cases s with
    | nil => cases h
    | cons c s =>
      simp only [Bool.and_eq_true] at h
      have := ih (fun t ht => hM t (List.mem_cons_of_mem _ ht)) s h.2
      exact ⟨by simp; omega, this.2⟩
end Go.Gb

/- Glob: the reference's way of reading. -/
namespace Go.Gb
open Go.Ln (Bs getX)
set_option linter.unusedVariables false
set_option linter.unusedSimpArgs false

/-- behind the end of a class, byte by byte -/
def scan (f : Bool) (l : Bs) : Option Bs := match l with
  | [] => none
  | b :: r => if b = 93 ∧ f = false then some r else if b = 92 then scan false r.tail else scan false r
  termination_by l.length
  decreasing_by all_goals (simp only [List.length_cons, List.length_tail]; omega)
theorem scan_nil (f : Bool) : scan f [] = none := by rw [scan]
theorem scan_cons (f : Bool) (b : UInt8) (r : Bs) : scan f (b :: r) = if b = 93 ∧ f = false then some r else if b = 92 then scan false r.tail else scan false r := by rw [scan]
theorem item_scan {f : Bool} {b c : UInt8} {r r1 : Bs} (h0 : ¬ (b = 93 ∧ f = false)) (h : item (b :: r) = some (c, r1)) : scan f (b :: r) = scan false r1 := by
  rw [scan_cons, if_neg h0]
  simp only [item] at h
  split at h
  · rename_i hb
    rw [if_pos hb]
    cases r with
    | nil => cases h
    | cons d r => simp only [Option.some.injEq, Prod.mk.injEq] at h; obtain ⟨_, rfl⟩ := h; rfl
  · rename_i hb
    rw [if_neg hb]
    simp only [Option.some.injEq, Prod.mk.injEq] at h; obtain ⟨_, rfl⟩ := h; rfl
theorem item_scan_none {f : Bool} {b : UInt8} {r : Bs} (h0 : ¬ (b = 93 ∧ f = false)) (h : item (b :: r) = none) : scan f (b :: r) = none := by
  rw [scan_cons, if_neg h0]
  simp only [item] at h
  split at h
  · rename_i hb
    rw [if_pos hb]
    cases r with
    | nil => rw [List.tail_nil, scan_nil]
    | cons d r => cases h
  · cases h
theorem ranged_some {l r : Bs} (h : ranged l = some r) : ∃ x t, l = 45 :: x :: t ∧ r = x :: t ∧ x ≠ 93 := by
  unfold ranged at h
  split at h
  · rename_i x t
    split at h
    · cases h
    · rename_i hx; injection h with h; exact ⟨x, t, rfl, h.symm, hx⟩
  · cases h
theorem items_scan (n : Nat) : ∀ (f : Bool) (l : Bs), l.length ≤ n → (items f l).map (·.2) = scan f l := by
  induction n with
  | zero =>
    intro f l hl
    have : l = [] := List.length_eq_zero_iff.1 (by omega)
    subst this; rw [items_nil, scan_nil]; rfl
  | succ n ih =>
    intro f l hl
    cases l with
    | nil => rw [items_nil, scan_nil]; rfl
    | cons b l =>
      by_cases h0 : b = 93 ∧ f = false
      · obtain ⟨rfl, rfl⟩ := h0
        rw [items_end, scan_cons, if_pos ⟨rfl, rfl⟩]; rfl
      · cases h1 : item (b :: l) with
        | none => rw [items_bad h0 h1, item_scan_none h0 h1]; rfl
        | some q =>
          obtain ⟨lo, r1⟩ := q
          have l1 := item_len h1
          simp only [List.length_cons] at l1 hl
          rw [item_scan h0 h1]
          cases h2 : ranged r1 with
          | none => rw [items_one h0 h1 h2, ← ih false r1 (by omega), Option.map_map]; rfl
          | some r2 =>
            have l2 := ranged_len h2
            obtain ⟨x, t, e1, e2, hx⟩ := ranged_some h2
            have e3 : scan false r1 = scan false r2 := by rw [e1, e2, scan_cons, if_neg (by simp), if_neg (by decide)]
            rw [e3]
            subst e2
            cases h3 : item (x :: t) with
            | none => rw [items_rbad h0 h1 h2 h3, item_scan_none (fun e => hx e.1) h3]; rfl
            | some q =>
              obtain ⟨hi, r3⟩ := q
              have l3 := item_len h3
              rw [items_rng h0 h1 h2 h3, item_scan (fun e => hx e.1) h3, ← ih false r3 (by omega), Option.map_map]; rfl
theorem items_end_eq (f : Bool) (l : Bs) : (items f l).map (·.2) = scan f l := items_scan _ f l (Nat.le_refl _)

/-- the items of the inside of a class -/
def dash : Bs → Option Bs
  | 45 :: x :: r => some (x :: r)
  | _ => none
theorem dash_some {l r : Bs} (h : dash l = some r) : ∃ x t, l = 45 :: x :: t ∧ r = x :: t := by
  unfold dash at h
  split at h
  · rename_i x t; injection h with h; exact ⟨x, t, rfl, h.symm⟩
  · cases h
theorem dash_len {l r : Bs} (h : dash l = some r) : r.length < l.length := by
  unfold dash at h
  split at h
  · injection h with h; subst h; simp
  · cases h
def rd (l : Bs) : Option (List Rg) :=
  if l = [] then some [] else
  match h : item l with
  | none => none
  | some (lo, r1) =>
    match h2 : dash r1 with
    | none => (rd r1).map ((lo, lo) :: ·)
    | some r2 => match h3 : item r2 with
      | none => none
      | some (hi, r3) => (rd r3).map ((lo, hi) :: ·)
  termination_by l.length
  decreasing_by
    · exact item_len h
    · exact Nat.lt_trans (item_len h3) (Nat.lt_trans (dash_len h2) (item_len h))
theorem rd_nil : rd [] = some [] := by rw [rd]; rfl
theorem rd_one {l r1 : Bs} {lo : UInt8} (h : item l = some (lo, r1)) (h2 : dash r1 = none) : rd l = (rd r1).map ((lo, lo) :: ·) := by
  have hl : l ≠ [] := by rintro rfl; cases h
  rw [rd, if_neg hl]
  split
  · rename_i h1; rw [h] at h1; cases h1
  · rename_i lo' r1' h1
    rw [h] at h1; injection h1 with h1; injection h1 with h1 h1'; subst h1; subst h1'
    split
    · rfl
    · rename_i h3; rw [h2] at h3; cases h3
theorem rd_rng {l r1 r2 r3 : Bs} {lo hi : UInt8} (h : item l = some (lo, r1)) (h2 : dash r1 = some r2) (h3 : item r2 = some (hi, r3)) : rd l = (rd r3).map ((lo, hi) :: ·) := by
  have hl : l ≠ [] := by rintro rfl; cases h
  rw [rd, if_neg hl]
  split
  · rename_i h1; rw [h] at h1; cases h1
  · rename_i lo' r1' h1
    rw [h] at h1; injection h1 with h1; injection h1 with h1 h1'; subst h1; subst h1'
    split
    · rename_i h4; rw [h2] at h4; cases h4
    · rename_i r2' h4
      rw [h2] at h4; injection h4 with h4; subst h4
      split
      · rename_i h5; rw [h3] at h5; cases h5
      · rename_i hi' r3' h5
        rw [h3] at h5; injection h5 with h5; injection h5 with h5 h5'; subst h5; subst h5'; rfl
/-- the bytes of an item -/
theorem item_seg {l r : Bs} {c : UInt8} (h : item l = some (c, r)) : ∃ b t, l = b :: t ++ r ∧ ∀ r', item (b :: t ++ r') = some (c, r') := by
  cases l with
  | nil => cases h
  | cons b l =>
    simp only [item] at h
    split at h
    · rename_i hb
      cases l with
      | nil => cases h
      | cons d l =>
        simp only [Option.some.injEq, Prod.mk.injEq] at h; obtain ⟨rfl, rfl⟩ := h
        exact ⟨b, [d], rfl, fun r' => by simp [item, hb]⟩
    · rename_i hb
      simp only [Option.some.injEq, Prod.mk.injEq] at h; obtain ⟨rfl, rfl⟩ := h
      exact ⟨b, [], rfl, fun r' => by simp [item, hb]⟩
theorem items_seg (n : Nat) : ∀ (f : Bool) (L R : Bs) (is : List Rg), L.length ≤ n → items f L = some (is, R) →
    ∃ l, L = l ++ 93 :: R ∧ rd l = some is ∧ (f = true → l ≠ []) ∧ ∀ R', items f (l ++ 93 :: R') = some (is, R') := by
  induction n with
  | zero =>
    intro f L R is hl h
    have : L = [] := List.length_eq_zero_iff.1 (by omega)
    subst this; rw [items_nil] at h; cases h
  | succ n ih =>
    intro f L R is hl h
    cases L with
    | nil => rw [items_nil] at h; cases h
    | cons b r =>
      by_cases h0 : b = 93 ∧ f = false
      · obtain ⟨rfl, rfl⟩ := h0
        rw [items_end] at h; injection h with h; injection h with h h'; subst h; subst h'
        exact ⟨[], rfl, rd_nil, by simp, fun R' => items_end R'⟩
      · cases h1 : item (b :: r) with
        | none => rw [items_bad h0 h1] at h; cases h
        | some q =>
          obtain ⟨lo, r1⟩ := q
          have l1 := item_len h1
          simp only [List.length_cons] at l1 hl
          obtain ⟨b', t, e1, hs⟩ := item_seg h1
          have eb : b' = b := by have := congrArg List.head? e1; simp at this; exact this.symm
          subst eb
          cases h2 : ranged r1 with
          | none =>
            rw [items_one h0 h1 h2, Option.map_eq_some_iff] at h
            obtain ⟨⟨is', R0⟩, hx, h⟩ := h
            injection h with h h'; subst h; subst h'
            obtain ⟨l1', e2, hrd, _, hany⟩ := ih false r1 R0 is' (by omega) hx
            have hd : ∀ x u, l1' = 45 :: x :: u → x = 93 := by
              intro x u e
              rw [e2, e] at h2
              simp only [List.cons_append, ranged] at h2
              split at h2
              · assumption
              · cases h2
            have hnr : ∀ R', ranged (l1' ++ 93 :: R') = none := by
              intro R'
              match l1', hd with
              | [], _ => rfl
              | [y], _ =>
                simp only [List.cons_append, List.nil_append]
                unfold ranged
                split
                · rename_i x r' e; injection e with _ e; injection e with e _; subst e; rfl
                · rfl
              | y :: x :: u, hd =>
                simp only [List.cons_append]
                unfold ranged
                split
                · rename_i x' r' e
                  injection e with e e'; injection e' with e' _
                  subst e; subst e'
                  rw [if_pos (hd x u rfl)]
                · rfl
            refine ⟨b' :: t ++ l1', by rw [e1, e2, List.append_assoc], ?_, by simp, fun R' => ?_⟩
            · have hdn : dash l1' = none := by
                  cases hdd : dash l1' with
                | none => rfl
                | some rr =>
                  exfalso
                  obtain ⟨x, u, e, _⟩ := dash_some hdd
                  have hx93 := hd x u e
                  subst hx93
                  have hbad := hx
                  rw [e2, e] at hbad
                  simp only [List.cons_append] at hbad
                  rw [items_one (lo := 45) (r1 := 93 :: (u ++ 93 :: R0)) (by simp) (by simp [item]) (by rfl), items_end] at hbad
                  simp only [Option.map_some, Option.some.injEq, Prod.mk.injEq] at hbad
                  have := congrArg List.length hbad.2
                  simp at this
                  omega
              rw [rd_one (hs l1') hdn, hrd]; rfl
            · have := items_one (f := f) (b := b') (r := t ++ (l1' ++ 93 :: R')) h0 (by have := hs (l1' ++ 93 :: R'); simpa using this) (hnr R')
              rw [hany R'] at this
              simpa using this
          | some r2 =>
            have l2 := ranged_len h2
            obtain ⟨x, u, q1, q2, hx93⟩ := ranged_some h2
            cases h3 : item r2 with
            | none => rw [items_rbad h0 h1 h2 h3] at h; cases h
            | some q =>
              obtain ⟨hi, r3⟩ := q
              have l3 := item_len h3
              rw [items_rng h0 h1 h2 h3, Option.map_eq_some_iff] at h
              obtain ⟨⟨is', R0⟩, hx, h⟩ := h
              injection h with h h'; subst h; subst h'
              obtain ⟨l3', e2, hrd, _, hany⟩ := ih false r3 R0 is' (by omega) hx
              obtain ⟨x', t', e3, hs3⟩ := item_seg h3
              have ex : x' = x := by rw [q2] at e3; have := congrArg List.head? e3; simp at this; exact this.symm
              subst ex
              refine ⟨b' :: t ++ (45 :: (x' :: t' ++ l3')), ?_, ?_, by simp, fun R' => ?_⟩
              · rw [e1, q1, ← q2, e3, e2]; simp
              · rw [rd_rng (hs _) (by rfl : dash (45 :: (x' :: t' ++ l3')) = some (x' :: t' ++ l3')) (hs3 l3'), hrd]; rfl
              · have := items_rng (f := f) (b := b') (r := t ++ (45 :: (x' :: t' ++ (l3' ++ 93 :: R')))) h0 (by have := hs (45 :: (x' :: t' ++ (l3' ++ 93 :: R'))); simpa using this)
                  (by simp [ranged, hx93] : ranged (45 :: (x' :: t' ++ (l3' ++ 93 :: R'))) = some (x' :: t' ++ (l3' ++ 93 :: R'))) (hs3 _)
                rw [hany R'] at this
                simpa using this
/-- the bytes of a sign -/
theorem tok_seg {L R : Bs} {t : Tok} (h : tok L = some (t, R)) : ∃ b u, L = b :: u ++ R ∧ ∀ R', tok (b :: u ++ R') = some (t, R') := by
  cases L with
  | nil => cases h
  | cons b l =>
    have h' := h
    simp only [tok] at h
    split at h
    · rename_i hb
      cases l with
      | nil => cases h
      | cons d l => simp only [Option.some.injEq, Prod.mk.injEq] at h; obtain ⟨rfl, rfl⟩ := h; exact ⟨b, [d], rfl, fun r' => by simp [tok, hb]⟩
    · rename_i hb
      split at h
      · rename_i hb2
        simp only [Option.map_eq_some_iff] at h
        obtain ⟨⟨n, is, r'⟩, hx, h⟩ := h
        injection h with h h2; subst h; subst h2
        simp only [clsL, Option.map_eq_some_iff] at hx
        obtain ⟨⟨is', r2⟩, hx, h⟩ := hx
        injection h with h h2; injection h2 with h2 h3; subst h; subst h2; subst h3
        obtain ⟨l', e, hrd, hne, hany⟩ := items_seg _ _ _ _ _ (Nat.le_refl _) hx
        have hne := hne rfl
        cases hn : negated l with
        | false =>
          have eb : behindNot l = l := by simp [behindNot, hn]
          rw [eb] at e
          refine ⟨b, l' ++ [93], by rw [e]; simp, fun R' => ?_⟩
          have e2 : negated (l' ++ 93 :: R') = false := by
            cases l' with
            | nil => exact absurd rfl hne
            | cons y l' => rw [e] at hn; simpa [negated] using hn
          have := hany R'
          simp only [List.cons_append, List.append_assoc, List.nil_append, tok, hb, hb2, if_true, if_false, clsL, e2, behindNot, Bool.false_eq_true, this]
          rfl
        | true =>
          cases l with
          | nil => simp [negated] at hn
          | cons y l =>
            have eb : behindNot (y :: l) = l := by simp [behindNot, hn]
            rw [eb] at e
            refine ⟨b, y :: l' ++ [93], by rw [e]; simp, fun R' => ?_⟩
            have e2 : negated (y :: (l' ++ 93 :: R')) = true := by simpa [negated] using hn
            have := hany R'
            simp only [List.cons_append, List.append_assoc, List.nil_append, tok, hb, hb2, if_true, if_false, clsL, e2, behindNot, List.tail_cons, this]
            rfl
      · rename_i hb2
        simp only [Option.some.injEq, Prod.mk.injEq] at h
        obtain ⟨rfl, rfl⟩ := h
        exact ⟨b, [], rfl, fun r' => by simp [tok, hb, hb2]⟩
end Go.Gb

/- Glob: signs as bytes; the way of a star. -/
namespace Go.Gb
open Go.Ln (Bs getX)
set_option linter.unusedVariables false
set_option linter.unusedSimpArgs false

def segs (l : Bs) : Option (List Bs) :=
  if l = [] then some [] else match h : tok l with
  | none => none
  | some (t, r) => (segs r).map (l.take (l.length - r.length) :: ·)
  termination_by l.length
  decreasing_by exact tok_len h
theorem segs_nil : segs [] = some [] := by rw [segs]; rfl
theorem segs_none {l : Bs} (hl : l ≠ []) (h : tok l = none) : segs l = none := by
  rw [segs, if_neg hl]
  split
  · rfl
  · rename_i h1; rw [h] at h1; cases h1
theorem segs_some {l r : Bs} {t : Tok} (h : tok l = some (t, r)) : segs l = (segs r).map (l.take (l.length - r.length) :: ·) := by
  have hl : l ≠ [] := by rintro rfl; cases h
  rw [segs, if_neg hl]
  split
  · rename_i h1; rw [h] at h1; cases h1
  · rename_i t' r' h1; rw [h] at h1; injection h1 with h1; injection h1 with h1 h2; subst h1; subst h2; rfl
def tokOf (s : Bs) : Tok := match tok s with | some (t, _) => t | none => .any
theorem segs_toks (n : Nat) : ∀ l : Bs, l.length ≤ n → toks l = (segs l).map (·.map tokOf) ∧ ∀ x, segs l = some x → ∀ s, s ∈ x → ∃ t, tok s = some (t, []) := by
  induction n with
  | zero =>
    intro l hl
    have : l = [] := List.length_eq_zero_iff.1 (by omega)
    subst this
    rw [toks_nil, segs_nil]; exact ⟨rfl, fun x hx s hs => by injection hx with hx; subst hx; cases hs⟩
  | succ n ih =>
    intro l hl
    by_cases h0 : l = []
    · subst h0
      rw [toks_nil, segs_nil]; exact ⟨rfl, fun x hx s hs => by injection hx with hx; subst hx; cases hs⟩
    · cases h : tok l with
      | none => rw [toks_none h0 h, segs_none h0 h]; exact ⟨rfl, fun x hx => by cases hx⟩
      | some q =>
        obtain ⟨t, r⟩ := q
        have hlen := tok_len h
        obtain ⟨h1, h2⟩ := ih r (by omega)
        obtain ⟨b, u, e, hs⟩ := tok_seg h
        have hseg : l.take (l.length - r.length) = b :: u := by
          rw [e, List.length_append, Nat.add_sub_cancel, List.take_left']; rfl
        have ht : tok (b :: u) = some (t, []) := by have := hs []; rwa [List.append_nil] at this
        rw [toks_some h, segs_some h, h1, hseg]
        refine ⟨?_, fun x hx s hs => ?_⟩
        · cases segs r with
          | none => rfl
          | some x => simp [tokOf, ht]
        · rw [Option.map_eq_some_iff] at hx
          obtain ⟨y, hy, rfl⟩ := hx
          rcases List.mem_cons.1 hs with rfl | hs
          · exact ⟨t, ht⟩
          · exact h2 y hy s hs
theorem star_iff {s : Bs} {t : Tok} (h : tok s = some (t, [])) : s = [42] ↔ t = .star := by
  constructor
  · rintro rfl; simp [tok] at h; exact h.symm
  · rintro rfl
    cases s with
    | nil => cases h
    | cons b r =>
      simp only [tok] at h
      split at h
      · cases r <;> simp at h
      · split at h
        · simp only [Option.map_eq_some_iff] at h; obtain ⟨x, _, h⟩ := h; injection h with h _; cases h
        · simp only [Option.some.injEq, Prod.mk.injEq] at h
          obtain ⟨h1, rfl⟩ := h
          split at h1
          · rename_i hb; rw [hb]
          · split at h1 <;> cases h1

/-! ### the way of a star -/
def alt (Ls : List Tok) (s : Bs) (frm : Nat) : Bool := decide (frm < s.length) && whole (.star :: Ls) (s.drop (frm + 1))
theorem whole_star_alt (Ls : List Tok) (s : Bs) (k : Nat) : whole (.star :: Ls) (s.drop k) = (whole Ls (s.drop k) || alt Ls s k) := by
  rw [whole_star, alt]
  by_cases h : k < s.length
  · rw [List.drop_eq_getElem_cons h, decide_eq_true h, Bool.true_and]
  · rw [List.drop_of_length_le (by omega), decide_eq_false h, Bool.false_and]
theorem alt_last (Ls : List Tok) (s : Bs) : alt Ls s s.length = false := by simp [alt]
theorem alt_absorb {M L : List Tok} (hM : ∀ t, t ∈ M → t ≠ .star) {s : Bs} {frm k : Nat} (hk : k = frm + M.length) (h : alt (M ++ .star :: L) s frm = true) : whole (.star :: L) (s.drop k) = true := by
  simp only [alt, Bool.and_eq_true, decide_eq_true_eq] at h
  obtain ⟨hlt, h⟩ := h
  rw [whole_star_iff] at h
  obtain ⟨j, hj, h⟩ := h
  rw [List.drop_drop] at h
  obtain ⟨h1, h2⟩ := whole_pre hM _ _ h
  rw [List.drop_drop, whole_star_iff] at h2
  obtain ⟨i, hi, h2⟩ := h2
  rw [List.length_drop] at hj h1 hi
  rw [whole_star_iff]
  refine ⟨1 + j + i, by rw [List.length_drop]; omega, ?_⟩
  rw [List.drop_drop] at h2 ⊢
  rw [← h2]; congr 1; congr 1; omega
/-- where the walk stands: the signs ahead (L), the place in the text (k), the star's signs and where it goes on; R: what comes out -/
inductive Stand (s : Bs) (R : Bool) (L : List Tok) (k : Nat) : Option (List Tok × Nat) → Prop
  | plain (hk : k ≤ s.length) (h : R = whole L (s.drop k)) : Stand s R L k none
  | star (M : List Tok) (frm : Nat) (hk : k ≤ s.length) (hM : ∀ t, t ∈ M → t ≠ .star) (he : k = frm + M.length) (h : R = (whole L (s.drop k) || alt (M ++ L) s frm)) : Stand s R L k (some (M ++ L, frm))
theorem Stand.le {s : Bs} {R : Bool} {L : List Tok} {k : Nat} {st : Option (List Tok × Nat)} (h : Stand s R L k st) : k ≤ s.length := by cases h <;> assumption
theorem Stand.onStar {s : Bs} {R : Bool} {L : List Tok} {k : Nat} {st : Option (List Tok × Nat)} (h : Stand s R (.star :: L) k st) : Stand s R L k (some (L, k)) := by
  cases h with
  | plain hk h => exact .star [] k hk (by simp) (by simp) (by rw [h, whole_star_alt]; rfl)
  | star M frm hk hM he h =>
    refine .star [] k hk (by simp) (by simp) ?_
    rw [List.nil_append, ← whole_star_alt, h]
    cases ha : alt (M ++ .star :: L) s frm with
    | false => simp
    | true => rw [alt_absorb hM he ha]; rfl
theorem Stand.onFit {s : Bs} {R : Bool} {t : Tok} {L : List Tok} {k : Nat} {st : Option (List Tok × Nat)} (h : Stand s R (t :: L) k st) (ht : t ≠ .star) (hk : k < s.length) (hf : fits t s[k] = true) : Stand s R L (k + 1) st := by
  have e : whole (t :: L) (s.drop k) = whole L (s.drop (k + 1)) := by rw [whole_tok ht, List.drop_eq_getElem_cons hk]; simp [hf]
  cases h with
  | plain _ h => exact .plain hk (by rw [h, e])
  | star M frm _ hM he h =>
    have := Stand.star (s := s) (R := R) (L := L) (k := k + 1) (M ++ [t]) frm hk (by intro x hx; rcases List.mem_append.1 hx with hx | hx; exact hM x hx; simp at hx; subst hx; exact ht) (by simp; omega) (by rw [h, e]; simp)
    simpa using this
theorem Stand.stop {s : Bs} {R : Bool} {L : List Tok} {k : Nat} (h : Stand s R L k none) (hw : whole L (s.drop k) = false) : R = false := by
  cases h with | plain _ h => rw [h, hw]
theorem Stand.last {s : Bs} {R : Bool} {L Ls : List Tok} {k frm : Nat} (h : Stand s R L k (some (Ls, frm))) (hw : whole L (s.drop k) = false) (hf : s.length ≤ frm) : R = false := by
  cases h with
  | star M _ _ _ _ h => rw [h, hw, alt, decide_eq_false (by omega)]; rfl
theorem Stand.again {s : Bs} {R : Bool} {L Ls : List Tok} {k frm : Nat} (h : Stand s R L k (some (Ls, frm))) (hw : whole L (s.drop k) = false) (hf : frm < s.length) : Stand s R Ls (frm + 1) (some (Ls, frm + 1)) := by
  cases h with
  | star M _ _ _ _ h =>
    refine .star [] (frm + 1) hf (by simp) (by simp) ?_
    rw [h, hw, Bool.false_or, alt, decide_eq_true hf, Bool.true_and, whole_star_alt]; rfl
theorem Stand.done {s : Bs} {R : Bool} {st : Option (List Tok × Nat)} (h : Stand s R [] s.length st) : R = true := by
  have e : whole [] (s.drop s.length) = true := by rw [List.drop_length, whole]; rfl
  cases h with
  | plain _ h => rw [h, e]
  | star M _ _ _ _ h => rw [h, e]; rfl
theorem whole_end {L : List Tok} {s : Bs} {k : Nat} (hL : L ≠ [] ∨ k < s.length) (h : match L with | [] => True | t :: _ => t ≠ .star ∧ (k < s.length → ∀ h2 : k < s.length, fits t s[k] = false)) : whole L (s.drop k) = false := by
  cases L with
  | nil =>
    have hk : k < s.length := hL.resolve_left (by simp)
    rw [List.drop_eq_getElem_cons hk, whole]; rfl
  | cons t L =>
    obtain ⟨h1, h2⟩ := h
    rw [whole_tok h1]
    by_cases hk : k < s.length
    · rw [List.drop_eq_getElem_cons hk]; simp [h2 hk hk]
    · rw [List.drop_of_length_le (by omega)]
end Go.Gb

/- Glob: a class, read by the program. -/
namespace Go.Gb
open Go Go.Ev Go.Proofs
open Go.Ln (u8b_t u8b_f u8n_t u8n_f getX)
set_option linter.unusedVariables false
set_option linter.unusedSimpArgs false

attribute [local go_sem] eqs implies_true List.map_cons List.map_nil kl klL roD roL Option.map_some Option.map_none Option.getD_some Option.getD_none binVal binObl unVal if_true if_false eq_self passA frnD resD content getH getR getW viaNot viaSlot viaBox viaDeep viaMem List.contains_cons List.contains_nil grabs peeks okCells isCell place cellsOf chunk elt List.headD_cons List.length_cons List.length_nil List.take_succ_cons List.take_zero List.drop_succ_cons List.drop_zero List.nil_append List.cons_append List.append_nil List.all_cons List.all_nil plainC takeR setW over reCell List.getElem?_cons_zero List.getElem?_cons_succ List.set_cons_zero List.take_length outV resG plainV pack outVG outBx List.set_cons_succ Ref.idx Ref.addOff beq_self_eq_true bxL Option.bind_some writeR isLit viaBoxes capsPA boxPA nsOf noDup boxesAt argG passG passD rhoIn rhoOut idxIn tr trL List.getD_cons_zero gives pasOf isPtr Ins.d List.getD_cons_succ resL frnL
def gl (m : Int) : Tabs := ⟨fun g => if g = 0 then some [.int .i64 m] else none, fun f => if f = 108 then some [.ptr, .ptr] else none⟩
def kn (m : Int) : Kn := ⟨Snd Tryd.prog (gl m), SndG Tryd.prog (gl m), fun f => ∃ fn, Tryd.prog.funcs[f]? = some fn ∧ fn.body.isSome = true ∧ fn.name ≠ "runtime.NumGoroutine"⟩
theorem kn_ok (m : Int) : Kn.Ok Tryd.prog (gl m) (kn m) := ⟨fun _ _ _ h => h, fun _ _ _ _ _ h => h, fun _ h => h⟩
theorem tab0 {m : Int} {w : World} {zf : Nat → Nat → Prop} (h : TabsAt (gl m) w zf) : w.cell? ⟨0, 0, none⟩ = some (.int .i64 m) := (h.cell 0 [.int .i64 m] rfl 0 _ rfl).1
theorem mixed : Tryd.prog.follows .mixedOrders = true := by kernel_rfl
theorem wrap32 (c : UInt8) : IntKind.i32.wrap (c.toNat : Int) = (c.toNat : Int) := by
  have := c.toNat_lt
  rw [IntKind.wrap_i32]; omega
abbrev R32 (n : Nat) : AV := .lit (.int .i32 (n : Int))
variable {m : Int}

def gone : AF := ⟨.seq (.reg (.seq [⟨(some (2, true)), none, .mov (.cst (.int .i32 0) (.lit (.int .i32 0))) .asg⟩,
      ⟨(some (3, true)), none, .mov (.cst (.bool false) (.lit (.bool false))) .asg⟩])) [0, 1] [10000, 10001]
  (.seq (.seq (.reg (.seq [⟨(some (4, false)), none, .load (.tmp 0 true) 1 false false⟩,
      ⟨(some (5, false)), none, .load (.tmp 1 true) 1 false false⟩,
      ⟨(some (6, false)), none, .len (.tmp 5 false)⟩,
      ⟨(some (7, false)), none, .bin .lss (.tmp 4 false) (.tmp 6 false)⟩,
      ⟨(some (8, false)), none, .mov (.tmp 7 false) .peek⟩,
      ⟨(some (9, false)), (some (8, true)), .load (.tmp 1 true) 1 false false⟩,
      ⟨(some (10, false)), (some (8, true)), .load (.tmp 0 true) 1 false false⟩,
      ⟨(some (11, false)), (some (8, true)), .idx (.tmp 9 false) (.tmp 10 false)⟩,
      ⟨(some (12, false)), (some (8, true)), .bin .eql (.tmp 11 false) (.cst (.int .u8 92) (.lit (.int .u8 92)))⟩,
      ⟨(some (13, false)), none, .pick (.tmp 8 false) (.tmp 12 false) (.cst (.bool false) (.lit (.bool false)))⟩])) [0, 1, 13] [10000, 10001]
  (.cond (.tmp 13 false)
    (.reg (.seq [⟨(some (14, false)), none, .load (.tmp 0 true) 1 false false⟩,
      ⟨(some (15, false)), none, .bin .add (.tmp 14 false) (.cst (.int .i64 1) (.lit (.int .i64 1)))⟩,
      ⟨none, none, .store (.tmp 0 true) (.tmp 15 false) 1⟩]))
    (.skip))) [0, 1] [10000, 10001]
  (.seq (.seq (.reg (.seq [⟨(some (16, false)), none, .load (.tmp 0 true) 1 false false⟩,
      ⟨(some (17, false)), none, .load (.tmp 1 true) 1 false false⟩,
      ⟨(some (18, false)), none, .len (.tmp 17 false)⟩,
      ⟨(some (19, false)), none, .bin .geq (.tmp 16 false) (.tmp 18 false)⟩])) [0, 1, 19] [10000, 10001]
  (.cond (.tmp 19 false)
    (.seq (.reg (.seq [⟨(some (2, true)), none, .mov (.cst (.int .i32 0) (.lit (.int .i32 0))) .asg⟩,
      ⟨(some (3, true)), none, .mov (.cst (.bool false) (.lit (.bool false))) .asg⟩])) [2, 3] [10000, 10001]
    (.ret))
    (.skip))) [0, 1] [10000, 10001]
  (.seq (.reg (.seq [⟨(some (20, false)), none, .load (.tmp 0 true) 1 false false⟩,
      ⟨(some (21, false)), none, .bin .add (.tmp 20 false) (.cst (.int .i64 1) (.lit (.int .i64 1)))⟩,
      ⟨none, none, .store (.tmp 0 true) (.tmp 21 false) 1⟩])) [0, 1] [10000, 10001]
  (.seq (.reg (.seq [⟨(some (22, false)), none, .load (.tmp 1 true) 1 false false⟩,
      ⟨(some (23, false)), none, .load (.tmp 0 true) 1 false false⟩,
      ⟨(some (24, false)), none, .bin .sub (.tmp 23 false) (.cst (.int .i64 1) (.lit (.int .i64 1)))⟩,
      ⟨(some (25, false)), none, .idx (.tmp 22 false) (.tmp 24 false)⟩,
      ⟨(some (26, false)), none, .cvt .i32 (.tmp 25 false)⟩,
      ⟨(some (2, true)), none, .mov (.tmp 26 false) .asg⟩,
      ⟨(some (3, true)), none, .mov (.cst (.bool true) (.lit (.bool true))) .asg⟩])) [2, 3] [10000, 10001]
  (.ret))))),
  [.tmp 2, .tmp 3]⟩
theorem gone_comp (m : Int) : compF Tryd.prog (gl m) [10000, 10001] Tryd.f108 = some gone := by kernel_rfl
def gclass_l0' : AC := .seq (.seq (.reg (.seq [⟨(some (33, false)), none, .load (.tmp 4 true) 1 false false⟩,
      ⟨(some (34, false)), none, .load (.tmp 3 true) 1 false false⟩,
      ⟨(some (35, false)), none, .len (.tmp 34 false)⟩,
      ⟨(some (36, false)), none, .bin .lss (.tmp 33 false) (.tmp 35 false)⟩,
      ⟨(some (37, false)), none, .mov (.tmp 36 false) .peek⟩,
      ⟨(some (38, false)), (some (37, true)), .mov (.tmp 10 true) .peek⟩,
      ⟨(some (39, false)), (some (37, true)), .mov (.tmp 38 false) .peek⟩,
      ⟨(some (40, false)), (some (39, false)), .load (.tmp 3 true) 1 false false⟩,
      ⟨(some (41, false)), (some (39, false)), .load (.tmp 4 true) 1 false false⟩,
      ⟨(some (42, false)), (some (39, false)), .idx (.tmp 40 false) (.tmp 41 false)⟩,
      ⟨(some (43, false)), (some (39, false)), .bin .neq (.tmp 42 false) (.cst (.int .u8 93) (.lit (.int .u8 93)))⟩,
      ⟨(some (44, false)), (some (37, true)), .pick (.tmp 39 false) (.cst (.bool true) (.lit (.bool true))) (.tmp 43 false)⟩,
      ⟨(some (45, false)), none, .pick (.tmp 37 false) (.tmp 44 false) (.cst (.bool false) (.lit (.bool false)))⟩])) [2, 3, 4, 6, 8, 9, 45] [3, 4]
  (.cond (.tmp 45 false)
    (.skip)
    (.exit 0))) [2, 3, 4, 6, 8, 9] [3, 4]
  (.seq (.block 1 (.seq (.reg (.seq [⟨(some (47, false)), none, .mov (.tmp 9 true) .peek⟩,
      ⟨(some (48, false)), none, .callV (.tmp 47 false) []⟩,
      ⟨(some (46, false)), none, .mov (.tmp 48 false) .peek⟩,
      ⟨(some (49, false)), none, .ext (.tmp 46 false) 0⟩,
      ⟨(some (50, false)), none, .ext (.tmp 46 false) 1⟩,
      ⟨(some (11, true)), none, .mov (.tmp 49 false) .asg⟩,
      ⟨(some (12, true)), none, .mov (.tmp 50 false) .asg⟩])) [2, 3, 4, 6, 8, 9, 11, 12] [3, 4]
    (.seq (.reg (.seq [⟨(some (51, false)), none, .mov (.tmp 11 true) .take⟩,
      ⟨(some (13, true)), none, .mov (.tmp 51 false) .asg⟩])) [2, 3, 4, 6, 8, 9, 11, 12, 13] [3, 4]
    (.seq (.seq (.reg (.seq [⟨(some (52, false)), none, .mov (.tmp 12 true) .peek⟩,
      ⟨(some (53, false)), none, .mov (.tmp 52 false) .peek⟩,
      ⟨(some (54, false)), (some (53, true)), .load (.tmp 4 true) 1 false false⟩,
      ⟨(some (55, false)), (some (53, true)), .bin .add (.tmp 54 false) (.cst (.int .i64 1) (.lit (.int .i64 1)))⟩,
      ⟨(some (56, false)), (some (53, true)), .load (.tmp 3 true) 1 false false⟩,
      ⟨(some (57, false)), (some (53, true)), .len (.tmp 56 false)⟩,
      ⟨(some (58, false)), (some (53, true)), .bin .lss (.tmp 55 false) (.tmp 57 false)⟩,
      ⟨(some (59, false)), none, .pick (.tmp 53 false) (.tmp 58 false) (.cst (.bool false) (.lit (.bool false)))⟩,
      ⟨(some (60, false)), none, .mov (.tmp 59 false) .peek⟩,
      ⟨(some (61, false)), (some (60, true)), .load (.tmp 3 true) 1 false false⟩,
      ⟨(some (62, false)), (some (60, true)), .load (.tmp 4 true) 1 false false⟩,
      ⟨(some (63, false)), (some (60, true)), .idx (.tmp 61 false) (.tmp 62 false)⟩,
      ⟨(some (64, false)), (some (60, true)), .bin .eql (.tmp 63 false) (.cst (.int .u8 45) (.lit (.int .u8 45)))⟩,
      ⟨(some (65, false)), none, .pick (.tmp 60 false) (.tmp 64 false) (.cst (.bool false) (.lit (.bool false)))⟩,
      ⟨(some (66, false)), none, .mov (.tmp 65 false) .peek⟩,
      ⟨(some (67, false)), (some (66, true)), .load (.tmp 3 true) 1 false false⟩,
      ⟨(some (68, false)), (some (66, true)), .load (.tmp 4 true) 1 false false⟩,
      ⟨(some (69, false)), (some (66, true)), .bin .add (.tmp 68 false) (.cst (.int .i64 1) (.lit (.int .i64 1)))⟩,
      ⟨(some (70, false)), (some (66, true)), .idx (.tmp 67 false) (.tmp 69 false)⟩,
      ⟨(some (71, false)), (some (66, true)), .bin .neq (.tmp 70 false) (.cst (.int .u8 93) (.lit (.int .u8 93)))⟩,
      ⟨(some (72, false)), none, .pick (.tmp 66 false) (.tmp 71 false) (.cst (.bool false) (.lit (.bool false)))⟩])) [2, 3, 4, 6, 8, 9, 11, 12, 13, 72] [3, 4]
    (.cond (.tmp 72 false)
      (.seq (.reg (.seq [⟨(some (73, false)), none, .load (.tmp 4 true) 1 false false⟩,
      ⟨(some (74, false)), none, .bin .add (.tmp 73 false) (.cst (.int .i64 1) (.lit (.int .i64 1)))⟩,
      ⟨none, none, .store (.tmp 4 true) (.tmp 74 false) 1⟩])) [2, 3, 4, 6, 8, 9, 11] [3, 4]
      (.reg (.seq [⟨(some (76, false)), none, .mov (.tmp 9 true) .peek⟩,
      ⟨(some (77, false)), none, .callV (.tmp 76 false) []⟩,
      ⟨(some (75, false)), none, .mov (.tmp 77 false) .peek⟩,
      ⟨(some (78, false)), none, .ext (.tmp 75 false) 0⟩,
      ⟨(some (79, false)), none, .ext (.tmp 75 false) 1⟩,
      ⟨(some (13, true)), none, .mov (.tmp 78 false) .asg⟩,
      ⟨(some (12, true)), none, .mov (.tmp 79 false) .asg⟩])))
      (.skip))) [2, 3, 4, 6, 8, 9, 11, 12, 13] [3, 4]
    (.seq (.seq (.reg (.seq [⟨(some (80, false)), none, .mov (.tmp 12 true) .peek⟩,
      ⟨(some (81, false)), none, .un .not (.tmp 80 false)⟩])) [2, 3, 4, 6, 8, 9, 11, 13, 81] [3, 4]
    (.cond (.tmp 81 false)
      (.seq (.reg (.seq [⟨(some (6, true)), none, .mov (.cst (.bool false) (.lit (.bool false))) .asg⟩,
      ⟨(some (7, true)), none, .mov (.cst (.int .i64 (-1)) (.lit (.int .i64 (-1)))) .asg⟩])) [6, 7] []
      (.ret))
      (.skip))) [2, 3, 4, 6, 8, 9, 11, 13] [3, 4]
    (.reg (.seq [⟨(some (82, false)), none, .mov (.tmp 6 true) .peek⟩,
      ⟨(some (83, false)), none, .mov (.tmp 82 false) .peek⟩,
      ⟨(some (84, false)), (some (83, false)), .mov (.tmp 2 true) .peek⟩,
      ⟨(some (85, false)), (some (83, false)), .cvt .i32 (.tmp 84 false)⟩,
      ⟨(some (86, false)), (some (83, false)), .mov (.tmp 11 true) .peek⟩,
      ⟨(some (87, false)), (some (83, false)), .bin .geq (.tmp 85 false) (.tmp 86 false)⟩,
      ⟨(some (88, false)), (some (83, false)), .mov (.tmp 87 false) .peek⟩,
      ⟨(some (89, false)), (some (88, true)), .mov (.tmp 2 true) .peek⟩,
      ⟨(some (90, false)), (some (88, true)), .cvt .i32 (.tmp 89 false)⟩,
      ⟨(some (91, false)), (some (88, true)), .mov (.tmp 13 true) .peek⟩,
      ⟨(some (92, false)), (some (88, true)), .bin .leq (.tmp 90 false) (.tmp 91 false)⟩,
      ⟨(some (93, false)), (some (83, false)), .pick (.tmp 88 false) (.tmp 92 false) (.cst (.bool false) (.lit (.bool false)))⟩,
      ⟨(some (94, false)), none, .pick (.tmp 83 false) (.cst (.bool true) (.lit (.bool true))) (.tmp 93 false)⟩,
      ⟨(some (6, true)), none, .mov (.tmp 94 false) .asg⟩]))))))) [2, 3, 4, 6, 8, 9] [3, 4]
  (.reg (.seq [⟨(some (10, true)), none, .mov (.cst (.bool false) (.lit (.bool false))) .asg⟩])))
def gclass_l0 : AC := gclass_l0'
theorem gclass_l0_w (C : Kn) (K : Ex → St → Prop) (s : St) : vcC C gclass_l0 K s = vcC C gclass_l0' K s := nr rfl
def gclass_k1' : AC := .seq (.seq (.reg (.seq [⟨(some (95, false)), none, .load (.tmp 4 true) 1 false false⟩,
      ⟨(some (96, false)), none, .load (.tmp 3 true) 1 false false⟩,
      ⟨(some (97, false)), none, .len (.tmp 96 false)⟩,
      ⟨(some (98, false)), none, .bin .geq (.tmp 95 false) (.tmp 97 false)⟩])) [4, 6, 8, 98] [4]
  (.cond (.tmp 98 false)
    (.seq (.reg (.seq [⟨(some (6, true)), none, .mov (.cst (.bool false) (.lit (.bool false))) .asg⟩,
      ⟨(some (7, true)), none, .mov (.cst (.int .i64 (-1)) (.lit (.int .i64 (-1)))) .asg⟩])) [6, 7] []
    (.ret))
    (.skip))) [4, 6, 8] [4]
  (.seq (.reg (.draw [⟨(some (99, false)), none, .mov (.tmp 6 true) .peek⟩,
      ⟨(some (100, false)), none, .mov (.tmp 8 true) .peek⟩,
      ⟨(some (101, false)), none, .eqb true (.tmp 99 false) (.tmp 100 false)⟩,
      ⟨(some (102, false)), none, .load (.tmp 4 true) 1 false false⟩,
      ⟨(some (103, false)), none, .bin .add (.tmp 102 false) (.cst (.int .i64 1) (.lit (.int .i64 1)))⟩] [(⟨(some (6, true)), none, .mov (.tmp 101 false) .asg⟩, [⟨(some (102, false)), none, .load (.tmp 4 true) 1 false false⟩,
      ⟨(some (103, false)), none, .bin .add (.tmp 102 false) (.cst (.int .i64 1) (.lit (.int .i64 1)))⟩]),
      (⟨(some (7, true)), none, .mov (.tmp 103 false) .asg⟩, [])])) [6, 7] []
  (.ret))
def gclass_k1 : AC := gclass_k1'
theorem gclass_k1_w (C : Kn) (K : Ex → St → Prop) (s : St) : vcC C gclass_k1 K s = vcC C gclass_k1' K s := nr rfl
def gclass : AF := ⟨.seq (.reg (.seq [⟨(some (3, true)), none, .box (.tmp 0 true)⟩,
      ⟨(some (4, true)), none, .box (.tmp 1 true)⟩,
      ⟨(some (6, true)), none, .mov (.cst (.bool false) (.lit (.bool false))) .asg⟩,
      ⟨(some (7, true)), none, .mov (.cst (.int .i64 0) (.lit (.int .i64 0))) .asg⟩])) [2, 3, 4, 6] [3, 4]
  (.seq (.reg (.seq [⟨(some (8, true)), none, .mov (.cst (.bool false) (.lit (.bool false))) .asg⟩])) [2, 3, 4, 6, 8] [3, 4]
  (.seq (.seq (.reg (.seq [⟨(some (14, false)), none, .load (.tmp 4 true) 1 false false⟩,
      ⟨(some (15, false)), none, .load (.tmp 3 true) 1 false false⟩,
      ⟨(some (16, false)), none, .len (.tmp 15 false)⟩,
      ⟨(some (17, false)), none, .bin .lss (.tmp 14 false) (.tmp 16 false)⟩,
      ⟨(some (18, false)), none, .mov (.tmp 17 false) .peek⟩,
      ⟨(some (19, false)), (some (18, true)), .load (.tmp 3 true) 1 false false⟩,
      ⟨(some (20, false)), (some (18, true)), .load (.tmp 4 true) 1 false false⟩,
      ⟨(some (21, false)), (some (18, true)), .idx (.tmp 19 false) (.tmp 20 false)⟩,
      ⟨(some (22, false)), (some (18, true)), .bin .eql (.tmp 21 false) (.cst (.int .u8 33) (.lit (.int .u8 33)))⟩,
      ⟨(some (23, false)), (some (18, true)), .mov (.tmp 22 false) .peek⟩,
      ⟨(some (24, false)), (some (23, false)), .load (.tmp 3 true) 1 false false⟩,
      ⟨(some (25, false)), (some (23, false)), .load (.tmp 4 true) 1 false false⟩,
      ⟨(some (26, false)), (some (23, false)), .idx (.tmp 24 false) (.tmp 25 false)⟩,
      ⟨(some (27, false)), (some (23, false)), .bin .eql (.tmp 26 false) (.cst (.int .u8 94) (.lit (.int .u8 94)))⟩,
      ⟨(some (28, false)), (some (18, true)), .pick (.tmp 23 false) (.cst (.bool true) (.lit (.bool true))) (.tmp 27 false)⟩,
      ⟨(some (29, false)), none, .pick (.tmp 18 false) (.tmp 28 false) (.cst (.bool false) (.lit (.bool false)))⟩])) [2, 3, 4, 6, 8, 29] [3, 4]
  (.cond (.tmp 29 false)
    (.seq (.reg (.seq [⟨(some (8, true)), none, .mov (.cst (.bool true) (.lit (.bool true))) .asg⟩])) [2, 3, 4, 6, 8] [3, 4]
    (.reg (.seq [⟨(some (30, false)), none, .load (.tmp 4 true) 1 false false⟩,
      ⟨(some (31, false)), none, .bin .add (.tmp 30 false) (.cst (.int .i64 1) (.lit (.int .i64 1)))⟩,
      ⟨none, none, .store (.tmp 4 true) (.tmp 31 false) 1⟩])))
    (.skip))) [2, 3, 4, 6, 8] [3, 4]
  (.seq (.reg (.seq [⟨(some (32, false)), none, .mkF 108 [(.tmp 4 true), (.tmp 3 true)]⟩,
      ⟨(some (9, true)), none, .mov (.tmp 32 false) .asg⟩])) [2, 3, 4, 6, 8, 9] [3, 4]
  (.seq (.seq (.reg (.seq [⟨(some (10, true)), none, .mov (.cst (.bool true) (.lit (.bool true))) .asg⟩])) [2, 3, 4, 6, 8, 9, 10] [3, 4]
  (.block 0 (.loop [2, 3, 4, 6, 8, 9, 10] [3, 4] gclass_l0))) [3, 4, 6, 8] [3, 4] gclass_k1)))),
  [.tmp 6, .tmp 7]⟩
theorem gclass_comp (m : Int) : compF Tryd.prog (gl m) [] Tryd.f89 = some gclass := by kernel_rfl

/-! ### an item -/
theorem item_at {p : Bs} {at_ : Nat} (h : at_ < p.length) : item (p.drop at_) = if p[at_] = 92 then (if h2 : at_ + 1 < p.length then some (p[at_ + 1], p.drop (at_ + 2)) else none) else some (p[at_], p.drop (at_ + 1)) := by
  rw [List.drop_eq_getElem_cons h]
  simp only [item]
  by_cases hb : p[at_] = 92
  · rw [if_pos hb, if_pos hb]
    by_cases h2 : at_ + 1 < p.length
    · rw [dif_pos h2, List.drop_eq_getElem_cons h2]
    · rw [dif_neg h2, List.drop_of_length_le (by omega)]
  · rw [if_neg hb, if_neg hb]
theorem item_out {p : Bs} {at_ : Nat} (h : ¬ at_ < p.length) : item (p.drop at_) = none := by rw [List.drop_of_length_le (by omega)]; rfl
theorem gone_snd (p : Bs) (hp : p.length ≤ 1048576) (at_ : Nat) (ha : at_ ≤ 2097152) : ∃ a2, a2 ≤ at_ + 2 ∧ (match item (p.drop at_) with
    | none => SndG Tryd.prog (gl m) 108 [.ptr ⟨.box 10000 0, []⟩, .ptr ⟨.box 10001 0, []⟩] [[N at_], [S p]] (.tup [R32 0, B false]) [[N a2], [S p]]
    | some (c, r) => a2 = p.length - r.length ∧ r = p.drop a2 ∧ a2 ≤ p.length ∧ SndG Tryd.prog (gl m) 108 [.ptr ⟨.box 10000 0, []⟩, .ptr ⟨.box 10001 0, []⟩] [[N at_], [S p]] (.tup [R32 c.toNat, B true]) [[N a2], [S p]]) := by
  have hw1 : IntKind.i64.wrap ((at_ : Int) + 1) = ((at_ + 1 : Nat) : Int) := wrapN (at_ + 1) (by omega) (by omega)
  have hw2 : IntKind.i64.wrap (((at_ + 1 : Nat) : Int) + 1) = ((at_ + 2 : Nat) : Int) := wrapN (at_ + 2) (by omega) (by omega)
  have hw3 : IntKind.i64.wrap (((at_ + 1 : Nat) : Int) - 1) = ((at_ : Nat) : Int) := wrapN at_ (by omega) (by omega)
  have hw4 : IntKind.i64.wrap (((at_ + 2 : Nat) : Int) - 1) = ((at_ + 1 : Nat) : Int) := wrapN (at_ + 1) (by omega) (by omega)
  by_cases h : at_ < p.length
  · rw [item_at h]
    by_cases hb : p[at_] = 92
    · rw [if_pos hb]
      by_cases h2 : at_ + 1 < p.length
      · rw [dif_pos h2]
        refine ⟨at_ + 2, by omega, by simp; omega, rfl, by omega, ?_⟩
        refine sndG_of (fn := Tryd.f108) (af := gone) Tryd.func108 (gone_comp m) mixed (kn_ok m) (Nat.le_of_ble_eq_true rfl) (Nat.le_of_ble_eq_true rfl) ?_
        simp only [gone, go_sem, reduceCtorEq, Nat.reduceEqDiff, reduceIte, Nat.reduceAdd, Nat.reduceSub, Nat.reduceLeDiff, Int.reduceToNat, Nat.reduceBEq]
        rw [lt_t h]
        simp only [getE h, go_sem, reduceCtorEq, Nat.reduceEqDiff, reduceIte, Nat.reduceAdd, Nat.reduceSub, Nat.reduceLeDiff, Int.reduceToNat, Nat.reduceBEq]
        rw [u8b_t (n := 92) hb rfl]
        simp only [hw1, hw2, hw4, go_sem, reduceCtorEq, Nat.reduceEqDiff, reduceIte, Nat.reduceAdd, Nat.reduceSub, Nat.reduceLeDiff, Int.reduceToNat, Nat.reduceBEq]
        rw [ige_f (by omega)]
        simp only [hw1, hw2, hw4, getE h2, wrap32, go_sem, reduceCtorEq, Nat.reduceEqDiff, reduceIte, Nat.reduceAdd, Nat.reduceSub, Nat.reduceLeDiff, Int.reduceToNat, Nat.reduceBEq]
        omega
      · rw [dif_neg h2]
        refine ⟨at_ + 1, by omega, ?_⟩
        refine sndG_of (fn := Tryd.f108) (af := gone) Tryd.func108 (gone_comp m) mixed (kn_ok m) (Nat.le_of_ble_eq_true rfl) (Nat.le_of_ble_eq_true rfl) ?_
        simp only [gone, go_sem, reduceCtorEq, Nat.reduceEqDiff, reduceIte, Nat.reduceAdd, Nat.reduceSub, Nat.reduceLeDiff, Int.reduceToNat, Nat.reduceBEq]
        rw [lt_t h]
        simp only [getE h, go_sem, reduceCtorEq, Nat.reduceEqDiff, reduceIte, Nat.reduceAdd, Nat.reduceSub, Nat.reduceLeDiff, Int.reduceToNat, Nat.reduceBEq]
        rw [u8b_t (n := 92) hb rfl]
        simp only [hw1, go_sem, reduceCtorEq, Nat.reduceEqDiff, reduceIte, Nat.reduceAdd, Nat.reduceSub, Nat.reduceLeDiff, Int.reduceToNat, Nat.reduceBEq]
        rw [ige_t (by omega)]
        simp only [go_sem, reduceCtorEq, Nat.reduceEqDiff, reduceIte, Nat.reduceAdd, Nat.reduceSub, Nat.reduceLeDiff, Int.reduceToNat, Nat.reduceBEq]
        repeat (refine ⟨by (try simp only [List.length_append, List.length_cons, List.length_nil]); omega, ?_⟩)
        first | rfl | omega
    · rw [if_neg hb]
      refine ⟨at_ + 1, by omega, by simp; omega, rfl, by omega, ?_⟩
      refine sndG_of (fn := Tryd.f108) (af := gone) Tryd.func108 (gone_comp m) mixed (kn_ok m) (Nat.le_of_ble_eq_true rfl) (Nat.le_of_ble_eq_true rfl) ?_
      simp only [gone, go_sem, reduceCtorEq, Nat.reduceEqDiff, reduceIte, Nat.reduceAdd, Nat.reduceSub, Nat.reduceLeDiff, Int.reduceToNat, Nat.reduceBEq]
      rw [lt_t h]
      simp only [getE h, go_sem, reduceCtorEq, Nat.reduceEqDiff, reduceIte, Nat.reduceAdd, Nat.reduceSub, Nat.reduceLeDiff, Int.reduceToNat, Nat.reduceBEq]
      rw [u8b_f (n := 92) hb rfl]
      simp only [hw1, go_sem, reduceCtorEq, Nat.reduceEqDiff, reduceIte, Nat.reduceAdd, Nat.reduceSub, Nat.reduceLeDiff, Int.reduceToNat, Nat.reduceBEq]
      rw [ige_f (by omega)]
      simp only [hw1, hw3, getE h, wrap32, go_sem, reduceCtorEq, Nat.reduceEqDiff, reduceIte, Nat.reduceAdd, Nat.reduceSub, Nat.reduceLeDiff, Int.reduceToNat, Nat.reduceBEq]
      repeat (refine ⟨by (try simp only [List.length_append, List.length_cons, List.length_nil]); omega, ?_⟩)
      first | rfl | omega
  · rw [item_out h]
    refine ⟨at_, by omega, ?_⟩
    refine sndG_of (fn := Tryd.f108) (af := gone) Tryd.func108 (gone_comp m) mixed (kn_ok m) (Nat.le_of_ble_eq_true rfl) (Nat.le_of_ble_eq_true rfl) ?_
    simp only [gone, go_sem, reduceCtorEq, Nat.reduceEqDiff, reduceIte, Nat.reduceAdd, Nat.reduceSub, Nat.reduceLeDiff, Int.reduceToNat, Nat.reduceBEq]
    rw [lt_f h]
    simp only [go_sem, reduceCtorEq, Nat.reduceEqDiff, reduceIte, Nat.reduceAdd, Nat.reduceSub, Nat.reduceLeDiff, Int.reduceToNat, Nat.reduceBEq]
    rw [ige_t (by omega)]
    simp only [go_sem, reduceCtorEq, Nat.reduceEqDiff, reduceIte, Nat.reduceAdd, Nat.reduceSub, Nat.reduceLeDiff, Int.reduceToNat, Nat.reduceBEq]
    exact ⟨by omega, by omega, by omega, by omega, rfl⟩

/-! ### a class -/
def clsRes (p : Bs) (c : UInt8) (neg inn : Bool) : Option (List Rg × Bs) → AV
  | none => .tup [B false, I (-1)]
  | some x => .tup [B ((inn || hit x.1 c) != neg), N (p.length - x.2.length)]
def clsSt (p : Bs) (c : UInt8) (at_ : Nat) (neg inn f : Bool) : St := mkS [(2, U8 c), (3, .ptr ⟨.box 3 0, []⟩), (4, .ptr ⟨.box 4 0, []⟩), (6, B inn), (8, B neg), (9, .clo 108 [.ptr ⟨.box 4 0, []⟩, .ptr ⟨.box 3 0, []⟩]), (10, B f)] [(3, some [S p]), (4, some [N at_])]
theorem kn_v108 : (kn m).v 108 := ⟨Tryd.f108, Tryd.func108, rfl, by decide⟩
theorem class_out (p : Bs) (hp : p.length ≤ 1048576) (c : UInt8) (neg inn f : Bool) (at_ : Nat) (ha : at_ ≤ 2097152) (h : p.length ≤ at_) :
    vcL (kn m) [2, 3, 4, 6, 8, 9, 10] [3, 4] gclass_l0 (blockK 0 (seqK (kn m) [3, 4, 6, 8] [3, 4] gclass_k1 (outOk [.tmp 6, .tmp 7] (.tup [B false, I (-1)])))) (clsSt p c at_ neg inn f) := by
  apply round
  simp only [clsSt, gclass_l0_w, gclass_l0', go_sem, reduceCtorEq, Nat.reduceEqDiff, reduceIte, Nat.reduceAdd, Nat.reduceSub, Nat.reduceLeDiff, Int.reduceToNat, Nat.reduceBEq]
  rw [lt_f (by omega)]
  simp only [gclass_k1_w, gclass_k1', go_sem, reduceCtorEq, Nat.reduceEqDiff, reduceIte, Nat.reduceAdd, Nat.reduceSub, Nat.reduceLeDiff, Int.reduceToNat, Nat.reduceBEq]
  rw [ige_t (by omega)]
  simp only [go_sem, reduceCtorEq, Nat.reduceEqDiff, reduceIte, Nat.reduceAdd, Nat.reduceSub, Nat.reduceLeDiff, Int.reduceToNat, Nat.reduceBEq]
  omega
theorem class_end (p : Bs) (hp : p.length ≤ 1048576) (c : UInt8) (neg inn : Bool) (at_ : Nat) (h : at_ < p.length) (h93 : p[at_] = 93) :
    vcL (kn m) [2, 3, 4, 6, 8, 9, 10] [3, 4] gclass_l0 (blockK 0 (seqK (kn m) [3, 4, 6, 8] [3, 4] gclass_k1 (outOk [.tmp 6, .tmp 7] (.tup [B (inn != neg), N (at_ + 1)])))) (clsSt p c at_ neg inn false) := by
  have hw1 : IntKind.i64.wrap ((at_ : Int) + 1) = ((at_ + 1 : Nat) : Int) := wrapN (at_ + 1) (by omega) (by omega)
  apply round
  simp only [clsSt, gclass_l0_w, gclass_l0', go_sem, reduceCtorEq, Nat.reduceEqDiff, reduceIte, Nat.reduceAdd, Nat.reduceSub, Nat.reduceLeDiff, Int.reduceToNat, Nat.reduceBEq]
  rw [lt_t h]
  simp only [getE h, go_sem, reduceCtorEq, Nat.reduceEqDiff, reduceIte, Nat.reduceAdd, Nat.reduceSub, Nat.reduceLeDiff, Int.reduceToNat, Nat.reduceBEq]
  rw [u8n_f (n := 93) h93 rfl]
  simp only [gclass_k1_w, gclass_k1', go_sem, reduceCtorEq, Nat.reduceEqDiff, reduceIte, Nat.reduceAdd, Nat.reduceSub, Nat.reduceLeDiff, Int.reduceToNat, Nat.reduceBEq]
  rw [ige_f (by omega)]
  simp only [hw1, go_sem, reduceCtorEq, Nat.reduceEqDiff, reduceIte, Nat.reduceAdd, Nat.reduceSub, Nat.reduceLeDiff, Int.reduceToNat, Nat.reduceBEq]
  repeat (refine ⟨by (try simp only [List.length_append, List.length_cons, List.length_nil]); omega, ?_⟩)
  rfl
theorem hit_cons (x : Rg) (is : List Rg) (c : UInt8) (inn : Bool) : (inn || hit (x :: is) c) = ((inn || (decide (x.1 ≤ c) && decide (c ≤ x.2))) || hit is c) := by simp [hit, Bool.or_assoc]
theorem leN (a b : UInt8) : decide ((a.toNat : Int) ≥ b.toNat) = decide (b ≤ a) := by
  rw [Bool.eq_iff_iff, decide_eq_true_iff, decide_eq_true_iff, UInt8.le_iff_toNat_le]; omega
theorem leN2 (a b : UInt8) : decide ((a.toNat : Int) ≤ b.toNat) = decide (a ≤ b) := by
  rw [Bool.eq_iff_iff, decide_eq_true_iff, decide_eq_true_iff, UInt8.le_iff_toNat_le]; omega
theorem clsRes_map (p : Bs) (c : UInt8) (neg inn : Bool) (lo hi : UInt8) (o : Option (List Rg × Bs)) : clsRes p c neg inn (o.map fun x => ((lo, hi) :: x.1, x.2)) = clsRes p c neg (inn || (decide (lo ≤ c) && decide (c ≤ hi))) o := by
  cases o with
  | none => rfl
  | some x => simp only [Option.map_some, clsRes, hit_cons]
theorem nor_one {p : Bs} {a : Nat} (h : ¬ a + 1 < p.length) : ranged (p.drop a) = none := by
  unfold ranged
  split
  · rename_i x r e
    have := congrArg List.length e
    simp at this; omega
  · rfl
theorem nor_two {p : Bs} {a : Nat} (h : a < p.length) (hB : p[a] ≠ 45) : ranged (p.drop a) = none := by
  rw [List.drop_eq_getElem_cons h]
  unfold ranged
  split
  · rename_i x r e; injection e with e _; exact absurd e hB
  · rfl
theorem nor_three {p : Bs} {a : Nat} (h : a + 1 < p.length) (hC : p[a + 1] = 93) : ranged (p.drop a) = none := by
  rw [List.drop_eq_getElem_cons (by omega : a < p.length), List.drop_eq_getElem_cons h]
  unfold ranged
  split
  · rename_i x r e; injection e with _ e; injection e with e _; rw [if_pos (by rw [← e, hC])]
  · rfl
theorem rng_at {p : Bs} {a : Nat} (h : a + 1 < p.length) (hB : p[a] = 45) (hC : p[a + 1] ≠ 93) : ranged (p.drop a) = some (p.drop (a + 1)) := by
  rw [List.drop_eq_getElem_cons (by omega : a < p.length), List.drop_eq_getElem_cons h, hB]
  simp only [ranged]
  rw [if_neg hC]
set_option maxHeartbeats 4000000 in
theorem class_loop (p : Bs) (hp : p.length ≤ 1048576) (c : UInt8) (neg : Bool) (n : Nat) : ∀ (inn f : Bool) (at_ : Nat) (hn : p.length - at_ ≤ n) (ha : at_ ≤ p.length),
    vcL (kn m) [2, 3, 4, 6, 8, 9, 10] [3, 4] gclass_l0 (blockK 0 (seqK (kn m) [3, 4, 6, 8] [3, 4] gclass_k1 (outOk [.tmp 6, .tmp 7] (clsRes p c neg inn (items f (p.drop at_)))))) (clsSt p c at_ neg inn f) := by
  induction n with
  | zero =>
    intro inn f at_ hn ha
    rw [List.drop_of_length_le (by omega), items_nil]
    exact class_out p hp c neg inn f at_ (by omega) (by omega)
  | succ n ih =>
    intro inn f at_ hn ha
    by_cases h : at_ < p.length
    · have hd : p.drop at_ = p[at_] :: p.drop (at_ + 1) := List.drop_eq_getElem_cons h
      by_cases h0 : p[at_] = 93 ∧ f = false
      · obtain ⟨h93, rfl⟩ := h0
        rw [hd, h93, items_end]
        have e : clsRes p c neg inn (some ([], p.drop (at_ + 1))) = .tup [B (inn != neg), N (at_ + 1)] := by
          simp only [clsRes, hit, List.any_nil, Bool.or_false, List.length_drop]
          rw [show p.length - (p.length - (at_ + 1)) = at_ + 1 by omega]
        rw [e]
        exact class_end p hp c neg inn at_ h h93
      · obtain ⟨a2, ha2, hsp⟩ := gone_snd (m := m) p hp at_ (by omega)
        rw [hd]
        cases hi : item (p.drop at_) with
        | none =>
          rw [hi] at hsp
          simp only at hsp
          rw [items_bad h0 (by rw [← hd]; exact hi)]
          apply round
          simp only [clsSt, gclass_l0_w, gclass_l0', go_sem, reduceCtorEq, Nat.reduceEqDiff, reduceIte, Nat.reduceAdd, Nat.reduceSub, Nat.reduceLeDiff, Int.reduceToNat, Nat.reduceBEq]
          rw [lt_t h]
          cases f with
          | true =>
            simp only [go_sem, reduceCtorEq, Nat.reduceEqDiff, reduceIte, Nat.reduceAdd, Nat.reduceSub, Nat.reduceLeDiff, Int.reduceToNat, Nat.reduceBEq]
            repeat (refine ⟨by (try simp only [List.length_append, List.length_cons, List.length_nil]); omega, ?_⟩)
            refine ⟨kn_v108, ?_⟩
            refine of_core hsp rfl ?_
            simp only [unVal, clsRes, go_sem, reduceCtorEq, Nat.reduceEqDiff, reduceIte, Nat.reduceAdd, Nat.reduceSub, Nat.reduceLeDiff, Int.reduceToNat, Nat.reduceBEq]
          | false =>
            simp only [getE h, go_sem, reduceCtorEq, Nat.reduceEqDiff, reduceIte, Nat.reduceAdd, Nat.reduceSub, Nat.reduceLeDiff, Int.reduceToNat, Nat.reduceBEq]
            refine ⟨by omega, by omega, by omega, by omega, by omega, ?_⟩
            rw [u8n_t (n := 93) (fun e => h0 ⟨e, rfl⟩) rfl]
            simp only [go_sem, reduceCtorEq, Nat.reduceEqDiff, reduceIte, Nat.reduceAdd, Nat.reduceSub, Nat.reduceLeDiff, Int.reduceToNat, Nat.reduceBEq]
            refine ⟨kn_v108, ?_⟩
            refine of_core hsp rfl ?_
            simp only [unVal, clsRes, go_sem, reduceCtorEq, Nat.reduceEqDiff, reduceIte, Nat.reduceAdd, Nat.reduceSub, Nat.reduceLeDiff, Int.reduceToNat, Nat.reduceBEq]
        | some q =>
          obtain ⟨lo, r1⟩ := q
          rw [hi] at hsp
          simp only at hsp
          obtain ⟨he1, hr1, hl1, hsp⟩ := hsp
          have hlt1 := item_len hi
          rw [List.length_drop] at hlt1
          have hrl := congrArg List.length hr1
          rw [List.length_drop] at hrl
          apply round
          simp only [clsSt, gclass_l0_w, gclass_l0', go_sem, reduceCtorEq, Nat.reduceEqDiff, reduceIte, Nat.reduceAdd, Nat.reduceSub, Nat.reduceLeDiff, Int.reduceToNat, Nat.reduceBEq]
          rw [lt_t h]
          cases f with
          | true =>
            simp only [go_sem, reduceCtorEq, Nat.reduceEqDiff, reduceIte, Nat.reduceAdd, Nat.reduceSub, Nat.reduceLeDiff, Int.reduceToNat, Nat.reduceBEq]
            repeat (refine ⟨by (try simp only [List.length_append, List.length_cons, List.length_nil]); omega, ?_⟩)
            refine ⟨kn_v108, ?_⟩
            refine of_core hsp rfl ?_
            have hwa : IntKind.i64.wrap ((a2 : Int) + 1) = ((a2 + 1 : Nat) : Int) := wrapN (a2 + 1) (by omega) (by omega)
            simp only [hwa, go_sem, reduceCtorEq, Nat.reduceEqDiff, reduceIte, Nat.reduceAdd, Nat.reduceSub, Nat.reduceLeDiff, Int.reduceToNat, Nat.reduceBEq]
            by_cases hA : a2 + 1 < p.length
            · have hA2 : a2 < p.length := by omega
              rw [lt_t hA]
              simp only [getE hA2, go_sem, reduceCtorEq, Nat.reduceEqDiff, reduceIte, Nat.reduceAdd, Nat.reduceSub, Nat.reduceLeDiff, Int.reduceToNat, Nat.reduceBEq]
              refine ⟨by omega, by omega, by omega, ?_⟩
              by_cases hB : p[a2] = 45
              · rw [u8b_t (n := 45) hB rfl]
                simp only [hwa, getE hA, go_sem, reduceCtorEq, Nat.reduceEqDiff, reduceIte, Nat.reduceAdd, Nat.reduceSub, Nat.reduceLeDiff, Int.reduceToNat, Nat.reduceBEq]
                refine ⟨by omega, by omega, by omega, ?_⟩
                by_cases hC : p[a2 + 1] = 93
                · rw [u8n_f (n := 93) hC rfl]
                  simp only [unVal, go_sem, reduceCtorEq, Nat.reduceEqDiff, reduceIte, Nat.reduceAdd, Nat.reduceSub, Nat.reduceLeDiff, Int.reduceToNat, Nat.reduceBEq]
                  rw [items_one h0 (by rw [← hd]; exact hi) (by rw [hr1]; exact nor_three hA hC), clsRes_map, hr1]
                  cases inn with
                  | true =>
                    simp only [go_sem, reduceCtorEq, Nat.reduceEqDiff, reduceIte, Nat.reduceAdd, Nat.reduceSub, Nat.reduceLeDiff, Int.reduceToNat, Nat.reduceBEq]
                    have := ih true false a2 (by omega) (by omega)
                    repeat (refine ⟨by (try simp only [List.length_append, List.length_cons, List.length_nil]); omega, ?_⟩)
                    exact this
                  | false =>
                    simp only [wrap32, leN, leN2, go_sem, reduceCtorEq, Nat.reduceEqDiff, reduceIte, Nat.reduceAdd, Nat.reduceSub, Nat.reduceLeDiff, Int.reduceToNat, Nat.reduceBEq]
                    cases hq : decide (lo ≤ c) with
                    | false =>
                      simp only [go_sem, reduceCtorEq, Nat.reduceEqDiff, reduceIte, Nat.reduceAdd, Nat.reduceSub, Nat.reduceLeDiff, Int.reduceToNat, Nat.reduceBEq]
                      have := ih false false a2 (by omega) (by omega)
                      repeat (refine ⟨by (try simp only [List.length_append, List.length_cons, List.length_nil]); omega, ?_⟩)
                      exact this
                    | true =>
                      simp only [wrap32, leN, leN2, go_sem, reduceCtorEq, Nat.reduceEqDiff, reduceIte, Nat.reduceAdd, Nat.reduceSub, Nat.reduceLeDiff, Int.reduceToNat, Nat.reduceBEq]
                      have := ih (decide (c ≤ lo)) false a2 (by omega) (by omega)
                      repeat (refine ⟨by (try simp only [List.length_append, List.length_cons, List.length_nil]); omega, ?_⟩)
                      exact this
                · rw [u8n_t (n := 93) hC rfl]
                  simp only [hwa, unVal, go_sem, reduceCtorEq, Nat.reduceEqDiff, reduceIte, Nat.reduceAdd, Nat.reduceSub, Nat.reduceLeDiff, Int.reduceToNat, Nat.reduceBEq]
                  obtain ⟨a3, ha3, hsp2⟩ := gone_snd (m := m) p hp (a2 + 1) (by omega)
                  have hrg : ranged r1 = some (p.drop (a2 + 1)) := by rw [hr1]; exact rng_at hA hB hC
                  repeat (refine ⟨by (try simp only [List.length_append, List.length_cons, List.length_nil]); omega, ?_⟩)
                  refine ⟨kn_v108, ?_⟩
                  cases hi2 : item (p.drop (a2 + 1)) with
                  | none =>
                    rw [hi2] at hsp2
                    simp only at hsp2
                    refine of_core hsp2 rfl ?_
                    rw [items_rbad h0 (by rw [← hd]; exact hi) hrg hi2]
                    simp only [unVal, clsRes, go_sem, reduceCtorEq, Nat.reduceEqDiff, reduceIte, Nat.reduceAdd, Nat.reduceSub, Nat.reduceLeDiff, Int.reduceToNat, Nat.reduceBEq]
                  | some q =>
                    obtain ⟨up, r3⟩ := q
                    rw [hi2] at hsp2
                    simp only at hsp2
                    obtain ⟨he3, hr3, hl3, hsp2⟩ := hsp2
                    refine of_core hsp2 rfl ?_
                    rw [items_rng h0 (by rw [← hd]; exact hi) hrg hi2, clsRes_map, hr3]
                    have hlt3 := item_len hi2
                    rw [List.length_drop] at hlt3
                    simp only [unVal, go_sem, reduceCtorEq, Nat.reduceEqDiff, reduceIte, Nat.reduceAdd, Nat.reduceSub, Nat.reduceLeDiff, Int.reduceToNat, Nat.reduceBEq]
                    cases inn with
                    | true =>
                      simp only [go_sem, reduceCtorEq, Nat.reduceEqDiff, reduceIte, Nat.reduceAdd, Nat.reduceSub, Nat.reduceLeDiff, Int.reduceToNat, Nat.reduceBEq]
                      have := ih true false a3 (by omega) (by omega)
                      repeat (refine ⟨by (try simp only [List.length_append, List.length_cons, List.length_nil]); omega, ?_⟩)
                      exact this
                    | false =>
                      simp only [wrap32, leN, leN2, go_sem, reduceCtorEq, Nat.reduceEqDiff, reduceIte, Nat.reduceAdd, Nat.reduceSub, Nat.reduceLeDiff, Int.reduceToNat, Nat.reduceBEq]
                      cases hq : decide (lo ≤ c) with
                      | false =>
                        simp only [go_sem, reduceCtorEq, Nat.reduceEqDiff, reduceIte, Nat.reduceAdd, Nat.reduceSub, Nat.reduceLeDiff, Int.reduceToNat, Nat.reduceBEq]
                        have := ih false false a3 (by omega) (by omega)
                        repeat (refine ⟨by (try simp only [List.length_append, List.length_cons, List.length_nil]); omega, ?_⟩)
                        exact this
                      | true =>
                        simp only [wrap32, leN, leN2, go_sem, reduceCtorEq, Nat.reduceEqDiff, reduceIte, Nat.reduceAdd, Nat.reduceSub, Nat.reduceLeDiff, Int.reduceToNat, Nat.reduceBEq]
                        have := ih (decide (c ≤ up)) false a3 (by omega) (by omega)
                        repeat (refine ⟨by (try simp only [List.length_append, List.length_cons, List.length_nil]); omega, ?_⟩)
                        exact this
              · rw [u8b_f (n := 45) hB rfl]
                simp only [unVal, go_sem, reduceCtorEq, Nat.reduceEqDiff, reduceIte, Nat.reduceAdd, Nat.reduceSub, Nat.reduceLeDiff, Int.reduceToNat, Nat.reduceBEq]
                rw [items_one h0 (by rw [← hd]; exact hi) (by rw [hr1]; exact nor_two hA2 hB), clsRes_map, hr1]
                cases inn with
                | true =>
                  simp only [go_sem, reduceCtorEq, Nat.reduceEqDiff, reduceIte, Nat.reduceAdd, Nat.reduceSub, Nat.reduceLeDiff, Int.reduceToNat, Nat.reduceBEq]
                  have := ih true false a2 (by omega) (by omega)
                  repeat (refine ⟨by (try simp only [List.length_append, List.length_cons, List.length_nil]); omega, ?_⟩)
                  exact this
                | false =>
                  simp only [wrap32, leN, leN2, go_sem, reduceCtorEq, Nat.reduceEqDiff, reduceIte, Nat.reduceAdd, Nat.reduceSub, Nat.reduceLeDiff, Int.reduceToNat, Nat.reduceBEq]
                  cases hq : decide (lo ≤ c) with
                  | false =>
                    simp only [go_sem, reduceCtorEq, Nat.reduceEqDiff, reduceIte, Nat.reduceAdd, Nat.reduceSub, Nat.reduceLeDiff, Int.reduceToNat, Nat.reduceBEq]
                    have := ih false false a2 (by omega) (by omega)
                    repeat (refine ⟨by (try simp only [List.length_append, List.length_cons, List.length_nil]); omega, ?_⟩)
                    exact this
                  | true =>
                    simp only [wrap32, leN, leN2, go_sem, reduceCtorEq, Nat.reduceEqDiff, reduceIte, Nat.reduceAdd, Nat.reduceSub, Nat.reduceLeDiff, Int.reduceToNat, Nat.reduceBEq]
                    have := ih (decide (c ≤ lo)) false a2 (by omega) (by omega)
                    repeat (refine ⟨by (try simp only [List.length_append, List.length_cons, List.length_nil]); omega, ?_⟩)
                    exact this
            · rw [lt_f hA]
              simp only [unVal, go_sem, reduceCtorEq, Nat.reduceEqDiff, reduceIte, Nat.reduceAdd, Nat.reduceSub, Nat.reduceLeDiff, Int.reduceToNat, Nat.reduceBEq]
              rw [items_one h0 (by rw [← hd]; exact hi) (by rw [hr1]; exact nor_one hA), clsRes_map, hr1]
              cases inn with
              | true =>
                simp only [go_sem, reduceCtorEq, Nat.reduceEqDiff, reduceIte, Nat.reduceAdd, Nat.reduceSub, Nat.reduceLeDiff, Int.reduceToNat, Nat.reduceBEq]
                have := ih true false a2 (by omega) (by omega)
                repeat (refine ⟨by (try simp only [List.length_append, List.length_cons, List.length_nil]); omega, ?_⟩)
                exact this
              | false =>
                simp only [wrap32, leN, leN2, go_sem, reduceCtorEq, Nat.reduceEqDiff, reduceIte, Nat.reduceAdd, Nat.reduceSub, Nat.reduceLeDiff, Int.reduceToNat, Nat.reduceBEq]
                cases hq : decide (lo ≤ c) with
                | false =>
                  simp only [go_sem, reduceCtorEq, Nat.reduceEqDiff, reduceIte, Nat.reduceAdd, Nat.reduceSub, Nat.reduceLeDiff, Int.reduceToNat, Nat.reduceBEq]
                  have := ih false false a2 (by omega) (by omega)
                  repeat (refine ⟨by (try simp only [List.length_append, List.length_cons, List.length_nil]); omega, ?_⟩)
                  exact this
                | true =>
                  simp only [wrap32, leN, leN2, go_sem, reduceCtorEq, Nat.reduceEqDiff, reduceIte, Nat.reduceAdd, Nat.reduceSub, Nat.reduceLeDiff, Int.reduceToNat, Nat.reduceBEq]
                  have := ih (decide (c ≤ lo)) false a2 (by omega) (by omega)
                  repeat (refine ⟨by (try simp only [List.length_append, List.length_cons, List.length_nil]); omega, ?_⟩)
                  exact this
          | false =>
            simp only [getE h, go_sem, reduceCtorEq, Nat.reduceEqDiff, reduceIte, Nat.reduceAdd, Nat.reduceSub, Nat.reduceLeDiff, Int.reduceToNat, Nat.reduceBEq]
            refine ⟨by omega, by omega, by omega, by omega, by omega, ?_⟩
            rw [u8n_t (n := 93) (fun e => h0 ⟨e, rfl⟩) rfl]
            simp only [go_sem, reduceCtorEq, Nat.reduceEqDiff, reduceIte, Nat.reduceAdd, Nat.reduceSub, Nat.reduceLeDiff, Int.reduceToNat, Nat.reduceBEq]
            refine ⟨kn_v108, ?_⟩
            refine of_core hsp rfl ?_
            have hwa : IntKind.i64.wrap ((a2 : Int) + 1) = ((a2 + 1 : Nat) : Int) := wrapN (a2 + 1) (by omega) (by omega)
            simp only [hwa, go_sem, reduceCtorEq, Nat.reduceEqDiff, reduceIte, Nat.reduceAdd, Nat.reduceSub, Nat.reduceLeDiff, Int.reduceToNat, Nat.reduceBEq]
            by_cases hA : a2 + 1 < p.length
            · have hA2 : a2 < p.length := by omega
              rw [lt_t hA]
              simp only [getE hA2, go_sem, reduceCtorEq, Nat.reduceEqDiff, reduceIte, Nat.reduceAdd, Nat.reduceSub, Nat.reduceLeDiff, Int.reduceToNat, Nat.reduceBEq]
              refine ⟨by omega, by omega, by omega, ?_⟩
              by_cases hB : p[a2] = 45
              · rw [u8b_t (n := 45) hB rfl]
                simp only [hwa, getE hA, go_sem, reduceCtorEq, Nat.reduceEqDiff, reduceIte, Nat.reduceAdd, Nat.reduceSub, Nat.reduceLeDiff, Int.reduceToNat, Nat.reduceBEq]
                refine ⟨by omega, by omega, by omega, ?_⟩
                by_cases hC : p[a2 + 1] = 93
                · rw [u8n_f (n := 93) hC rfl]
                  simp only [unVal, go_sem, reduceCtorEq, Nat.reduceEqDiff, reduceIte, Nat.reduceAdd, Nat.reduceSub, Nat.reduceLeDiff, Int.reduceToNat, Nat.reduceBEq]
                  rw [items_one h0 (by rw [← hd]; exact hi) (by rw [hr1]; exact nor_three hA hC), clsRes_map, hr1]
                  cases inn with
                  | true =>
                    simp only [go_sem, reduceCtorEq, Nat.reduceEqDiff, reduceIte, Nat.reduceAdd, Nat.reduceSub, Nat.reduceLeDiff, Int.reduceToNat, Nat.reduceBEq]
                    have := ih true false a2 (by omega) (by omega)
                    repeat (refine ⟨by (try simp only [List.length_append, List.length_cons, List.length_nil]); omega, ?_⟩)
                    exact this
                  | false =>
                    simp only [wrap32, leN, leN2, go_sem, reduceCtorEq, Nat.reduceEqDiff, reduceIte, Nat.reduceAdd, Nat.reduceSub, Nat.reduceLeDiff, Int.reduceToNat, Nat.reduceBEq]
                    cases hq : decide (lo ≤ c) with
                    | false =>
                      simp only [go_sem, reduceCtorEq, Nat.reduceEqDiff, reduceIte, Nat.reduceAdd, Nat.reduceSub, Nat.reduceLeDiff, Int.reduceToNat, Nat.reduceBEq]
                      have := ih false false a2 (by omega) (by omega)
                      repeat (refine ⟨by (try simp only [List.length_append, List.length_cons, List.length_nil]); omega, ?_⟩)
                      exact this
                    | true =>
                      simp only [wrap32, leN, leN2, go_sem, reduceCtorEq, Nat.reduceEqDiff, reduceIte, Nat.reduceAdd, Nat.reduceSub, Nat.reduceLeDiff, Int.reduceToNat, Nat.reduceBEq]
                      have := ih (decide (c ≤ lo)) false a2 (by omega) (by omega)
                      repeat (refine ⟨by (try simp only [List.length_append, List.length_cons, List.length_nil]); omega, ?_⟩)
                      exact this
                · rw [u8n_t (n := 93) hC rfl]
                  simp only [hwa, unVal, go_sem, reduceCtorEq, Nat.reduceEqDiff, reduceIte, Nat.reduceAdd, Nat.reduceSub, Nat.reduceLeDiff, Int.reduceToNat, Nat.reduceBEq]
                  obtain ⟨a3, ha3, hsp2⟩ := gone_snd (m := m) p hp (a2 + 1) (by omega)
                  have hrg : ranged r1 = some (p.drop (a2 + 1)) := by rw [hr1]; exact rng_at hA hB hC
                  repeat (refine ⟨by (try simp only [List.length_append, List.length_cons, List.length_nil]); omega, ?_⟩)
                  refine ⟨kn_v108, ?_⟩
                  cases hi2 : item (p.drop (a2 + 1)) with
                  | none =>
                    rw [hi2] at hsp2
                    simp only at hsp2
                    refine of_core hsp2 rfl ?_
                    rw [items_rbad h0 (by rw [← hd]; exact hi) hrg hi2]
                    simp only [unVal, clsRes, go_sem, reduceCtorEq, Nat.reduceEqDiff, reduceIte, Nat.reduceAdd, Nat.reduceSub, Nat.reduceLeDiff, Int.reduceToNat, Nat.reduceBEq]
                  | some q =>
                    obtain ⟨up, r3⟩ := q
                    rw [hi2] at hsp2
                    simp only at hsp2
                    obtain ⟨he3, hr3, hl3, hsp2⟩ := hsp2
                    refine of_core hsp2 rfl ?_
                    rw [items_rng h0 (by rw [← hd]; exact hi) hrg hi2, clsRes_map, hr3]
                    have hlt3 := item_len hi2
                    rw [List.length_drop] at hlt3
                    simp only [unVal, go_sem, reduceCtorEq, Nat.reduceEqDiff, reduceIte, Nat.reduceAdd, Nat.reduceSub, Nat.reduceLeDiff, Int.reduceToNat, Nat.reduceBEq]
                    cases inn with
                    | true =>
                      simp only [go_sem, reduceCtorEq, Nat.reduceEqDiff, reduceIte, Nat.reduceAdd, Nat.reduceSub, Nat.reduceLeDiff, Int.reduceToNat, Nat.reduceBEq]
                      have := ih true false a3 (by omega) (by omega)
                      repeat (refine ⟨by (try simp only [List.length_append, List.length_cons, List.length_nil]); omega, ?_⟩)
                      exact this
                    | false =>
                      simp only [wrap32, leN, leN2, go_sem, reduceCtorEq, Nat.reduceEqDiff, reduceIte, Nat.reduceAdd, Nat.reduceSub, Nat.reduceLeDiff, Int.reduceToNat, Nat.reduceBEq]
                      cases hq : decide (lo ≤ c) with
                      | false =>
                        simp only [go_sem, reduceCtorEq, Nat.reduceEqDiff, reduceIte, Nat.reduceAdd, Nat.reduceSub, Nat.reduceLeDiff, Int.reduceToNat, Nat.reduceBEq]
                        have := ih false false a3 (by omega) (by omega)
                        repeat (refine ⟨by (try simp only [List.length_append, List.length_cons, List.length_nil]); omega, ?_⟩)
                        exact this
                      | true =>
                        simp only [wrap32, leN, leN2, go_sem, reduceCtorEq, Nat.reduceEqDiff, reduceIte, Nat.reduceAdd, Nat.reduceSub, Nat.reduceLeDiff, Int.reduceToNat, Nat.reduceBEq]
                        have := ih (decide (c ≤ up)) false a3 (by omega) (by omega)
                        repeat (refine ⟨by (try simp only [List.length_append, List.length_cons, List.length_nil]); omega, ?_⟩)
                        exact this
              · rw [u8b_f (n := 45) hB rfl]
                simp only [unVal, go_sem, reduceCtorEq, Nat.reduceEqDiff, reduceIte, Nat.reduceAdd, Nat.reduceSub, Nat.reduceLeDiff, Int.reduceToNat, Nat.reduceBEq]
                rw [items_one h0 (by rw [← hd]; exact hi) (by rw [hr1]; exact nor_two hA2 hB), clsRes_map, hr1]
                cases inn with
                | true =>
                  simp only [go_sem, reduceCtorEq, Nat.reduceEqDiff, reduceIte, Nat.reduceAdd, Nat.reduceSub, Nat.reduceLeDiff, Int.reduceToNat, Nat.reduceBEq]
                  have := ih true false a2 (by omega) (by omega)
                  repeat (refine ⟨by (try simp only [List.length_append, List.length_cons, List.length_nil]); omega, ?_⟩)
                  exact this
                | false =>
                  simp only [wrap32, leN, leN2, go_sem, reduceCtorEq, Nat.reduceEqDiff, reduceIte, Nat.reduceAdd, Nat.reduceSub, Nat.reduceLeDiff, Int.reduceToNat, Nat.reduceBEq]
                  cases hq : decide (lo ≤ c) with
                  | false =>
                    simp only [go_sem, reduceCtorEq, Nat.reduceEqDiff, reduceIte, Nat.reduceAdd, Nat.reduceSub, Nat.reduceLeDiff, Int.reduceToNat, Nat.reduceBEq]
                    have := ih false false a2 (by omega) (by omega)
                    repeat (refine ⟨by (try simp only [List.length_append, List.length_cons, List.length_nil]); omega, ?_⟩)
                    exact this
                  | true =>
                    simp only [wrap32, leN, leN2, go_sem, reduceCtorEq, Nat.reduceEqDiff, reduceIte, Nat.reduceAdd, Nat.reduceSub, Nat.reduceLeDiff, Int.reduceToNat, Nat.reduceBEq]
                    have := ih (decide (c ≤ lo)) false a2 (by omega) (by omega)
                    repeat (refine ⟨by (try simp only [List.length_append, List.length_cons, List.length_nil]); omega, ?_⟩)
                    exact this
            · rw [lt_f hA]
              simp only [unVal, go_sem, reduceCtorEq, Nat.reduceEqDiff, reduceIte, Nat.reduceAdd, Nat.reduceSub, Nat.reduceLeDiff, Int.reduceToNat, Nat.reduceBEq]
              rw [items_one h0 (by rw [← hd]; exact hi) (by rw [hr1]; exact nor_one hA), clsRes_map, hr1]
              cases inn with
              | true =>
                simp only [go_sem, reduceCtorEq, Nat.reduceEqDiff, reduceIte, Nat.reduceAdd, Nat.reduceSub, Nat.reduceLeDiff, Int.reduceToNat, Nat.reduceBEq]
                have := ih true false a2 (by omega) (by omega)
                repeat (refine ⟨by (try simp only [List.length_append, List.length_cons, List.length_nil]); omega, ?_⟩)
                exact this
              | false =>
                simp only [wrap32, leN, leN2, go_sem, reduceCtorEq, Nat.reduceEqDiff, reduceIte, Nat.reduceAdd, Nat.reduceSub, Nat.reduceLeDiff, Int.reduceToNat, Nat.reduceBEq]
                cases hq : decide (lo ≤ c) with
                | false =>
                  simp only [go_sem, reduceCtorEq, Nat.reduceEqDiff, reduceIte, Nat.reduceAdd, Nat.reduceSub, Nat.reduceLeDiff, Int.reduceToNat, Nat.reduceBEq]
                  have := ih false false a2 (by omega) (by omega)
                  repeat (refine ⟨by (try simp only [List.length_append, List.length_cons, List.length_nil]); omega, ?_⟩)
                  exact this
                | true =>
                  simp only [wrap32, leN, leN2, go_sem, reduceCtorEq, Nat.reduceEqDiff, reduceIte, Nat.reduceAdd, Nat.reduceSub, Nat.reduceLeDiff, Int.reduceToNat, Nat.reduceBEq]
                  have := ih (decide (c ≤ lo)) false a2 (by omega) (by omega)
                  repeat (refine ⟨by (try simp only [List.length_append, List.length_cons, List.length_nil]); omega, ?_⟩)
                  exact this
    · rw [List.drop_of_length_le (by omega), items_nil]
      exact class_out p hp c neg inn f at_ (by omega) (by omega)
theorem gclass_snd (p : Bs) (hp : p.length ≤ 1048576) (at_ : Nat) (ha : at_ ≤ p.length) (c : UInt8) : Snd Tryd.prog (gl m) 89 [S p, N at_, U8 c] (match clsL (p.drop at_) with | none => .tup [B false, I (-1)] | some x => .tup [B (hit x.2.1 c != x.1), N (p.length - x.2.2.length)]) := by
  have hw1 : IntKind.i64.wrap ((at_ : Int) + 1) = ((at_ + 1 : Nat) : Int) := wrapN (at_ + 1) (by omega) (by omega)
  refine snd_of (fn := Tryd.f89) (af := gclass) Tryd.func89 (gclass_comp m) mixed (kn_ok m) (Nat.le_of_ble_eq_true rfl) ?_
  simp only [gclass, go_sem, reduceCtorEq, Nat.reduceEqDiff, reduceIte, Nat.reduceAdd, Nat.reduceSub, Nat.reduceLeDiff, Int.reduceToNat, Nat.reduceBEq]
  by_cases h : at_ < p.length
  · have hd : p.drop at_ = p[at_] :: p.drop (at_ + 1) := List.drop_eq_getElem_cons h
    rw [lt_t h]
    simp only [getE h, go_sem, reduceCtorEq, Nat.reduceEqDiff, reduceIte, Nat.reduceAdd, Nat.reduceSub, Nat.reduceLeDiff, Int.reduceToNat, Nat.reduceBEq]
    by_cases h33 : p[at_] = 33
    · have e : clsL (p.drop at_) = (items true (p.drop (at_ + 1))).map fun x => (true, x.1, x.2) := by rw [hd, h33]; rfl
      have e2 : (match clsL (p.drop at_) with | none => AV.tup [B false, I (-1)] | some x => .tup [B (hit x.2.1 c != x.1), N (p.length - x.2.2.length)]) = clsRes p c true false (items true (p.drop (at_ + 1))) := by
        rw [e]; cases items true (p.drop (at_ + 1)) <;> rfl
      rw [e2, u8b_t (n := 33) h33 rfl]
      simp only [hw1, go_sem, reduceCtorEq, Nat.reduceEqDiff, reduceIte, Nat.reduceAdd, Nat.reduceSub, Nat.reduceLeDiff, Int.reduceToNat, Nat.reduceBEq]
      repeat (refine ⟨by (try simp only [List.length_append, List.length_cons, List.length_nil]); omega, ?_⟩)
      exact class_loop p hp c true _ false true (at_ + 1) (Nat.le_refl _) (by omega)
    · rw [u8b_f (n := 33) h33 rfl]
      simp only [getE h, go_sem, reduceCtorEq, Nat.reduceEqDiff, reduceIte, Nat.reduceAdd, Nat.reduceSub, Nat.reduceLeDiff, Int.reduceToNat, Nat.reduceBEq]
      by_cases h94 : p[at_] = 94
      · have e : clsL (p.drop at_) = (items true (p.drop (at_ + 1))).map fun x => (true, x.1, x.2) := by rw [hd, h94]; rfl
        have e2 : (match clsL (p.drop at_) with | none => AV.tup [B false, I (-1)] | some x => .tup [B (hit x.2.1 c != x.1), N (p.length - x.2.2.length)]) = clsRes p c true false (items true (p.drop (at_ + 1))) := by
          rw [e]; cases items true (p.drop (at_ + 1)) <;> rfl
        rw [e2, u8b_t (n := 94) h94 rfl]
        simp only [hw1, go_sem, reduceCtorEq, Nat.reduceEqDiff, reduceIte, Nat.reduceAdd, Nat.reduceSub, Nat.reduceLeDiff, Int.reduceToNat, Nat.reduceBEq]
        repeat (refine ⟨by (try simp only [List.length_append, List.length_cons, List.length_nil]); omega, ?_⟩)
        exact class_loop p hp c true _ false true (at_ + 1) (Nat.le_refl _) (by omega)
      · have hneg : negated (p.drop at_) = false := by rw [hd]; simp [negated, h33, h94]
        have e : clsL (p.drop at_) = (items true (p.drop at_)).map fun x => (false, x.1, x.2) := by simp [clsL, behindNot, hneg]
        have e2 : (match clsL (p.drop at_) with | none => AV.tup [B false, I (-1)] | some x => .tup [B (hit x.2.1 c != x.1), N (p.length - x.2.2.length)]) = clsRes p c false false (items true (p.drop at_)) := by
          rw [e]; cases items true (p.drop at_) <;> rfl
        rw [e2, u8b_f (n := 94) h94 rfl]
        simp only [go_sem, reduceCtorEq, Nat.reduceEqDiff, reduceIte, Nat.reduceAdd, Nat.reduceSub, Nat.reduceLeDiff, Int.reduceToNat, Nat.reduceBEq]
        repeat (refine ⟨by (try simp only [List.length_append, List.length_cons, List.length_nil]); omega, ?_⟩)
        exact class_loop p hp c false _ false true at_ (Nat.le_refl _) ha
  · have e2 : (match clsL (p.drop at_) with | none => AV.tup [B false, I (-1)] | some x => .tup [B (hit x.2.1 c != x.1), N (p.length - x.2.2.length)]) = clsRes p c false false (items true (p.drop at_)) := by
      rw [List.drop_of_length_le (by omega)]; simp [clsL, behindNot, negated, items_nil, clsRes]
    rw [e2, lt_f h]
    simp only [go_sem, reduceCtorEq, Nat.reduceEqDiff, reduceIte, Nat.reduceAdd, Nat.reduceSub, Nat.reduceLeDiff, Int.reduceToNat, Nat.reduceBEq]
    repeat (refine ⟨by (try simp only [List.length_append, List.length_cons, List.length_nil]); omega, ?_⟩)
    exact class_loop p hp c false _ false true at_ (Nat.le_refl _) ha
end Go.Gb

