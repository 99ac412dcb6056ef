import Derived.Lib.Bytealg
import Derived.Lib.Strings
import Derived.Lib.Replace
import Derived.Lib.ReplaceLaws
import Derived.Lib.SlTrimSet
import Derived.Test.YtolghafejibajaaDoorEvC
import Derived.Test.YtolghafejibajaaDoorShelf
import Derived.Shelf.Strings.SlTrimAscii
import Derived.KernelRfl
/- Lines: what the functions of layer 5 compute, in plain lists. -/
namespace Go.Ln
set_option linter.unusedVariables false
abbrev Bs := List UInt8

/-- the place of the first byte c -/
def idx (s : Bs) (c : UInt8) : Option Nat := match s with
  | [] => none
  | b :: l => if b = c then some 0 else (idx l c).map (· + 1)
theorem idx_eq (s : Bs) (c : UInt8) : Lib.indexByte s c = match idx s c with | none => -1 | some n => (n : Int) := by
  induction s with
  | nil => rfl
  | cons b l ih =>
    simp only [Lib.indexByte, idx]
    by_cases h : b = c
    · simp [h]
    · simp only [beq_iff_eq, h, if_false, ih]
      cases idx l c with
      | none => simp
      | some n =>
        simp only [Option.map_some]
        rw [if_neg (by omega)]; rfl
theorem idx_lt {s : Bs} {c : UInt8} {n : Nat} (h : idx s c = some n) : n < s.length := by
  induction s generalizing n with
  | nil => cases h
  | cons b l ih =>
    simp only [idx] at h
    split at h
    · injection h with h; subst h; simp
    · simp only [Option.map_eq_some_iff] at h
      obtain ⟨m, h1, rfl⟩ := h
      have := ih h1; simp; omega
theorem idx_of {s : Bs} {c : UInt8} {n : Nat} (h : s[n]? = some c) (hn : ∀ j, j < n → s[j]? ≠ some c) : idx s c = some n := by
  induction s generalizing n with
  | nil => simp at h
  | cons b l ih =>
    simp only [idx]
    cases n with
    | zero => simp at h; simp [h]
    | succ n =>
      have : b ≠ c := by intro e; exact hn 0 (by omega) (by simp [e])
      rw [if_neg this, ih (by simpa using h) (fun j hj => by have := hn (j + 1) (by omega); simpa using this)]; rfl
theorem idx_none {s : Bs} {c : UInt8} (hn : ∀ j, j < s.length → s[j]? ≠ some c) : idx s c = none := by
  induction s with
  | nil => rfl
  | cons b l ih =>
    simp only [idx]
    have : b ≠ c := by intro e; exact hn 0 (by simp) (by simp [e])
    rw [if_neg this, ih (fun j hj => by have := hn (j + 1) (by simp; omega); simpa using this)]; rfl

/-- the lines of a text -/
def lines : Bs → List Bs
  | [] => []
  | c :: l => if c = 10 then [10] :: lines l else match lines l with | [] => [[c]] | x :: xs => (c :: x) :: xs
theorem lines_none {s : Bs} (h : idx s 10 = none) (hs : s ≠ []) : lines s = [s] := by
  induction s with
  | nil => exact absurd rfl hs
  | cons b l ih =>
    simp only [idx] at h
    split at h
    · cases h
    · rename_i hb
      simp only [lines, hb, if_false]
      by_cases hl : l = []
      · subst hl; rfl
      · rw [ih (by simpa using h) hl]
theorem lines_some {s : Bs} {n : Nat} (h : idx s 10 = some n) : lines s = s.take (n + 1) :: lines (s.drop (n + 1)) := by
  induction s generalizing n with
  | nil => cases h
  | cons b l ih =>
    simp only [idx] at h
    split at h
    · rename_i hb; injection h with h; subst h; simp [lines, hb]
    · rename_i hb
      simp only [Option.map_eq_some_iff] at h
      obtain ⟨m, h1, rfl⟩ := h
      simp only [lines, hb, if_false, ih h1, List.take_succ_cons, List.drop_succ_cons]

/-- a carriage return ahead of each line feed that has none; p: the byte ahead -/
def crlf : UInt8 → Bs → Bs
  | _, [] => []
  | p, c :: l => if c = 10 ∧ p ≠ 13 then 13 :: 10 :: crlf 10 l else c :: crlf c l
/-- no carriage return ahead of a line feed -/
def lf : Bs → Bs
  | [] => []
  | c :: l => if c = 13 ∧ l.head? = some 10 then lf l else c :: lf l
/-- the bytes at the end that are blank -/
def blank (c : UInt8) : Bool := c == 32 || c == 9 || c == 13
def chop (s : Bs) : Bs := (s.reverse.dropWhile blank).reverse
def unfeed (s : Bs) : Bs := if s.getLast? = some 10 then s.dropLast else s
/-- a line without what is blank at its end -/
def bare (s : Bs) : Bs := chop (unfeed s)
/-- the first line that is not empty -/
def first : List Bs → Bs
  | [] => []
  | l :: r => if unfeed l ≠ [] then unfeed l else first r
def starts (s : Bs) : Bool := s.head? == some 35
/-- the program's way: the lines that stay -/
def keepP (out : List Bs) : List Bs → List Bs
  | [] => out
  | l :: r => if starts l then keepP out r else if bare l = [] ∧ (out = [] ∨ out.getLast? = some []) then keepP out r else keepP (out ++ [bare l]) r
def dropE (out : List Bs) : List Bs := if out.getLast? = some [] then out.dropLast else out
def joinF (out : List Bs) : Bs := if out = [] then [] else [10].intercalate out ++ [10]
def cleanP (s : Bs) : Bs := joinF (dropE (keepP [] (lines s)))
/-- the reference's way -/
def keepR (out : List Bs) (e : Bool) : List Bs → List Bs
  | [] => out
  | l :: r => if starts l then keepR out e r else if bare l = [] then keepR out true r else keepR ((if e = true ∧ out ≠ [] then out ++ [[10]] else out) ++ [bare l ++ [10]]) false r
def cleanR (s : Bs) : Bs := (keepR [] false (lines s)).flatten

/-! ### lines are not empty -/
theorem lines_ne : ∀ {s : Bs} {l : Bs}, l ∈ lines s → l ≠ [] := by
  intro s
  induction s with
  | nil => intro l h; simp [lines] at h
  | cons c s ih =>
    intro l h
    simp only [lines] at h
    split at h
    · rcases List.mem_cons.1 h with rfl | h
      · simp
      · exact ih h
    · split at h
      · simp at h; subst h; simp
      · rename_i x xs hx
        rcases List.mem_cons.1 h with rfl | h
        · simp
        · exact ih (by rw [hx]; exact List.mem_cons_of_mem _ h)
theorem lines_flatten (s : Bs) : (lines s).flatten = s := by
  induction s with
  | nil => rfl
  | cons c s ih =>
    simp only [lines]
    split
    · rename_i h; simp [h, ih]
    · split
      · rename_i hx; rw [hx] at ih; simp at ih; simp [← ih]
      · rename_i x xs hx; rw [hx] at ih; simp only [List.flatten_cons, List.cons_append] at ih ⊢; rw [ih]
theorem lines_len (s : Bs) : (lines s).length ≤ s.length := by
  have : ∀ (L : List Bs), (∀ l, l ∈ L → l ≠ []) → L.length ≤ L.flatten.length := by
    intro L
    induction L with
    | nil => simp
    | cons l L ih =>
      intro h
      have h1 := ih fun x hx => h x (List.mem_cons_of_mem _ hx)
      have h2 : 0 < l.length := by have := h l (List.mem_cons_self ..); cases l; exact absurd rfl this; simp
      simp only [List.length_cons, List.flatten_cons, List.length_append]; omega
  have h := this (lines s) fun l hl => lines_ne hl
  rwa [lines_flatten] at h
theorem mem_len {L : List Bs} {l : Bs} (h : l ∈ L) : l.length ≤ L.flatten.length := by
  induction L with
  | nil => cases h
  | cons x L ih =>
    simp only [List.flatten_cons, List.length_append]
    rcases List.mem_cons.1 h with rfl | h
    · omega
    · have := ih h; omega
theorem line_len {s l : Bs} (h : l ∈ lines s) : l.length ≤ s.length := by have := mem_len h; rwa [lines_flatten] at this
theorem take_flatten_succ (l : List Bs) {i : Nat} (h : i < l.length) : (l.take (i + 1)).flatten = (l.take i).flatten ++ l[i] := by
  rw [List.take_succ_eq_append_getElem h, List.flatten_append]; simp
theorem hasSuffix_feed (s : Bs) : Lib.hasSuffix s [10] = true ↔ s.getLast? = some 10 := by
  simp only [Lib.hasSuffix]
  rw [List.isSuffixOf_iff_suffix]
  constructor
  · rintro ⟨t, rfl⟩; simp
  · intro h
    have hne : s ≠ [] := by rintro rfl; simp at h
    refine ⟨s.dropLast, ?_⟩
    have := List.dropLast_concat_getLast hne
    rw [List.getLast?_eq_some_getLast hne] at h
    injection h with h
    rw [h] at this; exact this
theorem trimSuffix_feed (s : Bs) : Lib.trimSuffix s [10] = unfeed s := by
  have hb := hasSuffix_feed s
  unfold Lib.trimSuffix unfeed
  by_cases h : s.getLast? = some 10
  · rw [if_pos (hb.2 h), if_pos h, List.dropLast_eq_take]; rfl
  · rw [if_neg (fun e => h (hb.1 e)), if_neg h]
theorem unfeed_nil {l : Bs} (hl : l ≠ []) : unfeed l = [] ↔ l = [10] := by
  constructor
  · intro h
    simp only [unfeed] at h
    split at h
    · rename_i h1
      have := List.dropLast_concat_getLast hl
      rw [List.getLast?_eq_some_getLast hl] at h1
      injection h1 with h1
      rw [h, h1] at this; simpa using this.symm
    · exact absurd h hl
  · rintro rfl; rfl
theorem first_drop_t (L : List Bs) {i : Nat} (h : i < L.length) (hu : unfeed L[i] ≠ []) : first (L.drop i) = unfeed L[i] := by
  rw [List.drop_eq_getElem_cons h]; simp [first, hu]
theorem first_drop_f (L : List Bs) {i : Nat} (h : i < L.length) (hu : unfeed L[i] = []) : first (L.drop i) = first (L.drop (i + 1)) := by
  rw [List.drop_eq_getElem_cons h]; simp [first, hu]
end Go.Ln

/- Lines: the ends of lines, the first bytes, bounds. -/
namespace Go.Ln
set_option linter.unusedVariables false
theorem getX {α : Type} {l : List α} {i : Nat} (h : i < l.length) : l[i]? = some l[i] := List.getElem?_eq_getElem h
theorem u8b_t {c d : UInt8} {n : Int} (h : c = d) (hd : (d.toNat : Int) = n) : ((c.toNat : Int) == n) = true := by rw [h, hd]; simp
theorem u8b_f {c d : UInt8} {n : Int} (h : c ≠ d) (hd : (d.toNat : Int) = n) : ((c.toNat : Int) == n) = false := by
  rw [← hd]; simp only [beq_eq_false_iff_ne]; intro e; exact h (UInt8.toNat_inj.1 (by omega))
theorem u8n_t {c d : UInt8} {n : Int} (h : c ≠ d) (hd : (d.toNat : Int) = n) : ((c.toNat : Int) != n) = true := by
  rw [bne, u8b_f h hd]; rfl
theorem u8n_f {c d : UInt8} {n : Int} (h : c = d) (hd : (d.toNat : Int) = n) : ((c.toNat : Int) != n) = false := by
  rw [bne, u8b_t h hd]; rfl
theorem eqN_t {a b : Nat} (h : a = b) : (((a : Int)) == (b : Int)) = true := by simp [h]
theorem eqN_f {a b : Nat} (h : a ≠ b) : (((a : Int)) == (b : Int)) = false := by simp; omega

/-- the byte ahead of place i -/
def prev (s : Bs) (i : Nat) : UInt8 := if i = 0 then 0 else s.getD (i - 1) 0
def crlfF (s : Bs) (i : Nat) : Bs := crlf (prev s i) (s.drop i)
theorem prev_succ {s : Bs} {i : Nat} (h : i < s.length) : prev s (i + 1) = s[i] := by simp [prev, List.getD, getX h]
theorem prev_at {s : Bs} {i : Nat} (h : i ≠ 0) (h2 : i - 1 < s.length) : prev s i = s[i - 1] := by simp [prev, h, List.getD, getX h2]
theorem crlfF_add {s : Bs} {i : Nat} (h : i < s.length) (h1 : s[i] = 10) (h2 : prev s i ≠ 13) : crlfF s i = 13 :: s[i] :: crlfF s (i + 1) := by
  rw [crlfF, List.drop_eq_getElem_cons h, crlf, if_pos ⟨h1, h2⟩, crlfF, prev_succ h, h1]
theorem crlfF_keep {s : Bs} {i : Nat} (h : i < s.length) (h1 : ¬ (s[i] = 10 ∧ prev s i ≠ 13)) : crlfF s i = s[i] :: crlfF s (i + 1) := by
  rw [crlfF, List.drop_eq_getElem_cons h, crlf, if_neg h1, crlfF, prev_succ h]
theorem crlfF_end (s : Bs) : crlfF s s.length = [] := by simp [crlfF, crlf]
theorem crlf_len : ∀ (p : UInt8) (s : Bs), (crlf p s).length ≤ 2 * s.length := by
  intro p s
  induction s generalizing p with
  | nil => simp [crlf]
  | cons c s ih =>
    simp only [crlf]
    split
    · have := ih 10; simp only [List.length_cons]; omega
    · have := ih c; simp only [List.length_cons]; omega
theorem lf_skip {s : Bs} {i : Nat} (h : i + 1 < s.length) (h1 : s[i] = 13) (h2 : s[i + 1] = 10) : lf (s.drop i) = lf (s.drop (i + 1)) := by
  rw [List.drop_eq_getElem_cons (by omega), lf, if_pos]
  exact ⟨h1, by rw [List.head?_drop, getX h, h2]⟩
theorem lf_keep {s : Bs} {i : Nat} (h : i < s.length) (h1 : ¬ (s[i] = 13 ∧ s[i + 1]? = some 10)) : lf (s.drop i) = s[i] :: lf (s.drop (i + 1)) := by
  rw [List.drop_eq_getElem_cons h, lf, if_neg]
  rw [List.head?_drop]; exact h1
theorem lf_len : ∀ (s : Bs), (lf s).length ≤ s.length := by
  intro s
  induction s with
  | nil => simp [lf]
  | cons c s ih => simp only [lf]; split <;> simp only [List.length_cons] <;> omega
/-- a zero among the first 8000 bytes -/
def binary (s : Bs) : Bool := (idx (s.take 8000) 0).isSome
theorem binary_t {s : Bs} {i : Nat} (h : i < s.length) (h2 : i < 8000) (h3 : s[i] = 0) : binary s = true := by
  rw [binary]
  cases he : idx (s.take 8000) 0 with
  | some n => rfl
  | none =>
    have : ∀ (l : List UInt8), idx l 0 = none → ∀ (j : Nat), l[j]? ≠ some 0 := by
      intro l
      induction l with
      | nil => intro _ j; simp
      | cons b l ih =>
        intro h j
        simp only [idx] at h
        split at h
        · cases h
        · rename_i hb
          cases j with
          | zero => simpa using hb
          | succ j => simpa using ih (by simpa using h) j
    exact absurd (by rw [List.getElem?_take_of_lt h2, getX h, h3]) (this _ he i)
theorem binary_f {s : Bs} (h : ∀ (j : Nat) b, j < 8000 → s[j]? = some b → b ≠ 0) : binary s = false := by
  rw [binary, idx_none]; rfl
  intro j hj e
  have h8 : j < 8000 := by simp only [List.length_take] at hj; omega
  rw [List.getElem?_take_of_lt h8] at e
  exact h j _ h8 e rfl
/-- not too many, not too long -/
def short (L : List Bs) (n b : Nat) : Bool := decide (L.flatten.length ≤ b) && decide (L.length ≤ n)
/-- a list that is the lines of a text, as the reference looks at it -/
def okLine (l : Bs) (last : Bool) : Bool := decide (l ≠ []) && !(l.dropLast.contains 10) && (l.getLast? == some 10 || last)
def okLines : List Bs → Bool
  | [] => true
  | l :: r => okLine l r.isEmpty && okLines r
end Go.Ln

/- Lines: what ReplaceAll does for the ends of lines; what is blank. -/
namespace Go.Ln
set_option linter.unusedVariables false
open Go.Lib in
theorem replace_lf (n : Nat) : ∀ (s : Bs), s.length ≤ n → Lib.replaceK [13, 10] [10] (Lib.count s [13, 10]) s = lf s := by
  induction n with
  | zero =>
    intro s h
    have : s = [] := List.length_eq_zero_iff.1 (by omega)
    subst this
    rw [count_miss (by rfl)]; rfl
  | succ n ih =>
    intro s h
    cases s with
    | nil => rw [count_miss (by rfl)]; rfl
    | cons c l =>
      simp only [List.length_cons] at h
      by_cases hp : [13, 10].isPrefixOf (c :: l) = true
      · rw [List.isPrefixOf_iff_prefix] at hp
        obtain ⟨t, ht⟩ := hp
        simp only [List.cons_append, List.nil_append, List.cons.injEq] at ht
        obtain ⟨rfl, rfl⟩ := ht
        have hi : index (13 :: 10 :: t) [13, 10] = ((0 : Nat) : Int) := by simp [index, List.isPrefixOf]
        simp only [List.length_cons] at h
        have := ih t (by omega)
        rw [count_hit (by simp) hi, Nat.add_comm, replaceK_hit _ _ _ _ 0 hi]
        simp only [List.length_cons, List.length_nil, List.take_zero, List.nil_append, Nat.zero_add, Nat.reduceAdd, List.drop_succ_cons, List.drop_zero, this]
        simp [lf]
      · have hl : lf (c :: l) = c :: lf l := by
          rw [lf, if_neg]
          rintro ⟨rfl, h2⟩
          cases l with
          | nil => cases h2
          | cons d l => simp only [List.head?_cons, Option.some.injEq] at h2; subst h2; exact hp (by simp [List.isPrefixOf])
        have hb := ih l (by omega)
        have hx : index (c :: l) [13, 10] = if index l [13, 10] == -1 then -1 else index l [13, 10] + 1 := by
          simp only [index]; rw [if_neg hp]
        by_cases hm : index l [13, 10] = -1
        · rw [hm] at hx
          rw [count_miss (by rw [hx]; rfl), hl, ← hb, count_miss hm]; rfl
        · have hge := index_ge l [13, 10]
          obtain ⟨i, hi⟩ : ∃ i : Nat, index l [13, 10] = i := ⟨(index l [13, 10]).toNat, by omega⟩
          have hx' : index (c :: l) [13, 10] = ((i + 1 : Nat) : Int) := by
            rw [hx, if_neg (by simpa using hm), hi]; rfl
          rw [count_hit (by simp) hx', Nat.add_comm 1, replaceK_hit _ _ _ _ (i + 1) hx', hl, ← hb, count_hit (by simp) hi, Nat.add_comm 1, replaceK_hit _ _ _ _ i hi]
          simp [Nat.add_right_comm i 1]
theorem replaceAll_lf (s : Bs) : Lib.replaceAll s [13, 10] [10] = lf s := by
  unfold Lib.replaceAll Lib.replace
  rw [if_neg (by simp)]
  have : Lib.replaceNum s [13, 10] (-1) = Lib.count s [13, 10] := by simp [Lib.replaceNum]
  rw [this]; exact replace_lf _ s (Nat.le_refl _)
theorem trimRight_chop (s : Bs) : Lib.trimRightS s [32, 9, 13] = chop s := by
  unfold Lib.trimRightS chop
  have : (fun x => [32, 9, 13].contains x) = blank := by
    funext x
    simp only [List.contains_cons, List.contains_nil, blank, Bool.or_false, Bool.or_assoc]
  rw [this]
theorem chop_take {s : Bs} {n : Nat} (h : n < s.length) (h2 : blank s[n] = true) : chop (s.take (n + 1)) = chop (s.take n) := by
  rw [chop, List.take_succ_eq_append_getElem h, List.reverse_append]; simp [h2, chop]
theorem chop_stop {s : Bs} {n : Nat} (h : n < s.length) (h2 : blank s[n] = false) : chop (s.take (n + 1)) = s.take (n + 1) := by
  rw [chop]
  have e : (s.take (n + 1)).reverse = s[n] :: (s.take n).reverse := by rw [List.take_succ_eq_append_getElem h, List.reverse_append]; simp
  rw [e, List.dropWhile_cons, h2, if_neg (by simp), ← e, List.reverse_reverse]
theorem chop_nil : chop [] = [] := rfl
theorem unfeed_cut {s : Bs} (h : 0 < s.length) : unfeed s = if s[s.length - 1] = 10 then s.take (s.length - 1) else s := by
  rw [unfeed, List.getLast?_eq_getElem?, getX (by omega : s.length - 1 < s.length), List.dropLast_eq_take]
  simp only [Option.some.injEq]
theorem chop_len (s : Bs) : (chop s).length ≤ s.length := by
  rw [chop, List.length_reverse]
  have := (List.dropWhile_sublist blank (l := s.reverse)).length_le
  simpa using this
theorem unfeed_len (s : Bs) : (unfeed s).length ≤ s.length := by rw [unfeed]; split <;> simp
theorem bare_len (s : Bs) : (bare s).length ≤ s.length := Nat.le_trans (chop_len _) (unfeed_len _)
end Go.Ln

/- Lines: the functions of layer 5, walked: the library's, splitting and joining. -/
namespace Go.Ln
open Go Go.Ev Go.Proofs
set_option linter.unusedVariables false
set_option linter.unusedSimpArgs false

def gl (m : Int) : Tabs := ⟨fun g => if g = 0 then some [.int .i64 m] else none, fun f => if f = 50 then some [.pass, .ptr] else none⟩
def kn (m : Int) : Kn := ⟨Snd Tryd.prog (gl m), SndG Tryd.prog (gl m), fun f => ∃ fn, Tryd.prog.funcs[f]? = some fn ∧ fn.body.isSome = true ∧ fn.name ≠ "runtime.NumGoroutine"⟩
theorem kn_ok (m : Int) : Kn.Ok Tryd.prog (gl m) (kn m) := ⟨fun _ _ _ h => h, fun _ _ _ _ _ h => h, fun _ h => h⟩
theorem tab0 {m : Int} {w : World} {zf : Nat → Nat → Prop} (h : TabsAt (gl m) w zf) : w.cell? ⟨0, 0, none⟩ = some (.int .i64 m) := (h.cell 0 [.int .i64 m] rfl 0 _ rfl).1
theorem mixed : Tryd.prog.follows .mixedOrders = true := by kernel_rfl
variable {m : Int}

/-! ### The library -/
theorem index1 (s : Bs) (c : UInt8) : Snd Tryd.prog (gl m) 58 [S s, S [c]] (I (Lib.indexByte s c)) :=
  snd_same (us := [.string (str s), .string (str [c])]) rfl fun w zf h => by
    have := Tryd.strings_Index_one (str s) c w
    rw [str_dataL] at this; exact this
theorem indexByte (s : Bs) (c : UInt8) : Snd Tryd.prog (gl m) 57 [S s, U8 c] (I (Lib.indexByte s c)) :=
  snd_same (us := [.string (str s), .int .u8 c.toNat]) rfl fun w zf h => by
    have := Tryd.strings_IndexByte (str s) (c.toNat : Int) w
    rw [str_dataL] at this
    simpa using this
theorem hasPrefix (s p : Bs) : Snd Tryd.prog (gl m) 51 [S s, S p] (B (Lib.hasPrefix s p)) :=
  snd_same (us := [.string (str s), .string (str p)]) rfl fun w zf h => by simpa only [str_dataL] using Tryd.strings_HasPrefix (str s) (str p) w
theorem trimSuffix (s p : Bs) (hs : s.length ≤ 4294967296) : Snd Tryd.prog (gl m) 53 [S s, S p] (S (Lib.trimSuffix s p)) :=
  snd_same (us := [.string (str s), .string (str p)]) rfl fun w zf h => by
    have := Tryd.strings_TrimSuffix (str s) (str p) w (by rw [str_size]; omega)
    simp only [str_dataL] at this; exact this
theorem trimRight (s p : Bs) (hs : s.length ≤ 4294967296) (hp : p.length ≤ 1048576) (ha : ∀ (j : Nat) b, p[j]? = some b → b.toNat < 128) : Snd Tryd.prog (gl m) 52 [S s, S p] (S (Lib.trimRightS s p)) :=
  snd_below (us := [.string (str s), .string (str p)]) rfl fun w zf h => by
    have := Any.strings_TrimRight_ascii Tryd.lays162 (fun w => by kernel_rfl) (by kernel_rfl) (str s) (str p) w (by rw [str_size]; omega) (by rw [str_size]; omega) (by rw [str_dataL]; exact ha)
    simp only [str_dataL] at this; exact this
theorem replaceAll (s a b : Bs) (hs : s.length ≤ 1048576) (h1 : 1 ≤ a.length) (hlen : s.length + Lib.countB (str s) (str a) * b.length ≤ 140737488355328) : Snd Tryd.prog (gl m) 56 [S s, S a, S b] (S (Lib.replaceAll s a b)) :=
  snd_below (us := [.string (str s), .string (str a), .string (str b)]) rfl fun w zf h => by
    have := Tryd.strings_ReplaceAll (str s) (str a) (str b) m w (by rw [str_size]; omega) (tab0 h) (by rw [str_size]; exact h1) (by rw [str_size, str_size]; exact hlen)
    simp only [str_dataL] at this; exact this
theorem join (l : List Bs) (p : Bs) (hl : l.length ≤ 1048576) (hn : (Lib.join l p).length ≤ 140737488355328) : Snd Tryd.prog (gl m) 54 [.sl .frn 1 (ss l), S p] (S (Lib.join l p)) := by
  intro w vals zf hzf htabs hargs
  have hss : ss l = (l.map fun x => Value.string (str x)).map .lit := by simp [ss]
  rw [hss] at hargs
  obtain ⟨v, vs, hv, hr, hp⟩ : ∃ v, ∃ vs, vals = #[v, .string (str p)] ∧ Rel (X0 w zf) false (.sl .frn 1 ((l.map fun x => Value.string (str x)).map .lit)) v [] ∧ vs = () := by
    generalize hvl : vals.toList = L at hargs
    generalize hF : ([] : List Nat) = F at hargs
    cases hargs with
    | cons _ _ v F1 _ vs F2 h hs hd =>
      cases hs with
      | cons _ _ v2 F3 _ vs2 F4 h2 hs2 hd2 =>
        cases hs2
        have e2 := h2.lit_inv
        obtain ⟨e2, _, e3⟩ := e2
        subst e2; subst e3
        have e1 : F1 = [] := by simpa using (List.append_eq_nil_iff.1 hF.symm).1
        subst e1
        exact ⟨v, (), by apply Array.ext'; rw [hvl], h, rfl⟩
  subst hv
  rcases frn_lits hzf hr with ⟨h0, a, c, rfl⟩ | ⟨bk, o, c, rfl, hc, hcell, hlt⟩
  · have : l = [] := by simpa using h0
    subst this
    refine (Tryd.strings_Join_none a c (str p) w).mono ?_
    rintro e w' ⟨rfl, rfl⟩
    exact ⟨_, rfl, back_lit rfl (.refl _ _)⟩
  · rw [List.length_map] at hc ⊢
    by_cases h0 : l = []
    · subst h0
      refine (Tryd.strings_Join_none (some ⟨bk, o, none⟩) c (str p) w).mono ?_
      rintro e w' ⟨rfl, rfl⟩
      exact ⟨_, rfl, back_lit rfl (.refl _ _)⟩
    · have em : (l.map str).map (·.data.toList) = l := by simp [str_dataL, List.map_map, Function.comp_def]
      have := Tryd.strings_Join bk o c (l.map str) (str p) w (fun j x hx => hcell j _ (by simp only [List.getElem?_map, Option.map_eq_some_iff] at hx ⊢; obtain ⟨y, h1, rfl⟩ := hx; exact ⟨y, h1, rfl⟩)) (hlt (by simpa using h0)) (by simp; omega) (by simpa using hc) (by rw [em, str_dataL]; exact hn)
      rw [em, str_dataL, List.length_map] at this
      refine this.mono ?_
      rintro e w' ⟨rfl, hb⟩
      exact ⟨_, rfl, back_lit rfl hb⟩

/-! ### lines.Split -/
def psplit_l0' : AC := .seq (.seq (.reg (.seq [⟨(some (5, false)), none, .mov (.tmp 0 true) .peek⟩,
      ⟨(some (6, false)), none, .bin .neq (.tmp 5 false) (.cst (.string (str [])) (.lit (.string (str []))))⟩])) [0, 3, 6] []
  (.cond (.tmp 6 false)
    (.skip)
    (.exit 0))) [0, 3] []
  (.block 1 (.seq (.reg (.seq [⟨(some (7, false)), none, .mov (.tmp 0 true) .peek⟩,
      ⟨(some (8, false)), none, .call 58 [(.tmp 7 false), (.cst (.string (str [10])) (.lit (.string (str [10]))))]⟩,
      ⟨(some (9, false)), none, .bin .add (.tmp 8 false) (.cst (.int .i64 1) (.lit (.int .i64 1)))⟩,
      ⟨(some (4, true)), none, .mov (.tmp 9 false) .asg⟩])) [0, 3, 4] []
    (.seq (.seq (.reg (.seq [⟨(some (10, false)), none, .mov (.tmp 4 true) .peek⟩,
      ⟨(some (11, false)), none, .bin .eql (.tmp 10 false) (.cst (.int .i64 0) (.lit (.int .i64 0)))⟩])) [0, 3, 4, 11] []
    (.cond (.tmp 11 false)
      (.reg (.seq [⟨(some (12, false)), none, .mov (.tmp 0 true) .peek⟩,
      ⟨(some (13, false)), none, .len (.tmp 12 false)⟩,
      ⟨(some (4, true)), none, .mov (.tmp 13 false) .asg⟩]))
      (.skip))) [0, 3, 4] []
    (.seq (.reg (.seq [⟨(some (14, false)), none, .mov (.tmp 3 true) .take⟩,
      ⟨(some (15, false)), none, .mov (.tmp 0 true) .peek⟩,
      ⟨(some (16, false)), none, .mov (.tmp 4 true) .peek⟩,
      ⟨(some (17, false)), none, .sub (.tmp 15 false) none (some (.tmp 16 false))⟩,
      ⟨(some (18, false)), none, .buildS 1 1 [(.lit (.string (str [])))] [(0, 1, (.tmp 17 false))]⟩,
      ⟨(some (19, false)), none, .app 1 16 (.tmp 14 false) (.tmp 18 false)⟩,
      ⟨(some (3, true)), none, .mov (.tmp 19 false) .asg⟩])) [0, 3, 4] []
    (.reg (.seq [⟨(some (20, false)), none, .mov (.tmp 0 true) .peek⟩,
      ⟨(some (21, false)), none, .mov (.tmp 4 true) .peek⟩,
      ⟨(some (22, false)), none, .sub (.tmp 20 false) (some (.tmp 21 false)) none⟩,
      ⟨(some (0, true)), none, .mov (.tmp 22 false) .asg⟩]))))))
def psplit_l0 : AC := psplit_l0'
theorem psplit_l0_w (C : Kn) (K : Ex → St → Prop) (s : St) : vcC C psplit_l0 K s = vcC C psplit_l0' K s := nr rfl
def psplit_k1' : AC := .seq (.reg (.seq [⟨(some (23, false)), none, .mov (.tmp 3 true) .take⟩,
      ⟨(some (2, true)), none, .mov (.tmp 23 false) .asg⟩])) [2, 3] []
  (.ret)
def psplit_k1 : AC := psplit_k1'
theorem psplit_k1_w (C : Kn) (K : Ex → St → Prop) (s : St) : vcC C psplit_k1 K s = vcC C psplit_k1' K s := nr rfl
def psplit : AF := ⟨.seq (.reg (.seq [⟨(some (2, true)), none, .mov (.cst (.slice none 0 0) (.sl .own 1 [])) .asg⟩])) [0] []
  (.seq (.reg (.seq [⟨(some (3, true)), none, .mov (.cst (.slice none 0 0) (.sl .own 1 [])) .asg⟩])) [0, 3] []
  (.seq (.block 0 (.loop [0, 3] [] psplit_l0)) [3] [] psplit_k1)),
  [.tmp 2]⟩
theorem psplit_comp (m : Int) : compF Tryd.prog (gl m) [] Tryd.f29 = some psplit := by kernel_rfl
def rsplit_l0' : AC := .seq (.reg (.seq [⟨(some (9, false)), none, .bin .lss (.tmp 8 true) (.tmp 7 true)⟩])) [0, 3, 4, 7, 8, 9] []
  (.seq (.cond (.tmp 9 false)
    (.skip)
    (.exit 0)) [0, 3, 4, 7, 8] []
  (.seq (.block 1 (.seq (.reg (.seq [⟨(some (10, false)), none, .mov (.tmp 8 true) .take⟩,
      ⟨(some (5, true)), none, .mov (.tmp 10 false) .asg⟩])) [0, 3, 4, 5, 7, 8] []
    (.seq (.reg (.seq [⟨(some (11, false)), none, .mov (.tmp 0 true) .peek⟩,
      ⟨(some (12, false)), none, .mov (.tmp 5 true) .peek⟩,
      ⟨(some (13, false)), none, .idx (.tmp 11 false) (.tmp 12 false)⟩,
      ⟨(some (14, false)), none, .bin .eql (.tmp 13 false) (.cst (.int .u8 10) (.lit (.int .u8 10)))⟩])) [0, 3, 4, 5, 7, 8, 14] []
    (.cond (.tmp 14 false)
      (.seq (.reg (.seq [⟨(some (15, false)), none, .mov (.tmp 3 true) .take⟩,
      ⟨(some (16, false)), none, .mov (.tmp 0 true) .peek⟩,
      ⟨(some (17, false)), none, .mov (.tmp 4 true) .peek⟩,
      ⟨(some (18, false)), none, .mov (.tmp 5 true) .peek⟩,
      ⟨(some (19, false)), none, .bin .add (.tmp 18 false) (.cst (.int .i64 1) (.lit (.int .i64 1)))⟩,
      ⟨(some (20, false)), none, .sub (.tmp 16 false) (some (.tmp 17 false)) (some (.tmp 19 false))⟩,
      ⟨(some (21, false)), none, .buildS 1 1 [(.lit (.string (str [])))] [(0, 1, (.tmp 20 false))]⟩,
      ⟨(some (22, false)), none, .app 1 16 (.tmp 15 false) (.tmp 21 false)⟩,
      ⟨(some (3, true)), none, .mov (.tmp 22 false) .asg⟩])) [0, 3, 5, 7, 8] []
      (.reg (.seq [⟨(some (23, false)), none, .mov (.tmp 5 true) .peek⟩,
      ⟨(some (24, false)), none, .bin .add (.tmp 23 false) (.cst (.int .i64 1) (.lit (.int .i64 1)))⟩,
      ⟨(some (4, true)), none, .mov (.tmp 24 false) .asg⟩])))
      (.skip))))) [0, 3, 4, 7, 8] []
  (.reg (.seq [⟨(some (25, false)), none, .bin .add (.tmp 8 true) (.cst (.int .i64 1) (.lit (.int .i64 1)))⟩,
      ⟨(some (8, true)), none, .mov (.tmp 25 false) .peek⟩]))))
def rsplit_l0 : AC := rsplit_l0'
theorem rsplit_l0_w (C : Kn) (K : Ex → St → Prop) (s : St) : vcC C rsplit_l0 K s = vcC C rsplit_l0' K s := nr rfl
def rsplit_k1' : AC := .seq (.seq (.reg (.seq [⟨(some (26, false)), none, .mov (.tmp 4 true) .peek⟩,
      ⟨(some (27, false)), none, .mov (.tmp 0 true) .peek⟩,
      ⟨(some (28, false)), none, .len (.tmp 27 false)⟩,
      ⟨(some (29, false)), none, .bin .lss (.tmp 26 false) (.tmp 28 false)⟩])) [0, 3, 4, 29] []
  (.cond (.tmp 29 false)
    (.reg (.seq [⟨(some (30, false)), none, .mov (.tmp 3 true) .take⟩,
      ⟨(some (31, false)), none, .mov (.tmp 0 true) .peek⟩,
      ⟨(some (32, false)), none, .mov (.tmp 4 true) .peek⟩,
      ⟨(some (33, false)), none, .sub (.tmp 31 false) (some (.tmp 32 false)) none⟩,
      ⟨(some (34, false)), none, .buildS 1 1 [(.lit (.string (str [])))] [(0, 1, (.tmp 33 false))]⟩,
      ⟨(some (35, false)), none, .app 1 16 (.tmp 30 false) (.tmp 34 false)⟩,
      ⟨(some (3, true)), none, .mov (.tmp 35 false) .asg⟩]))
    (.skip))) [3] []
  (.seq (.reg (.seq [⟨(some (36, false)), none, .mov (.tmp 3 true) .take⟩,
      ⟨(some (2, true)), none, .mov (.tmp 36 false) .asg⟩])) [2, 3] []
  (.ret))
def rsplit_k1 : AC := rsplit_k1'
theorem rsplit_k1_w (C : Kn) (K : Ex → St → Prop) (s : St) : vcC C rsplit_k1 K s = vcC C rsplit_k1' K s := nr rfl
def rsplit : AF := ⟨.seq (.reg (.seq [⟨(some (2, true)), none, .mov (.cst (.slice none 0 0) (.sl .own 1 [])) .asg⟩])) [0] []
  (.seq (.reg (.seq [⟨(some (3, true)), none, .mov (.cst (.slice none 0 0) (.sl .own 1 [])) .asg⟩])) [0, 3] []
  (.seq (.reg (.seq [⟨(some (4, true)), none, .mov (.cst (.int .i64 0) (.lit (.int .i64 0))) .asg⟩])) [0, 3, 4] []
  (.seq (.seq (.reg (.seq [⟨(some (6, false)), none, .mov (.tmp 0 true) .peek⟩,
      ⟨(some (7, true)), none, .len (.tmp 6 false)⟩,
      ⟨(some (8, true)), none, .mov (.cst (.int .i64 0) (.lit (.int .i64 0))) .peek⟩])) [0, 3, 4, 7, 8] []
  (.block 0 (.loop [0, 3, 4, 7, 8] [] rsplit_l0))) [0, 3, 4] [] rsplit_k1))),
  [.tmp 2]⟩
theorem rsplit_comp (m : Int) : compF Tryd.prog (gl m) [] Tryd.f43 = some rsplit := by kernel_rfl
def rjoin_l0' : AC := .seq (.reg (.seq [⟨(some (8, false)), none, .bin .lss (.tmp 7 true) (.tmp 6 true)⟩])) [0, 3, 6, 7, 8] []
  (.seq (.cond (.tmp 8 false)
    (.skip)
    (.exit 0)) [0, 3, 6, 7] []
  (.seq (.block 1 (.seq (.reg (.seq [⟨(some (9, false)), none, .mov (.tmp 7 true) .take⟩,
      ⟨(some (4, true)), none, .mov (.tmp 9 false) .asg⟩])) [0, 3, 4, 6, 7] []
    (.reg (.seq [⟨(some (10, false)), none, .mov (.tmp 3 true) .take⟩,
      ⟨(some (11, false)), none, .mov (.tmp 0 true) .peek⟩,
      ⟨(some (12, false)), none, .mov (.tmp 4 true) .peek⟩,
      ⟨(some (13, false)), none, .iad (.tmp 11 false) (.tmp 12 false) 1⟩,
      ⟨(some (14, false)), none, .load (.tmp 13 false) 1 false false⟩,
      ⟨(some (15, false)), none, .app 1 1 (.tmp 10 false) (.tmp 14 false)⟩,
      ⟨(some (3, true)), none, .mov (.tmp 15 false) .asg⟩])))) [0, 3, 6, 7] []
  (.reg (.seq [⟨(some (16, false)), none, .bin .add (.tmp 7 true) (.cst (.int .i64 1) (.lit (.int .i64 1)))⟩,
      ⟨(some (7, true)), none, .mov (.tmp 16 false) .peek⟩]))))
def rjoin_l0 : AC := rjoin_l0'
theorem rjoin_l0_w (C : Kn) (K : Ex → St → Prop) (s : St) : vcC C rjoin_l0 K s = vcC C rjoin_l0' K s := nr rfl
def rjoin_k1' : AC := .seq (.reg (.seq [⟨(some (17, false)), none, .mov (.tmp 3 true) .peek⟩,
      ⟨(some (18, false)), none, .b2s (.tmp 17 false)⟩,
      ⟨(some (2, true)), none, .mov (.tmp 18 false) .asg⟩])) [2] []
  (.ret)
def rjoin_k1 : AC := rjoin_k1'
theorem rjoin_k1_w (C : Kn) (K : Ex → St → Prop) (s : St) : vcC C rjoin_k1 K s = vcC C rjoin_k1' K s := nr rfl
def rjoin : AF := ⟨.seq (.reg (.seq [⟨(some (2, true)), none, .mov (.cst (.string (str [])) (.lit (.string (str [])))) .asg⟩])) [0] []
  (.seq (.reg (.seq [⟨(some (3, true)), none, .mov (.cst (.slice none 0 0) (.sl .own 1 [])) .asg⟩])) [0, 3] []
  (.seq (.seq (.reg (.seq [⟨(some (5, false)), none, .mov (.tmp 0 true) .peek⟩,
      ⟨(some (6, true)), none, .lenL (.tmp 5 false)⟩,
      ⟨(some (7, true)), none, .mov (.cst (.int .i64 0) (.lit (.int .i64 0))) .peek⟩])) [0, 3, 6, 7] []
  (.block 0 (.loop [0, 3, 6, 7] [] rjoin_l0))) [3] [] rjoin_k1)),
  [.tmp 2]⟩
theorem rjoin_comp (m : Int) : compF Tryd.prog (gl m) [] Tryd.f45 = some rjoin := by kernel_rfl
def pjoin : AF := ⟨.seq (.reg (.seq [⟨(some (2, true)), none, .mov (.cst (.string (str [])) (.lit (.string (str [])))) .asg⟩])) [0] []
  (.seq (.reg (.seq [⟨(some (3, false)), none, .mov (.tmp 0 true) .peek⟩,
      ⟨(some (4, false)), none, .call 54 [(.tmp 3 false), (.cst (.string (str [])) (.lit (.string (str []))))]⟩,
      ⟨(some (2, true)), none, .mov (.tmp 4 false) .asg⟩])) [2] []
  (.ret)),
  [.tmp 2]⟩
theorem pjoin_comp (m : Int) : compF Tryd.prog (gl m) [] Tryd.f28 = some pjoin := by kernel_rfl
def pfirst_l0' : AC := .seq (.reg (.seq [⟨(some (10, false)), none, .bin .lss (.tmp 9 true) (.tmp 8 true)⟩])) [7, 8, 9, 10] []
  (.seq (.cond (.tmp 10 false)
    (.skip)
    (.exit 0)) [7, 8, 9] []
  (.seq (.block 1 (.seq (.reg (.seq [⟨(some (11, false)), none, .iad (.tmp 7 true) (.tmp 9 true) 1⟩,
      ⟨(some (12, false)), none, .load (.tmp 11 false) 1 false false⟩,
      ⟨(some (4, true)), none, .mov (.tmp 12 false) .asg⟩])) [4, 7, 8, 9] []
    (.seq (.reg (.seq [⟨(some (13, false)), none, .mov (.tmp 4 true) .peek⟩,
      ⟨(some (14, false)), none, .call 53 [(.tmp 13 false), (.cst (.string (str [10])) (.lit (.string (str [10]))))]⟩,
      ⟨(some (5, true)), none, .mov (.tmp 14 false) .asg⟩])) [5, 7, 8, 9] []
    (.seq (.reg (.seq [⟨(some (15, false)), none, .mov (.tmp 5 true) .peek⟩,
      ⟨(some (16, false)), none, .bin .neq (.tmp 15 false) (.cst (.string (str [])) (.lit (.string (str []))))⟩])) [5, 7, 8, 9, 16] []
    (.cond (.tmp 16 false)
      (.seq (.reg (.seq [⟨(some (17, false)), none, .mov (.tmp 5 true) .take⟩,
      ⟨(some (2, true)), none, .mov (.tmp 17 false) .asg⟩])) [2] []
      (.ret))
      (.skip)))))) [7, 8, 9] []
  (.reg (.seq [⟨(some (18, false)), none, .bin .add (.tmp 9 true) (.cst (.int .i64 1) (.lit (.int .i64 1)))⟩,
      ⟨(some (9, true)), none, .mov (.tmp 18 false) .peek⟩]))))
def pfirst_l0 : AC := pfirst_l0'
theorem pfirst_l0_w (C : Kn) (K : Ex → St → Prop) (s : St) : vcC C pfirst_l0 K s = vcC C pfirst_l0' K s := nr rfl
def pfirst_k1' : AC := .seq (.reg (.seq [⟨(some (2, true)), none, .mov (.cst (.string (str [])) (.lit (.string (str [])))) .asg⟩])) [2] []
  (.ret)
def pfirst_k1 : AC := pfirst_k1'
theorem pfirst_k1_w (C : Kn) (K : Ex → St → Prop) (s : St) : vcC C pfirst_k1 K s = vcC C pfirst_k1' K s := nr rfl
def pfirst : AF := ⟨.seq (.reg (.seq [⟨(some (2, true)), none, .mov (.cst (.string (str [])) (.lit (.string (str [])))) .asg⟩])) [0] []
  (.seq (.seq (.reg (.seq [⟨(some (6, false)), none, .mov (.tmp 0 true) .peek⟩,
      ⟨(some (7, true)), none, .call 29 [(.tmp 6 false)]⟩,
      ⟨(some (8, true)), none, .lenL (.tmp 7 true)⟩,
      ⟨(some (9, true)), none, .mov (.cst (.int .i64 0) (.lit (.int .i64 0))) .peek⟩])) [7, 8, 9] []
  (.block 0 (.loop [7, 8, 9] [] pfirst_l0))) [] [] pfirst_k1),
  [.tmp 2]⟩
theorem pfirst_comp (m : Int) : compF Tryd.prog (gl m) [] Tryd.f44 = some pfirst := by kernel_rfl
def rfirst_l0' : AC := .seq (.reg (.seq [⟨(some (11, false)), none, .bin .lss (.tmp 10 true) (.tmp 9 true)⟩])) [3, 9, 10, 11] []
  (.seq (.cond (.tmp 11 false)
    (.skip)
    (.exit 0)) [3, 9, 10] []
  (.seq (.block 1 (.seq (.reg (.seq [⟨(some (12, false)), none, .mov (.tmp 10 true) .take⟩,
      ⟨(some (4, true)), none, .mov (.tmp 12 false) .asg⟩])) [3, 4, 9, 10] []
    (.seq (.reg (.seq [⟨(some (13, false)), none, .mov (.tmp 3 true) .peek⟩,
      ⟨(some (14, false)), none, .mov (.tmp 4 true) .peek⟩,
      ⟨(some (15, false)), none, .iad (.tmp 13 false) (.tmp 14 false) 1⟩,
      ⟨(some (16, false)), none, .load (.tmp 15 false) 1 false false⟩,
      ⟨(some (17, false)), none, .bin .neq (.tmp 16 false) (.cst (.string (str [10])) (.lit (.string (str [10]))))⟩])) [3, 4, 9, 10, 17] []
    (.cond (.tmp 17 false)
      (.seq (.reg (.seq [⟨(some (18, false)), none, .mov (.tmp 3 true) .peek⟩,
      ⟨(some (19, false)), none, .mov (.tmp 4 true) .peek⟩,
      ⟨(some (20, false)), none, .iad (.tmp 18 false) (.tmp 19 false) 1⟩,
      ⟨(some (21, false)), none, .load (.tmp 20 false) 1 false false⟩,
      ⟨(some (22, false)), none, .len (.tmp 21 false)⟩,
      ⟨(some (5, true)), none, .mov (.tmp 22 false) .asg⟩])) [3, 4, 5] []
      (.seq (.seq (.reg (.seq [⟨(some (23, false)), none, .mov (.tmp 3 true) .peek⟩,
      ⟨(some (24, false)), none, .mov (.tmp 4 true) .peek⟩,
      ⟨(some (25, false)), none, .iad (.tmp 23 false) (.tmp 24 false) 1⟩,
      ⟨(some (26, false)), none, .load (.tmp 25 false) 1 false false⟩,
      ⟨(some (27, false)), none, .mov (.tmp 5 true) .peek⟩,
      ⟨(some (28, false)), none, .bin .sub (.tmp 27 false) (.cst (.int .i64 1) (.lit (.int .i64 1)))⟩,
      ⟨(some (29, false)), none, .idx (.tmp 26 false) (.tmp 28 false)⟩,
      ⟨(some (30, false)), none, .bin .eql (.tmp 29 false) (.cst (.int .u8 10) (.lit (.int .u8 10)))⟩])) [3, 4, 5, 30] []
      (.cond (.tmp 30 false)
        (.reg (.seq [⟨(some (31, false)), none, .mov (.tmp 5 true) .peek⟩,
      ⟨(some (32, false)), none, .bin .sub (.tmp 31 false) (.cst (.int .i64 1) (.lit (.int .i64 1)))⟩,
      ⟨(some (5, true)), none, .mov (.tmp 32 false) .asg⟩]))
        (.skip))) [3, 4, 5] []
      (.seq (.reg (.seq [⟨(some (33, false)), none, .mov (.tmp 3 true) .peek⟩,
      ⟨(some (34, false)), none, .mov (.tmp 4 true) .peek⟩,
      ⟨(some (35, false)), none, .iad (.tmp 33 false) (.tmp 34 false) 1⟩,
      ⟨(some (36, false)), none, .load (.tmp 35 false) 1 false false⟩,
      ⟨(some (37, false)), none, .mov (.tmp 5 true) .peek⟩,
      ⟨(some (38, false)), none, .sub (.tmp 36 false) none (some (.tmp 37 false))⟩,
      ⟨(some (2, true)), none, .mov (.tmp 38 false) .asg⟩])) [2] []
      (.ret))))
      (.skip))))) [3, 9, 10] []
  (.reg (.seq [⟨(some (39, false)), none, .bin .add (.tmp 10 true) (.cst (.int .i64 1) (.lit (.int .i64 1)))⟩,
      ⟨(some (10, true)), none, .mov (.tmp 39 false) .peek⟩]))))
def rfirst_l0 : AC := rfirst_l0'
theorem rfirst_l0_w (C : Kn) (K : Ex → St → Prop) (s : St) : vcC C rfirst_l0 K s = vcC C rfirst_l0' K s := nr rfl
def rfirst_k1' : AC := .seq (.reg (.seq [⟨(some (2, true)), none, .mov (.cst (.string (str [])) (.lit (.string (str [])))) .asg⟩])) [2] []
  (.ret)
def rfirst_k1 : AC := rfirst_k1'
theorem rfirst_k1_w (C : Kn) (K : Ex → St → Prop) (s : St) : vcC C rfirst_k1 K s = vcC C rfirst_k1' K s := nr rfl
def rfirst : AF := ⟨.seq (.reg (.seq [⟨(some (2, true)), none, .mov (.cst (.string (str [])) (.lit (.string (str [])))) .asg⟩])) [0] []
  (.seq (.reg (.seq [⟨(some (6, false)), none, .mov (.tmp 0 true) .peek⟩,
      ⟨(some (7, false)), none, .call 43 [(.tmp 6 false)]⟩,
      ⟨(some (3, true)), none, .mov (.tmp 7 false) .asg⟩])) [3] []
  (.seq (.seq (.reg (.seq [⟨(some (8, false)), none, .mov (.tmp 3 true) .peek⟩,
      ⟨(some (9, true)), none, .lenL (.tmp 8 false)⟩,
      ⟨(some (10, true)), none, .mov (.cst (.int .i64 0) (.lit (.int .i64 0))) .peek⟩])) [3, 9, 10] []
  (.block 0 (.loop [3, 9, 10] [] rfirst_l0))) [] [] rfirst_k1)),
  [.tmp 2]⟩
theorem rfirst_comp (m : Int) : compF Tryd.prog (gl m) [] Tryd.f46 = some rfirst := by kernel_rfl
theorem psplit_loop (n : Nat) : ∀ (s : Bs) (hn : s.length = n) (acc : List Bs) (ha : acc.length + s.length ≤ 1048576),
    vcL (kn m) [0, 3] [] psplit_l0 (blockK 0 (seqK (kn m) [3] [] psplit_k1 (outOk [.tmp 2] (.sl .own 1 (ss (acc ++ lines s)))))) (mkS [(0, S s), (3, .sl .own 1 (ss acc))] []) := by
  induction n using Nat.strongRecOn with
  | _ n ih =>
  intro s hn acc ha
  apply round
  simp only [psplit_l0_w, psplit_l0', eqs, reduceCtorEq, implies_true, List.map_cons, List.map_nil, kl, klL, roD, roL, Option.map_some, Option.map_none, Option.getD_some, Option.getD_none, binVal, binObl, unVal, Nat.reduceEqDiff, if_true, if_false, reduceIte, eq_self, passA, frnD, resD, content, getH, getR, getW, viaNot, viaSlot, viaBox, viaDeep, viaMem, List.contains_cons, List.contains_nil, grabs, peeks, okCells, isCell, place, cellsOf, chunk, elt, List.headD_cons, List.length_cons, List.length_nil, List.take_succ_cons, List.take_zero, List.drop_succ_cons, List.drop_zero, Nat.reduceAdd, Nat.reduceSub, Nat.reduceLeDiff, List.nil_append, List.cons_append, List.append_nil, List.all_cons, List.all_nil, plainC, takeR, setW, over, reCell, Int.reduceToNat, List.getElem?_cons_zero, List.getElem?_cons_succ, List.set_cons_zero, List.take_length, outV, resG, plainV, pack, outVG, outBx, List.set_cons_succ, Ref.idx, Ref.addOff, beq_self_eq_true, Nat.reduceBEq, bxL, Option.bind_some, writeR, isLit, viaBoxes, capsPA, boxPA, nsOf, noDup, boxesAt, argG, passG, passD, rhoIn, rhoOut, idxIn, tr, trL, List.getD_cons_zero, gives, pasOf, isPtr]
  refine split_c (fun h => ?_) (fun h => ?_)
  · have hne : s ≠ [] := by simpa using h
    have hpos : 0 < s.length := by cases s; exact absurd rfl hne; simp
    simp only [eqs, reduceCtorEq, implies_true, List.map_cons, List.map_nil, kl, klL, roD, roL, Option.map_some, Option.map_none, Option.getD_some, Option.getD_none, binVal, binObl, unVal, Nat.reduceEqDiff, if_true, if_false, reduceIte, eq_self, passA, frnD, resD, content, getH, getR, getW, viaNot, viaSlot, viaBox, viaDeep, viaMem, List.contains_cons, List.contains_nil, grabs, peeks, okCells, isCell, place, cellsOf, chunk, elt, List.headD_cons, List.length_cons, List.length_nil, List.take_succ_cons, List.take_zero, List.drop_succ_cons, List.drop_zero, Nat.reduceAdd, Nat.reduceSub, Nat.reduceLeDiff, List.nil_append, List.cons_append, List.append_nil, List.all_cons, List.all_nil, plainC, takeR, setW, over, reCell, Int.reduceToNat, List.getElem?_cons_zero, List.getElem?_cons_succ, List.set_cons_zero, List.take_length, outV, resG, plainV, pack, outVG, outBx, List.set_cons_succ, Ref.idx, Ref.addOff, beq_self_eq_true, Nat.reduceBEq, bxL, Option.bind_some, writeR, isLit, viaBoxes, capsPA, boxPA, nsOf, noDup, boxesAt, argG, passG, passD, rhoIn, rhoOut, idxIn, tr, trL, List.getD_cons_zero, gives, pasOf, isPtr]
    refine of_call (index1 s 10) ?_
    simp only [idx_eq]
    cases hi : idx s 10 with
    | none =>
      simp only [Int.reduceNeg, eqs, reduceCtorEq, implies_true, List.map_cons, List.map_nil, kl, klL, roD, roL, Option.map_some, Option.map_none, Option.getD_some, Option.getD_none, binVal, binObl, unVal, Nat.reduceEqDiff, if_true, if_false, reduceIte, eq_self, passA, frnD, resD, content, getH, getR, getW, viaNot, viaSlot, viaBox, viaDeep, viaMem, List.contains_cons, List.contains_nil, grabs, peeks, okCells, isCell, place, cellsOf, chunk, elt, List.headD_cons, List.length_cons, List.length_nil, List.take_succ_cons, List.take_zero, List.drop_succ_cons, List.drop_zero, Nat.reduceAdd, Nat.reduceSub, Nat.reduceLeDiff, List.nil_append, List.cons_append, List.append_nil, List.all_cons, List.all_nil, plainC, takeR, setW, over, reCell, Int.reduceToNat, List.getElem?_cons_zero, List.getElem?_cons_succ, List.set_cons_zero, List.take_length, outV, resG, plainV, pack, outVG, outBx, List.set_cons_succ, Ref.idx, Ref.addOff, beq_self_eq_true, Nat.reduceBEq, bxL, Option.bind_some, writeR, isLit, viaBoxes, capsPA, boxPA, nsOf, noDup, boxesAt, argG, passG, passD, rhoIn, rhoOut, idxIn, tr, trL, List.getD_cons_zero, gives, pasOf, isPtr]
      rw [show IntKind.i64.wrap (-1 + 1) = 0 from rfl]
      simp only [BEq.rfl, eqs, reduceCtorEq, implies_true, List.map_cons, List.map_nil, kl, klL, roD, roL, Option.map_some, Option.map_none, Option.getD_some, Option.getD_none, binVal, binObl, unVal, Nat.reduceEqDiff, if_true, if_false, reduceIte, eq_self, passA, frnD, resD, content, getH, getR, getW, viaNot, viaSlot, viaBox, viaDeep, viaMem, List.contains_cons, List.contains_nil, grabs, peeks, okCells, isCell, place, cellsOf, chunk, elt, List.headD_cons, List.length_cons, List.length_nil, List.take_succ_cons, List.take_zero, List.drop_succ_cons, List.drop_zero, Nat.reduceAdd, Nat.reduceSub, Nat.reduceLeDiff, List.nil_append, List.cons_append, List.append_nil, List.all_cons, List.all_nil, plainC, takeR, setW, over, reCell, Int.reduceToNat, List.getElem?_cons_zero, List.getElem?_cons_succ, List.set_cons_zero, List.take_length, outV, resG, plainV, pack, outVG, outBx, List.set_cons_succ, Ref.idx, Ref.addOff, beq_self_eq_true, Nat.reduceBEq, bxL, Option.bind_some, writeR, isLit, viaBoxes, capsPA, boxPA, nsOf, noDup, boxesAt, argG, passG, passD, rhoIn, rhoOut, idxIn, tr, trL, List.getD_cons_zero, gives, pasOf, isPtr]
      repeat (refine ⟨by (try simp only [List.length_append, List.length_cons, List.length_nil]); omega, ?_⟩)
      have := ih 0 (by omega) [] rfl (acc ++ [s]) (by simp; omega)
      rw [lines_none hi hne]
      simpa [lines] using this
    | some k =>
      have hm := idx_lt hi
      simp only [eqs, reduceCtorEq, implies_true, List.map_cons, List.map_nil, kl, klL, roD, roL, Option.map_some, Option.map_none, Option.getD_some, Option.getD_none, binVal, binObl, unVal, Nat.reduceEqDiff, if_true, if_false, reduceIte, eq_self, passA, frnD, resD, content, getH, getR, getW, viaNot, viaSlot, viaBox, viaDeep, viaMem, List.contains_cons, List.contains_nil, grabs, peeks, okCells, isCell, place, cellsOf, chunk, elt, List.headD_cons, List.length_cons, List.length_nil, List.take_succ_cons, List.take_zero, List.drop_succ_cons, List.drop_zero, Nat.reduceAdd, Nat.reduceSub, Nat.reduceLeDiff, List.nil_append, List.cons_append, List.append_nil, List.all_cons, List.all_nil, plainC, takeR, setW, over, reCell, Int.reduceToNat, List.getElem?_cons_zero, List.getElem?_cons_succ, List.set_cons_zero, List.take_length, outV, resG, plainV, pack, outVG, outBx, List.set_cons_succ, Ref.idx, Ref.addOff, beq_self_eq_true, Nat.reduceBEq, bxL, Option.bind_some, writeR, isLit, viaBoxes, capsPA, boxPA, nsOf, noDup, boxesAt, argG, passG, passD, rhoIn, rhoOut, idxIn, tr, trL, List.getD_cons_zero, gives, pasOf, isPtr]
      rw [wrapN (k + 1) (by omega) (by omega), show (((k + 1 : Nat) : Int) == 0) = false by simp; omega]
      simp only [eqs, reduceCtorEq, implies_true, List.map_cons, List.map_nil, kl, klL, roD, roL, Option.map_some, Option.map_none, Option.getD_some, Option.getD_none, binVal, binObl, unVal, Nat.reduceEqDiff, if_true, if_false, reduceIte, eq_self, passA, frnD, resD, content, getH, getR, getW, viaNot, viaSlot, viaBox, viaDeep, viaMem, List.contains_cons, List.contains_nil, grabs, peeks, okCells, isCell, place, cellsOf, chunk, elt, List.headD_cons, List.length_cons, List.length_nil, List.take_succ_cons, List.take_zero, List.drop_succ_cons, List.drop_zero, Nat.reduceAdd, Nat.reduceSub, Nat.reduceLeDiff, List.nil_append, List.cons_append, List.append_nil, List.all_cons, List.all_nil, plainC, takeR, setW, over, reCell, Int.reduceToNat, List.getElem?_cons_zero, List.getElem?_cons_succ, List.set_cons_zero, List.take_length, outV, resG, plainV, pack, outVG, outBx, List.set_cons_succ, Ref.idx, Ref.addOff, beq_self_eq_true, Nat.reduceBEq, bxL, Option.bind_some, writeR, isLit, viaBoxes, capsPA, boxPA, nsOf, noDup, boxesAt, argG, passG, passD, rhoIn, rhoOut, idxIn, tr, trL, List.getD_cons_zero, gives, pasOf, isPtr]
      repeat (refine ⟨by (try simp only [List.length_append, List.length_cons, List.length_nil]); omega, ?_⟩)
      have := ih (s.length - (k + 1)) (by omega) (s.drop (k + 1)) (by simp) (acc ++ [s.take (k + 1)]) (by simp; omega)
      rw [lines_some hi]
      simpa using this
  · have : s = [] := by simpa using h
    subst this
    simp only [psplit_k1_w, psplit_k1', eqs, reduceCtorEq, implies_true, List.map_cons, List.map_nil, kl, klL, roD, roL, Option.map_some, Option.map_none, Option.getD_some, Option.getD_none, binVal, binObl, unVal, Nat.reduceEqDiff, if_true, if_false, reduceIte, eq_self, passA, frnD, resD, content, getH, getR, getW, viaNot, viaSlot, viaBox, viaDeep, viaMem, List.contains_cons, List.contains_nil, grabs, peeks, okCells, isCell, place, cellsOf, chunk, elt, List.headD_cons, List.length_cons, List.length_nil, List.take_succ_cons, List.take_zero, List.drop_succ_cons, List.drop_zero, Nat.reduceAdd, Nat.reduceSub, Nat.reduceLeDiff, List.nil_append, List.cons_append, List.append_nil, List.all_cons, List.all_nil, plainC, takeR, setW, over, reCell, Int.reduceToNat, List.getElem?_cons_zero, List.getElem?_cons_succ, List.set_cons_zero, List.take_length, outV, resG, plainV, pack, outVG, outBx, List.set_cons_succ, Ref.idx, Ref.addOff, beq_self_eq_true, Nat.reduceBEq, bxL, Option.bind_some, writeR, isLit, viaBoxes, capsPA, boxPA, nsOf, noDup, boxesAt, argG, passG, passD, rhoIn, rhoOut, idxIn, tr, trL, List.getD_cons_zero, gives, pasOf, isPtr, lines]
theorem psplit_snd (s : Bs) (hs : s.length ≤ 1048576) : Snd Tryd.prog (gl m) 29 [S s] (.sl .own 1 (ss (lines s))) := by
  refine snd_of (fn := Tryd.f29) (af := psplit) Tryd.func29 (psplit_comp m) mixed (kn_ok m) (Nat.le_of_ble_eq_true rfl) ?_
  simp only [psplit, eqs, reduceCtorEq, implies_true, List.map_cons, List.map_nil, kl, klL, roD, roL, Option.map_some, Option.map_none, Option.getD_some, Option.getD_none, binVal, binObl, unVal, Nat.reduceEqDiff, if_true, if_false, reduceIte, eq_self, passA, frnD, resD, content, getH, getR, getW, viaNot, viaSlot, viaBox, viaDeep, viaMem, List.contains_cons, List.contains_nil, grabs, peeks, okCells, isCell, place, cellsOf, chunk, elt, List.headD_cons, List.length_cons, List.length_nil, List.take_succ_cons, List.take_zero, List.drop_succ_cons, List.drop_zero, Nat.reduceAdd, Nat.reduceSub, Nat.reduceLeDiff, List.nil_append, List.cons_append, List.append_nil, List.all_cons, List.all_nil, plainC, takeR, setW, over, reCell, Int.reduceToNat, List.getElem?_cons_zero, List.getElem?_cons_succ, List.set_cons_zero, List.take_length, outV, resG, plainV, pack, outVG, outBx, List.set_cons_succ, Ref.idx, Ref.addOff, beq_self_eq_true, Nat.reduceBEq, bxL, Option.bind_some, writeR, isLit, viaBoxes, capsPA, boxPA, nsOf, noDup, boxesAt, argG, passG, passD, rhoIn, rhoOut, idxIn, tr, trL, List.getD_cons_zero, gives, pasOf, isPtr]
  exact psplit_loop _ s rfl [] (by simpa using hs)

/-! ### the reference's Split -/
theorem drop_drop_ (s : Bs) (a b : Nat) : (s.drop a).drop b = s.drop (a + b) := by rw [List.drop_drop]
theorem take_drop_ (s : Bs) (a b : Nat) : (s.take b).drop a = (s.drop a).take (b - a) := by rw [List.drop_take]
theorem rsplit_loop (s : Bs) (hs : s.length ≤ 1048576) (n : Nat) : ∀ (i k : Nat) (hn : s.length - i = n) (hki : k ≤ i) (hi : i ≤ s.length) (hno : ∀ j, k ≤ j → j < i → s[j]? ≠ some 10) (acc : List Bs) (ha : acc.length ≤ k),
    vcL (kn m) [0, 3, 4, 7, 8] [] rsplit_l0 (blockK 0 (seqK (kn m) [0, 3, 4] [] rsplit_k1 (outOk [.tmp 2] (.sl .own 1 (ss (acc ++ lines (s.drop k))))))) (mkS [(0, S s), (3, .sl .own 1 (ss acc)), (4, N k), (7, N s.length), (8, N i)] []) := by
  induction n with
  | zero =>
    intro i k hn hki hi hno acc ha
    have hil : i = s.length := by omega
    subst hil
    apply round
    simp only [rsplit_l0_w, rsplit_l0', eqs, reduceCtorEq, implies_true, List.map_cons, List.map_nil, kl, klL, roD, roL, Option.map_some, Option.map_none, Option.getD_some, Option.getD_none, binVal, binObl, unVal, Nat.reduceEqDiff, if_true, if_false, reduceIte, eq_self, passA, frnD, resD, content, getH, getR, getW, viaNot, viaSlot, viaBox, viaDeep, viaMem, List.contains_cons, List.contains_nil, grabs, peeks, okCells, isCell, place, cellsOf, chunk, elt, List.headD_cons, List.length_cons, List.length_nil, List.take_succ_cons, List.take_zero, List.drop_succ_cons, List.drop_zero, Nat.reduceAdd, Nat.reduceSub, Nat.reduceLeDiff, List.nil_append, List.cons_append, List.append_nil, List.all_cons, List.all_nil, plainC, takeR, setW, over, reCell, Int.reduceToNat, List.getElem?_cons_zero, List.getElem?_cons_succ, List.set_cons_zero, List.take_length, outV, resG, plainV, pack, outVG, outBx, List.set_cons_succ, Ref.idx, Ref.addOff, beq_self_eq_true, Nat.reduceBEq, bxL, Option.bind_some, writeR, isLit, viaBoxes, capsPA, boxPA, nsOf, noDup, boxesAt, argG, passG, passD, rhoIn, rhoOut, idxIn, tr, trL, List.getD_cons_zero, gives, pasOf, isPtr]
    rw [show decide ((s.length : Int) < s.length) = false by simp]
    simp only [rsplit_k1_w, rsplit_k1', eqs, reduceCtorEq, implies_true, List.map_cons, List.map_nil, kl, klL, roD, roL, Option.map_some, Option.map_none, Option.getD_some, Option.getD_none, binVal, binObl, unVal, Nat.reduceEqDiff, if_true, if_false, reduceIte, eq_self, passA, frnD, resD, content, getH, getR, getW, viaNot, viaSlot, viaBox, viaDeep, viaMem, List.contains_cons, List.contains_nil, grabs, peeks, okCells, isCell, place, cellsOf, chunk, elt, List.headD_cons, List.length_cons, List.length_nil, List.take_succ_cons, List.take_zero, List.drop_succ_cons, List.drop_zero, Nat.reduceAdd, Nat.reduceSub, Nat.reduceLeDiff, List.nil_append, List.cons_append, List.append_nil, List.all_cons, List.all_nil, plainC, takeR, setW, over, reCell, Int.reduceToNat, List.getElem?_cons_zero, List.getElem?_cons_succ, List.set_cons_zero, List.take_length, outV, resG, plainV, pack, outVG, outBx, List.set_cons_succ, Ref.idx, Ref.addOff, beq_self_eq_true, Nat.reduceBEq, bxL, Option.bind_some, writeR, isLit, viaBoxes, capsPA, boxPA, nsOf, noDup, boxesAt, argG, passG, passD, rhoIn, rhoOut, idxIn, tr, trL, List.getD_cons_zero, gives, pasOf, isPtr]
    refine split_c (fun h => ?_) (fun h => ?_)
    · have hk : k < s.length := by simpa using h
      simp only [eqs, reduceCtorEq, implies_true, List.map_cons, List.map_nil, kl, klL, roD, roL, Option.map_some, Option.map_none, Option.getD_some, Option.getD_none, binVal, binObl, unVal, Nat.reduceEqDiff, if_true, if_false, reduceIte, eq_self, passA, frnD, resD, content, getH, getR, getW, viaNot, viaSlot, viaBox, viaDeep, viaMem, List.contains_cons, List.contains_nil, grabs, peeks, okCells, isCell, place, cellsOf, chunk, elt, List.headD_cons, List.length_cons, List.length_nil, List.take_succ_cons, List.take_zero, List.drop_succ_cons, List.drop_zero, Nat.reduceAdd, Nat.reduceSub, Nat.reduceLeDiff, List.nil_append, List.cons_append, List.append_nil, List.all_cons, List.all_nil, plainC, takeR, setW, over, reCell, Int.reduceToNat, List.getElem?_cons_zero, List.getElem?_cons_succ, List.set_cons_zero, List.take_length, outV, resG, plainV, pack, outVG, outBx, List.set_cons_succ, Ref.idx, Ref.addOff, beq_self_eq_true, Nat.reduceBEq, bxL, Option.bind_some, writeR, isLit, viaBoxes, capsPA, boxPA, nsOf, noDup, boxesAt, argG, passG, passD, rhoIn, rhoOut, idxIn, tr, trL, List.getD_cons_zero, gives, pasOf, isPtr]
      repeat (refine ⟨by (try simp only [List.length_append, List.length_cons, List.length_nil]); omega, ?_⟩)
      have hne : s.drop k ≠ [] := by intro e; have := congrArg List.length e; simp at this; omega
      have : idx (s.drop k) 10 = none := idx_none fun j hj => by rw [List.getElem?_drop]; exact hno _ (by omega) (by simp at hj; omega)
      rw [lines_none this hne]
    · have hk : k = s.length := by have : ¬ k < s.length := by simpa using h
                                   omega
      subst hk
      simp only [eqs, reduceCtorEq, implies_true, List.map_cons, List.map_nil, kl, klL, roD, roL, Option.map_some, Option.map_none, Option.getD_some, Option.getD_none, binVal, binObl, unVal, Nat.reduceEqDiff, if_true, if_false, reduceIte, eq_self, passA, frnD, resD, content, getH, getR, getW, viaNot, viaSlot, viaBox, viaDeep, viaMem, List.contains_cons, List.contains_nil, grabs, peeks, okCells, isCell, place, cellsOf, chunk, elt, List.headD_cons, List.length_cons, List.length_nil, List.take_succ_cons, List.take_zero, List.drop_succ_cons, List.drop_zero, Nat.reduceAdd, Nat.reduceSub, Nat.reduceLeDiff, List.nil_append, List.cons_append, List.append_nil, List.all_cons, List.all_nil, plainC, takeR, setW, over, reCell, Int.reduceToNat, List.getElem?_cons_zero, List.getElem?_cons_succ, List.set_cons_zero, List.take_length, outV, resG, plainV, pack, outVG, outBx, List.set_cons_succ, Ref.idx, Ref.addOff, beq_self_eq_true, Nat.reduceBEq, bxL, Option.bind_some, writeR, isLit, viaBoxes, capsPA, boxPA, nsOf, noDup, boxesAt, argG, passG, passD, rhoIn, rhoOut, idxIn, tr, trL, List.getD_cons_zero, gives, pasOf, isPtr]
      simp [lines]
  | succ n ih =>
    intro i k hn hki hi hno acc ha
    have hil : i < s.length := by omega
    apply round
    simp only [rsplit_l0_w, rsplit_l0', eqs, reduceCtorEq, implies_true, List.map_cons, List.map_nil, kl, klL, roD, roL, Option.map_some, Option.map_none, Option.getD_some, Option.getD_none, binVal, binObl, unVal, Nat.reduceEqDiff, if_true, if_false, reduceIte, eq_self, passA, frnD, resD, content, getH, getR, getW, viaNot, viaSlot, viaBox, viaDeep, viaMem, List.contains_cons, List.contains_nil, grabs, peeks, okCells, isCell, place, cellsOf, chunk, elt, List.headD_cons, List.length_cons, List.length_nil, List.take_succ_cons, List.take_zero, List.drop_succ_cons, List.drop_zero, Nat.reduceAdd, Nat.reduceSub, Nat.reduceLeDiff, List.nil_append, List.cons_append, List.append_nil, List.all_cons, List.all_nil, plainC, takeR, setW, over, reCell, Int.reduceToNat, List.getElem?_cons_zero, List.getElem?_cons_succ, List.set_cons_zero, List.take_length, outV, resG, plainV, pack, outVG, outBx, List.set_cons_succ, Ref.idx, Ref.addOff, beq_self_eq_true, Nat.reduceBEq, bxL, Option.bind_some, writeR, isLit, viaBoxes, capsPA, boxPA, nsOf, noDup, boxesAt, argG, passG, passD, rhoIn, rhoOut, idxIn, tr, trL, List.getD_cons_zero, gives, pasOf, isPtr]
    rw [show decide ((i : Int) < s.length) = true by simpa using hil]
    simp only [eqs, reduceCtorEq, implies_true, List.map_cons, List.map_nil, kl, klL, roD, roL, Option.map_some, Option.map_none, Option.getD_some, Option.getD_none, binVal, binObl, unVal, Nat.reduceEqDiff, if_true, if_false, reduceIte, eq_self, passA, frnD, resD, content, getH, getR, getW, viaNot, viaSlot, viaBox, viaDeep, viaMem, List.contains_cons, List.contains_nil, grabs, peeks, okCells, isCell, place, cellsOf, chunk, elt, List.headD_cons, List.length_cons, List.length_nil, List.take_succ_cons, List.take_zero, List.drop_succ_cons, List.drop_zero, Nat.reduceAdd, Nat.reduceSub, Nat.reduceLeDiff, List.nil_append, List.cons_append, List.append_nil, List.all_cons, List.all_nil, plainC, takeR, setW, over, reCell, Int.reduceToNat, List.getElem?_cons_zero, List.getElem?_cons_succ, List.set_cons_zero, List.take_length, outV, resG, plainV, pack, outVG, outBx, List.set_cons_succ, Ref.idx, Ref.addOff, beq_self_eq_true, Nat.reduceBEq, bxL, Option.bind_some, writeR, isLit, viaBoxes, capsPA, boxPA, nsOf, noDup, boxesAt, argG, passG, passD, rhoIn, rhoOut, idxIn, tr, trL, List.getD_cons_zero, gives, pasOf, isPtr]
    repeat (refine ⟨by (try simp only [List.length_append, List.length_cons, List.length_nil]); omega, ?_⟩)
    simp only [getE hil, eqs, reduceCtorEq, implies_true, List.map_cons, List.map_nil, kl, klL, roD, roL, Option.map_some, Option.map_none, Option.getD_some, Option.getD_none, binVal, binObl, unVal, Nat.reduceEqDiff, if_true, if_false, reduceIte, eq_self, passA, frnD, resD, content, getH, getR, getW, viaNot, viaSlot, viaBox, viaDeep, viaMem, List.contains_cons, List.contains_nil, grabs, peeks, okCells, isCell, place, cellsOf, chunk, elt, List.headD_cons, List.length_cons, List.length_nil, List.take_succ_cons, List.take_zero, List.drop_succ_cons, List.drop_zero, Nat.reduceAdd, Nat.reduceSub, Nat.reduceLeDiff, List.nil_append, List.cons_append, List.append_nil, List.all_cons, List.all_nil, plainC, takeR, setW, over, reCell, Int.reduceToNat, List.getElem?_cons_zero, List.getElem?_cons_succ, List.set_cons_zero, List.take_length, outV, resG, plainV, pack, outVG, outBx, List.set_cons_succ, Ref.idx, Ref.addOff, beq_self_eq_true, Nat.reduceBEq, bxL, Option.bind_some, writeR, isLit, viaBoxes, capsPA, boxPA, nsOf, noDup, boxesAt, argG, passG, passD, rhoIn, rhoOut, idxIn, tr, trL, List.getD_cons_zero, gives, pasOf, isPtr]
    refine split_c (fun h => ?_) (fun h => ?_)
    · have hc : s[i] = 10 := u8_t h rfl
      simp only [eqs, reduceCtorEq, implies_true, List.map_cons, List.map_nil, kl, klL, roD, roL, Option.map_some, Option.map_none, Option.getD_some, Option.getD_none, binVal, binObl, unVal, Nat.reduceEqDiff, if_true, if_false, reduceIte, eq_self, passA, frnD, resD, content, getH, getR, getW, viaNot, viaSlot, viaBox, viaDeep, viaMem, List.contains_cons, List.contains_nil, grabs, peeks, okCells, isCell, place, cellsOf, chunk, elt, List.headD_cons, List.length_cons, List.length_nil, List.take_succ_cons, List.take_zero, List.drop_succ_cons, List.drop_zero, Nat.reduceAdd, Nat.reduceSub, Nat.reduceLeDiff, List.nil_append, List.cons_append, List.append_nil, List.all_cons, List.all_nil, plainC, takeR, setW, over, reCell, Int.reduceToNat, List.getElem?_cons_zero, List.getElem?_cons_succ, List.set_cons_zero, List.take_length, outV, resG, plainV, pack, outVG, outBx, List.set_cons_succ, Ref.idx, Ref.addOff, beq_self_eq_true, Nat.reduceBEq, bxL, Option.bind_some, writeR, isLit, viaBoxes, capsPA, boxPA, nsOf, noDup, boxesAt, argG, passG, passD, rhoIn, rhoOut, idxIn, tr, trL, List.getD_cons_zero, gives, pasOf, isPtr]
      rw [wrapN (i + 1) (by omega) (by omega)]
      simp only [eqs, reduceCtorEq, implies_true, List.map_cons, List.map_nil, kl, klL, roD, roL, Option.map_some, Option.map_none, Option.getD_some, Option.getD_none, binVal, binObl, unVal, Nat.reduceEqDiff, if_true, if_false, reduceIte, eq_self, passA, frnD, resD, content, getH, getR, getW, viaNot, viaSlot, viaBox, viaDeep, viaMem, List.contains_cons, List.contains_nil, grabs, peeks, okCells, isCell, place, cellsOf, chunk, elt, List.headD_cons, List.length_cons, List.length_nil, List.take_succ_cons, List.take_zero, List.drop_succ_cons, List.drop_zero, Nat.reduceAdd, Nat.reduceSub, Nat.reduceLeDiff, List.nil_append, List.cons_append, List.append_nil, List.all_cons, List.all_nil, plainC, takeR, setW, over, reCell, Int.reduceToNat, List.getElem?_cons_zero, List.getElem?_cons_succ, List.set_cons_zero, List.take_length, outV, resG, plainV, pack, outVG, outBx, List.set_cons_succ, Ref.idx, Ref.addOff, beq_self_eq_true, Nat.reduceBEq, bxL, Option.bind_some, writeR, isLit, viaBoxes, capsPA, boxPA, nsOf, noDup, boxesAt, argG, passG, passD, rhoIn, rhoOut, idxIn, tr, trL, List.getD_cons_zero, gives, pasOf, isPtr]
      repeat (refine ⟨by (try simp only [List.length_append, List.length_cons, List.length_nil]); omega, ?_⟩)
      have hidx : idx (s.drop k) 10 = some (i - k) := idx_of (by rw [List.getElem?_drop, show k + (i - k) = i by omega, getE hil, hc]) fun j hj => by rw [List.getElem?_drop]; exact hno _ (by omega) (by omega)
      have := ih (i + 1) (i + 1) (by omega) (by omega) (by omega) (fun j h1 h2 => by omega) (acc ++ [(s.take (i + 1)).drop k]) (by simp; omega)
      rw [lines_some hidx, drop_drop_, show k + (i - k + 1) = i + 1 by omega]
      rw [take_drop_, show i + 1 - k = i - k + 1 by omega] at this ⊢
      simp only [List.append_assoc, List.cons_append, List.nil_append] at this ⊢
      exact this
    · have hc : s[i] ≠ 10 := u8_f h rfl
      simp only [eqs, reduceCtorEq, implies_true, List.map_cons, List.map_nil, kl, klL, roD, roL, Option.map_some, Option.map_none, Option.getD_some, Option.getD_none, binVal, binObl, unVal, Nat.reduceEqDiff, if_true, if_false, reduceIte, eq_self, passA, frnD, resD, content, getH, getR, getW, viaNot, viaSlot, viaBox, viaDeep, viaMem, List.contains_cons, List.contains_nil, grabs, peeks, okCells, isCell, place, cellsOf, chunk, elt, List.headD_cons, List.length_cons, List.length_nil, List.take_succ_cons, List.take_zero, List.drop_succ_cons, List.drop_zero, Nat.reduceAdd, Nat.reduceSub, Nat.reduceLeDiff, List.nil_append, List.cons_append, List.append_nil, List.all_cons, List.all_nil, plainC, takeR, setW, over, reCell, Int.reduceToNat, List.getElem?_cons_zero, List.getElem?_cons_succ, List.set_cons_zero, List.take_length, outV, resG, plainV, pack, outVG, outBx, List.set_cons_succ, Ref.idx, Ref.addOff, beq_self_eq_true, Nat.reduceBEq, bxL, Option.bind_some, writeR, isLit, viaBoxes, capsPA, boxPA, nsOf, noDup, boxesAt, argG, passG, passD, rhoIn, rhoOut, idxIn, tr, trL, List.getD_cons_zero, gives, pasOf, isPtr]
      rw [wrapN (i + 1) (by omega) (by omega)]
      exact ih (i + 1) k (by omega) (by omega) (by omega) (fun j h1 h2 => by
        by_cases e : j = i
        · subst e; rw [getE hil]; simpa using hc
        · exact hno j h1 (by omega)) acc ha
theorem rsplit_snd (s : Bs) (hs : s.length ≤ 1048576) : Snd Tryd.prog (gl m) 43 [S s] (.sl .own 1 (ss (lines s))) := by
  refine snd_of (fn := Tryd.f43) (af := rsplit) Tryd.func43 (rsplit_comp m) mixed (kn_ok m) (Nat.le_of_ble_eq_true rfl) ?_
  simp only [rsplit, eqs, reduceCtorEq, implies_true, List.map_cons, List.map_nil, kl, klL, roD, roL, Option.map_some, Option.map_none, Option.getD_some, Option.getD_none, binVal, binObl, unVal, Nat.reduceEqDiff, if_true, if_false, reduceIte, eq_self, passA, frnD, resD, content, getH, getR, getW, viaNot, viaSlot, viaBox, viaDeep, viaMem, List.contains_cons, List.contains_nil, grabs, peeks, okCells, isCell, place, cellsOf, chunk, elt, List.headD_cons, List.length_cons, List.length_nil, List.take_succ_cons, List.take_zero, List.drop_succ_cons, List.drop_zero, Nat.reduceAdd, Nat.reduceSub, Nat.reduceLeDiff, List.nil_append, List.cons_append, List.append_nil, List.all_cons, List.all_nil, plainC, takeR, setW, over, reCell, Int.reduceToNat, List.getElem?_cons_zero, List.getElem?_cons_succ, List.set_cons_zero, List.take_length, outV, resG, plainV, pack, outVG, outBx, List.set_cons_succ, Ref.idx, Ref.addOff, beq_self_eq_true, Nat.reduceBEq, bxL, Option.bind_some, writeR, isLit, viaBoxes, capsPA, boxPA, nsOf, noDup, boxesAt, argG, passG, passD, rhoIn, rhoOut, idxIn, tr, trL, List.getD_cons_zero, gives, pasOf, isPtr]
  exact rsplit_loop s hs _ 0 0 rfl (by omega) (by omega) (fun j h1 h2 => by omega) [] (by simp)

/-! ### Join -/
theorem rjoin_loop (l : List Bs) (hl : l.length ≤ 1048576) (hf : l.flatten.length ≤ 1048576) (n : Nat) : ∀ (i : Nat) (hn : l.length - i = n) (hi : i ≤ l.length),
    vcL (kn m) [0, 3, 6, 7] [] rjoin_l0 (blockK 0 (seqK (kn m) [3] [] rjoin_k1 (outOk [.tmp 2] (S l.flatten)))) (mkS [(0, .sl .frn 1 (ss l)), (3, .sl .own 1 (bs (l.take i).flatten)), (6, N l.length), (7, N i)] []) := by
  have hlen : ∀ i, (l.take i).flatten.length ≤ l.flatten.length := by
    intro i
    have : l.flatten = (l.take i).flatten ++ (l.drop i).flatten := by rw [← List.flatten_append, List.take_append_drop]
    rw [this, List.length_append]; omega
  induction n with
  | zero =>
    intro i hn hi
    have hil : i = l.length := by omega
    subst hil
    apply round
    simp only [rjoin_l0_w, rjoin_l0', eqs, reduceCtorEq, implies_true, List.map_cons, List.map_nil, kl, klL, roD, roL, Option.map_some, Option.map_none, Option.getD_some, Option.getD_none, binVal, binObl, unVal, Nat.reduceEqDiff, if_true, if_false, reduceIte, eq_self, passA, frnD, resD, content, getH, getR, getW, viaNot, viaSlot, viaBox, viaDeep, viaMem, List.contains_cons, List.contains_nil, grabs, peeks, okCells, isCell, place, cellsOf, chunk, elt, List.headD_cons, List.length_cons, List.length_nil, List.take_succ_cons, List.take_zero, List.drop_succ_cons, List.drop_zero, Nat.reduceAdd, Nat.reduceSub, Nat.reduceLeDiff, List.nil_append, List.cons_append, List.append_nil, List.all_cons, List.all_nil, plainC, takeR, setW, over, reCell, Int.reduceToNat, List.getElem?_cons_zero, List.getElem?_cons_succ, List.set_cons_zero, List.take_length, outV, resG, plainV, pack, outVG, outBx, List.set_cons_succ, Ref.idx, Ref.addOff, beq_self_eq_true, Nat.reduceBEq, bxL, Option.bind_some, writeR, isLit, viaBoxes, capsPA, boxPA, nsOf, noDup, boxesAt, argG, passG, passD, rhoIn, rhoOut, idxIn, tr, trL, List.getD_cons_zero, gives, pasOf, isPtr]
    rw [show decide ((l.length : Int) < l.length) = false by simp]
    simp only [rjoin_k1_w, rjoin_k1', eqs, reduceCtorEq, implies_true, List.map_cons, List.map_nil, kl, klL, roD, roL, Option.map_some, Option.map_none, Option.getD_some, Option.getD_none, binVal, binObl, unVal, Nat.reduceEqDiff, if_true, if_false, reduceIte, eq_self, passA, frnD, resD, content, getH, getR, getW, viaNot, viaSlot, viaBox, viaDeep, viaMem, List.contains_cons, List.contains_nil, grabs, peeks, okCells, isCell, place, cellsOf, chunk, elt, List.headD_cons, List.length_cons, List.length_nil, List.take_succ_cons, List.take_zero, List.drop_succ_cons, List.drop_zero, Nat.reduceAdd, Nat.reduceSub, Nat.reduceLeDiff, List.nil_append, List.cons_append, List.append_nil, List.all_cons, List.all_nil, plainC, takeR, setW, over, reCell, Int.reduceToNat, List.getElem?_cons_zero, List.getElem?_cons_succ, List.set_cons_zero, List.take_length, outV, resG, plainV, pack, outVG, outBx, List.set_cons_succ, Ref.idx, Ref.addOff, beq_self_eq_true, Nat.reduceBEq, bxL, Option.bind_some, writeR, isLit, viaBoxes, capsPA, boxPA, nsOf, noDup, boxesAt, argG, passG, passD, rhoIn, rhoOut, idxIn, tr, trL, List.getD_cons_zero, gives, pasOf, isPtr]
    exact ⟨str l.flatten, by rw [str_dataL]; simp [bs], rfl⟩
  | succ n ih =>
    intro i hn hi
    have hil : i < l.length := by omega
    apply round
    simp only [rjoin_l0_w, rjoin_l0', eqs, reduceCtorEq, implies_true, List.map_cons, List.map_nil, kl, klL, roD, roL, Option.map_some, Option.map_none, Option.getD_some, Option.getD_none, binVal, binObl, unVal, Nat.reduceEqDiff, if_true, if_false, reduceIte, eq_self, passA, frnD, resD, content, getH, getR, getW, viaNot, viaSlot, viaBox, viaDeep, viaMem, List.contains_cons, List.contains_nil, grabs, peeks, okCells, isCell, place, cellsOf, chunk, elt, List.headD_cons, List.length_cons, List.length_nil, List.take_succ_cons, List.take_zero, List.drop_succ_cons, List.drop_zero, Nat.reduceAdd, Nat.reduceSub, Nat.reduceLeDiff, List.nil_append, List.cons_append, List.append_nil, List.all_cons, List.all_nil, plainC, takeR, setW, over, reCell, Int.reduceToNat, List.getElem?_cons_zero, List.getElem?_cons_succ, List.set_cons_zero, List.take_length, outV, resG, plainV, pack, outVG, outBx, List.set_cons_succ, Ref.idx, Ref.addOff, beq_self_eq_true, Nat.reduceBEq, bxL, Option.bind_some, writeR, isLit, viaBoxes, capsPA, boxPA, nsOf, noDup, boxesAt, argG, passG, passD, rhoIn, rhoOut, idxIn, tr, trL, List.getD_cons_zero, gives, pasOf, isPtr]
    rw [show decide ((i : Int) < l.length) = true by simpa using hil]
    simp only [ssE l hil, eqs, reduceCtorEq, implies_true, List.map_cons, List.map_nil, kl, klL, roD, roL, Option.map_some, Option.map_none, Option.getD_some, Option.getD_none, binVal, binObl, unVal, Nat.reduceEqDiff, if_true, if_false, reduceIte, eq_self, passA, frnD, resD, content, getH, getR, getW, viaNot, viaSlot, viaBox, viaDeep, viaMem, List.contains_cons, List.contains_nil, grabs, peeks, okCells, isCell, place, cellsOf, chunk, elt, List.headD_cons, List.length_cons, List.length_nil, List.take_succ_cons, List.take_zero, List.drop_succ_cons, List.drop_zero, Nat.reduceAdd, Nat.reduceSub, Nat.reduceLeDiff, List.nil_append, List.cons_append, List.append_nil, List.all_cons, List.all_nil, plainC, takeR, setW, over, reCell, Int.reduceToNat, List.getElem?_cons_zero, List.getElem?_cons_succ, List.set_cons_zero, List.take_length, outV, resG, plainV, pack, outVG, outBx, List.set_cons_succ, Ref.idx, Ref.addOff, beq_self_eq_true, Nat.reduceBEq, bxL, Option.bind_some, writeR, isLit, viaBoxes, capsPA, boxPA, nsOf, noDup, boxesAt, argG, passG, passD, rhoIn, rhoOut, idxIn, tr, trL, List.getD_cons_zero, gives, pasOf, isPtr]
    have h1 := hlen (i + 1)
    have e := take_flatten_succ l hil
    rw [e, List.length_append] at h1
    rw [wrapN (i + 1) (by omega) (by omega)]
    repeat (refine ⟨by (try simp only [List.length_append, List.length_cons, List.length_nil]); omega, ?_⟩)
    have := ih (i + 1) (by omega) (by omega)
    rw [e] at this
    exact this
theorem rjoin_snd (l : List Bs) (hl : l.length ≤ 1048576) (hf : l.flatten.length ≤ 1048576) : Snd Tryd.prog (gl m) 45 [.sl .frn 1 (ss l)] (S l.flatten) := by
  refine snd_of (fn := Tryd.f45) (af := rjoin) Tryd.func45 (rjoin_comp m) mixed (kn_ok m) (Nat.le_of_ble_eq_true rfl) ?_
  simp only [rjoin, eqs, reduceCtorEq, implies_true, List.map_cons, List.map_nil, kl, klL, roD, roL, Option.map_some, Option.map_none, Option.getD_some, Option.getD_none, binVal, binObl, unVal, Nat.reduceEqDiff, if_true, if_false, reduceIte, eq_self, passA, frnD, resD, content, getH, getR, getW, viaNot, viaSlot, viaBox, viaDeep, viaMem, List.contains_cons, List.contains_nil, grabs, peeks, okCells, isCell, place, cellsOf, chunk, elt, List.headD_cons, List.length_cons, List.length_nil, List.take_succ_cons, List.take_zero, List.drop_succ_cons, List.drop_zero, Nat.reduceAdd, Nat.reduceSub, Nat.reduceLeDiff, List.nil_append, List.cons_append, List.append_nil, List.all_cons, List.all_nil, plainC, takeR, setW, over, reCell, Int.reduceToNat, List.getElem?_cons_zero, List.getElem?_cons_succ, List.set_cons_zero, List.take_length, outV, resG, plainV, pack, outVG, outBx, List.set_cons_succ, Ref.idx, Ref.addOff, beq_self_eq_true, Nat.reduceBEq, bxL, Option.bind_some, writeR, isLit, viaBoxes, capsPA, boxPA, nsOf, noDup, boxesAt, argG, passG, passD, rhoIn, rhoOut, idxIn, tr, trL, List.getD_cons_zero, gives, pasOf, isPtr]
  exact rjoin_loop l hl hf _ 0 rfl (by omega)
theorem joinE (l : List Bs) : Lib.join l [] = l.flatten := by
  induction l with
  | nil => rfl
  | cons x l ih =>
    cases l with
    | nil => simp [Lib.join, List.intercalate]
    | cons y l =>
      simp only [Lib.join, List.intercalate, List.intersperse, List.flatten_cons, List.nil_append] at ih ⊢
      rw [ih]
theorem pjoin_snd (l : List Bs) (hl : l.length ≤ 1048576) (hf : l.flatten.length ≤ 1048576) : Snd Tryd.prog (gl m) 28 [.sl .frn 1 (ss l)] (S l.flatten) := by
  refine snd_of (fn := Tryd.f28) (af := pjoin) Tryd.func28 (pjoin_comp m) mixed (kn_ok m) (Nat.le_of_ble_eq_true rfl) ?_
  simp only [pjoin, eqs, reduceCtorEq, implies_true, List.map_cons, List.map_nil, kl, klL, roD, roL, Option.map_some, Option.map_none, Option.getD_some, Option.getD_none, binVal, binObl, unVal, Nat.reduceEqDiff, if_true, if_false, reduceIte, eq_self, passA, frnD, resD, content, getH, getR, getW, viaNot, viaSlot, viaBox, viaDeep, viaMem, List.contains_cons, List.contains_nil, grabs, peeks, okCells, isCell, place, cellsOf, chunk, elt, List.headD_cons, List.length_cons, List.length_nil, List.take_succ_cons, List.take_zero, List.drop_succ_cons, List.drop_zero, Nat.reduceAdd, Nat.reduceSub, Nat.reduceLeDiff, List.nil_append, List.cons_append, List.append_nil, List.all_cons, List.all_nil, plainC, takeR, setW, over, reCell, Int.reduceToNat, List.getElem?_cons_zero, List.getElem?_cons_succ, List.set_cons_zero, List.take_length, outV, resG, plainV, pack, outVG, outBx, List.set_cons_succ, Ref.idx, Ref.addOff, beq_self_eq_true, Nat.reduceBEq, bxL, Option.bind_some, writeR, isLit, viaBoxes, capsPA, boxPA, nsOf, noDup, boxesAt, argG, passG, passD, rhoIn, rhoOut, idxIn, tr, trL, List.getD_cons_zero, gives, pasOf, isPtr]
  refine of_call (join l [] hl (by rw [joinE]; omega)) ?_
  simp only [joinE, eqs, reduceCtorEq, implies_true, List.map_cons, List.map_nil, kl, klL, roD, roL, Option.map_some, Option.map_none, Option.getD_some, Option.getD_none, binVal, binObl, unVal, Nat.reduceEqDiff, if_true, if_false, reduceIte, eq_self, passA, frnD, resD, content, getH, getR, getW, viaNot, viaSlot, viaBox, viaDeep, viaMem, List.contains_cons, List.contains_nil, grabs, peeks, okCells, isCell, place, cellsOf, chunk, elt, List.headD_cons, List.length_cons, List.length_nil, List.take_succ_cons, List.take_zero, List.drop_succ_cons, List.drop_zero, Nat.reduceAdd, Nat.reduceSub, Nat.reduceLeDiff, List.nil_append, List.cons_append, List.append_nil, List.all_cons, List.all_nil, plainC, takeR, setW, over, reCell, Int.reduceToNat, List.getElem?_cons_zero, List.getElem?_cons_succ, List.set_cons_zero, List.take_length, outV, resG, plainV, pack, outVG, outBx, List.set_cons_succ, Ref.idx, Ref.addOff, beq_self_eq_true, Nat.reduceBEq, bxL, Option.bind_some, writeR, isLit, viaBoxes, capsPA, boxPA, nsOf, noDup, boxesAt, argG, passG, passD, rhoIn, rhoOut, idxIn, tr, trL, List.getD_cons_zero, gives, pasOf, isPtr]

/-! ### First -/
theorem pfirst_loop (L : List Bs) (hL : L.length ≤ 1048576) (hb : ∀ l, l ∈ L → l.length ≤ 1048576) (n : Nat) : ∀ (i : Nat) (hn : L.length - i = n) (hi : i ≤ L.length),
    vcL (kn m) [7, 8, 9] [] pfirst_l0 (blockK 0 (seqK (kn m) [] [] pfirst_k1 (outOk [.tmp 2] (S (first (L.drop i)))))) (mkS [(7, .sl .own 1 (ss L)), (8, N L.length), (9, N i)] []) := by
  induction n with
  | zero =>
    intro i hn hi
    have hil : i = L.length := by omega
    subst hil
    apply round
    simp only [pfirst_l0_w, pfirst_l0', eqs, reduceCtorEq, implies_true, List.map_cons, List.map_nil, kl, klL, roD, roL, Option.map_some, Option.map_none, Option.getD_some, Option.getD_none, binVal, binObl, unVal, Nat.reduceEqDiff, if_true, if_false, reduceIte, eq_self, passA, frnD, resD, content, getH, getR, getW, viaNot, viaSlot, viaBox, viaDeep, viaMem, List.contains_cons, List.contains_nil, grabs, peeks, okCells, isCell, place, cellsOf, chunk, elt, List.headD_cons, List.length_cons, List.length_nil, List.take_succ_cons, List.take_zero, List.drop_succ_cons, List.drop_zero, Nat.reduceAdd, Nat.reduceSub, Nat.reduceLeDiff, List.nil_append, List.cons_append, List.append_nil, List.all_cons, List.all_nil, plainC, takeR, setW, over, reCell, Int.reduceToNat, List.getElem?_cons_zero, List.getElem?_cons_succ, List.set_cons_zero, List.take_length, outV, resG, plainV, pack, outVG, outBx, List.set_cons_succ, Ref.idx, Ref.addOff, beq_self_eq_true, Nat.reduceBEq, bxL, Option.bind_some, writeR, isLit, viaBoxes, capsPA, boxPA, nsOf, noDup, boxesAt, argG, passG, passD, rhoIn, rhoOut, idxIn, tr, trL, List.getD_cons_zero, gives, pasOf, isPtr]
    rw [show decide ((L.length : Int) < L.length) = false by simp]
    simp only [pfirst_k1_w, pfirst_k1', eqs, reduceCtorEq, implies_true, List.map_cons, List.map_nil, kl, klL, roD, roL, Option.map_some, Option.map_none, Option.getD_some, Option.getD_none, binVal, binObl, unVal, Nat.reduceEqDiff, if_true, if_false, reduceIte, eq_self, passA, frnD, resD, content, getH, getR, getW, viaNot, viaSlot, viaBox, viaDeep, viaMem, List.contains_cons, List.contains_nil, grabs, peeks, okCells, isCell, place, cellsOf, chunk, elt, List.headD_cons, List.length_cons, List.length_nil, List.take_succ_cons, List.take_zero, List.drop_succ_cons, List.drop_zero, Nat.reduceAdd, Nat.reduceSub, Nat.reduceLeDiff, List.nil_append, List.cons_append, List.append_nil, List.all_cons, List.all_nil, plainC, takeR, setW, over, reCell, Int.reduceToNat, List.getElem?_cons_zero, List.getElem?_cons_succ, List.set_cons_zero, List.take_length, outV, resG, plainV, pack, outVG, outBx, List.set_cons_succ, Ref.idx, Ref.addOff, beq_self_eq_true, Nat.reduceBEq, bxL, Option.bind_some, writeR, isLit, viaBoxes, capsPA, boxPA, nsOf, noDup, boxesAt, argG, passG, passD, rhoIn, rhoOut, idxIn, tr, trL, List.getD_cons_zero, gives, pasOf, isPtr]
    simp [first]
  | succ n ih =>
    intro i hn hi
    have hil : i < L.length := by omega
    apply round
    simp only [pfirst_l0_w, pfirst_l0', eqs, reduceCtorEq, implies_true, List.map_cons, List.map_nil, kl, klL, roD, roL, Option.map_some, Option.map_none, Option.getD_some, Option.getD_none, binVal, binObl, unVal, Nat.reduceEqDiff, if_true, if_false, reduceIte, eq_self, passA, frnD, resD, content, getH, getR, getW, viaNot, viaSlot, viaBox, viaDeep, viaMem, List.contains_cons, List.contains_nil, grabs, peeks, okCells, isCell, place, cellsOf, chunk, elt, List.headD_cons, List.length_cons, List.length_nil, List.take_succ_cons, List.take_zero, List.drop_succ_cons, List.drop_zero, Nat.reduceAdd, Nat.reduceSub, Nat.reduceLeDiff, List.nil_append, List.cons_append, List.append_nil, List.all_cons, List.all_nil, plainC, takeR, setW, over, reCell, Int.reduceToNat, List.getElem?_cons_zero, List.getElem?_cons_succ, List.set_cons_zero, List.take_length, outV, resG, plainV, pack, outVG, outBx, List.set_cons_succ, Ref.idx, Ref.addOff, beq_self_eq_true, Nat.reduceBEq, bxL, Option.bind_some, writeR, isLit, viaBoxes, capsPA, boxPA, nsOf, noDup, boxesAt, argG, passG, passD, rhoIn, rhoOut, idxIn, tr, trL, List.getD_cons_zero, gives, pasOf, isPtr]
    rw [show decide ((i : Int) < L.length) = true by simpa using hil]
    simp only [ssE L hil, eqs, reduceCtorEq, implies_true, List.map_cons, List.map_nil, kl, klL, roD, roL, Option.map_some, Option.map_none, Option.getD_some, Option.getD_none, binVal, binObl, unVal, Nat.reduceEqDiff, if_true, if_false, reduceIte, eq_self, passA, frnD, resD, content, getH, getR, getW, viaNot, viaSlot, viaBox, viaDeep, viaMem, List.contains_cons, List.contains_nil, grabs, peeks, okCells, isCell, place, cellsOf, chunk, elt, List.headD_cons, List.length_cons, List.length_nil, List.take_succ_cons, List.take_zero, List.drop_succ_cons, List.drop_zero, Nat.reduceAdd, Nat.reduceSub, Nat.reduceLeDiff, List.nil_append, List.cons_append, List.append_nil, List.all_cons, List.all_nil, plainC, takeR, setW, over, reCell, Int.reduceToNat, List.getElem?_cons_zero, List.getElem?_cons_succ, List.set_cons_zero, List.take_length, outV, resG, plainV, pack, outVG, outBx, List.set_cons_succ, Ref.idx, Ref.addOff, beq_self_eq_true, Nat.reduceBEq, bxL, Option.bind_some, writeR, isLit, viaBoxes, capsPA, boxPA, nsOf, noDup, boxesAt, argG, passG, passD, rhoIn, rhoOut, idxIn, tr, trL, List.getD_cons_zero, gives, pasOf, isPtr]
    repeat (refine ⟨by (try simp only [List.length_append, List.length_cons, List.length_nil]); omega, ?_⟩)
    refine of_call (trimSuffix L[i] [10] (by have := hb _ (List.getElem_mem hil); omega)) ?_
    simp only [trimSuffix_feed, eqs, reduceCtorEq, implies_true, List.map_cons, List.map_nil, kl, klL, roD, roL, Option.map_some, Option.map_none, Option.getD_some, Option.getD_none, binVal, binObl, unVal, Nat.reduceEqDiff, if_true, if_false, reduceIte, eq_self, passA, frnD, resD, content, getH, getR, getW, viaNot, viaSlot, viaBox, viaDeep, viaMem, List.contains_cons, List.contains_nil, grabs, peeks, okCells, isCell, place, cellsOf, chunk, elt, List.headD_cons, List.length_cons, List.length_nil, List.take_succ_cons, List.take_zero, List.drop_succ_cons, List.drop_zero, Nat.reduceAdd, Nat.reduceSub, Nat.reduceLeDiff, List.nil_append, List.cons_append, List.append_nil, List.all_cons, List.all_nil, plainC, takeR, setW, over, reCell, Int.reduceToNat, List.getElem?_cons_zero, List.getElem?_cons_succ, List.set_cons_zero, List.take_length, outV, resG, plainV, pack, outVG, outBx, List.set_cons_succ, Ref.idx, Ref.addOff, beq_self_eq_true, Nat.reduceBEq, bxL, Option.bind_some, writeR, isLit, viaBoxes, capsPA, boxPA, nsOf, noDup, boxesAt, argG, passG, passD, rhoIn, rhoOut, idxIn, tr, trL, List.getD_cons_zero, gives, pasOf, isPtr]
    refine split_c (fun h => ?_) (fun h => ?_)
    · have hu : unfeed L[i] ≠ [] := by simpa using h
      simp only [eqs, reduceCtorEq, implies_true, List.map_cons, List.map_nil, kl, klL, roD, roL, Option.map_some, Option.map_none, Option.getD_some, Option.getD_none, binVal, binObl, unVal, Nat.reduceEqDiff, if_true, if_false, reduceIte, eq_self, passA, frnD, resD, content, getH, getR, getW, viaNot, viaSlot, viaBox, viaDeep, viaMem, List.contains_cons, List.contains_nil, grabs, peeks, okCells, isCell, place, cellsOf, chunk, elt, List.headD_cons, List.length_cons, List.length_nil, List.take_succ_cons, List.take_zero, List.drop_succ_cons, List.drop_zero, Nat.reduceAdd, Nat.reduceSub, Nat.reduceLeDiff, List.nil_append, List.cons_append, List.append_nil, List.all_cons, List.all_nil, plainC, takeR, setW, over, reCell, Int.reduceToNat, List.getElem?_cons_zero, List.getElem?_cons_succ, List.set_cons_zero, List.take_length, outV, resG, plainV, pack, outVG, outBx, List.set_cons_succ, Ref.idx, Ref.addOff, beq_self_eq_true, Nat.reduceBEq, bxL, Option.bind_some, writeR, isLit, viaBoxes, capsPA, boxPA, nsOf, noDup, boxesAt, argG, passG, passD, rhoIn, rhoOut, idxIn, tr, trL, List.getD_cons_zero, gives, pasOf, isPtr]
      rw [first_drop_t L hil hu]
    · have hu : unfeed L[i] = [] := by simpa using h
      simp only [eqs, reduceCtorEq, implies_true, List.map_cons, List.map_nil, kl, klL, roD, roL, Option.map_some, Option.map_none, Option.getD_some, Option.getD_none, binVal, binObl, unVal, Nat.reduceEqDiff, if_true, if_false, reduceIte, eq_self, passA, frnD, resD, content, getH, getR, getW, viaNot, viaSlot, viaBox, viaDeep, viaMem, List.contains_cons, List.contains_nil, grabs, peeks, okCells, isCell, place, cellsOf, chunk, elt, List.headD_cons, List.length_cons, List.length_nil, List.take_succ_cons, List.take_zero, List.drop_succ_cons, List.drop_zero, Nat.reduceAdd, Nat.reduceSub, Nat.reduceLeDiff, List.nil_append, List.cons_append, List.append_nil, List.all_cons, List.all_nil, plainC, takeR, setW, over, reCell, Int.reduceToNat, List.getElem?_cons_zero, List.getElem?_cons_succ, List.set_cons_zero, List.take_length, outV, resG, plainV, pack, outVG, outBx, List.set_cons_succ, Ref.idx, Ref.addOff, beq_self_eq_true, Nat.reduceBEq, bxL, Option.bind_some, writeR, isLit, viaBoxes, capsPA, boxPA, nsOf, noDup, boxesAt, argG, passG, passD, rhoIn, rhoOut, idxIn, tr, trL, List.getD_cons_zero, gives, pasOf, isPtr]
      rw [wrapN (i + 1) (by omega) (by omega), first_drop_f L hil hu]
      exact ih (i + 1) (by omega) (by omega)
theorem pfirst_snd (s : Bs) (hs : s.length ≤ 1048576) : Snd Tryd.prog (gl m) 44 [S s] (S (first (lines s))) := by
  refine snd_of (fn := Tryd.f44) (af := pfirst) Tryd.func44 (pfirst_comp m) mixed (kn_ok m) (Nat.le_of_ble_eq_true rfl) ?_
  simp only [pfirst, eqs, reduceCtorEq, implies_true, List.map_cons, List.map_nil, kl, klL, roD, roL, Option.map_some, Option.map_none, Option.getD_some, Option.getD_none, binVal, binObl, unVal, Nat.reduceEqDiff, if_true, if_false, reduceIte, eq_self, passA, frnD, resD, content, getH, getR, getW, viaNot, viaSlot, viaBox, viaDeep, viaMem, List.contains_cons, List.contains_nil, grabs, peeks, okCells, isCell, place, cellsOf, chunk, elt, List.headD_cons, List.length_cons, List.length_nil, List.take_succ_cons, List.take_zero, List.drop_succ_cons, List.drop_zero, Nat.reduceAdd, Nat.reduceSub, Nat.reduceLeDiff, List.nil_append, List.cons_append, List.append_nil, List.all_cons, List.all_nil, plainC, takeR, setW, over, reCell, Int.reduceToNat, List.getElem?_cons_zero, List.getElem?_cons_succ, List.set_cons_zero, List.take_length, outV, resG, plainV, pack, outVG, outBx, List.set_cons_succ, Ref.idx, Ref.addOff, beq_self_eq_true, Nat.reduceBEq, bxL, Option.bind_some, writeR, isLit, viaBoxes, capsPA, boxPA, nsOf, noDup, boxesAt, argG, passG, passD, rhoIn, rhoOut, idxIn, tr, trL, List.getD_cons_zero, gives, pasOf, isPtr]
  refine of_call (psplit_snd s hs) ?_
  simp only [eqs, reduceCtorEq, implies_true, List.map_cons, List.map_nil, kl, klL, roD, roL, Option.map_some, Option.map_none, Option.getD_some, Option.getD_none, binVal, binObl, unVal, Nat.reduceEqDiff, if_true, if_false, reduceIte, eq_self, passA, frnD, resD, content, getH, getR, getW, viaNot, viaSlot, viaBox, viaDeep, viaMem, List.contains_cons, List.contains_nil, grabs, peeks, okCells, isCell, place, cellsOf, chunk, elt, List.headD_cons, List.length_cons, List.length_nil, List.take_succ_cons, List.take_zero, List.drop_succ_cons, List.drop_zero, Nat.reduceAdd, Nat.reduceSub, Nat.reduceLeDiff, List.nil_append, List.cons_append, List.append_nil, List.all_cons, List.all_nil, plainC, takeR, setW, over, reCell, Int.reduceToNat, List.getElem?_cons_zero, List.getElem?_cons_succ, List.set_cons_zero, List.take_length, outV, resG, plainV, pack, outVG, outBx, List.set_cons_succ, Ref.idx, Ref.addOff, beq_self_eq_true, Nat.reduceBEq, bxL, Option.bind_some, writeR, isLit, viaBoxes, capsPA, boxPA, nsOf, noDup, boxesAt, argG, passG, passD, rhoIn, rhoOut, idxIn, tr, trL, List.getD_cons_zero, gives, pasOf, isPtr]
  exact pfirst_loop (lines s) (by have := lines_len s; omega) (fun l hl => by have := line_len hl; omega) _ 0 rfl (by omega)

theorem rfirst_loop (L : List Bs) (hL : L.length ≤ 1048576) (hb : ∀ l, l ∈ L → l.length ≤ 1048576) (hne : ∀ l, l ∈ L → l ≠ []) (n : Nat) : ∀ (i : Nat) (hn : L.length - i = n) (hi : i ≤ L.length),
    vcL (kn m) [3, 9, 10] [] rfirst_l0 (blockK 0 (seqK (kn m) [] [] rfirst_k1 (outOk [.tmp 2] (S (first (L.drop i)))))) (mkS [(3, .sl .own 1 (ss L)), (9, N L.length), (10, N i)] []) := by
  induction n with
  | zero =>
    intro i hn hi
    have hil : i = L.length := by omega
    subst hil
    apply round
    simp only [rfirst_l0_w, rfirst_l0', eqs, reduceCtorEq, implies_true, List.map_cons, List.map_nil, kl, klL, roD, roL, Option.map_some, Option.map_none, Option.getD_some, Option.getD_none, binVal, binObl, unVal, Nat.reduceEqDiff, if_true, if_false, reduceIte, eq_self, passA, frnD, resD, content, getH, getR, getW, viaNot, viaSlot, viaBox, viaDeep, viaMem, List.contains_cons, List.contains_nil, grabs, peeks, okCells, isCell, place, cellsOf, chunk, elt, List.headD_cons, List.length_cons, List.length_nil, List.take_succ_cons, List.take_zero, List.drop_succ_cons, List.drop_zero, Nat.reduceAdd, Nat.reduceSub, Nat.reduceLeDiff, List.nil_append, List.cons_append, List.append_nil, List.all_cons, List.all_nil, plainC, takeR, setW, over, reCell, Int.reduceToNat, List.getElem?_cons_zero, List.getElem?_cons_succ, List.set_cons_zero, List.take_length, outV, resG, plainV, pack, outVG, outBx, List.set_cons_succ, Ref.idx, Ref.addOff, beq_self_eq_true, Nat.reduceBEq, bxL, Option.bind_some, writeR, isLit, viaBoxes, capsPA, boxPA, nsOf, noDup, boxesAt, argG, passG, passD, rhoIn, rhoOut, idxIn, tr, trL, List.getD_cons_zero, gives, pasOf, isPtr]
    rw [show decide ((L.length : Int) < L.length) = false by simp]
    simp only [rfirst_k1_w, rfirst_k1', eqs, reduceCtorEq, implies_true, List.map_cons, List.map_nil, kl, klL, roD, roL, Option.map_some, Option.map_none, Option.getD_some, Option.getD_none, binVal, binObl, unVal, Nat.reduceEqDiff, if_true, if_false, reduceIte, eq_self, passA, frnD, resD, content, getH, getR, getW, viaNot, viaSlot, viaBox, viaDeep, viaMem, List.contains_cons, List.contains_nil, grabs, peeks, okCells, isCell, place, cellsOf, chunk, elt, List.headD_cons, List.length_cons, List.length_nil, List.take_succ_cons, List.take_zero, List.drop_succ_cons, List.drop_zero, Nat.reduceAdd, Nat.reduceSub, Nat.reduceLeDiff, List.nil_append, List.cons_append, List.append_nil, List.all_cons, List.all_nil, plainC, takeR, setW, over, reCell, Int.reduceToNat, List.getElem?_cons_zero, List.getElem?_cons_succ, List.set_cons_zero, List.take_length, outV, resG, plainV, pack, outVG, outBx, List.set_cons_succ, Ref.idx, Ref.addOff, beq_self_eq_true, Nat.reduceBEq, bxL, Option.bind_some, writeR, isLit, viaBoxes, capsPA, boxPA, nsOf, noDup, boxesAt, argG, passG, passD, rhoIn, rhoOut, idxIn, tr, trL, List.getD_cons_zero, gives, pasOf, isPtr]
    simp [first]
  | succ n ih =>
    intro i hn hi
    have hil : i < L.length := by omega
    have hl := hne _ (List.getElem_mem hil)
    have hlb := hb _ (List.getElem_mem hil)
    have hpos : 0 < L[i].length := by cases h : L[i] with | nil => exact absurd h hl | cons _ _ => simp
    apply round
    simp only [rfirst_l0_w, rfirst_l0', eqs, reduceCtorEq, implies_true, List.map_cons, List.map_nil, kl, klL, roD, roL, Option.map_some, Option.map_none, Option.getD_some, Option.getD_none, binVal, binObl, unVal, Nat.reduceEqDiff, if_true, if_false, reduceIte, eq_self, passA, frnD, resD, content, getH, getR, getW, viaNot, viaSlot, viaBox, viaDeep, viaMem, List.contains_cons, List.contains_nil, grabs, peeks, okCells, isCell, place, cellsOf, chunk, elt, List.headD_cons, List.length_cons, List.length_nil, List.take_succ_cons, List.take_zero, List.drop_succ_cons, List.drop_zero, Nat.reduceAdd, Nat.reduceSub, Nat.reduceLeDiff, List.nil_append, List.cons_append, List.append_nil, List.all_cons, List.all_nil, plainC, takeR, setW, over, reCell, Int.reduceToNat, List.getElem?_cons_zero, List.getElem?_cons_succ, List.set_cons_zero, List.take_length, outV, resG, plainV, pack, outVG, outBx, List.set_cons_succ, Ref.idx, Ref.addOff, beq_self_eq_true, Nat.reduceBEq, bxL, Option.bind_some, writeR, isLit, viaBoxes, capsPA, boxPA, nsOf, noDup, boxesAt, argG, passG, passD, rhoIn, rhoOut, idxIn, tr, trL, List.getD_cons_zero, gives, pasOf, isPtr]
    rw [show decide ((i : Int) < L.length) = true by simpa using hil]
    simp only [ssE L hil, eqs, reduceCtorEq, implies_true, List.map_cons, List.map_nil, kl, klL, roD, roL, Option.map_some, Option.map_none, Option.getD_some, Option.getD_none, binVal, binObl, unVal, Nat.reduceEqDiff, if_true, if_false, reduceIte, eq_self, passA, frnD, resD, content, getH, getR, getW, viaNot, viaSlot, viaBox, viaDeep, viaMem, List.contains_cons, List.contains_nil, grabs, peeks, okCells, isCell, place, cellsOf, chunk, elt, List.headD_cons, List.length_cons, List.length_nil, List.take_succ_cons, List.take_zero, List.drop_succ_cons, List.drop_zero, Nat.reduceAdd, Nat.reduceSub, Nat.reduceLeDiff, List.nil_append, List.cons_append, List.append_nil, List.all_cons, List.all_nil, plainC, takeR, setW, over, reCell, Int.reduceToNat, List.getElem?_cons_zero, List.getElem?_cons_succ, List.set_cons_zero, List.take_length, outV, resG, plainV, pack, outVG, outBx, List.set_cons_succ, Ref.idx, Ref.addOff, beq_self_eq_true, Nat.reduceBEq, bxL, Option.bind_some, writeR, isLit, viaBoxes, capsPA, boxPA, nsOf, noDup, boxesAt, argG, passG, passD, rhoIn, rhoOut, idxIn, tr, trL, List.getD_cons_zero, gives, pasOf, isPtr]
    repeat (refine ⟨by (try simp only [List.length_append, List.length_cons, List.length_nil]); omega, ?_⟩)
    refine split_c (fun h => ?_) (fun h => ?_)
    · have hu : L[i] ≠ [10] := by simpa using h
      have hu' : unfeed L[i] ≠ [] := fun e => hu ((unfeed_nil hl).1 e)
      simp only [ssE L hil, eqs, reduceCtorEq, implies_true, List.map_cons, List.map_nil, kl, klL, roD, roL, Option.map_some, Option.map_none, Option.getD_some, Option.getD_none, binVal, binObl, unVal, Nat.reduceEqDiff, if_true, if_false, reduceIte, eq_self, passA, frnD, resD, content, getH, getR, getW, viaNot, viaSlot, viaBox, viaDeep, viaMem, List.contains_cons, List.contains_nil, grabs, peeks, okCells, isCell, place, cellsOf, chunk, elt, List.headD_cons, List.length_cons, List.length_nil, List.take_succ_cons, List.take_zero, List.drop_succ_cons, List.drop_zero, Nat.reduceAdd, Nat.reduceSub, Nat.reduceLeDiff, List.nil_append, List.cons_append, List.append_nil, List.all_cons, List.all_nil, plainC, takeR, setW, over, reCell, Int.reduceToNat, List.getElem?_cons_zero, List.getElem?_cons_succ, List.set_cons_zero, List.take_length, outV, resG, plainV, pack, outVG, outBx, List.set_cons_succ, Ref.idx, Ref.addOff, beq_self_eq_true, Nat.reduceBEq, bxL, Option.bind_some, writeR, isLit, viaBoxes, capsPA, boxPA, nsOf, noDup, boxesAt, argG, passG, passD, rhoIn, rhoOut, idxIn, tr, trL, List.getD_cons_zero, gives, pasOf, isPtr]
      rw [wrapN (L[i].length - 1) (by omega) (by omega)]
      have hlt : L[i].length - 1 < L[i].length := by omega
      simp only [getE hlt, eqs, reduceCtorEq, implies_true, List.map_cons, List.map_nil, kl, klL, roD, roL, Option.map_some, Option.map_none, Option.getD_some, Option.getD_none, binVal, binObl, unVal, Nat.reduceEqDiff, if_true, if_false, reduceIte, eq_self, passA, frnD, resD, content, getH, getR, getW, viaNot, viaSlot, viaBox, viaDeep, viaMem, List.contains_cons, List.contains_nil, grabs, peeks, okCells, isCell, place, cellsOf, chunk, elt, List.headD_cons, List.length_cons, List.length_nil, List.take_succ_cons, List.take_zero, List.drop_succ_cons, List.drop_zero, Nat.reduceAdd, Nat.reduceSub, Nat.reduceLeDiff, List.nil_append, List.cons_append, List.append_nil, List.all_cons, List.all_nil, plainC, takeR, setW, over, reCell, Int.reduceToNat, List.getElem?_cons_zero, List.getElem?_cons_succ, List.set_cons_zero, List.take_length, outV, resG, plainV, pack, outVG, outBx, List.set_cons_succ, Ref.idx, Ref.addOff, beq_self_eq_true, Nat.reduceBEq, bxL, Option.bind_some, writeR, isLit, viaBoxes, capsPA, boxPA, nsOf, noDup, boxesAt, argG, passG, passD, rhoIn, rhoOut, idxIn, tr, trL, List.getD_cons_zero, gives, pasOf, isPtr]
      repeat (refine ⟨by (try simp only [List.length_append, List.length_cons, List.length_nil]); omega, ?_⟩)
      rw [first_drop_t L hil hu']
      have hlast : L[i].getLast? = some L[i][L[i].length - 1] := by rw [List.getLast?_eq_getElem?, getE hlt]
      refine split_c (fun h => ?_) (fun h => ?_)
      · have hc := u8_t h (d := 10) rfl
        simp only [ssE L hil, eqs, reduceCtorEq, implies_true, List.map_cons, List.map_nil, kl, klL, roD, roL, Option.map_some, Option.map_none, Option.getD_some, Option.getD_none, binVal, binObl, unVal, Nat.reduceEqDiff, if_true, if_false, reduceIte, eq_self, passA, frnD, resD, content, getH, getR, getW, viaNot, viaSlot, viaBox, viaDeep, viaMem, List.contains_cons, List.contains_nil, grabs, peeks, okCells, isCell, place, cellsOf, chunk, elt, List.headD_cons, List.length_cons, List.length_nil, List.take_succ_cons, List.take_zero, List.drop_succ_cons, List.drop_zero, Nat.reduceAdd, Nat.reduceSub, Nat.reduceLeDiff, List.nil_append, List.cons_append, List.append_nil, List.all_cons, List.all_nil, plainC, takeR, setW, over, reCell, Int.reduceToNat, List.getElem?_cons_zero, List.getElem?_cons_succ, List.set_cons_zero, List.take_length, outV, resG, plainV, pack, outVG, outBx, List.set_cons_succ, Ref.idx, Ref.addOff, beq_self_eq_true, Nat.reduceBEq, bxL, Option.bind_some, writeR, isLit, viaBoxes, capsPA, boxPA, nsOf, noDup, boxesAt, argG, passG, passD, rhoIn, rhoOut, idxIn, tr, trL, List.getD_cons_zero, gives, pasOf, isPtr]
        rw [wrapN (L[i].length - 1) (by omega) (by omega)]
        simp only [eqs, reduceCtorEq, implies_true, List.map_cons, List.map_nil, kl, klL, roD, roL, Option.map_some, Option.map_none, Option.getD_some, Option.getD_none, binVal, binObl, unVal, Nat.reduceEqDiff, if_true, if_false, reduceIte, eq_self, passA, frnD, resD, content, getH, getR, getW, viaNot, viaSlot, viaBox, viaDeep, viaMem, List.contains_cons, List.contains_nil, grabs, peeks, okCells, isCell, place, cellsOf, chunk, elt, List.headD_cons, List.length_cons, List.length_nil, List.take_succ_cons, List.take_zero, List.drop_succ_cons, List.drop_zero, Nat.reduceAdd, Nat.reduceSub, Nat.reduceLeDiff, List.nil_append, List.cons_append, List.append_nil, List.all_cons, List.all_nil, plainC, takeR, setW, over, reCell, Int.reduceToNat, List.getElem?_cons_zero, List.getElem?_cons_succ, List.set_cons_zero, List.take_length, outV, resG, plainV, pack, outVG, outBx, List.set_cons_succ, Ref.idx, Ref.addOff, beq_self_eq_true, Nat.reduceBEq, bxL, Option.bind_some, writeR, isLit, viaBoxes, capsPA, boxPA, nsOf, noDup, boxesAt, argG, passG, passD, rhoIn, rhoOut, idxIn, tr, trL, List.getD_cons_zero, gives, pasOf, isPtr]
        repeat (refine ⟨by (try simp only [List.length_append, List.length_cons, List.length_nil]); omega, ?_⟩)
        rw [unfeed, if_pos (by rw [hlast, hc]), List.dropLast_eq_take]
      · have hc := u8_f h (d := 10) rfl
        simp only [ssE L hil, eqs, reduceCtorEq, implies_true, List.map_cons, List.map_nil, kl, klL, roD, roL, Option.map_some, Option.map_none, Option.getD_some, Option.getD_none, binVal, binObl, unVal, Nat.reduceEqDiff, if_true, if_false, reduceIte, eq_self, passA, frnD, resD, content, getH, getR, getW, viaNot, viaSlot, viaBox, viaDeep, viaMem, List.contains_cons, List.contains_nil, grabs, peeks, okCells, isCell, place, cellsOf, chunk, elt, List.headD_cons, List.length_cons, List.length_nil, List.take_succ_cons, List.take_zero, List.drop_succ_cons, List.drop_zero, Nat.reduceAdd, Nat.reduceSub, Nat.reduceLeDiff, List.nil_append, List.cons_append, List.append_nil, List.all_cons, List.all_nil, plainC, takeR, setW, over, reCell, Int.reduceToNat, List.getElem?_cons_zero, List.getElem?_cons_succ, List.set_cons_zero, List.take_length, outV, resG, plainV, pack, outVG, outBx, List.set_cons_succ, Ref.idx, Ref.addOff, beq_self_eq_true, Nat.reduceBEq, bxL, Option.bind_some, writeR, isLit, viaBoxes, capsPA, boxPA, nsOf, noDup, boxesAt, argG, passG, passD, rhoIn, rhoOut, idxIn, tr, trL, List.getD_cons_zero, gives, pasOf, isPtr]
        repeat (refine ⟨by (try simp only [List.length_append, List.length_cons, List.length_nil]); omega, ?_⟩)
        rw [unfeed, if_neg (by rw [hlast]; simpa using hc)]
    · have hu : L[i] = [10] := by simpa using h
      have hu' : unfeed L[i] = [] := (unfeed_nil hl).2 hu
      simp only [eqs, reduceCtorEq, implies_true, List.map_cons, List.map_nil, kl, klL, roD, roL, Option.map_some, Option.map_none, Option.getD_some, Option.getD_none, binVal, binObl, unVal, Nat.reduceEqDiff, if_true, if_false, reduceIte, eq_self, passA, frnD, resD, content, getH, getR, getW, viaNot, viaSlot, viaBox, viaDeep, viaMem, List.contains_cons, List.contains_nil, grabs, peeks, okCells, isCell, place, cellsOf, chunk, elt, List.headD_cons, List.length_cons, List.length_nil, List.take_succ_cons, List.take_zero, List.drop_succ_cons, List.drop_zero, Nat.reduceAdd, Nat.reduceSub, Nat.reduceLeDiff, List.nil_append, List.cons_append, List.append_nil, List.all_cons, List.all_nil, plainC, takeR, setW, over, reCell, Int.reduceToNat, List.getElem?_cons_zero, List.getElem?_cons_succ, List.set_cons_zero, List.take_length, outV, resG, plainV, pack, outVG, outBx, List.set_cons_succ, Ref.idx, Ref.addOff, beq_self_eq_true, Nat.reduceBEq, bxL, Option.bind_some, writeR, isLit, viaBoxes, capsPA, boxPA, nsOf, noDup, boxesAt, argG, passG, passD, rhoIn, rhoOut, idxIn, tr, trL, List.getD_cons_zero, gives, pasOf, isPtr]
      rw [wrapN (i + 1) (by omega) (by omega), first_drop_f L hil hu']
      exact ih (i + 1) (by omega) (by omega)
theorem rfirst_snd (s : Bs) (hs : s.length ≤ 1048576) : Snd Tryd.prog (gl m) 46 [S s] (S (first (lines s))) := by
  refine snd_of (fn := Tryd.f46) (af := rfirst) Tryd.func46 (rfirst_comp m) mixed (kn_ok m) (Nat.le_of_ble_eq_true rfl) ?_
  simp only [rfirst, eqs, reduceCtorEq, implies_true, List.map_cons, List.map_nil, kl, klL, roD, roL, Option.map_some, Option.map_none, Option.getD_some, Option.getD_none, binVal, binObl, unVal, Nat.reduceEqDiff, if_true, if_false, reduceIte, eq_self, passA, frnD, resD, content, getH, getR, getW, viaNot, viaSlot, viaBox, viaDeep, viaMem, List.contains_cons, List.contains_nil, grabs, peeks, okCells, isCell, place, cellsOf, chunk, elt, List.headD_cons, List.length_cons, List.length_nil, List.take_succ_cons, List.take_zero, List.drop_succ_cons, List.drop_zero, Nat.reduceAdd, Nat.reduceSub, Nat.reduceLeDiff, List.nil_append, List.cons_append, List.append_nil, List.all_cons, List.all_nil, plainC, takeR, setW, over, reCell, Int.reduceToNat, List.getElem?_cons_zero, List.getElem?_cons_succ, List.set_cons_zero, List.take_length, outV, resG, plainV, pack, outVG, outBx, List.set_cons_succ, Ref.idx, Ref.addOff, beq_self_eq_true, Nat.reduceBEq, bxL, Option.bind_some, writeR, isLit, viaBoxes, capsPA, boxPA, nsOf, noDup, boxesAt, argG, passG, passD, rhoIn, rhoOut, idxIn, tr, trL, List.getD_cons_zero, gives, pasOf, isPtr]
  refine of_call (rsplit_snd s hs) ?_
  simp only [eqs, reduceCtorEq, implies_true, List.map_cons, List.map_nil, kl, klL, roD, roL, Option.map_some, Option.map_none, Option.getD_some, Option.getD_none, binVal, binObl, unVal, Nat.reduceEqDiff, if_true, if_false, reduceIte, eq_self, passA, frnD, resD, content, getH, getR, getW, viaNot, viaSlot, viaBox, viaDeep, viaMem, List.contains_cons, List.contains_nil, grabs, peeks, okCells, isCell, place, cellsOf, chunk, elt, List.headD_cons, List.length_cons, List.length_nil, List.take_succ_cons, List.take_zero, List.drop_succ_cons, List.drop_zero, Nat.reduceAdd, Nat.reduceSub, Nat.reduceLeDiff, List.nil_append, List.cons_append, List.append_nil, List.all_cons, List.all_nil, plainC, takeR, setW, over, reCell, Int.reduceToNat, List.getElem?_cons_zero, List.getElem?_cons_succ, List.set_cons_zero, List.take_length, outV, resG, plainV, pack, outVG, outBx, List.set_cons_succ, Ref.idx, Ref.addOff, beq_self_eq_true, Nat.reduceBEq, bxL, Option.bind_some, writeR, isLit, viaBoxes, capsPA, boxPA, nsOf, noDup, boxesAt, argG, passG, passD, rhoIn, rhoOut, idxIn, tr, trL, List.getD_cons_zero, gives, pasOf, isPtr]
  exact rfirst_loop (lines s) (by have := lines_len s; omega) (fun l hl => by have := line_len hl; omega) (fun l hl => lines_ne hl) _ 0 rfl (by omega)
end Go.Ln

