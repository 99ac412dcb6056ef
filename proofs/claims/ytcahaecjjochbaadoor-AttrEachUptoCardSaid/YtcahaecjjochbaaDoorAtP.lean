import Derived.Lib.Bytealg
import Derived.Lib.Strings
import Derived.Lib.Replace
import Derived.Lib.ReplaceLaws
import Derived.Lib.SlTrimSet
import Derived.Lib.SplitLaws
import Derived.Lib.IndexBytes
set_option linter.unusedVariables false
set_option linter.unusedSimpArgs false
/- Lines: what the functions of layer 5 compute, in plain lists. -/
namespace Go.Ln
set_option linter.unusedVariables false
abbrev Bs := List UInt8
def idx (s : Bs) (c : UInt8) : Option Nat := match s with
  | [] => none
  | b :: l => if b = c then some 0 else (idx l c).map (· + 1)
theorem idx_eq (s : Bs) (c : UInt8) : Lib.indexByte s c = match idx s c with | none => -1 | some n => (n : Int) := by
  induction s with
  | nil => rfl
  | cons b l ih =>
    simp only [Lib.indexByte, idx]
    by_cases h : b = c
    · simp [h]
    · simp only [beq_iff_eq, h, if_false, ih]
      cases idx l c with
      | none => simp
      | some n =>
        simp only [Option.map_some]
        rw [if_neg (by omega)]; rfl
theorem idx_lt {s : Bs} {c : UInt8} {n : Nat} (h : idx s c = some n) : n < s.length := by
  induction s generalizing n with
  | nil => cases h
  | cons b l ih =>
    simp only [idx] at h
    split at h
    · injection h with h; subst h; simp
    · simp only [Option.map_eq_some_iff] at h
      obtain ⟨m, h1, rfl⟩ := h
      have := ih h1; simp; omega
theorem idx_of {s : Bs} {c : UInt8} {n : Nat} (h : s[n]? = some c) (hn : ∀ j, j < n → s[j]? ≠ some c) : idx s c = some n := by
  induction s generalizing n with
  | nil => simp at h
  | cons b l ih =>
    simp only [idx]
    cases n with
    | zero => simp at h; simp [h]
    | succ n =>
      have : b ≠ c := by intro e; exact hn 0 (by omega) (by simp [e])
      rw [if_neg this, ih (by simpa using h) (fun j hj => by have := hn (j + 1) (by omega); simpa using this)]; rfl
theorem idx_none {s : Bs} {c : UInt8} (hn : ∀ j, j < s.length → s[j]? ≠ some c) : idx s c = none := by
  induction s with
  | nil => rfl
  | cons b l ih =>
    simp only [idx]
    have : b ≠ c := by intro e; exact hn 0 (by simp) (by simp [e])
    rw [if_neg this, ih (fun j hj => by have := hn (j + 1) (by simp; omega); simpa using this)]; rfl
def lines : Bs → List Bs
  | [] => []
  | c :: l => if c = 10 then [10] :: lines l else match lines l with | [] => [[c]] | x :: xs => (c :: x) :: xs
theorem lines_none {s : Bs} (h : idx s 10 = none) (hs : s ≠ []) : lines s = [s] := by
  induction s with
  | nil => exact absurd rfl hs
  | cons b l ih =>
    simp only [idx] at h
    split at h
    · cases h
    · rename_i hb
      simp only [lines, hb, if_false]
      by_cases hl : l = []
      · subst hl; rfl
      · rw [ih (by simpa using h) hl]
theorem lines_some {s : Bs} {n : Nat} (h : idx s 10 = some n) : lines s = s.take (n + 1) :: lines (s.drop (n + 1)) := by
  induction s generalizing n with
  | nil => cases h
  | cons b l ih =>
    simp only [idx] at h
    split at h
    · rename_i hb; injection h with h; subst h; simp [lines, hb]
    · rename_i hb
      simp only [Option.map_eq_some_iff] at h
      obtain ⟨m, h1, rfl⟩ := h
      simp only [lines, hb, if_false, ih h1, List.take_succ_cons, List.drop_succ_cons]
def crlf : UInt8 → Bs → Bs
  | _, [] => []
  | p, c :: l => if c = 10 ∧ p ≠ 13 then 13 :: 10 :: crlf 10 l else c :: crlf c l
def lf : Bs → Bs
  | [] => []
  | c :: l => if c = 13 ∧ l.head? = some 10 then lf l else c :: lf l
def blank (c : UInt8) : Bool := c == 32 || c == 9 || c == 13
def chop (s : Bs) : Bs := (s.reverse.dropWhile blank).reverse
def unfeed (s : Bs) : Bs := if s.getLast? = some 10 then s.dropLast else s
def first : List Bs → Bs
  | [] => []
  | l :: r => if unfeed l ≠ [] then unfeed l else first r
def starts (s : Bs) : Bool := s.head? == some 35
theorem lines_ne : ∀ {s : Bs} {l : Bs}, l ∈ lines s → l ≠ [] := by
  intro s
  induction s with
  | nil => intro l h; simp [lines] at h
  | cons c s ih =>
    intro l h
    simp only [lines] at h
    split at h
    · rcases List.mem_cons.1 h with rfl | h
      · simp
      · exact ih h
    · split at h
      · simp at h; subst h; simp
      · rename_i x xs hx
        rcases List.mem_cons.1 h with rfl | h
        · simp
        · exact ih (by rw [hx]; exact List.mem_cons_of_mem _ h)
theorem lines_flatten (s : Bs) : (lines s).flatten = s := by
  induction s with
  | nil => rfl
  | cons c s ih =>
    simp only [lines]
    split
    · rename_i h; simp [h, ih]
    · split
      · rename_i hx; rw [hx] at ih; simp at ih; simp [← ih]
      · rename_i x xs hx; rw [hx] at ih; simp only [List.flatten_cons, List.cons_append] at ih ⊢; rw [ih]
theorem lines_len (s : Bs) : (lines s).length ≤ s.length := by
  have : ∀ (L : List Bs), (∀ l, l ∈ L → l ≠ []) → L.length ≤ L.flatten.length := by
    intro L
    induction L with
    | nil => simp
    | cons l L ih =>
      intro h
      have h1 := ih fun x hx => h x (List.mem_cons_of_mem _ hx)
      have h2 : 0 < l.length := by have := h l (List.mem_cons_self ..); cases l; exact absurd rfl this; simp
      simp only [List.length_cons, List.flatten_cons, List.length_append]; omega
  have h := this (lines s) fun l hl => lines_ne hl
  rwa [lines_flatten] at h
theorem mem_len {L : List Bs} {l : Bs} (h : l ∈ L) : l.length ≤ L.flatten.length := by
  induction L with
  | nil => cases h
  | cons x L ih =>
    simp only [List.flatten_cons, List.length_append]
    rcases List.mem_cons.1 h with rfl | h
    · omega
    · have := ih h; omega
theorem line_len {s l : Bs} (h : l ∈ lines s) : l.length ≤ s.length := by have := mem_len h; rwa [lines_flatten] at this
end Go.Ln
namespace Go.Ln
set_option linter.unusedVariables false
theorem getX {α : Type} {l : List α} {i : Nat} (h : i < l.length) : l[i]? = some l[i] := List.getElem?_eq_getElem h
theorem u8b_t {c d : UInt8} {n : Int} (h : c = d) (hd : (d.toNat : Int) = n) : ((c.toNat : Int) == n) = true := by rw [h, hd]; simp
theorem u8b_f {c d : UInt8} {n : Int} (h : c ≠ d) (hd : (d.toNat : Int) = n) : ((c.toNat : Int) == n) = false := by
  rw [← hd]; simp only [beq_eq_false_iff_ne]; intro e; exact h (UInt8.toNat_inj.1 (by omega))
theorem u8n_t {c d : UInt8} {n : Int} (h : c ≠ d) (hd : (d.toNat : Int) = n) : ((c.toNat : Int) != n) = true := by
  rw [bne, u8b_f h hd]; rfl
theorem u8n_f {c d : UInt8} {n : Int} (h : c = d) (hd : (d.toNat : Int) = n) : ((c.toNat : Int) != n) = false := by
  rw [bne, u8b_t h hd]; rfl
theorem eqN_t {a b : Nat} (h : a = b) : (((a : Int)) == (b : Int)) = true := by simp [h]
theorem eqN_f {a b : Nat} (h : a ≠ b) : (((a : Int)) == (b : Int)) = false := by simp; omega
def prev (s : Bs) (i : Nat) : UInt8 := if i = 0 then 0 else s.getD (i - 1) 0
def crlfF (s : Bs) (i : Nat) : Bs := crlf (prev s i) (s.drop i)
theorem prev_succ {s : Bs} {i : Nat} (h : i < s.length) : prev s (i + 1) = s[i] := by simp [prev, List.getD, getX h]
theorem prev_at {s : Bs} {i : Nat} (h : i ≠ 0) (h2 : i - 1 < s.length) : prev s i = s[i - 1] := by simp [prev, h, List.getD, getX h2]
theorem crlfF_add {s : Bs} {i : Nat} (h : i < s.length) (h1 : s[i] = 10) (h2 : prev s i ≠ 13) : crlfF s i = 13 :: s[i] :: crlfF s (i + 1) := by
  rw [crlfF, List.drop_eq_getElem_cons h, crlf, if_pos ⟨h1, h2⟩, crlfF, prev_succ h, h1]
theorem crlfF_keep {s : Bs} {i : Nat} (h : i < s.length) (h1 : ¬ (s[i] = 10 ∧ prev s i ≠ 13)) : crlfF s i = s[i] :: crlfF s (i + 1) := by
  rw [crlfF, List.drop_eq_getElem_cons h, crlf, if_neg h1, crlfF, prev_succ h]
theorem crlfF_end (s : Bs) : crlfF s s.length = [] := by simp [crlfF, crlf]
theorem crlf_len : ∀ (p : UInt8) (s : Bs), (crlf p s).length ≤ 2 * s.length := by
  intro p s
  induction s generalizing p with
  | nil => simp [crlf]
  | cons c s ih =>
    simp only [crlf]
    split
    · have := ih 10; simp only [List.length_cons]; omega
    · have := ih c; simp only [List.length_cons]; omega
theorem lf_skip {s : Bs} {i : Nat} (h : i + 1 < s.length) (h1 : s[i] = 13) (h2 : s[i + 1] = 10) : lf (s.drop i) = lf (s.drop (i + 1)) := by
  rw [List.drop_eq_getElem_cons (by omega), lf, if_pos]
  exact ⟨h1, by rw [List.head?_drop, getX h, h2]⟩
theorem lf_keep {s : Bs} {i : Nat} (h : i < s.length) (h1 : ¬ (s[i] = 13 ∧ s[i + 1]? = some 10)) : lf (s.drop i) = s[i] :: lf (s.drop (i + 1)) := by
  rw [List.drop_eq_getElem_cons h, lf, if_neg]
  rw [List.head?_drop]; exact h1
theorem lf_len : ∀ (s : Bs), (lf s).length ≤ s.length := by
  intro s
  induction s with
  | nil => simp [lf]
  | cons c s ih => simp only [lf]; split <;> simp only [List.length_cons] <;> omega
def binary (s : Bs) : Bool := (idx (s.take 8000) 0).isSome
theorem binary_t {s : Bs} {i : Nat} (h : i < s.length) (h2 : i < 8000) (h3 : s[i] = 0) : binary s = true := by
  rw [binary]
  cases he : idx (s.take 8000) 0 with
  | some n => rfl
  | none =>
    have : ∀ (l : List UInt8), idx l 0 = none → ∀ (j : Nat), l[j]? ≠ some 0 := by
      intro l
      induction l with
      | nil => intro _ j; simp
      | cons b l ih =>
        intro h j
        simp only [idx] at h
        split at h
        · cases h
        · rename_i hb
          cases j with
          | zero => simpa using hb
          | succ j => simpa using ih (by simpa using h) j
    exact absurd (by rw [List.getElem?_take_of_lt h2, getX h, h3]) (this _ he i)
theorem binary_f {s : Bs} (h : ∀ (j : Nat) b, j < 8000 → s[j]? = some b → b ≠ 0) : binary s = false := by
  rw [binary, idx_none]; rfl
  intro j hj e
  have h8 : j < 8000 := by simp only [List.length_take] at hj; omega
  rw [List.getElem?_take_of_lt h8] at e
  exact h j _ h8 e rfl
end Go.Ln
namespace Go.Ln
set_option linter.unusedVariables false
open Go.Lib in
theorem replace_lf (n : Nat) : ∀ (s : Bs), s.length ≤ n → Lib.replaceK [13, 10] [10] (Lib.count s [13, 10]) s = lf s := by
  induction n with
  | zero =>
    intro s h
    have : s = [] := List.length_eq_zero_iff.1 (by omega)
    subst this
    rw [count_miss (by rfl)]; rfl
  | succ n ih =>
    intro s h
    cases s with
    | nil => rw [count_miss (by rfl)]; rfl
    | cons c l =>
      simp only [List.length_cons] at h
      by_cases hp : [13, 10].isPrefixOf (c :: l) = true
      · rw [List.isPrefixOf_iff_prefix] at hp
        obtain ⟨t, ht⟩ := hp
        simp only [List.cons_append, List.nil_append, List.cons.injEq] at ht
        obtain ⟨rfl, rfl⟩ := ht
        have hi : index (13 :: 10 :: t) [13, 10] = ((0 : Nat) : Int) := by simp [index, List.isPrefixOf]
        simp only [List.length_cons] at h
        have := ih t (by omega)
        rw [count_hit (by simp) hi, Nat.add_comm, replaceK_hit _ _ _ _ 0 hi]
        simp only [List.length_cons, List.length_nil, List.take_zero, List.nil_append, Nat.zero_add, Nat.reduceAdd, List.drop_succ_cons, List.drop_zero, this]
        simp [lf]
      · have hl : lf (c :: l) = c :: lf l := by
          rw [lf, if_neg]
          rintro ⟨rfl, h2⟩
          cases l with
          | nil => cases h2
          | cons d l => simp only [List.head?_cons, Option.some.injEq] at h2; subst h2; exact hp (by simp [List.isPrefixOf])
        have hb := ih l (by omega)
        have hx : index (c :: l) [13, 10] = if index l [13, 10] == -1 then -1 else index l [13, 10] + 1 := by
          simp only [index]; rw [if_neg hp]
        by_cases hm : index l [13, 10] = -1
        · rw [hm] at hx
          rw [count_miss (by rw [hx]; rfl), hl, ← hb, count_miss hm]; rfl
        · have hge := index_ge l [13, 10]
          obtain ⟨i, hi⟩ : ∃ i : Nat, index l [13, 10] = i := ⟨(index l [13, 10]).toNat, by omega⟩
          have hx' : index (c :: l) [13, 10] = ((i + 1 : Nat) : Int) := by
            rw [hx, if_neg (by simpa using hm), hi]; rfl
          rw [count_hit (by simp) hx', Nat.add_comm 1, replaceK_hit _ _ _ _ (i + 1) hx', hl, ← hb, count_hit (by simp) hi, Nat.add_comm 1, replaceK_hit _ _ _ _ i hi]
          simp [Nat.add_right_comm i 1]
theorem replaceAll_lf (s : Bs) : Lib.replaceAll s [13, 10] [10] = lf s := by
  unfold Lib.replaceAll Lib.replace
  rw [if_neg (by simp)]
  have : Lib.replaceNum s [13, 10] (-1) = Lib.count s [13, 10] := by simp [Lib.replaceNum]
  rw [this]; exact replace_lf _ s (Nat.le_refl _)
theorem unfeed_len (s : Bs) : (unfeed s).length ≤ s.length := by rw [unfeed]; split <;> simp
end Go.Ln
namespace Go.Ln
set_option linter.unusedVariables false
set_option linter.unusedSimpArgs false
theorem crlf_head13 (l : Bs) : (crlf 13 l).head? = l.head? := by
  cases l with
  | nil => rfl
  | cons c l => simp [crlf]
theorem lf_crlf (s : Bs) : ∀ p, lf (crlf p s) = lf s := by
  induction s with
  | nil => intro p; rfl
  | cons c l ih =>
    intro p
    simp only [crlf]
    split
    · rename_i h
      obtain ⟨rfl, _⟩ := h
      rw [lf, if_pos ⟨rfl, rfl⟩, lf, if_neg (by simp), ih, lf, if_neg (by simp)]
    · rw [lf, lf]
      by_cases hc : c = 13
      · subst hc; rw [crlf_head13, ih]
      · rw [if_neg (fun h => hc h.1), if_neg (fun h => hc h.1), ih]
theorem lf_free {s : Bs} (h : 13 ∉ s) : lf s = s := by
  induction s with
  | nil => rfl
  | cons c l ih =>
    simp only [List.mem_cons, not_or] at h
    rw [lf, if_neg (fun e => h.1 e.1.symm), ih h.2]
theorem lf_same {s : Bs} : lf s = s ↔ ∀ i : Nat, ¬ (s[i]? = some 13 ∧ s[i + 1]? = some 10) := by
  induction s with
  | nil => simp [lf]
  | cons c l ih =>
    constructor
    · intro h i hi
      by_cases hc : c = 13 ∧ l.head? = some 10
      · rw [lf, if_pos hc] at h
        have := lf_len l
        rw [h] at this
        simp only [List.length_cons] at this
        omega
      · rw [lf, if_neg hc] at h
        have h2 := ih.1 (List.cons.inj h).2
        cases i with
        | zero =>
          obtain ⟨h3, h4⟩ := hi
          rw [List.getElem?_cons_zero] at h3
          rw [List.getElem?_cons_succ] at h4
          exact hc ⟨Option.some.inj h3, by rw [List.head?_eq_getElem?]; exact h4⟩
        | succ i => exact h2 i ⟨by rw [← hi.1, List.getElem?_cons_succ], by rw [← hi.2, List.getElem?_cons_succ]⟩
    · intro h
      have hc : ¬ (c = 13 ∧ l.head? = some 10) := fun e => h 0 ⟨by rw [List.getElem?_cons_zero, e.1], by rw [List.getElem?_cons_succ, ← List.head?_eq_getElem?]; exact e.2⟩
      rw [lf, if_neg hc, ih.2 fun i hi => h (i + 1) ⟨by rw [List.getElem?_cons_succ]; exact hi.1, by rw [List.getElem?_cons_succ]; exact hi.2⟩]
structure Tidy (K : List Bs) : Prop where
  no10 : ∀ x, x ∈ K → 10 ∉ x
  hash : ∀ x, x ∈ K → starts x = false
  chp : ∀ x, x ∈ K → chop x = x
  emp : ∀ i : Nat, K[i]? = some [] → i ≠ 0 ∧ K[i - 1]? ≠ some [] ∧ i + 1 < K.length
theorem Tidy.nil : Tidy [] := ⟨by simp, by simp, by simp, by simp⟩
theorem Tidy.last {K : List Bs} (h : Tidy K) : K.getLast? ≠ some [] := by
  intro e
  rw [List.getLast?_eq_getElem?] at e
  have h1 := h.emp _ e
  have h2 := (List.getElem?_eq_some_iff.1 e).1
  omega
end Go.Ln
namespace Go.Gb
open Go.Ln (Bs getX)
set_option linter.unusedVariables false
set_option linter.unusedSimpArgs false
abbrev Rg := UInt8 × UInt8
def item : Bs → Option (UInt8 × Bs)
  | [] => none
  | b :: l => if b = 92 then (match l with | [] => none | c :: r => some (c, r)) else some (b, l)
theorem item_len {l r : Bs} {c : UInt8} (h : item l = some (c, r)) : r.length < l.length := by
  cases l with
  | nil => cases h
  | cons b l =>
    simp only [item] at h
    split at h
    · cases l with
      | nil => cases h
      | cons d l => simp only [Option.some.injEq, Prod.mk.injEq] at h; obtain ⟨_, rfl⟩ := h; simp; omega
    · simp only [Option.some.injEq, Prod.mk.injEq] at h; obtain ⟨_, rfl⟩ := h; simp
def ranged : Bs → Option Bs
  | 45 :: x :: r => if x = 93 then none else some (x :: r)
  | _ => none
theorem ranged_len {l r : Bs} (h : ranged l = some r) : r.length < l.length := by
  unfold ranged at h
  split at h
  · split at h
    · cases h
    · injection h with h; subst h; simp
  · cases h
def items (first : Bool) (l : Bs) : Option (List Rg × Bs) :=
  match l with
  | [] => none
  | b :: r => if b = 93 ∧ first = false then some ([], r) else
    match h : item (b :: r) with
    | none => none
    | some (lo, r1) =>
      match h2 : ranged r1 with
      | none => (items false r1).map fun x => ((lo, lo) :: x.1, x.2)
      | some r2 => match h3 : item r2 with
        | none => none
        | some (hi, r3) => (items false r3).map fun x => ((lo, hi) :: x.1, x.2)
  termination_by l.length
  decreasing_by
    · exact item_len h
    · exact Nat.lt_trans (item_len h3) (Nat.lt_trans (ranged_len h2) (item_len h))
theorem items_nil (f : Bool) : items f [] = none := by rw [items]
theorem items_end (r : Bs) : items false (93 :: r) = some ([], r) := by rw [items]; simp
theorem items_bad {f : Bool} {b : UInt8} {r : Bs} (h0 : ¬ (b = 93 ∧ f = false)) (h : item (b :: r) = none) : items f (b :: r) = none := by
  rw [items, if_neg h0]
  split
  · rfl
  · rename_i h1; rw [h] at h1; cases h1
theorem items_one {f : Bool} {b lo : UInt8} {r r1 : Bs} (h0 : ¬ (b = 93 ∧ f = false)) (h : item (b :: r) = some (lo, r1)) (h2 : ranged r1 = none) :
    items f (b :: r) = (items false r1).map fun x => ((lo, lo) :: x.1, x.2) := by
  rw [items, if_neg h0]
  split
  · rename_i h1; rw [h] at h1; cases h1
  · rename_i lo' r1' h1
    rw [h] at h1; injection h1 with h1; injection h1 with h1 h1'; subst h1; subst h1'
    split
    · rfl
    · rename_i h3; rw [h2] at h3; cases h3
theorem items_rng {f : Bool} {b lo hi : UInt8} {r r1 r2 r3 : Bs} (h0 : ¬ (b = 93 ∧ f = false)) (h : item (b :: r) = some (lo, r1)) (h2 : ranged r1 = some r2) (h3 : item r2 = some (hi, r3)) :
    items f (b :: r) = (items false r3).map fun x => ((lo, hi) :: x.1, x.2) := by
  rw [items, if_neg h0]
  split
  · rename_i h1; rw [h] at h1; cases h1
  · rename_i lo' r1' h1
    rw [h] at h1; injection h1 with h1; injection h1 with h1 h1'; subst h1; subst h1'
    split
    · rename_i h4; rw [h2] at h4; cases h4
    · rename_i r2' h4
      rw [h2] at h4; injection h4 with h4; subst h4
      split
      · rename_i h5; rw [h3] at h5; cases h5
      · rename_i hi' r3' h5
        rw [h3] at h5; injection h5 with h5; injection h5 with h5 h5'; subst h5; subst h5'; rfl
theorem items_rbad {f : Bool} {b lo : UInt8} {r r1 r2 : Bs} (h0 : ¬ (b = 93 ∧ f = false)) (h : item (b :: r) = some (lo, r1)) (h2 : ranged r1 = some r2) (h3 : item r2 = none) :
    items f (b :: r) = none := by
  rw [items, if_neg h0]
  split
  · rfl
  · rename_i lo' r1' h1
    rw [h] at h1; injection h1 with h1; injection h1 with h1 h1'; subst h1; subst h1'
    split
    · rename_i h4; rw [h2] at h4; cases h4
    · rename_i r2' h4
      rw [h2] at h4; injection h4 with h4; subst h4
      split
      · rfl
      · rename_i h5; rw [h3] at h5; cases h5
theorem items_len (n : Nat) : ∀ {f : Bool} {l r : Bs} {is : List Rg}, l.length ≤ n → items f l = some (is, r) → r.length < l.length := by
  induction n with
  | zero =>
    intro f l r is hl h
    have : l = [] := List.length_eq_zero_iff.1 (by omega)
    subst this; rw [items_nil] at h; cases h
  | succ n ih =>
    intro f l r is hl h
    cases l with
    | nil => rw [items_nil] at h; cases h
    | cons b l =>
      by_cases h0 : b = 93 ∧ f = false
      · obtain ⟨rfl, rfl⟩ := h0
        rw [items_end] at h; injection h with h; injection h with _ h; subst h; simp
      · cases h1 : item (b :: l) with
        | none => rw [items_bad h0 h1] at h; cases h
        | some q =>
          obtain ⟨lo, r1⟩ := q
          have l1 := item_len h1
          simp only [List.length_cons] at l1 hl ⊢
          cases h2 : ranged r1 with
          | none =>
            rw [items_one h0 h1 h2, Option.map_eq_some_iff] at h
            obtain ⟨x, hx, h⟩ := h
            injection h with _ h; subst h
            have := ih (by omega) hx; omega
          | some r2 =>
            have l2 := ranged_len h2
            cases h3 : item r2 with
            | none => rw [items_rbad h0 h1 h2 h3] at h; cases h
            | some q =>
              obtain ⟨hi, r3⟩ := q
              have l3 := item_len h3
              rw [items_rng h0 h1 h2 h3, Option.map_eq_some_iff] at h
              obtain ⟨x, hx, h⟩ := h
              injection h with _ h; subst h
              have := ih (by omega) hx; omega
def negated (l : Bs) : Bool := match l with | b :: _ => b == 33 || b == 94 | [] => false
def behindNot (l : Bs) : Bs := if negated l then l.tail else l
def clsL (l : Bs) : Option (Bool × List Rg × Bs) := (items true (behindNot l)).map fun x => (negated l, x.1, x.2)
theorem behindNot_len (l : Bs) : (behindNot l).length ≤ l.length := by unfold behindNot; split <;> simp
theorem clsL_len {l r : Bs} {n : Bool} {is : List Rg} (h : clsL l = some (n, is, r)) : r.length < l.length := by
  simp only [clsL, Option.map_eq_some_iff] at h
  obtain ⟨x, hx, h⟩ := h
  injection h with _ h; injection h with _ h; subst h
  have := items_len _ (Nat.le_refl _) hx
  have := behindNot_len l
  omega
def hit (is : List Rg) (c : UInt8) : Bool := is.any fun x => decide (x.1 ≤ c) && decide (c ≤ x.2)
inductive Tok
  | star
  | any
  | lit (c : UInt8)
  | cls (neg : Bool) (is : List Rg)
deriving DecidableEq
def fits : Tok → UInt8 → Bool
  | .star, c => c == 42
  | .any, _ => true
  | .lit d, c => d == c
  | .cls n is, c => hit is c != n
def tok : Bs → Option (Tok × Bs)
  | [] => none
  | b :: r => if b = 92 then (match r with | [] => none | c :: r' => some (.lit c, r'))
    else if b = 91 then (clsL r).map fun x => (.cls x.1 x.2.1, x.2.2)
    else some (if b = 42 then .star else if b = 63 then .any else .lit b, r)
theorem tok_len {l r : Bs} {t : Tok} (h : tok l = some (t, r)) : r.length < l.length := by
  cases l with
  | nil => cases h
  | cons b l =>
    simp only [tok] at h
    split at h
    · cases l with
      | nil => cases h
      | cons d l => simp only [Option.some.injEq, Prod.mk.injEq] at h; obtain ⟨_, rfl⟩ := h; simp; omega
    · split at h
      · simp only [Option.map_eq_some_iff] at h
        obtain ⟨⟨n, is, r'⟩, hx, h⟩ := h
        injection h with _ h; subst h
        have := clsL_len hx; simp only [List.length_cons]; omega
      · simp only [Option.some.injEq, Prod.mk.injEq] at h; obtain ⟨_, rfl⟩ := h; simp
def toks (l : Bs) : Option (List Tok) :=
  if l = [] then some [] else match h : tok l with
  | none => none
  | some (t, r) => (toks r).map (t :: ·)
  termination_by l.length
  decreasing_by exact tok_len h
theorem toks_nil : toks [] = some [] := by rw [toks]; rfl
theorem toks_none {l : Bs} (hl : l ≠ []) (h : tok l = none) : toks l = none := by
  rw [toks, if_neg hl]
  split
  · rfl
  · rename_i h1; rw [h] at h1; cases h1
theorem toks_some {l r : Bs} {t : Tok} (h : tok l = some (t, r)) : toks l = (toks r).map (t :: ·) := by
  have hl : l ≠ [] := by rintro rfl; cases h
  rw [toks, if_neg hl]
  split
  · rename_i h1; rw [h] at h1; cases h1
  · rename_i t' r' h1; rw [h] at h1; injection h1 with h1; injection h1 with h1 h2; subst h1; subst h2; rfl
def good (p : Bs) : Bool := decide (p ≠ []) && (toks p).isSome
def whole : List Tok → Bs → Bool
  | [], s => s == []
  | .star :: l, [] => whole l []
  | .star :: l, c :: s => whole l (c :: s) || whole (.star :: l) s
  | _ :: _, [] => false
  | t :: l, c :: s => fits t c && whole l s
  termination_by l s => l.length + s.length
theorem whole_star (l : List Tok) (s : Bs) : whole (.star :: l) s = (whole l s || match s with | [] => false | _ :: s' => whole (.star :: l) s') := by
  cases s with
  | nil => rw [whole]; simp
  | cons c s => rw [whole]
theorem whole_tok {t : Tok} (ht : t ≠ .star) (l : List Tok) (s : Bs) : whole (t :: l) s = match s with | [] => false | c :: s' => fits t c && whole l s' := by
  cases t with
  | star => exact absurd rfl ht
  | _ => cases s <;> rw [whole] <;> intro h <;> cases h
theorem whole_star_iff (l : List Tok) (s : Bs) : whole (.star :: l) s = true ↔ ∃ j, j ≤ s.length ∧ whole l (s.drop j) = true := by
  induction s with
  | nil => rw [whole_star]; simp
  | cons c s ih =>
    rw [whole_star, Bool.or_eq_true, ih]
    constructor
    · rintro (h | ⟨j, h1, h2⟩)
      · exact ⟨0, by simp, h⟩
      · exact ⟨j + 1, by simp; omega, h2⟩
    · rintro ⟨j, h1, h2⟩
      cases j with
      | zero => exact .inl h2
      | succ j => exact .inr ⟨j, by simp at h1; omega, h2⟩
theorem whole_pre {M : List Tok} (hM : ∀ t, t ∈ M → t ≠ .star) (l : List Tok) : ∀ s : Bs, whole (M ++ l) s = true → M.length ≤ s.length ∧ whole l (s.drop M.length) = true := by
  induction M with
  | nil => intro s h; exact ⟨by simp, h⟩
  | cons t M ih =>
    intro s h
    rw [List.cons_append, whole_tok (hM t (List.mem_cons_self ..))] at h
    cases s with
    | nil => cases h
    | cons c s =>
      simp only [Bool.and_eq_true] at h
      have := ih (fun t ht => hM t (List.mem_cons_of_mem _ ht)) s h.2
      exact ⟨by simp; omega, this.2⟩
end Go.Gb
namespace Go.Gb
open Go.Ln (Bs getX)
set_option linter.unusedVariables false
set_option linter.unusedSimpArgs false
def scan (f : Bool) (l : Bs) : Option Bs := match l with
  | [] => none
  | b :: r => if b = 93 ∧ f = false then some r else if b = 92 then scan false r.tail else scan false r
  termination_by l.length
  decreasing_by all_goals (simp only [List.length_cons, List.length_tail]; omega)
theorem scan_nil (f : Bool) : scan f [] = none := by rw [scan]
theorem scan_cons (f : Bool) (b : UInt8) (r : Bs) : scan f (b :: r) = if b = 93 ∧ f = false then some r else if b = 92 then scan false r.tail else scan false r := by rw [scan]
theorem item_scan {f : Bool} {b c : UInt8} {r r1 : Bs} (h0 : ¬ (b = 93 ∧ f = false)) (h : item (b :: r) = some (c, r1)) : scan f (b :: r) = scan false r1 := by
  rw [scan_cons, if_neg h0]
  simp only [item] at h
  split at h
  · rename_i hb
    rw [if_pos hb]
    cases r with
    | nil => cases h
    | cons d r => simp only [Option.some.injEq, Prod.mk.injEq] at h; obtain ⟨_, rfl⟩ := h; rfl
  · rename_i hb
    rw [if_neg hb]
    simp only [Option.some.injEq, Prod.mk.injEq] at h; obtain ⟨_, rfl⟩ := h; rfl
theorem item_scan_none {f : Bool} {b : UInt8} {r : Bs} (h0 : ¬ (b = 93 ∧ f = false)) (h : item (b :: r) = none) : scan f (b :: r) = none := by
  rw [scan_cons, if_neg h0]
  simp only [item] at h
  split at h
  · rename_i hb
    rw [if_pos hb]
    cases r with
    | nil => rw [List.tail_nil, scan_nil]
    | cons d r => cases h
  · cases h
theorem ranged_some {l r : Bs} (h : ranged l = some r) : ∃ x t, l = 45 :: x :: t ∧ r = x :: t ∧ x ≠ 93 := by
  unfold ranged at h
  split at h
  · rename_i x t
    split at h
    · cases h
    · rename_i hx; injection h with h; exact ⟨x, t, rfl, h.symm, hx⟩
  · cases h
theorem items_scan (n : Nat) : ∀ (f : Bool) (l : Bs), l.length ≤ n → (items f l).map (·.2) = scan f l := by
  induction n with
  | zero =>
    intro f l hl
    have : l = [] := List.length_eq_zero_iff.1 (by omega)
    subst this; rw [items_nil, scan_nil]; rfl
  | succ n ih =>
    intro f l hl
    cases l with
    | nil => rw [items_nil, scan_nil]; rfl
    | cons b l =>
      by_cases h0 : b = 93 ∧ f = false
      · obtain ⟨rfl, rfl⟩ := h0
        rw [items_end, scan_cons, if_pos ⟨rfl, rfl⟩]; rfl
      · cases h1 : item (b :: l) with
        | none => rw [items_bad h0 h1, item_scan_none h0 h1]; rfl
        | some q =>
          obtain ⟨lo, r1⟩ := q
          have l1 := item_len h1
          simp only [List.length_cons] at l1 hl
          rw [item_scan h0 h1]
          cases h2 : ranged r1 with
          | none => rw [items_one h0 h1 h2, ← ih false r1 (by omega), Option.map_map]; rfl
          | some r2 =>
            have l2 := ranged_len h2
            obtain ⟨x, t, e1, e2, hx⟩ := ranged_some h2
            have e3 : scan false r1 = scan false r2 := by rw [e1, e2, scan_cons, if_neg (by simp), if_neg (by decide)]
            rw [e3]
            subst e2
            cases h3 : item (x :: t) with
            | none => rw [items_rbad h0 h1 h2 h3, item_scan_none (fun e => hx e.1) h3]; rfl
            | some q =>
              obtain ⟨hi, r3⟩ := q
              have l3 := item_len h3
              rw [items_rng h0 h1 h2 h3, item_scan (fun e => hx e.1) h3, ← ih false r3 (by omega), Option.map_map]; rfl
theorem items_end_eq (f : Bool) (l : Bs) : (items f l).map (·.2) = scan f l := items_scan _ f l (Nat.le_refl _)
def dash : Bs → Option Bs
  | 45 :: x :: r => some (x :: r)
  | _ => none
theorem dash_some {l r : Bs} (h : dash l = some r) : ∃ x t, l = 45 :: x :: t ∧ r = x :: t := by
  unfold dash at h
  split at h
  · rename_i x t; injection h with h; exact ⟨x, t, rfl, h.symm⟩
  · cases h
theorem dash_len {l r : Bs} (h : dash l = some r) : r.length < l.length := by
  unfold dash at h
  split at h
  · injection h with h; subst h; simp
  · cases h
def rd (l : Bs) : Option (List Rg) :=
  if l = [] then some [] else
  match h : item l with
  | none => none
  | some (lo, r1) =>
    match h2 : dash r1 with
    | none => (rd r1).map ((lo, lo) :: ·)
    | some r2 => match h3 : item r2 with
      | none => none
      | some (hi, r3) => (rd r3).map ((lo, hi) :: ·)
  termination_by l.length
  decreasing_by
    · exact item_len h
    · exact Nat.lt_trans (item_len h3) (Nat.lt_trans (dash_len h2) (item_len h))
theorem rd_nil : rd [] = some [] := by rw [rd]; rfl
theorem rd_one {l r1 : Bs} {lo : UInt8} (h : item l = some (lo, r1)) (h2 : dash r1 = none) : rd l = (rd r1).map ((lo, lo) :: ·) := by
  have hl : l ≠ [] := by rintro rfl; cases h
  rw [rd, if_neg hl]
  split
  · rename_i h1; rw [h] at h1; cases h1
  · rename_i lo' r1' h1
    rw [h] at h1; injection h1 with h1; injection h1 with h1 h1'; subst h1; subst h1'
    split
    · rfl
    · rename_i h3; rw [h2] at h3; cases h3
theorem rd_rng {l r1 r2 r3 : Bs} {lo hi : UInt8} (h : item l = some (lo, r1)) (h2 : dash r1 = some r2) (h3 : item r2 = some (hi, r3)) : rd l = (rd r3).map ((lo, hi) :: ·) := by
  have hl : l ≠ [] := by rintro rfl; cases h
  rw [rd, if_neg hl]
  split
  · rename_i h1; rw [h] at h1; cases h1
  · rename_i lo' r1' h1
    rw [h] at h1; injection h1 with h1; injection h1 with h1 h1'; subst h1; subst h1'
    split
    · rename_i h4; rw [h2] at h4; cases h4
    · rename_i r2' h4
      rw [h2] at h4; injection h4 with h4; subst h4
      split
      · rename_i h5; rw [h3] at h5; cases h5
      · rename_i hi' r3' h5
        rw [h3] at h5; injection h5 with h5; injection h5 with h5 h5'; subst h5; subst h5'; rfl
theorem item_seg {l r : Bs} {c : UInt8} (h : item l = some (c, r)) : ∃ b t, l = b :: t ++ r ∧ ∀ r', item (b :: t ++ r') = some (c, r') := by
  cases l with
  | nil => cases h
  | cons b l =>
    simp only [item] at h
    split at h
    · rename_i hb
      cases l with
      | nil => cases h
      | cons d l =>
        simp only [Option.some.injEq, Prod.mk.injEq] at h; obtain ⟨rfl, rfl⟩ := h
        exact ⟨b, [d], rfl, fun r' => by simp [item, hb]⟩
    · rename_i hb
      simp only [Option.some.injEq, Prod.mk.injEq] at h; obtain ⟨rfl, rfl⟩ := h
      exact ⟨b, [], rfl, fun r' => by simp [item, hb]⟩
theorem items_seg (n : Nat) : ∀ (f : Bool) (L R : Bs) (is : List Rg), L.length ≤ n → items f L = some (is, R) →
    ∃ l, L = l ++ 93 :: R ∧ rd l = some is ∧ (f = true → l ≠ []) ∧ ∀ R', items f (l ++ 93 :: R') = some (is, R') := by
  induction n with
  | zero =>
    intro f L R is hl h
    have : L = [] := List.length_eq_zero_iff.1 (by omega)
    subst this; rw [items_nil] at h; cases h
  | succ n ih =>
    intro f L R is hl h
    cases L with
    | nil => rw [items_nil] at h; cases h
    | cons b r =>
      by_cases h0 : b = 93 ∧ f = false
      · obtain ⟨rfl, rfl⟩ := h0
        rw [items_end] at h; injection h with h; injection h with h h'; subst h; subst h'
        exact ⟨[], rfl, rd_nil, by simp, fun R' => items_end R'⟩
      · cases h1 : item (b :: r) with
        | none => rw [items_bad h0 h1] at h; cases h
        | some q =>
          obtain ⟨lo, r1⟩ := q
          have l1 := item_len h1
          simp only [List.length_cons] at l1 hl
          obtain ⟨b', t, e1, hs⟩ := item_seg h1
          have eb : b' = b := by have := congrArg List.head? e1; simp at this; exact this.symm
          subst eb
          cases h2 : ranged r1 with
          | none =>
            rw [items_one h0 h1 h2, Option.map_eq_some_iff] at h
            obtain ⟨⟨is', R0⟩, hx, h⟩ := h
            injection h with h h'; subst h; subst h'
            obtain ⟨l1', e2, hrd, _, hany⟩ := ih false r1 R0 is' (by omega) hx
            have hd : ∀ x u, l1' = 45 :: x :: u → x = 93 := by
              intro x u e
              rw [e2, e] at h2
              simp only [List.cons_append, ranged] at h2
              split at h2
              · assumption
              · cases h2
            have hnr : ∀ R', ranged (l1' ++ 93 :: R') = none := by
              intro R'
              match l1', hd with
              | [], _ => rfl
              | [y], _ =>
                simp only [List.cons_append, List.nil_append]
                unfold ranged
                split
                · rename_i x r' e; injection e with _ e; injection e with e _; subst e; rfl
                · rfl
              | y :: x :: u, hd =>
                simp only [List.cons_append]
                unfold ranged
                split
                · rename_i x' r' e
                  injection e with e e'; injection e' with e' _
                  subst e; subst e'
                  rw [if_pos (hd x u rfl)]
                · rfl
            refine ⟨b' :: t ++ l1', by rw [e1, e2, List.append_assoc], ?_, by simp, fun R' => ?_⟩
            · have hdn : dash l1' = none := by
                  cases hdd : dash l1' with
                | none => rfl
                | some rr =>
                  exfalso
                  obtain ⟨x, u, e, _⟩ := dash_some hdd
                  have hx93 := hd x u e
                  subst hx93
                  have hbad := hx
                  rw [e2, e] at hbad
                  simp only [List.cons_append] at hbad
                  rw [items_one (lo := 45) (r1 := 93 :: (u ++ 93 :: R0)) (by simp) (by simp [item]) (by rfl), items_end] at hbad
                  simp only [Option.map_some, Option.some.injEq, Prod.mk.injEq] at hbad
                  have := congrArg List.length hbad.2
                  simp at this
                  omega
              rw [rd_one (hs l1') hdn, hrd]; rfl
            · have := items_one (f := f) (b := b') (r := t ++ (l1' ++ 93 :: R')) h0 (by have := hs (l1' ++ 93 :: R'); simpa using this) (hnr R')
              rw [hany R'] at this
              simpa using this
          | some r2 =>
            have l2 := ranged_len h2
            obtain ⟨x, u, q1, q2, hx93⟩ := ranged_some h2
            cases h3 : item r2 with
            | none => rw [items_rbad h0 h1 h2 h3] at h; cases h
            | some q =>
              obtain ⟨hi, r3⟩ := q
              have l3 := item_len h3
              rw [items_rng h0 h1 h2 h3, Option.map_eq_some_iff] at h
              obtain ⟨⟨is', R0⟩, hx, h⟩ := h
              injection h with h h'; subst h; subst h'
              obtain ⟨l3', e2, hrd, _, hany⟩ := ih false r3 R0 is' (by omega) hx
              obtain ⟨x', t', e3, hs3⟩ := item_seg h3
              have ex : x' = x := by rw [q2] at e3; have := congrArg List.head? e3; simp at this; exact this.symm
              subst ex
              refine ⟨b' :: t ++ (45 :: (x' :: t' ++ l3')), ?_, ?_, by simp, fun R' => ?_⟩
              · rw [e1, q1, ← q2, e3, e2]; simp
              · rw [rd_rng (hs _) (by rfl : dash (45 :: (x' :: t' ++ l3')) = some (x' :: t' ++ l3')) (hs3 l3'), hrd]; rfl
              · have := items_rng (f := f) (b := b') (r := t ++ (45 :: (x' :: t' ++ (l3' ++ 93 :: R')))) h0 (by have := hs (45 :: (x' :: t' ++ (l3' ++ 93 :: R'))); simpa using this)
                  (by simp [ranged, hx93] : ranged (45 :: (x' :: t' ++ (l3' ++ 93 :: R'))) = some (x' :: t' ++ (l3' ++ 93 :: R'))) (hs3 _)
                rw [hany R'] at this
                simpa using this
theorem tok_seg {L R : Bs} {t : Tok} (h : tok L = some (t, R)) : ∃ b u, L = b :: u ++ R ∧ ∀ R', tok (b :: u ++ R') = some (t, R') := by
  cases L with
  | nil => cases h
  | cons b l =>
    have h' := h
    simp only [tok] at h
    split at h
    · rename_i hb
      cases l with
      | nil => cases h
      | cons d l => simp only [Option.some.injEq, Prod.mk.injEq] at h; obtain ⟨rfl, rfl⟩ := h; exact ⟨b, [d], rfl, fun r' => by simp [tok, hb]⟩
    · rename_i hb
      split at h
      · rename_i hb2
        simp only [Option.map_eq_some_iff] at h
        obtain ⟨⟨n, is, r'⟩, hx, h⟩ := h
        injection h with h h2; subst h; subst h2
        simp only [clsL, Option.map_eq_some_iff] at hx
        obtain ⟨⟨is', r2⟩, hx, h⟩ := hx
        injection h with h h2; injection h2 with h2 h3; subst h; subst h2; subst h3
        obtain ⟨l', e, hrd, hne, hany⟩ := items_seg _ _ _ _ _ (Nat.le_refl _) hx
        have hne := hne rfl
        cases hn : negated l with
        | false =>
          have eb : behindNot l = l := by simp [behindNot, hn]
          rw [eb] at e
          refine ⟨b, l' ++ [93], by rw [e]; simp, fun R' => ?_⟩
          have e2 : negated (l' ++ 93 :: R') = false := by
            cases l' with
            | nil => exact absurd rfl hne
            | cons y l' => rw [e] at hn; simpa [negated] using hn
          have := hany R'
          simp only [List.cons_append, List.append_assoc, List.nil_append, tok, hb, hb2, if_true, if_false, clsL, e2, behindNot, Bool.false_eq_true, this]
          rfl
        | true =>
          cases l with
          | nil => simp [negated] at hn
          | cons y l =>
            have eb : behindNot (y :: l) = l := by simp [behindNot, hn]
            rw [eb] at e
            refine ⟨b, y :: l' ++ [93], by rw [e]; simp, fun R' => ?_⟩
            have e2 : negated (y :: (l' ++ 93 :: R')) = true := by simpa [negated] using hn
            have := hany R'
            simp only [List.cons_append, List.append_assoc, List.nil_append, tok, hb, hb2, if_true, if_false, clsL, e2, behindNot, List.tail_cons, this]
            rfl
      · rename_i hb2
        simp only [Option.some.injEq, Prod.mk.injEq] at h
        obtain ⟨rfl, rfl⟩ := h
        exact ⟨b, [], rfl, fun r' => by simp [tok, hb, hb2]⟩
end Go.Gb
namespace Go.Gb
open Go.Ln (Bs getX)
set_option linter.unusedVariables false
set_option linter.unusedSimpArgs false
def segs (l : Bs) : Option (List Bs) :=
  if l = [] then some [] else match h : tok l with
  | none => none
  | some (t, r) => (segs r).map (l.take (l.length - r.length) :: ·)
  termination_by l.length
  decreasing_by exact tok_len h
theorem segs_nil : segs [] = some [] := by rw [segs]; rfl
theorem segs_none {l : Bs} (hl : l ≠ []) (h : tok l = none) : segs l = none := by
  rw [segs, if_neg hl]
  split
  · rfl
  · rename_i h1; rw [h] at h1; cases h1
theorem segs_some {l r : Bs} {t : Tok} (h : tok l = some (t, r)) : segs l = (segs r).map (l.take (l.length - r.length) :: ·) := by
  have hl : l ≠ [] := by rintro rfl; cases h
  rw [segs, if_neg hl]
  split
  · rename_i h1; rw [h] at h1; cases h1
  · rename_i t' r' h1; rw [h] at h1; injection h1 with h1; injection h1 with h1 h2; subst h1; subst h2; rfl
def tokOf (s : Bs) : Tok := match tok s with | some (t, _) => t | none => .any
theorem segs_toks (n : Nat) : ∀ l : Bs, l.length ≤ n → toks l = (segs l).map (·.map tokOf) ∧ ∀ x, segs l = some x → ∀ s, s ∈ x → ∃ t, tok s = some (t, []) := by
  induction n with
  | zero =>
    intro l hl
    have : l = [] := List.length_eq_zero_iff.1 (by omega)
    subst this
    rw [toks_nil, segs_nil]; exact ⟨rfl, fun x hx s hs => by injection hx with hx; subst hx; cases hs⟩
  | succ n ih =>
    intro l hl
    by_cases h0 : l = []
    · subst h0
      rw [toks_nil, segs_nil]; exact ⟨rfl, fun x hx s hs => by injection hx with hx; subst hx; cases hs⟩
    · cases h : tok l with
      | none => rw [toks_none h0 h, segs_none h0 h]; exact ⟨rfl, fun x hx => by cases hx⟩
      | some q =>
        obtain ⟨t, r⟩ := q
        have hlen := tok_len h
        obtain ⟨h1, h2⟩ := ih r (by omega)
        obtain ⟨b, u, e, hs⟩ := tok_seg h
        have hseg : l.take (l.length - r.length) = b :: u := by
          rw [e, List.length_append, Nat.add_sub_cancel, List.take_left']; rfl
        have ht : tok (b :: u) = some (t, []) := by have := hs []; rwa [List.append_nil] at this
        rw [toks_some h, segs_some h, h1, hseg]
        refine ⟨?_, fun x hx s hs => ?_⟩
        · cases segs r with
          | none => rfl
          | some x => simp [tokOf, ht]
        · rw [Option.map_eq_some_iff] at hx
          obtain ⟨y, hy, rfl⟩ := hx
          rcases List.mem_cons.1 hs with rfl | hs
          · exact ⟨t, ht⟩
          · exact h2 y hy s hs
theorem star_iff {s : Bs} {t : Tok} (h : tok s = some (t, [])) : s = [42] ↔ t = .star := by
  constructor
  · rintro rfl; simp [tok] at h; exact h.symm
  · rintro rfl
    cases s with
    | nil => cases h
    | cons b r =>
      simp only [tok] at h
      split at h
      · cases r <;> simp at h
      · split at h
        · simp only [Option.map_eq_some_iff] at h; obtain ⟨x, _, h⟩ := h; injection h with h _; cases h
        · simp only [Option.some.injEq, Prod.mk.injEq] at h
          obtain ⟨h1, rfl⟩ := h
          split at h1
          · rename_i hb; rw [hb]
          · split at h1 <;> cases h1
def alt (Ls : List Tok) (s : Bs) (frm : Nat) : Bool := decide (frm < s.length) && whole (.star :: Ls) (s.drop (frm + 1))
theorem whole_star_alt (Ls : List Tok) (s : Bs) (k : Nat) : whole (.star :: Ls) (s.drop k) = (whole Ls (s.drop k) || alt Ls s k) := by
  rw [whole_star, alt]
  by_cases h : k < s.length
  · rw [List.drop_eq_getElem_cons h, decide_eq_true h, Bool.true_and]
  · rw [List.drop_of_length_le (by omega), decide_eq_false h, Bool.false_and]
theorem alt_absorb {M L : List Tok} (hM : ∀ t, t ∈ M → t ≠ .star) {s : Bs} {frm k : Nat} (hk : k = frm + M.length) (h : alt (M ++ .star :: L) s frm = true) : whole (.star :: L) (s.drop k) = true := by
  simp only [alt, Bool.and_eq_true, decide_eq_true_eq] at h
  obtain ⟨hlt, h⟩ := h
  rw [whole_star_iff] at h
  obtain ⟨j, hj, h⟩ := h
  rw [List.drop_drop] at h
  obtain ⟨h1, h2⟩ := whole_pre hM _ _ h
  rw [List.drop_drop, whole_star_iff] at h2
  obtain ⟨i, hi, h2⟩ := h2
  rw [List.length_drop] at hj h1 hi
  rw [whole_star_iff]
  refine ⟨1 + j + i, by rw [List.length_drop]; omega, ?_⟩
  rw [List.drop_drop] at h2 ⊢
  rw [← h2]; congr 1; congr 1; omega
inductive Stand (s : Bs) (R : Bool) (L : List Tok) (k : Nat) : Option (List Tok × Nat) → Prop
  | plain (hk : k ≤ s.length) (h : R = whole L (s.drop k)) : Stand s R L k none
  | star (M : List Tok) (frm : Nat) (hk : k ≤ s.length) (hM : ∀ t, t ∈ M → t ≠ .star) (he : k = frm + M.length) (h : R = (whole L (s.drop k) || alt (M ++ L) s frm)) : Stand s R L k (some (M ++ L, frm))
theorem Stand.le {s : Bs} {R : Bool} {L : List Tok} {k : Nat} {st : Option (List Tok × Nat)} (h : Stand s R L k st) : k ≤ s.length := by cases h <;> assumption
theorem Stand.onStar {s : Bs} {R : Bool} {L : List Tok} {k : Nat} {st : Option (List Tok × Nat)} (h : Stand s R (.star :: L) k st) : Stand s R L k (some (L, k)) := by
  cases h with
  | plain hk h => exact .star [] k hk (by simp) (by simp) (by rw [h, whole_star_alt]; rfl)
  | star M frm hk hM he h =>
    refine .star [] k hk (by simp) (by simp) ?_
    rw [List.nil_append, ← whole_star_alt, h]
    cases ha : alt (M ++ .star :: L) s frm with
    | false => simp
    | true => rw [alt_absorb hM he ha]; rfl
theorem Stand.onFit {s : Bs} {R : Bool} {t : Tok} {L : List Tok} {k : Nat} {st : Option (List Tok × Nat)} (h : Stand s R (t :: L) k st) (ht : t ≠ .star) (hk : k < s.length) (hf : fits t s[k] = true) : Stand s R L (k + 1) st := by
  have e : whole (t :: L) (s.drop k) = whole L (s.drop (k + 1)) := by rw [whole_tok ht, List.drop_eq_getElem_cons hk]; simp [hf]
  cases h with
  | plain _ h => exact .plain hk (by rw [h, e])
  | star M frm _ hM he h =>
    have := Stand.star (s := s) (R := R) (L := L) (k := k + 1) (M ++ [t]) frm hk (by intro x hx; rcases List.mem_append.1 hx with hx | hx; exact hM x hx; simp at hx; subst hx; exact ht) (by simp; omega) (by rw [h, e]; simp)
    simpa using this
theorem Stand.stop {s : Bs} {R : Bool} {L : List Tok} {k : Nat} (h : Stand s R L k none) (hw : whole L (s.drop k) = false) : R = false := by
  cases h with | plain _ h => rw [h, hw]
theorem Stand.last {s : Bs} {R : Bool} {L Ls : List Tok} {k frm : Nat} (h : Stand s R L k (some (Ls, frm))) (hw : whole L (s.drop k) = false) (hf : s.length ≤ frm) : R = false := by
  cases h with
  | star M _ _ _ _ h => rw [h, hw, alt, decide_eq_false (by omega)]; rfl
theorem Stand.again {s : Bs} {R : Bool} {L Ls : List Tok} {k frm : Nat} (h : Stand s R L k (some (Ls, frm))) (hw : whole L (s.drop k) = false) (hf : frm < s.length) : Stand s R Ls (frm + 1) (some (Ls, frm + 1)) := by
  cases h with
  | star M _ _ _ _ h =>
    refine .star [] (frm + 1) hf (by simp) (by simp) ?_
    rw [h, hw, Bool.false_or, alt, decide_eq_true hf, Bool.true_and, whole_star_alt]; rfl
theorem Stand.done {s : Bs} {R : Bool} {st : Option (List Tok × Nat)} (h : Stand s R [] s.length st) : R = true := by
  have e : whole [] (s.drop s.length) = true := by rw [List.drop_length, whole]; rfl
  cases h with
  | plain _ h => rw [h, e]
  | star M _ _ _ _ h => rw [h, e]; rfl
theorem whole_end {L : List Tok} {s : Bs} {k : Nat} (hL : L ≠ [] ∨ k < s.length) (h : match L with | [] => True | t :: _ => t ≠ .star ∧ (k < s.length → ∀ h2 : k < s.length, fits t s[k] = false)) : whole L (s.drop k) = false := by
  cases L with
  | nil =>
    have hk : k < s.length := hL.resolve_left (by simp)
    rw [List.drop_eq_getElem_cons hk, whole]; rfl
  | cons t L =>
    obtain ⟨h1, h2⟩ := h
    rw [whole_tok h1]
    by_cases hk : k < s.length
    · rw [List.drop_eq_getElem_cons hk]; simp [h2 hk hk]
    · rw [List.drop_of_length_le (by omega)]
end Go.Gb
namespace Go.Gb
open Go.Ln (Bs getX idx idx_eq idx_lt)
set_option linter.unusedVariables false
set_option linter.unusedSimpArgs false
theorem tok_esc {p : Bs} {i : Nat} (h : i < p.length) (hb : p[i] = 92) : tok (p.drop i) = if h2 : i + 1 < p.length then some (.lit p[i + 1], p.drop (i + 2)) else none := by
  rw [List.drop_eq_getElem_cons h]
  simp only [tok]
  rw [if_pos hb]
  by_cases h2 : i + 1 < p.length
  · rw [dif_pos h2, List.drop_eq_getElem_cons h2]
  · rw [dif_neg h2, List.drop_of_length_le (by omega)]
theorem tok_cls {p : Bs} {i : Nat} (h : i < p.length) (hb : p[i] = 91) : tok (p.drop i) = (clsL (p.drop (i + 1))).map fun x => (.cls x.1 x.2.1, x.2.2) := by
  rw [List.drop_eq_getElem_cons h]
  simp only [tok]
  rw [if_neg (by rw [hb]; decide), if_pos hb]
theorem tok_else {p : Bs} {i : Nat} (h : i < p.length) (h1 : p[i] ≠ 92) (h2 : p[i] ≠ 91) : tok (p.drop i) = some (if p[i] = 42 then .star else if p[i] = 63 then .any else .lit p[i], p.drop (i + 1)) := by
  rw [List.drop_eq_getElem_cons h]
  simp only [tok]
  rw [if_neg h1, if_neg h2]
theorem tok_rest {p R : Bs} {i : Nat} {t : Tok} (h : tok (p.drop i) = some (t, R)) : R = p.drop (p.length - R.length) ∧ R.length < p.length - i ∧ p.length - R.length ≤ p.length := by
  obtain ⟨b, u, e, _⟩ := tok_seg h
  have hl := tok_len h
  rw [List.length_drop] at hl
  refine ⟨?_, hl, by omega⟩
  have e2 : p = p.take i ++ (b :: u ++ R) := by rw [← e, List.take_append_drop]
  have hlen := congrArg List.length e2
  simp only [List.length_append, List.length_take, List.length_cons] at hlen
  have : p.length - R.length = (p.take i ++ (b :: u)).length := by simp only [List.length_append, List.length_take, List.length_cons]; omega
  have e3 : p.drop (p.length - R.length) = (p.take i ++ (b :: u) ++ R).drop (p.length - R.length) := by rw [List.append_assoc, ← e2]
  rw [e3, List.drop_left' this.symm]
theorem toks_at {p : Bs} {i : Nat} (h : i < p.length) : toks (p.drop i) = match tok (p.drop i) with | none => none | some (t, R) => (toks R).map (t :: ·) := by
  have hne : p.drop i ≠ [] := by rw [List.drop_eq_getElem_cons h]; exact List.cons_ne_nil _ _
  cases ht : tok (p.drop i) with
  | none => rw [toks_none hne ht]
  | some q => obtain ⟨t, R⟩ := q; rw [toks_some ht]
theorem toks_end {p : Bs} {i : Nat} (h : ¬ i < p.length) : toks (p.drop i) = some [] := by rw [List.drop_of_length_le (by omega), toks_nil]
def pieces : Bs → List Bs
  | [] => [[]]
  | c :: l => if c = 47 then [] :: pieces l else match pieces l with | [] => [[c]] | x :: xs => (c :: x) :: xs
theorem pieces_ne (s : Bs) : pieces s ≠ [] := by
  cases s with
  | nil => simp [pieces]
  | cons c l =>
    simp only [pieces]
    split
    · simp
    · split <;> simp
theorem pieces_none {s : Bs} (h : idx s 47 = none) : pieces s = [s] := by
  induction s with
  | nil => rfl
  | cons c l ih =>
    simp only [idx] at h
    split at h
    · cases h
    · rename_i hc
      simp only [pieces, hc, if_false, ih (by simpa using h)]
theorem pieces_some {s : Bs} {n : Nat} (h : idx s 47 = some n) : pieces s = s.take n :: pieces (s.drop (n + 1)) := by
  induction s generalizing n with
  | nil => cases h
  | cons c l ih =>
    simp only [idx] at h
    split at h
    · rename_i hc; injection h with h; subst h; simp [pieces, hc]
    · rename_i hc
      simp only [Option.map_eq_some_iff] at h
      obtain ⟨m, h1, rfl⟩ := h
      simp only [pieces, hc, if_false, ih h1, List.take_succ_cons, List.drop_succ_cons]
open Go.Lib in
theorem splitK_pieces (n : Nat) : ∀ s : Bs, s.length ≤ n → Lib.splitK [47] 0 (Lib.count s [47]) s = pieces s := by
  induction n with
  | zero =>
    intro s h
    have : s = [] := List.length_eq_zero_iff.1 (by omega)
    subst this
    rw [count_miss (by rfl)]; rfl
  | succ n ih =>
    intro s h
    cases hi : idx s 47 with
    | none =>
      have hm : index s [47] = -1 := by rw [index_one, idx_eq, hi]
      rw [count_miss hm, pieces_none hi]; rfl
    | some k =>
      have hm : index s [47] = ((k : Nat) : Int) := by rw [index_one, idx_eq, hi]
      have hk := idx_lt hi
      rw [count_hit (by simp) hm, Nat.add_comm 1, pieces_some hi]
      have hne : ¬ (index s [47] == -1) = true := fun e => by have := beq_iff_eq.1 e; omega
      simp only [splitK]
      rw [if_neg hne]
      have e : (index s [47]).toNat = k := by omega
      rw [e]
      have := ih (s.drop (k + 1)) (by simp; omega)
      simp only [List.length_cons, List.length_nil, Nat.zero_add, Nat.add_zero] at this ⊢
      rw [this]
theorem pieces_len (s : Bs) : (pieces s).length ≤ s.length + 1 := by
  induction s with
  | nil => simp [pieces]
  | cons c l ih =>
    simp only [pieces]
    split
    · simp; omega
    · split
      · simp
      · rename_i x xs hx; rw [hx] at ih; simp only [List.length_cons] at ih ⊢; omega
theorem piece_len {s x : Bs} (h : x ∈ pieces s) : x.length ≤ s.length := by
  induction s generalizing x with
  | nil => simp [pieces] at h; subst h; simp
  | cons c l ih =>
    simp only [pieces] at h
    split at h
    · rcases List.mem_cons.1 h with rfl | h
      · simp
      · have := ih h; simp only [List.length_cons]; omega
    · split at h
      · simp at h; subst h; simp
      · rename_i y ys hy
        rcases List.mem_cons.1 h with rfl | h
        · have := ih (by rw [hy]; exact List.mem_cons_self ..); simp only [List.length_cons]; omega
        · have := ih (by rw [hy]; exact List.mem_cons_of_mem _ h); simp only [List.length_cons]; omega
def isPat (p : Bs) : Bool := decide (1 ≤ p.length) && decide (p.length ≤ 255) && (pieces p).all good
end Go.Gb
namespace Go.Gb
open Go.Ln (Bs getX idx idx_eq idx_lt)
set_option linter.unusedVariables false
set_option linter.unusedSimpArgs false
def partF (x s : Bs) : Bool := match toks x with | some L => whole L s | none => false
def deep : Bs := [42, 42]
def M : List Bs → List Bs → Bool
  | [], m => m.isEmpty
  | x :: l, [] => if x = deep then M l [] else false
  | x :: l, s :: m => if x = deep then M l (s :: m) || M (x :: l) m else partF x s && M l m
  termination_by l m => l.length + m.length
theorem M_nil (m : List Bs) : M [] m = m.isEmpty := by rw [M]
theorem M_deep_nil (l : List Bs) : M (deep :: l) [] = M l [] := by rw [M, if_pos rfl]
theorem M_deep_cons (l : List Bs) (s : Bs) (m : List Bs) : M (deep :: l) (s :: m) = (M l (s :: m) || M (deep :: l) m) := by rw [M, if_pos rfl]
theorem M_lit_nil {x : Bs} (h : x ≠ deep) (l : List Bs) : M (x :: l) [] = false := by rw [M, if_neg h]
theorem M_lit_cons {x : Bs} (h : x ≠ deep) (l : List Bs) (s : Bs) (m : List Bs) : M (x :: l) (s :: m) = (partF x s && M l m) := by rw [M, if_neg h]
theorem M_deep_iff (l : List Bs) (m : List Bs) : M (deep :: l) m = true ↔ ∃ j, j ≤ m.length ∧ M l (m.drop j) = true := by
  induction m with
  | nil => rw [M_deep_nil]; simp
  | cons s m ih =>
    rw [M_deep_cons, Bool.or_eq_true, ih]
    constructor
    · rintro (h | ⟨j, h1, h2⟩)
      · exact ⟨0, by simp, h⟩
      · exact ⟨j + 1, by simp; omega, h2⟩
    · rintro ⟨j, h1, h2⟩
      cases j with
      | zero => exact .inl h2
      | succ j => exact .inr ⟨j, by simp at h1; omega, h2⟩
theorem snoc_deep (P : List Bs) : ∀ T : List Bs, M (P ++ [deep]) T = true ↔ ∃ j, j ≤ T.length ∧ M P (T.take j) = true := by
  induction P with
  | nil =>
    intro T
    rw [List.nil_append, M_deep_iff]
    exact ⟨fun _ => ⟨0, by omega, by rw [List.take_zero, M_nil]; rfl⟩, fun _ => ⟨T.length, Nat.le_refl _, by rw [List.drop_length, M_nil]; rfl⟩⟩
  | cons x P ih =>
    intro T
    by_cases hx : x = deep
    · subst hx
      rw [List.cons_append, M_deep_iff]
      constructor
      · rintro ⟨i, hi, h⟩
        obtain ⟨j, hj, h⟩ := (ih _).1 h
        rw [List.length_drop] at hj
        refine ⟨i + j, by omega, (M_deep_iff _ _).2 ⟨i, by rw [List.length_take]; omega, ?_⟩⟩
        rw [List.drop_take, show i + j - i = j by omega]; exact h
      · rintro ⟨j, hj, h⟩
        obtain ⟨i, hi, h⟩ := (M_deep_iff _ _).1 h
        rw [List.length_take] at hi
        refine ⟨i, by omega, (ih _).2 ⟨j - i, by rw [List.length_drop]; omega, ?_⟩⟩
        rw [List.drop_take] at h; exact h
    · cases T with
      | nil =>
        rw [List.cons_append, M_lit_nil hx]
        refine ⟨(fun h => by cases h), ?_⟩
        rintro ⟨j, _, h⟩
        rw [List.take_nil, M_lit_nil hx] at h; cases h
      | cons s T =>
        rw [List.cons_append, M_lit_cons hx, Bool.and_eq_true, ih]
        constructor
        · rintro ⟨h1, j, hj, h⟩
          exact ⟨j + 1, by simp; omega, by rw [List.take_succ_cons, M_lit_cons hx, h1, h]; rfl⟩
        · rintro ⟨j, hj, h⟩
          cases j with
          | zero => rw [List.take_zero, M_lit_nil hx] at h; cases h
          | succ j =>
            rw [List.take_succ_cons, M_lit_cons hx, Bool.and_eq_true] at h
            exact ⟨h.1, j, by simp at hj; omega, h.2⟩
theorem snoc_lit {x : Bs} (hx : x ≠ deep) (P : List Bs) : ∀ T : List Bs, M (P ++ [x]) T = true ↔ ∃ T' s, T = T' ++ [s] ∧ M P T' = true ∧ partF x s = true := by
  induction P with
  | nil =>
    intro T
    rw [List.nil_append]
    cases T with
    | nil => rw [M_lit_nil hx]; exact ⟨(fun h => by cases h), (fun ⟨T', s, e, _⟩ => by cases T' <;> cases e)⟩
    | cons s T =>
      rw [M_lit_cons hx, Bool.and_eq_true, M_nil]
      constructor
      · rintro ⟨h1, h2⟩
        have : T = [] := by simpa using h2
        subst this
        exact ⟨[], s, rfl, by rw [M_nil]; rfl, h1⟩
      · rintro ⟨T', s', e, h1, h2⟩
        rw [M_nil] at h1
        have : T' = [] := by simpa using h1
        subst this
        simp at e
        obtain ⟨rfl, rfl⟩ := e
        exact ⟨h2, rfl⟩
  | cons y P ih =>
    intro T
    by_cases hy : y = deep
    · subst hy
      rw [List.cons_append, M_deep_iff]
      constructor
      · rintro ⟨i, hi, h⟩
        obtain ⟨T', s, e, h1, h2⟩ := (ih _).1 h
        refine ⟨T.take i ++ T', s, by rw [List.append_assoc, ← e, List.take_append_drop], (M_deep_iff _ _).2 ⟨i, by rw [List.length_append, List.length_take]; omega, ?_⟩, h2⟩
        rw [List.drop_left' (by rw [List.length_take]; omega)]; exact h1
      · rintro ⟨T', s, rfl, h1, h2⟩
        obtain ⟨i, hi, h⟩ := (M_deep_iff _ _).1 h1
        refine ⟨i, by simp; omega, (ih _).2 ⟨T'.drop i, s, ?_, h, h2⟩⟩
        rw [List.drop_append_of_le_length hi]
    · cases T with
      | nil => rw [List.cons_append, M_lit_nil hy]; exact ⟨(fun h => by cases h), (fun ⟨T', s, e, _⟩ => by cases T' <;> cases e)⟩
      | cons t T =>
        rw [List.cons_append, M_lit_cons hy, Bool.and_eq_true, ih]
        constructor
        · rintro ⟨h0, T', s, rfl, h1, h2⟩
          exact ⟨t :: T', s, rfl, by rw [M_lit_cons hy, h0, h1]; rfl, h2⟩
        · rintro ⟨T', s, e, h1, h2⟩
          cases T' with
          | nil => rw [M_lit_nil hy] at h1; cases h1
          | cons t' T' =>
            simp only [List.cons_append, List.cons.injEq] at e
            obtain ⟨rfl, rfl⟩ := e
            rw [M_lit_cons hy, Bool.and_eq_true] at h1
            exact ⟨h1.1, T', s, rfl, h1.2, h2⟩
theorem step_deep (P S : List Bs) (i : Nat) (hi : i ≤ S.length) : M (P ++ [deep]) (S.take i) = (M P (S.take i) || (decide (0 < i) && M (P ++ [deep]) (S.take (i - 1)))) := by
  rw [Bool.eq_iff_iff, Bool.or_eq_true, Bool.and_eq_true, snoc_deep, snoc_deep, decide_eq_true_iff]
  simp only [List.length_take]
  constructor
  · rintro ⟨j, hj, h⟩
    rw [List.take_take] at h
    by_cases e : j = i
    · left; rw [e, Nat.min_self] at h; exact h
    · right
      refine ⟨by omega, j, by omega, ?_⟩
      rw [List.take_take, Nat.min_eq_left (by omega)]
      rw [Nat.min_eq_left (by omega)] at h; exact h
  · rintro (h | ⟨h0, j, hj, h⟩)
    · exact ⟨i, by omega, by rw [List.take_take, Nat.min_self]; exact h⟩
    · refine ⟨j, by omega, ?_⟩
      rw [List.take_take, Nat.min_eq_left (by omega)] at h ⊢; exact h
theorem step_lit {x : Bs} (hx : x ≠ deep) (P S : List Bs) (i : Nat) (hi : i < S.length) : M (P ++ [x]) (S.take (i + 1)) = (M P (S.take i) && partF x S[i]) := by
  rw [Bool.eq_iff_iff, Bool.and_eq_true, snoc_lit hx, List.take_succ_eq_append_getElem hi]
  constructor
  · rintro ⟨T', s, e, h1, h2⟩
    obtain ⟨e1, e2⟩ := List.append_inj' e rfl
    simp only [List.cons.injEq, and_true] at e2
    subst e2; subst e1
    exact ⟨h1, h2⟩
  · rintro ⟨h1, h2⟩; exact ⟨_, _, rfl, h1, h2⟩
theorem step_lit_zero {x : Bs} (hx : x ≠ deep) (P : List Bs) : M (P ++ [x]) [] = false := by
  rw [Bool.eq_false_iff, Ne, snoc_lit hx]
  rintro ⟨T', s, e, _⟩
  cases T' <;> cases e
def okPart (s : Bs) : Bool := decide (1 ≤ s.length) && decide (s.length ≤ 64) && decide (s ≠ [46]) && decide (s ≠ [46, 46]) && decide (s ≠ [46, 103, 114, 97, 102, 116]) && s.all fun c => decide (32 ≤ c)
def isPath (p : Bs) : Bool := decide (p ≠ []) && decide (p.length ≤ 255) && (pieces p).all okPart && decide ((pieces p).length ≤ 16)
def parts (p : Bs) : List Bs := if p = [] then [] else pieces p
def matchF (p s : Bs) : Bool := isPat p && isPath s && M (pieces p) (parts s)
end Go.Gb
namespace Go.At
open Go.Ln (Bs lines lf crlf binary idx)
open Go.Gb (pieces pieces_ne isPath isPat okPart parts matchF)
set_option linter.unusedVariables false
def within (d p : Bs) : Bool := if d = [] then decide (p ≠ []) else decide (d.length + 1 < p.length) && (p[d.length]? == some 47) && decide (p.take d.length = d)
theorem within_iff {d p : Bs} (hd : d ≠ []) : within d p = true ↔ ∃ r, r ≠ [] ∧ p = d ++ 47 :: r := by
  rw [within, if_neg hd]
  simp only [Bool.and_eq_true, decide_eq_true_eq, beq_iff_eq]
  constructor
  · rintro ⟨⟨h1, h2⟩, h3⟩
    refine ⟨p.drop (d.length + 1), ?_, ?_⟩
    · intro h; have := congrArg List.length h; simp only [List.length_drop, List.length_nil] at this; omega
    · have e : p = p.take d.length ++ p.drop d.length := (List.take_append_drop _ _).symm
      rw [h3, List.drop_eq_getElem_cons (by omega)] at e
      have : p[d.length]'(by omega) = 47 := by
        rw [List.getElem?_eq_getElem (by omega)] at h2; exact Option.some.inj h2
      rw [this] at e; exact e
  · rintro ⟨r, hr, rfl⟩
    have : 0 < r.length := List.length_pos_iff.2 hr
    refine ⟨⟨by simp; omega, by simp⟩, by simp⟩
theorem within_nil (p : Bs) : within [] p = decide (p ≠ []) := rfl
def lastS : Bs → Option Nat
  | [] => none
  | c :: l => match lastS l with | some n => some (n + 1) | none => if c = 47 then some 0 else none
theorem lastS_lt {p : Bs} : ∀ {n : Nat}, lastS p = some n → n < p.length ∧ p[n]? = some 47 ∧ ∀ j, n < j → p[j]? ≠ some 47 := by
  induction p with
  | nil => intro n h; cases h
  | cons c l ih =>
    intro n h
    simp only [lastS] at h
    split at h
    · rename_i k hk
      injection h with h; subst h
      obtain ⟨h1, h2, h3⟩ := ih hk
      refine ⟨by simp; omega, by simpa using h2, fun j hj => ?_⟩
      cases j with
      | zero => omega
      | succ j => simpa using h3 j (by omega)
    · rename_i hk
      split at h
      · rename_i hc
        injection h with h; subst h
        refine ⟨by simp, by simp [hc], fun j hj => ?_⟩
        cases j with
        | zero => omega
        | succ j =>
          simp only [List.getElem?_cons_succ]
          have : ∀ (l : Bs), lastS l = none → ∀ j : Nat, l[j]? ≠ some 47 := by
            intro l
            induction l with
            | nil => intro _ j; simp
            | cons d l ih =>
              intro hn j
              simp only [lastS] at hn
              split at hn
              · cases hn
              · rename_i hl
                split at hn
                · cases hn
                · rename_i hd
                  cases j with
                  | zero => simpa using hd
                  | succ j => simpa using ih hl j
          exact this l hk j
      · cases h
theorem lastS_none {p : Bs} : lastS p = none → 47 ∉ p := by
  induction p with
  | nil => intro _ h; cases h
  | cons c l ih =>
    intro hn
    simp only [lastS] at hn
    split at hn
    · cases hn
    · rename_i hl
      split at hn
      · cases hn
      · rename_i hd; simp only [List.mem_cons, not_or]; exact ⟨Ne.symm hd, ih hl⟩
theorem lastS_of {p : Bs} {n : Nat} (h : p[n]? = some 47) (hn : ∀ j, n < j → p[j]? ≠ some 47) : lastS p = some n := by
  cases hl : lastS p with
  | none => exact absurd (List.mem_of_getElem? h) (lastS_none hl)
  | some k =>
    obtain ⟨h1, h2, h3⟩ := lastS_lt hl
    rcases Nat.lt_trichotomy k n with hk | hk | hk
    · exact absurd h (h3 n hk)
    · rw [hk]
    · exact absurd h2 (hn k hk)
def lastI (p : Bs) : Int := match lastS p with | some n => (n : Int) | none => -1
def name (p : Bs) : Bs := match lastS p with | some n => p.drop (n + 1) | none => p
abbrev Rule := Bs × Bs × Bool × Bool × Bool
def partP (p s : Bs) : Bool := isPat p && !p.contains 47 && !s.contains 47 && Gb.partF p s
abbrev Att := Int × Int × Int
def over (a b : Att) : Att := (if b.1 = 0 then a.1 else b.1, if b.2.1 = 0 then a.2.1 else b.2.1, if b.2.2 = 0 then a.2.2 else b.2.2)
theorem over_assoc (a b c : Att) : over (over a b) c = over a (over b c) := by
  obtain ⟨a1, a2, a3⟩ := a; obtain ⟨b1, b2, b3⟩ := b; obtain ⟨c1, c2, c3⟩ := c
  simp only [over, Prod.mk.injEq]
  refine ⟨?_, ?_, ?_⟩
  · by_cases h : c1 = 0 <;> simp [h]
  · by_cases h : c2 = 0 <;> simp [h]
  · by_cases h : c3 = 0 <;> simp [h]
theorem over_zero (a : Att) : over a (0, 0, 0) = a := rfl
theorem zero_over (a : Att) : over (0, 0, 0) a = a := by
  obtain ⟨a1, a2, a3⟩ := a
  simp only [over, Prod.mk.injEq]
  refine ⟨?_, ?_, ?_⟩ <;> (split <;> simp_all)
abbrev ARule := Bs × Bs × Att
def headP (s : Bs) : Bs := if s.head? = some 47 then s.tail else s
def hasA (x : ARule) (p : Bs) : Bool :=
  within x.2.1 p && (if x.1.contains 47 then matchF (headP x.1) (if x.2.1 = [] then p else p.drop (x.2.1.length + 1)) else matchF x.1 (name p))
def ofA (l : List ARule) (p : Bs) : Att := l.foldl (fun a x => if hasA x p then over a x.2.2 else a) (0, 0, 0)
def ofB (l : List ARule) (p : Bs) (a : Att) : Att := l.reverse.foldl (fun a x => if hasA x p then over x.2.2 a else a) a
theorem ofA_from (l : List ARule) (p : Bs) : ∀ a, l.foldl (fun a x => if hasA x p then over a x.2.2 else a) a = over a (ofA l p) := by
  induction l with
  | nil => intro a; rfl
  | cons x l ih =>
    intro a
    have e : ofA (x :: l) p = over (if hasA x p then x.2.2 else (0, 0, 0)) (ofA l p) := by
      show l.foldl _ (if hasA x p then over (0, 0, 0) x.2.2 else (0, 0, 0)) = _
      rw [ih, zero_over]
    rw [List.foldl_cons, ih, e, ← over_assoc]
    cases hasA x p <;> rfl
theorem ofB_from (l : List ARule) (p : Bs) : ∀ a, ofB l p a = over (ofA l p) a := by
  induction l with
  | nil => intro a; exact (zero_over a).symm
  | cons x l ih =>
    intro a
    have e : ofA (x :: l) p = over (if hasA x p then x.2.2 else (0, 0, 0)) (ofA l p) := by
      show l.foldl _ (if hasA x p then over (0, 0, 0) x.2.2 else (0, 0, 0)) = _
      rw [ofA_from, zero_over]
    have e2 : ofB (x :: l) p a = if hasA x p then over x.2.2 (ofB l p a) else ofB l p a := by
      simp only [ofB, List.reverse_cons, List.foldl_append, List.foldl_cons, List.foldl_nil]
    rw [e2, ih, e, over_assoc]
    cases hasA x p
    · simp only [if_neg, Bool.false_eq_true, not_false_eq_true, zero_over]
    · rfl
theorem ofB_ofA (l : List ARule) (p : Bs) : ofB l p (0, 0, 0) = ofA l p := by rw [ofB_from, over_zero]
theorem ofA_append (l m : List ARule) (p : Bs) : ofA (l ++ m) p = over (ofA l p) (ofA m p) := by
  rw [ofA, List.foldl_append, ofA_from]; rfl
def okT (n : Int) : Bool := n == 1 || n == 2 || n == 3
def okE (n : Int) : Bool := n == 4 || n == 5
def okM (n : Int) : Bool := n == 6 || n == 7 || n == 8
def known (a : Att) : Att := (if okT a.1 then a.1 else 0, if okE a.2.1 then a.2.1 else 0, if okM a.2.2 then a.2.2 else 0)
def validA (a : Att) : Bool := (a.1 == 0 || okT a.1) && (a.2.1 == 0 || okE a.2.1) && (a.2.2 == 0 || okM a.2.2)
theorem kv (b : Bool) (x : Int) : (x == if b = true then x else 0) = (x == 0 || b) := by cases b <;> simp
theorem known_valid (a : Att) : (a == known a) = validA a := by
  obtain ⟨x, y, z⟩ := a
  show (x == _ && (y == _ && z == _)) = _
  rw [kv, kv, kv, validA, Bool.and_assoc]
theorem over_valid {a b : Att} (ha : validA a = true) (hb : validA b = true) : validA (over a b) = true := by
  obtain ⟨a1, a2, a3⟩ := a; obtain ⟨b1, b2, b3⟩ := b
  simp only [validA, over, Bool.and_eq_true] at ha hb ⊢
  refine ⟨⟨?_, ?_⟩, ?_⟩
  · split; exact ha.1.1; exact hb.1.1
  · split; exact ha.1.2; exact hb.1.2
  · split; exact ha.2; exact hb.2
theorem ofA_valid {l : List ARule} {p : Bs} (h : ∀ x, x ∈ l → validA x.2.2 = true) : validA (ofA l p) = true := by
  have : ∀ (l : List ARule) a, validA a = true → (∀ x, x ∈ l → validA x.2.2 = true) → validA (l.foldl (fun a x => if hasA x p then over a x.2.2 else a) a) = true := by
    intro l
    induction l with
    | nil => intro a ha _; exact ha
    | cons x l ih =>
      intro a ha hl
      refine ih _ ?_ fun y hy => hl y (List.mem_cons_of_mem _ hy)
      show validA (if hasA x p = true then over a x.2.2 else a) = true
      split
      · exact over_valid ha (hl x (List.mem_cons_self ..))
      · exact ha
  exact this l _ rfl h
def textA (a : Att) (s : Bs) : Bool := a.1 == 1 || (a.1 == 3 || a.1 != 2 && okE a.2.1) && !binary s
def inA (a : Att) (s : Bs) : Bs := if textA a s then lf s else s
def hasCrlf (s : Bs) : Bool := !(lf s == s)
def outA (a : Att) (s : Bs) : Bs := if textA a s && a.2.1 == 5 && !hasCrlf s then crlf 0 s else s
end Go.At
namespace Go.At
open Go.Ln (Bs lines lf crlf binary idx lf_free lf_same lf_crlf)
set_option linter.unusedVariables false
theorem hasCrlf_iff {s : Bs} : hasCrlf s = true ↔ ∃ i : Nat, s[i]? = some 13 ∧ s[i + 1]? = some 10 := by
  rw [hasCrlf, Bool.not_eq_true', beq_eq_false_iff_ne, Ne, lf_same]
  simp only [Classical.not_forall, Classical.not_not]
end Go.At

