import Derived.Lib.Bytealg
import Derived.Lib.Strings
import Derived.Test.YtfkggoohajdabaaDoorEvC
import Derived.Lib.ItoaNum
set_option linter.unusedVariables false
set_option linter.unusedSimpArgs false
/- Lines: what the functions of layer 5 compute, in plain lists. -/
namespace Go.Ln
set_option linter.unusedVariables false
abbrev Bs := List UInt8
def idx (s : Bs) (c : UInt8) : Option Nat := match s with
  | [] => none
  | b :: l => if b = c then some 0 else (idx l c).map (· + 1)
theorem idx_eq (s : Bs) (c : UInt8) : Lib.indexByte s c = match idx s c with | none => -1 | some n => (n : Int) := by
  induction s with
  | nil => rfl
  | cons b l ih =>
    simp only [Lib.indexByte, idx]
    by_cases h : b = c
    · simp [h]
    · simp only [beq_iff_eq, h, if_false, ih]
      cases idx l c with
      | none => simp
      | some n =>
        simp only [Option.map_some]
        rw [if_neg (by omega)]; rfl
theorem idx_lt {s : Bs} {c : UInt8} {n : Nat} (h : idx s c = some n) : n < s.length := by
  induction s generalizing n with
  | nil => cases h
  | cons b l ih =>
    simp only [idx] at h
    split at h
    · injection h with h; subst h; simp
    · simp only [Option.map_eq_some_iff] at h
      obtain ⟨m, h1, rfl⟩ := h
      have := ih h1; simp; omega
theorem idx_of {s : Bs} {c : UInt8} {n : Nat} (h : s[n]? = some c) (hn : ∀ j, j < n → s[j]? ≠ some c) : idx s c = some n := by
  induction s generalizing n with
  | nil => simp at h
  | cons b l ih =>
    simp only [idx]
    cases n with
    | zero => simp at h; simp [h]
    | succ n =>
      have : b ≠ c := by intro e; exact hn 0 (by omega) (by simp [e])
      rw [if_neg this, ih (by simpa using h) (fun j hj => by have := hn (j + 1) (by omega); simpa using this)]; rfl
theorem idx_none {s : Bs} {c : UInt8} (hn : ∀ j, j < s.length → s[j]? ≠ some c) : idx s c = none := by
  induction s with
  | nil => rfl
  | cons b l ih =>
    simp only [idx]
    have : b ≠ c := by intro e; exact hn 0 (by simp) (by simp [e])
    rw [if_neg this, ih (fun j hj => by have := hn (j + 1) (by simp; omega); simpa using this)]; rfl
def lines : Bs → List Bs
  | [] => []
  | c :: l => if c = 10 then [10] :: lines l else match lines l with | [] => [[c]] | x :: xs => (c :: x) :: xs
theorem lines_none {s : Bs} (h : idx s 10 = none) (hs : s ≠ []) : lines s = [s] := by
  induction s with
  | nil => exact absurd rfl hs
  | cons b l ih =>
    simp only [idx] at h
    split at h
    · cases h
    · rename_i hb
      simp only [lines, hb, if_false]
      by_cases hl : l = []
      · subst hl; rfl
      · rw [ih (by simpa using h) hl]
theorem lines_some {s : Bs} {n : Nat} (h : idx s 10 = some n) : lines s = s.take (n + 1) :: lines (s.drop (n + 1)) := by
  induction s generalizing n with
  | nil => cases h
  | cons b l ih =>
    simp only [idx] at h
    split at h
    · rename_i hb; injection h with h; subst h; simp [lines, hb]
    · rename_i hb
      simp only [Option.map_eq_some_iff] at h
      obtain ⟨m, h1, rfl⟩ := h
      simp only [lines, hb, if_false, ih h1, List.take_succ_cons, List.drop_succ_cons]
def unfeed (s : Bs) : Bs := if s.getLast? = some 10 then s.dropLast else s
def first : List Bs → Bs
  | [] => []
  | l :: r => if unfeed l ≠ [] then unfeed l else first r
end Go.Ln
namespace Go.Ln
set_option linter.unusedVariables false
theorem u8b_t {c d : UInt8} {n : Int} (h : c = d) (hd : (d.toNat : Int) = n) : ((c.toNat : Int) == n) = true := by rw [h, hd]; simp
theorem u8b_f {c d : UInt8} {n : Int} (h : c ≠ d) (hd : (d.toNat : Int) = n) : ((c.toNat : Int) == n) = false := by
  rw [← hd]; simp only [beq_eq_false_iff_ne]; intro e; exact h (UInt8.toNat_inj.1 (by omega))
theorem u8n_t {c d : UInt8} {n : Int} (h : c ≠ d) (hd : (d.toNat : Int) = n) : ((c.toNat : Int) != n) = true := by
  rw [bne, u8b_f h hd]; rfl
theorem u8n_f {c d : UInt8} {n : Int} (h : c = d) (hd : (d.toNat : Int) = n) : ((c.toNat : Int) != n) = false := by
  rw [bne, u8b_t h hd]; rfl
def okLine (l : Bs) (last : Bool) : Bool := decide (l ≠ []) && !(l.dropLast.contains 10) && (l.getLast? == some 10 || last)
def okLines : List Bs → Bool
  | [] => true
  | l :: r => okLine l r.isEmpty && okLines r
end Go.Ln
namespace Go.Ob
open Go.Ev (Bs)
set_option linter.unusedVariables false
def blob : Bs := [98, 108, 111, 98]
def tree : Bs := [116, 114, 101, 101]
def commit : Bs := [99, 111, 109, 109, 105, 116]
def tag : Bs := [116, 97, 103]
def word (k : Int) : Bs := if k = 1 then blob else if k = 2 then tree else if k = 3 then commit else if k = 4 then tag else []
def numGo : Nat → Bs → Option Nat
  | acc, [] => some acc
  | acc, c :: l => if c.toNat < 48 ∨ 57 < c.toNat then none else numGo (10 * acc + (c.toNat - 48)) l
def dec (n : Nat) : Bs := Lib.decDigits n
def bytes (k : Int) (b : Bs) : Bs := word k ++ [32] ++ dec b.length ++ [0] ++ b
theorem dec_small {n : Nat} (h : n < 10) : dec n = [UInt8.ofNat (48 + n)] := Lib.decDigits_one h
theorem dec_step {n : Nat} (h : ¬ n < 10) : dec n = dec (n / 10) ++ [UInt8.ofNat (48 + n % 10)] := by rw [dec, Lib.decDigits, dif_neg h]; rfl
end Go.Ob
namespace Go.Hk
open Go.Ln (Bs)
set_option linter.unusedVariables false
abbrev HL := Int × Bs
abbrev Hk := Int × Int × List HL
abbrev Ed := Int × Int × Int × Int
def cntO (l : List HL) : Nat := l.countP fun x => x.1 != 3
def cntN (l : List HL) : Nat := l.countP fun x => x.1 != 2
theorem cntO_le (l : List HL) : cntO l ≤ l.length := List.countP_le_length
theorem cntN_le (l : List HL) : cntN l ≤ l.length := List.countP_le_length
theorem cntO_snoc (l : List HL) (x : HL) : cntO (l ++ [x]) = cntO l + if x.1 = 3 then 0 else 1 := by
  rw [cntO, List.countP_append, List.countP_singleton]
  by_cases h : x.1 = 3 <;> simp [h, cntO]
theorem cntN_snoc (l : List HL) (x : HL) : cntN (l ++ [x]) = cntN l + if x.1 = 2 then 0 else 1 := by
  rw [cntN, List.countP_append, List.countP_singleton]
  by_cases h : x.1 = 2 <;> simp [h, cntN]
def isLine (s : Bs) : Bool := !s.isEmpty && !s.dropLast.contains 10
def openL (s : Bs) : Bool := !s.isEmpty && !(s.getLast? == some 10)
def okK (k : Int) : Bool := decide (1 ≤ k) && decide (k ≤ 3)
abbrev InsT := Int × Bool × Bool × Bool
def insOk (q : InsT) (x : HL) : Bool := okK x.1 && isLine x.2 && !(x.1 != 3 && q.2.2.1) && !(x.1 != 2 && q.2.2.2) && !(x.1 == 2 && q.1 == 3)
def insNx (q : InsT) (x : HL) : InsT := (x.1, q.2.1 || x.1 != 1, q.2.2.1 || (openL x.2 && x.1 != 3), q.2.2.2 || (openL x.2 && x.1 != 2))
def insStep (q : Option InsT) (x : HL) : Option InsT := match q with | none => none | some q => if insOk q x then some (insNx q x) else none
def insF (l : List HL) : Option InsT := l.foldl insStep (some (0, false, false, false))
theorem insF_snoc (l : List HL) (x : HL) : insF (l ++ [x]) = insStep (insF l) x := by simp [insF]
theorem ins_none (l : List HL) : l.foldl insStep none = none := by
  induction l with
  | nil => rfl
  | cons x l ih => exact ih
theorem insF_none {l : List HL} {i : Nat} (h : insF (l.take i) = none) : insF l = none := by
  have e : insF l = (l.drop i).foldl insStep (insF (l.take i)) := by
    rw [insF, insF, ← List.foldl_append, List.take_append_drop]
  rw [e, h, ins_none]
def insideB (l : List HL) (last : Bool) : Bool := match insF l with | none => false | some q => q.2.1 && (last || (!q.2.2.1 && !q.2.2.2))
def okH (h : Hk) (last : Bool) (e off : Int) : Bool :=
  decide (0 ≤ h.1) && decide (e < h.1) && (h.2.1 == h.1 + off) && insideB h.2.2 last && decide (h.1 + cntO h.2.2 ≤ 4096) && decide (h.2.1 + cntN h.2.2 ≤ 4096)
def valS (l : List Hk) : Nat → Option (Int × Int)
  | 0 => some (-1, 0)
  | i + 1 => match valS l i, l[i]? with
    | some q, some h => if okH h (i + 1 == l.length) q.1 q.2 then some (h.1 + cntO h.2.2, q.2 + cntN h.2.2 - cntO h.2.2) else none
    | _, _ => none
theorem valS_step (l : List Hk) {i : Nat} (h : i < l.length) {q : Int × Int} (hq : valS l i = some q) : valS l (i + 1) = if okH l[i] (i + 1 == l.length) q.1 q.2 then some (l[i].1 + cntO l[i].2.2, q.2 + cntN l[i].2.2 - cntO l[i].2.2) else none := by
  rw [valS, hq, List.getElem?_eq_getElem h]
theorem valS_none (l : List Hk) {i : Nat} (h : valS l i = none) : ∀ {j}, i ≤ j → valS l j = none := by
  intro j hj
  induction hj with
  | refl => exact h
  | step _ ih => rw [valS, ih]
def valid (l : List Hk) : Bool := (valS l l.length).isSome
theorem valid_pre {l : List Hk} (h : valid l = true) {i : Nat} (hi : i ≤ l.length) : ∃ q, valS l i = some q := by
  cases hq : valS l i with
  | some q => exact ⟨q, rfl⟩
  | none => rw [valid, valS_none l hq hi] at h; cases h
theorem valS_bound {l : List Hk} {i : Nat} : ∀ {q : Int × Int}, valS l i = some q → -1 ≤ q.1 ∧ q.1 ≤ 4096 ∧ -1 ≤ q.1 + q.2 ∧ q.1 + q.2 ≤ 4096 := by
  induction i with
  | zero => intro q h; cases h; exact ⟨by decide, by decide, by decide, by decide⟩
  | succ i ih =>
    intro q h
    cases hq : valS l i with
    | none => rw [valS, hq] at h; cases h
    | some q0 =>
      have hl : i < l.length := by
        rcases Nat.lt_or_ge i l.length with hl | hl
        · exact hl
        · rw [valS, hq, List.getElem?_eq_none hl] at h; cases h
      rw [valS_step l hl hq] at h
      have hb := ih hq
      split at h
      · rename_i ho
        cases h
        simp only [okH, Bool.and_eq_true, decide_eq_true_eq, beq_iff_eq] at ho
        obtain ⟨⟨⟨⟨⟨h1, h2⟩, h3⟩, h4⟩, h5⟩, h6⟩ := ho
        dsimp only
        refine ⟨by omega, h5, by omega, by omega⟩
      · cases h
theorem valid_ok {l : List Hk} (h : valid l = true) {i : Nat} (hi : i < l.length) : ∃ q, valS l i = some q ∧ okH l[i] (i + 1 == l.length) q.1 q.2 = true ∧ valS l (i + 1) = some (l[i].1 + cntO l[i].2.2, q.2 + cntN l[i].2.2 - cntO l[i].2.2) := by
  obtain ⟨q, hq⟩ := valid_pre h (Nat.le_of_lt hi)
  obtain ⟨q', hq'⟩ := valid_pre h (Nat.succ_le_of_lt hi)
  have hs := valS_step l hi hq
  by_cases ho : okH l[i] (i + 1 == l.length) q.1 q.2 = true
  · exact ⟨q, hq, ho, by rw [hs, if_pos ho]⟩
  · rw [hs, if_neg ho] at hq'; cases hq'
theorem insF_ok {l : List HL} {q : InsT} (h : insF l = some q) {i : Nat} (hi : i < l.length) : ∃ p, insF (l.take i) = some p ∧ insOk p l[i] = true := by
  cases hp : insF (l.take i) with
  | none => rw [insF_none hp] at h; cases h
  | some p =>
    refine ⟨p, rfl, ?_⟩
    cases ho : insOk p l[i] with
    | true => rfl
    | false =>
      have : insF (l.take (i + 1)) = none := by
        rw [List.take_add_one, List.getElem?_eq_getElem hi]
        show insF (l.take i ++ [l[i]]) = none
        rw [insF_snoc, hp, insStep, ho]; rfl
      rw [insF_none this] at h; cases h
theorem valid_line {l : List Hk} (h : valid l = true) {h' : Hk} (hm : h' ∈ l) {x : HL} (hx : x ∈ h'.2.2) : (x.1 = 1 ∨ x.1 = 2 ∨ x.1 = 3) ∧ isLine x.2 = true := by
  obtain ⟨i, hi, rfl⟩ := List.mem_iff_getElem.1 hm
  obtain ⟨q, _, ho, _⟩ := valid_ok h hi
  simp only [okH, Bool.and_eq_true, insideB] at ho
  obtain ⟨⟨⟨⟨⟨_, _⟩, _⟩, h4⟩, _⟩, _⟩ := ho
  cases hins : insF l[i].2.2 with
  | none => rw [hins] at h4; cases h4
  | some p =>
    obtain ⟨j, hj, rfl⟩ := List.mem_iff_getElem.1 hx
    obtain ⟨p', _, ho⟩ := insF_ok hins hj
    simp only [insOk, okK, Bool.and_eq_true, decide_eq_true_eq] at ho
    exact ⟨by omega, ho.1.1.1.2⟩
def flushE (e : Ed) (out : List Ed) : List Ed := if 0 < e.2.1 ∨ 0 < e.2.2.2 then out ++ [e] else out
def edS (q : Ed × List Ed) (x : HL) : Ed × List Ed :=
  if x.1 = 2 then ((q.1.1, q.1.2.1 + 1, q.1.2.2.1, q.1.2.2.2), q.2)
  else if x.1 = 3 then ((q.1.1, q.1.2.1, q.1.2.2.1, q.1.2.2.2 + 1), q.2)
  else ((q.1.1 + q.1.2.1 + 1, 0, q.1.2.2.1 + q.1.2.2.2 + 1, 0), flushE q.1 q.2)
def edL (q : Ed × List Ed) (l : List HL) : Ed × List Ed := l.foldl edS q
def edH (out : List Ed) (h : Hk) : List Ed := let q := edL ((h.1, 0, h.2.1, 0), out) h.2.2; flushE q.1 q.2
def edsF (l : List Hk) : List Ed := l.foldl edH []
def invS (q : List HL × List HL) (x : HL) : List HL × List HL :=
  if x.1 = 2 then (q.1, q.2 ++ [(3, x.2)]) else if x.1 = 3 then (q.1 ++ [(2, x.2)], q.2) else (q.1 ++ q.2 ++ [x], [])
def invF (l : List HL) : List HL × List HL := l.foldl invS ([], [])
theorem invF_snoc (l : List HL) (x : HL) : invF (l ++ [x]) = invS (invF l) x := by simp [invF]
def invL (l : List HL) : List HL := (invF l).1 ++ (invF l).2
def back (l : List Hk) : List Hk := if valid l then l.map fun h => (h.2.1, h.1, invL h.2.2) else []
def sideL (l : List HL) (but : Int) : List Bs := (l.filter fun x => x.1 != but).map (·.2)
theorem sideL_snoc (l : List HL) (x : HL) (but : Int) : sideL (l ++ [x]) but = if x.1 = but then sideL l but else sideL l but ++ [x.2] := by
  rw [sideL, List.filter_append, List.map_append]
  by_cases h : x.1 = but <;> simp [h, sideL]
def standsA (a old : List Bs) (p : Nat) : Bool := decide (p + old.length ≤ a.length) && decide ((a.drop p).take old.length = old)
def dist (p : Nat) (w : Int) : Int := max ((p : Int) - w) (w - p)
def bestF (a old : List Bs) (e : Nat) (w : Int) : Nat → Option Nat
  | 0 => none
  | k + 1 => let b := bestF a old e w k
    if standsA a old (e + k) then (match b with | none => some (e + k) | some p => if dist (e + k) w < dist p w then some (e + k) else some p) else b
def nearF (a old : List Bs) (e : Nat) (w : Int) : Option Nat := bestF a old e w (a.length + 1 - e)
theorem bestF_spec (a old : List Bs) (e : Nat) (w : Int) : ∀ k, match bestF a old e w k with
    | none => ∀ p, e ≤ p → p < e + k → standsA a old p = false
    | some b => e ≤ b ∧ b < e + k ∧ standsA a old b = true ∧ ∀ p, e ≤ p → p < e + k → standsA a old p = true → dist b w < dist p w ∨ (dist b w = dist p w ∧ b ≤ p) := by
  intro k
  induction k with
  | zero => simp only [bestF]; intro p h1 h2; omega
  | succ k ih =>
    simp only [bestF]
    cases hs : standsA a old (e + k) with
    | false =>
      rw [if_neg (by simp)]
      cases hb : bestF a old e w k with
      | none =>
        rw [hb] at ih
        intro p h1 h2
        by_cases hp : p = e + k
        · subst hp; exact hs
        · exact ih p h1 (by omega)
      | some b =>
        rw [hb] at ih
        obtain ⟨h1, h2, h3, h4⟩ := ih
        refine ⟨h1, by omega, h3, fun p hp1 hp2 hp3 => ?_⟩
        by_cases hp : p = e + k
        · subst hp; rw [hs] at hp3; cases hp3
        · exact h4 p hp1 (by omega) hp3
    | true =>
      rw [if_pos rfl]
      cases hb : bestF a old e w k with
      | none =>
        rw [hb] at ih
        refine ⟨by omega, by omega, hs, fun p hp1 hp2 hp3 => ?_⟩
        by_cases hp : p = e + k
        · subst hp; exact .inr ⟨rfl, Nat.le_refl _⟩
        · rw [ih p hp1 (by omega)] at hp3; cases hp3
      | some b =>
        rw [hb] at ih
        obtain ⟨h1, h2, h3, h4⟩ := ih
        dsimp only
        by_cases hd : dist (e + k) w < dist b w
        · rw [if_pos hd]
          refine ⟨by omega, by omega, hs, fun p hp1 hp2 hp3 => ?_⟩
          by_cases hp : p = e + k
          · subst hp; exact .inr ⟨rfl, Nat.le_refl _⟩
          · rcases h4 p hp1 (by omega) hp3 with h | h
            · exact .inl (by omega)
            · exact .inl (by omega)
        · rw [if_neg hd]
          refine ⟨h1, by omega, h3, fun p hp1 hp2 hp3 => ?_⟩
          by_cases hp : p = e + k
          · subst hp
            by_cases hd' : dist b w = dist (e + k) w
            · exact .inr ⟨hd', by omega⟩
            · exact .inl (by omega)
          · exact h4 p hp1 (by omega) hp3
theorem stands_le {a old : List Bs} {p : Nat} (h : standsA a old p = true) : p ≤ a.length := by
  simp only [standsA, Bool.and_eq_true, decide_eq_true_eq] at h; omega
theorem near_at {a old : List Bs} {e : Nat} {w : Int} {b : Nat} (h1 : e ≤ b) (h2 : standsA a old b = true) (h3 : ∀ p, e ≤ p → standsA a old p = true → dist b w < dist p w ∨ (dist b w = dist p w ∧ b ≤ p)) : nearF a old e w = some b := by
  have hs := bestF_spec a old e w (a.length + 1 - e)
  have hb := stands_le h2
  rw [nearF]
  cases hn : bestF a old e w (a.length + 1 - e) with
  | none => rw [hn] at hs; rw [hs b h1 (by omega)] at h2; cases h2
  | some c =>
    rw [hn] at hs
    obtain ⟨c1, c2, c3, c4⟩ := hs
    have x := c4 b h1 (by omega) h2
    have y := h3 c c1 c3
    congr 1
    omega
theorem near_no {a old : List Bs} {e : Nat} {w : Int} (h : ∀ p, e ≤ p → standsA a old p = false) : nearF a old e w = none := by
  have hs := bestF_spec a old e w (a.length + 1 - e)
  rw [nearF]
  cases hn : bestF a old e w (a.length + 1 - e) with
  | none => rfl
  | some c =>
    rw [hn] at hs
    have h3 := hs.2.2.1
    rw [h c hs.1] at h3; cases h3
abbrev ApT := List Bs × List Int × Nat × Int
def apS (a : List Bs) (q : ApT) (h : Hk) : Option ApT :=
  match nearF a (sideL h.2.2 3) q.2.2.1 (h.1 + q.2.2.2) with
  | none => none
  | some p => some (q.1 ++ (a.drop q.2.2.1).take (p - q.2.2.1) ++ sideL h.2.2 2, q.2.1 ++ [(p : Int) - h.1], p + (sideL h.2.2 3).length, (p : Int) - h.1)
def apF (a : List Bs) (l : List Hk) : Nat → Option ApT
  | 0 => some ([], [], 0, 0)
  | i + 1 => match apF a l i, l[i]? with
    | some q, some h => apS a q h
    | _, _ => none
end Go.Hk
namespace Go.Hk
open Go.Ln (Bs)
set_option linter.unusedVariables false
def kL (k : Int) (L : List Bs) : List HL := L.map fun s => (k, s)
theorem kL_nil (k : Int) : kL k [] = [] := rfl
theorem kL_app (k : Int) (L M : List Bs) : kL k (L ++ M) = kL k L ++ kL k M := List.map_append
theorem kL_len (k : Int) (L : List Bs) : (kL k L).length = L.length := List.length_map _
def sl (a : List Bs) (i j : Int) : List Bs := (a.drop i.toNat).take (j.toNat - i.toNat)
theorem sl_len (a : List Bs) {i j : Int} (h : j ≤ a.length) : (sl a i j).length = j.toNat - i.toNat := by
  rw [sl, List.length_take, List.length_drop]; omega
theorem sl_all (a : List Bs) (i : Int) : sl a i a.length = a.drop i.toNat := by
  rw [sl, List.take_of_length_le (by rw [List.length_drop]; omega)]
def scOk (a b : List Bs) (first : Bool) (q : Int × Int) (e : Ed) : Bool :=
  decide (q.1 ≤ e.1) && decide (q.2 ≤ e.2.2.1) && decide (0 ≤ e.2.1) && decide (0 ≤ e.2.2.2) && decide (e.1 ≤ a.length) && decide (e.2.1 ≤ a.length - e.1) &&
  decide (e.2.2.1 ≤ b.length) && decide (e.2.2.2 ≤ b.length - e.2.2.1) && !(e.2.1 == 0 && e.2.2.2 == 0) && (first || !(e.1 == q.1)) && decide (sl a q.1 e.1 = sl b q.2 e.2.2.1)
def scS (a b : List Bs) (l : List Ed) : Nat → Option (Int × Int)
  | 0 => some (0, 0)
  | i + 1 => match scS a b l i, l[i]? with
    | some q, some e => if scOk a b (i == 0) q e then some (e.1 + e.2.1, e.2.2.1 + e.2.2.2) else none
    | _, _ => none
def right (a b : List Bs) (l : List Ed) : Bool := match scS a b l l.length with
  | none => false
  | some q => decide (a.drop q.1.toNat = b.drop q.2.toNat)
theorem scS_step (a b : List Bs) (l : List Ed) {i : Nat} (h : i < l.length) {q : Int × Int} (hq : scS a b l i = some q) : scS a b l (i + 1) = if scOk a b (i == 0) q l[i] then some (l[i].1 + l[i].2.1, l[i].2.2.1 + l[i].2.2.2) else none := by
  rw [scS, hq, List.getElem?_eq_getElem h]
theorem scS_none (a b : List Bs) (l : List Ed) {i : Nat} (h : scS a b l i = none) : ∀ {j}, i ≤ j → scS a b l j = none := by
  intro j hj
  induction hj with
  | refl => exact h
  | step _ ih => rw [scS, ih]
theorem right_ok {a b : List Bs} {l : List Ed} (h : right a b l = true) {i : Nat} (hi : i < l.length) : ∃ q, scS a b l i = some q ∧ scOk a b (i == 0) q l[i] = true ∧ scS a b l (i + 1) = some (l[i].1 + l[i].2.1, l[i].2.2.1 + l[i].2.2.2) := by
  have hs : ∀ j, j ≤ l.length → ∃ q, scS a b l j = some q := fun j hj => by
    cases hq : scS a b l j with
    | some q => exact ⟨q, rfl⟩
    | none => rw [right, scS_none a b l hq hj] at h; cases h
  obtain ⟨q, hq⟩ := hs i (by omega)
  obtain ⟨q', hq'⟩ := hs (i + 1) (by omega)
  have he := scS_step a b l hi hq
  by_cases ho : scOk a b (i == 0) q l[i] = true
  · exact ⟨q, hq, ho, by rw [he, if_pos ho]⟩
  · rw [he, if_neg ho] at hq'; cases hq'
theorem scS_bound {a b : List Bs} {l : List Ed} {i : Nat} : ∀ {q : Int × Int}, scS a b l i = some q → 0 ≤ q.1 ∧ q.1 ≤ a.length ∧ 0 ≤ q.2 ∧ q.2 ≤ b.length := by
  induction i with
  | zero => intro q h; cases h; exact ⟨by decide, by omega, by decide, by omega⟩
  | succ i ih =>
    intro q h
    cases hq : scS a b l i with
    | none => rw [scS, hq] at h; cases h
    | some q0 =>
      have hl : i < l.length := by
        rcases Nat.lt_or_ge i l.length with hl | hl
        · exact hl
        · rw [scS, hq, List.getElem?_eq_none hl] at h; cases h
      rw [scS_step a b l hl hq] at h
      have hb := ih hq
      split at h
      · rename_i ho
        cases h
        simp only [scOk, Bool.and_eq_true, decide_eq_true_eq] at ho
        obtain ⟨⟨⟨⟨⟨⟨⟨⟨⟨⟨h1, h2⟩, h3⟩, h4⟩, h5⟩, h6⟩, h7⟩, h8⟩, _⟩, _⟩, _⟩ := ho
        dsimp only
        refine ⟨by omega, by omega, by omega, by omega⟩
      · cases h
def edLines (a b : List Bs) (at_ : Int) (e : Ed) : List HL := kL 1 (sl a at_ e.1) ++ kL 2 (sl a e.1 (e.1 + e.2.1)) ++ kL 3 (sl b e.2.2.1 (e.2.2.1 + e.2.2.2))
def startP (a b : List Bs) (n : Int) (e : Ed) : Hk := (e.1 - min n e.1, e.2.2.1 - min n e.1, edLines a b (e.1 - min n e.1) e)
def extP (a b : List Bs) (cur : Hk) (end_ : Int) (e : Ed) : Hk := (cur.1, cur.2.1, cur.2.2 ++ edLines a b end_ e)
def closeP (a : List Bs) (n : Int) (cur : Hk) (end_ : Int) : Hk := (cur.1, cur.2.1, cur.2.2 ++ kL 1 (sl a end_ (min (end_ + n) a.length)))
abbrev OfT := List Hk × Hk × Int
def ofStep (a b : List Bs) (n : Int) (q : OfT) (e : Ed) : OfT :=
  if e.1 - q.2.2 ≤ 2 * n then (q.1, extP a b q.2.1 q.2.2 e, e.1 + e.2.1) else (q.1 ++ [closeP a n q.2.1 q.2.2], startP a b n e, e.1 + e.2.1)
def ofI (a b : List Bs) (n : Int) : List Ed → Option OfT
  | [] => none
  | e :: l => some (l.foldl (ofStep a b n) ([], startP a b n e, e.1 + e.2.1))
def ofW (a b : List Bs) (n : Int) (l : List Ed) : List Hk := match ofI a b n l with
  | none => []
  | some q => q.1 ++ [closeP a n q.2.1 q.2.2]
def clampN (n : Int) : Int := min 64 (max 0 n)
def ofF (a b : List Bs) (l : List Ed) (n : Int) : List Hk := if a.length ≤ 4096 ∧ b.length ≤ 4096 ∧ right a b l = true then ofW a b (clampN n) l else []
theorem ofI_snoc (a b : List Bs) (n : Int) {l : List Ed} (e : Ed) {q : OfT} (h : ofI a b n l = some q) : ofI a b n (l ++ [e]) = some (ofStep a b n q e) := by
  cases l with
  | nil => cases h
  | cons x l =>
    simp only [ofI, Option.some.injEq] at h
    rw [List.cons_append, ofI, List.foldl_append, h]; rfl
end Go.Hk
namespace Go.Hk
open Go.Ln (Bs)
open Go.Ob (dec)
set_option linter.unusedVariables false
def placeN (f : Int) (n : Nat) : Nat := if n = 0 then f.toNat else f.toNat + 1
def headB (f : Int) (n : Nat) (t : Int) (m : Nat) : Bs := [64, 32, 45] ++ (dec (placeN f n) ++ [44] ++ dec n) ++ [32, 43] ++ (dec (placeN t m) ++ [44] ++ dec m) ++ [32, 64, 10]
def markB : Bs := [92, 32, 110, 111, 32, 101, 110, 100, 10]
def signB (k : Int) : Bs := if k = 2 then [45] else if k = 3 then [43] else [32]
def lineB (x : HL) : Bs := signB x.1 ++ x.2 ++ (if openL x.2 then 10 :: markB else [])
def hunkB (h : Hk) : Bs := headB h.1 (cntO h.2.2) h.2.1 (cntN h.2.2) ++ h.2.2.flatMap lineB
def textB (l : List Hk) : Bs := if valid l then l.flatMap hunkB else []
theorem flat_snoc {α : Type} (f : α → Bs) (l : List α) (x : α) : (l ++ [x]).flatMap f = l.flatMap f ++ f x := by simp
end Go.Hk
namespace Go.Hk
open Go.Ln (Bs)
open Go.Ob (dec numGo dec_small dec_step)
set_option linter.unusedVariables false
set_option linter.unusedSimpArgs false
end Go.Hk
namespace Go.Hk
open Go.Ln (Bs)
set_option linter.unusedVariables false
set_option linter.unusedSimpArgs false
def linesOk (a : List Bs) : Prop := ∀ i (h : i < a.length), isLine a[i] = true ∧ (openL a[i] = true → i + 1 = a.length)
theorem take_next {α : Type} {a : List α} {P p : Nat} (h : P ≤ p) (hp : p < a.length) : (a.drop P).take (p + 1 - P) = (a.drop P).take (p - P) ++ [a[p]] := by
  have e : p + 1 - P = (p - P) + 1 := by omega
  rw [e, List.take_add_one, List.getElem?_drop, show P + (p - P) = p by omega, List.getElem?_eq_getElem hp]; rfl
structure Half0 (a b : List Bs) (P P' p p' : Nat) (L : List HL) (pk : Int) (ch : Bool) : Prop where
  le : P ≤ p
  le' : P' ≤ p'
  lt : p ≤ a.length
  lt' : p' ≤ b.length
  old : sideL L 3 = (a.drop P).take (p - P)
  new : sideL L 2 = (b.drop P').take (p' - P')
  cO : P + cntO L = p
  cN : P' + cntN L = p'
  ins : ∃ o c, insF L = some (pk, ch, o, c) ∧ (o = true → p = a.length) ∧ (c = true → p' = b.length)
theorem Half0.nil (a b : List Bs) {P P' : Nat} (h : P ≤ a.length) (h' : P' ≤ b.length) : Half0 a b P P' P P' [] 0 false :=
  ⟨Nat.le_refl _, Nat.le_refl _, h, h', by simp [sideL], by simp [sideL], by simp [cntO], by simp [cntN], false, false, rfl, (fun h => by cases h), (fun h => by cases h)⟩
variable {a b : List Bs} {P P' p p' : Nat} {L : List HL} {pk : Int} {ch : Bool}
theorem Half0.same (h : Half0 a b P P' p p' L pk ch) (ha : linesOk a) (hb : linesOk b) (hp : p < a.length) (hp' : p' < b.length) (he : a[p] = b[p']) : Half0 a b P P' (p + 1) (p' + 1) (L ++ [(1, a[p])]) 1 ch := by
  obtain ⟨o, c, hi, ho, hc⟩ := h.ins
  have e1 : o = false := by cases o with | false => rfl | true => have := ho rfl; omega
  have e2 : c = false := by cases c with | false => rfl | true => have := hc rfl; omega
  subst e1; subst e2
  refine ⟨by have := h.le; omega, by have := h.le'; omega, hp, hp', ?_, ?_, ?_, ?_, openL a[p], openL a[p], ?_, fun ho => (ha p hp).2 ho, fun ho => (hb p' hp').2 (by rw [← he]; exact ho)⟩
  · rw [sideL_snoc, if_neg (by show ¬ (1 : Int) = 3; decide), take_next h.le hp, h.old]
  · rw [sideL_snoc, if_neg (by show ¬ (1 : Int) = 2; decide), take_next h.le' hp', h.new, he]
  · rw [cntO_snoc, if_neg (by show ¬ (1 : Int) = 3; decide)]; have := h.cO; omega
  · rw [cntN_snoc, if_neg (by show ¬ (1 : Int) = 2; decide)]; have := h.cN; omega
  · rw [insF_snoc, hi, insStep, if_pos]
    · simp [insNx]
    · simp only [insOk, okK, (ha p hp).1]; simp
theorem Half0.del (h : Half0 a b P P' p p' L pk ch) (ha : linesOk a) (hp : p < a.length) (hk : pk ≠ 3) : Half0 a b P P' (p + 1) p' (L ++ [(2, a[p])]) 2 true := by
  obtain ⟨o, c, hi, ho, hc⟩ := h.ins
  have e1 : o = false := by cases o with | false => rfl | true => have := ho rfl; omega
  subst e1
  refine ⟨by have := h.le; omega, h.le', hp, h.lt', ?_, ?_, ?_, ?_, openL a[p], c, ?_, fun ho => (ha p hp).2 ho, hc⟩
  · rw [sideL_snoc, if_neg (by show ¬ (2 : Int) = 3; decide), take_next h.le hp, h.old]
  · rw [sideL_snoc, if_pos rfl, h.new]
  · rw [cntO_snoc, if_neg (by show ¬ (2 : Int) = 3; decide)]; have := h.cO; omega
  · rw [cntN_snoc, if_pos rfl]; have := h.cN; omega
  · rw [insF_snoc, hi, insStep, if_pos]
    · simp [insNx]
    · have : (pk == 3) = false := by simpa using hk
      simp only [insOk, okK, (ha p hp).1, this]; simp
theorem Half0.ins' (h : Half0 a b P P' p p' L pk ch) (hb : linesOk b) (hp' : p' < b.length) : Half0 a b P P' p (p' + 1) (L ++ [(3, b[p'])]) 3 true := by
  obtain ⟨o, c, hi, ho, hc⟩ := h.ins
  have e2 : c = false := by cases c with | false => rfl | true => have := hc rfl; omega
  subst e2
  refine ⟨h.le, by have := h.le'; omega, h.lt, hp', ?_, ?_, ?_, ?_, o, openL b[p'], ?_, ho, fun ho => (hb p' hp').2 ho⟩
  · rw [sideL_snoc, if_pos rfl, h.old]
  · rw [sideL_snoc, if_neg (by show ¬ (3 : Int) = 2; decide), take_next h.le' hp', h.new]
  · rw [cntO_snoc, if_pos rfl]; have := h.cO; omega
  · rw [cntN_snoc, if_neg (by show ¬ (3 : Int) = 2; decide)]; have := h.cN; omega
  · rw [insF_snoc, hi, insStep, if_pos]
    · simp [insNx]
    · simp only [insOk, okK, (hb p' hp').1]; simp
theorem kL_next (k : Int) {a : List Bs} {p : Nat} (j : Nat) (h : p + j < a.length) : kL k ((a.drop p).take (j + 1)) = kL k ((a.drop p).take j) ++ [(k, a[p + j])] := by
  rw [List.take_add_one, List.getElem?_drop, List.getElem?_eq_getElem h, kL_app]; rfl
structure Half (a b : List Bs) (P P' p p' : Nat) (L : List HL) (pk : Int) (ch : Bool) : Prop where
  fwd : Half0 a b P P' p p' L pk ch
  bwd : ∃ X k pk2 ch2, invF L = (X, kL 3 ((a.drop (p - k)).take k)) ∧ P + k ≤ p ∧ Half0 b a P' P p' (p - k) X pk2 ch2 ∧ pk2 ≠ 3 ∧ (ch = true → ch2 = true ∨ 0 < k)
theorem Half.nil (a b : List Bs) {P P' : Nat} (h : P ≤ a.length) (h' : P' ≤ b.length) : Half a b P P' P P' [] 0 false :=
  ⟨.nil a b h h', [], 0, 0, false, rfl, by omega, .nil b a h' h, by decide, fun h => by cases h⟩
theorem Half0.inss (h : Half0 a b P P' p p' L pk ch) (hb : linesOk b) : ∀ j, p' + j ≤ b.length →
    Half0 a b P P' p (p' + j) (L ++ kL 3 ((b.drop p').take j)) (if j = 0 then pk else 3) (if j = 0 then ch else true) := by
  intro j
  induction j with
  | zero => intro _; simpa [kL] using h
  | succ j ih =>
    intro h1
    have hj := ih (by omega)
    have := hj.ins' hb (by omega)
    rw [kL_next 3 j (by omega), ← List.append_assoc, if_neg (by omega), if_neg (by omega)]
    exact this
theorem Half.same (h : Half a b P P' p p' L pk ch) (ha : linesOk a) (hb : linesOk b) (hp : p < a.length) (hp' : p' < b.length) (he : a[p] = b[p']) : Half a b P P' (p + 1) (p' + 1) (L ++ [(1, a[p])]) 1 ch := by
  obtain ⟨X, k, pk2, ch2, h1, h2, h3, h4, h5⟩ := h.bwd
  have i1 := h3.inss ha k (by omega)
  rw [show p - k + k = p by omega] at i1
  have i2 := i1.same hb ha hp' hp he.symm
  refine ⟨h.fwd.same ha hb hp hp' he, _, 0, 1, _, ?_, by have := h.fwd.le; omega, i2, by decide, fun hc => .inl ?_⟩
  · rw [invF_snoc, h1, invS, if_neg (by show ¬ (1 : Int) = 2; decide), if_neg (by show ¬ (1 : Int) = 3; decide), he]
    simp [kL]
  · rcases h5 hc with h5 | h5
    · rw [h5]; split <;> rfl
    · rw [if_neg (by omega)]
theorem Half.del (h : Half a b P P' p p' L pk ch) (ha : linesOk a) (hp : p < a.length) (hk : pk ≠ 3) : Half a b P P' (p + 1) p' (L ++ [(2, a[p])]) 2 true := by
  obtain ⟨X, k, pk2, ch2, h1, h2, h3, h4, h5⟩ := h.bwd
  refine ⟨h.fwd.del ha hp hk, X, k + 1, pk2, ch2, ?_, by omega, ?_, h4, fun _ => .inr (by omega)⟩
  · rw [invF_snoc, h1, invS, if_pos rfl, show p + 1 - (k + 1) = p - k by omega, kL_next 3 k (by omega)]
    simp only [show p - k + k = p by omega]
  · rw [show p + 1 - (k + 1) = p - k by omega]; exact h3
theorem Half.ins' (h : Half a b P P' p p' L pk ch) (hb : linesOk b) (hp' : p' < b.length) : Half a b P P' p (p' + 1) (L ++ [(3, b[p'])]) 3 true := by
  obtain ⟨X, k, pk2, ch2, h1, h2, h3, h4, h5⟩ := h.bwd
  refine ⟨h.fwd.ins' hb hp', X ++ [(2, b[p'])], k, 2, true, ?_, h2, h3.del hb hp' h4, by decide, fun _ => .inl rfl⟩
  rw [invF_snoc, h1, invS, if_neg (by show ¬ (3 : Int) = 2; decide), if_pos rfl]
theorem Half.ctx (h : Half a b P P' p p' L pk ch) (ha : linesOk a) (hb : linesOk b) : ∀ j, p + j ≤ a.length → p' + j ≤ b.length → (a.drop p).take j = (b.drop p').take j →
    Half a b P P' (p + j) (p' + j) (L ++ kL 1 ((a.drop p).take j)) (if j = 0 then pk else 1) ch := by
  intro j
  induction j with
  | zero => intro _ _ _; simpa [kL] using h
  | succ j ih =>
    intro h1 h2 h3
    have e : ∀ i, i < j + 1 → a[p + i]? = b[p' + i]? := fun i hi => by
      have := congrArg (fun l : List Bs => l[i]?) h3
      simpa [List.getElem?_take, hi, List.getElem?_drop] using this
    have h4 : (a.drop p).take j = (b.drop p').take j := by
      apply List.ext_getElem?
      intro i
      rw [List.getElem?_take, List.getElem?_take]
      by_cases hi : i < j
      · rw [if_pos hi, if_pos hi, List.getElem?_drop, List.getElem?_drop, e i (by omega)]
      · rw [if_neg hi, if_neg hi]
    have hj := ih (by omega) (by omega) h4
    have he : a[p + j] = b[p' + j] := by
      have := e j (by omega)
      rw [List.getElem?_eq_getElem (by omega), List.getElem?_eq_getElem (by omega)] at this
      exact Option.some.inj this
    have := hj.same ha hb (by omega) (by omega) he
    rw [kL_next 1 j (by omega), ← List.append_assoc, if_neg (by omega)]
    exact this
theorem Half.dels (h : Half a b P P' p p' L pk ch) (ha : linesOk a) (hk : pk ≠ 3) : ∀ j, p + j ≤ a.length →
    Half a b P P' (p + j) p' (L ++ kL 2 ((a.drop p).take j)) (if j = 0 then pk else 2) (if j = 0 then ch else true) := by
  intro j
  induction j with
  | zero => intro _; simpa [kL] using h
  | succ j ih =>
    intro h1
    have hj := ih (by omega)
    have := hj.del ha (by omega) (by split; exact hk; decide)
    rw [kL_next 2 j (by omega), ← List.append_assoc, if_neg (by omega), if_neg (by omega)]
    exact this
theorem Half.inss (h : Half a b P P' p p' L pk ch) (hb : linesOk b) : ∀ j, p' + j ≤ b.length →
    Half a b P P' p (p' + j) (L ++ kL 3 ((b.drop p').take j)) (if j = 0 then pk else 3) (if j = 0 then ch else true) := by
  intro j
  induction j with
  | zero => intro _; simpa [kL] using h
  | succ j ih =>
    intro h1
    have hj := ih (by omega)
    have := hj.ins' hb (by omega)
    rw [kL_next 3 j (by omega), ← List.append_assoc, if_neg (by omega), if_neg (by omega)]
    exact this
end Go.Hk
namespace Go.Hk
open Go.Ln (Bs)
set_option linter.unusedVariables false
variable {a b : List Bs}
theorem edL_app (q : Ed × List Ed) (L M : List HL) : edL q (L ++ M) = edL (edL q L) M := by simp [edL]
theorem edL_ctx (e : Ed) (o : List Ed) (M : List Bs) : edL (e, o) (kL 1 M) = if M = [] then (e, o) else ((e.1 + e.2.1 + M.length, 0, e.2.2.1 + e.2.2.2 + M.length, 0), flushE e o) := by
  induction M generalizing e o with
  | nil => rfl
  | cons x M ih =>
    show edL (edS (e, o) (1, x)) (kL 1 M) = _
    rw [if_neg (by simp)]
    have hs : edS (e, o) (1, x) = ((e.1 + e.2.1 + 1, 0, e.2.2.1 + e.2.2.2 + 1, 0), flushE e o) := by
      rw [edS, if_neg (by show ¬ (1 : Int) = 2; decide), if_neg (by show ¬ (1 : Int) = 3; decide)]
    rw [hs, ih]
    by_cases hM : M = []
    · subst hM; rw [if_pos rfl]; rfl
    · rw [if_neg hM]
      have : flushE (e.1 + e.2.1 + 1, 0, e.2.2.1 + e.2.2.2 + 1, 0) (flushE e o) = flushE e o := by
        rw [flushE, if_neg]; show ¬ ((0 : Int) < 0 ∨ (0 : Int) < 0); decide
      rw [this]
      simp only [List.length_cons, Prod.mk.injEq, and_true, true_and]
      constructor <;> omega
theorem edL_del (e : Ed) (o : List Ed) (M : List Bs) : edL (e, o) (kL 2 M) = ((e.1, e.2.1 + M.length, e.2.2.1, e.2.2.2), o) := by
  induction M generalizing e with
  | nil => simp [kL, edL]
  | cons x M ih =>
    show edL (edS (e, o) (2, x)) (kL 2 M) = _
    rw [edS, if_pos rfl, ih]
    simp only [List.length_cons, Prod.mk.injEq, and_true, true_and]
    omega
theorem edL_ins (e : Ed) (o : List Ed) (M : List Bs) : edL (e, o) (kL 3 M) = ((e.1, e.2.1, e.2.2.1, e.2.2.2 + M.length), o) := by
  induction M generalizing e with
  | nil => simp [kL, edL]
  | cons x M ih =>
    show edL (edS (e, o) (3, x)) (kL 3 M) = _
    rw [edS, if_neg (by show ¬ (3 : Int) = 2; decide), if_pos rfl, ih]
    simp only [List.length_cons, Prod.mk.injEq, and_true, true_and]
    omega
structure Good (a b : List Bs) (q : Int × Int) (e : Ed) : Prop where
  q0 : 0 ≤ q.1
  q0' : 0 ≤ q.2
  f : q.1 ≤ e.1
  t : q.2 ≤ e.2.2.1
  d : 0 ≤ e.2.1
  i : 0 ≤ e.2.2.2
  fd : e.1 + e.2.1 ≤ a.length
  ti : e.2.2.1 + e.2.2.2 ≤ b.length
  ne : 0 < e.2.1 ∨ 0 < e.2.2.2
  same : sl a q.1 e.1 = sl b q.2 e.2.2.1
  gap : e.1 - q.1 = e.2.2.1 - q.2
theorem good_of {l : List Ed} (h : right a b l = true) {i : Nat} (hi : i < l.length) : ∃ q, scS a b l i = some q ∧ Good a b q l[i] ∧ (i ≠ 0 → q.1 < l[i].1) ∧ scS a b l (i + 1) = some (l[i].1 + l[i].2.1, l[i].2.2.1 + l[i].2.2.2) := by
  obtain ⟨q, hq, ho, hn⟩ := right_ok h hi
  have hb := scS_bound hq
  simp only [scOk, Bool.and_eq_true, decide_eq_true_eq, Bool.not_eq_true', Bool.and_eq_false_iff, beq_eq_false_iff_ne, Bool.or_eq_true, beq_iff_eq] at ho
  obtain ⟨⟨⟨⟨⟨⟨⟨⟨⟨⟨h1, h2⟩, h3⟩, h4⟩, h5⟩, h6⟩, h7⟩, h8⟩, h9⟩, h10⟩, h11⟩ := ho
  have hl := congrArg List.length h11
  rw [sl_len a h5, sl_len b h7] at hl
  refine ⟨q, hq, ⟨hb.1, hb.2.2.1, h1, h2, h3, h4, by omega, by omega, ?_, h11, by omega⟩, fun h0 => ?_, hn⟩
  · rcases h9 with h9 | h9
    · exact .inl (by omega)
    · exact .inr (by omega)
  · rcases h10 with h10 | h10
    · exact absurd h10 h0
    · have : l[i].1 ≠ q.1 := h10
      omega
theorem sl_tail {i j : Int} {i' j' : Int} (h : sl a i j = sl b i' j') (hi : 0 ≤ i) (hi' : 0 ≤ i') (hij : i ≤ j) (hg : j - i = j' - i') {k : Int} (hk : i ≤ k) (hkj : k ≤ j) : sl a k j = sl b (k - i + i') j' := by
  have e1 : sl a k j = (sl a i j).drop (k.toNat - i.toNat) := by
    rw [sl, sl, List.drop_take, List.drop_drop]
    congr 1
    · omega
    · congr 1; omega
  have e2 : sl b (k - i + i') j' = (sl b i' j').drop (k.toNat - i.toNat) := by
    rw [sl, sl, List.drop_take, List.drop_drop]
    congr 1
    · omega
    · congr 1; omega
  rw [e1, e2, h]
theorem sl_head {i j : Int} {i' j' : Int} (h : sl a i j = sl b i' j') (hi : 0 ≤ i) (hi' : 0 ≤ i') (hij : i ≤ j) (hg : j - i = j' - i') {k : Int} (hk : i ≤ k) (hkj : k ≤ j) : sl a i k = sl b i' (k - i + i') := by
  have e1 : sl a i k = (sl a i j).take (k.toNat - i.toNat) := by
    rw [sl, sl, List.take_take]
    congr 1; omega
  have e2 : sl b i' (k - i + i') = (sl b i' j').take (k.toNat - i.toNat) := by
    rw [sl, sl, List.take_take]
    congr 1; omega
  rw [e1, e2, h]
variable {P P' : Nat} {L : List HL} {pk : Int} {ch : Bool}
theorem Half.run {i j i' j' : Int} (h : Half a b P P' i.toNat i'.toNat L pk ch) (ha : linesOk a) (hb : linesOk b) (hi : 0 ≤ i) (hi' : 0 ≤ i') (hij : i ≤ j) (hg : j - i = j' - i') (hj : j ≤ a.length) (hj' : j' ≤ b.length) (hs : sl a i j = sl b i' j') :
    Half a b P P' j.toNat j'.toNat (L ++ kL 1 (sl a i j)) (if i = j then pk else 1) ch := by
  have hs' : (a.drop i.toNat).take (j.toNat - i.toNat) = (b.drop i'.toNat).take (j.toNat - i.toNat) := by
    have : (b.drop i'.toNat).take (j'.toNat - i'.toNat) = (b.drop i'.toNat).take (j.toNat - i.toNat) := by congr 1; omega
    rw [← this]; exact hs
  have := h.ctx ha hb (j.toNat - i.toNat) (by omega) (by omega) hs'
  rw [show i.toNat + (j.toNat - i.toNat) = j.toNat by omega, show i'.toNat + (j.toNat - i.toNat) = j'.toNat by omega] at this
  by_cases he : i = j
  · rw [if_pos (by omega)] at this; rw [if_pos he]; exact this
  · rw [if_neg (by omega)] at this; rw [if_neg he]; exact this
theorem Half.edit {e : Ed} {i i' : Int} (h : Half a b P P' i.toNat i'.toNat L pk ch) (ha : linesOk a) (hb : linesOk b) (hi : 0 ≤ i) (hi' : 0 ≤ i') (hf : i ≤ e.1) (hg : e.1 - i = e.2.2.1 - i') (hs : sl a i e.1 = sl b i' e.2.2.1)
    (hd : 0 ≤ e.2.1) (hn : 0 ≤ e.2.2.2) (hfd : e.1 + e.2.1 ≤ a.length) (hti : e.2.2.1 + e.2.2.2 ≤ b.length) (hne : 0 < e.2.1 ∨ 0 < e.2.2.2) (hk : pk ≠ 3 ∨ i < e.1) :
    ∃ pk', Half a b P P' (e.1 + e.2.1).toNat (e.2.2.1 + e.2.2.2).toNat (L ++ edLines a b i e) pk' true := by
  have h1 := h.run ha hb hi hi' hf hg (by omega) (by omega) hs
  have hk1 : (if i = e.1 then pk else 1) ≠ 3 := by
    by_cases he : i = e.1
    · rw [if_pos he]; exact hk.resolve_right (by omega)
    · rw [if_neg he]; decide
  have h2 := h1.dels ha hk1 ((e.1 + e.2.1).toNat - e.1.toNat) (by omega)
  have h3 := h2.inss hb ((e.2.2.1 + e.2.2.2).toNat - e.2.2.1.toNat) (by omega)
  rw [show e.1.toNat + ((e.1 + e.2.1).toNat - e.1.toNat) = (e.1 + e.2.1).toNat by omega, show e.2.2.1.toNat + ((e.2.2.1 + e.2.2.2).toNat - e.2.2.1.toNat) = (e.2.2.1 + e.2.2.2).toNat by omega] at h3
  have e4 : L ++ edLines a b i e = L ++ kL 1 (sl a i e.1) ++ kL 2 ((a.drop e.1.toNat).take ((e.1 + e.2.1).toNat - e.1.toNat)) ++ kL 3 ((b.drop e.2.2.1.toNat).take ((e.2.2.1 + e.2.2.2).toNat - e.2.2.1.toNat)) := by
    simp only [edLines, sl, List.append_assoc]
  rw [e4]
  by_cases hz : (e.2.2.1 + e.2.2.2).toNat - e.2.2.1.toNat = 0
  · rw [if_pos hz, if_pos hz] at h3
    have : ¬ (e.1 + e.2.1).toNat - e.1.toNat = 0 := by omega
    rw [if_neg this, if_neg this] at h3
    exact ⟨_, h3⟩
  · rw [if_neg hz, if_neg hz] at h3; exact ⟨_, h3⟩
end Go.Hk
namespace Go.Hk
open Go.Ln (Bs)
set_option linter.unusedVariables false
variable {a b : List Bs}
inductive Chain (a b : List Bs) : List Hk → Nat → Nat → Prop where
  | nil : Chain a b [] 0 0
  | snoc {l : List Hk} {H : Hk} {p p' q q' P P' : Nat} {pk : Int} : Chain a b l p p' → H.1 = P → H.2.1 = P' → p ≤ P → (l ≠ [] → p < P) → (P : Int) - p = P' - p' → sl a p P = sl b p' P' → Half a b P P' q q' H.2.2 pk true → Chain a b (l ++ [H]) q q'
theorem flush_some {e : Ed} (h : 0 < e.2.1 ∨ 0 < e.2.2.2) (o : List Ed) : flushE e o = o ++ [e] := by rw [flushE, if_pos h]
theorem flush_zero (f t : Int) (o : List Ed) : flushE (f, 0, t, 0) o = o := by
  rw [flushE, if_neg]; show ¬ ((0 : Int) < 0 ∨ (0 : Int) < 0); decide
theorem ed_lines {e0 : Ed} {e : Ed} {o o' : List Ed} {i i' : Int} (hi : 0 ≤ i) (hi' : 0 ≤ i') (hf : i ≤ e.1) (hg : e.1 - i = e.2.2.1 - i') (hd : 0 ≤ e.2.1) (hn : 0 ≤ e.2.2.2) (hfd : e.1 + e.2.1 ≤ a.length) (hti : e.2.2.1 + e.2.2.2 ≤ b.length)
    (h0 : (i < e.1 ∧ e0.1 + e0.2.1 = i ∧ e0.2.2.1 + e0.2.2.2 = i' ∧ flushE e0 o = o') ∨ (e0 = (i, 0, i', 0) ∧ o = o')) : edL (e0, o) (edLines a b i e) = (e, o') := by
  obtain ⟨F, D, T, I⟩ := e
  dsimp only at hf hg hd hn hfd hti h0
  have l1 : ((sl a i F).length : Int) = F - i := by rw [sl_len a (by omega)]; omega
  have l2 : ((sl a F (F + D)).length : Int) = D := by rw [sl_len a (by omega)]; omega
  have l3 : ((sl b T (T + I)).length : Int) = I := by rw [sl_len b (by omega)]; omega
  rw [edLines, edL_app, edL_app, edL_ctx]
  have key : (if sl a i F = [] then (e0, o) else ((e0.1 + e0.2.1 + ((sl a i F).length : Int), 0, e0.2.2.1 + e0.2.2.2 + ((sl a i F).length : Int), 0), flushE e0 o)) = ((F, 0, T, 0), o') := by
    rcases h0 with ⟨h1, h2, h3, h4⟩ | ⟨rfl, rfl⟩
    · rw [if_neg (by intro h; rw [h] at l1; simp at l1; omega), l1, h4]
      simp only [Prod.mk.injEq, and_true, true_and]
      constructor <;> omega
    · by_cases h : sl a i F = []
      · rw [if_pos h]
        rw [h] at l1
        simp only [List.length_nil] at l1
        simp only [Prod.mk.injEq, and_true, true_and]
        constructor <;> omega
      · rw [if_neg h, l1, flush_zero]
        simp only [Prod.mk.injEq, and_true, true_and]
        constructor <;> omega
  rw [key, edL_del, edL_ins]
  dsimp only
  rw [l2, l3]
  simp only [Prod.mk.injEq, and_true, true_and]
  constructor <;> omega
structure OfInv (a b : List Bs) (g : List Ed) (e : Ed) (q : OfT) : Prop where
  ch : ∃ p p' P P' pk, Chain a b q.1 p p' ∧ q.2.1.1 = ((P : Nat) : Int) ∧ q.2.1.2.1 = ((P' : Nat) : Int) ∧ p ≤ P ∧ (q.1 ≠ [] → p < P) ∧ (P : Int) - p = P' - p' ∧ sl a p P = sl b p' P' ∧
    Half a b P P' (e.1 + e.2.1).toNat (e.2.2.1 + e.2.2.2).toNat q.2.1.2.2 pk true
  en : q.2.2 = e.1 + e.2.1
  ed : edL ((q.2.1.1, 0, q.2.1.2.1, 0), edsF q.1) q.2.1.2.2 = (e, g)
theorem edsF_snoc (l : List Hk) (H : Hk) : edsF (l ++ [H]) = edH (edsF l) H := by simp [edsF]
theorem OfInv.close {g : List Ed} {e : Ed} {q : OfT} {n : Int} (h : OfInv a b g e q) (ha : linesOk a) (hb : linesOk b) (hf : 0 ≤ e.1) (ht : 0 ≤ e.2.2.1) (hd : 0 ≤ e.2.1) (hi : 0 ≤ e.2.2.2) (hne : 0 < e.2.1 ∨ 0 < e.2.2.2) {j j' : Int} (hj : e.1 + e.2.1 ≤ j) (hg : j - (e.1 + e.2.1) = j' - (e.2.2.1 + e.2.2.2))
    (hja : j ≤ a.length) (hjb : j' ≤ b.length) (hs : sl a (e.1 + e.2.1) j = sl b (e.2.2.1 + e.2.2.2) j') (hm : min (q.2.2 + n) a.length = j) :
    Chain a b (q.1 ++ [closeP a n q.2.1 q.2.2]) j.toNat j'.toNat ∧ edsF (q.1 ++ [closeP a n q.2.1 q.2.2]) = g ++ [e] := by
  obtain ⟨p, p', P, P', pk, h1, h2, h3, h4, h5, h6, h7, h8⟩ := h.ch
  have hr := h8.run ha hb (by omega) (by omega) hj hg hja hjb hs
  constructor
  · refine Chain.snoc (H := closeP a n q.2.1 q.2.2) h1 h2 h3 h4 h5 h6 h7 (pk := if e.1 + e.2.1 = j then pk else 1) ?_
    show Half a b P P' j.toNat j'.toNat (q.2.1.2.2 ++ kL 1 (sl a q.2.2 (min (q.2.2 + n) a.length))) _ true
    rw [hm, h.en]; exact hr
  · rw [edsF_snoc, edH]
    show (let q' := edL ((q.2.1.1, 0, q.2.1.2.1, 0), edsF q.1) (q.2.1.2.2 ++ kL 1 (sl a q.2.2 (min (q.2.2 + n) a.length))); flushE q'.1 q'.2) = _
    rw [edL_app, h.ed, edL_ctx]
    split
    · exact flush_some hne g
    · show flushE (_, 0, _, 0) (flushE e g) = _
      rw [flush_zero, flush_some hne]
theorem OfInv.first {e : Ed} {n : Int} (hn : 0 ≤ n) (hg : Good a b (0, 0) e) (ha : linesOk a) (hb : linesOk b) : OfInv a b [] e ([], startP a b n e, e.1 + e.2.1) := by
  have g1 := hg.gap; have g2 := hg.f; have g3 := hg.t; have g4 := hg.d; have g5 := hg.i; have g6 := hg.fd; have g7 := hg.ti; have g8 := hg.ne; have g9 := hg.same
  dsimp only at g1 g2 g3 g9
  have hk : 0 ≤ min n e.1 := by omega
  have t1 := sl_tail (a := a) (b := b) (k := e.1 - min n e.1) g9 (by omega) (by omega) g2 g1 (by omega) (by omega)
  have t2 := sl_head (a := a) (b := b) (k := e.1 - min n e.1) g9 (by omega) (by omega) g2 g1 (by omega) (by omega)
  have e1 : e.1 - min n e.1 - 0 + 0 = e.2.2.1 - min n e.1 := by omega
  rw [e1] at t1 t2
  obtain ⟨pk, hh⟩ := (Half.nil a b (P := (e.1 - min n e.1).toNat) (P' := (e.2.2.1 - min n e.1).toNat) (by omega) (by omega)).edit (e := e) ha hb (by omega) (by omega) (by omega) (by omega) t1 g4 g5 g6 g7 g8 (.inl (by decide))
  refine ⟨⟨0, 0, (e.1 - min n e.1).toNat, (e.2.2.1 - min n e.1).toNat, pk, .nil, ?_, ?_, by omega, fun h => absurd rfl h, by omega, ?_, hh⟩, rfl, ?_⟩
  · show e.1 - min n e.1 = _; omega
  · show e.2.2.1 - min n e.1 = _; omega
  · rw [show (((e.1 - min n e.1).toNat : Nat) : Int) = e.1 - min n e.1 by omega, show (((e.2.2.1 - min n e.1).toNat : Nat) : Int) = e.2.2.1 - min n e.1 by omega]; exact t2
  · exact ed_lines (i := e.1 - min n e.1) (i' := e.2.2.1 - min n e.1) (by omega) (by omega) (by omega) (by omega) g4 g5 g6 g7 (.inr ⟨rfl, rfl⟩)
theorem OfInv.step {g : List Ed} {e0 e : Ed} {q : OfT} {n : Int} (hn : 0 ≤ n) (h : OfInv a b g e0 q) (hp : 0 ≤ e0.1 ∧ 0 ≤ e0.2.2.1 ∧ 0 ≤ e0.2.1 ∧ 0 ≤ e0.2.2.2 ∧ (0 < e0.2.1 ∨ 0 < e0.2.2.2)) (hg : Good a b (e0.1 + e0.2.1, e0.2.2.1 + e0.2.2.2) e) (hlt : e0.1 + e0.2.1 < e.1) (ha : linesOk a) (hb : linesOk b) :
    OfInv a b (g ++ [e0]) e (ofStep a b n q e) := by
  obtain ⟨p0, p1, p2, p3, p4⟩ := hp
  have g1 := hg.gap; have g2 := hg.f; have g3 := hg.t; have g4 := hg.d; have g5 := hg.i; have g6 := hg.fd; have g7 := hg.ti; have g8 := hg.ne; have g9 := hg.same
  dsimp only at g1 g2 g3 g9
  rw [ofStep]
  by_cases hc : e.1 - q.2.2 ≤ 2 * n
  · rw [if_pos hc]
    obtain ⟨p, p', P, P', pk, h1, h2, h3, h4, h5, h6, h7, h8⟩ := h.ch
    obtain ⟨pk', hh⟩ := h8.edit (e := e) ha hb (by omega) (by omega) g2 g1 g9 g4 g5 g6 g7 g8 (.inr hlt)
    refine ⟨⟨p, p', P, P', pk', h1, h2, h3, h4, h5, h6, h7, ?_⟩, rfl, ?_⟩
    · show Half a b P P' _ _ (q.2.1.2.2 ++ edLines a b q.2.2 e) pk' true
      rw [h.en]; exact hh
    · show edL ((q.2.1.1, 0, q.2.1.2.1, 0), edsF q.1) (q.2.1.2.2 ++ edLines a b q.2.2 e) = _
      rw [edL_app, h.ed, h.en]
      exact ed_lines (by omega) (by omega) g2 g1 g4 g5 g6 g7 (.inl ⟨hlt, rfl, rfl, flush_some p4 g⟩)
  · rw [if_neg hc]
    rw [h.en] at hc
    have hmin : min n e.1 = n := by omega
    have c1 := sl_head (a := a) (b := b) (k := e0.1 + e0.2.1 + n) g9 (by omega) (by omega) g2 g1 (by omega) (by omega)
    have hcl := h.close (n := n) ha hb p0 p1 p2 p3 p4 (j := e0.1 + e0.2.1 + n) (j' := e0.2.2.1 + e0.2.2.2 + n) (by omega) (by omega) (by omega) (by omega) (by rw [c1]; congr 1; omega) (by rw [h.en]; omega)
    have t1 := sl_tail (a := a) (b := b) (k := e.1 - n) g9 (by omega) (by omega) g2 g1 (by omega) (by omega)
    have t2 := sl_tail (a := a) (b := b) (k := e0.1 + e0.2.1 + n) g9 (by omega) (by omega) g2 g1 (by omega) (by omega)
    have t3 := sl_head (a := a) (b := b) (k := e.1 - n) t2 (by omega) (by omega) (by omega) (by omega) (by omega) (by omega)
    obtain ⟨pk, hh⟩ := (Half.nil a b (P := (e.1 - n).toNat) (P' := (e.2.2.1 - n).toNat) (by omega) (by omega)).edit (e := e) (i := e.1 - n) (i' := e.2.2.1 - n) ha hb (by omega) (by omega) (by omega) (by omega) (by rw [t1]; congr 1; omega) g4 g5 g6 g7 g8 (.inl (by decide))
    refine ⟨⟨_, _, (e.1 - n).toNat, (e.2.2.1 - n).toNat, pk, hcl.1, ?_, ?_, by omega, fun _ => by omega, by omega, ?_, ?_⟩, rfl, ?_⟩
    · show e.1 - min n e.1 = _; omega
    · show e.2.2.1 - min n e.1 = _; omega
    · rw [show (((e.1 - n).toNat : Nat) : Int) = e.1 - n by omega, show (((e.2.2.1 - n).toNat : Nat) : Int) = e.2.2.1 - n by omega, show (((e0.1 + e0.2.1 + n).toNat : Nat) : Int) = e0.1 + e0.2.1 + n by omega, show (((e0.2.2.1 + e0.2.2.2 + n).toNat : Nat) : Int) = e0.2.2.1 + e0.2.2.2 + n by omega, t3]
      congr 1 <;> omega
    · show Half a b _ _ _ _ (edLines a b (e.1 - min n e.1) e) pk true
      rw [hmin]; exact hh
    · show edL ((e.1 - min n e.1, 0, e.2.2.1 - min n e.1, 0), edsF (q.1 ++ [closeP a n q.2.1 q.2.2])) (edLines a b (e.1 - min n e.1) e) = _
      rw [hcl.2, hmin]
      exact ed_lines (by omega) (by omega) (by omega) (by omega) g4 g5 g6 g7 (.inr ⟨rfl, rfl⟩)
theorem ofI_inv {l : List Ed} {n : Int} (hn : 0 ≤ n) (h : right a b l = true) (ha : linesOk a) (hb : linesOk b) : ∀ i (hi : i < l.length), ∃ q, ofI a b n (l.take (i + 1)) = some q ∧ OfInv a b (l.take i) l[i] q := by
  intro i
  induction i with
  | zero =>
    intro hi
    obtain ⟨q, hq, hg, _, _⟩ := good_of h hi
    cases hq
    cases l with
    | nil => exact absurd hi (by simp)
    | cons e t => exact ⟨_, rfl, OfInv.first hn hg ha hb⟩
  | succ i ih =>
    intro hi
    obtain ⟨q, hq, hi'⟩ := ih (by omega)
    obtain ⟨s0, hs0, hg0, _, hs1⟩ := good_of h (show i < l.length by omega)
    obtain ⟨s1, hs1', hg1, hlt, _⟩ := good_of h hi
    rw [hs1] at hs1'
    cases hs1'
    have ht : l.take (i + 1 + 1) = l.take (i + 1) ++ [l[i + 1]] := by rw [List.take_add_one, List.getElem?_eq_getElem hi]; rfl
    have ht' : l.take (i + 1) = l.take i ++ [l[i]] := by rw [List.take_add_one, List.getElem?_eq_getElem (by omega)]; rfl
    have z1 := hg0.q0; have z2 := hg0.q0'; have z3 := hg0.f; have z4 := hg0.t
    refine ⟨_, by rw [ht]; exact ofI_snoc a b n _ hq, ?_⟩
    rw [ht']
    exact hi'.step hn ⟨by omega, by omega, hg0.d, hg0.i, hg0.ne⟩ hg1 (hlt (by omega)) ha hb
theorem chain_of {l : List Ed} {n : Int} (hn : 0 ≤ n) (h : right a b l = true) (hl : l ≠ []) (ha : linesOk a) (hb : linesOk b) : ∃ q q', Chain a b (ofW a b n l) q q' ∧ q ≤ a.length ∧ q' ≤ b.length ∧ a.drop q = b.drop q' ∧ edsF (ofW a b n l) = l := by
  have h0 : 0 < l.length := List.length_pos_iff.2 hl
  obtain ⟨q, hq, hi⟩ := ofI_inv hn h ha hb (l.length - 1) (by omega)
  rw [show l.length - 1 + 1 = l.length by omega, List.take_length] at hq
  obtain ⟨s0, hs0, hg0, _, hs1⟩ := good_of h (show l.length - 1 < l.length by omega)
  rw [show l.length - 1 + 1 = l.length by omega] at hs1
  have hr := h
  rw [right, hs1] at hr
  have hr : a.drop (l[l.length - 1].1 + l[l.length - 1].2.1).toNat = b.drop (l[l.length - 1].2.2.1 + l[l.length - 1].2.2.2).toNat := of_decide_eq_true hr
  have hlast : l.take (l.length - 1) ++ [l[l.length - 1]] = l := by
    have := List.take_add_one (l := l) (i := l.length - 1)
    rw [List.getElem?_eq_getElem (by omega), show l.length - 1 + 1 = l.length by omega, List.take_length] at this
    exact this.symm
  have z1 := hg0.q0; have z2 := hg0.q0'; have z3 := hg0.f; have z4 := hg0.t; have z5 := hg0.d; have z6 := hg0.i; have z7 := hg0.fd; have z8 := hg0.ti; have z9 := hg0.ne
  generalize l[l.length - 1] = e at hi hr hlast z3 z4 z5 z6 z7 z8 z9
  have hlen := congrArg List.length hr
  rw [List.length_drop, List.length_drop] at hlen
  have hen := hi.en
  have hs : sl a (e.1 + e.2.1) (min (e.1 + e.2.1 + n) a.length) = sl b (e.2.2.1 + e.2.2.2) (min (e.1 + e.2.1 + n) a.length - (e.1 + e.2.1) + (e.2.2.1 + e.2.2.2)) := by
    rw [sl, sl, hr]; congr 1; omega
  have hcl := hi.close (n := n) ha hb (by omega) (by omega) z5 z6 z9 (j := min (e.1 + e.2.1 + n) a.length) (j' := min (e.1 + e.2.1 + n) a.length - (e.1 + e.2.1) + (e.2.2.1 + e.2.2.2)) (by omega) (by omega) (by omega) (by omega) hs (by rw [hen])
  have hw : ofW a b n l = q.1 ++ [closeP a n q.2.1 q.2.2] := by rw [ofW, hq]
  rw [hw]
  refine ⟨_, _, hcl.1, by omega, by omega, ?_, by rw [hcl.2, hlast]⟩
  have d1 : a.drop (min (e.1 + e.2.1 + n) a.length).toNat = (a.drop (e.1 + e.2.1).toNat).drop ((min (e.1 + e.2.1 + n) a.length).toNat - (e.1 + e.2.1).toNat) := by
    rw [List.drop_drop]; congr 1; omega
  have d2 : b.drop (min (e.1 + e.2.1 + n) a.length - (e.1 + e.2.1) + (e.2.2.1 + e.2.2.2)).toNat = (b.drop (e.2.2.1 + e.2.2.2).toNat).drop ((min (e.1 + e.2.1 + n) a.length).toNat - (e.1 + e.2.1).toNat) := by
    rw [List.drop_drop]; congr 1; omega
  rw [d1, d2, hr]
end Go.Hk
namespace Go.Hk
open Go.Ln (Bs)
set_option linter.unusedVariables false
set_option linter.unusedSimpArgs false
variable {a b : List Bs}
inductive Chain0 (a b : List Bs) : List Hk → Nat → Nat → Prop where
  | nil : Chain0 a b [] 0 0
  | snoc {l : List Hk} {H : Hk} {p p' q q' P P' : Nat} {pk : Int} : Chain0 a b l p p' → H.1 = P → H.2.1 = P' → p ≤ P → (l ≠ [] → p < P) → (P : Int) - p = P' - p' → sl a p P = sl b p' P' → Half0 a b P P' q q' H.2.2 pk true → Chain0 a b (l ++ [H]) q q'
theorem Chain.zero {l : List Hk} {q q' : Nat} (h : Chain a b l q q') : Chain0 a b l q q' := by
  induction h with
  | nil => exact .nil
  | snoc _ h1 h2 h3 h4 h5 h6 h7 ih => exact .snoc ih h1 h2 h3 h4 h5 h6 h7.fwd
def invH (h : Hk) : Hk := (h.2.1, h.1, invL h.2.2)
theorem Chain.back (ha : linesOk a) {l : List Hk} {q q' : Nat} (h : Chain a b l q q') : Chain0 b a (l.map invH) q' q := by
  induction h with
  | nil => exact .nil
  | @snoc l H p p' q q' P P' pk _ h1 h2 h3 h4 h5 h6 h7 ih =>
    rw [List.map_append]
    obtain ⟨X, k, pk2, ch2, e1, e2, e3, e4, e5⟩ := h7.bwd
    have hq := h7.fwd.lt
    have hx := e3.inss ha k (by omega)
    rw [show q - k + k = q by omega] at hx
    have hc : (if k = 0 then ch2 else true) = true := by
      rcases e5 rfl with h | h
      · rw [h]; split <;> rfl
      · rw [if_neg (by omega)]
    rw [hc] at hx
    have hL : invL H.2.2 = X ++ kL 3 ((a.drop (q - k)).take k) := by rw [invL, e1]
    refine .snoc (H := invH H) (P := P') (P' := P) (pk := if k = 0 then pk2 else 3) ih h2 h1 (by omega) (fun hn => ?_) (by omega) h6.symm (by show Half0 b a P' P q' q (invL H.2.2) _ true; rw [hL]; exact hx)
    have := h4 (by intro h; rw [h] at hn; exact hn rfl)
    omega
theorem chain0_nil {p p' : Nat} (hc : Chain0 a b [] p p') : p = 0 ∧ p' = 0 := by
  generalize hx : ([] : List Hk) = x at hc
  cases hc with
  | nil => exact ⟨rfl, rfl⟩
  | snoc => exact absurd hx.symm (by simp)
theorem get_mid {α : Type} (l : List α) (x : α) (t : List α) : (l ++ [x] ++ t)[l.length]? = some x := by
  rw [List.append_assoc, List.getElem?_append_right (Nat.le_refl _)]; simp
theorem chain_valS {l : List Hk} {q q' : Nat} (h : Chain0 a b l q q') (h1 : a.length ≤ 4096) (h2 : b.length ≤ 4096) : ∀ t : List Hk, (t ≠ [] → l ≠ [] → q < a.length ∧ q' < b.length) →
    valS (l ++ t) l.length = some (if l = [] then (-1, 0) else ((q : Int), (q' : Int) - q)) := by
  induction h with
  | nil => intro t _; rfl
  | @snoc l H p p' q q' P P' pk hc e1 e2 e3 e4 e5 e6 e7 ih =>
    intro t ht
    have hP := e7.le; have hP' := e7.le'; have hq := e7.lt; have hq' := e7.lt'
    have hpre := ih (H :: t) (fun _ hl => by have := e4 hl; omega)
    rw [show l ++ H :: t = l ++ [H] ++ t by simp] at hpre
    have hlt : l.length < (l ++ [H] ++ t).length := by simp only [List.length_append, List.length_cons, List.length_nil]; omega
    have hg : (l ++ [H] ++ t)[l.length] = H := by
      have := get_mid l H t
      rw [List.getElem?_eq_getElem hlt] at this
      exact Option.some.inj this
    obtain ⟨Q, hQ, hQ1, hQ2⟩ : ∃ Q, valS (l ++ [H] ++ t) l.length = some Q ∧ Q.1 < P ∧ Q.2 = (p' : Int) - p := by
      refine ⟨_, hpre, ?_, ?_⟩
      · by_cases hl : l = []
        · rw [if_pos hl]; dsimp only; omega
        · rw [if_neg hl]; have := e4 hl; dsimp only; omega
      · by_cases hl : l = []
        · subst hl
          obtain ⟨rfl, rfl⟩ := chain0_nil hc
          rw [if_pos rfl]; dsimp only; omega
        · rw [if_neg hl]
    rw [show (l ++ [H]).length = l.length + 1 by simp, valS_step _ hlt hQ, hg]
    have z1 := e7.cO; have z2 := e7.cN
    have hok : okH H (l.length + 1 == (l ++ [H] ++ t).length) Q.1 Q.2 = true := by
      obtain ⟨o, c, i1, i2, i3⟩ := e7.ins
      have hin : insideB H.2.2 (l.length + 1 == (l ++ [H] ++ t).length) = true := by
        rw [insideB, i1]
        by_cases hte : t = []
        · subst hte
          have : (l.length + 1 == (l ++ [H] ++ []).length) = true := by simp
          rw [this]; rfl
        · have hr := ht hte (by simp)
          have o1 : o = false := by cases o with | false => rfl | true => have := i2 rfl; omega
          have o2 : c = false := by cases c with | false => rfl | true => have := i3 rfl; omega
          rw [o1, o2]; simp
      simp only [okH, hin, Bool.and_eq_true, decide_eq_true_eq, beq_iff_eq, e1, e2]
      exact ⟨⟨⟨⟨⟨by omega, by omega⟩, by omega⟩, trivial⟩, by omega⟩, by omega⟩
    rw [if_pos hok, if_neg (by simp)]
    congr 1
    rw [e1]
    simp only [Prod.mk.injEq]
    constructor <;> omega
theorem chain_valid {l : List Hk} {q q' : Nat} (h : Chain0 a b l q q') (h1 : a.length ≤ 4096) (h2 : b.length ≤ 4096) : valid l = true := by
  have := chain_valS h h1 h2 [] (fun h => absurd rfl h)
  rw [List.append_nil] at this
  rw [valid, this]; rfl
theorem sl_nat (a : List Bs) (p q : Nat) : sl a p q = (a.drop p).take (q - p) := by rw [sl]; simp
theorem sl_glue (a : List Bs) {p q r : Nat} (h : p ≤ q) (h' : q ≤ r) : sl a p q ++ sl a q r = sl a p r := by
  rw [sl_nat, sl_nat, sl_nat, show r - p = (q - p) + (r - q) by omega, List.take_add, List.drop_drop, show p + (q - p) = q by omega]
theorem sl_front (a : List Bs) (q : Nat) : sl a 0 q = a.take q := by
  rw [show (0 : Int) = ((0 : Nat) : Int) from rfl, sl_nat]; simp
theorem chain_ap {A : List Bs} {s : Nat} (hA : A.drop s = a) (hAl : s ≤ A.length) {l : List Hk} {q q' : Nat} (h : Chain0 a b l q q') : ∀ t : List Hk,
    (∀ H, H ∈ l → ∀ P : Nat, H.1 = P → ∀ (e : Nat) (w : Int), e ≤ P + s → (w = P + s ∨ (w = P ∧ e = 0)) → nearF A (sideL H.2.2 3) e w = some (P + s)) →
    apF A (l ++ t) l.length = some (if l = [] then ([], [], 0, 0) else (A.take s ++ b.take q', List.replicate l.length (s : Int), q + s, (s : Int))) := by
  induction h with
  | nil => intro t _; rfl
  | @snoc l H p p' q q' P P' pk hc e1 e2 e3 e4 e5 e6 e7 ih =>
    intro t hn
    have hP := e7.le; have hP' := e7.le'; have hq := e7.lt; have hq' := e7.lt'
    have hpre := ih (H :: t) (fun H' hm => hn H' (by simp [hm]))
    rw [show l ++ H :: t = l ++ [H] ++ t by simp] at hpre
    have hz1 := e7.cO
    have hlen : (sideL H.2.2 3).length = q - P := by
      rw [e7.old, List.length_take, List.length_drop]; omega
    have hAlen : A.length = s + a.length := by rw [← hA, List.length_drop]; omega
    have hold : ∀ i j : Nat, i ≤ j → j ≤ a.length → (A.drop (i + s)).take (j - i) = sl a i j := fun i j h1 h2 => by
      rw [sl_nat, ← hA, List.drop_drop, Nat.add_comm s i]
    rw [show (l ++ [H]).length = l.length + 1 by simp, apF, hpre, get_mid]
    dsimp only
    rw [if_neg (show ¬ (l ++ [H] = []) by simp)]
    by_cases hl : l = []
    · subst hl
      obtain ⟨rfl, rfl⟩ := chain0_nil hc
      rw [if_pos rfl, apS]
      dsimp only
      rw [hn H (by simp) P e1 0 _ (by omega) (.inr ⟨by rw [e1]; omega, rfl⟩)]
      dsimp only
      rw [hlen, e7.new]
      have f1 : (A.drop 0).take (P + s - 0) = A.take s ++ sl a 0 P := by
        rw [List.drop_zero, Nat.sub_zero, Nat.add_comm P s, List.take_add, hA, sl_front]
      have f2 : sl a 0 P ++ (b.drop P').take (q' - P') = b.take q' := by
        have := sl_glue b (p := 0) (q := P') (r := q') (by omega) hP'
        have e6' : sl a 0 P = sl b 0 P' := e6
        rw [e6', ← sl_nat]
        rw [← sl_front b q']; exact this
      rw [f1, List.nil_append, List.append_assoc, f2, e1]
      congr 1
      simp only [Prod.mk.injEq, List.nil_append, true_and, List.length_nil, List.replicate_succ, List.replicate_zero, List.cons.injEq, and_true]
      refine ⟨by omega, by omega, by omega⟩
    · have hlt := e4 hl
      rw [if_neg hl, apS]
      dsimp only
      rw [hn H (by simp) P e1 (p + s) _ (by omega) (.inl (by rw [e1])), hlen, e7.new]
      dsimp only
      have f1 : (A.drop (p + s)).take (P + s - (p + s)) = sl a p P := by
        rw [show P + s - (p + s) = P - p by omega]; exact hold p P (by omega) (by omega)
      have f2 : b.take p' ++ (sl a p P ++ (b.drop P').take (q' - P')) = b.take q' := by
        rw [e6, ← sl_nat, ← sl_front b p', ← sl_front b q']
        have g1 := sl_glue b (p := p') (q := P') (r := q') (by omega) hP'
        have g2 := sl_glue b (p := 0) (q := p') (r := q') (by omega) (by omega)
        rw [g1]; exact g2
      rw [f1, e1]
      congr 1
      simp only [Prod.mk.injEq]
      refine ⟨?_, ?_, by omega, by omega⟩
      · rw [List.append_assoc, List.append_assoc, f2]
      · rw [List.replicate_succ']; congr 2; omega
theorem stands_old {P q : Nat} {L : List HL} (h1 : P ≤ q) (h2 : q ≤ a.length) (h : sideL L 3 = (a.drop P).take (q - P)) : standsA a (sideL L 3) P = true := by
  rw [standsA, h]
  have : ((a.drop P).take (q - P)).length = q - P := by rw [List.length_take, List.length_drop]; omega
  simp only [Bool.and_eq_true, decide_eq_true_eq, this]
  exact ⟨by omega, trivial⟩
theorem chain_mem {l : List Hk} {q q' : Nat} (h : Chain0 a b l q q') {H : Hk} (hm : H ∈ l) : ∃ P P' r r' pk, H.1 = ((P : Nat) : Int) ∧ H.2.1 = ((P' : Nat) : Int) ∧ Half0 a b P P' r r' H.2.2 pk true := by
  induction h with
  | nil => cases hm
  | @snoc l H' p p' q q' P P' pk _ e1 e2 _ _ _ _ e7 ih =>
    rcases List.mem_append.1 hm with hm | hm
    · exact ih hm
    · rw [List.mem_singleton.1 hm]; exact ⟨P, P', q, q', pk, e1, e2, e7⟩
end Go.Hk
namespace Go.Hk
open Go.Ln (Bs)
set_option linter.unusedVariables false
set_option linter.unusedSimpArgs false
variable {a b : List Bs}
theorem chain_elsewhere {more : List Bs} {l : List Hk} {q q' : Nat} (h : Chain0 a b l q q') (hd : a.drop q = b.drop q') (hu : ∀ i j, i < j → j < a.length → a[i]? ≠ a[j]?) (hm : ∀ x, x ∈ more → x ∉ a)
    (hh : ∀ H, H ∈ l → sideL H.2.2 3 ≠ []) : ∃ Q, apF (more ++ a) l l.length = some Q ∧ Q.2.1 = List.replicate l.length (more.length : Int) ∧ Q.1 ++ (more ++ a).drop Q.2.2.1 = more ++ b := by
  have hn : ∀ H, H ∈ l → ∀ P : Nat, H.1 = P → ∀ (e : Nat) (w : Int), e ≤ P + more.length → (w = P + more.length ∨ (w = P ∧ e = 0)) → nearF (more ++ a) (sideL H.2.2 3) e w = some (P + more.length) := by
    intro H hmem P hP e w he _
    obtain ⟨P1, P1', r, r', pk, h1, h2, h3⟩ := chain_mem h hmem
    obtain rfl : P1 = P := by omega
    have hne := hh H hmem
    have hle := h3.le; have hlt := h3.lt
    have hlen : (sideL H.2.2 3).length = r - P1 := by rw [h3.old, List.length_take, List.length_drop]; omega
    have hpos : 0 < r - P1 := by
      have := List.length_pos_iff.2 hne; omega
    have hst : standsA (more ++ a) (sideL H.2.2 3) (P1 + more.length) = true := by
      have := stands_old h3.le h3.lt h3.old
      simp only [standsA, Bool.and_eq_true, decide_eq_true_eq, List.length_append] at this ⊢
      refine ⟨by omega, ?_⟩
      rw [show P1 + more.length = more.length + P1 by omega, ← List.drop_drop, List.drop_left]
      exact this.2
    have uniq : ∀ p, standsA (more ++ a) (sideL H.2.2 3) p = true → p = P1 + more.length := by
      intro p hs
      simp only [standsA, Bool.and_eq_true, decide_eq_true_eq, List.length_append, hlen] at hs
      obtain ⟨hs1, hs2⟩ := hs
      have h0 : (sideL H.2.2 3)[0]? = a[P1]? := by
        rw [h3.old, List.getElem?_take, if_pos hpos, List.getElem?_drop]; rfl
      have h0' : (sideL H.2.2 3)[0]? = (more ++ a)[p]? := by
        rw [← hs2, List.getElem?_take, if_pos hpos, List.getElem?_drop]; rfl
      have e0 : (more ++ a)[p]? = a[P1]? := h0'.symm.trans h0
      by_cases hp : p < more.length
      · rw [List.getElem?_append_left hp, List.getElem?_eq_getElem hp, List.getElem?_eq_getElem (by omega)] at e0
        have := hm more[p] (List.getElem_mem hp)
        rw [Option.some.inj e0] at this
        exact absurd (List.getElem_mem _) this
      · rw [List.getElem?_append_right (by omega)] at e0
        rcases Nat.lt_trichotomy (p - more.length) P1 with h | h | h
        · exact absurd e0 (hu _ _ h (by omega))
        · omega
        · exact absurd e0.symm (hu _ _ h (by omega))
    refine near_at he hst fun p _ hs => ?_
    rw [uniq p hs]; exact .inr ⟨rfl, Nat.le_refl _⟩
  have hap := chain_ap (A := more ++ a) (s := more.length) (by simp) (by simp) h [] hn
  rw [List.append_nil] at hap
  refine ⟨_, hap, ?_, ?_⟩
  · by_cases hl : l = []
    · rw [if_pos hl, hl]; rfl
    · rw [if_neg hl]
  · by_cases hl : l = []
    · rw [if_pos hl]
      subst hl
      obtain ⟨rfl, rfl⟩ := chain0_nil h
      have : a = b := by simpa using hd
      rw [this]; rfl
    · rw [if_neg hl]
      dsimp only
      rw [List.take_left, Nat.add_comm q, ← List.drop_drop, List.drop_left, hd, List.append_assoc, List.take_append_drop]
end Go.Hk
namespace Go.Hk
open Go.Ln (Bs)
set_option linter.unusedVariables false
set_option linter.unusedSimpArgs false
variable {a b : List Bs}
def addE (l : List Ed) (e : Ed) : List Ed := match l.getLast? with
  | some x => if x.1 + x.2.1 = e.1 ∧ x.2.2.1 + x.2.2.2 = e.2.2.1 then l.dropLast ++ [(x.1, x.2.1 + e.2.1, x.2.2.1, x.2.2.2 + e.2.2.2)] else l ++ [e]
  | none => l ++ [e]
theorem scS_app (a b : List Bs) (l t : List Ed) : ∀ i, i ≤ l.length → scS a b (l ++ t) i = scS a b l i := by
  intro i
  induction i with
  | zero => intro _; rfl
  | succ i ih =>
    intro hi
    rw [scS, scS, ih (by omega), List.getElem?_append_left (by omega)]
theorem scS_last (a b : List Bs) (l : List Ed) (e : Ed) {q : Int × Int} (h : scS a b l l.length = some q) : scS a b (l ++ [e]) (l ++ [e]).length = if scOk a b (l.length == 0) q e then some (e.1 + e.2.1, e.2.2.1 + e.2.2.2) else none := by
  have hl : l.length < (l ++ [e]).length := by simp
  have h' : scS a b (l ++ [e]) l.length = some q := by rw [scS_app a b l [e] _ (Nat.le_refl _)]; exact h
  rw [show (l ++ [e]).length = l.length + 1 by simp, scS_step a b _ hl h']
  have : (l ++ [e])[l.length]'hl = e := by simp
  rw [this]
def LInv (a b : List Bs) (i j : Nat) (out : List Ed) : Prop :=
  ∃ x y : Int, scS a b out out.length = some (x, y) ∧ x ≤ i ∧ y ≤ j ∧ (i : Int) - x = j - y ∧ sl a x i = sl b y j
theorem LInv.nil (a b : List Bs) : LInv a b 0 0 [] := ⟨0, 0, rfl, by omega, by omega, by omega, by simp [sl]⟩
theorem sl_next {a : List Bs} {x : Int} {i : Nat} (hx : x ≤ i) (hi : i < a.length) : sl a x (i + 1 : Nat) = sl a x i ++ [a[i]] := by
  rw [sl, sl]
  have := take_next (a := a) (P := x.toNat) (p := i) (by omega) hi
  rw [show ((i + 1 : Nat) : Int).toNat = i + 1 by omega, show ((i : Nat) : Int).toNat = i by omega]
  exact this
theorem LInv.diag {i j : Nat} {out : List Ed} (h : LInv a b i j out) (hi : i < a.length) (hj : j < b.length) (he : a[i] = b[j]) : LInv a b (i + 1) (j + 1) out := by
  obtain ⟨x, y, h1, h2, h3, h4, h5⟩ := h
  exact ⟨x, y, h1, by omega, by omega, by omega, by rw [sl_next h2 hi, sl_next h3 hj, h5, he]⟩
theorem sl_self (a : List Bs) (x : Int) : sl a x x = [] := by rw [sl]; simp
theorem LInv.add {i j d n : Nat} {out : List Ed} (h : LInv a b i j out) (hd : i + d ≤ a.length) (hn : j + n ≤ b.length) (hz : 0 < d ∨ 0 < n) : LInv a b (i + d) (j + n) (addE out ((i : Int), (d : Int), (j : Int), (n : Int))) := by
  obtain ⟨x, y, h1, h2, h3, h4, h5⟩ := h
  have hb := scS_bound h1
  dsimp only at hb
  have new : (out = [] ∨ (i : Int) ≠ x) → LInv a b (i + d) (j + n) (out ++ [((i : Int), (d : Int), (j : Int), (n : Int))]) := fun hne => by
    refine ⟨(i : Int) + d, (j : Int) + n, ?_, by omega, by omega, by omega, ?_⟩
    · rw [scS_last a b out _ h1, if_pos]
      simp only [scOk, Bool.and_eq_true, decide_eq_true_eq, Bool.not_eq_true', Bool.and_eq_false_iff, beq_eq_false_iff_ne, Bool.or_eq_true, beq_iff_eq]
      refine ⟨⟨⟨⟨⟨⟨⟨⟨⟨⟨h2, h3⟩, by omega⟩, by omega⟩, by omega⟩, by omega⟩, by omega⟩, by omega⟩, by omega⟩, ?_⟩, h5⟩
      rcases hne with h | h
      · exact .inl (by rw [h]; rfl)
      · exact .inr h
    · rw [show ((i + d : Nat) : Int) = (i : Int) + d by omega, show ((j + n : Nat) : Int) = (j : Int) + n by omega, sl_self, sl_self]
  rw [addE]
  cases hl : out.getLast? with
  | none => exact new (.inl (List.getLast?_eq_none_iff.1 hl))
  | some z =>
    dsimp only
    obtain ⟨o, rfl⟩ : ∃ o, out = o ++ [z] := by
      have hne : out ≠ [] := by intro h; rw [h] at hl; cases hl
      refine ⟨out.dropLast, ?_⟩
      rw [List.getLast?_eq_some_getLast hne, Option.some.injEq] at hl
      rw [← hl]; exact (List.dropLast_concat_getLast hne).symm
    obtain ⟨q, hq⟩ : ∃ q, scS a b o o.length = some q := by
      cases hq : scS a b o o.length with
      | some q => exact ⟨q, rfl⟩
      | none =>
        rw [← scS_app a b o [z] _ (Nat.le_refl _)] at hq
        rw [scS_none a b _ hq (show o.length ≤ (o ++ [z]).length by simp)] at h1; cases h1
    rw [scS_last a b o z hq] at h1
    split at h1
    · rename_i ho
      cases h1
      by_cases hc : z.1 + z.2.1 = (i : Int) ∧ z.2.2.1 + z.2.2.2 = (j : Int)
      · rw [if_pos hc, List.dropLast_concat]
        refine ⟨(i : Int) + d, (j : Int) + n, ?_, by omega, by omega, by omega, ?_⟩
        · rw [scS_last a b o _ hq, if_pos]
          · dsimp only; congr 1; simp only [Prod.mk.injEq]; constructor <;> omega
          · simp only [scOk, Bool.and_eq_true, decide_eq_true_eq, Bool.not_eq_true', Bool.and_eq_false_iff, beq_eq_false_iff_ne, Bool.or_eq_true, beq_iff_eq] at ho ⊢
            obtain ⟨⟨⟨⟨⟨⟨⟨⟨⟨⟨c1, c2⟩, c3⟩, c4⟩, c5⟩, c6⟩, c7⟩, c8⟩, c9⟩, c10⟩, c11⟩ := ho
            exact ⟨⟨⟨⟨⟨⟨⟨⟨⟨⟨c1, c2⟩, by omega⟩, by omega⟩, c5⟩, by omega⟩, c7⟩, by omega⟩, by omega⟩, c10⟩, c11⟩
        · rw [show ((i + d : Nat) : Int) = (i : Int) + d by omega, show ((j + n : Nat) : Int) = (j : Int) + n by omega, sl_self, sl_self]
      · rw [if_neg hc]
        exact new (.inr (by intro h; exact hc ⟨by omega, by omega⟩))
    · cases h1
theorem LInv.done {out : List Ed} (h : LInv a b a.length b.length out) : right a b out = true := by
  obtain ⟨x, y, h1, h2, h3, h4, h5⟩ := h
  rw [right, h1]
  rw [sl_all, sl_all] at h5
  exact decide_eq_true h5
def leF (c : Nat → Nat → Bool) (a b : List Bs) : Nat → Nat → Nat → List Ed → List Ed
  | 0, _, _, out => out
  | n + 1, i, j, out =>
    if i < a.length ∨ j < b.length then
      (if i < a.length ∧ j < b.length ∧ a[i]? = b[j]? then leF c a b n (i + 1) (j + 1) out
      else if j = b.length ∨ (i < a.length ∧ c i j = true) then leF c a b n (i + 1) j (addE out ((i : Int), 1, (j : Int), 0))
      else leF c a b n i (j + 1) (addE out ((i : Int), 0, (j : Int), 1)))
    else out
theorem leF_right (c : Nat → Nat → Bool) : ∀ n i j out, LInv a b i j out → i ≤ a.length → j ≤ b.length → a.length - i + (b.length - j) ≤ n → right a b (leF c a b n i j out) = true := by
  intro n
  induction n with
  | zero =>
    intro i j out h hi hj hn
    obtain rfl : i = a.length := by omega
    obtain rfl : j = b.length := by omega
    exact h.done
  | succ n ih =>
    intro i j out h hi hj hn
    rw [leF]
    by_cases h0 : i < a.length ∨ j < b.length
    · rw [if_pos h0]
      by_cases h1 : i < a.length ∧ j < b.length ∧ a[i]? = b[j]?
      · rw [if_pos h1]
        obtain ⟨h1, h2, h3⟩ := h1
        rw [List.getElem?_eq_getElem h1, List.getElem?_eq_getElem h2, Option.some.injEq] at h3
        exact ih _ _ _ (h.diag h1 h2 h3) (by omega) (by omega) (by omega)
      · rw [if_neg h1]
        by_cases h2 : j = b.length ∨ (i < a.length ∧ c i j = true)
        · rw [if_pos h2]
          have hi' : i < a.length := by omega
          exact ih _ _ _ (h.add (d := 1) (n := 0) (by omega) (by omega) (by omega)) (by omega) (by omega) (by omega)
        · rw [if_neg h2]
          have hj' : j < b.length := by omega
          exact ih _ _ _ (h.add (d := 0) (n := 1) (by omega) (by omega) (by omega)) (by omega) (by omega) (by omega)
    · rw [if_neg h0]
      obtain rfl : i = a.length := by omega
      obtain rfl : j = b.length := by omega
      exact h.done
def lcs : List Bs → List Bs → Nat
  | [], _ => 0
  | _ :: _, [] => 0
  | x :: xs, y :: ys => if x = y then lcs xs ys + 1 else max (lcs xs (y :: ys)) (lcs (x :: xs) ys)
termination_by a b => a.length + b.length
def lcsC (a b : List Bs) (i j : Nat) : Bool := decide (lcs (a.drop i) (b.drop (j + 1)) ≤ lcs (a.drop (i + 1)) (b.drop j))
def least (a b : List Bs) : List Ed := leF (lcsC a b) a b (a.length + b.length) 0 0 []
theorem least_right (a b : List Bs) : right a b (least a b) = true := leF_right _ _ 0 0 [] (.nil a b) (by omega) (by omega) (by omega)
end Go.Hk
namespace Go.Hk
open Go.Ln (Bs)
open Go.Ob (dec)
set_option linter.unusedVariables false
set_option linter.unusedSimpArgs false
abbrev PS := List Hk × Nat × Nat × Bool
structure HeadOk (f : Int) (n : Nat) (t : Int) (m : Nat) : Prop where
  f0 : 0 ≤ f
  t0 : 0 ≤ t
  nm : 0 < n ∨ 0 < m
  a : placeN f n < 100000
  n5 : n < 100000
  b : placeN t m < 100000
  m5 : m < 100000
def q0 : PS := ([], 0, 0, false)
structure PInv (i : Nat) (q : PS) : Prop where
  len : q.1.length ≤ i
  nil : q.1 = [] → q = q0
  at' : ∀ (o : List Hk) (h : Hk), q.1 = o ++ [h] → 0 ≤ h.1 ∧ 0 ≤ h.2.1 ∧ h.1 + cntO h.2.2 + q.2.1 ≤ 4096 ∧ h.2.1 + cntN h.2.2 + q.2.2.1 ≤ 4096 ∧ h.2.2.length ≤ i ∧ (∀ x, h.2.2.getLast? = some x → isLine x.2 = true ∧ (x.1 = 1 ∨ x.1 = 2 ∨ x.1 = 3))
end Go.Hk
namespace Go.Hk
open Go.Ln (Bs lines idx idx_of lines_some)
open Go.Ob (dec)
set_option linter.unusedVariables false
set_option linter.unusedSimpArgs false
end Go.Hk

