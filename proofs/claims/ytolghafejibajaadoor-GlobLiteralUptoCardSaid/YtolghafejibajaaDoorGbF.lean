import Derived.Shelf.Strings.IndexAnyAll
import Derived.Laws.Runes
import Derived.Shelf.Small.Utf8
import Derived.WalkMore
import Derived.Shelf.RegionOpenPlain
import Derived.Test.YtolghafejibajaaDoorGbE
/- strings.IndexRune, IndexAny, ContainsAny at any bytes, looked for in or among ASCII ones. -/
namespace Go.Proofs
open Go.Shelf Go.RowKit Go.Lib
set_option linter.unusedVariables false
set_option linter.unusedSimpArgs false
variable {P : Program} {ρ : Ren}

theorem get_bang (s : ByteArray) {i : Nat} (h : i < s.size) : s.get! i = s[i]'h := by
  simp [ByteArray.get!, getElem!_pos, h]; rfl
theorem decode_high (s : ByteArray) (i : Nat) (hi : i < s.size) (h : 128 ≤ (s[i]'hi).toNat) :
    ∃ c k : Nat, Utf8.decode s i = (c, k) ∧ 128 ≤ c ∧ Utf8.valid (c : Int) = true ∧ 1 ≤ k ∧ i + k ≤ s.size ∧ ∀ (j : Nat) (b : UInt8), i ≤ j → j < i + k → s.data.toList[j]? = some b → 128 ≤ b.toNat := by
  have h0 : (s.get! (i + 0)).toNat = (s[i]'hi).toNat := by rw [Nat.add_zero, get_bang s hi]
  have hb : ∀ (j : Nat) (b : UInt8), s.data.toList[j]? = some b → (s.get! j) = b := by
    intro j b hj
    have hl : j < s.size := by
      have := (List.getElem?_eq_some_iff.1 hj).1
      rw [Lib.size_eq]; exact this
    rw [get_bang s hl]
    have := Lib.data_getElem? s j hl
    rw [hj] at this; injection this with this; exact this.symm
  have hfirst : ∀ b, s.data.toList[i]? = some b → 128 ≤ b.toNat := by
    intro b hj
    have := hb i b hj
    rw [get_bang s hi] at this
    rw [← this]; exact h
  have hcont : ∀ k, (decide (i + k < s.size) && ((s.get! (i + k)).toNat / 64 == 2)) = true → i + k < s.size ∧ ∀ b, s.data.toList[i + k]? = some b → 128 ≤ b.toNat := by
    intro k hk
    simp only [Bool.and_eq_true, decide_eq_true_eq, beq_iff_eq] at hk
    refine ⟨hk.1, fun b hj => ?_⟩
    have := hb _ b hj
    rw [this] at hk; omega
  have herr : 128 ≤ Utf8.runeError ∧ Utf8.valid ((Utf8.runeError : Nat) : Int) = true ∧ 1 ≤ 1 ∧ i + 1 ≤ s.size ∧ ∀ (j : Nat) (b : UInt8), i ≤ j → j < i + 1 → s.data.toList[j]? = some b → 128 ≤ b.toNat := by
    refine ⟨by decide, by decide, by omega, by omega, fun j b h1 h2 hj => ?_⟩
    obtain rfl : j = i := by omega
    exact hfirst b hj
  unfold Utf8.decode
  simp only [h0]
  rw [if_neg (by omega)]
  split
  · rename_i hc
    rw [Bool.and_eq_true] at hc
    obtain ⟨c1, c2⟩ := hcont 1 hc.2
    split
    · rename_i hge
      refine ⟨_, 2, rfl, hge, ?_, by omega, by omega, fun j b h1 h2 hj => ?_⟩
      · rw [validRune_eq, validRune, decide_eq_true_iff]; omega
      · by_cases e : j = i
        · subst e; exact hfirst b hj
        · obtain rfl : j = i + 1 := by omega
          exact c2 b hj
    · exact ⟨_, 1, rfl, herr⟩
  · split
    · rename_i hc
      simp only [Bool.and_eq_true] at hc
      obtain ⟨c1, c2⟩ := hcont 1 (by simp only [Bool.and_eq_true]; exact hc.1.2)
      obtain ⟨c3, c4⟩ := hcont 2 (by simp only [Bool.and_eq_true]; exact hc.2)
      split
      · rename_i hge
        simp only [Bool.and_eq_true, decide_eq_true_eq, ge_iff_le] at hge
        refine ⟨_, 3, rfl, by omega, hge.2, by omega, by omega, fun j b h1 h2 hj => ?_⟩
        by_cases e : j = i
        · subst e; exact hfirst b hj
        · by_cases e : j = i + 1
          · subst e; exact c2 b hj
          · obtain rfl : j = i + 2 := by omega
            exact c4 b hj
      · exact ⟨_, 1, rfl, herr⟩
    · split
      · rename_i hc
        simp only [Bool.and_eq_true] at hc
        obtain ⟨c1, c2⟩ := hcont 1 (by simp only [Bool.and_eq_true]; exact hc.1.1.2)
        obtain ⟨c3, c4⟩ := hcont 2 (by simp only [Bool.and_eq_true]; exact hc.1.2)
        obtain ⟨c5, c6⟩ := hcont 3 (by simp only [Bool.and_eq_true]; exact hc.2)
        split
        · rename_i hge
          simp only [Bool.and_eq_true, decide_eq_true_eq, ge_iff_le] at hge
          refine ⟨_, 4, rfl, by omega, hge.2, by omega, by omega, fun j b h1 h2 hj => ?_⟩
          by_cases e : j = i
          · subst e; exact hfirst b hj
          · by_cases e : j = i + 1
            · subst e; exact c2 b hj
            · by_cases e : j = i + 2
              · subst e; exact c4 b hj
              · obtain rfl : j = i + 3 := by omega
                exact c6 b hj
        · exact ⟨_, 1, rfl, herr⟩
      · exact ⟨_, 1, rfl, herr⟩

theorem run_next_high (w : World) (s : ByteArray) (pos : Nat) (ty : TypeId) (h : pos < s.size) {c k : Nat} (hd : Utf8.decode s pos = (c, k)) :
    (Instr.next (.pointer (some ⟨w.heap.size, 0, none⟩)) true ty).run P (w.iter s pos) =
      .ok (.tuple #[.bool true, .int .i64 pos, .int .i32 c]) (w.iter s (pos + k)) := by
  simp only [Instr.next, getObj, setObj, Sem.run_bind, Sem.run, World.iter_heap, Result.andThen, h, if_true, hd, World.iter_set]
  simp [goInt, Sem.run, World.iter_heap, World.iter_set]

set_option maxHeartbeats 4000000 in
set_option maxRecDepth 1000000 in
theorem Any.strings_IndexRune_error (L : Lays.n152 P ρ) (s : ByteArray) (w : World) (hascii : ∀ (j : Nat) b, s.data.toList[j]? = some b → b.toNat < 128) :
    Calls P (ρ.f 152) #[.string s, .int .i32 65533] w fun e w' => e = .returned (.int .i64 (-1)) ∧ ∃ pos, w' = w.iter s pos := by
  have HA : Aside (∀ (j : Nat) b, s.data.toList[j]? = some b → b.toNat < 128) := hascii
  clear hascii
  have t3 := L.t3; have a3 := L.a3; have z3 := L.z3; have v3 := L.v3
  have t4 := L.t4; have a4 := L.a4; have z4 := L.z4; have v4 := L.v4
  have t5 := L.t5; have a5 := L.a5; have z5 := L.z5; have v5 := L.v5
  have t9 := L.t9; have a9 := L.a9; have z9 := L.z9; have v9 := L.v9
  have t21 := L.t21; have a21 := L.a21; have z21 := L.z21; have v21 := L.v21
  go_enter L.f152, Body.n152_ntmps ρ
  go_wp2
  go_loopg [5, 6] s.size (fun g _ _ wx => ∃ i : Nat, i + g = s.size ∧ wx = w.iter s i)
  case atStart => exact ⟨0, by omega, rfl⟩
  case round =>
    obtain ⟨i, hig, rfl⟩ := hrel
    cases gk with
    | zero =>
      obtain rfl : i = s.size := by omega
      have hnx := run_next_end (P := P) w s s.size
      go_wp2
      go_ret
      exact ⟨rfl, _, rfl⟩
    | succ g =>
      have hi : i < s.size := by omega
      obtain ⟨x, hx⟩ : ∃ x : UInt8, s[i]'hi = x := ⟨_, rfl⟩
      have hxl : s.data.toList[i]? = some x := by rw [← hx]; exact Lib.data_getElem? s i hi
      have hx128 : x.toNat < 128 := HA.out i x hxl
      have hnx := fun ty => run_next_ascii (P := P) w s i ty hi (by rw [hx]; exact hx128)
      rw [hx] at hnx
      have hne : ((x.toNat : Int) == 65533) = false := beq_eq_false_iff_ne.2 (by omega)
      go_wp2
      go_roundg g
      case measure => omega
      case rel => exact ⟨i + 1, by omega, rfl⟩

theorem then_ret (K : Act → World → Prop) (Q : Exit → Act → World → Prop) (a : Act) (w : World) : Exit.then K Q .ret a w = Q .ret a w := rfl
theorem inBlock_ret (n : Nat) (Q : Exit → Act → World → Prop) (a : Act) (w : World) : Exit.inBlock n Q .ret a w = Q .ret a w := rfl
/-- the iterator that stands in a block is moved on -/
def turned (w : World) (b : Nat) (o : Obj) : World := { w with heap := w.heap.setIfInBounds b o }
theorem turned_at {w : World} {b : Nat} {o o' : Obj} (h : w.heap[b]? = some o') : (turned w b o).heap[b]? = some o := by
  have := (Array.getElem?_eq_some_iff.1 h).1
  simp [turned, Array.getElem?_setIfInBounds, this]
theorem turned_below {B : Nat} {a w : World} (h : Below B a w) (b : Nat) (hb : B ≤ b) (o : Obj) : Below B a (turned w b o) := by
  refine ⟨h.os, h.tape, h.output, by simpa [turned] using h.size, fun k hk => ?_⟩
  rw [← h.block k hk]
  simp only [turned, Array.getElem?_setIfInBounds]
  rw [if_neg (by omega)]
theorem run_next_at (w : World) (b : Nat) (s : ByteArray) (pos : Nat) (ty : TypeId) (hb : w.heap[b]? = some (.stringIter s pos)) (h : pos < s.size) {c k : Nat} (hd : Utf8.decode s pos = (c, k)) :
    (Instr.next (.pointer (some ⟨b, 0, none⟩)) true ty).run P w = .ok (.tuple #[.bool true, .int .i64 pos, .int .i32 c]) (turned w b (.stringIter s (pos + k))) := by
  simp only [Instr.next, getObj, setObj, Sem.run_bind, Sem.run, hb, Result.andThen, h, if_true, hd]
  simp [goInt, Sem.run, hb, turned]
theorem run_next_over (w : World) (b : Nat) (s : ByteArray) (pos : Nat) (ty : TypeId) (hb : w.heap[b]? = some (.stringIter s pos)) (h : ¬ pos < s.size) :
    (Instr.next (.pointer (some ⟨b, 0, none⟩)) true ty).run P w = .ok (.tuple #[.bool false]) w := by
  simp [Instr.next, getObj, Sem.run, hb, h]
theorem indexByte_no (l : List UInt8) (c : UInt8) (h : ∀ b, b ∈ l → b ≠ c) : Lib.indexByte l c = -1 := by
  induction l with
  | nil => rfl
  | cons b l ih =>
    have h1 := h b (List.mem_cons_self ..)
    have h2 := ih fun x hx => h x (List.mem_cons_of_mem _ hx)
    simp only [Lib.indexByte, beq_iff_eq, h1, if_false, h2]; rfl

set_option maxHeartbeats 8000000 in
set_option maxRecDepth 1000000 in
theorem Any.strings_IndexRune_high (L : Lays.n152 P ρ) (s : ByteArray) (r : Int) (w : World) (h128 : 128 ≤ r) (hv : Utf8.valid r = true) (hne : r ≠ 65533) (hsz : s.size < 4294967281) (hascii : ∀ (j : Nat) b, s.data.toList[j]? = some b → b.toNat < 128) :
    Calls P (ρ.f 152) #[.string s, .int .i32 r] w fun e w' => e = .returned (.int .i64 (-1)) ∧ Below w.heap.size w w' := by
  obtain ⟨hA, hB, hC⟩ := encode_facts r hv h128
  have HA : Aside (∀ (j : Nat) b, s.data.toList[j]? = some b → b.toNat < 128) := hascii
  clear hascii
  obtain ⟨k, hk⟩ : ∃ k : Nat, (Utf8.encode r).size - 1 = k := ⟨_, rfl⟩
  have hsize : (Utf8.encode r).size = k + 1 := by omega
  have hk4 : 1 ≤ k ∧ k ≤ 3 := by omega
  have hkl : k < (Utf8.encode r).size := by omega
  obtain ⟨z, hz⟩ : ∃ z : UInt8, (Utf8.encode r)[k]'hkl = z := ⟨_, rfl⟩
  have hz128 : 128 ≤ z.toNat := by subst hz; subst hk; exact hC _
  have hr0 : decide ((0 : Int) ≤ r) = true := decide_eq_true (by omega)
  have hr1 : decide (r < 128) = false := decide_eq_false (by omega)
  have hr2 : (r == 65533) = false := beq_eq_false_iff_ne.2 hne
  have hvr : Lib.validRune r = true := by
    have h2 : validRune r = true := by rw [← validRune_eq]; exact hv
    unfold validRune at h2; rw [decide_eq_true_iff] at h2
    unfold Lib.validRune; rw [decide_eq_true_iff]; omega
  generalize he : Utf8.encode r = E at hsize hkl hz
  have mixed := L.mixed
  have t3 := L.t3; have a3 := L.a3; have z3 := L.z3; have v3 := L.v3
  have t4 := L.t4; have a4 := L.a4; have z4 := L.z4; have v4 := L.v4
  have t5 := L.t5; have a5 := L.a5; have z5 := L.z5; have v5 := L.v5
  have t9 := L.t9; have a9 := L.a9; have z9 := L.z9; have v9 := L.v9
  have t21 := L.t21; have a21 := L.a21; have z21 := L.z21; have v21 := L.v21
  have e119 : ∀ args w, (callFunc (ρ.f 119) args).run P w = .ok (.enter (ρ.f 119) args) w := enters_of L.f119 (by kernel_rfl) rfl
  have e137 : ∀ args w, (callFunc (ρ.f 137) args).run P w = .ok (.enter (ρ.f 137) args) w := enters_of L.f137 (by kernel_rfl) rfl
  go_enter L.f152, Body.n152_ntmps ρ
  go_wp2_with (go_at_fn (ρ.f 119); refine (Any.utf8_ValidRune { L with } _ _).mono ?_; rintro e w' ⟨rfl, hw⟩; rw [hw, hvr])
  go_step3
  go_wp2
  go_loopg [9, 10] 0 (fun g s9 s10 wx => g = 0 ∧ s9 = .int .i64 k ∧ s10 = .int .i64 0 ∧ wx = w)
  case atStart => exact ⟨rfl, rfl, rfl, rfl⟩
  case round =>
    obtain ⟨rfl, rfl, rfl, rfl⟩ := hrel
    by_cases hlt : k < s.size
    · obtain ⟨x, hx⟩ : ∃ x : UInt8, s[k]'hlt = x := ⟨_, rfl⟩
      have hxl : s.data.toList[k]? = some x := by rw [← hx]; exact Lib.data_getElem? s k hlt
      have hx128 : x.toNat < 128 := HA.out k x hxl
      have hxz : ((x.toNat : Int) != (z.toNat : Int)) = true := by rw [bne_iff_ne]; omega
      have hl0 : (0 : Int) ≤ (k : Int) + 1 := by omega
      have hl1 : (k : Int) + 1 ≤ (s.size : Int) := by omega
      have hwk : IntKind.i64.wrap ((k : Int) + 1) = (k : Int) + 1 := by rw [IntKind.wrap_i64]; omega
      have hib : ∀ a e, Lib.indexByte (List.take a (List.drop e s.data.toList)) z = -1 := fun a e' => indexByte_no _ _ fun b hb e => by
        have hm := List.mem_of_mem_drop (List.mem_of_mem_take hb)
        obtain ⟨j, hj, hjb⟩ := List.getElem_of_mem hm
        have := HA.out j b (by rw [List.getElem?_eq_getElem hj, hjb])
        rw [e] at this; omega
      have hback : ((z.toNat : Int)).toNat.toUInt8 = z := by simp
      go_wp2
      go_step3
      go_wp2
      clear hsize
      go_quiet_o (fail)
      go_wp2
      go_quiet_o (exact (Any.strings_IndexByte { L with } _ _ _).mono (fun _ _ h => ⟨h.1, _, h.2⟩))
      go_wp2
      simp only [Exit.noGoto_ret, then_ret, inBlock_ret]
      go_ret
      exact ⟨rfl, ((Below.refl _ _).trans ⟨rfl, rfl, rfl, Nat.le_refl _, fun _ _ => rfl⟩)⟩
    · go_wp2
      rw [Exit.noGoto_ret]
      go_ret
      exact ⟨rfl, Below.refl _ _⟩

theorem Below.iter (w : World) (s : ByteArray) (pos : Nat) : Below w.heap.size w (w.iter s pos) := (Below.refl _ _).alloc (Nat.le_refl _) _
/-- IndexRune at a rune that is no ASCII byte, in an ASCII text -/
theorem Any.strings_IndexRune_none (L : Lays.n152 P ρ) (s : ByteArray) (r : Int) (w : World) (h128 : 128 ≤ r) (hv : Utf8.valid r = true) (hsz : s.size < 4294967281) (hascii : ∀ (j : Nat) b, s.data.toList[j]? = some b → b.toNat < 128) :
    Calls P (ρ.f 152) #[.string s, .int .i32 r] w fun e w' => e = .returned (.int .i64 (-1)) ∧ Below w.heap.size w w' := by
  by_cases hne : r = 65533
  · subst hne
    refine (Any.strings_IndexRune_error L s w hascii).mono ?_
    rintro e w' ⟨h1, pos, rfl⟩
    exact ⟨h1, Below.iter w s pos⟩
  · exact Any.strings_IndexRune_high L s r w h128 hv hne hsz hascii

theorem NoAny.skip {s chars : List UInt8} {i k : Nat} (h : Lib.NoAny s chars i) (hk : ∀ (j : Nat) (b : UInt8), i ≤ j → j < i + k → s[j]? = some b → 128 ≤ b.toNat) (hc : ∀ (j : Nat) b, chars[j]? = some b → b.toNat < 128) : Lib.NoAny s chars (i + k) := by
  intro j b hj hb
  by_cases h1 : j < i
  · exact h j b h1 hb
  · have := hk j b (by omega) hj hb
    cases hcon : chars.contains b with
    | false => rfl
    | true =>
      obtain ⟨q, hq, e⟩ := List.getElem_of_mem (List.contains_iff_mem.1 hcon)
      have := hc q b (by rw [List.getElem?_eq_getElem hq, e])
      omega

set_option maxHeartbeats 8000000 in
set_option maxRecDepth 1000000 in
/-- s of at most 8 bytes, whatever they are; chars: two ASCII bytes or more -/
theorem Any.strings_IndexAny_short_any (L : Lays.n153 P ρ) (s chars : ByteArray) (w : World) (h2 : 2 ≤ chars.size) (h8 : s.size ≤ 8) (hcs : chars.size < 4294967281) (hascii : ∀ (j : Nat) b, chars.data.toList[j]? = some b → b.toNat < 128) :
    Calls P (ρ.f 153) #[.string s, .string chars] w fun e w' => e = .returned (.int .i64 (Lib.indexAny s.data.toList chars.data.toList)) ∧ Below w.heap.size w w' := by
  have HA : Aside (∀ (j : Nat) b, chars.data.toList[j]? = some b → b.toNat < 128) := hascii
  clear hascii
  have hemp : chars.toList.isEmpty = false := by
    rw [Lib.toList_data]
    cases h : chars.data.toList with
    | nil => have := Lib.size_eq chars; rw [h, List.length_nil] at this; omega
    | cons _ _ => rfl
  have hn1 : ((chars.size : Int) == 1) = false := beq_eq_false_iff_ne.2 (by omega)
  have h8z : decide ((8 : Int) < (s.size : Int)) = false := decide_eq_false (by omega)
  have t3 := L.t3; have a3 := L.a3; have z3 := L.z3; have v3 := L.v3
  have t4 := L.t4; have a4 := L.a4; have z4 := L.z4; have v4 := L.v4
  have t5 := L.t5; have a5 := L.a5; have z5 := L.z5; have v5 := L.v5
  have t9 := L.t9; have a9 := L.a9; have z9 := L.z9; have v9 := L.v9
  have t21 := L.t21; have a21 := L.a21; have z21 := L.z21; have v21 := L.v21
  have e152 : ∀ args w, (callFunc (ρ.f 152) args).run P w = .ok (.enter (ρ.f 152) args) w := enters_of L.f152 (by kernel_rfl) rfl
  have e226 : ∀ args w, (callFunc (ρ.f 226) args).run P w = .ok (.enter (ρ.f 226) args) w := enters_of L.f226 (by kernel_rfl) rfl
  go_enter L.f153, Body.n153_ntmps ρ
  go_wp2_with (go_at_fn (ρ.f 226); refine (Any.strings_shouldUseASCIISet { L with } _ _).mono ?_; rintro e w' ⟨rfl, hw⟩; rw [hw, h8z])
  go_loopg [9, 10] s.size (fun g _ _ wx => ∃ i : Nat, i + g = s.size ∧ wx.heap[w.heap.size]? = some (.stringIter s i) ∧ Below w.heap.size w wx ∧ Lib.NoAny s.data.toList chars.data.toList i)
  case atStart => exact ⟨0, by omega, World.iter_heap _ _ _, Below.iter _ _ _, Lib.NoAny.zero _ _⟩
  case round =>
    obtain ⟨i, hig, hit, hbl, hno⟩ := hrel
    have HN : Aside (Lib.NoAny s.data.toList chars.data.toList i) := hno
    have HB : Aside (Below w.heap.size w wr) := hbl
    have HI : Aside (wr.heap[w.heap.size]? = some (.stringIter s i)) := hit
    clear hno hbl hit
    by_cases hi : i < s.size
    · obtain ⟨x, hx⟩ : ∃ x : UInt8, s[i]'hi = x := ⟨_, rfl⟩
      have hxl : s.data.toList[i]? = some x := by rw [← hx]; exact Lib.data_getElem? s i hi
      by_cases hx128 : x.toNat < 128
      · have hd := decode_ascii s i hi (by rw [hx]; exact hx128)
        rw [hx] at hd
        have hnx := fun ty => run_next_at (P := P) wr w.heap.size s i ty HI.out hi hd
        have Hx : Aside (s.data.toList[i]? = some x) := hxl
        have HB2 : Aside (Below w.heap.size w (turned wr w.heap.size (.stringIter s (i + 1)))) := turned_below HB.out _ (Nat.le_refl _) _
        have HI2 : Aside ((turned wr w.heap.size (.stringIter s (i + 1))).heap[w.heap.size]? = some (.stringIter s (i + 1))) := turned_at HI.out
        clear hxl hx hd
        generalize turned wr w.heap.size (.stringIter s (i + 1)) = W2 at hnx HB2 HI2
        have hcon := Lib.contains_iff_indexByte chars.data.toList x
        have hback : ((x.toNat : Int)).toNat.toUInt8 = x := by simp
        cases hin : chars.data.toList.contains x
        · rw [hin] at hcon
          have hlt : ¬ ((0 : Int) ≤ Lib.indexByte chars.data.toList x) := of_decide_eq_false hcon.symm
          clear hcon
          go_wp2_with (go_at_fn (ρ.f 152); refine (Any.strings_IndexRune_ascii { L with } _ _ _ (by omega) (by omega)).mono ?_; rintro e w' ⟨rfl, hw⟩; rw [hw, hback])
          go_roundg (gk - 1)
          case measure => omega
          case rel => exact ⟨i + 1, by omega, HI2.out, HB2.out, HN.out.succ Hx.out hin⟩
        · rw [hin] at hcon
          have hge : (0 : Int) ≤ Lib.indexByte chars.data.toList x := of_decide_eq_true hcon.symm
          clear hcon
          go_wp2_with (go_at_fn (ρ.f 152); refine (Any.strings_IndexRune_ascii { L with } _ _ _ (by omega) (by omega)).mono ?_; rintro e w' ⟨rfl, hw⟩; rw [hw, hback])
          go_ret
          exact ⟨by rw [Lib.indexAny_hit HN.out Hx.out hin]; rfl, HB2.out⟩
      · obtain ⟨c, k, hd, hc128, hcv, hk1, hks, hkb⟩ := decode_high s i hi (by rw [hx]; omega)
        have hnx := fun ty => run_next_at (P := P) wr w.heap.size s i ty HI.out hi hd
        have HB2 : Aside (Below w.heap.size w (turned wr w.heap.size (.stringIter s (i + k)))) := turned_below HB.out _ (Nat.le_refl _) _
        have HI2 : Aside ((turned wr w.heap.size (.stringIter s (i + k))).heap[w.heap.size]? = some (.stringIter s (i + k))) := turned_at HI.out
        have HS : Aside (Lib.NoAny s.data.toList chars.data.toList (i + k)) := NoAny.skip HN.out hkb HA.out
        have hsz2 : w.heap.size < (turned wr w.heap.size (.stringIter s (i + k))).heap.size := (Array.getElem?_eq_some_iff.1 HI2.out).1
        generalize turned wr w.heap.size (.stringIter s (i + k)) = W2 at hnx HB2 HI2 hsz2
        clear hkb hd hx hxl
        have HR : Aside (Calls P (ρ.f 152) #[.string chars, .int .i32 c] W2 fun e w' => e = .returned (.int .i64 (-1)) ∧ Below W2.heap.size W2 w') := Any.strings_IndexRune_none { L with } chars c W2 (by omega) hcv hcs HA.out
        go_wp2_with (go_at_fn (ρ.f 152); refine HR.out.mono ?_; rintro e w3 ⟨rfl, hw3⟩)
        go_roundg (gk - k)
        case measure => omega
        case rel => exact ⟨i + k, by omega, by rw [hw3.block _ hsz2]; exact HI2.out, HB2.out.trans (hw3.mono (Nat.le_of_lt hsz2)), HS.out⟩
    · have hnx := fun ty => run_next_over (P := P) wr w.heap.size s i ty HI.out hi
      obtain rfl : i = s.size := by omega
      go_wp2
      go_ret
      exact ⟨by rw [Lib.indexAny_none (by rw [← Lib.size_eq]; exact HN.out)]; rfl, HB.out⟩

/-- strings.ContainsAny at any bytes; two ASCII bytes or more are looked for -/
theorem Any.strings_IndexAny_any (L : Lays.n153 P ρ) (h116 : (P.info? (ρ.t 116)).map (fun i => (i.zero, i.size)) = some (some (.agg (Array.replicate 256 (.bool false))), 256)) (s chars : ByteArray) (w : World) (hs : s.size < 4294967281) (hcs : chars.size < 4294967281)
    (h2 : 2 ≤ chars.size) (hac : ∀ (j : Nat) b, chars.data.toList[j]? = some b → b.toNat < 128) :
    Calls P (ρ.f 153) #[.string s, .string chars] w fun e w' => e = .returned (.int .i64 (Lib.indexAny s.data.toList chars.data.toList)) ∧ Below w.heap.size w w' := by
  by_cases h8 : s.size ≤ 8
  · exact Any.strings_IndexAny_short_any L s chars w h2 h8 hcs hac
  · refine (Any.strings_IndexAny_long L (zero_of_info h116).1 (zero_of_info h116).2 s chars w h2 (by omega) hs hcs hac).mono ?_
    rintro e w' ⟨h1, rfl⟩
    exact ⟨h1, ((Below.refl _ _).alloc (Nat.le_refl _) _).alloc (Nat.le_of_lt (by show w.heap.size < (w.heap.push _).size; rw [Array.size_push]; omega)) _⟩
set_option maxHeartbeats 1000000 in
theorem Any.strings_ContainsAny_any (L : Lays.n150 P ρ) (h116 : (P.info? (ρ.t 116)).map (fun i => (i.zero, i.size)) = some (some (.agg (Array.replicate 256 (.bool false))), 256)) (s chars : ByteArray) (w : World) (hs : s.size < 4294967281) (hcs : chars.size < 4294967281)
    (h2 : 2 ≤ chars.size) (hac : ∀ (j : Nat) b, chars.data.toList[j]? = some b → b.toNat < 128) :
    Calls P (ρ.f 150) #[.string s, .string chars] w fun e w' => e = .returned (.bool (Lib.containsAny s.data.toList chars.data.toList)) ∧ Below w.heap.size w w' := by
  have c := Any.strings_IndexAny_any { L with } h116 s chars w hs hcs h2 hac
  have t3 := L.t3; have a3 := L.a3; have z3 := L.z3; have v3 := L.v3
  have t4 := L.t4; have a4 := L.a4; have z4 := L.z4; have v4 := L.v4
  have t9 := L.t9; have a9 := L.a9; have z9 := L.z9; have v9 := L.v9
  have e153 : ∀ args w, (callFunc (ρ.f 153) args).run P w = .ok (.enter (ρ.f 153) args) w := enters_of L.f153 (by kernel_rfl) rfl
  go_enter L.f150, Body.n150_ntmps ρ
  go_wp2_with (go_at_fn (ρ.f 153); refine c.mono ?_; rintro e w' ⟨rfl, hw⟩)
  go_ret
  exact ⟨rfl, hw⟩
#print axioms Any.strings_ContainsAny_any
end Go.Proofs

/- Glob: literal patterns. -/
namespace Go.Gb
open Go Go.Ev Go.Proofs
open Go.Ln (u8b_t u8b_f u8n_t u8n_f getX idx idx_eq idx_of idx_none)
set_option linter.unusedVariables false
set_option linter.unusedSimpArgs false
attribute [local go_sem] eqs implies_true List.map_cons List.map_nil kl klL roD roL Option.map_some Option.map_none Option.getD_some Option.getD_none binVal binObl unVal if_true if_false eq_self passA frnD resD content getH getR getW viaNot viaSlot viaBox viaDeep viaMem List.contains_cons List.contains_nil grabs peeks okCells isCell place cellsOf chunk elt List.headD_cons List.length_cons List.length_nil List.take_succ_cons List.take_zero List.drop_succ_cons List.drop_zero List.nil_append List.cons_append List.append_nil List.all_cons List.all_nil plainC takeR setW over reCell List.getElem?_cons_zero List.getElem?_cons_succ List.set_cons_zero List.take_length outV resG plainV pack outVG outBx List.set_cons_succ Ref.idx Ref.addOff beq_self_eq_true bxL Option.bind_some writeR isLit viaBoxes capsPA boxPA nsOf noDup boxesAt argG passG passD rhoIn rhoOut idxIn tr trL List.getD_cons_zero gives pasOf isPtr Ins.d List.getD_cons_succ resL frnL
variable {m : Int}

def special (c : UInt8) : Bool := c == 63 || c == 42 || c == 91 || c == 92
def plainP (p : Ln.Bs) : Bool := isPat p && isPath p && !p.any special
theorem containsAny_special (p : Ln.Bs) : Lib.containsAny p [63, 42, 91, 92] = p.any special := by
  induction p with
  | nil => rfl
  | cons b l ih =>
    have hs : List.contains [63, 42, 91, 92] b = special b := by
      simp only [special, List.contains_cons, List.contains_nil, Bool.or_false, Bool.or_assoc]
    have hge := Lib.indexAny_ge [63, 42, 91, 92] l
    have e : Lib.indexAny (b :: l) [63, 42, 91, 92] = if special b = true then 0 else if (Lib.indexAny l [63, 42, 91, 92] == -1) = true then -1 else Lib.indexAny l [63, 42, 91, 92] + 1 := by
      rw [← hs]; rfl
    have ih' : (0 ≤ Lib.indexAny l [63, 42, 91, 92]) ↔ l.any special = true := by rw [← ih, Lib.containsAny, decide_eq_true_iff]
    rw [Bool.eq_iff_iff, Lib.containsAny, decide_eq_true_iff, e, List.any_cons, Bool.or_eq_true, ← ih']
    cases hb : special b with
    | true => simp
    | false =>
      simp only [Bool.false_eq_true, if_false, false_or]
      by_cases h : Lib.indexAny l [63, 42, 91, 92] = -1
      · simp [h]
      · rw [if_neg (by simpa using h)]; omega
theorem containsAny2_snd (s : Ln.Bs) (hs : s.length ≤ 1048576) : Snd Tryd.prog (gl m) 60 [S s, S [63, 42, 91, 92]] (B (s.any special)) :=
  snd_below (us := [.string (str s), .string (str [63, 42, 91, 92])]) rfl fun w zf h => by
    have := Any.strings_ContainsAny_any Tryd.lays150 (by kernel_rfl) (str s) (str [63, 42, 91, 92]) w (by rw [str_size]; omega) (by rw [str_size]; decide) (by rw [str_size]; decide) (by rw [str_dataL]; intro j b h; match j with | 0 | 1 | 2 | 3 => simp at h; subst h; decide | j + 4 => simp at h)
    simp only [str_dataL, containsAny_special] at this; exact this
theorem glit_snd (p : Ln.Bs) (hp : p.length ≤ 1048575) : Snd Tryd.prog (gl m) 33 [S p] (.tup [S (if plainP p = true then p else []), B (plainP p)]) := by
  refine snd_of (fn := Tryd.f33) (af := glit) Tryd.func33 (glit_comp m) mixed (kn_ok m) (Nat.le_of_ble_eq_true rfl) ?_
  simp only [glit, go_sem, reduceCtorEq, Nat.reduceEqDiff, reduceIte, Nat.reduceAdd, Nat.reduceSub, Nat.reduceLeDiff, Int.reduceToNat, Nat.reduceBEq]
  refine of_call (gis_snd p (by omega)) ?_
  cases h1 : isPat p with
  | false =>
    have e : plainP p = false := by rw [plainP, h1]; rfl
    simp only [e, unVal, go_sem, reduceCtorEq, Nat.reduceEqDiff, reduceIte, Nat.reduceAdd, Nat.reduceSub, Nat.reduceLeDiff, Int.reduceToNat, Nat.reduceBEq]
  | true =>
    simp only [unVal, go_sem, reduceCtorEq, Nat.reduceEqDiff, reduceIte, Nat.reduceAdd, Nat.reduceSub, Nat.reduceLeDiff, Int.reduceToNat, Nat.reduceBEq]
    refine of_call (pis_snd p (by omega)) ?_
    cases h2 : isPath p with
    | false =>
      have e : plainP p = false := by rw [plainP, h2]; simp
      simp only [e, unVal, go_sem, reduceCtorEq, Nat.reduceEqDiff, reduceIte, Nat.reduceAdd, Nat.reduceSub, Nat.reduceLeDiff, Int.reduceToNat, Nat.reduceBEq]
    | true =>
      simp only [unVal, go_sem, reduceCtorEq, Nat.reduceEqDiff, reduceIte, Nat.reduceAdd, Nat.reduceSub, Nat.reduceLeDiff, Int.reduceToNat, Nat.reduceBEq]
      refine of_call (containsAny2_snd p (by omega)) ?_
      cases h3 : p.any special with
      | true =>
        have e : plainP p = false := by rw [plainP, h3]; simp
        simp only [e, go_sem, reduceCtorEq, Nat.reduceEqDiff, reduceIte, Nat.reduceAdd, Nat.reduceSub, Nat.reduceLeDiff, Int.reduceToNat, Nat.reduceBEq]
      | false =>
        have e : plainP p = true := by rw [plainP, h1, h2, h3]; rfl
        simp only [e, go_sem, reduceCtorEq, Nat.reduceEqDiff, reduceIte, Nat.reduceAdd, Nat.reduceSub, Nat.reduceLeDiff, Int.reduceToNat, Nat.reduceBEq]
theorem gcov_snd (p q : Ln.Bs) (hp : p.length ≤ 1048575) (hq : q.length ≤ 1048575) : Snd Tryd.prog (gl m) 40 [S p, S q] (B (plainP q && matchF p q)) := by
  refine snd_of (fn := Tryd.f40) (af := gcov) Tryd.func40 (gcov_comp m) mixed (kn_ok m) (Nat.le_of_ble_eq_true rfl) ?_
  simp only [gcov, go_sem, reduceCtorEq, Nat.reduceEqDiff, reduceIte, Nat.reduceAdd, Nat.reduceSub, Nat.reduceLeDiff, Int.reduceToNat, Nat.reduceBEq]
  refine of_call (glit_snd q (by omega)) ?_
  cases h : plainP q with
  | false => simp only [Bool.false_and, go_sem, reduceCtorEq, Nat.reduceEqDiff, reduceIte, Nat.reduceAdd, Nat.reduceSub, Nat.reduceLeDiff, Int.reduceToNat, Nat.reduceBEq]
  | true =>
    simp only [go_sem, reduceCtorEq, Nat.reduceEqDiff, reduceIte, Nat.reduceAdd, Nat.reduceSub, Nat.reduceLeDiff, Int.reduceToNat, Nat.reduceBEq]
    refine of_call (gmatch_snd p q (by omega) (by omega)) ?_
    simp only [Bool.true_and, go_sem, reduceCtorEq, Nat.reduceEqDiff, reduceIte, Nat.reduceAdd, Nat.reduceSub, Nat.reduceLeDiff, Int.reduceToNat, Nat.reduceBEq]

def r7lit_l0' : AC := .seq (.seq (.reg (.seq [⟨(some (13, false)), none, .mov (.tmp 4 true) .peek⟩,
      ⟨(some (14, false)), none, .mov (.tmp 0 true) .peek⟩,
      ⟨(some (15, false)), none, .len (.tmp 14 false)⟩,
      ⟨(some (16, false)), none, .bin .lss (.tmp 13 false) (.tmp 15 false)⟩])) [0, 4, 16] []
  (.cond (.tmp 16 false)
    (.skip)
    (.exit 0))) [0, 4] []
  (.seq (.block 1 (.seq (.reg (.seq [⟨(some (19, false)), none, .mov (.tmp 0 true) .peek⟩,
      ⟨(some (20, false)), none, .mov (.tmp 4 true) .peek⟩,
      ⟨(some (21, false)), none, .idx (.tmp 19 false) (.tmp 20 false)⟩,
      ⟨(some (22, false)), none, .bin .eql (.tmp 21 false) (.cst (.int .u8 63) (.lit (.int .u8 63)))⟩,
      ⟨(some (23, false)), none, .mov (.tmp 22 false) .peek⟩,
      ⟨(some (24, false)), (some (23, false)), .mov (.tmp 0 true) .peek⟩,
      ⟨(some (25, false)), (some (23, false)), .mov (.tmp 4 true) .peek⟩,
      ⟨(some (26, false)), (some (23, false)), .idx (.tmp 24 false) (.tmp 25 false)⟩,
      ⟨(some (27, false)), (some (23, false)), .bin .eql (.tmp 26 false) (.cst (.int .u8 42) (.lit (.int .u8 42)))⟩,
      ⟨(some (28, false)), none, .pick (.tmp 23 false) (.cst (.bool true) (.lit (.bool true))) (.tmp 27 false)⟩,
      ⟨(some (29, false)), none, .mov (.tmp 28 false) .peek⟩,
      ⟨(some (30, false)), (some (29, false)), .mov (.tmp 0 true) .peek⟩,
      ⟨(some (31, false)), (some (29, false)), .mov (.tmp 4 true) .peek⟩,
      ⟨(some (32, false)), (some (29, false)), .idx (.tmp 30 false) (.tmp 31 false)⟩,
      ⟨(some (33, false)), (some (29, false)), .bin .eql (.tmp 32 false) (.cst (.int .u8 91) (.lit (.int .u8 91)))⟩,
      ⟨(some (34, false)), none, .pick (.tmp 29 false) (.cst (.bool true) (.lit (.bool true))) (.tmp 33 false)⟩,
      ⟨(some (35, false)), none, .mov (.tmp 34 false) .peek⟩,
      ⟨(some (36, false)), (some (35, false)), .mov (.tmp 0 true) .peek⟩,
      ⟨(some (37, false)), (some (35, false)), .mov (.tmp 4 true) .peek⟩,
      ⟨(some (38, false)), (some (35, false)), .idx (.tmp 36 false) (.tmp 37 false)⟩,
      ⟨(some (39, false)), (some (35, false)), .bin .eql (.tmp 38 false) (.cst (.int .u8 92) (.lit (.int .u8 92)))⟩,
      ⟨(some (40, false)), none, .pick (.tmp 35 false) (.cst (.bool true) (.lit (.bool true))) (.tmp 39 false)⟩])) [0, 4, 40] []
    (.cond (.tmp 40 false)
      (.seq (.reg (.seq [⟨(some (2, true)), none, .mov (.cst (.string (str [])) (.lit (.string (str [])))) .asg⟩,
      ⟨(some (3, true)), none, .mov (.cst (.bool false) (.lit (.bool false))) .asg⟩])) [2, 3] []
      (.ret))
      (.skip)))) [0, 4] []
  (.reg (.seq [⟨(some (17, false)), none, .mov (.tmp 4 true) .peek⟩,
      ⟨(some (18, false)), none, .bin .add (.tmp 17 false) (.cst (.int .i64 1) (.lit (.int .i64 1)))⟩,
      ⟨(some (4, true)), none, .mov (.tmp 18 false) .asg⟩])))
def r7lit_l0 : AC := r7lit_l0'
theorem r7lit_l0_w (C : Kn) (K : Ex → St → Prop) (s : St) : vcC C r7lit_l0 K s = vcC C r7lit_l0' K s := nr rfl
def r7lit_k1' : AC := .seq (.reg (.seq [⟨(some (41, false)), none, .mov (.tmp 0 true) .take⟩,
      ⟨(some (2, true)), none, .mov (.tmp 41 false) .asg⟩,
      ⟨(some (3, true)), none, .mov (.cst (.bool true) (.lit (.bool true))) .asg⟩])) [2, 3] []
  (.ret)
def r7lit_k1 : AC := r7lit_k1'
theorem r7lit_k1_w (C : Kn) (K : Ex → St → Prop) (s : St) : vcC C r7lit_k1 K s = vcC C r7lit_k1' K s := nr rfl
def r7lit : AF := ⟨.seq (.reg (.seq [⟨(some (2, true)), none, .mov (.cst (.string (str [])) (.lit (.string (str [])))) .asg⟩,
      ⟨(some (3, true)), none, .mov (.cst (.bool false) (.lit (.bool false))) .asg⟩])) [0] []
  (.seq (.seq (.reg (.seq [⟨(some (5, false)), none, .mov (.tmp 0 true) .peek⟩,
      ⟨(some (6, false)), none, .call 36 [(.tmp 5 false)]⟩,
      ⟨(some (7, false)), none, .un .not (.tmp 6 false)⟩,
      ⟨(some (8, false)), none, .mov (.tmp 7 false) .peek⟩,
      ⟨(some (9, false)), (some (8, false)), .mov (.tmp 0 true) .peek⟩,
      ⟨(some (10, false)), (some (8, false)), .call 42 [(.tmp 9 false)]⟩,
      ⟨(some (11, false)), (some (8, false)), .un .not (.tmp 10 false)⟩,
      ⟨(some (12, false)), none, .pick (.tmp 8 false) (.cst (.bool true) (.lit (.bool true))) (.tmp 11 false)⟩])) [0, 12] []
  (.cond (.tmp 12 false)
    (.seq (.reg (.seq [⟨(some (2, true)), none, .mov (.cst (.string (str [])) (.lit (.string (str [])))) .asg⟩,
      ⟨(some (3, true)), none, .mov (.cst (.bool false) (.lit (.bool false))) .asg⟩])) [2, 3] []
    (.ret))
    (.skip))) [0] []
  (.seq (.seq (.reg (.seq [⟨(some (4, true)), none, .mov (.cst (.int .i64 0) (.lit (.int .i64 0))) .asg⟩])) [0, 4] []
  (.block 0 (.loop [0, 4] [] r7lit_l0))) [0] [] r7lit_k1)),
  [.tmp 2, .tmp 3]⟩
theorem r7lit_comp (m : Int) : compF Tryd.prog (gl m) [] Tryd.f34 = some r7lit := by kernel_rfl
def r7cov : AF := ⟨.seq (.reg (.seq [⟨(some (4, true)), none, .mov (.cst (.bool false) (.lit (.bool false))) .asg⟩])) [0, 1] []
  (.seq (.reg (.seq [⟨(some (8, false)), none, .mov (.tmp 1 true) .peek⟩,
      ⟨(some (9, false)), none, .call 34 [(.tmp 8 false)]⟩,
      ⟨(some (7, false)), none, .mov (.tmp 9 false) .peek⟩,
      ⟨(some (10, false)), none, .ext (.tmp 7 false) 0⟩,
      ⟨(some (11, false)), none, .ext (.tmp 7 false) 1⟩,
      ⟨(some (5, true)), none, .mov (.tmp 10 false) .asg⟩,
      ⟨(some (6, true)), none, .mov (.tmp 11 false) .asg⟩])) [0, 5, 6] []
  (.seq (.reg (.seq [⟨(some (12, false)), none, .mov (.tmp 6 true) .peek⟩,
      ⟨(some (13, false)), none, .mov (.tmp 12 false) .peek⟩,
      ⟨(some (14, false)), (some (13, true)), .mov (.tmp 0 true) .peek⟩,
      ⟨(some (15, false)), (some (13, true)), .mov (.tmp 5 true) .peek⟩,
      ⟨(some (16, false)), (some (13, true)), .call 39 [(.tmp 14 false), (.tmp 15 false)]⟩,
      ⟨(some (17, false)), none, .pick (.tmp 13 false) (.tmp 16 false) (.cst (.bool false) (.lit (.bool false)))⟩,
      ⟨(some (4, true)), none, .mov (.tmp 17 false) .asg⟩])) [4] []
  (.ret))),
  [.tmp 4]⟩
theorem r7cov_comp (m : Int) : compF Tryd.prog (gl m) [] Tryd.f41 = some r7cov := by kernel_rfl
theorem r7lit_loop (p : Ln.Bs) (hp : p.length ≤ 1048576) (n : Nat) : ∀ (i : Nat) (hn : p.length - i = n) (hi : i ≤ p.length),
    vcL (kn m) [0, 4] [] r7lit_l0 (blockK 0 (seqK (kn m) [0] [] r7lit_k1 (outOk [.tmp 2, .tmp 3] (.tup [S (if (p.drop i).any special = true then [] else p), B (!(p.drop i).any special)])))) (mkS [(0, S p), (4, N i)] []) := by
  induction n with
  | zero =>
    intro i hn hi
    rw [List.drop_of_length_le (by omega)]
    apply round
    simp only [r7lit_l0_w, r7lit_l0', go_sem, reduceCtorEq, Nat.reduceEqDiff, reduceIte, Nat.reduceAdd, Nat.reduceSub, Nat.reduceLeDiff, Int.reduceToNat, Nat.reduceBEq]
    rw [lt_f (by omega)]
    simp only [r7lit_k1_w, r7lit_k1', List.any_nil, Bool.not_false, go_sem, reduceCtorEq, Nat.reduceEqDiff, reduceIte, Nat.reduceAdd, Nat.reduceSub, Nat.reduceLeDiff, Int.reduceToNat, Nat.reduceBEq]
  | succ n ih =>
    intro i hn hi
    have hil : i < p.length := by omega
    have hw : IntKind.i64.wrap ((i : Int) + 1) = ((i + 1 : Nat) : Int) := wrapN (i + 1) (by omega) (by omega)
    have e : (p.drop i).any special = (special p[i] || (p.drop (i + 1)).any special) := by rw [List.drop_eq_getElem_cons hil, List.any_cons]
    rw [e]
    apply round
    simp only [r7lit_l0_w, r7lit_l0', go_sem, reduceCtorEq, Nat.reduceEqDiff, reduceIte, Nat.reduceAdd, Nat.reduceSub, Nat.reduceLeDiff, Int.reduceToNat, Nat.reduceBEq]
    rw [lt_t hil]
    simp only [getE hil, go_sem, reduceCtorEq, Nat.reduceEqDiff, reduceIte, Nat.reduceAdd, Nat.reduceSub, Nat.reduceLeDiff, Int.reduceToNat, Nat.reduceBEq]
    refine ⟨by omega, ?_⟩
    by_cases h1 : p[i] = 63
    · rw [u8b_t (n := 63) h1 rfl]
      have hs : special p[i] = true := by rw [h1]; rfl
      simp only [hs, Bool.true_or, Bool.not_true, go_sem, reduceCtorEq, Nat.reduceEqDiff, reduceIte, Nat.reduceAdd, Nat.reduceSub, Nat.reduceLeDiff, Int.reduceToNat, Nat.reduceBEq]
    · rw [u8b_f (n := 63) h1 rfl]
      simp only [getE hil, go_sem, reduceCtorEq, Nat.reduceEqDiff, reduceIte, Nat.reduceAdd, Nat.reduceSub, Nat.reduceLeDiff, Int.reduceToNat, Nat.reduceBEq]
      refine ⟨by omega, ?_⟩
      by_cases h2 : p[i] = 42
      · rw [u8b_t (n := 42) h2 rfl]
        have hs : special p[i] = true := by rw [h2]; rfl
        simp only [hs, Bool.true_or, Bool.not_true, go_sem, reduceCtorEq, Nat.reduceEqDiff, reduceIte, Nat.reduceAdd, Nat.reduceSub, Nat.reduceLeDiff, Int.reduceToNat, Nat.reduceBEq]
      · rw [u8b_f (n := 42) h2 rfl]
        simp only [getE hil, go_sem, reduceCtorEq, Nat.reduceEqDiff, reduceIte, Nat.reduceAdd, Nat.reduceSub, Nat.reduceLeDiff, Int.reduceToNat, Nat.reduceBEq]
        refine ⟨by omega, ?_⟩
        by_cases h3 : p[i] = 91
        · rw [u8b_t (n := 91) h3 rfl]
          have hs : special p[i] = true := by rw [h3]; rfl
          simp only [hs, Bool.true_or, Bool.not_true, go_sem, reduceCtorEq, Nat.reduceEqDiff, reduceIte, Nat.reduceAdd, Nat.reduceSub, Nat.reduceLeDiff, Int.reduceToNat, Nat.reduceBEq]
        · rw [u8b_f (n := 91) h3 rfl]
          simp only [getE hil, go_sem, reduceCtorEq, Nat.reduceEqDiff, reduceIte, Nat.reduceAdd, Nat.reduceSub, Nat.reduceLeDiff, Int.reduceToNat, Nat.reduceBEq]
          refine ⟨by omega, ?_⟩
          by_cases h4 : p[i] = 92
          · rw [u8b_t (n := 92) h4 rfl]
            have hs : special p[i] = true := by rw [h4]; rfl
            simp only [hs, Bool.true_or, Bool.not_true, go_sem, reduceCtorEq, Nat.reduceEqDiff, reduceIte, Nat.reduceAdd, Nat.reduceSub, Nat.reduceLeDiff, Int.reduceToNat, Nat.reduceBEq]
          · rw [u8b_f (n := 92) h4 rfl]
            have hs : special p[i] = false := by simp [special, h1, h2, h3, h4]
            simp only [hs, Bool.false_or, hw, go_sem, reduceCtorEq, Nat.reduceEqDiff, reduceIte, Nat.reduceAdd, Nat.reduceSub, Nat.reduceLeDiff, Int.reduceToNat, Nat.reduceBEq]
            exact ih (i + 1) (by omega) (by omega)
theorem r7lit_snd (p : Ln.Bs) (hp : p.length ≤ 1048575) : Snd Tryd.prog (gl m) 34 [S p] (.tup [S (if plainP p = true then p else []), B (plainP p)]) := by
  refine snd_of (fn := Tryd.f34) (af := r7lit) Tryd.func34 (r7lit_comp m) mixed (kn_ok m) (Nat.le_of_ble_eq_true rfl) ?_
  simp only [r7lit, go_sem, reduceCtorEq, Nat.reduceEqDiff, reduceIte, Nat.reduceAdd, Nat.reduceSub, Nat.reduceLeDiff, Int.reduceToNat, Nat.reduceBEq]
  refine of_call (r7is_snd p (by omega)) ?_
  cases h1 : isPat p with
  | false =>
    have e : plainP p = false := by rw [plainP, h1]; rfl
    simp only [e, unVal, go_sem, reduceCtorEq, Nat.reduceEqDiff, reduceIte, Nat.reduceAdd, Nat.reduceSub, Nat.reduceLeDiff, Int.reduceToNat, Nat.reduceBEq]
  | true =>
    simp only [unVal, go_sem, reduceCtorEq, Nat.reduceEqDiff, reduceIte, Nat.reduceAdd, Nat.reduceSub, Nat.reduceLeDiff, Int.reduceToNat, Nat.reduceBEq]
    refine of_call (ris_snd p (by omega)) ?_
    cases h2 : isPath p with
    | false =>
      have e : plainP p = false := by rw [plainP, h2]; simp
      simp only [e, unVal, go_sem, reduceCtorEq, Nat.reduceEqDiff, reduceIte, Nat.reduceAdd, Nat.reduceSub, Nat.reduceLeDiff, Int.reduceToNat, Nat.reduceBEq]
    | true =>
      have e : plainP p = !p.any special := by rw [plainP, h1, h2]; rfl
      have e2 : (if plainP p = true then p else []) = if (p.drop 0).any special = true then [] else p := by rw [e, List.drop_zero]; cases p.any special <;> rfl
      rw [e2, e]
      simp only [unVal, go_sem, reduceCtorEq, Nat.reduceEqDiff, reduceIte, Nat.reduceAdd, Nat.reduceSub, Nat.reduceLeDiff, Int.reduceToNat, Nat.reduceBEq]
      exact r7lit_loop p (by omega) _ 0 rfl (by omega)
theorem r7cov_snd (p q : Ln.Bs) (hp : p.length ≤ 1048575) (hq : q.length ≤ 1048575) : Snd Tryd.prog (gl m) 41 [S p, S q] (B (plainP q && matchF p q)) := by
  refine snd_of (fn := Tryd.f41) (af := r7cov) Tryd.func41 (r7cov_comp m) mixed (kn_ok m) (Nat.le_of_ble_eq_true rfl) ?_
  simp only [r7cov, go_sem, reduceCtorEq, Nat.reduceEqDiff, reduceIte, Nat.reduceAdd, Nat.reduceSub, Nat.reduceLeDiff, Int.reduceToNat, Nat.reduceBEq]
  refine of_call (r7lit_snd q (by omega)) ?_
  cases h : plainP q with
  | false => simp only [Bool.false_and, go_sem, reduceCtorEq, Nat.reduceEqDiff, reduceIte, Nat.reduceAdd, Nat.reduceSub, Nat.reduceLeDiff, Int.reduceToNat, Nat.reduceBEq]
  | true =>
    simp only [go_sem, reduceCtorEq, Nat.reduceEqDiff, reduceIte, Nat.reduceAdd, Nat.reduceSub, Nat.reduceLeDiff, Int.reduceToNat, Nat.reduceBEq]
    refine of_call (r7match_snd p q (by omega) (by omega)) ?_
    simp only [Bool.true_and, go_sem, reduceCtorEq, Nat.reduceEqDiff, reduceIte, Nat.reduceAdd, Nat.reduceSub, Nat.reduceLeDiff, Int.reduceToNat, Nat.reduceBEq]
end Go.Gb

/- GlobTells, GlobMatches -/
namespace Go.Gb
open Go Go.Ev Go.Proofs
set_option linter.unusedVariables false
set_option linter.unusedSimpArgs false
attribute [local go_sem] eqs implies_true List.map_cons List.map_nil kl klL roD roL Option.map_some Option.map_none Option.getD_some Option.getD_none binVal binObl unVal if_true if_false eq_self passA frnD resD content getH getR getW viaNot viaSlot viaBox viaDeep viaMem List.contains_cons List.contains_nil grabs peeks okCells isCell place cellsOf chunk elt List.headD_cons List.length_cons List.length_nil List.take_succ_cons List.take_zero List.drop_succ_cons List.drop_zero List.nil_append List.cons_append List.append_nil List.all_cons List.all_nil plainC takeR setW over reCell List.getElem?_cons_zero List.getElem?_cons_succ List.set_cons_zero List.take_length outV resG plainV pack outVG outBx List.set_cons_succ Ref.idx Ref.addOff beq_self_eq_true bxL Option.bind_some writeR isLit viaBoxes capsPA boxPA nsOf noDup boxesAt argG passG passD rhoIn rhoOut idxIn tr trL List.getD_cons_zero gives pasOf isPtr Ins.d List.getD_cons_succ resL frnL
variable {m : Int}

def lwTells : AF := ⟨.seq (.reg (.seq [⟨(some (2, true)), none, .mov (.cst (.bool false) (.lit (.bool false))) .asg⟩])) [0] []
  (.seq (.seq (.reg (.seq [⟨(some (7, false)), none, .mov (.tmp 0 true) .peek⟩,
      ⟨(some (8, false)), none, .len (.tmp 7 false)⟩,
      ⟨(some (9, false)), none, .bin .gtr (.tmp 8 false) (.cst (.int .i64 600) (.lit (.int .i64 600)))⟩])) [0, 9] []
  (.cond (.tmp 9 false)
    (.seq (.reg (.seq [⟨(some (10, false)), none, .call 32 []⟩,
      ⟨(some (2, true)), none, .mov (.tmp 10 false) .asg⟩])) [2] []
    (.ret))
    (.skip))) [0] []
  (.seq (.reg (.seq [⟨(some (12, false)), none, .mov (.tmp 0 true) .peek⟩,
      ⟨(some (13, false)), none, .call 33 [(.tmp 12 false)]⟩,
      ⟨(some (11, false)), none, .mov (.tmp 13 false) .peek⟩,
      ⟨(some (14, false)), none, .ext (.tmp 11 false) 0⟩,
      ⟨(some (15, false)), none, .ext (.tmp 11 false) 1⟩,
      ⟨(some (3, true)), none, .mov (.tmp 14 false) .asg⟩,
      ⟨(some (4, true)), none, .mov (.tmp 15 false) .asg⟩])) [0, 3, 4] []
  (.seq (.reg (.seq [⟨(some (17, false)), none, .mov (.tmp 0 true) .peek⟩,
      ⟨(some (18, false)), none, .call 34 [(.tmp 17 false)]⟩,
      ⟨(some (16, false)), none, .mov (.tmp 18 false) .peek⟩,
      ⟨(some (19, false)), none, .ext (.tmp 16 false) 0⟩,
      ⟨(some (20, false)), none, .ext (.tmp 16 false) 1⟩,
      ⟨(some (5, true)), none, .mov (.tmp 19 false) .asg⟩,
      ⟨(some (6, true)), none, .mov (.tmp 20 false) .asg⟩])) [0, 3, 4, 5, 6] []
  (.seq (.reg (.seq [⟨(some (21, false)), none, .mov (.tmp 0 true) .peek⟩,
      ⟨(some (22, false)), none, .call 35 [(.tmp 21 false)]⟩,
      ⟨(some (23, false)), none, .mov (.tmp 0 true) .peek⟩,
      ⟨(some (24, false)), none, .call 36 [(.tmp 23 false)]⟩,
      ⟨(some (25, false)), none, .eqb false (.tmp 22 false) (.tmp 24 false)⟩,
      ⟨(some (26, false)), none, .mov (.tmp 25 false) .peek⟩,
      ⟨(some (27, false)), (some (26, true)), .mov (.tmp 3 true) .peek⟩,
      ⟨(some (28, false)), (some (26, true)), .mov (.tmp 5 true) .peek⟩,
      ⟨(some (29, false)), (some (26, true)), .bin .eql (.tmp 27 false) (.tmp 28 false)⟩,
      ⟨(some (30, false)), none, .pick (.tmp 26 false) (.tmp 29 false) (.cst (.bool false) (.lit (.bool false)))⟩,
      ⟨(some (31, false)), none, .mov (.tmp 30 false) .peek⟩,
      ⟨(some (32, false)), (some (31, true)), .mov (.tmp 4 true) .peek⟩,
      ⟨(some (33, false)), (some (31, true)), .mov (.tmp 6 true) .peek⟩,
      ⟨(some (34, false)), (some (31, true)), .eqb false (.tmp 32 false) (.tmp 33 false)⟩,
      ⟨(some (35, false)), none, .pick (.tmp 31 false) (.tmp 34 false) (.cst (.bool false) (.lit (.bool false)))⟩,
      ⟨(some (36, false)), none, .mov (.tmp 35 false) .peek⟩,
      ⟨(some (37, false)), (some (36, true)), .call 32 []⟩,
      ⟨(some (38, false)), none, .pick (.tmp 36 false) (.tmp 37 false) (.cst (.bool false) (.lit (.bool false)))⟩,
      ⟨(some (2, true)), none, .mov (.tmp 38 false) .asg⟩])) [2] []
  (.ret))))),
  [.tmp 2]⟩
theorem lwTells_comp (m : Int) : compF Tryd.prog (gl m) [] Tryd.f7 = some lwTells := by kernel_rfl
def lwMatches : AF := ⟨.seq (.reg (.seq [⟨(some (4, true)), none, .mov (.cst (.bool false) (.lit (.bool false))) .asg⟩])) [0, 1] []
  (.seq (.seq (.reg (.seq [⟨(some (5, false)), none, .mov (.tmp 0 true) .peek⟩,
      ⟨(some (6, false)), none, .mov (.tmp 1 true) .peek⟩,
      ⟨(some (7, false)), none, .call 37 [(.tmp 5 false), (.tmp 6 false)]⟩,
      ⟨(some (8, false)), none, .un .not (.tmp 7 false)⟩])) [0, 1, 8] []
  (.cond (.tmp 8 false)
    (.seq (.reg (.seq [⟨(some (9, false)), none, .call 32 []⟩,
      ⟨(some (4, true)), none, .mov (.tmp 9 false) .asg⟩])) [4] []
    (.ret))
    (.skip))) [0, 1] []
  (.seq (.reg (.seq [⟨(some (10, false)), none, .mov (.tmp 0 true) .peek⟩,
      ⟨(some (11, false)), none, .mov (.tmp 1 true) .peek⟩,
      ⟨(some (12, false)), none, .call 38 [(.tmp 10 false), (.tmp 11 false)]⟩,
      ⟨(some (13, false)), none, .mov (.tmp 0 true) .peek⟩,
      ⟨(some (14, false)), none, .mov (.tmp 1 true) .peek⟩,
      ⟨(some (15, false)), none, .call 39 [(.tmp 13 false), (.tmp 14 false)]⟩,
      ⟨(some (16, false)), none, .eqb false (.tmp 12 false) (.tmp 15 false)⟩,
      ⟨(some (17, false)), none, .mov (.tmp 16 false) .peek⟩,
      ⟨(some (18, false)), (some (17, true)), .mov (.tmp 0 true) .peek⟩,
      ⟨(some (19, false)), (some (17, true)), .mov (.tmp 1 true) .peek⟩,
      ⟨(some (20, false)), (some (17, true)), .call 40 [(.tmp 18 false), (.tmp 19 false)]⟩,
      ⟨(some (21, false)), (some (17, true)), .mov (.tmp 0 true) .peek⟩,
      ⟨(some (22, false)), (some (17, true)), .mov (.tmp 1 true) .peek⟩,
      ⟨(some (23, false)), (some (17, true)), .call 41 [(.tmp 21 false), (.tmp 22 false)]⟩,
      ⟨(some (24, false)), (some (17, true)), .eqb false (.tmp 20 false) (.tmp 23 false)⟩,
      ⟨(some (25, false)), none, .pick (.tmp 17 false) (.tmp 24 false) (.cst (.bool false) (.lit (.bool false)))⟩,
      ⟨(some (26, false)), none, .mov (.tmp 25 false) .peek⟩,
      ⟨(some (27, false)), (some (26, true)), .call 32 []⟩,
      ⟨(some (28, false)), none, .pick (.tmp 26 false) (.tmp 27 false) (.cst (.bool false) (.lit (.bool false)))⟩,
      ⟨(some (4, true)), none, .mov (.tmp 28 false) .asg⟩])) [4] []
  (.ret))),
  [.tmp 4]⟩
theorem lwMatches_comp (m : Int) : compF Tryd.prog (gl m) [] Tryd.f8 = some lwMatches := by kernel_rfl
theorem gtells_law (p : Ln.Bs) (lp : p.length ≤ 1048575) : Snd Tryd.prog (gl m) 7 [S p] (B true) := by
  refine snd_of (fn := Tryd.f7) (af := lwTells) Tryd.func7 (lwTells_comp m) mixed (kn_ok m) (Nat.le_of_ble_eq_true rfl) ?_
  simp only [lwTells, go_sem, reduceCtorEq, Nat.reduceEqDiff, reduceIte, Nat.reduceAdd, Nat.reduceSub, Nat.reduceLeDiff, Int.reduceToNat, Nat.reduceBEq]
  by_cases h : 600 < p.length
  · rw [igt_t (by omega)]
    simp only [go_sem, reduceCtorEq, Nat.reduceEqDiff, reduceIte, Nat.reduceAdd, Nat.reduceSub, Nat.reduceLeDiff, Int.reduceToNat, Nat.reduceBEq]
    refine of_call glives_snd ?_
    simp only [go_sem, reduceCtorEq, Nat.reduceEqDiff, reduceIte, Nat.reduceAdd, Nat.reduceSub, Nat.reduceLeDiff, Int.reduceToNat, Nat.reduceBEq]
  · rw [igt_f (by omega)]
    simp only [go_sem, reduceCtorEq, Nat.reduceEqDiff, reduceIte, Nat.reduceAdd, Nat.reduceSub, Nat.reduceLeDiff, Int.reduceToNat, Nat.reduceBEq]
    refine of_call (glit_snd p (by omega)) ?_
    simp only [go_sem, reduceCtorEq, Nat.reduceEqDiff, reduceIte, Nat.reduceAdd, Nat.reduceSub, Nat.reduceLeDiff, Int.reduceToNat, Nat.reduceBEq]
    refine of_call (r7lit_snd p (by omega)) ?_
    simp only [go_sem, reduceCtorEq, Nat.reduceEqDiff, reduceIte, Nat.reduceAdd, Nat.reduceSub, Nat.reduceLeDiff, Int.reduceToNat, Nat.reduceBEq]
    refine of_call (gis_snd p (by omega)) ?_
    simp only [go_sem, reduceCtorEq, Nat.reduceEqDiff, reduceIte, Nat.reduceAdd, Nat.reduceSub, Nat.reduceLeDiff, Int.reduceToNat, Nat.reduceBEq]
    refine of_call (r7is_snd p (by omega)) ?_
    simp only [beq_self_eq_true, go_sem, reduceCtorEq, Nat.reduceEqDiff, reduceIte, Nat.reduceAdd, Nat.reduceSub, Nat.reduceLeDiff, Int.reduceToNat, Nat.reduceBEq]
    refine of_call glives_snd ?_
    simp only [go_sem, reduceCtorEq, Nat.reduceEqDiff, reduceIte, Nat.reduceAdd, Nat.reduceSub, Nat.reduceLeDiff, Int.reduceToNat, Nat.reduceBEq]
theorem gmatches_law (p s : Ln.Bs) (lp : p.length ≤ 1048575) (ls : s.length ≤ 1048575) : Snd Tryd.prog (gl m) 8 [S p, S s] (B true) := by
  refine snd_of (fn := Tryd.f8) (af := lwMatches) Tryd.func8 (lwMatches_comp m) mixed (kn_ok m) (Nat.le_of_ble_eq_true rfl) ?_
  simp only [lwMatches, go_sem, reduceCtorEq, Nat.reduceEqDiff, reduceIte, Nat.reduceAdd, Nat.reduceSub, Nat.reduceLeDiff, Int.reduceToNat, Nat.reduceBEq]
  refine of_call (few_snd p s) ?_
  cases hf : (decide (p.length ≤ 14) && decide (s.length ≤ 14)) with
  | false =>
    simp only [unVal, go_sem, reduceCtorEq, Nat.reduceEqDiff, reduceIte, Nat.reduceAdd, Nat.reduceSub, Nat.reduceLeDiff, Int.reduceToNat, Nat.reduceBEq]
    refine of_call glives_snd ?_
    simp only [go_sem, reduceCtorEq, Nat.reduceEqDiff, reduceIte, Nat.reduceAdd, Nat.reduceSub, Nat.reduceLeDiff, Int.reduceToNat, Nat.reduceBEq]
  | true =>
    simp only [unVal, go_sem, reduceCtorEq, Nat.reduceEqDiff, reduceIte, Nat.reduceAdd, Nat.reduceSub, Nat.reduceLeDiff, Int.reduceToNat, Nat.reduceBEq]
    refine of_call (gmatch_snd p s (by omega) (by omega)) ?_
    simp only [go_sem, reduceCtorEq, Nat.reduceEqDiff, reduceIte, Nat.reduceAdd, Nat.reduceSub, Nat.reduceLeDiff, Int.reduceToNat, Nat.reduceBEq]
    refine of_call (r7match_snd p s (by omega) (by omega)) ?_
    simp only [beq_self_eq_true, go_sem, reduceCtorEq, Nat.reduceEqDiff, reduceIte, Nat.reduceAdd, Nat.reduceSub, Nat.reduceLeDiff, Int.reduceToNat, Nat.reduceBEq]
    refine of_call (gcov_snd p s (by omega) (by omega)) ?_
    simp only [go_sem, reduceCtorEq, Nat.reduceEqDiff, reduceIte, Nat.reduceAdd, Nat.reduceSub, Nat.reduceLeDiff, Int.reduceToNat, Nat.reduceBEq]
    refine of_call (r7cov_snd p s (by omega) (by omega)) ?_
    simp only [beq_self_eq_true, go_sem, reduceCtorEq, Nat.reduceEqDiff, reduceIte, Nat.reduceAdd, Nat.reduceSub, Nat.reduceLeDiff, Int.reduceToNat, Nat.reduceBEq]
    refine of_call glives_snd ?_
    simp only [go_sem, reduceCtorEq, Nat.reduceEqDiff, reduceIte, Nat.reduceAdd, Nat.reduceSub, Nat.reduceLeDiff, Int.reduceToNat, Nat.reduceBEq]
end Go.Gb

