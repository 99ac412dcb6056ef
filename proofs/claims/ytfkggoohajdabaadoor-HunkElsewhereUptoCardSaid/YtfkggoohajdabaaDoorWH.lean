import Derived.Test.YtfkggoohajdabaaDoorWB
import Derived.Test.YtfkggoohajdabaaDoorPA
import Derived.Test.YtfkggoohajdabaaDoorWE
import Derived.Test.YtfkggoohajdabaaDoorWF
import Derived.Test.YtfkggoohajdabaaDoorWG
set_option linter.unusedVariables false
set_option linter.unusedSimpArgs false
/- The hunks of a script are not too many, not too long. -/
namespace Go.Hk
open Go.Ln (Bs)
set_option linter.unusedVariables false
set_option linter.unusedSimpArgs false
theorem right_len {a b : List Bs} {l : List Ed} (h : right a b l = true) : l.length ≤ a.length + b.length := by
  have key : ∀ i, i ≤ l.length → ∀ q, scS a b l i = some q → (i : Int) ≤ q.1 + q.2 := by
    intro i
    induction i with
    | zero => intro _ q hq; cases hq; decide
    | succ i ih =>
      intro hi q hq
      obtain ⟨p, hp, hG, _, hs⟩ := good_of h (show i < l.length by omega)
      rw [hs] at hq; cases hq
      have := ih (by omega) p hp
      have g1 := hG.f; have g2 := hG.t; have g3 := hG.d; have g4 := hG.i; have g5 := hG.ne
      dsimp only
      omega
  rw [right] at h
  cases hq : scS a b l l.length with
  | none => rw [hq] at h; cases h
  | some q =>
    have := key l.length (Nat.le_refl _) q hq
    have := scS_bound hq
    omega
def inAB (a b : List Bs) (L : List HL) : Prop := ∀ x, x ∈ L → x.2 ∈ a ∨ x.2 ∈ b
theorem sl_mem {a : List Bs} {i j : Int} {s : Bs} (h : s ∈ sl a i j) : s ∈ a := List.mem_of_mem_drop (List.mem_of_mem_take h)
theorem sl_le2 (a : List Bs) (i j : Int) : (sl a i j).length ≤ a.length := by rw [sl, List.length_take, List.length_drop]; omega
theorem edLines_le2 (a b : List Bs) (at_ : Int) (e : Ed) : (edLines a b at_ e).length ≤ 2 * a.length + b.length := by
  have h1 := sl_le2 a at_ e.1
  have h2 := sl_le2 a e.1 (e.1 + e.2.1)
  have h3 := sl_le2 b e.2.2.1 (e.2.2.1 + e.2.2.2)
  rw [edLines, List.length_append, List.length_append, kL_len, kL_len, kL_len]; omega
theorem kL_mem {k : Int} {L : List Bs} {x : HL} (h : x ∈ kL k L) : x.2 ∈ L := by
  obtain ⟨s, hs, rfl⟩ := List.mem_map.1 h; exact hs
theorem edLines_in (a b : List Bs) (at_ : Int) (e : Ed) : inAB a b (edLines a b at_ e) := by
  intro x hx
  rw [edLines, List.mem_append, List.mem_append] at hx
  rcases hx with (h | h) | h
  · exact .inl (sl_mem (kL_mem h))
  · exact .inl (sl_mem (kL_mem h))
  · exact .inr (sl_mem (kL_mem h))
theorem inAB.app {a b : List Bs} {L M : List HL} (h : inAB a b L) (h' : inAB a b M) : inAB a b (L ++ M) := fun x hx => (List.mem_append.1 hx).elim (h x) (h' x)
structure OfOk (a b : List Bs) (i : Nat) (q : OfT) : Prop where
  n : q.1.length ≤ i
  o : ∀ h, h ∈ q.1 → h.2.2.length ≤ (i + 1) * (2 * a.length + b.length) ∧ inAB a b h.2.2
  c : q.2.1.2.2.length ≤ (i + 1) * (2 * a.length + b.length) ∧ inAB a b q.2.1.2.2
theorem closeP_ok {a b : List Bs} {n : Int} {cur : Hk} {e : Int} {i : Nat} (h : cur.2.2.length ≤ (i + 1) * (2 * a.length + b.length) ∧ inAB a b cur.2.2) : (closeP a n cur e).2.2.length ≤ (i + 2) * (2 * a.length + b.length) ∧ inAB a b (closeP a n cur e).2.2 := by
  have hs := sl_le2 a e (min (e + n) a.length)
  refine ⟨?_, ?_⟩
  · show (cur.2.2 ++ kL 1 _).length ≤ _
    rw [List.length_append, kL_len]
    have : (i + 2) * (2 * a.length + b.length) = (i + 1) * (2 * a.length + b.length) + (2 * a.length + b.length) := by rw [Nat.succ_mul]
    omega
  · exact h.2.app fun x hx => .inl (sl_mem (kL_mem hx))
theorem ofI_ok (a b : List Bs) (n : Int) (l : List Ed) : ∀ i, i < l.length → ∃ q, ofI a b n (l.take (i + 1)) = some q ∧ OfOk a b i q := by
  intro i
  induction i with
  | zero =>
    intro hi
    cases l with
    | nil => simp at hi
    | cons e l =>
      refine ⟨_, rfl, Nat.le_refl _, fun h hm => by simp at hm, ?_, ?_⟩
      · have := edLines_le2 a b (e.1 - min n e.1) e
        simp only [List.take_succ_cons, List.take_zero, List.foldl_nil, startP]; omega
      · exact edLines_in _ _ _ _
  | succ i ih =>
    intro hi
    obtain ⟨q, hq, h1, h2, h3⟩ := ih (by omega)
    have ht : l.take (i + 1 + 1) = l.take (i + 1) ++ [l[i + 1]] := by rw [List.take_add_one, List.getElem?_eq_getElem hi]; rfl
    rw [ht, ofI_snoc a b n _ hq]
    have hm : (i + 1 + 1) * (2 * a.length + b.length) = (i + 1) * (2 * a.length + b.length) + (2 * a.length + b.length) := by rw [Nat.succ_mul]
    refine ⟨_, rfl, ?_⟩
    rw [ofStep]
    split
    · refine ⟨by dsimp only; omega, fun h hh => ?_, ?_, ?_⟩
      · have := h2 h hh; exact ⟨by omega, this.2⟩
      · have := edLines_le2 a b q.2.2 l[i + 1]
        simp only [extP, List.length_append]; omega
      · exact h3.2.app (edLines_in _ _ _ _)
    · refine ⟨by simp; omega, fun h hh => ?_, ?_, ?_⟩
      · rcases List.mem_append.1 hh with hh | hh
        · have := h2 h hh; exact ⟨by omega, this.2⟩
        · rw [List.mem_singleton] at hh
          subst hh
          exact closeP_ok h3
      · have := edLines_le2 a b (l[i + 1].1 - min n l[i + 1].1) l[i + 1]
        simp only [startP]; omega
      · exact edLines_in _ _ _ _
theorem ofF_ok {a b : List Bs} {l : List Ed} {n : Int} (ha : a.length ≤ 40) (hb : b.length ≤ 40) (has : ∀ x, x ∈ a → x.length ≤ 1048576) (hbs : ∀ x, x ∈ b → x.length ≤ 1048576) : okHs (ofF a b l n) ∧ (ofF a b l n).length ≤ 80 ∧ ∀ h, h ∈ ofF a b l n → h.2.2.length ≤ 16384 := by
  rw [ofF]
  split
  rotate_left
  · exact ⟨⟨by simp, fun h hh => by simp at hh⟩, by simp, fun h hh => by simp at hh⟩
  rename_i hc
  have hlen := right_len hc.2.2
  rw [ofW]
  cases hl : l with
  | nil => exact ⟨⟨by simp [ofI], fun h hh => by simp [ofI] at hh⟩, by simp [ofI], fun h hh => by simp [ofI] at hh⟩
  | cons e t =>
    rw [← hl]
    obtain ⟨q, hq, h1, h2, h3⟩ := ofI_ok a b (clampN n) l (l.length - 1) (by rw [hl]; simp)
    have hl1 : l.length - 1 + 1 = l.length := by rw [hl]; simp
    rw [hl1, List.take_length] at hq
    rw [hq]
    dsimp only
    have hm : ∀ h, h ∈ q.1 ++ [closeP a (clampN n) q.2.1 q.2.2] → h.2.2.length ≤ 16384 ∧ inAB a b h.2.2 := fun h hh => by
      have big : (l.length - 1 + 2) * (2 * a.length + b.length) ≤ 82 * 120 := Nat.mul_le_mul (by omega) (by omega)
      have hmul : (l.length - 1 + 1) * (2 * a.length + b.length) ≤ (l.length - 1 + 2) * (2 * a.length + b.length) := Nat.mul_le_mul_right _ (by omega)
      rcases List.mem_append.1 hh with hh | hh
      · have := h2 h hh; exact ⟨by omega, this.2⟩
      · rw [List.mem_singleton] at hh
        subst hh
        have := closeP_ok (n := clampN n) (e := q.2.2) h3
        exact ⟨by omega, this.2⟩
    refine ⟨⟨by rw [List.length_append, List.length_singleton]; omega, fun h hh => ⟨by have := (hm h hh).1; omega, fun x hx => ?_⟩⟩, by rw [List.length_append, List.length_singleton]; omega, fun h hh => (hm h hh).1⟩
    rcases (hm h hh).2 x hx with h' | h'
    · exact has _ h'
    · exact hbs _ h'
end Go.Hk
namespace Go.Hk
open Go Go.Ev Go.Proofs
set_option linter.unusedVariables false
set_option linter.unusedSimpArgs false
set_option maxHeartbeats 4000000
attribute [local go_sem] eqs implies_true List.map_cons List.map_nil kl klL roD roL Option.map_some Option.map_none Option.getD_some Option.getD_none binVal binObl unVal if_true if_false eq_self passA frnD resD content getH getR getW viaNot viaSlot viaBox viaDeep viaMem List.contains_cons List.contains_nil grabs peeks okCells isCell place cellsOf chunk elt List.headD_cons List.length_cons List.length_nil List.take_succ_cons List.take_zero List.drop_succ_cons List.drop_zero List.nil_append List.cons_append List.append_nil List.all_cons List.all_nil plainC takeR setW over reCell List.getElem?_cons_zero List.getElem?_cons_succ List.set_cons_zero List.take_length outV resG plainV pack outVG outBx List.set_cons_succ Ref.idx Ref.addOff beq_self_eq_true bxL Option.bind_some writeR isLit viaBoxes capsPA boxPA nsOf noDup boxesAt argG passG passD rhoIn rhoOut idxIn tr trL List.getD_cons_zero gives pasOf isPtr Ins.d List.getD_cons_succ resL frnL partB_f partB_t partB_p partB_s St.setP mixR v_slcT List.getLast?_nil List.getLast?_singleton List.dropLast_singleton List.nil_append frnL_fs roL_fs resL_fs passL_fs klL_fs trL_fs map_roD_fs fs_length hS_length frnL_hS roL_hS_own roL_hS_frn roL_hS_ro resL_hS_own resL_hS_ro klL_hS klL_hS_own klL_hS_frn passL_hS_own passL_hS_frn trL_hS_own trL_hS_frn frnL_ns resL_ns roL_ns passL_ns klL_ns
variable {m : Int × Bool}
end Go.Hk

