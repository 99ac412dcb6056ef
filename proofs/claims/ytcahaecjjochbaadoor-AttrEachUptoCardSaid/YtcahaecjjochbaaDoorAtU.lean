import Derived.RangeFuncBox
import Derived.RangeFuncLeaves
import Derived.RangeFuncCalls
import Derived.RangeFuncNested
import Derived.Shelf.Abstract
import Derived.WalkKit
import Derived.OwnWalkIn
import Derived.TacticsInMore
import Derived.LoopNIn
import Derived.LoopIn
import Derived.Laws.EntriesVeiled
import Derived.Test.YtcahaecjjochbaaDoorAtT
import Derived.Test.YtcahaecjjochbaaDoorAtI
import Derived.Scope
import Derived.Test.YtcahaecjjochbaaDoorAtS
import Derived.Test.YtcahaecjjochbaaDoorAtP
set_option linter.unusedVariables false
set_option linter.unusedSimpArgs false
/- slices.Backward over rules: the lines of a list, from the last to the first. -/
namespace Go.At
open Go Go.Ev Go.Proofs Go.RowKit Go.Shelf
set_option linter.unusedVariables false
set_option linter.unusedSimpArgs false
attribute [local go_sem] Oper.semAt_some
set_option maxHeartbeats 1000000 in
theorem backward_in (F : Fence) (n : Nat) (h : F.fn 45) (hro : F.round = none) (A : Option Addr) (L C : Nat) (w : World) :
    CallsIn F n Tryd.prog 45 #[.slice A L C] w fun e w' => e = .returned (.func (.func 81) #[] #[.pointer (some ⟨w.heap.size, 0, none⟩)]) ∧ w' = w.alloc (.cells #[.slice A L C] 22) := by
  refine callsIn_of_wp Tryd.func45 rfl h ?_ hro
  simp only [Tryd.ntmps45, List.size_toArray, List.length_cons, List.length_nil, Nat.reduceAdd, Nat.reduceSub, Array.replicate_succ, Array.replicate_zero, List.push_toArray, List.append_toArray, List.nil_append, List.cons_append]
  gi_wp2
  go_ret
  exact ⟨rfl, rfl⟩
def Z (L : List ARule) : List (Nat × ARule) := L.zipIdx.map fun x => (x.2, x.1)
theorem Z_len (L : List ARule) : (Z L).length = L.length := by rw [Z, List.length_map, List.length_zipIdx]
theorem Z_get (L : List ARule) {k : Nat} (h : k < L.length) : (Z L)[k]'(by rw [Z_len]; exact h) = (k, L[k]) := by
  simp [Z]
def bk (L : List ARule) (k : Nat) : List (Nat × ARule) := ((Z L).drop k).reverse
theorem bk_step (L : List ARule) {j : Nat} (h : j < L.length) : bk L j = bk L (j + 1) ++ [(j, L[j])] := by
  rw [bk, List.drop_eq_getElem_cons (by rw [Z_len]; exact h), List.reverse_cons, Z_get L h]; rfl
theorem bk_all (L : List ARule) : (bk L 0).map (·.2) = L.reverse := by
  rw [bk, List.drop_zero, List.map_reverse, Z, List.map_map]
  congr 1
  simp [Function.comp_def]
theorem bk_pre (L : List ARule) (k : Nat) : (bk L k).map (·.2) <+: L.reverse := by
  exact ⟨((Z L).take k).reverse.map (·.2), by rw [← bk_all, bk, bk, List.drop_zero, ← List.map_append, ← List.reverse_append, List.take_append_drop]⟩
theorem bk_len (L : List ARule) (k : Nat) : (bk L k).length = L.length - k := by rw [bk, List.length_reverse, List.length_drop, Z_len]
structure KB (n₀ Bx : Nat) (A B : World) : Prop where
  below : Below n₀ A B
  box : B.heap[Bx]? = A.heap[Bx]?
theorem KB.refl (n₀ Bx : Nat) (A : World) : KB n₀ Bx A A := ⟨Below.refl _ _, rfl⟩
theorem KB.trans {n₀ Bx : Nat} {A B C : World} (h : KB n₀ Bx A B) (k : KB n₀ Bx B C) : KB n₀ Bx A C := ⟨h.below.trans k.below, k.box.trans h.box⟩
abbrev ruleV (r : ARule) : Value := .agg #[.string (str r.1), .string (str r.2.1), .int .i64 r.2.2.1, .int .i64 r.2.2.2.1, .int .i64 r.2.2.2.2]
set_option maxRecDepth 100000 in
set_option maxHeartbeats 2000000 in
theorem back1_in (F : Fence) (n : Nat) (h : F.fn 81) (hro : F.round = none) (hn : 1 ≤ n) (l Bx : Nat) (L : List ARule) (hL : L.length ≤ 1048576) (A : Option Addr) (a o C : Nat) (n₀ : Nat) (hA : 0 < L.length → A = some ⟨a, o, none⟩ ∧ a < n₀) (J Jx : List (Nat × ARule) → World → Prop)
    (hY : ∀ pre x W, J pre W → pre.length < L.length → x.2 ∈ L → YieldAt F (n - 1) Tryd.prog l #[.int .i64 (x.1 : Int), ruleV x.2] W fun e W' =>
      (e = .returned (.bool true) ∧ J (pre ++ [x]) W' ∧ KB n₀ Bx W W') ∨ (e = .returned (.bool false) ∧ Jx (pre ++ [x]) W'))
    (W : World) (hBx : W.cell? ⟨Bx, 0, none⟩ = some (.slice A L.length C))
    (hc : ∀ k (h : k < L.length), W.cell? ⟨a, o + k * 5, none⟩ = some (.string (str L[k].1)) ∧ W.cell? ⟨a, o + k * 5 + 1, none⟩ = some (.string (str L[k].2.1)) ∧ W.cell? ⟨a, o + k * 5 + 2, none⟩ = some (.int .i64 L[k].2.2.1) ∧ W.cell? ⟨a, o + k * 5 + 3, none⟩ = some (.int .i64 L[k].2.2.2.1) ∧ W.cell? ⟨a, o + k * 5 + 4, none⟩ = some (.int .i64 L[k].2.2.2.2)) (h0 : J [] W) :
    CallsIn F n Tryd.prog 81 #[.func (.yield l) #[] #[], .pointer (some ⟨Bx, 0, none⟩)] W fun e W' => (∃ v, e = .returned v) ∧
      ((∃ ys, ys.map (·.2) = L.reverse ∧ J ys W') ∨ (∃ pre, (pre.map (·.2) <+: L.reverse) ∧ Jx pre W')) := by
  refine callsIn_of_wp Tryd.func81 rfl h ?_ hro
  simp only [Tryd.ntmps81, List.size_toArray, List.length_cons, List.length_nil, Nat.reduceAdd, Nat.reduceSub, Array.replicate_succ, Array.replicate_zero, List.push_toArray, List.append_toArray, List.nil_append, List.cons_append]
  have hw : IntKind.i64.wrap ((L.length : Int) - 1) = (L.length : Int) - 1 := wrap_in (by omega) (by omega)
  gi_wp2
  gi_loopw [3] (fun i wr => ∃ k : Nat, k ≤ L.length ∧ i = .int .i64 ((k : Int) - 1) ∧ J (bk L k) wr ∧ KB n₀ Bx W wr)
    (fun i _ => (Proofs.intOf i + 1).toNat)
  case atStart =>
    refine ⟨L.length, Nat.le_refl _, rfl, ?_, KB.refl _ _ _⟩
    rw [bk, List.drop_eq_nil_of_le (by rw [Z_len]; exact Nat.le_refl _)]; exact h0
  case round =>
    obtain ⟨k, hk, rfl, hJs, hnx⟩ := hrel
    have hcx := (World.cell?_of_block (a := ⟨Bx, 0, none⟩) hnx.box).trans hBx
    cases k with
    | zero =>
      gi_wp2
      go_end0
      exact ⟨⟨_, rfl⟩, .inl ⟨_, bk_all L, hJs⟩⟩
    | succ j =>
      have e : ((j + 1 : Nat) : Int) - 1 = (j : Int) := by omega
      have hj : j < L.length := by omega
      obtain ⟨rfl, ha⟩ := hA (by omega)
      have hw : IntKind.i64.wrap ((j : Int) - 1) = (j : Int) - 1 := wrap_in (by omega) (by omega)
      obtain ⟨c0, c1, c2, c3, c4⟩ := hc j hj
      have c0 := (hnx.below.cell (p := ⟨a, o + j * 5, none⟩) ha).trans c0
      have c1 := (hnx.below.cell (p := ⟨a, o + j * 5 + 1, none⟩) ha).trans c1
      have c2 := (hnx.below.cell (p := ⟨a, o + j * 5 + 2, none⟩) ha).trans c2
      have c3 := (hnx.below.cell (p := ⟨a, o + j * 5 + 3, none⟩) ha).trans c3
      have c4 := (hnx.below.cell (p := ⟨a, o + j * 5 + 4, none⟩) ha).trans c4
      obtain ⟨fn, tmps, assign, body, hy, hR⟩ := hY _ (j, L[j]) wr hJs (by rw [bk_len]; omega) (List.getElem_mem hj)
      dsimp only at hy
      rw [e]
      gi_wp2
      refine hR.mono ?_
      rintro e W3 (⟨rfl, hJ3, hk3⟩ | ⟨rfl, hJx3⟩)
      · gi_wp2
        go_roundw
        case rel => exact ⟨j, by omega, by simp, by rw [bk_step L hj]; exact hJ3, hnx.trans hk3⟩
        case measure => first | (simp [Proofs.intOf]; done) | (simp [Proofs.intOf]; omega)
      · gi_wp2
        refine bodyPost_ret (results_none rfl _ _ _) rfl ?_
        exact ⟨⟨_, rfl⟩, .inr ⟨_, by rw [← bk_step L hj]; exact bk_pre L j, hJx3⟩⟩
def Line : Type := { x : Nat × ARule // x.2.1.length ≤ 1048575 ∧ x.2.2.1.length ≤ 1048575 }
theorem back_stops (n : Nat) (hn : 1 ≤ n) (Bx n₀ : Nat) (L : List ARule) (hL : L.length ≤ 1048576) (hb : ∀ r, r ∈ L → r.1.length ≤ 1048575 ∧ r.2.1.length ≤ 1048575) (A : Option Addr) (a o C : Nat) (hA : 0 < L.length → A = some ⟨a, o, none⟩ ∧ a < n₀) (w : World) (hn₀ : 0 < L.length → a < w.heap.size) (hBw : Bx < w.heap.size)
    (hBx : w.cell? ⟨Bx, 0, none⟩ = some (.slice A L.length C))
    (hc : ∀ k (h : k < L.length), w.cell? ⟨a, o + k * 5, none⟩ = some (.string (str L[k].1)) ∧ w.cell? ⟨a, o + k * 5 + 1, none⟩ = some (.string (str L[k].2.1)) ∧ w.cell? ⟨a, o + k * 5 + 2, none⟩ = some (.int .i64 L[k].2.2.1) ∧ w.cell? ⟨a, o + k * 5 + 3, none⟩ = some (.int .i64 L[k].2.2.2.1) ∧ w.cell? ⟨a, o + k * 5 + 4, none⟩ = some (.int .i64 L[k].2.2.2.2)) :
    SeqStopsK Fence.wide n Tryd.prog 81 #[.pointer (some ⟨Bx, 0, none⟩)] (fun x : Line => #[Value.int .i64 (x.1.1 : Int), ruleV x.1.2]) (KB n₀ Bx) (fun ys => ys.map (·.1.2) = L.reverse) (fun pre => pre.map (·.1.2) <+: L.reverse) L.length w := by
  intro l J Jx W hW _ _ hY h0
  refine (back1_in Fence.wide n trivial rfl hn l Bx L hL A a o C n₀ hA (fun ys W => ∃ zs : List Line, zs.map (·.1) = ys ∧ J zs W) (fun ys W => ∃ zs : List Line, zs.map (·.1) = ys ∧ Jx zs W) ?_ W ((hW.cell (p := ⟨Bx, 0, none⟩) hBw).trans hBx) ?_ ⟨[], rfl, h0⟩).mono ?_
  · rintro pre x W1 ⟨zs, rfl, hJ⟩ hlen hx
    obtain ⟨fn, tmps, assign, body, hy, hR⟩ := hY zs ⟨x, hb x.2 hx⟩ W1 hJ (by simpa using hlen)
    refine ⟨fn, tmps, assign, body, hy, hR.mono ?_⟩
    rintro e W' (⟨he, hj, hk⟩ | ⟨he, hj⟩)
    · exact .inl ⟨he, ⟨_, by rw [List.map_append]; rfl, hj⟩, hk⟩
    · exact .inr ⟨he, ⟨_, by rw [List.map_append]; rfl, hj⟩⟩
  · intro k hk
    obtain ⟨c0, c1, c2, c3, c4⟩ := hc k hk
    have hn₀ := hn₀ (by omega)
    exact ⟨(hW.cell (p := ⟨a, _, none⟩) hn₀).trans c0, (hW.cell (p := ⟨a, _, none⟩) hn₀).trans c1, (hW.cell (p := ⟨a, _, none⟩) hn₀).trans c2, (hW.cell (p := ⟨a, _, none⟩) hn₀).trans c3, (hW.cell (p := ⟨a, _, none⟩) hn₀).trans c4⟩
  · rintro e W' ⟨hv, ⟨ys, hys, zs, rfl, hj⟩ | ⟨pre, hpre, zs, rfl, hj⟩⟩
    · exact ⟨hv, .inl ⟨zs, by rw [← hys, List.map_map]; rfl, hj⟩⟩
    · exact ⟨hv, .inr ⟨zs, by rw [List.map_map] at hpre; exact hpre, hj⟩⟩
end Go.At
namespace Go.At
open Go Go.Ev Go.Proofs Go.RowKit Go.Shelf
set_option linter.unusedVariables false
set_option linter.unusedSimpArgs false
attribute [local go_sem] Oper.semAt_some
variable {m : Int}
theorem relL_lits {X : Cx} {t : Bool} : ∀ {us : List Value} {vs : List Value} {F : List Nat}, RelL X t (us.map .lit) vs F → vs = us := by
  intro us
  induction us with
  | nil => intro vs F h; cases h; rfl
  | cons u us ih =>
    intro vs F h
    simp only [List.map_cons] at h
    cases h with
    | cons _ _ v F1 _ vs F2 hv h hs hd => rw [ih hs, h.lit_inv.1]
theorem agg_inv {X : Cx} {t : Bool} {us : List Value} {v : Value} {F : List Nat} (h : Rel X t (.agg (us.map .lit)) v F) : v = .agg us.toArray := by
  generalize hx : us.map AV.lit = xs at h
  cases h with
  | agg _ _ vs F hc => subst hx; rw [relL_lits hc]
theorem agg_rel {X : Cx} {us : List Value} (hu : ∀ u, u ∈ us → scalar u = true ∧ isCell u = true) : Rel X false (.agg (us.map .lit)) (.agg us.toArray) [] := .agg _ _ _ _ (lits_rel us hu)
abbrev attV (a : Att) : Value := .agg #[.int .i64 a.1, .int .i64 a.2.1, .int .i64 a.2.2]
theorem has_in (n : Nat) (r : ARule) (p : Bs) (h1 : r.1.length ≤ 1048575) (h2 : r.2.1.length ≤ 1048575) (hp : p.length ≤ 1048575) {w : World} {zf : Nat → Nat → Prop} (hzf : ∀ b i, zf b i → b < w.heap.size) (ht : TabsAt (gl m) w zf) :
    CallsIn Fence.wide n Tryd.prog 46 #[ruleV r, .string (str p)] w fun e w' => e = .returned (.bool (hasA r p)) ∧ Below w.heap.size w w' := by
  refine callsIn_wide.2 ((ahas_snd (m := m) r p h1 h2 hp w #[ruleV r, .string (str p)] zf hzf ht ?_).mono ?_)
  · refine RelT.cons false _ _ [] _ _ [] ?_ (RelT.cons false _ _ [] _ _ [] (.lit _ _ rfl) (.nil _) (fun b hb => nomatch hb)) (fun b hb => nomatch hb)
    exact agg_rel (us := fA r) (fun u hu => by simp [fA] at hu; rcases hu with rfl | rfl | rfl | rfl | rfl <;> exact ⟨rfl, rfl⟩)
  · rintro e w' ⟨u, rfl, hk, X, F, _, _, _, _, hrel, _⟩
    exact ⟨by rw [hrel.lit_inv.1], below_keep hk⟩
def lA (a : Att) : List Value := [.int .i64 a.1, .int .i64 a.2.1, .int .i64 a.2.2]
theorem lA_ok (a : Att) : ∀ u, u ∈ lA a → scalar u = true ∧ isCell u = true := fun u hu => by simp [lA] at hu; rcases hu with rfl | rfl | rfl <;> exact ⟨rfl, rfl⟩
theorem over_in (n : Nat) (a b : Att) {w : World} {zf : Nat → Nat → Prop} (hzf : ∀ b i, zf b i → b < w.heap.size) (ht : TabsAt (gl m) w zf) :
    CallsIn Fence.wide n Tryd.prog 47 #[attV a, attV b] w fun e w' => e = .returned (attV (over a b)) ∧ Below w.heap.size w w' := by
  refine callsIn_wide.2 ((aover_snd (m := m) a b w #[attV a, attV b] zf hzf ht ?_).mono ?_)
  · exact RelT.cons false _ _ [] _ _ [] (agg_rel (us := lA a) (lA_ok a)) (RelT.cons false _ _ [] _ _ [] (agg_rel (us := lA b) (lA_ok b)) (.nil _) (fun b hb => nomatch hb)) (fun b hb => nomatch hb)
  · rintro e w' ⟨u, rfl, hk, X, F, _, _, _, _, hrel, _⟩
    exact ⟨by rw [agg_inv (us := lA (over a b)) hrel]; rfl, below_keep hk⟩
theorem rows_at {w : World} {zf : Nat → Nat → Prop} {l : List ARule} {v : Value} (hr : Rel (X0 w zf) false (.sl .frn 5 (fs fA l)) v []) :
    ∃ A a o C, v = .slice A l.length C ∧ (0 < l.length → A = some ⟨a, o, none⟩ ∧ a < w.heap.size) ∧
      ∀ k (h : k < l.length), w.cell? ⟨a, o + k * 5, none⟩ = some (.string (str l[k].1)) ∧ w.cell? ⟨a, o + k * 5 + 1, none⟩ = some (.string (str l[k].2.1)) ∧ w.cell? ⟨a, o + k * 5 + 2, none⟩ = some (.int .i64 l[k].2.2.1) ∧ w.cell? ⟨a, o + k * 5 + 3, none⟩ = some (.int .i64 l[k].2.2.2.1) ∧ w.cell? ⟨a, o + k * 5 + 4, none⟩ = some (.int .i64 l[k].2.2.2.2) := by
  generalize hx : fs fA l = xs at hr
  have hlen : xs.length = l.length := by rw [← hx, fs_length]
  cases hr with
  | nil _ _ _ A =>
    obtain rfl : l = [] := List.length_eq_zero_iff.1 (by simpa using hlen.symm)
    exact ⟨A, 0, 0, 0, rfl, fun h => absurd h (by simp), fun k h => absurd h (by simp)⟩
  | imm _ _ _ ad cap _ vs hfl hc hu hrd hcs =>
    by_cases hl : l = []
    · subst hl
      simp at hlen
      exact ⟨some ad, 0, 0, cap, by rw [hlen]; rfl, fun h => absurd h (by simp), fun k h => absurd h (by simp)⟩
    · have cell : ∀ k (h : k < l.length) (j : Nat) (u : Value), (fA l[k])[j]? = some u → w.cell? (ad.add (k * 5 + j)) = some u := by
        intro k h j u hj
        have hn : xs[k]? = some (fe fA l[k]) := by rw [← hx]; exact fs_get fA l h
        have hf : (flat xs)[k * 5 + j]? = some (.lit u) := flat_get hu hn (o := j) (by
          show ((fA l[k]).map AV.lit)[j]? = _
          rw [List.getElem?_map, hj]; rfl)
        obtain ⟨u', G, hu1, hu2, hu3, hu4⟩ := hcs.get hf
        have e := hu2.lit_inv.1
        subst e
        exact (hrd _ _ hu1).1
      have h0 : 0 < l.length := List.length_pos_iff.2 hl
      have hc0 := cell 0 h0 0 _ rfl
      have hs2 : ad.spot = none := Addr.spot_of_cell (a := ad) (by simpa [Addr.add] using hc0)
      refine ⟨some ad, ad.block, ad.off, cap, by rw [← hlen], fun _ => ⟨by rw [← Addr.eta hs2], ?_⟩, fun k h => ?_⟩
      · have := hc0; rw [Addr.add_spot hs2] at this; exact cell_lt (a := ⟨ad.block, ad.off + (0 * 5 + 0), none⟩) this
      · have c0 := cell k h 0 _ rfl
        have c1 := cell k h 1 _ rfl
        have c2 := cell k h 2 _ rfl
        have c3 := cell k h 3 _ rfl
        have c4 := cell k h 4 _ rfl
        rw [Addr.add_spot hs2] at c0 c1 c2 c3 c4
        exact ⟨c0, by rw [Nat.add_assoc]; exact c1, by rw [Nat.add_assoc]; exact c2, by rw [Nat.add_assoc]; exact c3, by rw [Nat.add_assoc]; exact c4⟩
def Tri (W : World) (B : Nat) (a : Att) : Prop := W.heap[B]? = some (.cells #[.int .i64 a.1, .int .i64 a.2.1, .int .i64 a.2.2] 27 (0, 0))
theorem Tri.lt {W : World} {B : Nat} {a : Att} (h : Tri W B a) : B < W.heap.size := (Array.getElem?_eq_some_iff.1 h).1
theorem Tri.cell0 {W : World} {B : Nat} {a : Att} (h : Tri W B a) : W.cell? ⟨B, 0, none⟩ = some (.int .i64 a.1) := by simp [World.cell?, show W.heap[B]? = _ from h]
theorem Tri.cell1 {W : World} {B : Nat} {a : Att} (h : Tri W B a) : W.cell? ⟨B, 1, none⟩ = some (.int .i64 a.2.1) := by simp [World.cell?, show W.heap[B]? = _ from h]
theorem Tri.cell2 {W : World} {B : Nat} {a : Att} (h : Tri W B a) : W.cell? ⟨B, 2, none⟩ = some (.int .i64 a.2.2) := by simp [World.cell?, show W.heap[B]? = _ from h]
theorem Tri.frozen {W : World} {B : Nat} {a : Att} (h : Tri W B a) (i : Nat) : W.frozen? ⟨B, i, none⟩ = false := by simp [World.frozen?, show W.heap[B]? = _ from h]
theorem Tri.own {β : Type} (B : Nat) (f : β → Att) : Own (fun s W => Tri W B (f s)) := fun s X Y row hs hg hr => by
  have hs : X.heap[B]? = _ := hs
  show Y.heap[B]? = _
  rw [← hs]; exact grownBy_keeps_cells hg hr hs rfl
theorem Tri.later {W W' : World} {n₀ B : Nat} {a : Att} (hb : Below n₀ W W') (h : Tri W B a) (hB : B < n₀) : Tri W' B a := (hb.block B hB).trans h
theorem set_block {W : World} {B i : Nat} {arr : Array Value} {t : TypeId} (h : W.heap[B]? = some (.cells arr t (0, 0))) (v : Value) : (W.setCell ⟨B, i, none⟩ v).heap[B]? = some (.cells (arr.setIfInBounds i v) t (0, 0)) := by
  obtain ⟨hlt, hk⟩ := Array.getElem?_eq_some_iff.1 h
  show (W.heap.modify B _)[B]? = _
  rw [Array.getElem?_eq_getElem (by rw [Array.size_modify]; exact hlt), Array.getElem_modify_self, hk]
  rfl
theorem Tri.set {W : World} {B : Nat} {a : Att} (b : Att) (h : Tri W B a) : Tri (((W.setCell ⟨B, 0, none⟩ (.int .i64 b.1)).setCell ⟨B, 1, none⟩ (.int .i64 b.2.1)).setCell ⟨B, 2, none⟩ (.int .i64 b.2.2)) B b :=
  set_block (set_block (set_block h _) _) _
theorem set3_other {W : World} {B k : Nat} {u v z : Value} (h : k ≠ B) : (((W.setCell ⟨B, 0, none⟩ u).setCell ⟨B, 1, none⟩ v).setCell ⟨B, 2, none⟩ z).heap[k]? = W.heap[k]? :=
  (Below.heap_setCell _ _ _ k h).trans ((Below.heap_setCell _ _ _ k h).trans (Below.heap_setCell _ _ _ k h))
theorem alloc_new {W : World} {B : Nat} (o : Obj) (h : B = W.heap.size) : (W.alloc o).heap[B]? = some o := by subst h; exact World.alloc_heap_new W o
def RuleAt (W : World) (B : Nat) (r : ARule) : Prop := W.heap[B]? = some (.cells #[.string (str r.1), .string (str r.2.1), .int .i64 r.2.2.1, .int .i64 r.2.2.2.1, .int .i64 r.2.2.2.2] 29 (0, 0))
theorem RuleAt.lt {W : World} {B : Nat} {r : ARule} (h : RuleAt W B r) : B < W.heap.size := (Array.getElem?_eq_some_iff.1 h).1
theorem RuleAt.later {W W' : World} {n₀ B : Nat} {r : ARule} (h : RuleAt W B r) (hb : Below n₀ W W') (hB : B < n₀) : RuleAt W' B r := (hb.block B hB).trans h
theorem RuleAt.cells {W : World} {B : Nat} {r : ARule} (h : RuleAt W B r) : W.cell? ⟨B, 0, none⟩ = some (.string (str r.1)) ∧ W.cell? ⟨B, 1, none⟩ = some (.string (str r.2.1)) ∧ W.cell? ⟨B, 2, none⟩ = some (.int .i64 r.2.2.1) ∧ W.cell? ⟨B, 3, none⟩ = some (.int .i64 r.2.2.2.1) ∧ W.cell? ⟨B, 4, none⟩ = some (.int .i64 r.2.2.2.2) := by
  have h : W.heap[B]? = _ := h
  refine ⟨?_, ?_, ?_, ?_, ?_⟩ <;> simp [World.cell?, h]
theorem Tri.alloc {W : World} {B : Nat} {a : Att} (h : Tri W B a) (o : Obj) : Tri (W.alloc o) B a := (Below.heap_alloc _ _ _ h.lt).trans h
def foR (p : Bs) (pre : List Line) : Att := pre.foldl (fun a x => if hasA x.1.2 p then over x.1.2.2.2 a else a) (0, 0, 0)
theorem foR_snoc (p : Bs) (pre : List Line) (x : Line) : foR p (pre ++ [x]) = if hasA x.1.2 p then over x.1.2.2.2 (foR p pre) else foR p pre := by simp [foR]
theorem foR_all (p : Bs) (l : List ARule) (ys : List Line) (h : ys.map (·.1.2) = l.reverse) : foR p ys = ofB l p (0, 0, 0) := by
  rw [ofB, ← h, List.foldl_map]; rfl
set_option maxRecDepth 100000 in
set_option maxHeartbeats 4000000 in
theorem of_calls (l : List ARule) (p : Bs) (hl : l.length ≤ 1048576) (hb : ∀ r, r ∈ l → r.1.length ≤ 1048575 ∧ r.2.1.length ≤ 1048575) (hp : p.length ≤ 1048575) {w : World} {zf : Nat → Nat → Prop} (hzf : ∀ b i, zf b i → b < w.heap.size) (ht : TabsAt (gl m) w zf) (A : Option Addr) (ad o C : Nat) (hA : 0 < l.length → A = some ⟨ad, o, none⟩ ∧ ad < w.heap.size)
    (hc : ∀ k (h : k < l.length), w.cell? ⟨ad, o + k * 5, none⟩ = some (.string (str l[k].1)) ∧ w.cell? ⟨ad, o + k * 5 + 1, none⟩ = some (.string (str l[k].2.1)) ∧ w.cell? ⟨ad, o + k * 5 + 2, none⟩ = some (.int .i64 l[k].2.2.1) ∧ w.cell? ⟨ad, o + k * 5 + 3, none⟩ = some (.int .i64 l[k].2.2.2.1) ∧ w.cell? ⟨ad, o + k * 5 + 4, none⟩ = some (.int .i64 l[k].2.2.2.2)) :
    Calls Tryd.prog 16 #[.slice A l.length C, .string (str p)] w fun e w' => e = .returned (attV (ofB l p (0, 0, 0))) ∧ Below w.heap.size w w' := by
  refine callsIn_wide.1 (callsIn_of_wp_marks (n := 5) Tryd.func16 rfl trivial ?_ rfl)
  simp only [Tryd.ntmps16, List.size_toArray, List.length_cons, List.length_nil, Nat.reduceAdd, Nat.reduceSub, Array.replicate_succ, Array.replicate_zero, List.push_toArray, List.append_toArray, List.nil_append, List.cons_append]
  have hF1 : Fence.wide.fn 45 := trivial
  gi_wp2_with (gi_at_call 45; refine (backward_in Fence.wide _ trivial rfl _ _ _ _).mono ?_; rintro e w' ⟨rfl, rfl⟩)
  refine wpIn_wide.2 (wp_scope_straight ((wpIn_wide (n := 5)).1 ?_))
  gi_wp2
  refine wpIn_label ?_
  dsimp only [Exit.then]
  go_at_K
  gi_wp2_with (gi_at_call 45; refine (backward_in Fence.wide _ trivial rfl _ _ _ _).mono ?_; rintro e w' ⟨rfl, rfl⟩)
  have hB0 : Below w.heap.size w ((((w.alloc (.cells #[.string (str p)] 9)).alloc (.cells #[.int .i64 0, .int .i64 0, .int .i64 0] 27)).alloc (.cells #[.int .i64 0, .int .i64 0, .int .i64 0] 27)).alloc (.cells #[.slice A l.length C] 22)) :=
    ((((Below.refl _ w).alloc (Nat.le_refl _) _).alloc (by simp) _).alloc (by simp; omega) _).alloc (by simp; omega) _
  have b8 := Boxed.new (((w.alloc (.cells #[.string (str p)] 9)).alloc (.cells #[.int .i64 0, .int .i64 0, .int .i64 0] 27)).alloc (.cells #[.int .i64 0, .int .i64 0, .int .i64 0] 27)) 22 (.slice A l.length C)
  simp only [World.size_alloc] at b8
  generalize hw4 : (((w.alloc (.cells #[.string (str p)] 9)).alloc (.cells #[.int .i64 0, .int .i64 0, .int .i64 0] 27)).alloc (.cells #[.int .i64 0, .int .i64 0, .int .i64 0] 27)).alloc (.cells #[.slice A l.length C] 22) = w4 at hB0 b8 ⊢
  have hs4 : w4.heap.size = w.heap.size + 4 := by rw [← hw4]; simp
  have hst := back_stops 4 (by omega) (w.heap.size + 1 + 1 + 1) w.heap.size l hl hb A ad o C hA w4 (fun h => by have := (hA h).2; omega) b8.lt b8.cell
    (fun k hk => by
      obtain ⟨c0, c1, c2, c3, c4⟩ := hc k hk
      have ha := (hA (by omega)).2
      exact ⟨(hB0.cell (p := ⟨ad, _, none⟩) ha).trans c0, (hB0.cell (p := ⟨ad, _, none⟩) ha).trans c1, (hB0.cell (p := ⟨ad, _, none⟩) ha).trans c2, (hB0.cell (p := ⟨ad, _, none⟩) ha).trans c3, (hB0.cell (p := ⟨ad, _, none⟩) ha).trans c4⟩)
  have t5 : Tri w4 (w.heap.size + 1 + 1) (0, 0, 0) := by
    rw [← hw4]; exact (Below.heap_alloc _ _ _ (by simp)).trans (alloc_new _ (by simp))
  have t4 : Tri w4 (w.heap.size + 1) (0, 0, 0) := by
    rw [← hw4]; exact (Below.heap_alloc _ _ _ (by simp)).trans ((Below.heap_alloc _ _ _ (by simp)).trans (alloc_new _ (by simp)))
  have t3 : Boxed w4 w.heap.size 9 (.string (str p)) := by
    rw [← hw4]; exact ((Boxed.new w 9 _).alloc _).alloc _ |>.alloc _
  refine wpIn_rangeFunc_ownH rfl (Nat.le_of_ble_eq_true rfl) (gf := 81) (lb := #[.pointer (some ⟨w.heap.size + 1 + 1 + 1, 0, none⟩)]) rfl trivial (enters_of Tryd.func81 (by kernel_rfl) rfl)
    hst KB.trans ?hKb (Below.refl _ _) (fun _ => rfl)
    (fun pre W => (Boxed W w.heap.size 9 (.string (str p)) ∧ Tri W (w.heap.size + 1) (0, 0, 0) ∧ Tri W (w.heap.size + 1 + 1) (foR p pre)) ∧ KB w.heap.size (w.heap.size + 1 + 1 + 1) w4 W) (fun c pre W => False) ?hI ?hIx ?h0
    (fun x a' W => ∃ B, w4.heap.size ≤ B ∧ RuleAt W B x.1.2 ∧ a' = { tmps := #[.slice A l.length C, .string (str p), undef, .pointer (some ⟨w.heap.size, 0, none⟩), .pointer (some ⟨w.heap.size + 1, 0, none⟩), .pointer (some ⟨w.heap.size + 1 + 1, 0, none⟩), undef, .pointer (some ⟨B, 0, none⟩), .slice A l.length C, .func (.func 81) #[] #[.pointer (some ⟨w.heap.size + 1 + 1 + 1, 0, none⟩)], .int .i64 x.1.1, ruleV x.1.2, undef, undef, undef, undef, undef, undef, undef, undef, undef], defers := [] }) ?hAx ?assign ?body ?done ?stop
  case hKb => exact fun W l o o' hl h h1 h2 => ⟨belowK_b (w := w4) (by omega) W l o o' hl h h1 h2, World.putObj_heap_other (by omega)⟩
  case hI =>
    exact OwnFrom.and (OwnFrom.and (Own.from (boxed_own _ _ _) _) (OwnFrom.and (Own.from (Tri.own _ (fun _ => (0, 0, 0))) _) (Own.from (Tri.own _ _) _))) (fun s X Y row hs hg hr => ⟨ownFrom_below (β := Unit) (B := w4.heap.size) (by omega) (by omega) () X Y row hs.below hg hr, (hg.block _ (by have := hs.below.size; omega) (fun e => by have := (hr _ e.symm).1; omega)).trans hs.box⟩)
  case hIx => exact fun c s X Y row hs hg hr => hs
  case h0 => exact ⟨⟨t3, t4, t5⟩, KB.refl _ _ _⟩
  case hAx =>
    rintro x a' s X Y row ⟨B, h1, h2, h3⟩ hg hr
    exact ⟨B, h1, by have h2 : X.heap[B]? = _ := h2; show Y.heap[B]? = _; rw [← h2]; exact grownBy_keeps_cells hg (fun r e => (hr r e).2) h2 rfl, h3⟩
  case stop => exact fun D c pre W _ _ h _ => h.elim
  case assign =>
    rintro l' pre x W K ⟨⟨b1, b2, b3⟩, hk⟩ hK
    have hWs := hk.below.size
    have kb : ∀ o, KB w.heap.size (w.heap.size + 1 + 1 + 1) W (W.alloc o) := fun o => ⟨(Below.refl _ W).alloc (by omega) _, Below.heap_alloc _ _ _ (by omega)⟩
    gi_wp2
    exact hK _ _ ((KeepsOthers.alloc _ _).from _) (kb _) ⟨⟨b1.alloc _, b2.alloc _, b3.alloc _⟩, hk.trans (kb _)⟩ ⟨W.heap.size, hWs, alloc_new _ rfl, rfl⟩
  case body =>
    rintro l' pre x a' W hl' ⟨rr, hrr⟩ ⟨⟨b1, b2, b3⟩, hk⟩ ⟨Bx, hBx, hR, rfl⟩ hlen
    obtain ⟨e0, e1, e2, e3, e4⟩ := hR.cells
    have c3 := b1.cell
    have hBl := hR.lt
    have hW0 : Below w.heap.size w W := hB0.trans hk.below
    have hF46 : Fence.wide.fn 46 := trivial
    have hF47 : Fence.wide.fn 47 := trivial
    have hnm := foR_snoc p pre x
    have hx := x.2
    have KBof : ∀ {W1 : World}, Below W.heap.size W W1 → KB w.heap.size (w.heap.size + 1 + 1 + 1) W W1 := fun h => ⟨h.mono hW0.size, h.block _ (by have := hk.below.size; omega)⟩
    cases hh : hasA x.1.2 p with
    | false =>
      rw [hh] at hnm
      have hnm : foR p (pre ++ [x]) = foR p pre := hnm
      gi_wp2_with (gi_at_call 46; refine (CallsIn.inRound l' (has_in (m := m) _ x.1.2 p hx.1 hx.2 hp (fun b i h => Nat.lt_of_lt_of_le (hzf b i h) hW0.size) (tabs_later hW0 hzf ht))).mono ?_; rw [hh]; rintro e w1 ⟨rfl, hb1⟩)
      exact ⟨keeps_later hb1 _, KBof hb1, ⟨⟨Boxed.below' hb1 b1, b2.later hb1 b2.lt, by rw [hnm]; exact b3.later hb1 b3.lt⟩, hk.trans (KBof hb1)⟩⟩
    | true =>
      rw [hh] at hnm
      have hnm : foR p (pre ++ [x]) = over x.1.2.2.2 (foR p pre) := hnm
      gi_wp2_with (first | (gi_at_call 46; refine (CallsIn.inRound l' (has_in (m := m) _ x.1.2 p hx.1 hx.2 hp (fun b i h => Nat.lt_of_lt_of_le (hzf b i h) hW0.size) (tabs_later hW0 hzf ht))).mono ?_; rw [hh]; rintro e w1 ⟨rfl, hb1⟩; obtain ⟨q0, q1, q2, q3, q4⟩ := (hR.later hb1 hBl).cells; have z0 := (b3.later hb1 b3.lt).cell0; have z1 := (b3.later hb1 b3.lt).cell1; have z2 := (b3.later hb1 b3.lt).cell2) | (gi_at_call 47; refine (CallsIn.inRound l' (over_in (m := m) _ x.1.2.2.2 (foR p pre) (fun b i h => Nat.lt_of_lt_of_le (hzf b i h) (hW0.trans (hb1.mono hW0.size)).size) (tabs_later (hW0.trans (hb1.mono hW0.size)) hzf ht))).mono ?_; rintro e w2 ⟨rfl, hb2⟩; have hb3 := hb1.trans (hb2.mono hb1.size); have y0 := (b3.later hb3 b3.lt).cell0; have y1 := (b3.later hb3 b3.lt).cell1; have y2 := (b3.later hb3 b3.lt).cell2; have v0 := (b3.later hb3 b3.lt).frozen 0; have v1 := (b3.later hb3 b3.lt).frozen 1; have v2 := (b3.later hb3 b3.lt).frozen 2))
      have hnm2 : foR p (pre ++ [x]) = over x.1.2.2.2 (foR p pre) := by rw [hnm, if_pos trivial]
      have hsz := hb3.size
      have hkz := hk.below.size
      have hTs := (b3.later hb3 b3.lt).set (over x.1.2.2.2 (foR p pre))
      have kset : KB w.heap.size (w.heap.size + 1 + 1 + 1) w2 _ := ⟨(((Below.refl _ w2).setCell (p := ⟨w.heap.size + 1 + 1, 0, none⟩) (by show w.heap.size ≤ w.heap.size + 1 + 1; omega) (.int .i64 (over x.1.2.2.2 (foR p pre)).1)).setCell (p := ⟨w.heap.size + 1 + 1, 1, none⟩) (by show w.heap.size ≤ w.heap.size + 1 + 1; omega) (.int .i64 (over x.1.2.2.2 (foR p pre)).2.1)).setCell (p := ⟨w.heap.size + 1 + 1, 2, none⟩) (by show w.heap.size ≤ w.heap.size + 1 + 1; omega) (.int .i64 (over x.1.2.2.2 (foR p pre)).2.2), set3_other (by omega)⟩
      refine ⟨(keeps_later hb3 _).trans (((KeepsOthers.setCell _ _ _).from _).trans (((KeepsOthers.setCell _ _ _).from _).trans ((KeepsOthers.setCell _ _ _).from _))), (KBof hb3).trans kset, ⟨⟨?_, ?_, by rw [hnm2]; exact hTs⟩, (hk.trans (KBof hb3)).trans kset⟩⟩
      · exact (set3_other (by omega)).trans (Boxed.below' hb3 b1)
      · exact (set3_other (by omega)).trans (b2.later hb3 b2.lt)
  case done =>
    rintro D ys W hD hys ⟨⟨b1, b2, b3⟩, hk⟩ hK
    have k0 := b3.cell0
    have k1 := b3.cell1
    have k2 := b3.cell2
    have f0 := b2.frozen 0
    have f1 := b2.frozen 1
    have f2 := b2.frozen 2
    have g0 := b2.cell0
    have g1 := b2.cell1
    have g2 := b2.cell2
    have hW0 : Below w.heap.size w W := hB0.trans hk.below
    gi_wp2
    have hT := b2.set (foR p ys)
    have hK4 : (((W.setCell ⟨w.heap.size + 1, 0, none⟩ (.int .i64 (foR p ys).1)).setCell ⟨w.heap.size + 1, 1, none⟩ (.int .i64 (foR p ys).2.1)).setCell ⟨w.heap.size + 1, 2, none⟩ (.int .i64 (foR p ys).2.2)).heap[D]? = some (.deferred (some [])) :=
      (KeepsOthers.setCell _ _ _).same D _ ((KeepsOthers.setCell _ _ _).same D _ ((KeepsOthers.setCell _ _ _).same D _ hK rfl) rfl) rfl
    have hBs : Below w.heap.size w (((W.setCell ⟨w.heap.size + 1, 0, none⟩ (.int .i64 (foR p ys).1)).setCell ⟨w.heap.size + 1, 1, none⟩ (.int .i64 (foR p ys).2.1)).setCell ⟨w.heap.size + 1, 2, none⟩ (.int .i64 (foR p ys).2.2)) :=
      ((hW0.setCell (p := ⟨w.heap.size + 1, 0, none⟩) (by simp) _).setCell (p := ⟨w.heap.size + 1, 1, none⟩) (by simp) _).setCell (p := ⟨w.heap.size + 1, 2, none⟩) (by simp) _
    rw [foR_all p l ys hys] at hT hK4 hBs ⊢
    generalize ((W.setCell ⟨w.heap.size + 1, 0, none⟩ (.int .i64 (ofB l p (0, 0, 0)).1)).setCell ⟨w.heap.size + 1, 1, none⟩ (.int .i64 (ofB l p (0, 0, 0)).2.1)).setCell ⟨w.heap.size + 1, 2, none⟩ (.int .i64 (ofB l p (0, 0, 0)).2.2) = W5 at hT hK4 hBs ⊢
    refine ⟨by simp, .inl ⟨_, _, rfl, run_takeDeferred hK4, ?_⟩⟩
    have hT6 : Tri (W5.putObj D (.deferred none)) (w.heap.size + 1) (ofB l p (0, 0, 0)) := (World.putObj_heap_other (by omega)).trans hT
    have k0 := hT6.cell0
    have k1 := hT6.cell1
    have k2 := hT6.cell2
    refine ⟨attV (ofB l p (0, 0, 0)), by simp [results, Tryd.f16, go_sem, k0, k1, k2], rfl, hBs.trans (belowK_b (w := w) (Nat.le_refl _) W5 D _ _ (by omega) hK4 rfl rfl)⟩
theorem relT_two {X : Cx} {x : AV} {a : Value} : ∀ {vs : List Value} {F : List Nat}, RelT X false [x, .lit a] vs F → F = [] → ∃ v, vs = [v, a] ∧ Rel X false x v [] := by
  intro vs F h hF
  cases h with
  | cons _ _ v F1 _ vs F2 h hs hd =>
    cases hs with
    | cons _ _ v2 F3 _ vs F4 h2 hs hd2 =>
      cases hs
      have hF1 : F1 = [] := (List.append_eq_nil_iff.1 hF).1
      subst hF1
      exact ⟨v, by rw [h2.lit_inv.1], h⟩
theorem of_snd (l : List ARule) (p : Bs) (hl : l.length ≤ 1048576) (hb : ∀ r, r ∈ l → r.1.length ≤ 1048575 ∧ r.2.1.length ≤ 1048575) (hp : p.length ≤ 1048575) : Snd Tryd.prog (gl m) 16 [.sl .frn 5 (fs fA l), S p] (attT (ofA l p)) := by
  intro w vals zf hzf ht hargs
  obtain ⟨v, hvals, hr⟩ := relT_two hargs rfl
  obtain ⟨A, a, o, C, rfl, hA, hc⟩ := rows_at hr
  have hvals : vals = #[.slice A l.length C, .string (str p)] := by cases vals; exact congrArg Array.mk hvals
  subst hvals
  refine (of_calls (m := m) l p hl hb hp hzf ht A a o C hA hc).mono ?_
  rintro e w' ⟨rfl, hk⟩
  rw [ofB_ofA]
  exact ⟨_, rfl, keep_below hk, { w := w', b0 := w.heap.size, bd := fun _ => none, bxc := fun _ _ => True, zf := zf, res := fun _ => none, hold := fun _ => none }, [], rfl, rfl, rfl, fun _ _ => rfl, agg_rel (us := lA (ofA l p)) (lA_ok _), fun b hb => (List.not_mem_nil hb).elim⟩
end Go.At
namespace Go.At
open Go Go.Ev Go.Proofs
open Go.Ln (u8b_t u8b_f lines lines_len line_len lf crlf binary)
set_option linter.unusedVariables false
set_option linter.unusedSimpArgs false
set_option maxHeartbeats 2000000
attribute [local go_sem] eqs implies_true List.map_cons List.map_nil kl klL roD roL Option.map_some Option.map_none Option.getD_some Option.getD_none binVal binObl unVal if_true if_false eq_self passA frnD resD content getH getR getW viaNot viaSlot viaBox viaDeep viaMem List.contains_cons List.contains_nil grabs peeks okCells isCell place cellsOf chunk elt List.headD_cons List.length_cons List.length_nil List.take_succ_cons List.take_zero List.drop_succ_cons List.drop_zero List.nil_append List.cons_append List.append_nil List.all_cons List.all_nil plainC takeR setW over reCell List.getElem?_cons_zero List.getElem?_cons_succ List.set_cons_zero List.take_length outV resG plainV pack outVG outBx List.set_cons_succ Ref.idx Ref.addOff beq_self_eq_true bxL Option.bind_some writeR isLit viaBoxes capsPA boxPA nsOf noDup boxesAt argG passG passD rhoIn rhoOut idxIn tr trL List.getD_cons_zero gives pasOf isPtr Ins.d List.getD_cons_succ resL frnL List.getLast?_nil frnL_fs roL_fs resL_fs passL_fs klL_fs trL_fs map_roD_fs fs_length
variable {m : Int}
def alives_k0' : AC := .ret
def alives_k0 : AC := alives_k0'
theorem alives_k0_w (C : Kn) (K : Ex → St → Prop) (s : St) : vcC C alives_k0 K s = vcC C alives_k0' K s := nr rfl
def alives : AF := ⟨.seq (.reg (.seq [⟨some (0, true), none, .mov (.cst (.bool false) (.lit (.bool false))) .asg⟩])) [] []
  (.seq (.reg (.seq [⟨some (4, false), none, .call 19 [(.cst (.string (str [42, 46, 116, 120, 116, 32, 116, 101, 120, 116, 32, 101, 111, 108, 61, 99, 114, 108, 102, 10, 47, 97, 47, 98, 32, 98, 105, 110, 97, 114, 121, 10, 100, 111, 99, 115, 47, 32, 116, 101, 120, 116, 10])) (.lit (.string (str [42, 46, 116, 120, 116, 32, 116, 101, 120, 116, 32, 101, 111, 108, 61, 99, 114, 108, 102, 10, 47, 97, 47, 98, 32, 98, 105, 110, 97, 114, 121, 10, 100, 111, 99, 115, 47, 32, 116, 101, 120, 116, 10])))), (.cst (.string (str [])) (.lit (.string (str []))))]⟩,⟨some (1, true), none, .mov (.tmp 4 false) .asg⟩])) [1] []
  (.seq (.reg (.seq [⟨some (5, false), none, .mov (.tmp 1 true) .peek⟩,⟨some (6, false), none, .call 16 [.tmp 5 false, (.cst (.string (str [120, 47, 99, 46, 116, 120, 116])) (.lit (.string (str [120, 47, 99, 46, 116, 120, 116]))))]⟩,⟨some (2, true), none, .new [(.lit (.int .i64 0)), (.lit (.int .i64 0)), (.lit (.int .i64 0))]⟩,⟨none, none, .store (.tmp 2 true) (.tmp 6 false) 3⟩])) [1, 2] [2]
  (.seq (.reg (.seq [⟨some (7, false), none, .mov (.tmp 1 true) .peek⟩,⟨some (8, false), none, .call 16 [.tmp 7 false, (.cst (.string (str [97, 47, 98])) (.lit (.string (str [97, 47, 98]))))]⟩,⟨some (3, true), none, .new [(.lit (.int .i64 0)), (.lit (.int .i64 0)), (.lit (.int .i64 0))]⟩,⟨none, none, .store (.tmp 3 true) (.tmp 8 false) 3⟩])) [1, 2, 3] [2, 3]
  (.seq (.reg (.seq [⟨some (9, false), none, .mov (.tmp 1 true) .peek⟩,⟨some (10, false), none, .lenL (.tmp 9 false)⟩,⟨some (11, false), none, .bin .eql (.tmp 10 false) (.cst (.int .i64 2) (.lit (.int .i64 2)))⟩,⟨some (12, false), none, .mov (.tmp 11 false) .peek⟩,⟨some (13, false), (some (12, true)), .load (.tmp 2 true) 3 true false⟩,⟨some (14, false), (some (12, true)), .build [(.lit (.int .i64 0)), (.lit (.int .i64 0)), (.lit (.int .i64 0))] [(0, 1, (.cst (.int .i64 1) (.lit (.int .i64 1)))), (1, 1, (.cst (.int .i64 5) (.lit (.int .i64 5))))]⟩,⟨some (15, false), (some (12, true)), .eqS [0, 0, 0] false (.tmp 13 false) (.tmp 14 false)⟩,⟨some (16, false), none, .pick (.tmp 12 false) (.tmp 15 false) (.cst (.bool false) (.lit (.bool false)))⟩,⟨some (17, false), none, .mov (.tmp 16 false) .peek⟩,⟨some (18, false), (some (17, true)), .load (.tmp 3 true) 3 true false⟩,⟨some (19, false), (some (17, true)), .build [(.lit (.int .i64 0)), (.lit (.int .i64 0)), (.lit (.int .i64 0))] [(0, 1, (.cst (.int .i64 2) (.lit (.int .i64 2)))), (2, 1, (.cst (.int .i64 8) (.lit (.int .i64 8))))]⟩,⟨some (20, false), (some (17, true)), .eqS [0, 0, 0] false (.tmp 18 false) (.tmp 19 false)⟩,⟨some (21, false), none, .pick (.tmp 17 false) (.tmp 20 false) (.cst (.bool false) (.lit (.bool false)))⟩,⟨some (22, false), none, .mov (.tmp 21 false) .peek⟩,⟨some (23, false), (some (22, true)), .load (.tmp 2 true) 3 true false⟩,⟨some (24, false), (some (22, true)), .call 21 [.tmp 23 false, (.cst (.string (str [97, 13, 10, 98])) (.lit (.string (str [97, 13, 10, 98]))))]⟩,⟨some (25, false), (some (22, true)), .bin .eql (.tmp 24 false) (.cst (.string (str [97, 10, 98])) (.lit (.string (str [97, 10, 98]))))⟩,⟨some (26, false), none, .pick (.tmp 22 false) (.tmp 25 false) (.cst (.bool false) (.lit (.bool false)))⟩,⟨some (27, false), none, .mov (.tmp 26 false) .peek⟩,⟨some (28, false), (some (27, true)), .load (.tmp 2 true) 3 true false⟩,⟨some (29, false), (some (27, true)), .call 23 [.tmp 28 false, (.cst (.string (str [97, 10, 98])) (.lit (.string (str [97, 10, 98]))))]⟩,⟨some (30, false), (some (27, true)), .bin .eql (.tmp 29 false) (.cst (.string (str [97, 13, 10, 98])) (.lit (.string (str [97, 13, 10, 98]))))⟩,⟨some (31, false), none, .pick (.tmp 27 false) (.tmp 30 false) (.cst (.bool false) (.lit (.bool false)))⟩,⟨some (32, false), none, .mov (.tmp 31 false) .peek⟩,⟨some (33, false), (some (32, true)), .load (.tmp 3 true) 3 true false⟩,⟨some (34, false), (some (32, true)), .call 21 [.tmp 33 false, (.cst (.string (str [97, 13, 10])) (.lit (.string (str [97, 13, 10]))))]⟩,⟨some (35, false), (some (32, true)), .bin .eql (.tmp 34 false) (.cst (.string (str [97, 13, 10])) (.lit (.string (str [97, 13, 10]))))⟩,⟨some (36, false), none, .pick (.tmp 32 false) (.tmp 35 false) (.cst (.bool false) (.lit (.bool false)))⟩,⟨some (0, true), none, .mov (.tmp 36 false) .asg⟩])) [0] [] alives_k0)))),
  [.tmp 0]⟩
theorem alives_comp (m : Int) : compF Tryd.prog (gl m) [] Tryd.f15 = some alives := by kernel_rfl
def exA : List ARule := [([42, 46, 116, 120, 116], [], 1, 5, 0), ([47, 97, 47, 98], [], 2, 0, 8)]
theorem exA_parse : parseA [42, 46, 116, 120, 116, 32, 116, 101, 120, 116, 32, 101, 111, 108, 61, 99, 114, 108, 102, 10, 47, 97, 47, 98, 32, 98, 105, 110, 97, 114, 121, 10, 100, 111, 99, 115, 47, 32, 116, 101, 120, 116, 10] [] = exA := by decide +kernel
theorem exA_ok : ∀ r, r ∈ exA → r.1.length ≤ 1048575 ∧ r.2.1.length ≤ 1048575 := by decide
theorem alives_snd  : Snd Tryd.prog (gl m) 15 [] (B true) := by
  refine snd_of (fn := Tryd.f15) (af := alives) Tryd.func15 (alives_comp m) mixed (kn_ok m) (Nat.le_of_ble_eq_true rfl) ?_
  simp only [alives, go_sem, reduceCtorEq, Nat.reduceEqDiff, reduceIte, Nat.reduceAdd, Nat.reduceSub, Nat.reduceLeDiff, Int.reduceToNat, Nat.reduceBEq]
  refine of_call (aparse_snd [42, 46, 116, 120, 116, 32, 116, 101, 120, 116, 32, 101, 111, 108, 61, 99, 114, 108, 102, 10, 47, 97, 47, 98, 32, 98, 105, 110, 97, 114, 121, 10, 100, 111, 99, 115, 47, 32, 116, 101, 120, 116, 10] [] (by decide) (by decide)) ?_
  rw [exA_parse]
  simp only [go_sem, reduceCtorEq, Nat.reduceEqDiff, reduceIte, Nat.reduceAdd, Nat.reduceSub, Nat.reduceLeDiff, Int.reduceToNat, Nat.reduceBEq]
  repeat ((with_reducible apply And.intro); (case left => first | omega | (simp only [List.length_append, List.length_cons, List.length_nil, List.length_drop, List.length_take, List.length_tail, List.length_dropLast, fs_length, ss_length, bs_length, ns_length]; omega)))
  refine of_call (of_snd exA [120, 47, 99, 46, 116, 120, 116] (by decide) exA_ok (by decide)) ?_
  rw [show ofA exA [120, 47, 99, 46, 116, 120, 116] = (1, 5, 0) by decide +kernel]
  simp only [attT, go_sem, reduceCtorEq, Nat.reduceEqDiff, reduceIte, Nat.reduceAdd, Nat.reduceSub, Nat.reduceLeDiff, Int.reduceToNat, Nat.reduceBEq]
  repeat ((with_reducible apply And.intro); (case left => first | omega | (simp only [List.length_append, List.length_cons, List.length_nil, List.length_drop, List.length_take, List.length_tail, List.length_dropLast, fs_length, ss_length, bs_length, ns_length]; omega)))
  refine of_call (of_snd exA [97, 47, 98] (by decide) exA_ok (by decide)) ?_
  rw [show ofA exA [97, 47, 98] = (2, 0, 8) by decide +kernel]
  have q1 : eqC [0, 0, 0] [I 1, I 5, I 0] [I 1, I 5, I 0] = some true := rfl
  have q2 : eqC [0, 0, 0] [I 2, I 0, I 8] [I 2, I 0, I 8] = some true := rfl
  simp only [attT, eq_t (show ((exA.length : Nat) : Int) = 2 from rfl), q1, q2, go_sem, reduceCtorEq, Nat.reduceEqDiff, reduceIte, Nat.reduceAdd, Nat.reduceSub, Nat.reduceLeDiff, Int.reduceToNat, Nat.reduceBEq]
  repeat ((with_reducible apply And.intro); (case left => first | omega | (simp only [List.length_append, List.length_cons, List.length_nil, List.length_drop, List.length_take, List.length_tail, List.length_dropLast, fs_length, ss_length, bs_length, ns_length]; omega)))
  refine of_call (ain_snd (1, 5, 0) [97, 13, 10, 98] (by decide)) ?_
  rw [show inA (1, 5, 0) [97, 13, 10, 98] = [97, 10, 98] by decide +kernel]
  simp only [attT, beq_self_eq_true, go_sem, reduceCtorEq, Nat.reduceEqDiff, reduceIte, Nat.reduceAdd, Nat.reduceSub, Nat.reduceLeDiff, Int.reduceToNat, Nat.reduceBEq]
  repeat ((with_reducible apply And.intro); (case left => first | omega | (simp only [List.length_append, List.length_cons, List.length_nil, List.length_drop, List.length_take, List.length_tail, List.length_dropLast, fs_length, ss_length, bs_length, ns_length]; omega)))
  refine of_call (aout_snd (1, 5, 0) [97, 10, 98] (by decide)) ?_
  rw [show outA (1, 5, 0) [97, 10, 98] = [97, 13, 10, 98] by decide +kernel]
  simp only [attT, beq_self_eq_true, go_sem, reduceCtorEq, Nat.reduceEqDiff, reduceIte, Nat.reduceAdd, Nat.reduceSub, Nat.reduceLeDiff, Int.reduceToNat, Nat.reduceBEq]
  repeat ((with_reducible apply And.intro); (case left => first | omega | (simp only [List.length_append, List.length_cons, List.length_nil, List.length_drop, List.length_take, List.length_tail, List.length_dropLast, fs_length, ss_length, bs_length, ns_length]; omega)))
  refine of_call (ain_snd (2, 0, 8) [97, 13, 10] (by decide)) ?_
  rw [show inA (2, 0, 8) [97, 13, 10] = [97, 13, 10] by decide +kernel]
  simp only [attT, beq_self_eq_true, alives_k0_w, alives_k0', go_sem, reduceCtorEq, Nat.reduceEqDiff, reduceIte, Nat.reduceAdd, Nat.reduceSub, Nat.reduceLeDiff, Int.reduceToNat, Nat.reduceBEq]
  try first | rfl | trace_state
end Go.At
namespace Go.At
open Go Go.Ev Go.Proofs
open Go.Ln (u8b_t u8b_f lines lines_len line_len lf crlf binary idx idx_eq unfeed unfeed_len)
open Go.Gb (isPath isPat matchF r7match_snd)
set_option linter.unusedVariables false
set_option linter.unusedSimpArgs false
set_option maxHeartbeats 2000000
attribute [local go_sem] eqs implies_true List.map_cons List.map_nil kl klL roD roL Option.map_some Option.map_none Option.getD_some Option.getD_none binVal binObl unVal if_true if_false eq_self passA frnD resD content getH getR getW viaNot viaSlot viaBox viaDeep viaMem List.contains_cons List.contains_nil grabs peeks okCells isCell place cellsOf chunk elt List.headD_cons List.length_cons List.length_nil List.take_succ_cons List.take_zero List.drop_succ_cons List.drop_zero List.nil_append List.cons_append List.append_nil List.all_cons List.all_nil plainC takeR setW over reCell List.getElem?_cons_zero List.getElem?_cons_succ List.set_cons_zero List.take_length outV resG plainV pack outVG outBx List.set_cons_succ Ref.idx Ref.addOff beq_self_eq_true bxL Option.bind_some writeR isLit viaBoxes capsPA boxPA nsOf noDup boxesAt argG passG passD rhoIn rhoOut idxIn tr trL List.getD_cons_zero gives pasOf isPtr Ins.d List.getD_cons_succ resL frnL List.getLast?_nil frnL_fs roL_fs resL_fs passL_fs klL_fs trL_fs map_roD_fs fs_length
variable {m : Int}
def afew_l0' : AC := .seq (.reg (.seq [⟨some (7, false), none, .bin .lss (.tmp 6 true) (.tmp 5 true)⟩])) [0, 5, 6, 7] []
  (.seq (.cond (.tmp 7 false)
    (.skip)
    (.exit 0)) [0, 5, 6] []
  (.seq (.block 1 (.seq (.reg (.seq [⟨some (8, false), none, .mov (.tmp 6 true) .take⟩,⟨some (3, true), none, .mov (.tmp 8 false) .asg⟩])) [0, 3, 5, 6] []
    (.seq (.reg (.draw [⟨some (9, false), none, .mov (.tmp 0 true) .peek⟩,⟨some (10, false), none, .mov (.tmp 3 true) .peek⟩,⟨some (11, false), none, .iad (.tmp 9 false) (.tmp 10 false) 5⟩,⟨some (12, false), none, .fad (.tmp 11 false) 0⟩,⟨some (13, false), none, .load (.tmp 12 false) 1 false false⟩,⟨some (14, false), none, .len (.tmp 13 false)⟩,⟨some (15, false), none, .mov (.tmp 0 true) .peek⟩,⟨some (16, false), none, .mov (.tmp 3 true) .peek⟩,⟨some (17, false), none, .iad (.tmp 15 false) (.tmp 16 false) 5⟩,⟨some (18, false), none, .fad (.tmp 17 false) 1⟩,⟨some (19, false), none, .load (.tmp 18 false) 1 false false⟩,⟨some (20, false), none, .len (.tmp 19 false)⟩,⟨some (21, false), none, .bin .add (.tmp 14 false) (.tmp 20 false)⟩,⟨some (22, false), none, .bin .gtr (.tmp 21 false) (.cst (.int .i64 600) (.lit (.int .i64 600)))⟩] .done)) [0, 5, 6, 22] []
    (.cond (.tmp 22 false)
      (.seq (.reg (.seq [⟨some (2, true), none, .mov (.cst (.bool false) (.lit (.bool false))) .asg⟩])) [2] []
      (.ret))
      (.skip))))) [0, 5, 6] []
  (.reg (.seq [⟨some (23, false), none, .bin .add (.tmp 6 true) (.cst (.int .i64 1) (.lit (.int .i64 1)))⟩,⟨some (6, true), none, .mov (.tmp 23 false) .peek⟩]))))
def afew_l0 : AC := afew_l0'
theorem afew_l0_w (C : Kn) (K : Ex → St → Prop) (s : St) : vcC C afew_l0 K s = vcC C afew_l0' K s := nr rfl
def afew_k1' : AC := .seq (.reg (.seq [⟨some (24, false), none, .mov (.tmp 0 true) .peek⟩,⟨some (25, false), none, .lenL (.tmp 24 false)⟩,⟨some (26, false), none, .bin .leq (.tmp 25 false) (.cst (.int .i64 30) (.lit (.int .i64 30)))⟩,⟨some (2, true), none, .mov (.tmp 26 false) .asg⟩])) [2] []
  (.ret)
def afew_k1 : AC := afew_k1'
theorem afew_k1_w (C : Kn) (K : Ex → St → Prop) (s : St) : vcC C afew_k1 K s = vcC C afew_k1' K s := nr rfl
def afew : AF := ⟨.seq (.reg (.seq [⟨some (2, true), none, .mov (.cst (.bool false) (.lit (.bool false))) .asg⟩])) [0] []
  (.seq (.seq (.reg (.seq [⟨some (4, false), none, .mov (.tmp 0 true) .peek⟩,⟨some (5, true), none, .lenL (.tmp 4 false)⟩,⟨some (6, true), none, .mov (.cst (.int .i64 0) (.lit (.int .i64 0))) .peek⟩])) [0, 5, 6] []
  (.block 0 (.loop [0, 5, 6] [] afew_l0))) [0] [] afew_k1),
  [.tmp 2]⟩
theorem afew_comp (m : Int) : compF Tryd.prog (gl m) [] Tryd.f13 = some afew := by kernel_rfl
def fewA (l : List ARule) : Bool := l.all (fun r => decide (r.1.length + r.2.1.length ≤ 600)) && decide (l.length ≤ 30)
theorem fs_getA {l : List ARule} {i : Nat} (h : i < l.length) : (fs fA l)[i]? = some (aruleT l[i]) := fs_get fA l h
theorem afew_snd (l : List ARule) (hl : l.length ≤ 1048576) (hb : ∀ r, r ∈ l → r.1.length ≤ 1048575 ∧ r.2.1.length ≤ 1048575) : Snd Tryd.prog (gl m) 13 [.sl .frn 5 (fs fA l)] (B (fewA l)) := by
  refine snd_of (fn := Tryd.f13) (af := afew) Tryd.func13 (afew_comp m) mixed (kn_ok m) (Nat.le_of_ble_eq_true rfl) ?_
  simp only [afew, go_sem, reduceCtorEq, Nat.reduceEqDiff, reduceIte, Nat.reduceAdd, Nat.reduceSub, Nat.reduceLeDiff, Int.reduceToNat, Nat.reduceBEq]
  refine loop_inv l.length (fun i => mkS [(0, .sl .frn 5 (fs fA l)), (5, N l.length), (6, N i)] []) (fun i => (l.take i).all (fun r => decide (r.1.length + r.2.1.length ≤ 600)) = true) rfl rfl ?_
  intro i hi hI ih
  simp only [afew_l0_w, afew_l0', go_sem, reduceCtorEq, Nat.reduceEqDiff, reduceIte, Nat.reduceAdd, Nat.reduceSub, Nat.reduceLeDiff, Int.reduceToNat, Nat.reduceBEq]
  repeat ((with_reducible apply And.intro); (case left => first | omega | (simp only [List.length_append, List.length_cons, List.length_nil, List.length_drop, List.length_take, List.length_tail, List.length_dropLast, fs_length, ss_length, bs_length, ns_length]; omega)))
  by_cases h : i < l.length
  · have g := fs_getA h
    have q1 : IntKind.i64.wrap ((i : Int) + 1) = ((i + 1 : Nat) : Int) := wrapN _ (by omega) (by omega)
    have hr := hb l[i] (List.getElem_mem h)
    have hm := List.getElem_mem h
    have ht := take_snoc h
    generalize l[i] = r at g hr hm ht
    have q2 : IntKind.i64.wrap ((r.1.length : Int) + (r.2.1.length : Int)) = ((r.1.length + r.2.1.length : Nat) : Int) := wrapN _ (by omega) (by omega)
    simp only [lt_t h, g, Int.toNat_natCast, q2, go_sem, reduceCtorEq, Nat.reduceEqDiff, reduceIte, Nat.reduceAdd, Nat.reduceSub, Nat.reduceLeDiff, Int.reduceToNat, Nat.reduceBEq]
    repeat ((with_reducible apply And.intro); (case left => first | omega | (simp only [List.length_append, List.length_cons, List.length_nil, List.length_drop, List.length_take, List.length_tail, List.length_dropLast, fs_length, ss_length, bs_length, ns_length]; omega)))
    by_cases hc : r.1.length + r.2.1.length ≤ 600
    · simp only [igt_f (show ¬ (600 : Int) < ((r.1.length + r.2.1.length : Nat) : Int) by omega), q1, go_sem, reduceCtorEq, Nat.reduceEqDiff, reduceIte, Nat.reduceAdd, Nat.reduceSub, Nat.reduceLeDiff, Int.reduceToNat, Nat.reduceBEq]
      repeat ((with_reducible apply And.intro); (case left => first | omega | (simp only [List.length_append, List.length_cons, List.length_nil, List.length_drop, List.length_take, List.length_tail, List.length_dropLast, fs_length, ss_length, bs_length, ns_length]; omega)))
      exact ih h (by rw [ht, List.all_append, hI]; simp [hc])
    · have e : fewA l = false := by
        have : l.all (fun r => decide (r.1.length + r.2.1.length ≤ 600)) = false := by
          rw [List.all_eq_false]; exact ⟨r, hm, by simp; omega⟩
        rw [fewA, this]; rfl
      rw [e]
      simp only [igt_t (show (600 : Int) < ((r.1.length + r.2.1.length : Nat) : Int) by omega), go_sem, reduceCtorEq, Nat.reduceEqDiff, reduceIte, Nat.reduceAdd, Nat.reduceSub, Nat.reduceLeDiff, Int.reduceToNat, Nat.reduceBEq]
      try rfl
  · obtain rfl : i = l.length := by omega
    rw [List.take_length] at hI
    rw [fewA, hI, Bool.true_and]
    simp only [lt_f h, afew_k1_w, afew_k1', go_sem, reduceCtorEq, Nat.reduceEqDiff, reduceIte, Nat.reduceAdd, Nat.reduceSub, Nat.reduceLeDiff, Int.reduceToNat, Nat.reduceBEq]
    have e : decide ((l.length : Int) ≤ 30) = decide (l.length ≤ 30) := by
      by_cases h : l.length ≤ 30
      · rw [decide_eq_true h, decide_eq_true (by omega)]
      · rw [decide_eq_false h, decide_eq_false (by omega)]
    rw [e]
end Go.At

