import Derived.RangeFuncBox
import Derived.RangeFuncLeaves
import Derived.RangeFuncCalls
import Derived.Shelf.Abstract
import Derived.WalkKit
import Derived.OwnWalkIn
import Derived.TacticsInMore
import Derived.LoopNIn
import Derived.LoopIn
import Derived.Test.YtcahaecjjochbaaDoorAtD
import Derived.Test.YtcahaecjjochbaaDoorEvC
import Derived.Laws.EntriesVeiled
set_option linter.unusedVariables false
set_option linter.unusedSimpArgs false
/- ignore.up: the folders of a path, handed over one by one. -/
namespace Go.At
open Go Go.Ev Go.Proofs Go.RowKit Go.Shelf
set_option linter.unusedVariables false
set_option linter.unusedSimpArgs false
attribute [local go_sem] Oper.semAt_some
set_option maxHeartbeats 1000000 in
theorem up_in (F : Fence) (n : Nat) (h : F.fn 78) (hro : F.round = none) (s : ByteArray) (w : World) :
    CallsIn F n Tryd.prog 78 #[.string s] w fun e w' => e = .returned (.func (.func 110) #[] #[.pointer (some ⟨w.heap.size, 0, none⟩)]) ∧ w' = w.alloc (.cells #[.string s] 9) := by
  refine callsIn_of_wp Tryd.func78 rfl h ?_ hro
  simp only [Tryd.ntmps78, List.size_toArray, List.length_cons, List.length_nil, Nat.reduceAdd, Nat.reduceSub, Array.replicate_succ, Array.replicate_zero, List.push_toArray, List.append_toArray, List.nil_append, List.cons_append]
  gi_wp2
  go_ret
  exact ⟨rfl, rfl⟩
theorem dirs_take (p : Bs) (i : Nat) : dirs p = dirs (p.take i) ++ dirsF (p.take i) (p.drop i) := by
  have := dirsF_append (p.take i) (p.drop i) []
  rw [List.take_append_drop, List.nil_append] at this; exact this
theorem dirs_step {p : Bs} {i : Nat} (h : i < p.length) : dirs (p.take (i + 1)) = if p[i] = 47 then dirs (p.take i) ++ [p.take i] else dirs (p.take i) := by
  rw [take_snoc h, dirs, dirsF_append]
  simp only [dirsF, List.nil_append]
  split
  · rfl
  · rw [List.append_nil]; rfl
theorem dirs_pre (p : Bs) (i : Nat) : dirs (p.take i) <+: dirs p := ⟨_, (dirs_take p i).symm⟩
set_option maxRecDepth 100000 in
set_option maxHeartbeats 2000000 in
theorem up1_in (F : Fence) (n : Nat) (h : F.fn 110) (hro : F.round = none) (hn : 1 ≤ n) (l Bx : Nat) (p : Bs) (hp : p.length ≤ 1048576) (n₀ : Nat) (hB : Bx < n₀) (J Jx : List Bs → World → Prop)
    (hY : ∀ pre x W, J pre W → pre.length < (dirs p).length → x.length < p.length → YieldAt F (n - 1) Tryd.prog l #[.string (str x)] W fun e W' =>
      (e = .returned (.bool true) ∧ J (pre ++ [x]) W' ∧ Below n₀ W W') ∨ (e = .returned (.bool false) ∧ Jx (pre ++ [x]) W'))
    (W : World) (hBx : W.cell? ⟨Bx, 0, none⟩ = some (.string (str p))) (h0 : J [] W) :
    CallsIn F n Tryd.prog 110 #[.func (.yield l) #[] #[], .pointer (some ⟨Bx, 0, none⟩)] W fun e W' => (∃ v, e = .returned v) ∧
      ((∃ ys, ys = dirs p ∧ J ys W') ∨ (∃ pre, (pre <+: dirs p) ∧ Jx pre W')) := by
  refine callsIn_of_wp Tryd.func110 rfl h ?_ hro
  simp only [Tryd.ntmps110, List.size_toArray, List.length_cons, List.length_nil, Nat.reduceAdd, Nat.reduceSub, Array.replicate_succ, Array.replicate_zero, List.push_toArray, List.append_toArray, List.nil_append, List.cons_append]
  have hsz : (str p).size = p.length := by simp [str, ByteArray.size]
  gi_wp2
  gi_loopw [6] (fun i wr => ∃ k : Nat, k ≤ p.length ∧ i = .int .i64 k ∧ J (dirs (p.take k)) wr ∧ Below n₀ W wr)
    (fun i _ => p.length - (Proofs.intOf i).toNat)
  case atStart => exact ⟨0, Nat.zero_le _, rfl, h0, Below.refl _ _⟩
  case round =>
    obtain ⟨k, hk, rfl, hJs, hnx⟩ := hrel
    have hcx := (hnx.cell (p := ⟨Bx, 0, none⟩) hB).trans hBx
    have hx : (str p).extract 0 k = str (p.take k) := by
      apply ByteArray.ext
      simp [str, ByteArray.data_extract]
    by_cases hlt : k < p.length
    · have hgc : (((str p)[k]'(by omega)).toNat : Int) = ((p[k]).toNat : Int) := rfl
      by_cases h47 : p[k] = 47
      · have h47' : (((str p)[k]'(by omega)).toNat : Int) = 47 := by rw [hgc, h47]; rfl
        clear hgc
        have hst := dirs_step hlt
        rw [if_pos h47] at hst
        obtain ⟨fn, tmps, assign, body, hy, hR⟩ := hY _ (p.take k) wr hJs (by
          have := dirs_take p (k + 1)
          rw [this, hst, List.length_append, List.length_append, List.length_singleton]; omega) (by rw [List.length_take]; omega)
        gi_wp2
        · refine hR.mono ?_
          rintro e W3 (⟨rfl, hJ3, hk3⟩ | ⟨rfl, hJx3⟩)
          · gi_wp2
            go_roundw
            case rel => exact ⟨k + 1, by omega, by simp, by rw [hst]; exact hJ3, hnx.trans hk3⟩
            case measure => simp [Proofs.intOf]; omega
          · gi_wp2
            refine bodyPost_ret (results_none rfl _ _ _) rfl ?_
            exact ⟨⟨_, rfl⟩, .inr ⟨_, by rw [← hst]; exact dirs_pre p (k + 1), hJx3⟩⟩
      · have h47' : ¬ (((str p)[k]'(by omega)).toNat : Int) = 47 := by
          rw [hgc]; intro h; apply h47; exact UInt8.toNat_inj.1 (by simpa using Int.ofNat.inj h)
        have hst := dirs_step hlt
        rw [if_neg h47] at hst
        clear hgc
        have hb47 : ((((str p)[k]'(by omega)).toNat : Int) == 47) = false := by simpa using h47'
        gi_wp2
        refine ⟨fun _ h => (nomatch h), ?_⟩
        gi_wp2
        · go_roundw
          case rel => exact ⟨k + 1, by omega, by simp, by rw [hst]; exact hJs, hnx⟩
          case measure => simp [Proofs.intOf]; omega
    · obtain rfl : k = p.length := by omega
      rw [List.take_length] at hJs
      gi_wp2
      go_end0
      exact ⟨⟨_, rfl⟩, .inl ⟨_, rfl, hJs⟩⟩
end Go.At
/- Ignore: is a path ignored? (a range over a function) -/
namespace Go.At
open Go Go.Ev Go.Proofs Go.RowKit Go.Shelf
set_option linter.unusedVariables false
set_option linter.unusedSimpArgs false
attribute [local go_sem] Oper.semAt_some
variable {m : Int}
theorem says_cases (l : List Rule) (p : Bs) (f : Bool) : (lastN l p f = -1 ∧ says l p f = false) ∨ (∃ n r, lastN l p f = ((n : Nat) : Int) ∧ (fs fR l)[n]? = some (ruleT r) ∧ says l p f = !r.2.2.1) := by
  have hb := lastF_lt p f l l.length
  have e := says_last l p f
  have hb' : lastN l p f < l.length ∧ -1 ≤ lastN l p f := hb
  by_cases h : lastN l p f < 0
  · exact .inl ⟨by omega, by rw [e, if_pos h]⟩
  · obtain ⟨n, hn⟩ : ∃ n : Nat, lastN l p f = n := ⟨(lastN l p f).toNat, by omega⟩
    have hlt : n < l.length := by omega
    refine .inr ⟨n, l[n], hn, fs_getR hlt, ?_⟩
    rw [e, if_neg h, hn, Int.toNat_natCast, List.getElem?_eq_getElem hlt]; rfl
theorem rel_later {w w' : World} {zf : Nat → Nat → Prop} (k : Below w.heap.size w w') (hzf : ∀ b i, zf b i → b < w.heap.size) {x : AV} {v : Value} (h : Rel (X0 w zf) false x v []) : Rel (X0 w' zf) false x v [] :=
  Rel.mono (X := X0 w zf) (X' := X0 w' zf) (P := fun _ => False) ⟨fun r a h => (nomatch h), fun r a h => (nomatch h), fun b i v h hc => ⟨h, (k.cell (p := ⟨b, i, none⟩) (hzf b i h)).trans hc⟩, fun b i v h hc => absurd trivial h.2.1, fun b h => h.elim⟩ h (fun b hb => nomatch hb)
theorem tabs_later {w w' : World} {zf : Nat → Nat → Prop} (k : Below w.heap.size w w') (hzf : ∀ b i, zf b i → b < w.heap.size) (h : TabsAt (gl m) w zf) : TabsAt (gl m) w' zf :=
  ⟨h.lit, fun g vs hg i v hi => ⟨(k.cell (p := ⟨g, i, none⟩) (hzf _ _ (h.cell g vs hg i v hi).2)).trans (h.cell g vs hg i v hi).1, (h.cell g vs hg i v hi).2⟩, h.size.keep (keep_below k)⟩
/-- ignore.Last of a list that lies frozen -/
theorem last_in (n : Nat) (l : List Rule) (p : Bs) (f : Bool) (hl : okRules l) (hp : p.length ≤ 1048575) {w : World} {zf : Nat → Nat → Prop} (hzf : ∀ b i, zf b i → b < w.heap.size) (ht : TabsAt (gl m) w zf) {v : Value} (hr : Rel (X0 w zf) false (.sl .frn 5 (fs fR l)) v []) :
    CallsIn Fence.wide n Tryd.prog 36 #[v, .string (str p), .bool f] w fun e w' => e = .returned (.int .i64 (lastN l p f)) ∧ Below w.heap.size w w' := by
  refine callsIn_wide.2 ((ilast_snd (m := m) l p f hl hp w #[v, .string (str p), .bool f] zf hzf ht ?_).mono ?_)
  · exact RelT.cons false _ v [] _ _ [] hr (RelT.cons false _ _ [] _ _ [] (.lit _ _ rfl) (RelT.cons false _ _ [] _ _ [] (.lit _ _ rfl) (.nil _) (fun b hb => nomatch hb)) (fun b hb => nomatch hb)) (fun b hb => nomatch hb)
  · rintro e w' ⟨u, rfl, hk, X, F, _, _, _, _, hrel, _⟩
    exact ⟨by rw [hrel.lit_inv.1], below_keep hk⟩
/-- what stands in a rule of the list -/
theorem rule_at {w : World} {zf : Nat → Nat → Prop} {l : List Rule} {v : Value} (hr : Rel (X0 w zf) false (.sl .frn 5 (fs fR l)) v []) {n : Nat} {r : Rule} (hn : (fs fR l)[n]? = some (ruleT r)) :
    ∃ a o c, v = .slice (some ⟨a, o, none⟩) l.length c ∧ n < l.length ∧ w.cell? ⟨a, o + n * 5 + 2, none⟩ = some (.bool r.2.2.1) := by
  generalize hx : fs fR l = xs at hr hn
  have hlen : xs.length = l.length := by rw [← hx, fs_length]
  cases hr with
  | nil _ _ _ A => simp at hn
  | imm _ _ _ ad cap _ vs hfl hc hu hrd hcs =>
    have hlt : n < xs.length := by
      rcases Nat.lt_or_ge n xs.length with h | h
      · exact h
      · rw [List.getElem?_eq_none h] at hn; cases hn
    have hf : (flat xs)[n * 5 + 2]? = some (B r.2.2.1) := flat_get hu hn (o := 2) rfl
    obtain ⟨u, G, hu1, hu2, hu3, hu4⟩ := hcs.get hf
    have e := hu2.lit_inv.1
    subst e
    have h1 := (hrd _ _ hu1).1
    have hs2 : ad.spot = none := by
      cases vs with
      | nil => simp at hu1
      | cons v0 vs =>
        have := (hrd 0 v0 rfl).1
        exact Addr.spot_of_cell (a := ad) (by simpa [Addr.add] using this)
    rw [Addr.add_spot hs2] at h1
    refine ⟨ad.block, ad.off, cap, by rw [← hlen, ← Addr.eta hs2], by omega, ?_⟩
    rw [Nat.add_assoc]; exact h1
set_option maxRecDepth 100000 in
set_option maxHeartbeats 2000000 in
/-- the function in Is -/
theorem is1_in (n : Nat) (hn : 1 ≤ n) (l : List Rule) (d : Bs) (f : Bool) (hl : okRules l) (hp : d.length ≤ 1048575) {w : World} {zf : Nat → Nat → Prop} (hzf : ∀ b i, zf b i → b < w.heap.size) (ht : TabsAt (gl m) w zf) {v : Value} (hr : Rel (X0 w zf) false (.sl .frn 5 (fs fR l)) v [])
    (Bx : Nat) (hB : w.cell? ⟨Bx, 0, none⟩ = some v) :
    CallsIn Fence.wide n Tryd.prog 77 #[.string (str d), .bool f, .pointer (some ⟨Bx, 0, none⟩)] w fun e w' => e = .returned (.bool (says l d f)) ∧ Below w.heap.size w w' := by
  have hF : Fence.wide.fn 36 := trivial
  refine callsIn_of_wp Tryd.func77 rfl trivial ?_ rfl
  simp only [Tryd.ntmps77, List.size_toArray, List.length_cons, List.length_nil, Nat.reduceAdd, Nat.reduceSub, Array.replicate_succ, Array.replicate_zero, List.push_toArray, List.append_toArray, List.nil_append, List.cons_append]
  rcases says_cases l d f with ⟨e1, e2⟩ | ⟨k, r, e1, e3, e2⟩
  · gi_wp2_with (gi_at_call 36; refine (last_in (m := m) (n - 1) l d f hl hp hzf ht hr).mono ?_; rw [e1]; rintro e w' ⟨rfl, hb⟩)
    rw [e2]
    exact bodyPost_ret (results_tmp rfl _ _ _) rfl ⟨rfl, hb⟩
  · obtain ⟨a, o, c, rfl, hlt, hc⟩ := rule_at hr e3
    gi_wp2_with (gi_at_call 36; refine (last_in (m := m) (n - 1) l d f hl hp hzf ht hr).mono ?_; rw [e1]; rintro e w' ⟨rfl, hb⟩; have hB' := (hb.cell (p := ⟨Bx, 0, none⟩) (cell_lt hB)).trans hB; have hc' := (hb.cell (p := ⟨a, o + k * 5 + 2, none⟩) (cell_lt hc)).trans hc)
    rw [e2]
    exact bodyPost_ret (results_tmp rfl _ _ _) rfl ⟨rfl, hb⟩
theorem Boxed.below' {W W' : World} {Bx : Nat} {t : TypeId} {v : Value} (h : Below W.heap.size W W') (b : Boxed W Bx t v) : Boxed W' Bx t v := (h.block Bx b.lt).trans b
theorem frozen_later {W W' : World} (h : Below W.heap.size W W') {b : Nat} {v : Value} (hc : W.cell? ⟨b, 0, none⟩ = some v) : W'.frozen? ⟨b, 0, none⟩ = W.frozen? ⟨b, 0, none⟩ := by
  unfold World.frozen?; rw [h.block _ (cell_lt hc)]
theorem keeps_later {W W' : World} (h : Below W.heap.size W W') (B : Nat) : KeepsFrom B W W' := ⟨h.size, fun k o _ hk _ => (h.block k (Array.getElem?_eq_some_iff.1 hk).1).trans hk⟩
theorem relT_three {X : Cx} {x : AV} {a b : Value} : ∀ {vs : List Value} {F : List Nat}, RelT X false [x, .lit a, .lit b] vs F → F = [] → ∃ v, vs = [v, a, b] ∧ Rel X false x v [] := by
  intro vs F h hF
  cases h with
  | cons _ _ v F1 _ vs F2 h hs hd =>
    cases hs with
    | cons _ _ v2 F3 _ vs F4 h2 hs hd2 =>
      cases hs with
      | cons _ _ v3 F5 _ vs F6 h3 hs hd3 =>
        cases hs
        have hF1 : F1 = [] := (List.append_eq_nil_iff.1 hF).1
        subst hF1
        exact ⟨v, by rw [h2.lit_inv.1, h3.lit_inv.1], h⟩
theorem rel_sl {X : Cx} {t : Bool} {fl : Fl} {es : Nat} {xs : List AV} {v : Value} {F : List Nat} (h : Rel X t (.sl fl es xs) v F) : ∃ A L C, v = .slice A L C := by
  cases h <;> exact ⟨_, _, _, rfl⟩
/-- a folder of a path -/
def Dir : Type := { d : Bs // d.length ≤ 1048575 }
theorem up_stops (n : Nat) (hn : 1 ≤ n) (Bx n₀ : Nat) (hB : Bx < n₀) (p : Bs) (hp : p.length ≤ 1048575) (w : World) (hc : w.cell? ⟨Bx, 0, none⟩ = some (.string (str p))) (hBw : Bx < w.heap.size) :
    SeqStopsK Fence.wide n Tryd.prog 110 #[.pointer (some ⟨Bx, 0, none⟩)] (fun x : Dir => #[Value.string (str x.1)]) (Below n₀) (fun ys => ys.map (·.1) = dirs p) (fun pre => pre.map (·.1) <+: dirs p) (dirs p).length w := by
  intro l J Jx W hW _ _ hY h0
  refine (up1_in Fence.wide n trivial rfl hn l Bx p (by omega) n₀ hB (fun ys W => ∃ zs : List Dir, zs.map (·.1) = ys ∧ J zs W) (fun ys W => ∃ zs : List Dir, zs.map (·.1) = ys ∧ Jx zs W) ?_ W ((hW.cell (p := ⟨Bx, 0, none⟩) hBw).trans hc) ⟨[], rfl, h0⟩).mono ?_
  · rintro pre x W1 ⟨zs, rfl, hJ⟩ hlen hx
    obtain ⟨fn, tmps, assign, body, hy, hR⟩ := hY zs ⟨x, by omega⟩ W1 hJ (by simpa using hlen)
    refine ⟨fn, tmps, assign, body, hy, hR.mono ?_⟩
    rintro e W' (⟨he, hj, hk⟩ | ⟨he, hj⟩)
    · exact .inl ⟨he, ⟨_, by rw [List.map_append]; rfl, hj⟩, hk⟩
    · exact .inr ⟨he, ⟨_, by rw [List.map_append]; rfl, hj⟩⟩
  · rintro e W' ⟨hv, ⟨ys, rfl, zs, hz, hj⟩ | ⟨pre, hpre, zs, rfl, hj⟩⟩
    · exact ⟨hv, .inl ⟨zs, hz, hj⟩⟩
    · exact ⟨hv, .inr ⟨zs, hpre, hj⟩⟩
set_option maxRecDepth 100000 in
set_option maxHeartbeats 4000000 in
theorem is_snd (l : List Rule) (p : Bs) (f : Bool) (hl : okRules l) (hp : p.length ≤ 1048575) : Snd Tryd.prog (gl m) 38 [.sl .frn 5 (fs fR l), S p, B f] (B (isI l p f)) := by
  intro w vals zf hzf ht hargs
  obtain ⟨v, hvals, hr⟩ := relT_three hargs rfl
  obtain ⟨A, L, C, rfl⟩ := rel_sl hr
  have hvals : vals = #[.slice A L C, .string (str p), .bool f] := by cases vals; exact congrArg Array.mk hvals
  subst hvals
  have key : Calls Tryd.prog 38 #[.slice A L C, .string (str p), .bool f] w fun e w' => e = .returned (.bool (isI l p f)) ∧ Below w.heap.size w w' := by
    refine callsIn_wide.1 (callsIn_of_wp_marks (n := 5) Tryd.func38 rfl trivial ?_ rfl)
    simp only [Tryd.ntmps38, List.size_toArray, List.length_cons, List.length_nil, Nat.reduceAdd, Nat.reduceSub, Array.replicate_succ, Array.replicate_zero, List.push_toArray, List.append_toArray, List.nil_append, List.cons_append]
    have hF1 : Fence.wide.fn 69 := trivial
    have hF2 : Fence.wide.fn 78 := trivial
    have hisp : ∀ (n : Nat) (W : World), Below w.heap.size w W → CallsIn Fence.wide n Tryd.prog 69 #[.string (str p)] W fun e w' => e = .returned (.bool (Gb.isPath p)) ∧ Below W.heap.size W w' := by
      intro n W hW
      refine callsIn_wide.2 ((Gb.pis_snd (m := m) p (by omega) W #[.string (str p)] zf (fun b i h => Nat.lt_of_lt_of_le (hzf b i h) hW.size) (tabs_later hW hzf ht) ?_).mono ?_)
      · exact RelT.cons false _ _ [] _ _ [] (.lit _ _ rfl) (.nil _) (fun b hb => nomatch hb)
      · rintro e w' ⟨u, rfl, hk, X, F, _, _, _, _, hrel, _⟩
        exact ⟨by rw [hrel.lit_inv.1], below_keep hk⟩
    have b3 := (Boxed.new w 42 (.slice A L C)).alloc (.cells #[.bool false] 4)
    have b6 := Boxed.new (w.alloc (.cells #[.slice A L C] 42)) 4 (.bool false)
    rw [World.size_alloc] at b6
    have hB0 : Below w.heap.size w ((w.alloc (.cells #[.slice A L C] 42)).alloc (.cells #[.bool false] 4)) := ((Below.refl _ w).alloc (Nat.le_refl _) _).alloc (by simp) _
    cases hpath : Gb.isPath p with
    | false =>
      rw [hpath] at hisp
      gi_wp2_with (gi_at_call 69; refine (hisp _ _ hB0).mono ?_; rintro e w1 ⟨rfl, hb⟩; have hB6 := Boxed.below' hb b6; have hBB3 := Boxed.below' hb b3; have hc6 := hB6.cell; have hf6 := hB6.frozen; have hc3 := hBB3.cell; have b7 := Boxed.new w1 73 .nilFunc; have hc7 := b7.cell; have hf7 := b7.frozen)
      have hc := World.cell?_setCell_same' w1 ⟨w.heap.size + 1, 0, none⟩ (.bool false) (by rw [hc6]; rfl)
      exact ⟨.bool false, by simp [results, Tryd.f38, go_sem, hc], by rw [isI, hpath]; rfl, ((hB0.trans (hb.mono (by simp; omega))).setCell (p := ⟨w.heap.size + 1, 0, none⟩) (by simp) _)⟩
    | true =>
      rw [hpath] at hisp
      gi_wp2_with (first | (gi_at_call 69; refine (hisp _ _ hB0).mono ?_; rintro e w1 ⟨rfl, hb⟩; have hB6 := Boxed.below' hb b6; have hBB3 := Boxed.below' hb b3; have hc6 := hB6.cell; have hf6 := hB6.frozen; have hc3 := hBB3.cell; have b7 := Boxed.new w1 73 .nilFunc; have hc7 := b7.cell; have hf7 := b7.frozen) | (gi_at_call 78; refine (up_in Fence.wide _ trivial rfl _ _).mono ?_; rintro e w' ⟨rfl, rfl⟩))
      have b3' : Boxed w1 w.heap.size 42 (.slice A L C) := Boxed.below' hb b3
      have b6' : Boxed w1 (w.heap.size + 1) 4 (.bool false) := Boxed.below' hb b6
      have b7' := Boxed.new w1 73 (.func (.func 77) #[] #[.pointer (some ⟨w.heap.size, 0, none⟩)])
      generalize hw2 : w1.alloc (.cells #[.func (.func 77) #[] #[.pointer (some ⟨w.heap.size, 0, none⟩)]] 73) = w2 at b7' ⊢
      have hw2' : w2.heap.size = w1.heap.size + 1 := by rw [← hw2]; simp
      have b3'' : Boxed w2 w.heap.size 42 (.slice A L C) := by rw [← hw2]; exact b3'.alloc _
      have b6'' : Boxed w2 (w.heap.size + 1) 4 (.bool false) := by rw [← hw2]; exact b6'.alloc _
      have b8 := Boxed.new w2 9 (.string (str p))
      have hlt : w.heap.size + 2 ≤ w1.heap.size := by have := hb.size; simpa using this
      have hB1 : Below w.heap.size w w1 := hB0.trans (hb.mono (by simp; omega))
      have hB2 : Below w.heap.size w w2 := by rw [← hw2]; exact hB1.alloc (by omega) _
      rw [hw2'] at b8
      have hB3 : Below w.heap.size w (w2.alloc (.cells #[.string (str p)] 9)) := hB2.alloc (by omega) _
      generalize hw3 : w2.alloc (.cells #[.string (str p)] 9) = w3 at b8 hB3 ⊢
      have hw3' : w3.heap.size = w1.heap.size + 2 := by rw [← hw3]; simp [hw2']
      have c3 : Boxed w3 w.heap.size 42 (.slice A L C) := by rw [← hw3]; exact b3''.alloc _
      have c6 : Boxed w3 (w.heap.size + 1) 4 (.bool false) := by rw [← hw3]; exact b6''.alloc _
      have c7 : Boxed w3 w1.heap.size 73 (.func (.func 77) #[] #[.pointer (some ⟨w.heap.size, 0, none⟩)]) := by rw [← hw3]; exact b7'.alloc _
      clear hc6 hf6 hc3 hc7 hf7 b3' b6' b7' b3'' b6'' b7 hB6 hBB3 hB0 b3 b6
      refine wpIn_rangeFunc_ownG rfl (Nat.le_of_ble_eq_true rfl) (gf := 110) (lb := #[.pointer (some ⟨w1.heap.size + 1, 0, none⟩)]) rfl trivial (enters_of Tryd.func110 (by kernel_rfl) rfl)
        (up_stops 4 (by omega) (w1.heap.size + 1) (w1.heap.size + 2) (by omega) p hp w3 b8.cell b8.lt) belowK_t (belowK_b (by omega)) (Below.refl _ _) (fun _ => rfl)
        (fun pre W => ((pre.any (fun x : Dir => says l x.1 true) = false ∧ W.cell? ⟨w.heap.size, 0, none⟩ = some (.slice A L C) ∧ W.cell? ⟨w1.heap.size, 0, none⟩ = some (.func (.func 77) #[] #[.pointer (some ⟨w.heap.size, 0, none⟩)])) ∧ W.cell? ⟨w.heap.size + 1, 0, none⟩ = some (.bool false) ∧ W.frozen? ⟨w.heap.size + 1, 0, none⟩ = false) ∧ Below w.heap.size w W ∧ Below w3.heap.size w3 W)
        (fun c pre W => (c = .ret ∧ pre.any (fun x : Dir => says l x.1 true) = true ∧ W.cell? ⟨w.heap.size + 1, 0, none⟩ = some (.bool true)) ∧ Below w.heap.size w W)
        ?hI ?hIx ?h0 (fun x => { tmps := #[.slice A L C, .string (str p), .bool f, .pointer (some ⟨w.heap.size, 0, none⟩), undef, undef, .pointer (some ⟨w.heap.size + 1, 0, none⟩), .pointer (some ⟨w1.heap.size, 0, none⟩), .string (str x.1), .string (str p), .bool true, .bool false, .func (.func 77) #[] #[.pointer (some ⟨w.heap.size, 0, none⟩)], .string (str p), .func (.func 110) #[] #[.pointer (some ⟨w1.heap.size + 1, 0, none⟩)], .string (str x.1), undef, undef, undef, undef, undef, undef, undef], defers := [] }) ?assign ?body ?done ?stop
      case hI => exact OwnFrom.and (Own.from (fun s A B row hs hg hr => ⟨⟨hs.1.1, cell_kept hs.1.2.1 hg hr, cell_kept hs.1.2.2 hg hr⟩, cell_kept hs.2.1 hg hr, (frozen_kept hs.2.1 hg hr).trans hs.2.2⟩) _) (OwnFrom.and (ownFrom_below (Nat.le_refl _) (by omega)) (ownFrom_below (Nat.le_refl _) (Nat.le_refl _)))
      case hIx => exact fun c => OwnFrom.and (Own.from (fun s A B row hs hg hr => ⟨hs.1, hs.2.1, cell_kept hs.2.2 hg hr⟩) _) (ownFrom_below (Nat.le_refl _) (by omega))
      case h0 => exact ⟨⟨⟨rfl, c3.cell, c7.cell⟩, c6.cell, c6.frozen⟩, hB3, .refl _ _⟩
      case assign =>
        intro l' x W K hK
        gi_wp2
        exact hK
      case body =>
        rintro l' pre x W ⟨⟨⟨h1, h3, h7⟩, h6, h6f⟩, hB, hD⟩ hlen
        have hF7 : Fence.wide.fn 77 := trivial
        gi_wp2_with (gi_at_call 77; refine (CallsIn.inRound l' (is1_in (m := m) _ (by omega) l x.1 true hl x.2 (fun b i h => Nat.lt_of_lt_of_le (hzf b i h) hB.size) (tabs_later hB hzf ht) (rel_later hB hzf hr) w.heap.size h3)).mono ?_; rintro e w4 ⟨rfl, hb4⟩; have k6 := (hb4.cell (p := ⟨w.heap.size + 1, 0, none⟩) (cell_lt h6)).trans h6; have k6f := (frozen_later hb4 h6).trans h6f; have k3 := (hb4.cell (p := ⟨w.heap.size, 0, none⟩) (cell_lt h3)).trans h3; have k7 := (hb4.cell (p := ⟨w1.heap.size, 0, none⟩) (cell_lt h7)).trans h7)
        · have hx : says l x.1 true = true := by assumption
          refine ⟨(keeps_later hb4 _).trans ((KeepsOthers.setCell _ _ _).from _), ⟨rfl, by rw [List.any_append, h1]; simp [hx], World.cell?_setCell_same' w4 ⟨w.heap.size + 1, 0, none⟩ (.bool true) (by rw [k6]; rfl)⟩, (hB.trans (hb4.mono hB.size)).setCell (p := ⟨w.heap.size + 1, 0, none⟩) (by simp) _⟩
        · have hx : says l x.1 true = false := by assumption
          exact ⟨keeps_later hb4 _, hb4.mono (by have := hD.size; omega), ⟨⟨by rw [List.any_append, h1]; simp [hx], k3, k7⟩, k6, k6f⟩, hB.trans (hb4.mono hB.size), hD.trans (hb4.mono hD.size)⟩
      case done =>
        rintro D ys W hD hys ⟨⟨⟨h1, h3, h7⟩, h6, h6f⟩, hB, hE⟩ hK
        have hF7 : Fence.wide.fn 77 := trivial
        gi_wp2_with (gi_at_call 77; refine (is1_in (m := m) _ (by omega) l p f hl hp (fun b i h => Nat.lt_of_lt_of_le (hzf b i h) hB.size) (tabs_later hB hzf ht) (rel_later hB hzf hr) w.heap.size h3).mono ?_; rintro e w4 ⟨rfl, hb4⟩; have k6 := (hb4.cell (p := ⟨w.heap.size + 1, 0, none⟩) (cell_lt h6)).trans h6; have k6f := (frozen_later hb4 h6).trans h6f)
        have hK4 : (w4.setCell ⟨w.heap.size + 1, 0, none⟩ (.bool (says l p f))).heap[D]? = some (.deferred (some [])) :=
          (KeepsOthers.setCell w4 ⟨w.heap.size + 1, 0, none⟩ (.bool (says l p f))).same D _ ((hb4.block D (Array.getElem?_eq_some_iff.1 hK).1).trans hK) rfl
        refine ⟨by simp, .inl ⟨_, _, rfl, run_takeDeferred hK4, ?_⟩⟩
        have hc5 := cell_kept (World.cell?_setCell_same' w4 ⟨w.heap.size + 1, 0, none⟩ (.bool (says l p f)) (by rw [k6]; rfl)) (grownBy_putObj' _ D (.deferred none)) (fun r e => by cases e; exact ⟨_, hK4, rfl⟩)
        refine ⟨.bool (says l p f), by simp [results, Tryd.f38, go_sem, hc5], ?_, ((hB.trans (hb4.mono hB.size)).setCell (p := ⟨w.heap.size + 1, 0, none⟩) (by simp) _).trans (belowK_b (w := w) (Nat.le_refl _) _ D _ _ (by omega) hK4 rfl rfl)⟩
        have : (dirs p).any (says l · true) = false := by
          rw [← hys, List.any_map]; exact h1
        rw [isI, hpath, this]; rfl
      case stop =>
        rintro D c pre W hD hpre ⟨⟨rfl, h1, h6⟩, hB⟩ hK
        gi_wp2
        refine ⟨by simp, .inl ⟨_, _, rfl, run_takeDeferred hK, ?_⟩⟩
        have hc5 := cell_kept h6 (grownBy_putObj' _ D (.deferred none)) (fun r e => by cases e; exact ⟨_, hK, rfl⟩)
        refine ⟨.bool true, by simp [results, Tryd.f38, go_sem, hc5], ?_, hB.trans (belowK_b (w := w) (Nat.le_refl _) W D _ _ (by omega) hK rfl rfl)⟩
        have : (dirs p).any (says l · true) = true := by
          obtain ⟨zs, hz⟩ := hpre
          rw [← hz, List.any_append, List.any_map]
          rw [show ((fun x => says l x true) ∘ fun x : Dir => x.1) = fun x : Dir => says l x.1 true from rfl, h1]; rfl
        rw [isI, hpath, this]; rfl
  refine key.mono ?_
  rintro e w' ⟨rfl, hb⟩
  exact ⟨_, rfl, back_lit rfl hb⟩
end Go.At

