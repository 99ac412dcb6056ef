import Derived.Test.YtfkggoohajdabaaDoorWB
import Derived.Test.YtfkggoohajdabaaDoorPA
import Derived.Test.YtfkggoohajdabaaDoorSh
import Derived.Shelf.Strings.Builder1
import Derived.Lib.OthersKept
import Derived.Test.YtfkggoohajdabaaDoorWA
import Derived.WalkKit
import Derived.OwnWalk
import Derived.Laws.EntriesVeiled
import Derived.Test.YtfkggoohajdabaaDoorEvC
import Derived.LoopTactic
import Derived.Lib.Hide
import Derived.Test.YtfkggoohajdabaaDoorWC
import Derived.Test.YtfkggoohajdabaaDoorWD
set_option linter.unusedVariables false
set_option linter.unusedSimpArgs false
/- Hunks: a hunk's first line, as the program writes it. -/
namespace Go.Hk
open Go Go.Ev Go.Proofs
set_option linter.unusedVariables false
set_option linter.unusedSimpArgs false
set_option maxHeartbeats 4000000
attribute [local go_sem] eqs implies_true List.map_cons List.map_nil kl klL roD roL Option.map_some Option.map_none Option.getD_some Option.getD_none binVal binObl unVal if_true if_false eq_self passA frnD resD content getH getR getW viaNot viaSlot viaBox viaDeep viaMem List.contains_cons List.contains_nil grabs peeks okCells isCell place cellsOf chunk elt List.headD_cons List.length_cons List.length_nil List.take_succ_cons List.take_zero List.drop_succ_cons List.drop_zero List.nil_append List.cons_append List.append_nil List.all_cons List.all_nil plainC takeR setW over reCell List.getElem?_cons_zero List.getElem?_cons_succ List.set_cons_zero List.take_length outV resG plainV pack outVG outBx List.set_cons_succ Ref.idx Ref.addOff beq_self_eq_true bxL Option.bind_some writeR isLit viaBoxes capsPA boxPA nsOf noDup boxesAt argG passG passD rhoIn rhoOut idxIn tr trL List.getD_cons_zero gives pasOf isPtr Ins.d List.getD_cons_succ resL frnL partB_f partB_t partB_p partB_s St.setP mixR v_slcT List.getLast?_nil List.getLast?_singleton List.dropLast_singleton List.nil_append frnL_fs roL_fs resL_fs passL_fs klL_fs trL_fs map_roD_fs fs_length hS_length frnL_hS roL_hS_own roL_hS_frn roL_hS_ro resL_hS_own resL_hS_ro klL_hS klL_hS_own klL_hS_frn passL_hS_own passL_hS_frn trL_hS_own trL_hS_frn
variable {m : Int × Bool}
def pplace : AF := ⟨.seq (.reg (.seq [⟨some (4, true), none, .mov (.cst (.string (str [])) (.lit (.string (str [])))) .asg⟩])) [0, 1] []
  (.seq (.seq (.reg (.seq [⟨some (5, false), none, .mov (.tmp 1 true) .peek⟩,⟨some (6, false), none, .bin .gtr (.tmp 5 false) (.cst (.int .i64 0) (.lit (.int .i64 0)))⟩])) [0, 1, 6] []
  (.cond (.tmp 6 false)
    (.reg (.seq [⟨some (7, false), none, .mov (.tmp 0 true) .peek⟩,⟨some (8, false), none, .bin .add (.tmp 7 false) (.cst (.int .i64 1) (.lit (.int .i64 1)))⟩,⟨some (0, true), none, .mov (.tmp 8 false) .asg⟩]))
    (.skip))) [0, 1] []
  (.seq (.reg (.seq [⟨some (9, false), none, .mov (.tmp 0 true) .peek⟩,⟨some (10, false), none, .call 75 [.tmp 9 false]⟩,⟨some (11, false), none, .bin .add (.tmp 10 false) (.cst (.string (str [44])) (.lit (.string (str [44]))))⟩,⟨some (12, false), none, .mov (.tmp 1 true) .peek⟩,⟨some (13, false), none, .call 75 [.tmp 12 false]⟩,⟨some (14, false), none, .bin .add (.tmp 11 false) (.tmp 13 false)⟩,⟨some (4, true), none, .mov (.tmp 14 false) .asg⟩])) [4] []
  (.ret))),
  [.tmp 4]⟩
theorem pplace_comp (m : Int × Bool) : compF Tryd.prog (gl m) [] Tryd.f74 = some pplace := by kernel_rfl
def phead : AF := ⟨.seq (.reg (.seq [⟨some (8, true), none, .mov (.cst (.string (str [])) (.lit (.string (str [])))) .asg⟩])) [0, 1, 2, 3] []
  (.seq (.reg (.seq [⟨some (9, true), none, .mov (.cst (.func (.func 74) #[] #[]) (.lit (.func (.func 74) #[] #[]))) .asg⟩])) [0, 1, 2, 3, 9] []
  (.seq (.reg (.seq [⟨some (10, false), none, .mov (.tmp 9 true) .peek⟩,⟨some (11, false), none, .mov (.tmp 0 true) .peek⟩,⟨some (12, false), none, .mov (.tmp 1 true) .peek⟩,⟨some (13, false), none, .callV (.tmp 10 false) [.tmp 11 false, .tmp 12 false]⟩,⟨some (14, false), none, .bin .add (.cst (.string (str [64, 32, 45])) (.lit (.string (str [64, 32, 45])))) (.tmp 13 false)⟩,⟨some (15, false), none, .bin .add (.tmp 14 false) (.cst (.string (str [32, 43])) (.lit (.string (str [32, 43]))))⟩,⟨some (16, false), none, .mov (.tmp 9 true) .peek⟩,⟨some (17, false), none, .mov (.tmp 2 true) .peek⟩,⟨some (18, false), none, .mov (.tmp 3 true) .peek⟩,⟨some (19, false), none, .callV (.tmp 16 false) [.tmp 17 false, .tmp 18 false]⟩,⟨some (20, false), none, .bin .add (.tmp 15 false) (.tmp 19 false)⟩,⟨some (21, false), none, .bin .add (.tmp 20 false) (.cst (.string (str [32, 64, 10])) (.lit (.string (str [32, 64, 10]))))⟩,⟨some (8, true), none, .mov (.tmp 21 false) .asg⟩])) [8] []
  (.ret))),
  [.tmp 8]⟩
theorem phead_comp (m : Int × Bool) : compF Tryd.prog (gl m) [] Tryd.f53 = some phead := by kernel_rfl
open Go.Ob (dec)
theorem tab_pow {w : World} {zf : Nat → Nat → Prop} (h : TabsAt (gl m) w zf) : Lib.TabIs Tryd.prog w "internal/strconv.uint64pow10" .u64 Lib.pow10Tab := by
  have hg : Tryd.prog.globalNamed "internal/strconv.uint64pow10" = some 1 := by kernel_rfl
  have ht : (gl m).t 1 = some (Lib.pow10Tab.map (Value.int .u64)) := rfl
  have hl : (Lib.pow10Tab.map (Value.int .u64)).length = 20 := by rw [List.length_map, Lib.pow10Tab_length]
  obtain ⟨arr, e, fr, h1, h2⟩ := h.size _ _ ht (by rw [hl]; omega)
  have : arr = (Lib.pow10Tab.map (Value.int .u64)).toArray := by
    apply Array.ext'
    rw [List.toList_toArray]
    refine List.ext_getElem (by rw [Array.length_toList, h2]) fun i hi hj => ?_
    have hc := (h.cell _ _ ht i _ (List.getElem?_eq_getElem hj)).1
    simp only [World.cell?, h1] at hc
    have hc' : arr[i]? = some ((Lib.pow10Tab.map (Value.int .u64)).toArray.toList[i]) := hc
    rw [Array.getElem_toList]
    exact (Array.getElem?_eq_some_iff.1 hc').2
  simp only [Lib.TabIs, World.var?, hg, Option.bind_some, h1, this]
theorem itoa_snd (n : Nat) (hn : n ≤ 4294960000) : Snd Tryd.prog (gl m) 75 [N n] (S (dec n)) :=
  snd_below (us := [.int .i64 (n : Int)]) rfl fun w zf ht => (Tryd.strconv_Itoa (n : Int) (by omega) (by omega) w (tab_pow ht)).mono fun e w' ⟨h1, k, os, h2⟩ => ⟨by
    rw [h1, Lib.itoa, if_neg (by omega), Int.toNat_natCast]; rfl, by
    subst h2
    exact ⟨rfl, rfl, rfl, by show w.heap.size ≤ (w.heap ++ os).size; rw [Array.size_append]; omega, fun b hb => by
      show (w.heap ++ os)[b]? = w.heap[b]?
      rw [Array.getElem?_append_left hb]⟩⟩
theorem dec_le (k : Nat) : ∀ n, n < 10 ^ (k + 1) → (dec n).length ≤ k + 1 := by
  induction k with
  | zero => intro n h; rw [Go.Ob.dec_small (by omega)]; simp
  | succ k ih =>
    intro n h
    by_cases h0 : n < 10
    · rw [Go.Ob.dec_small h0]; simp
    · rw [Go.Ob.dec_step h0, List.length_append]
      have h3 : n / 10 < 10 ^ (k + 1) := by rw [Nat.div_lt_iff_lt_mul (by omega)]; rw [Nat.pow_succ] at h; exact h
      have := ih _ h3
      simp; omega
theorem dec_len (n : Nat) (hn : n ≤ 4294960000) : (dec n).length ≤ 10 := dec_le 9 n (by omega)
theorem pplace_snd (f n : Nat) (hf : f ≤ 4294950000) (hn : n ≤ 4294950000) : Snd Tryd.prog (gl m) 74 [N f, N n] (S (dec (placeN f n) ++ [44] ++ dec n)) := by
  refine snd_of (fn := Tryd.f74) (af := pplace) Tryd.func74 (pplace_comp m) mixed (kn_ok m) (Nat.le_of_ble_eq_true rfl) ?_
  simp only [pplace, go_sem, reduceCtorEq, Nat.reduceEqDiff, reduceIte, Nat.reduceAdd, Nat.reduceSub, Nat.reduceLeDiff, Int.reduceToNat, Nat.reduceBEq]
  by_cases h : 0 < n
  · have w1 : IntKind.i64.wrap ((f : Int) + 1) = ((f + 1 : Nat) : Int) := wrapN _ (by omega) (by omega)
    have hp : placeN f n = f + 1 := by rw [placeN, if_neg (by omega), Int.toNat_natCast]
    rw [hp]
    simp only [decide_eq_true (show ((n : Nat) : Int) > 0 by omega), w1, go_sem, reduceCtorEq, Nat.reduceEqDiff, reduceIte, Nat.reduceAdd, Nat.reduceSub, Nat.reduceLeDiff, Int.reduceToNat, Nat.reduceBEq]
    have d1 := dec_len (f + 1) (by omega)
    have d2 := dec_len n (by omega)
    repeat ((with_reducible apply And.intro); (case left => first | omega | (simp only [List.length_append, List.length_cons, List.length_nil, List.length_drop, List.length_take, List.length_tail, List.length_dropLast, fs_length, ss_length, bs_length, ns_length]; omega)))
    refine of_call ((itoa_snd (m := m) (f + 1) (by omega))) ?_
    simp only [go_sem, reduceCtorEq, Nat.reduceEqDiff, reduceIte, Nat.reduceAdd, Nat.reduceSub, Nat.reduceLeDiff, Int.reduceToNat, Nat.reduceBEq]
    repeat ((with_reducible apply And.intro); (case left => first | omega | (simp only [List.length_append, List.length_cons, List.length_nil, List.length_drop, List.length_take, List.length_tail, List.length_dropLast, fs_length, ss_length, bs_length, ns_length]; omega)))
    repeat ((with_reducible apply And.intro); (case left => first | omega | (simp only [List.length_append, List.length_cons, List.length_nil, List.length_drop, List.length_take, List.length_tail, List.length_dropLast, fs_length, ss_length, bs_length, ns_length]; omega)))
    refine of_call ((itoa_snd (m := m) n (by omega))) ?_
    simp only [go_sem, reduceCtorEq, Nat.reduceEqDiff, reduceIte, Nat.reduceAdd, Nat.reduceSub, Nat.reduceLeDiff, Int.reduceToNat, Nat.reduceBEq]
    repeat ((with_reducible apply And.intro); (case left => first | omega | (simp only [List.length_append, List.length_cons, List.length_nil, List.length_drop, List.length_take, List.length_tail, List.length_dropLast, fs_length, ss_length, bs_length, ns_length]; omega)))
    first | rfl | omega | (simp only [List.length_append, List.length_cons, List.length_nil]; omega) | trace_state
  · have hp : placeN f n = f := by rw [placeN, if_pos (by omega), Int.toNat_natCast]
    rw [hp]
    simp only [decide_eq_false (show ¬ ((n : Nat) : Int) > 0 by omega), go_sem, reduceCtorEq, Nat.reduceEqDiff, reduceIte, Nat.reduceAdd, Nat.reduceSub, Nat.reduceLeDiff, Int.reduceToNat, Nat.reduceBEq]
    have d1 := dec_len f (by omega)
    have d2 := dec_len n (by omega)
    repeat ((with_reducible apply And.intro); (case left => first | omega | (simp only [List.length_append, List.length_cons, List.length_nil, List.length_drop, List.length_take, List.length_tail, List.length_dropLast, fs_length, ss_length, bs_length, ns_length]; omega)))
    refine of_call ((itoa_snd (m := m) f (by omega))) ?_
    simp only [go_sem, reduceCtorEq, Nat.reduceEqDiff, reduceIte, Nat.reduceAdd, Nat.reduceSub, Nat.reduceLeDiff, Int.reduceToNat, Nat.reduceBEq]
    repeat ((with_reducible apply And.intro); (case left => first | omega | (simp only [List.length_append, List.length_cons, List.length_nil, List.length_drop, List.length_take, List.length_tail, List.length_dropLast, fs_length, ss_length, bs_length, ns_length]; omega)))
    repeat ((with_reducible apply And.intro); (case left => first | omega | (simp only [List.length_append, List.length_cons, List.length_nil, List.length_drop, List.length_take, List.length_tail, List.length_dropLast, fs_length, ss_length, bs_length, ns_length]; omega)))
    refine of_call ((itoa_snd (m := m) n (by omega))) ?_
    simp only [go_sem, reduceCtorEq, Nat.reduceEqDiff, reduceIte, Nat.reduceAdd, Nat.reduceSub, Nat.reduceLeDiff, Int.reduceToNat, Nat.reduceBEq]
    repeat ((with_reducible apply And.intro); (case left => first | omega | (simp only [List.length_append, List.length_cons, List.length_nil, List.length_drop, List.length_take, List.length_tail, List.length_dropLast, fs_length, ss_length, bs_length, ns_length]; omega)))
    first | rfl | omega | (simp only [List.length_append, List.length_cons, List.length_nil]; omega) | trace_state
theorem phead_snd (f n t k : Nat) (hf : f ≤ 4294950000) (hn : n ≤ 4294950000) (ht : t ≤ 4294950000) (hk : k ≤ 4294950000) : Snd Tryd.prog (gl m) 53 [N f, N n, N t, N k] (S (headB f n t k)) := by
  refine snd_of (fn := Tryd.f53) (af := phead) Tryd.func53 (phead_comp m) mixed (kn_ok m) (Nat.le_of_ble_eq_true rfl) ?_
  simp only [phead, go_sem, reduceCtorEq, Nat.reduceEqDiff, reduceIte, Nat.reduceAdd, Nat.reduceSub, Nat.reduceLeDiff, Int.reduceToNat, Nat.reduceBEq]
  have hv : (kn m).v 74 := ⟨_, Tryd.func74, rfl, by decide⟩
  have d1 := dec_len (placeN f n) (by rw [placeN]; split <;> omega)
  have d2 := dec_len n (by omega)
  have d3 := dec_len (placeN t k) (by rw [placeN]; split <;> omega)
  have d4 := dec_len k (by omega)
  refine ⟨hv, ?_⟩
  repeat ((with_reducible apply And.intro); (case left => first | omega | (simp only [List.length_append, List.length_cons, List.length_nil, List.length_drop, List.length_take, List.length_tail, List.length_dropLast, fs_length, ss_length, bs_length, ns_length]; omega)))
  refine of_call ((pplace_snd (m := m) f n hf hn)) ?_
  simp only [go_sem, reduceCtorEq, Nat.reduceEqDiff, reduceIte, Nat.reduceAdd, Nat.reduceSub, Nat.reduceLeDiff, Int.reduceToNat, Nat.reduceBEq]
  repeat ((with_reducible apply And.intro); (case left => first | omega | (simp only [List.length_append, List.length_cons, List.length_nil, List.length_drop, List.length_take, List.length_tail, List.length_dropLast, fs_length, ss_length, bs_length, ns_length]; omega)))
  repeat ((with_reducible apply And.intro); (case left => first | omega | (simp only [List.length_append, List.length_cons, List.length_nil, List.length_drop, List.length_take, List.length_tail, List.length_dropLast, fs_length, ss_length, bs_length, ns_length]; omega)))
  refine of_call ((pplace_snd (m := m) t k ht hk)) ?_
  simp only [go_sem, reduceCtorEq, Nat.reduceEqDiff, reduceIte, Nat.reduceAdd, Nat.reduceSub, Nat.reduceLeDiff, Int.reduceToNat, Nat.reduceBEq]
  repeat ((with_reducible apply And.intro); (case left => first | omega | (simp only [List.length_append, List.length_cons, List.length_nil, List.length_drop, List.length_take, List.length_tail, List.length_dropLast, fs_length, ss_length, bs_length, ns_length]; omega)))
  first | rfl | omega | (simp only [List.length_append, List.length_cons, List.length_nil]; omega) | trace_state
end Go.Hk
namespace Go.Hk
open Go Go.Proofs Go.RowKit Go.Shelf
set_option linter.unusedVariables false
abbrev Bd (B b : Nat) (l : List Value) (w : World) : Prop := Lib.IsBuilder 82 5 B b l w
theorem szB : ∃ j, Tryd.prog.info? 82 = some j ∧ j.size = 2 := Option.map_eq_some_iff.1 Tryd.Builder_Extra_169.sizeBuilder
set_option maxHeartbeats 1000000 in
set_option maxRecDepth 100000 in
theorem copy_used (b : Nat) (w : World) (h0 : w.cell? ⟨b, 0, none⟩ = some (.pointer (some ⟨b, 0, none⟩))) :
    Calls Tryd.prog 73 #[.pointer (some ⟨b, 0, none⟩)] w fun e w' => e = .returned (.tuple #[]) ∧ w' = w := by
  obtain ⟨j, hj, _⟩ := szB
  go_enter Tryd.func73, Tryd.ntmps73
  go_wp2
  rw [Lib.run_neq_ptr_same w _ Tryd.underlying79 hj]
  go_wp2
  go_end0
  exact ⟨rfl, rfl⟩
set_option maxHeartbeats 1000000 in
set_option maxRecDepth 100000 in
theorem copy_fresh (b : Nat) (w : World) (h0 : w.cell? ⟨b, 0, none⟩ = some (.pointer none)) (hsh : w.shape? b = some (82, 2)) (hfz : w.frozen? ⟨b, 0, none⟩ = false) :
    Calls Tryd.prog 73 #[.pointer (some ⟨b, 0, none⟩)] w fun e w' => e = .returned (.tuple #[]) ∧ w' = w.setCell ⟨b, 0, none⟩ (.pointer (some ⟨b, 0, none⟩)) := by
  obtain ⟨j, hj, hjs⟩ := szB
  go_enter Tryd.func73, Tryd.ntmps73
  go_wp2
  rw [Lib.run_to_unsafe w ⟨b, 0, none⟩ Tryd.underlying79 Tryd.underlying116 hj (by rw [hjs]; decide) hsh (Nat.zero_lt_succ 1)]
  simp only [Result.andThen]
  rw [Oper.upon_value]
  go_wp2
  rw [run_callFunc_extern Tryd.func87 (by kernel_rfl) (by kernel_rfl) (by kernel_rfl) (e := Extern.AbiNoEscape.same) (by kernel_rfl)]
  rw [Lib.run_noEscape]
  simp only [Result.andThen]
  rw [Oper.upon_value]
  go_wp2
  rw [Lib.run_from_unsafe w ⟨b, 0, none⟩ Tryd.underlying116 Tryd.underlying79 hj hsh Tryd.Builder_Extra_169.liesBuilder]
  simp only [Result.andThen]
  rw [Oper.upon_value]
  go_wp2
  go_end0
  exact ⟨rfl, rfl⟩
theorem own_kind {W : World} {B n : Nat} {v : Value} {l : List Value} {e : TypeId} (h : W.ownsRow B e 1 v n l) : ∀ g, v.ownBlock = some g → ∃ c fz, W.heap[g]? = some (.cells c e fz) := by
  intro g hg
  rcases h.2 with ⟨rfl, _⟩ | ⟨g', cap, cur, rfl, _, hh, _⟩
  · simp [Value.ownBlock] at hg
  · simp only [Value.ownBlock, Option.some.injEq] at hg
    subst hg
    exact ⟨_, _, hh⟩
theorem copy_any (B b : Nat) (l : List Value) (w : World) (h : Bd B b l w) :
    Calls Tryd.prog 73 #[.pointer (some ⟨b, 0, none⟩)] w fun e w' => e = .returned (.tuple #[]) ∧ (Lib.BuilderAt 82 5 B b (.pointer (some ⟨b, 0, none⟩)) l w' ∧ Below B w w' ∧ Lib.OthersKept 5 (some b) w w') := by
  rcases h with h | h
  · refine (copy_fresh b w h.cell0 h.shape h.frozen0).mono ?_
    rintro e w' ⟨rfl, rfl⟩
    exact ⟨rfl, h.used _, (Below.refl B w).setCell (p := ⟨b, 0, none⟩) h.1 _, (Lib.OthersKept.refl _ _ _).setCell ⟨b, 0, none⟩ rfl _⟩
  · refine (copy_used b w h.cell0).mono ?_
    rintro e w' ⟨rfl, rfl⟩
    exact ⟨rfl, h, Below.refl B _, Lib.OthersKept.refl _ _ _⟩
set_option maxHeartbeats 2000000 in
set_option maxRecDepth 100000 in
theorem bd_byte (B b : Nat) (l : List Value) (c : Int) (w : World) (h : Bd B b l w) (hlen : l.length + 1 ≤ 140737488355328) (hBw : B ≤ w.heap.size) :
    Calls Tryd.prog 54 #[.pointer (some ⟨b, 0, none⟩), .int .u8 c] w fun e w' => e = .returned .nilIface ∧ (Lib.BuilderAt 82 5 B b (.pointer (some ⟨b, 0, none⟩)) (l ++ [.int .u8 c]) w' ∧ Below B w w' ∧ Lib.OthersKept 5 (some b) w w') := by
  obtain ⟨i0, hi, hz0, hz1, hz2⟩ := info_parts Tryd.Builder_Extra_169.infoByte
  go_enter Tryd.func54, Tryd.ntmps54
  go_wp2_with (go_at_call 73; refine (copy_any B b l _ h).mono ?_)
  rintro e w1 ⟨rfl, h1, hb1, hk1⟩
  obtain ⟨hB, v, hbk, hown, hne⟩ := h1
  have c0 : w1.cell? ⟨b, 0, none⟩ = some (.pointer (some ⟨b, 0, none⟩)) := by rw [Lib.cell_of_heap hbk]; rfl
  have c1 : w1.cell? ⟨b, 1, none⟩ = some v := by rw [Lib.cell_of_heap hbk]; rfl
  go_wp2_with (at_builtin; refine wpList_append_own _ rfl _ _ 80 rfl B 5 i0 (.int .u8 0) 1 1 Tryd.underlying80 hi hz0 hz1 hz2 rfl (by decide) _ _ _ rfl (hown.alloc _) ⟨w1.heap.size, 0, none⟩ 1 1 [.int .u8 c] rfl rfl ?c1 ?c2 ?c3 ?c4 ?c5 ?_)
  case c1 =>
    intro j u hj
    match j, hj with
    | 0, hj => simp at hj; subst hj; simp [Addr.add]
  case c2 => intro u hu; simp at hu; subst hu; rfl
  case c3 => unfold maxLen; omega
  case c4 => omega
  case c5 => have := hb1.size; simp; omega
  intro v' w2 hown' hgrow _
  have hlt : b < w1.heap.size := by
    rcases Nat.lt_or_ge b w1.heap.size with h' | h'
    · exact h'
    · simp [Array.getElem?_eq_none h'] at hbk
  have hb2 : w2.heap[b]? = some (.cells #[.pointer (some ⟨b, 0, none⟩), v] 82 (0, 0)) := by
    rw [hgrow.block b (by simp; omega) (fun e => hne e.symm), Lib.alloc_old w1 _ b hlt]
    exact hbk
  have d1 : w2.cell? ⟨b, 1, none⟩ = some v := by rw [Lib.cell_of_heap hb2]; rfl
  have f1 : w2.frozen? ⟨b, 1, none⟩ = false := Lib.frozen_of_heap hb2 1
  obtain ⟨g, cap, rfl⟩ : ∃ g cap, v' = .slice (some ⟨g, 0, none⟩) (l.length + 1) cap := by
    rcases hown'.2 with ⟨_, h0⟩ | ⟨g, cap, cur, hv, _⟩
    · omega
    · exact ⟨g, cap, hv⟩
  go_wp2
  go_ret
  refine ⟨rfl, ?_, ?_, ?_⟩
  · exact Lib.BuilderAt.put (T := 82) (e := 5) hB hb2 (bs' := l ++ [.int .u8 c]) (by simpa using hown') Tryd.Builder_Extra_169.neB5
  · exact ((hb1.alloc (by have := hb1.size; omega) _).grown hgrow (by have := hb1.size; simp; omega) (fun k hk => (hown.lt k hk).1)).setCell (p := ⟨b, 1, none⟩) hB _
  · exact ((hk1.alloc _).grown hgrow (own_kind (hown.alloc _))).setCell ⟨b, 1, none⟩ rfl _
set_option maxHeartbeats 2000000 in
set_option maxRecDepth 100000 in
theorem bd_string (B b : Nat) (l : List Value) (s : ByteArray) (w : World) (h : Bd B b l w) (hlen : l.length + s.size ≤ 140737488355328) (hBw : B ≤ w.heap.size) :
    Calls Tryd.prog 52 #[.pointer (some ⟨b, 0, none⟩), .string s] w fun e w' => e = .returned (.tuple #[.int .i64 s.size, .nilIface]) ∧ (Lib.BuilderAt 82 5 B b (.pointer (some ⟨b, 0, none⟩)) (l ++ Lib.strCells s) w' ∧ Below B w w' ∧ Lib.OthersKept 5 (some b) w w') := by
  obtain ⟨i0, hi, hz0, hz1, hz2⟩ := info_parts Tryd.Builder_Extra_169.infoByte
  go_enter Tryd.func52, Tryd.ntmps52
  go_wp2_with (go_at_call 73; refine (copy_any B b l _ h).mono ?_)
  rintro e w1 ⟨rfl, h1, hb1, hk1⟩
  obtain ⟨hB, v, hbk, hown, hne⟩ := h1
  have c0 : w1.cell? ⟨b, 0, none⟩ = some (.pointer (some ⟨b, 0, none⟩)) := by rw [Lib.cell_of_heap hbk]; rfl
  have c1 : w1.cell? ⟨b, 1, none⟩ = some v := by rw [Lib.cell_of_heap hbk]; rfl
  go_wp2_with (at_builtin; refine Lib.wpList_append_own_string _ rfl _ _ 80 9 rfl B 5 i0 Tryd.underlying80 Tryd.underlying9 hi hz0 hz1 hz2 _ _ _ rfl hown s rfl ?c3 ?c4 ?c5 ?_)
  case c3 => unfold maxLen; omega
  case c4 => omega
  case c5 => have := hb1.size; omega
  intro v' w2 hown' hgrow _
  have hlt : b < w1.heap.size := by
    rcases Nat.lt_or_ge b w1.heap.size with h' | h'
    · exact h'
    · simp [Array.getElem?_eq_none h'] at hbk
  have hb2 : w2.heap[b]? = some (.cells #[.pointer (some ⟨b, 0, none⟩), v] 82 (0, 0)) := by
    rw [hgrow.block b hlt (fun e => hne e.symm)]
    exact hbk
  have d1 : w2.cell? ⟨b, 1, none⟩ = some v := by rw [Lib.cell_of_heap hb2]; rfl
  have f1 : w2.frozen? ⟨b, 1, none⟩ = false := Lib.frozen_of_heap hb2 1
  obtain ⟨ao, n', cap, rfl⟩ : ∃ ao n' cap, v' = .slice ao n' cap := by
    rcases hown'.2 with ⟨hv, _⟩ | ⟨g, cap, cur, hv, _⟩
    · exact ⟨_, _, _, hv⟩
    · exact ⟨_, _, _, hv⟩
  go_wp2
  go_ret2
  refine ⟨rfl, ?_, ?_, ?_⟩
  · exact Lib.BuilderAt.put (T := 82) (e := 5) hB hb2 (bs' := l ++ Lib.strCells s) (by simpa [Lib.strCells_length] using hown') Tryd.Builder_Extra_169.neB5
  · exact (hb1.grown hgrow (by have := hb1.size; omega) (fun k hk => (hown.lt k hk).1)).setCell (p := ⟨b, 1, none⟩) hB _
  · exact (hk1.grown hgrow (own_kind hown)).setCell ⟨b, 1, none⟩ rfl _
theorem Bd.later {B b : Nat} {l : List Value} {w w' : World} (hb : Below w.heap.size w w') (h : Bd B b l w) : Bd B b l w' := by
  have key : ∀ p, Lib.BuilderAt 82 5 B b p l w → Lib.BuilderAt 82 5 B b p l w' := by
    rintro p ⟨hB, v, hbk, hown, hne⟩
    refine ⟨hB, v, (hb.block b (Array.getElem?_eq_some_iff.1 hbk).1).trans hbk, ?_, hne⟩
    obtain ⟨h1, ⟨rfl, h0⟩ | ⟨g, cap, cur, rfl, hg, hh, hr⟩⟩ := hown
    · exact ⟨h1, .inl ⟨rfl, h0⟩⟩
    · exact ⟨h1, .inr ⟨g, cap, cur, rfl, hg, (hb.block g (Array.getElem?_eq_some_iff.1 hh).1).trans hh, hr⟩⟩
  exact h.imp (key _) (key _)
end Go.Hk
namespace Go.Hk
open Go Go.Ev Go.Proofs Go.RowKit Go.Shelf
set_option linter.unusedVariables false
set_option linter.unusedSimpArgs false
variable {m : Int × Bool}
theorem rel_later {w w' : World} {zf : Nat → Nat → Prop} (k : Below w.heap.size w w') (hzf : ∀ b i, zf b i → b < w.heap.size) {x : AV} {v : Value} (h : Rel (X0 w zf) false x v []) : Rel (X0 w' zf) false x v [] :=
  Rel.mono (X := X0 w zf) (X' := X0 w' zf) (P := fun _ => False) ⟨fun r a h => (nomatch h), fun r a h => (nomatch h), fun b i v h hc => ⟨h, (k.cell (p := ⟨b, i, none⟩) (hzf b i h)).trans hc⟩, fun b i v h hc => absurd trivial h.2.1, fun b h => h.elim⟩ h (fun b hb => nomatch hb)
theorem tabs_later {w w' : World} {zf : Nat → Nat → Prop} (k : Below w.heap.size w w') (hzf : ∀ b i, zf b i → b < w.heap.size) (h : TabsAt (gl m) w zf) : TabsAt (gl m) w' zf :=
  ⟨h.lit, fun g vs hg i v hi => ⟨(k.cell (p := ⟨g, i, none⟩) (hzf _ _ (h.cell g vs hg i v hi).2)).trans (h.cell g vs hg i v hi).1, (h.cell g vs hg i v hi).2⟩, h.size.keep (keep_below k), fun g hg => (h.errs g hg).imp fun ev q => ⟨(k.cell (p := ⟨g, 0, none⟩) (hzf _ _ q.2.1)).trans q.1, q.2⟩⟩
theorem relT_lits {X : Cx} {t : Bool} : ∀ {us : List Value} {vs : List Value} {F : List Nat}, RelT X t (us.map .lit) vs F → vs = us := by
  intro us
  induction us with
  | nil => intro vs F h; cases h; rfl
  | cons u us ih =>
    intro vs F h
    simp only [List.map_cons] at h
    cases h with
    | cons _ _ v F1 _ vs F2 h hs hd => rw [ih hs, h.lit_inv.1]
theorem tup_inv {X : Cx} {t : Bool} {us : List Value} {v : Value} {F : List Nat} (h : Rel X t (.tup (us.map .lit)) v F) : v = .tuple us.toArray := by
  generalize hx : us.map AV.lit = xs at h
  cases h with
  | tup _ _ vs F hc => subst hx; rw [relT_lits hc]
theorem snd_lit {f : FuncId} {args : List AV} {u : Value} (h : Snd Tryd.prog (gl m) f args (.lit u)) {w : World} {zf : Nat → Nat → Prop} (hzf : ∀ b i, zf b i → b < w.heap.size) (ht : TabsAt (gl m) w zf) {vals : Array Value} (hr : RelT (X0 w zf) false args vals.toList []) :
    Calls Tryd.prog f vals w fun e w' => e = .returned u ∧ Below w.heap.size w w' := by
  refine (h w vals zf hzf ht hr).mono ?_
  rintro e w' ⟨v, rfl, hk, X, F, _, _, _, _, hrel, _⟩
  exact ⟨by rw [hrel.lit_inv.1], below_keep hk⟩
theorem snd_tup {f : FuncId} {args : List AV} {us : List Value} (h : Snd Tryd.prog (gl m) f args (.tup (us.map .lit))) {w : World} {zf : Nat → Nat → Prop} (hzf : ∀ b i, zf b i → b < w.heap.size) (ht : TabsAt (gl m) w zf) {vals : Array Value} (hr : RelT (X0 w zf) false args vals.toList []) :
    Calls Tryd.prog f vals w fun e w' => e = .returned (.tuple us.toArray) ∧ Below w.heap.size w w' := by
  refine (h w vals zf hzf ht hr).mono ?_
  rintro e w' ⟨v, rfl, hk, X, F, _, _, _, _, hrel, _⟩
  exact ⟨by rw [tup_inv hrel], below_keep hk⟩
theorem relT_one {X : Cx} {x : AV} {v : Value} (h : Rel X false x v []) : RelT X false [x] [v] [] := RelT.cons false _ _ [] _ _ [] h (.nil _) (fun b hb => nomatch hb)
theorem lines_at {w : World} {zf : Nat → Nat → Prop} {l : List HL} {v : Value} (hr : Rel (X0 w zf) false (.sl .frn 2 (fs fL l)) v []) :
    ∃ A a o C, v = .slice A l.length C ∧ (0 < l.length → A = some ⟨a, o, none⟩ ∧ a < w.heap.size) ∧
      ∀ k (h : k < l.length), w.cell? ⟨a, o + k * 2, none⟩ = some (.int .i64 l[k].1) ∧ w.cell? ⟨a, o + k * 2 + 1, none⟩ = some (.string (str l[k].2)) := by
  generalize hx : fs fL l = xs at hr
  have hlen : xs.length = l.length := by rw [← hx, fs_length]
  cases hr with
  | nil _ _ _ A =>
    obtain rfl : l = [] := List.length_eq_zero_iff.1 (by simpa using hlen.symm)
    exact ⟨A, 0, 0, 0, rfl, fun h => absurd h (by simp), fun k h => absurd h (by simp)⟩
  | imm _ _ _ ad cap _ vs hfl hc hu hrd hcs =>
    by_cases hl : l = []
    · subst hl
      simp at hlen
      exact ⟨some ad, 0, 0, cap, by rw [hlen]; rfl, fun h => absurd h (by simp), fun k h => absurd h (by simp)⟩
    · have cell : ∀ k (h : k < l.length) (j : Nat) (u : Value), (fL l[k])[j]? = some u → w.cell? (ad.add (k * 2 + j)) = some u := by
        intro k h j u hj
        have hn : xs[k]? = some (fe fL l[k]) := by rw [← hx]; exact fs_get fL l h
        have hf : (flat xs)[k * 2 + j]? = some (.lit u) := flat_get hu hn (o := j) (by
          show ((fL l[k]).map AV.lit)[j]? = _
          rw [List.getElem?_map, hj]; rfl)
        obtain ⟨u', G, hu1, hu2, hu3, hu4⟩ := hcs.get hf
        have e := hu2.lit_inv.1
        subst e
        exact (hrd _ _ hu1).1
      have h0 : 0 < l.length := List.length_pos_iff.2 hl
      have hc0 := cell 0 h0 0 _ rfl
      have hs2 : ad.spot = none := Addr.spot_of_cell (a := ad) (by simpa [Addr.add] using hc0)
      refine ⟨some ad, ad.block, ad.off, cap, by rw [← hlen], fun _ => ⟨by rw [← Addr.eta hs2], ?_⟩, fun k h => ?_⟩
      · have := hc0; rw [Addr.add_spot hs2] at this; exact cell_lt (a := ⟨ad.block, ad.off + (0 * 2 + 0), none⟩) this
      · have c0 := cell k h 0 _ rfl
        have c1 := cell k h 1 _ rfl
        rw [Addr.add_spot hs2] at c0 c1
        exact ⟨c0, by rw [Nat.add_assoc]; exact c1⟩
theorem hunks_at {w : World} {zf : Nat → Nat → Prop} {l : List Hk} {v : Value} (hr : Rel (X0 w zf) false (.sl .frn 3 (hS .frn l)) v []) :
    ∃ A a o C, v = .slice A l.length C ∧ (0 < l.length → A = some ⟨a, o, none⟩ ∧ a < w.heap.size) ∧
      ∀ k (h : k < l.length), w.cell? ⟨a, o + k * 3, none⟩ = some (.int .i64 l[k].1) ∧ w.cell? ⟨a, o + k * 3 + 1, none⟩ = some (.int .i64 l[k].2.1) ∧
        ∃ u, w.cell? ⟨a, o + k * 3 + 2, none⟩ = some u ∧ Rel (X0 w zf) false (.sl .frn 2 (fs fL l[k].2.2)) u [] := by
  generalize hx : hS .frn l = xs at hr
  have hlen : xs.length = l.length := by rw [← hx, hS_length]
  cases hr with
  | nil _ _ _ A =>
    obtain rfl : l = [] := List.length_eq_zero_iff.1 (by simpa using hlen.symm)
    exact ⟨A, 0, 0, 0, rfl, fun h => absurd h (by simp), fun k h => absurd h (by simp)⟩
  | imm _ _ _ ad cap _ vs hfl hc hu hrd hcs =>
    by_cases hl : l = []
    · subst hl
      simp at hlen
      exact ⟨some ad, 0, 0, cap, by rw [hlen]; rfl, fun h => absurd h (by simp), fun k h => absurd h (by simp)⟩
    · have cell : ∀ k (h : k < l.length) (j : Nat) (x : AV), (cellsOf (hT .frn l[k]))[j]? = some x → ∃ u, w.cell? (ad.add (k * 3 + j)) = some u ∧ Rel (X0 w zf) false x u [] := by
        intro k h j x hj
        have hn : xs[k]? = some (hT .frn l[k]) := by rw [← hx]; exact hS_get h
        have hf : (flat xs)[k * 3 + j]? = some x := flat_get hu hn (o := j) hj
        obtain ⟨u', G, hu1, hu2, hu3, hu4⟩ := hcs.get hf
        have hG : G = [] := List.eq_nil_iff_forall_not_mem.2 fun b hb => nomatch hu4 b hb
        subst hG
        exact ⟨u', (hrd _ _ hu1).1, hu2⟩
      have h0 : 0 < l.length := List.length_pos_iff.2 hl
      obtain ⟨u0, hc0, _⟩ := cell 0 h0 0 _ rfl
      have hs2 : ad.spot = none := Addr.spot_of_cell (a := ad) (by simpa [Addr.add] using hc0)
      refine ⟨some ad, ad.block, ad.off, cap, by rw [← hlen], fun _ => ⟨by rw [← Addr.eta hs2], ?_⟩, fun k h => ?_⟩
      · have := hc0; rw [Addr.add_spot hs2] at this; exact cell_lt (a := ⟨ad.block, ad.off + (0 * 3 + 0), none⟩) this
      · obtain ⟨u1, c0, r0⟩ := cell k h 0 _ rfl
        obtain ⟨u2, c1, r1⟩ := cell k h 1 _ rfl
        obtain ⟨u3, c2, r2⟩ := cell k h 2 _ rfl
        rw [Addr.add_spot hs2] at c0 c1 c2
        have e0 := r0.lit_inv.1
        have e1 := r1.lit_inv.1
        subst e0 e1
        exact ⟨c0, by rw [Nat.add_assoc]; exact c1, u3, by rw [Nat.add_assoc]; exact c2, r2⟩
theorem hunk_rel {X : Cx} {h : Hk} {u : Value} (hu : Rel X false (.sl .frn 2 (fs fL h.2.2)) u []) (hc : isCell u = true) : Rel X false (hT .frn h) (.agg #[.int .i64 h.1, .int .i64 h.2.1, u]) [] :=
  Rel.agg false _ _ [] (RelL.cons false _ _ [] _ _ [] rfl (.lit _ _ rfl) (RelL.cons false _ _ [] _ _ [] rfl (.lit _ _ rfl) (RelL.cons false _ _ [] _ _ [] hc hu (.nil _) (fun b hb => nomatch hb)) (fun b hb => nomatch hb)) (fun b hb => nomatch hb))
theorem line_rel {X : Cx} (x : HL) : Rel X false (lineT x) (.agg #[.int .i64 x.1, .string (str x.2)]) [] :=
  Rel.agg false _ _ [] (RelL.cons false _ _ [] _ _ [] rfl (.lit _ _ rfl) (RelL.cons false _ _ [] _ _ [] rfl (.lit _ _ rfl) (.nil _) (fun b hb => nomatch hb)) (fun b hb => nomatch hb))
theorem valid_in (l : List Hk) (hl : okHs l) {w : World} {zf : Nat → Nat → Prop} (hzf : ∀ b i, zf b i → b < w.heap.size) (ht : TabsAt (gl m) w zf) {v : Value} (hr : Rel (X0 w zf) false (.sl .frn 3 (hS .frn l)) v []) :
    Calls Tryd.prog 28 #[v] w fun e w' => e = .returned (.bool (valid l)) ∧ Below w.heap.size w w' := snd_lit (pvalid_snd (m := m) l hl) hzf ht (relT_one hr)
theorem sizes_in (h : Hk) (hl : h.2.2.length ≤ 1048576) {w : World} {zf : Nat → Nat → Prop} (hzf : ∀ b i, zf b i → b < w.heap.size) (ht : TabsAt (gl m) w zf) {u : Value} (hu : Rel (X0 w zf) false (.sl .frn 2 (fs fL h.2.2)) u []) (hc : isCell u = true) :
    Calls Tryd.prog 48 #[.agg #[.int .i64 h.1, .int .i64 h.2.1, u]] w fun e w' => e = .returned (.tuple #[.int .i64 (cntO h.2.2 : Nat), .int .i64 (cntN h.2.2 : Nat)]) ∧ Below w.heap.size w w' :=
  snd_tup (us := [.int .i64 (cntO h.2.2 : Nat), .int .i64 (cntN h.2.2 : Nat)]) (psizes_snd (m := m) h hl) hzf ht (relT_one (hunk_rel hu hc))
theorem head_in (f n t k : Nat) (hf : f ≤ 4294950000) (hn : n ≤ 4294950000) (ht' : t ≤ 4294950000) (hk : k ≤ 4294950000) {w : World} {zf : Nat → Nat → Prop} (hzf : ∀ b i, zf b i → b < w.heap.size) (ht : TabsAt (gl m) w zf) :
    Calls Tryd.prog 53 #[.int .i64 (f : Nat), .int .i64 (n : Nat), .int .i64 (t : Nat), .int .i64 (k : Nat)] w fun e w' => e = .returned (.string (str (headB f n t k))) ∧ Below w.heap.size w w' :=
  snd_lit (phead_snd (m := m) f n t k hf hn ht' hk) hzf ht (RelT.cons false _ _ [] _ _ [] (.lit _ _ rfl) (RelT.cons false _ _ [] _ _ [] (.lit _ _ rfl) (RelT.cons false _ _ [] _ _ [] (.lit _ _ rfl) (RelT.cons false _ _ [] _ _ [] (.lit _ _ rfl) (.nil _) (fun b hb => nomatch hb)) (fun b hb => nomatch hb)) (fun b hb => nomatch hb)) (fun b hb => nomatch hb))
theorem open_in (x : HL) (hl : x.2.length ≤ 1048576) {w : World} {zf : Nat → Nat → Prop} (hzf : ∀ b i, zf b i → b < w.heap.size) (ht : TabsAt (gl m) w zf) :
    Calls Tryd.prog 55 #[.agg #[.int .i64 x.1, .string (str x.2)]] w fun e w' => e = .returned (.bool (openL x.2)) ∧ Below w.heap.size w w' :=
  snd_lit (popen_snd (m := m) x hl) hzf ht (relT_one (line_rel x))
end Go.Hk
namespace Go.Hk
open Go Go.Ev Go.Proofs Go.RowKit Go.Shelf
set_option linter.unusedVariables false
set_option linter.unusedSimpArgs false
variable {m : Int × Bool}
abbrev bc (b : Bs) : List Value := Lib.byteCells b
theorem bc_str (s : Bs) : Lib.strCells (str s) = bc s := by simp [Lib.strCells, Lib.byteCells, str, bc]
theorem bc_app (s t : Bs) : bc s ++ bc t = bc (s ++ t) := by simp [Lib.byteCells, bc]
theorem bc_len (s : Bs) : (bc s).length = s.length := by simp [Lib.byteCells, bc]
theorem str_size (s : Bs) : (str s).size = s.length := by simp [str, ByteArray.size]
set_option maxRecDepth 100000 in
set_option maxHeartbeats 4000000 in
theorem text_calls (l : List Hk) (hl : okHs l) (hT : (l.flatMap hunkB).length ≤ 140737488355328) {w : World} {zf : Nat → Nat → Prop} (hzf : ∀ b i, zf b i → b < w.heap.size) (ht : TabsAt (gl m) w zf) {v : Value} (hr : Rel (X0 w zf) false (.sl .frn 3 (hS .frn l)) v []) :
    Calls Tryd.prog 30 #[v] w fun e w' => e = .returned (.string (str (textB l))) ∧ Below w.heap.size w w' := by
  obtain ⟨A, a, o, C, rfl, hA, hc⟩ := hunks_at hr
  have hl1 := hl.1
  cases hv : valid l with
  | false =>
    have hx : textB l = [] := by rw [textB, hv]; rfl
    rw [hx]
    go_enter Tryd.func30, Tryd.ntmps30
    go_wp2_with (go_at_call 28; refine (valid_in (m := m) l hl hzf ht hr).mono ?_; rw [hv]; rintro e w1 ⟨rfl, hb1⟩)
    go_ret
    exact ⟨rfl, hb1⟩
  | true =>
    have hx : textB l = l.flatMap hunkB := by rw [textB, hv]; rfl
    rw [hx]
    go_enter Tryd.func30, Tryd.ntmps30
    go_wp2_with (go_at_call 28; refine (valid_in (m := m) l hl hzf ht hr).mono ?_; rw [hv]; rintro e w1 ⟨rfl, hb1⟩)
    clear hx
    go_loopw [15] (fun i wr => ∃ k : Nat, k ≤ l.length ∧ i = .int .i64 k ∧ Bd w1.heap.size w1.heap.size (bc ((l.take k).flatMap hunkB)) wr ∧ Below w1.heap.size w1 wr)
      (fun i _ => l.length - (intOf i).toNat)
    case atStart => exact ⟨0, Nat.zero_le _, rfl, Lib.fresh_isBuilder _ _ w1, (Below.refl _ w1).alloc (Nat.le_refl _) _⟩
    case round =>
      obtain ⟨k, hk, rfl, hB, hb2⟩ := hrel
      by_cases hlt : k < l.length
      · obtain ⟨rfl, ha⟩ := hA (by omega)
        obtain ⟨c0, c1, u, c2, hu⟩ := hc k hlt
        have hst : (l.take (k + 1)).flatMap hunkB = (l.take k).flatMap hunkB ++ hunkB l[k] := by rw [take_snoc hlt, flat_snoc]
        have hlen : ((l.take (k + 1)).flatMap hunkB).length ≤ (l.flatMap hunkB).length := by
          conv => rhs; rw [← List.take_append_drop (k + 1) l, List.flatMap_append, List.length_append]
          omega
        have hF := valid_from hv hlt
        have hkl : ∀ y, y ∈ l[k].2.2 → (y.1 = 1 ∨ y.1 = 2 ∨ y.1 = 3) := fun y hy => (valid_line hv (List.getElem_mem hlt) hy).1
        have hok := hl.2 l[k] (List.getElem_mem hlt)
        generalize l[k] = x at c0 c1 hu hst hF hkl hok
        obtain ⟨F, T, L⟩ := x
        obtain ⟨A2, a2, o2, C2, rfl, hA2, hc2⟩ := lines_at hu
        dsimp only at c0 c1 hu hF hkl hok hA2 hc2
        obtain ⟨F, rfl⟩ : ∃ f : Nat, F = f := ⟨F.toNat, by omega⟩
        obtain ⟨T, rfl⟩ : ∃ f : Nat, T = f := ⟨T.toNat, by omega⟩
        rw [hst] at hlen
        generalize (l.take k).flatMap hunkB = pre at hB hst hlen
        have hW : Below w.heap.size w wr := hb1.trans (hb2.mono hb1.size)
        have d0 := (hW.cell (p := ⟨a, o + k * 3, none⟩) ha).trans c0
        have d1 := (hW.cell (p := ⟨a, o + k * 3 + 1, none⟩) ha).trans c1
        have d2 := (hW.cell (p := ⟨a, o + k * 3 + 2, none⟩) ha).trans c2
        have Hst := Lib.hid hst; clear hst
        clear hc c0 c1 c2
        have hob : Below wr.heap.size wr (wr.alloc (.cells #[.int .i64 (F : Nat), .int .i64 (T : Nat), .slice A2 L.length C2] 56)) := (Below.refl _ wr).alloc (Nat.le_refl _) _
        have hWa := hW.trans (hob.mono hW.size)
        have hnew : (wr.alloc (.cells #[.int .i64 (F : Nat), .int .i64 (T : Nat), .slice A2 L.length C2] 56)).heap[wr.heap.size]? = some (.cells #[.int .i64 (F : Nat), .int .i64 (T : Nat), .slice A2 L.length C2] 56 (0, 0)) := heap_alloc_new wr _
        have hBa := hB.later hob
        have hblt : w1.heap.size < wr.heap.size := by rcases hB with h | h <;> exact h.lt
        generalize hWA : wr.alloc (.cells #[.int .i64 (F : Nat), .int .i64 (T : Nat), .slice A2 L.length C2] 56) = wa at hob hWa hnew hBa
        have hwa : wr.heap.size < wa.heap.size := (Array.getElem?_eq_some_iff.1 hnew).1
        have HWA := Lib.hid hWA; clear hWA
        have hok1 := hok.1
        have hcO := cntO_le L
        have hcN := cntN_le L
        go_wp2_with (first
          | (go_at_call 48; rw [HWA.out]; refine (sizes_in (m := m) (((F : Nat) : Int), ((T : Nat) : Int), L) hok.1 (fun b i h => Nat.lt_of_lt_of_le (hzf b i h) hWa.size) (tabs_later hWa hzf ht) (rel_later hWa hzf hu) rfl).mono ?_
             rintro e w3 ⟨rfl, hb3⟩
             have h3 := (hb3.block _ hwa).trans hnew
             have q0 : w3.cell? ⟨wr.heap.size, 0, none⟩ = some (.int .i64 (F : Nat)) := by rw [Lib.cell_of_heap h3]; rfl
             have q1 : w3.cell? ⟨wr.heap.size, 1, none⟩ = some (.int .i64 (T : Nat)) := by rw [Lib.cell_of_heap h3]; rfl
             have hW3 := hWa.trans (hb3.mono hWa.size)
             have hB3 := hBa.later hb3)
          | (go_at_call 53; refine (head_in (m := m) F (cntO L) T (cntN L) (by omega) (by omega) (by omega) (by omega) (fun b i h => Nat.lt_of_lt_of_le (hzf b i h) hW3.size) (tabs_later hW3 hzf ht)).mono ?_
             rintro e w4 ⟨rfl, hb4⟩
             have h4 := (hb4.block _ (Array.getElem?_eq_some_iff.1 h3).1).trans h3
             have hW4 := hW3.trans (hb4.mono hW3.size)
             have hB4 := hB3.later hb4)
          | (go_at_call 52; refine (bd_string _ _ _ _ _ hB4 (by rw [bc_len, str_size]; rw [List.length_append, hunkB, List.length_append] at hlen; dsimp only at hlen; omega) (by have := hb2.size; have := hob.size; have := hb3.size; have := hb4.size; omega)).mono ?_
             rintro e w5 ⟨rfl, hB5, hb5, hk5⟩
             have h5 := hk5 _ _ h4 (by intro e; injection e with e; omega) (by intro c fz e; injection e with e1 e2 e3; cases e2)
             have q5 : w5.cell? ⟨wr.heap.size, 2, none⟩ = some (.slice A2 L.length C2) := by rw [Lib.cell_of_heap h5]; rfl))
        have hb15 : Below w1.heap.size w1 w5 := (((hb2.trans (hob.mono hb2.size)).trans (hb3.mono (Nat.le_trans hb2.size hob.size))).trans (hb4.mono (Nat.le_trans (Nat.le_trans hb2.size hob.size) hb3.size))).trans hb5
        have hB5' : Bd w1.heap.size w1.heap.size (bc (pre ++ headB F (cntO L) T (cntN L))) w5 := by rw [← bc_app, ← bc_str]; exact .inr hB5
        have Hpl : Hid (pre ++ hunkB ((F : Nat), (T : Nat), L) = (pre ++ headB F (cntO L) T (cntN L)) ++ L.flatMap lineB) := Lib.hid (by rw [hunkB, List.append_assoc])
        rw [Hpl.out] at hlen
        generalize pre ++ headB F (cntO L) T (cntN L) = pre2 at hB5' Hpl hlen
        clear hB5 hk5 h5 q5 h4 h3 q0 q1 hb5 hb4 hb3 hB4 hB3 hBa HWA hob hnew hwa hWa hW3 hW4 hB hb2 hW d0 d1 d2 hblt
        go_loopw [35] (fun i W => ∃ j : Nat, j ≤ L.length ∧ i = .int .i64 j ∧ Bd w1.heap.size w1.heap.size (bc (pre2 ++ (L.take j).flatMap lineB)) W ∧ Below w1.heap.size w1 W)
          (fun i _ => L.length - (intOf i).toNat)
        case atStart => exact ⟨0, Nat.zero_le _, rfl, by rw [List.take_zero, List.flatMap_nil, List.append_nil]; exact hB5', hb15⟩
        case round =>
          obtain ⟨j, hj, rfl, hBj, hbj⟩ := hrel
          by_cases hjl : j < L.length
          · obtain ⟨rfl, ha2⟩ := hA2 (by omega)
            obtain ⟨e0, e1⟩ := hc2 j hjl
            have hst2 : pre2 ++ (L.take (j + 1)).flatMap lineB = (pre2 ++ (L.take j).flatMap lineB) ++ lineB L[j] := by rw [take_snoc hjl, flat_snoc, List.append_assoc]
            have hlen2 : (pre2 ++ (L.take (j + 1)).flatMap lineB).length ≤ (pre2 ++ L.flatMap lineB).length := by
              conv => rhs; rw [← List.take_append_drop (j + 1) L, List.flatMap_append, ← List.append_assoc, List.length_append]
              omega
            have hkj := hkl L[j] (List.getElem_mem hjl)
            have htx := hok.2 L[j] (List.getElem_mem hjl)
            generalize L[j] = y at e0 e1 hst2 hkj htx
            obtain ⟨K, s⟩ := y
            dsimp only at e0 e1 hkj htx
            rw [hst2] at hlen2
            have Hst2 := Lib.hid hst2; clear hst2
            generalize pre2 ++ (L.take j).flatMap lineB = pre3 at hBj Hst2 hlen2
            rw [List.length_append, lineB, List.length_append, List.length_append] at hlen2
            have hW : Below w.heap.size w wr := hb1.trans (hbj.mono hb1.size)
            have d0 := (hW.cell (p := ⟨a2, o2 + j * 2, none⟩) ha2).trans e0
            have d1 := (hW.cell (p := ⟨a2, o2 + j * 2 + 1, none⟩) ha2).trans e1
            have hob : Below wr.heap.size wr (wr.alloc (.cells #[.int .i64 K, .string (str s)] 71)) := (Below.refl _ wr).alloc (Nat.le_refl _) _
            have hWa := hW.trans (hob.mono hW.size)
            have hnew : (wr.alloc (.cells #[.int .i64 K, .string (str s)] 71)).heap[wr.heap.size]? = some (.cells #[.int .i64 K, .string (str s)] 71 (0, 0)) := heap_alloc_new wr _
            have hBa := hBj.later hob
            have hblt : w1.heap.size < wr.heap.size := by rcases hBj with h | h <;> exact h.lt
            have hwab := (hbj.trans (hob.mono hbj.size)).size
            clear e0 e1 hc2 hA2
            cases ho : openL s with
            | false =>
              rw [ho] at hlen2
              have Hlb : Hid (lineB (K, s) = signB K ++ s) := Lib.hid (by rw [lineB]; dsimp only; rw [ho]; simp)
              simp only [Bool.false_eq_true, if_false, List.length_nil] at hlen2
              rcases hkj with rfl | rfl | rfl
              · have hl1 : (signB 1).length = 1 := rfl
                go_wp2_with (first
                  | (go_at_call 54; refine (bd_byte _ _ _ _ _ hBa (by rw [bc_len]; omega) hwab).mono ?_
                     rintro e w6 ⟨rfl, hB6, hb6, hk6⟩
                     have hB6' : Bd w1.heap.size w1.heap.size (bc (pre3 ++ [32])) w6 := by rw [← bc_app]; exact .inr hB6
                     have h6 := hk6 _ _ hnew (by intro e; injection e with e; omega) (by intro c fz e; injection e with e1 e2 e3; cases e2)
                     have q6 : w6.cell? ⟨wr.heap.size, 1, none⟩ = some (.string (str s)) := by rw [Lib.cell_of_heap h6]; rfl
                     have hz6 := hb6.size)
                  | (go_at_call 52; refine (bd_string _ _ _ _ _ hB6' (by rw [bc_len, str_size, List.length_append, List.length_singleton]; omega) (by omega)).mono ?_
                     rintro e w7 ⟨rfl, hB7, hb7, hk7⟩
                     have hB7' : Bd w1.heap.size w1.heap.size (bc (pre3 ++ [32] ++ s)) w7 := by rw [← bc_app, ← bc_str]; exact .inr hB7
                     have h7 := hk7 _ _ h6 (by intro e; injection e with e; omega) (by intro c fz e; injection e with e1 e2 e3; cases e2)
                     have p7 : w7.cell? ⟨wr.heap.size, 0, none⟩ = some (.int .i64 1) := by rw [Lib.cell_of_heap h7]; rfl
                     have q7 : w7.cell? ⟨wr.heap.size, 1, none⟩ = some (.string (str s)) := by rw [Lib.cell_of_heap h7]; rfl
                     have hz7 := hb7.size
                     have hb17 : Below w1.heap.size w1 w7 := ((hbj.trans (hob.mono hbj.size)).trans hb6).trans hb7
                     have hW7 := hb1.trans (hb17.mono hb1.size))
                  | (go_at_call 55; refine (open_in (m := m) ((1 : Int), s) htx (fun b i h => Nat.lt_of_lt_of_le (hzf b i h) hW7.size) (tabs_later hW7 hzf ht)).mono ?_
                     dsimp only
                     rw [ho]
                     rintro e w8 ⟨rfl, hb8⟩
                     have hB8 := hB7'.later hb8
                     have hb18 := hb17.trans (hb8.mono hb17.size)
                     have hz8 := hb8.size))
                go_roundw
                case rel => exact ⟨j + 1, hjl, by go_num, by rw [Hst2.out, Hlb.out]; simpa only [signB, List.append_assoc, reduceIte, Int.reduceEq, List.cons_append, List.nil_append] using hB8, hb18⟩
                case measure => simp [intOf]; omega
              · have hl1 : (signB 2).length = 1 := rfl
                go_wp2_with (first
                  | (go_at_call 54; refine (bd_byte _ _ _ _ _ hBa (by rw [bc_len]; omega) hwab).mono ?_
                     rintro e w6 ⟨rfl, hB6, hb6, hk6⟩
                     have hB6' : Bd w1.heap.size w1.heap.size (bc (pre3 ++ [45])) w6 := by rw [← bc_app]; exact .inr hB6
                     have h6 := hk6 _ _ hnew (by intro e; injection e with e; omega) (by intro c fz e; injection e with e1 e2 e3; cases e2)
                     have q6 : w6.cell? ⟨wr.heap.size, 1, none⟩ = some (.string (str s)) := by rw [Lib.cell_of_heap h6]; rfl
                     have hz6 := hb6.size)
                  | (go_at_call 52; refine (bd_string _ _ _ _ _ hB6' (by rw [bc_len, str_size, List.length_append, List.length_singleton]; omega) (by omega)).mono ?_
                     rintro e w7 ⟨rfl, hB7, hb7, hk7⟩
                     have hB7' : Bd w1.heap.size w1.heap.size (bc (pre3 ++ [45] ++ s)) w7 := by rw [← bc_app, ← bc_str]; exact .inr hB7
                     have h7 := hk7 _ _ h6 (by intro e; injection e with e; omega) (by intro c fz e; injection e with e1 e2 e3; cases e2)
                     have p7 : w7.cell? ⟨wr.heap.size, 0, none⟩ = some (.int .i64 2) := by rw [Lib.cell_of_heap h7]; rfl
                     have q7 : w7.cell? ⟨wr.heap.size, 1, none⟩ = some (.string (str s)) := by rw [Lib.cell_of_heap h7]; rfl
                     have hz7 := hb7.size
                     have hb17 : Below w1.heap.size w1 w7 := ((hbj.trans (hob.mono hbj.size)).trans hb6).trans hb7
                     have hW7 := hb1.trans (hb17.mono hb1.size))
                  | (go_at_call 55; refine (open_in (m := m) ((2 : Int), s) htx (fun b i h => Nat.lt_of_lt_of_le (hzf b i h) hW7.size) (tabs_later hW7 hzf ht)).mono ?_
                     dsimp only
                     rw [ho]
                     rintro e w8 ⟨rfl, hb8⟩
                     have hB8 := hB7'.later hb8
                     have hb18 := hb17.trans (hb8.mono hb17.size)
                     have hz8 := hb8.size))
                go_roundw
                case rel => exact ⟨j + 1, hjl, by go_num, by rw [Hst2.out, Hlb.out]; simpa only [signB, List.append_assoc, reduceIte, Int.reduceEq, List.cons_append, List.nil_append] using hB8, hb18⟩
                case measure => simp [intOf]; omega
              · have hl1 : (signB 3).length = 1 := rfl
                go_wp2_with (first
                  | (go_at_call 54; refine (bd_byte _ _ _ _ _ hBa (by rw [bc_len]; omega) hwab).mono ?_
                     rintro e w6 ⟨rfl, hB6, hb6, hk6⟩
                     have hB6' : Bd w1.heap.size w1.heap.size (bc (pre3 ++ [43])) w6 := by rw [← bc_app]; exact .inr hB6
                     have h6 := hk6 _ _ hnew (by intro e; injection e with e; omega) (by intro c fz e; injection e with e1 e2 e3; cases e2)
                     have q6 : w6.cell? ⟨wr.heap.size, 1, none⟩ = some (.string (str s)) := by rw [Lib.cell_of_heap h6]; rfl
                     have hz6 := hb6.size)
                  | (go_at_call 52; refine (bd_string _ _ _ _ _ hB6' (by rw [bc_len, str_size, List.length_append, List.length_singleton]; omega) (by omega)).mono ?_
                     rintro e w7 ⟨rfl, hB7, hb7, hk7⟩
                     have hB7' : Bd w1.heap.size w1.heap.size (bc (pre3 ++ [43] ++ s)) w7 := by rw [← bc_app, ← bc_str]; exact .inr hB7
                     have h7 := hk7 _ _ h6 (by intro e; injection e with e; omega) (by intro c fz e; injection e with e1 e2 e3; cases e2)
                     have p7 : w7.cell? ⟨wr.heap.size, 0, none⟩ = some (.int .i64 3) := by rw [Lib.cell_of_heap h7]; rfl
                     have q7 : w7.cell? ⟨wr.heap.size, 1, none⟩ = some (.string (str s)) := by rw [Lib.cell_of_heap h7]; rfl
                     have hz7 := hb7.size
                     have hb17 : Below w1.heap.size w1 w7 := ((hbj.trans (hob.mono hbj.size)).trans hb6).trans hb7
                     have hW7 := hb1.trans (hb17.mono hb1.size))
                  | (go_at_call 55; refine (open_in (m := m) ((3 : Int), s) htx (fun b i h => Nat.lt_of_lt_of_le (hzf b i h) hW7.size) (tabs_later hW7 hzf ht)).mono ?_
                     dsimp only
                     rw [ho]
                     rintro e w8 ⟨rfl, hb8⟩
                     have hB8 := hB7'.later hb8
                     have hb18 := hb17.trans (hb8.mono hb17.size)
                     have hz8 := hb8.size))
                go_roundw
                case rel => exact ⟨j + 1, hjl, by go_num, by rw [Hst2.out, Hlb.out]; simpa only [signB, List.append_assoc, reduceIte, Int.reduceEq, List.cons_append, List.nil_append] using hB8, hb18⟩
                case measure => simp [intOf]; omega
            | true =>
              rw [ho] at hlen2
              have Hlb : Hid (lineB (K, s) = signB K ++ s ++ 10 :: markB) := Lib.hid (by rw [lineB]; dsimp only; rw [ho]; simp)
              simp only [if_true] at hlen2
              have hm10 : (10 :: markB).length = 10 := rfl
              rcases hkj with rfl | rfl | rfl
              · have hl1 : (signB 1).length = 1 := rfl
                go_wp2_with (first
                  | (go_at_call 54; refine (bd_byte _ _ _ _ _ hBa (by rw [bc_len]; omega) hwab).mono ?_
                     rintro e w6 ⟨rfl, hB6, hb6, hk6⟩
                     have hB6' : Bd w1.heap.size w1.heap.size (bc (pre3 ++ [32])) w6 := by rw [← bc_app]; exact .inr hB6
                     have h6 := hk6 _ _ hnew (by intro e; injection e with e; omega) (by intro c fz e; injection e with e1 e2 e3; cases e2)
                     have q6 : w6.cell? ⟨wr.heap.size, 1, none⟩ = some (.string (str s)) := by rw [Lib.cell_of_heap h6]; rfl
                     have hz6 := hb6.size)
                  | (go_at_call 52; refine (bd_string _ _ _ _ _ hB6' (by rw [bc_len, str_size, List.length_append, List.length_singleton]; omega) (by omega)).mono ?_
                     rintro e w7 ⟨rfl, hB7, hb7, hk7⟩
                     have hB7' : Bd w1.heap.size w1.heap.size (bc (pre3 ++ [32] ++ s)) w7 := by rw [← bc_app, ← bc_str]; exact .inr hB7
                     have h7 := hk7 _ _ h6 (by intro e; injection e with e; omega) (by intro c fz e; injection e with e1 e2 e3; cases e2)
                     have p7 : w7.cell? ⟨wr.heap.size, 0, none⟩ = some (.int .i64 1) := by rw [Lib.cell_of_heap h7]; rfl
                     have q7 : w7.cell? ⟨wr.heap.size, 1, none⟩ = some (.string (str s)) := by rw [Lib.cell_of_heap h7]; rfl
                     have hz7 := hb7.size
                     have hb17 : Below w1.heap.size w1 w7 := ((hbj.trans (hob.mono hbj.size)).trans hb6).trans hb7
                     have hW7 := hb1.trans (hb17.mono hb1.size))
                  | (go_at_call 55; refine (open_in (m := m) ((1 : Int), s) htx (fun b i h => Nat.lt_of_lt_of_le (hzf b i h) hW7.size) (tabs_later hW7 hzf ht)).mono ?_
                     dsimp only
                     rw [ho]
                     rintro e w8 ⟨rfl, hb8⟩
                     have hB8 := hB7'.later hb8
                     have hb18 := hb17.trans (hb8.mono hb17.size)
                     have hz8 := hb8.size)
                  | (go_at_call 52; refine (bd_string _ _ _ _ _ hB8 (by rw [bc_len, List.length_append, List.length_append, List.length_singleton]; show _ + 10 ≤ _; omega) (by omega)).mono ?_
                     rintro e w9 ⟨rfl, hB9, hb9, hk9⟩
                     have hB9' : Bd w1.heap.size w1.heap.size (bc (pre3 ++ [32] ++ s ++ 10 :: markB)) w9 := by rw [← bc_app, ← bc_str (10 :: markB)]; exact .inr hB9
                     have hb19 := hb18.trans hb9))
                go_roundw
                case rel => exact ⟨j + 1, hjl, by go_num, by rw [Hst2.out, Hlb.out]; simpa only [signB, List.append_assoc, reduceIte, Int.reduceEq, List.cons_append, List.nil_append] using hB9', hb19⟩
                case measure => simp [intOf]; omega
              · have hl1 : (signB 2).length = 1 := rfl
                go_wp2_with (first
                  | (go_at_call 54; refine (bd_byte _ _ _ _ _ hBa (by rw [bc_len]; omega) hwab).mono ?_
                     rintro e w6 ⟨rfl, hB6, hb6, hk6⟩
                     have hB6' : Bd w1.heap.size w1.heap.size (bc (pre3 ++ [45])) w6 := by rw [← bc_app]; exact .inr hB6
                     have h6 := hk6 _ _ hnew (by intro e; injection e with e; omega) (by intro c fz e; injection e with e1 e2 e3; cases e2)
                     have q6 : w6.cell? ⟨wr.heap.size, 1, none⟩ = some (.string (str s)) := by rw [Lib.cell_of_heap h6]; rfl
                     have hz6 := hb6.size)
                  | (go_at_call 52; refine (bd_string _ _ _ _ _ hB6' (by rw [bc_len, str_size, List.length_append, List.length_singleton]; omega) (by omega)).mono ?_
                     rintro e w7 ⟨rfl, hB7, hb7, hk7⟩
                     have hB7' : Bd w1.heap.size w1.heap.size (bc (pre3 ++ [45] ++ s)) w7 := by rw [← bc_app, ← bc_str]; exact .inr hB7
                     have h7 := hk7 _ _ h6 (by intro e; injection e with e; omega) (by intro c fz e; injection e with e1 e2 e3; cases e2)
                     have p7 : w7.cell? ⟨wr.heap.size, 0, none⟩ = some (.int .i64 2) := by rw [Lib.cell_of_heap h7]; rfl
                     have q7 : w7.cell? ⟨wr.heap.size, 1, none⟩ = some (.string (str s)) := by rw [Lib.cell_of_heap h7]; rfl
                     have hz7 := hb7.size
                     have hb17 : Below w1.heap.size w1 w7 := ((hbj.trans (hob.mono hbj.size)).trans hb6).trans hb7
                     have hW7 := hb1.trans (hb17.mono hb1.size))
                  | (go_at_call 55; refine (open_in (m := m) ((2 : Int), s) htx (fun b i h => Nat.lt_of_lt_of_le (hzf b i h) hW7.size) (tabs_later hW7 hzf ht)).mono ?_
                     dsimp only
                     rw [ho]
                     rintro e w8 ⟨rfl, hb8⟩
                     have hB8 := hB7'.later hb8
                     have hb18 := hb17.trans (hb8.mono hb17.size)
                     have hz8 := hb8.size)
                  | (go_at_call 52; refine (bd_string _ _ _ _ _ hB8 (by rw [bc_len, List.length_append, List.length_append, List.length_singleton]; show _ + 10 ≤ _; omega) (by omega)).mono ?_
                     rintro e w9 ⟨rfl, hB9, hb9, hk9⟩
                     have hB9' : Bd w1.heap.size w1.heap.size (bc (pre3 ++ [45] ++ s ++ 10 :: markB)) w9 := by rw [← bc_app, ← bc_str (10 :: markB)]; exact .inr hB9
                     have hb19 := hb18.trans hb9))
                go_roundw
                case rel => exact ⟨j + 1, hjl, by go_num, by rw [Hst2.out, Hlb.out]; simpa only [signB, List.append_assoc, reduceIte, Int.reduceEq, List.cons_append, List.nil_append] using hB9', hb19⟩
                case measure => simp [intOf]; omega
              · have hl1 : (signB 3).length = 1 := rfl
                go_wp2_with (first
                  | (go_at_call 54; refine (bd_byte _ _ _ _ _ hBa (by rw [bc_len]; omega) hwab).mono ?_
                     rintro e w6 ⟨rfl, hB6, hb6, hk6⟩
                     have hB6' : Bd w1.heap.size w1.heap.size (bc (pre3 ++ [43])) w6 := by rw [← bc_app]; exact .inr hB6
                     have h6 := hk6 _ _ hnew (by intro e; injection e with e; omega) (by intro c fz e; injection e with e1 e2 e3; cases e2)
                     have q6 : w6.cell? ⟨wr.heap.size, 1, none⟩ = some (.string (str s)) := by rw [Lib.cell_of_heap h6]; rfl
                     have hz6 := hb6.size)
                  | (go_at_call 52; refine (bd_string _ _ _ _ _ hB6' (by rw [bc_len, str_size, List.length_append, List.length_singleton]; omega) (by omega)).mono ?_
                     rintro e w7 ⟨rfl, hB7, hb7, hk7⟩
                     have hB7' : Bd w1.heap.size w1.heap.size (bc (pre3 ++ [43] ++ s)) w7 := by rw [← bc_app, ← bc_str]; exact .inr hB7
                     have h7 := hk7 _ _ h6 (by intro e; injection e with e; omega) (by intro c fz e; injection e with e1 e2 e3; cases e2)
                     have p7 : w7.cell? ⟨wr.heap.size, 0, none⟩ = some (.int .i64 3) := by rw [Lib.cell_of_heap h7]; rfl
                     have q7 : w7.cell? ⟨wr.heap.size, 1, none⟩ = some (.string (str s)) := by rw [Lib.cell_of_heap h7]; rfl
                     have hz7 := hb7.size
                     have hb17 : Below w1.heap.size w1 w7 := ((hbj.trans (hob.mono hbj.size)).trans hb6).trans hb7
                     have hW7 := hb1.trans (hb17.mono hb1.size))
                  | (go_at_call 55; refine (open_in (m := m) ((3 : Int), s) htx (fun b i h => Nat.lt_of_lt_of_le (hzf b i h) hW7.size) (tabs_later hW7 hzf ht)).mono ?_
                     dsimp only
                     rw [ho]
                     rintro e w8 ⟨rfl, hb8⟩
                     have hB8 := hB7'.later hb8
                     have hb18 := hb17.trans (hb8.mono hb17.size)
                     have hz8 := hb8.size)
                  | (go_at_call 52; refine (bd_string _ _ _ _ _ hB8 (by rw [bc_len, List.length_append, List.length_append, List.length_singleton]; show _ + 10 ≤ _; omega) (by omega)).mono ?_
                     rintro e w9 ⟨rfl, hB9, hb9, hk9⟩
                     have hB9' : Bd w1.heap.size w1.heap.size (bc (pre3 ++ [43] ++ s ++ 10 :: markB)) w9 := by rw [← bc_app, ← bc_str (10 :: markB)]; exact .inr hB9
                     have hb19 := hb18.trans hb9))
                go_roundw
                case rel => exact ⟨j + 1, hjl, by go_num, by rw [Hst2.out, Hlb.out]; simpa only [signB, List.append_assoc, reduceIte, Int.reduceEq, List.cons_append, List.nil_append] using hB9', hb19⟩
                case measure => simp [intOf]; omega
          · obtain rfl : j = L.length := by omega
            rw [List.take_length, ← Hpl.out, ← Hst.out] at hBj
            clear hc2 hA2 hu
            go_wp2
            go_roundw
            case rel => exact ⟨k + 1, hlt, by go_num, hBj, hbj⟩
            case measure => simp [intOf]; omega
      · obtain rfl : k = l.length := by omega
        rw [List.take_length] at hB
        go_wp2_with (go_at_call 56; refine (Tryd.Builder_String_any _ _ _ _ hB hb2.size).mono ?_; rintro e w9 ⟨rfl, hb9⟩)
        go_ret
        exact ⟨rfl, hb1.trans ((hb2.trans hb9).mono hb1.size)⟩
theorem ptext_snd (l : List Hk) (hl : okHs l) (hT : (l.flatMap hunkB).length ≤ 140737488355328) : Snd Tryd.prog (gl m) 30 [.sl .frn 3 (hS .frn l)] (S (textB l)) := by
  intro w vals zf hzf ht hargs
  obtain ⟨v, hvals, hr⟩ : ∃ v, vals.toList = [v] ∧ Rel (X0 w zf) false (.sl .frn 3 (hS .frn l)) v [] := by
    generalize hL : vals.toList = vs at hargs
    generalize hF : ([] : List Nat) = F at hargs
    cases hargs with
    | cons _ _ v F1 _ vs F2 h hs hd =>
      cases hs
      have hF1 : F1 = [] := (List.append_eq_nil_iff.1 hF.symm).1
      subst hF1
      exact ⟨v, rfl, h⟩
  have hvals : vals = #[v] := by cases vals; exact congrArg Array.mk hvals
  subst hvals
  refine (text_calls (m := m) l hl hT hzf ht hr).mono ?_
  rintro e w' ⟨rfl, hk⟩
  exact ⟨_, rfl, keep_below hk, { w := w', b0 := w.heap.size, bd := fun _ => none, bxc := fun _ _ => True, zf := zf, res := fun _ => none, hold := fun _ => none }, [], rfl, rfl, rfl, fun _ _ => rfl, .lit _ _ rfl, fun b hb => (List.not_mem_nil hb).elim⟩
end Go.Hk
namespace Go.Hk
open Go Go.Ev Go.Proofs
set_option linter.unusedVariables false
set_option linter.unusedSimpArgs false
set_option maxHeartbeats 4000000
attribute [local go_sem] eqs implies_true List.map_cons List.map_nil kl klL roD roL Option.map_some Option.map_none Option.getD_some Option.getD_none binVal binObl unVal if_true if_false eq_self passA frnD resD content getH getR getW viaNot viaSlot viaBox viaDeep viaMem List.contains_cons List.contains_nil grabs peeks okCells isCell place cellsOf chunk elt List.headD_cons List.length_cons List.length_nil List.take_succ_cons List.take_zero List.drop_succ_cons List.drop_zero List.nil_append List.cons_append List.append_nil List.all_cons List.all_nil plainC takeR setW over reCell List.getElem?_cons_zero List.getElem?_cons_succ List.set_cons_zero List.take_length outV resG plainV pack outVG outBx List.set_cons_succ Ref.idx Ref.addOff beq_self_eq_true bxL Option.bind_some writeR isLit viaBoxes capsPA boxPA nsOf noDup boxesAt argG passG passD rhoIn rhoOut idxIn tr trL List.getD_cons_zero gives pasOf isPtr Ins.d List.getD_cons_succ resL frnL partB_f partB_t partB_p partB_s St.setP mixR v_slcT List.getLast?_nil List.getLast?_singleton List.dropLast_singleton List.nil_append frnL_fs roL_fs resL_fs passL_fs klL_fs trL_fs map_roD_fs fs_length hS_length frnL_hS roL_hS_own roL_hS_frn roL_hS_ro resL_hS_own resL_hS_ro klL_hS klL_hS_own klL_hS_frn passL_hS_own passL_hS_frn trL_hS_own trL_hS_frn
variable {m : Int × Bool}
end Go.Hk
namespace Go.Hk
open Go Go.Ev Go.Proofs
set_option linter.unusedVariables false
set_option linter.unusedSimpArgs false
set_option maxHeartbeats 4000000
attribute [local go_sem] eqs implies_true List.map_cons List.map_nil kl klL roD roL Option.map_some Option.map_none Option.getD_some Option.getD_none binVal binObl unVal if_true if_false eq_self passA frnD resD content getH getR getW viaNot viaSlot viaBox viaDeep viaMem List.contains_cons List.contains_nil grabs peeks okCells isCell place cellsOf chunk elt List.headD_cons List.length_cons List.length_nil List.take_succ_cons List.take_zero List.drop_succ_cons List.drop_zero List.nil_append List.cons_append List.append_nil List.all_cons List.all_nil plainC takeR setW over reCell List.getElem?_cons_zero List.getElem?_cons_succ List.set_cons_zero List.take_length outV resG plainV pack outVG outBx List.set_cons_succ Ref.idx Ref.addOff beq_self_eq_true bxL Option.bind_some writeR isLit viaBoxes capsPA boxPA nsOf noDup boxesAt argG passG passD rhoIn rhoOut idxIn tr trL List.getD_cons_zero gives pasOf isPtr Ins.d List.getD_cons_succ resL frnL partB_f partB_t partB_p partB_s St.setP mixR v_slcT List.getLast?_nil List.getLast?_singleton List.dropLast_singleton List.nil_append frnL_fs roL_fs resL_fs passL_fs klL_fs trL_fs map_roD_fs fs_length hS_length frnL_hS roL_hS_own roL_hS_frn roL_hS_ro resL_hS_own resL_hS_ro klL_hS klL_hS_own klL_hS_frn passL_hS_own passL_hS_frn trL_hS_own trL_hS_frn
variable {m : Int × Bool}
def plives_k0' : AC := .ret
def plives_k0 : AC := plives_k0'
theorem plives_k0_w (C : Kn) (K : Ex → St → Prop) (s : St) : vcC C plives_k0 K s = vcC C plives_k0' K s := nr rfl
def plives : AF := ⟨.seq (.reg (.seq [⟨some (0, true), none, .mov (.cst (.bool false) (.lit (.bool false))) .asg⟩])) [] []
  (.seq (.reg (.seq [⟨some (6, false), none, .buildS 1 3 [(.lit (.string (str []))), (.lit (.string (str []))), (.lit (.string (str [])))] [(0, 1, (.cst (.string (str [97, 10])) (.lit (.string (str [97, 10]))))), (1, 1, (.cst (.string (str [98, 10])) (.lit (.string (str [98, 10]))))), (2, 1, (.cst (.string (str [99, 10])) (.lit (.string (str [99, 10])))))]⟩,⟨some (1, true), none, .mov (.tmp 6 false) .asg⟩])) [1] []
  (.seq (.reg (.seq [⟨some (7, false), none, .mov (.tmp 1 true) .peek⟩,⟨some (8, false), none, .buildS 1 3 [(.lit (.string (str []))), (.lit (.string (str []))), (.lit (.string (str [])))] [(0, 1, (.cst (.string (str [97, 10])) (.lit (.string (str [97, 10]))))), (1, 1, (.cst (.string (str [120, 10])) (.lit (.string (str [120, 10]))))), (2, 1, (.cst (.string (str [99, 10])) (.lit (.string (str [99, 10])))))]⟩,⟨some (9, false), none, .build [(.lit (.int .i64 0)), (.lit (.int .i64 0)), (.lit (.int .i64 0)), (.lit (.int .i64 0))] [(0, 1, (.cst (.int .i64 1) (.lit (.int .i64 1)))), (1, 1, (.cst (.int .i64 1) (.lit (.int .i64 1)))), (2, 1, (.cst (.int .i64 1) (.lit (.int .i64 1)))), (3, 1, (.cst (.int .i64 1) (.lit (.int .i64 1))))]⟩,⟨some (10, false), none, .buildS 4 1 [(.lit (.int .i64 0)), (.lit (.int .i64 0)), (.lit (.int .i64 0)), (.lit (.int .i64 0))] [(0, 4, (.tmp 9 false))]⟩,⟨some (11, false), none, .call 18 [.tmp 7 false, .tmp 8 false, .tmp 10 false, (.cst (.int .i64 1) (.lit (.int .i64 1)))]⟩,⟨some (2, true), none, .mov (.tmp 11 false) .asg⟩])) [1, 2] []
  (.seq (.reg (.seq [⟨some (13, false), none, .mov (.tmp 1 true) .peek⟩,⟨some (14, false), none, .mov (.tmp 2 true) .peek⟩,⟨some (15, false), none, .call 11 [.tmp 13 false, .tmp 14 false]⟩,⟨some (12, false), none, .mov (.tmp 15 false) .peek⟩,⟨some (16, false), none, .ext (.tmp 12 false) 0⟩,⟨some (17, false), none, .ext (.tmp 12 false) 1⟩,⟨some (18, false), none, .ext (.tmp 12 false) 2⟩,⟨some (3, true), none, .mov (.tmp 16 false) .asg⟩,⟨some (4, true), none, .mov (.tmp 17 false) .asg⟩,⟨some (5, true), none, .mov (.tmp 18 false) .asg⟩])) [2, 3, 4, 5] []
  (.seq (.reg (.seq [⟨some (19, false), none, .mov (.tmp 2 true) .peek⟩,⟨some (20, false), none, .call 30 [.tmp 19 false]⟩,⟨some (21, false), none, .bin .eql (.tmp 20 false) (.cst (.string (str [64, 32, 45, 49, 44, 51, 32, 43, 49, 44, 51, 32, 64, 10, 32, 97, 10, 45, 98, 10, 43, 120, 10, 32, 99, 10])) (.lit (.string (str [64, 32, 45, 49, 44, 51, 32, 43, 49, 44, 51, 32, 64, 10, 32, 97, 10, 45, 98, 10, 43, 120, 10, 32, 99, 10]))))⟩,⟨some (22, false), none, .mov (.tmp 21 false) .peek⟩,⟨some (23, false), (some (22, true)), .mov (.tmp 5 true) .peek⟩,⟨some (24, false), (some (22, true)), .bin .eql (.tmp 23 false) (.cst (.int .i64 0) (.lit (.int .i64 0)))⟩,⟨some (25, false), none, .pick (.tmp 22 false) (.tmp 24 false) (.cst (.bool false) (.lit (.bool false)))⟩,⟨some (26, false), none, .mov (.tmp 25 false) .peek⟩,⟨some (27, false), (some (26, true)), .mov (.tmp 3 true) .peek⟩,⟨some (28, false), (some (26, true)), .buildS 1 3 [(.lit (.string (str []))), (.lit (.string (str []))), (.lit (.string (str [])))] [(0, 1, (.cst (.string (str [97, 10])) (.lit (.string (str [97, 10]))))), (1, 1, (.cst (.string (str [120, 10])) (.lit (.string (str [120, 10]))))), (2, 1, (.cst (.string (str [99, 10])) (.lit (.string (str [99, 10])))))]⟩,⟨some (29, false), (some (26, true)), .call 13 [.tmp 27 false, .tmp 28 false]⟩,⟨some (30, false), none, .pick (.tmp 26 false) (.tmp 29 false) (.cst (.bool false) (.lit (.bool false)))⟩,⟨some (31, false), none, .mov (.tmp 30 false) .peek⟩,⟨some (32, false), (some (31, true)), .mov (.tmp 4 true) .peek⟩,⟨some (33, false), (some (31, true)), .lenL (.tmp 32 false)⟩,⟨some (34, false), (some (31, true)), .bin .eql (.tmp 33 false) (.cst (.int .i64 1) (.lit (.int .i64 1)))⟩,⟨some (35, false), none, .pick (.tmp 31 false) (.tmp 34 false) (.cst (.bool false) (.lit (.bool false)))⟩,⟨some (36, false), none, .mov (.tmp 35 false) .peek⟩,⟨some (37, false), (some (36, true)), .mov (.tmp 4 true) .peek⟩,⟨some (38, false), (some (36, true)), .iad (.tmp 37 false) (.cst (.int .i64 0) (.lit (.int .i64 0))) 1⟩,⟨some (39, false), (some (36, true)), .load (.tmp 38 false) 1 false false⟩,⟨some (40, false), (some (36, true)), .bin .eql (.tmp 39 false) (.cst (.int .i64 0) (.lit (.int .i64 0)))⟩,⟨some (41, false), none, .pick (.tmp 36 false) (.tmp 40 false) (.cst (.bool false) (.lit (.bool false)))⟩,⟨some (0, true), none, .mov (.tmp 41 false) .asg⟩])) [0] [] plives_k0)))),
  [.tmp 0]⟩
theorem plives_comp (m : Int × Bool) : compF Tryd.prog (gl m) [] Tryd.f10 = some plives := by kernel_rfl
def exA : List Bs := [[97, 10], [98, 10], [99, 10]]
def exB : List Bs := [[97, 10], [120, 10], [99, 10]]
def exH : List Hk := [(0, 0, [(1, [97, 10]), (2, [98, 10]), (3, [120, 10]), (1, [99, 10])])]
theorem ex_of : ofF exA exB [(1, 1, 1, 1)] 1 = exH := by decide +kernel
theorem ex_valid : valid exH = true := by decide +kernel
theorem ex_ap : apF exA exH 1 = some (exB, [0], 3, 0) := by decide +kernel
theorem ex_text : textB exH = [64, 32, 45, 49, 44, 51, 32, 43, 49, 44, 51, 32, 64, 10, 32, 97, 10, 45, 98, 10, 43, 120, 10, 32, 99, 10] := by decide +kernel
theorem ex_apR : apR exA exH = .tup [.sl .own 1 (ss exB), .sl .own 1 [I 0], I 0] := by
  rw [apR, ex_valid, if_pos rfl, show exH.length = 1 by rfl, ex_ap]; rfl
theorem ex_ok : okHs exH := by
  refine ⟨by decide, fun h hm => ?_⟩
  obtain rfl : h = (0, 0, [(1, [97, 10]), (2, [98, 10]), (3, [120, 10]), (1, [99, 10])]) := by simpa [exH] using hm
  refine ⟨by decide, fun x hx => ?_⟩
  simp only [List.mem_cons, List.not_mem_nil, or_false] at hx
  rcases hx with rfl | rfl | rfl | rfl <;> decide
theorem lives_snd  : Snd Tryd.prog (gl m) 10 [] (B true) := by
  refine snd_of (fn := Tryd.f10) (af := plives) Tryd.func10 (plives_comp m) mixed (kn_ok m) (Nat.le_of_ble_eq_true rfl) ?_
  simp only [plives, go_sem, reduceCtorEq, Nat.reduceEqDiff, reduceIte, Nat.reduceAdd, Nat.reduceSub, Nat.reduceLeDiff, Int.reduceToNat, Nat.reduceBEq]
  repeat ((with_reducible apply And.intro); (case left => first | omega | (simp only [List.length_append, List.length_cons, List.length_nil, List.length_drop, List.length_take, List.length_tail, List.length_dropLast, fs_length, ss_length, bs_length, ns_length]; omega)))
  refine of_call (pof_snd exA exB [(1, 1, 1, 1)] 1 (by decide) (by decide) (by decide)) ?_
  simp only [go_sem, reduceCtorEq, Nat.reduceEqDiff, reduceIte, Nat.reduceAdd, Nat.reduceSub, Nat.reduceLeDiff, Int.reduceToNat, Nat.reduceBEq]
  repeat ((with_reducible apply And.intro); (case left => first | omega | (simp only [List.length_append, List.length_cons, List.length_nil, List.length_drop, List.length_take, List.length_tail, List.length_dropLast, fs_length, ss_length, bs_length, ns_length]; omega)))
  rw [ex_of]
  repeat ((with_reducible apply And.intro); (case left => first | omega | (simp only [List.length_append, List.length_cons, List.length_nil, List.length_drop, List.length_take, List.length_tail, List.length_dropLast, fs_length, ss_length, bs_length, ns_length]; omega)))
  refine of_call (papply_snd exA exH (by decide) ex_ok) ?_
  simp only [go_sem, reduceCtorEq, Nat.reduceEqDiff, reduceIte, Nat.reduceAdd, Nat.reduceSub, Nat.reduceLeDiff, Int.reduceToNat, Nat.reduceBEq]
  repeat ((with_reducible apply And.intro); (case left => first | omega | (simp only [List.length_append, List.length_cons, List.length_nil, List.length_drop, List.length_take, List.length_tail, List.length_dropLast, fs_length, ss_length, bs_length, ns_length]; omega)))
  rw [ex_apR]
  simp only [go_sem, reduceCtorEq, Nat.reduceEqDiff, reduceIte, Nat.reduceAdd, Nat.reduceSub, Nat.reduceLeDiff, Int.reduceToNat, Nat.reduceBEq]
  repeat ((with_reducible apply And.intro); (case left => first | omega | (simp only [List.length_append, List.length_cons, List.length_nil, List.length_drop, List.length_take, List.length_tail, List.length_dropLast, fs_length, ss_length, bs_length, ns_length]; omega)))
  repeat ((with_reducible apply And.intro); (case left => first | omega | (simp only [List.length_append, List.length_cons, List.length_nil, List.length_drop, List.length_take, List.length_tail, List.length_dropLast, fs_length, ss_length, bs_length, ns_length]; omega)))
  refine of_call (ptext_snd exH ex_ok (by decide +kernel)) ?_
  simp only [go_sem, reduceCtorEq, Nat.reduceEqDiff, reduceIte, Nat.reduceAdd, Nat.reduceSub, Nat.reduceLeDiff, Int.reduceToNat, Nat.reduceBEq]
  repeat ((with_reducible apply And.intro); (case left => first | omega | (simp only [List.length_append, List.length_cons, List.length_nil, List.length_drop, List.length_take, List.length_tail, List.length_dropLast, fs_length, ss_length, bs_length, ns_length]; omega)))
  rw [ex_text]
  simp only [beq_self_eq_true, go_sem, reduceCtorEq, Nat.reduceEqDiff, reduceIte, Nat.reduceAdd, Nat.reduceSub, Nat.reduceLeDiff, Int.reduceToNat, Nat.reduceBEq]
  repeat ((with_reducible apply And.intro); (case left => first | omega | (simp only [List.length_append, List.length_cons, List.length_nil, List.length_drop, List.length_take, List.length_tail, List.length_dropLast, fs_length, ss_length, bs_length, ns_length]; omega)))
  repeat ((with_reducible apply And.intro); (case left => first | omega | (simp only [List.length_append, List.length_cons, List.length_nil, List.length_drop, List.length_take, List.length_tail, List.length_dropLast, fs_length, ss_length, bs_length, ns_length]; omega)))
  refine of_call (same05_snd exB exB (by decide) (by decide)) ?_
  simp only [go_sem, reduceCtorEq, Nat.reduceEqDiff, reduceIte, Nat.reduceAdd, Nat.reduceSub, Nat.reduceLeDiff, Int.reduceToNat, Nat.reduceBEq]
  repeat ((with_reducible apply And.intro); (case left => first | omega | (simp only [List.length_append, List.length_cons, List.length_nil, List.length_drop, List.length_take, List.length_tail, List.length_dropLast, fs_length, ss_length, bs_length, ns_length]; omega)))
  have e1 : (((1 : Nat) : Int) == 1) = true := rfl
  have e2 : ((0 : Int) == 0) = true := rfl
  simp only [e1, e2, go_sem, reduceCtorEq, Nat.reduceEqDiff, reduceIte, Nat.reduceAdd, Nat.reduceSub, Nat.reduceLeDiff, Int.reduceToNat, Nat.reduceBEq]
  repeat ((with_reducible apply And.intro); (case left => first | omega | (simp only [List.length_append, List.length_cons, List.length_nil, List.length_drop, List.length_take, List.length_tail, List.length_dropLast, fs_length, ss_length, bs_length, ns_length]; omega)))
  try simp only [e1, e2, plives_k0_w, plives_k0', go_sem, reduceCtorEq, Nat.reduceEqDiff, reduceIte, Nat.reduceAdd, Nat.reduceSub, Nat.reduceLeDiff, Int.reduceToNat, Nat.reduceBEq]
  first | rfl | trace_state
end Go.Hk
namespace Go.Hk
open Go Go.Ev Go.Proofs
set_option linter.unusedVariables false
set_option linter.unusedSimpArgs false
set_option maxHeartbeats 4000000
attribute [local go_sem] eqs implies_true List.map_cons List.map_nil kl klL roD roL Option.map_some Option.map_none Option.getD_some Option.getD_none binVal binObl unVal if_true if_false eq_self passA frnD resD content getH getR getW viaNot viaSlot viaBox viaDeep viaMem List.contains_cons List.contains_nil grabs peeks okCells isCell place cellsOf chunk elt List.headD_cons List.length_cons List.length_nil List.take_succ_cons List.take_zero List.drop_succ_cons List.drop_zero List.nil_append List.cons_append List.append_nil List.all_cons List.all_nil plainC takeR setW over reCell List.getElem?_cons_zero List.getElem?_cons_succ List.set_cons_zero List.take_length outV resG plainV pack outVG outBx List.set_cons_succ Ref.idx Ref.addOff beq_self_eq_true bxL Option.bind_some writeR isLit viaBoxes capsPA boxPA nsOf noDup boxesAt argG passG passD rhoIn rhoOut idxIn tr trL List.getD_cons_zero gives pasOf isPtr Ins.d List.getD_cons_succ resL frnL partB_f partB_t partB_p partB_s St.setP mixR v_slcT List.getLast?_nil List.getLast?_singleton List.dropLast_singleton List.nil_append frnL_fs roL_fs resL_fs passL_fs klL_fs trL_fs map_roD_fs fs_length hS_length frnL_hS roL_hS_own roL_hS_frn roL_hS_ro resL_hS_own resL_hS_ro klL_hS klL_hS_own klL_hS_frn passL_hS_own passL_hS_frn trL_hS_own trL_hS_frn frnL_ns resL_ns roL_ns passL_ns klL_ns
variable {m : Int × Bool}
end Go.Hk

