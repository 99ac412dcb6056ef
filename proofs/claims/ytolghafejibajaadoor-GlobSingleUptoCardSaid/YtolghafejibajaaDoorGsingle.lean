import Derived.Test.YtolghafejibajaaDoorGbD
import Derived.Test.YtolghafejibajaaDoorGbX
/- GlobSingle -/
namespace Go.Gb
open Go Go.Ev Go.Proofs
set_option linter.unusedVariables false
set_option linter.unusedSimpArgs false
attribute [local go_sem] eqs implies_true List.map_cons List.map_nil kl klL roD roL Option.map_some Option.map_none Option.getD_some Option.getD_none binVal binObl unVal if_true if_false eq_self passA frnD resD content getH getR getW viaNot viaSlot viaBox viaDeep viaMem List.contains_cons List.contains_nil grabs peeks okCells isCell place cellsOf chunk elt List.headD_cons List.length_cons List.length_nil List.take_succ_cons List.take_zero List.drop_succ_cons List.drop_zero List.nil_append List.cons_append List.append_nil List.all_cons List.all_nil plainC takeR setW over reCell List.getElem?_cons_zero List.getElem?_cons_succ List.set_cons_zero List.take_length outV resG plainV pack outVG outBx List.set_cons_succ Ref.idx Ref.addOff beq_self_eq_true bxL Option.bind_some writeR isLit viaBoxes capsPA boxPA nsOf noDup boxesAt argG passG passD rhoIn rhoOut idxIn tr trL List.getD_cons_zero gives pasOf isPtr Ins.d List.getD_cons_succ resL frnL
variable {m : Int}

theorem match_no {p s : Ln.Bs} (h : isPath s = false) : matchF p s = false := by rw [matchF, h]; simp
theorem match_deep {s : Ln.Bs} (h : isPath s = true) : matchF [42, 42] s = true := by
  rw [matchF, h, show isPat [42, 42] = true by decide +kernel, show pieces [42, 42] = [deep] from rfl]
  simp only [Bool.true_and]
  exact (M_deep_iff _ _).2 ⟨_, Nat.le_refl _, by rw [List.drop_length, M_nil]; rfl⟩
theorem pieces_one {p : Ln.Bs} (h : (pieces p).length = 1) : pieces p = [p] ∧ p.contains 47 = false := by
  have hn : Ln.idx p 47 = none := by
    cases hi : Ln.idx p 47 with
    | none => rfl
    | some k =>
      rw [pieces_some hi, List.length_cons] at h
      have := pieces_ne (p.drop (k + 1))
      cases hq : pieces (p.drop (k + 1)) with
      | nil => exact absurd hq this
      | cons _ _ => rw [hq] at h; simp at h
  have e := pieces_none hn
  exact ⟨e, piece_free (by rw [e]; exact List.mem_singleton_self _)⟩
theorem single {p s : Ln.Bs} (hs : isPath s = true) (hd : p ≠ [42, 42]) (h1 : (parts p).length = 1) (h2 : (parts s).length = 1) : matchF p s = partP p s := by
  have hp0 : p ≠ [] := by rintro rfl; simp [parts] at h1
  have hs0 : s ≠ [] := by rintro rfl; simp [parts] at h2
  rw [parts, if_neg hp0] at h1
  have h2' := h2
  rw [parts, if_neg hs0] at h2
  obtain ⟨e1, c1⟩ := pieces_one h1
  obtain ⟨e2, c2⟩ := pieces_one h2
  rw [matchF, partP, hs, c1, c2, parts, if_neg hs0, e1, e2, M_lit_cons (show p ≠ deep from hd), M_nil]
  simp

def lwSingle : AF := ⟨.seq (.reg (.seq [⟨(some (4, true)), none, .mov (.cst (.bool false) (.lit (.bool false))) .asg⟩])) [0, 1] []
  (.seq (.seq (.reg (.seq [⟨(some (5, false)), none, .mov (.tmp 1 true) .peek⟩,
      ⟨(some (6, false)), none, .call 42 [(.tmp 5 false)]⟩,
      ⟨(some (7, false)), none, .un .not (.tmp 6 false)⟩])) [0, 1, 7] []
  (.cond (.tmp 7 false)
    (.seq (.reg (.seq [⟨(some (8, false)), none, .mov (.tmp 0 true) .peek⟩,
      ⟨(some (9, false)), none, .mov (.tmp 1 true) .peek⟩,
      ⟨(some (10, false)), none, .call 38 [(.tmp 8 false), (.tmp 9 false)]⟩,
      ⟨(some (11, false)), none, .un .not (.tmp 10 false)⟩,
      ⟨(some (12, false)), none, .mov (.tmp 11 false) .peek⟩,
      ⟨(some (13, false)), (some (12, true)), .call 32 []⟩,
      ⟨(some (14, false)), none, .pick (.tmp 12 false) (.tmp 13 false) (.cst (.bool false) (.lit (.bool false)))⟩,
      ⟨(some (4, true)), none, .mov (.tmp 14 false) .asg⟩])) [4] []
    (.ret))
    (.skip))) [0, 1] []
  (.seq (.seq (.reg (.seq [⟨(some (15, false)), none, .mov (.tmp 1 true) .peek⟩,
      ⟨(some (16, false)), none, .call 38 [(.cst (.string (str [42, 42])) (.lit (.string (str [42, 42])))), (.tmp 15 false)]⟩,
      ⟨(some (17, false)), none, .un .not (.tmp 16 false)⟩])) [0, 1, 17] []
  (.cond (.tmp 17 false)
    (.seq (.reg (.seq [⟨(some (4, true)), none, .mov (.cst (.bool false) (.lit (.bool false))) .asg⟩])) [4] []
    (.ret))
    (.skip))) [0, 1] []
  (.seq (.seq (.reg (.seq [⟨(some (18, false)), none, .mov (.tmp 0 true) .peek⟩,
      ⟨(some (19, false)), none, .len (.tmp 18 false)⟩,
      ⟨(some (20, false)), none, .bin .gtr (.tmp 19 false) (.cst (.int .i64 200) (.lit (.int .i64 200)))⟩,
      ⟨(some (21, false)), none, .mov (.tmp 20 false) .peek⟩,
      ⟨(some (22, false)), (some (21, false)), .mov (.tmp 0 true) .peek⟩,
      ⟨(some (23, false)), (some (21, false)), .bin .eql (.tmp 22 false) (.cst (.string (str [42, 42])) (.lit (.string (str [42, 42]))))⟩,
      ⟨(some (24, false)), none, .pick (.tmp 21 false) (.cst (.bool true) (.lit (.bool true))) (.tmp 23 false)⟩,
      ⟨(some (25, false)), none, .mov (.tmp 24 false) .peek⟩,
      ⟨(some (26, false)), (some (25, false)), .mov (.tmp 0 true) .peek⟩,
      ⟨(some (27, false)), (some (25, false)), .call 49 [(.tmp 26 false)]⟩,
      ⟨(some (28, false)), (some (25, false)), .lenL (.tmp 27 false)⟩,
      ⟨(some (29, false)), (some (25, false)), .bin .neq (.tmp 28 false) (.cst (.int .i64 1) (.lit (.int .i64 1)))⟩,
      ⟨(some (30, false)), none, .pick (.tmp 25 false) (.cst (.bool true) (.lit (.bool true))) (.tmp 29 false)⟩,
      ⟨(some (31, false)), none, .mov (.tmp 30 false) .peek⟩,
      ⟨(some (32, false)), (some (31, false)), .mov (.tmp 1 true) .peek⟩,
      ⟨(some (33, false)), (some (31, false)), .call 49 [(.tmp 32 false)]⟩,
      ⟨(some (34, false)), (some (31, false)), .lenL (.tmp 33 false)⟩,
      ⟨(some (35, false)), (some (31, false)), .bin .neq (.tmp 34 false) (.cst (.int .i64 1) (.lit (.int .i64 1)))⟩,
      ⟨(some (36, false)), none, .pick (.tmp 31 false) (.cst (.bool true) (.lit (.bool true))) (.tmp 35 false)⟩])) [0, 1, 36] []
  (.cond (.tmp 36 false)
    (.seq (.reg (.seq [⟨(some (37, false)), none, .call 32 []⟩,
      ⟨(some (4, true)), none, .mov (.tmp 37 false) .asg⟩])) [4] []
    (.ret))
    (.skip))) [0, 1] []
  (.seq (.reg (.seq [⟨(some (38, false)), none, .mov (.tmp 0 true) .peek⟩,
      ⟨(some (39, false)), none, .mov (.tmp 1 true) .peek⟩,
      ⟨(some (40, false)), none, .call 38 [(.tmp 38 false), (.tmp 39 false)]⟩,
      ⟨(some (41, false)), none, .mov (.tmp 0 true) .peek⟩,
      ⟨(some (42, false)), none, .mov (.tmp 1 true) .peek⟩,
      ⟨(some (43, false)), none, .call 47 [(.tmp 41 false), (.tmp 42 false)]⟩,
      ⟨(some (44, false)), none, .eqb false (.tmp 40 false) (.tmp 43 false)⟩,
      ⟨(some (45, false)), none, .mov (.tmp 44 false) .peek⟩,
      ⟨(some (46, false)), (some (45, true)), .call 32 []⟩,
      ⟨(some (47, false)), none, .pick (.tmp 45 false) (.tmp 46 false) (.cst (.bool false) (.lit (.bool false)))⟩,
      ⟨(some (4, true)), none, .mov (.tmp 47 false) .asg⟩])) [4] []
  (.ret))))),
  [.tmp 4]⟩
theorem lwSingle_comp (m : Int) : compF Tryd.prog (gl m) [] Tryd.f15 = some lwSingle := by kernel_rfl
theorem single_law (p s : Ln.Bs) (lp : p.length ≤ 1048575) (ls : s.length ≤ 1048575) : Snd Tryd.prog (gl m) 15 [S p, S s] (B true) := by
  refine snd_of (fn := Tryd.f15) (af := lwSingle) Tryd.func15 (lwSingle_comp m) mixed (kn_ok m) (Nat.le_of_ble_eq_true rfl) ?_
  simp only [lwSingle, go_sem, reduceCtorEq, Nat.reduceEqDiff, reduceIte, Nat.reduceAdd, Nat.reduceSub, Nat.reduceLeDiff, Int.reduceToNat, Nat.reduceBEq]
  refine of_call (ris_snd s (by omega)) ?_
  simp only [unVal, go_sem, reduceCtorEq, Nat.reduceEqDiff, reduceIte, Nat.reduceAdd, Nat.reduceSub, Nat.reduceLeDiff, Int.reduceToNat, Nat.reduceBEq]
  cases hs : isPath s with
  | false =>
    simp only [go_sem, reduceCtorEq, Nat.reduceEqDiff, reduceIte, Nat.reduceAdd, Nat.reduceSub, Nat.reduceLeDiff, Int.reduceToNat, Nat.reduceBEq]
    refine of_call (gmatch_snd p s (by omega) (by omega)) ?_
    rw [match_no hs]
    simp only [unVal, go_sem, reduceCtorEq, Nat.reduceEqDiff, reduceIte, Nat.reduceAdd, Nat.reduceSub, Nat.reduceLeDiff, Int.reduceToNat, Nat.reduceBEq]
    refine of_call glives_snd ?_
    simp only [go_sem, reduceCtorEq, Nat.reduceEqDiff, reduceIte, Nat.reduceAdd, Nat.reduceSub, Nat.reduceLeDiff, Int.reduceToNat, Nat.reduceBEq]
  | true =>
    simp only [go_sem, reduceCtorEq, Nat.reduceEqDiff, reduceIte, Nat.reduceAdd, Nat.reduceSub, Nat.reduceLeDiff, Int.reduceToNat, Nat.reduceBEq]
    refine of_call (gmatch_snd [42, 42] s (by simp) (by omega)) ?_
    rw [match_deep hs]
    simp only [unVal, go_sem, reduceCtorEq, Nat.reduceEqDiff, reduceIte, Nat.reduceAdd, Nat.reduceSub, Nat.reduceLeDiff, Int.reduceToNat, Nat.reduceBEq]
    by_cases h1 : 200 < p.length
    · rw [igt_t (by omega)]
      simp only [go_sem, reduceCtorEq, Nat.reduceEqDiff, reduceIte, Nat.reduceAdd, Nat.reduceSub, Nat.reduceLeDiff, Int.reduceToNat, Nat.reduceBEq]
      refine of_call glives_snd ?_
      simp only [go_sem, reduceCtorEq, Nat.reduceEqDiff, reduceIte, Nat.reduceAdd, Nat.reduceSub, Nat.reduceLeDiff, Int.reduceToNat, Nat.reduceBEq]
    · rw [igt_f (by omega)]
      simp only [go_sem, reduceCtorEq, Nat.reduceEqDiff, reduceIte, Nat.reduceAdd, Nat.reduceSub, Nat.reduceLeDiff, Int.reduceToNat, Nat.reduceBEq]
      by_cases h2 : p = [42, 42]
      · rw [se_t h2]
        simp only [go_sem, reduceCtorEq, Nat.reduceEqDiff, reduceIte, Nat.reduceAdd, Nat.reduceSub, Nat.reduceLeDiff, Int.reduceToNat, Nat.reduceBEq]
        refine of_call glives_snd ?_
        simp only [go_sem, reduceCtorEq, Nat.reduceEqDiff, reduceIte, Nat.reduceAdd, Nat.reduceSub, Nat.reduceLeDiff, Int.reduceToNat, Nat.reduceBEq]
      · rw [se_f h2]
        simp only [go_sem, reduceCtorEq, Nat.reduceEqDiff, reduceIte, Nat.reduceAdd, Nat.reduceSub, Nat.reduceLeDiff, Int.reduceToNat, Nat.reduceBEq]
        refine of_call (rparts_snd p (by omega)) ?_
        simp only [go_sem, reduceCtorEq, Nat.reduceEqDiff, reduceIte, Nat.reduceAdd, Nat.reduceSub, Nat.reduceLeDiff, Int.reduceToNat, Nat.reduceBEq]
        by_cases h3 : (parts p).length = 1
        · rw [ne_f (by omega)]
          simp only [go_sem, reduceCtorEq, Nat.reduceEqDiff, reduceIte, Nat.reduceAdd, Nat.reduceSub, Nat.reduceLeDiff, Int.reduceToNat, Nat.reduceBEq]
          refine of_call (rparts_snd s (by omega)) ?_
          simp only [go_sem, reduceCtorEq, Nat.reduceEqDiff, reduceIte, Nat.reduceAdd, Nat.reduceSub, Nat.reduceLeDiff, Int.reduceToNat, Nat.reduceBEq]
          by_cases h4 : (parts s).length = 1
          · rw [ne_f (by omega)]
            simp only [go_sem, reduceCtorEq, Nat.reduceEqDiff, reduceIte, Nat.reduceAdd, Nat.reduceSub, Nat.reduceLeDiff, Int.reduceToNat, Nat.reduceBEq]
            refine of_call (gmatch_snd p s (by omega) (by omega)) ?_
            simp only [go_sem, reduceCtorEq, Nat.reduceEqDiff, reduceIte, Nat.reduceAdd, Nat.reduceSub, Nat.reduceLeDiff, Int.reduceToNat, Nat.reduceBEq]
            refine of_call (gPart_snd p s (by omega) (by omega)) ?_
            rw [single hs h2 h3 h4]
            simp only [go_sem, reduceCtorEq, Nat.reduceEqDiff, reduceIte, Nat.reduceAdd, Nat.reduceSub, Nat.reduceLeDiff, Int.reduceToNat, Nat.reduceBEq]
            refine of_call glives_snd ?_
            simp only [go_sem, reduceCtorEq, Nat.reduceEqDiff, reduceIte, Nat.reduceAdd, Nat.reduceSub, Nat.reduceLeDiff, Int.reduceToNat, Nat.reduceBEq]
          · rw [ne_t (by omega)]
            simp only [go_sem, reduceCtorEq, Nat.reduceEqDiff, reduceIte, Nat.reduceAdd, Nat.reduceSub, Nat.reduceLeDiff, Int.reduceToNat, Nat.reduceBEq]
            refine of_call glives_snd ?_
            simp only [go_sem, reduceCtorEq, Nat.reduceEqDiff, reduceIte, Nat.reduceAdd, Nat.reduceSub, Nat.reduceLeDiff, Int.reduceToNat, Nat.reduceBEq]
        · rw [ne_t (by omega)]
          simp only [go_sem, reduceCtorEq, Nat.reduceEqDiff, reduceIte, Nat.reduceAdd, Nat.reduceSub, Nat.reduceLeDiff, Int.reduceToNat, Nat.reduceBEq]
          refine of_call glives_snd ?_
          simp only [go_sem, reduceCtorEq, Nat.reduceEqDiff, reduceIte, Nat.reduceAdd, Nat.reduceSub, Nat.reduceLeDiff, Int.reduceToNat, Nat.reduceBEq]
end Go.Gb

/- GlobSingle: the card, by the second form. -/
namespace Go.Proofs.YtolghafejibajaaDoor.globSingle
open Go.ChangeShapes Go.WideShapes Go.ChangeAt Go.RowKit
open Go.ChangeMaps (open_string shut_string)
open Go.Ev (X0 old Bs ss TabsAt RelT)
set_option linter.unusedVariables false

theorem contract (H : Type) (enc : TypeId × Value → H) (W : World) (base : Nat) (args : Array Value) (ds gs : List (DataW H)) (before : List MemPlace)
    (hval : ∀ (j : Nat) t v, Tryd.f15.params[j]? = some t → args[j]? = some v → Value.okWide Tryd.prog W .any base t v)
    (hW : DataW.Whole enc Tryd.prog Tryd.f15.params.toList Rows.globSingleSpec.vars false W args.toList ds gs before) (hk : Rows.uptoSmall H (ds ++ gs) = true) (hsh : W.ShapedOpen Tryd.prog) :
    Calls Tryd.prog 15 args W fun e W' => ∃ v, e = .returned v ∧ Rows.globSingleSpec.post enc Tryd.prog Tryd.f15 false true false false W args v W' := by
  refine Ev.contract_law laidOut (by kernel_rfl) rfl (tb := 4) (by kernel_rfl) (by kernel_rfl) Tryd.underlying4 (fun ds hd => ?_) hW ?_
  · rw [Tryd.params15] at hd
    match ds, hd with
    | [d0, d1], _ => rfl
  · obtain ⟨p, q, hA0, hV, rfl, hfz, hnd⟩ := hW
    have hA : DataW.TrodAll enc Tryd.prog W 0 (fun _ => true) true Tryd.f15.params.toList args.toList ds p := hA0
    rw [Tryd.params15] at hA hval
    obtain ⟨v0, vs0, d0, ds0, p0, q0, hargs, rfl, rfl, h0, r0⟩ := trodAll_cons hA
    obtain ⟨v1, vs1, d1, ds1, p1, q1, rfl, rfl, rfl, h1, r1⟩ := trodAll_cons r0
    obtain ⟨rfl, rfl, rfl⟩ := trodAll_nil r1
    obtain rfl : args = #[v0, v1] := by cases args; simp_all
    obtain ⟨rfl, rfl⟩ := trodVars_none hV
    obtain ⟨s0, rfl, rfl, rfl, hmax0⟩ := open_string Tryd.underlying9 (hval 0 9 v0 rfl rfl) h0
    obtain ⟨s1, rfl, rfl, rfl, hmax1⟩ := open_string Tryd.underlying9 (hval 1 9 v1 rfl rfl) h1
    obtain ⟨m, hm⟩ := maxLen_at hsh
    have hb0 := bulk_small hk
    simp only [List.append_nil] at hb0
    have hb1 := bulk_string hb0
    have hb2 := bulk_string (Nat.le_trans (Nat.le_add_left _ _) hb1)
    exact Ev.calls_law (Gb.single_law s0.data.toList s1.data.toList (by omega) (by omega)) (tabs hm) (.cons _ _ _ [] _ _ [] Ev.rel_string (.cons _ _ _ [] _ _ [] Ev.rel_string (.nil _) (fun b hb => (List.not_mem_nil hb).elim)) (fun b hb => (List.not_mem_nil hb).elim))

theorem reads (os : Os) {H : Type} (enc : TypeId × Value → H) : ∃ places, DataW.whole enc Tryd.prog ((laidWorld os).forCall (fun _ _ => 0) ⟨#[], #[.string ⟨#[]⟩, .string ⟨#[]⟩], []⟩).memory Tryd.f15.params.toList Rows.globSingleSpec.vars false #[Value.string ⟨#[]⟩, Value.string ⟨#[]⟩].toList 8 = some ([.lit (.string []), .lit (.string [])], [], places) :=
  ⟨[], by kernel_rfl⟩

set_option maxRecDepth 100000 in
theorem lifted (os : Os) (started : os.Started) (H : Type) (enc : TypeId × Value → H) (F : Stop.Interp) :
    ReturnsInHanded {} Tryd.checked os 15 .any ((Rows.OpenSpec.upto Rows.globSingleSpec).preRow enc Tryd.prog Tryd.f15 Rows.globSingleUptoRow.domain false Rows.globSingleUptoRow.laid) (((Rows.OpenSpec.upto Rows.globSingleSpec).at F).post enc Tryd.prog Tryd.f15 false true false false) := by
  obtain ⟨places, hx⟩ := reads os enc
  refine returnsInHanded_of_row (C := Tryd.checked) (s := Rows.OpenSpec.upto Rows.globSingleSpec) own started (by kernel_rfl) Tryd.func15
    (witness_row_at (enc := enc) (C := Tryd.checked) false (laidWorld os) #[.string ⟨#[]⟩, .string ⟨#[]⟩] rfl (by kernel_rfl) (by kernel_rfl) (by kernel_rfl)
      (OpenSpec.preRow_of_cond 8 hx (by kernel_rfl) (fun k hk => by cases hk; kernel_rfl) (by kernel_rfl) (laid_met os _))) ?_
  intro W base args ds gs before hval hW _ hcond _ hL hsh _
  exact contract H enc W base args ds gs before hval hW (hcond _ rfl) hsh

theorem said : Rows.GlobSingleUptoSaid :=
  OpenClaim.holds_of_cond 15 Tryd.f15 rfl rfl rfl rfl rfl rfl rfl ⟨rfl, rfl, rfl, rfl, rfl⟩ rfl rfl rfl rfl rfl (by kernel_rfl) Tryd.func15 (by kernel_rfl)
    (of_decide_eq_true (by kernel_rfl)) (by unfold Func.isWrapper; first | (rw [if_pos (by decide +kernel)]; kernel_rfl) | (rw [if_neg (by decide +kernel)]; exact ⟨rfl, rfl⟩))
    (fun os started H enc _ F => by rw [OpenClaim.pre_eq_preRow]; exact lifted os started H enc F)

theorem plain (f : FuncId) (fn : Func) (hf : Tryd.pinned.checked.prog.funcNamed "graftage/graftagelaw07.GlobSingle" = some f) (hfn : Tryd.pinned.checked.prog.funcs[f]? = some fn) :
    false = Tryd.pinned.checked.prog.looks [] ∧ ∀ (j : Nat) t, fn.params[j]? = some t → Tryd.pinned.checked.prog.wantsStandIn t = false := by
  obtain rfl : f = 15 := Option.some.inj ((show Tryd.prog.funcNamed "graftage/graftagelaw07.GlobSingle" = some 15 by kernel_rfl).symm.trans hf) |>.symm
  obtain rfl : fn = Tryd.f15 := (Option.some.inj (Tryd.func15.symm.trans hfn)).symm
  refine ⟨by kernel_rfl, fun j t ht => ?_⟩
  rw [Tryd.params15] at ht
  have ht := Array.mem_of_getElem? ht
  simp only [Array.mem_def, List.mem_cons, List.not_mem_nil, or_false] at ht
  rcases ht with rfl | rfl
  · exact (show Tryd.prog.wantsStandIn 9 = false by kernel_rfl)
  · exact (show Tryd.prog.wantsStandIn 9 = false by kernel_rfl)

theorem holds : Rows.GlobSingleUptoCardSaid :=
  Claim7.holds_tied_plain_at .later [] _ _ _ _ said (fun _ h => by cases h) (by kernel_rfl) (fun _ h => by cases h) globSingleUpto_row_tie rfl ⟨rfl, rfl⟩ (by kernel_rfl) rfl plain (by kernel_rfl)
#print axioms holds
end Go.Proofs.YtolghafejibajaaDoor.globSingle

