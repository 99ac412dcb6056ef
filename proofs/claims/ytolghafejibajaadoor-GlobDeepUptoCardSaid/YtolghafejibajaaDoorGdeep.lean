import Derived.Test.YtolghafejibajaaDoorGbD
import Derived.Test.YtolghafejibajaaDoorGbX
/- GlobDeep -/
namespace Go.Gb
open Go Go.Ev Go.Proofs
set_option linter.unusedVariables false
set_option linter.unusedSimpArgs false
attribute [local go_sem] eqs implies_true List.map_cons List.map_nil kl klL roD roL Option.map_some Option.map_none Option.getD_some Option.getD_none binVal binObl unVal if_true if_false eq_self passA frnD resD content getH getR getW viaNot viaSlot viaBox viaDeep viaMem List.contains_cons List.contains_nil grabs peeks okCells isCell place cellsOf chunk elt List.headD_cons List.length_cons List.length_nil List.take_succ_cons List.take_zero List.drop_succ_cons List.drop_zero List.nil_append List.cons_append List.append_nil List.all_cons List.all_nil plainC takeR setW over reCell List.getElem?_cons_zero List.getElem?_cons_succ List.set_cons_zero List.take_length outV resG plainV pack outVG outBx List.set_cons_succ Ref.idx Ref.addOff beq_self_eq_true bxL Option.bind_some writeR isLit viaBoxes capsPA boxPA nsOf noDup boxesAt argG passG passD rhoIn rhoOut idxIn tr trL List.getD_cons_zero gives pasOf isPtr Ins.d List.getD_cons_succ resL frnL
variable {m : Int}

theorem pieces_app (a b : Ln.Bs) : pieces (a ++ [47] ++ b) = pieces a ++ pieces b := by
  induction a with
  | nil => simp [pieces]
  | cons c l ih =>
    have ih' : pieces (l ++ 47 :: b) = pieces l ++ pieces b := by simpa using ih
    simp only [List.cons_append, List.append_assoc, List.nil_append, pieces]
    rw [ih']
    by_cases h : c = 47
    · rw [if_pos h, if_pos h]; rfl
    · rw [if_neg h, if_neg h]
      cases hp : pieces l with
      | nil => exact absurd hp (pieces_ne l)
      | cons x xs => rfl
theorem deep_pat {p : Ln.Bs} (h : isPat p = true) (l : p.length ≤ 200) : isPat ([42, 42, 47] ++ p) = true := by
  have e : pieces ([42, 42, 47] ++ p) = deep :: pieces p := pieces_app [42, 42] p
  simp only [isPat, Bool.and_eq_true, decide_eq_true_eq] at h ⊢
  rw [e, List.all_cons, show good deep = true by decide +kernel]
  simp only [List.length_append, List.length_cons, List.length_nil]
  exact ⟨⟨by omega, by omega⟩, by simpa using h.2⟩
theorem deep_same {p s : Ln.Bs} (h : matchF p s = true) (l : p.length ≤ 200) : matchF ([42, 42, 47] ++ p) s = true := by
  have e : pieces ([42, 42, 47] ++ p) = deep :: pieces p := pieces_app [42, 42] p
  simp only [matchF, Bool.and_eq_true] at h ⊢
  refine ⟨⟨deep_pat h.1.1 l, h.1.2⟩, ?_⟩
  rw [e, M_deep_iff]
  exact ⟨0, by omega, h.2⟩
theorem deep_in {p s d : Ln.Bs} (h : matchF p s = true) (l : p.length ≤ 200) (ht : isPath (d ++ [47] ++ s) = true) : matchF ([42, 42, 47] ++ p) (d ++ [47] ++ s) = true := by
  have e : pieces ([42, 42, 47] ++ p) = deep :: pieces p := pieces_app [42, 42] p
  simp only [matchF, Bool.and_eq_true] at h ⊢
  refine ⟨⟨deep_pat h.1.1 l, ht⟩, ?_⟩
  have hs : s ≠ [] := by rintro rfl; have := h.1.2; simp [isPath] at this
  have hm := h.2
  rw [parts, if_neg hs] at hm
  rw [e, parts, if_neg (by simp), pieces_app, M_deep_iff]
  refine ⟨(pieces d).length, by simp, ?_⟩
  rw [List.drop_left]; exact hm

def lwDeep : AF := ⟨.seq (.reg (.seq [⟨(some (6, true)), none, .mov (.cst (.bool false) (.lit (.bool false))) .asg⟩])) [0, 1, 2] []
  (.seq (.seq (.reg (.seq [⟨(some (8, false)), none, .mov (.tmp 0 true) .peek⟩,
      ⟨(some (9, false)), none, .len (.tmp 8 false)⟩,
      ⟨(some (10, false)), none, .bin .gtr (.tmp 9 false) (.cst (.int .i64 200) (.lit (.int .i64 200)))⟩,
      ⟨(some (11, false)), none, .mov (.tmp 10 false) .peek⟩,
      ⟨(some (12, false)), (some (11, false)), .mov (.tmp 1 true) .peek⟩,
      ⟨(some (13, false)), (some (11, false)), .len (.tmp 12 false)⟩,
      ⟨(some (14, false)), (some (11, false)), .bin .gtr (.tmp 13 false) (.cst (.int .i64 200) (.lit (.int .i64 200)))⟩,
      ⟨(some (15, false)), none, .pick (.tmp 11 false) (.cst (.bool true) (.lit (.bool true))) (.tmp 14 false)⟩,
      ⟨(some (16, false)), none, .mov (.tmp 15 false) .peek⟩,
      ⟨(some (17, false)), (some (16, false)), .mov (.tmp 2 true) .peek⟩,
      ⟨(some (18, false)), (some (16, false)), .len (.tmp 17 false)⟩,
      ⟨(some (19, false)), (some (16, false)), .bin .gtr (.tmp 18 false) (.cst (.int .i64 200) (.lit (.int .i64 200)))⟩,
      ⟨(some (20, false)), none, .pick (.tmp 16 false) (.cst (.bool true) (.lit (.bool true))) (.tmp 19 false)⟩,
      ⟨(some (21, false)), none, .mov (.tmp 20 false) .peek⟩,
      ⟨(some (22, false)), (some (21, false)), .mov (.tmp 0 true) .peek⟩,
      ⟨(some (23, false)), (some (21, false)), .mov (.tmp 1 true) .peek⟩,
      ⟨(some (24, false)), (some (21, false)), .call 38 [(.tmp 22 false), (.tmp 23 false)]⟩,
      ⟨(some (25, false)), (some (21, false)), .un .not (.tmp 24 false)⟩,
      ⟨(some (26, false)), none, .pick (.tmp 21 false) (.cst (.bool true) (.lit (.bool true))) (.tmp 25 false)⟩])) [0, 1, 2, 26] []
  (.cond (.tmp 26 false)
    (.seq (.reg (.seq [⟨(some (27, false)), none, .call 32 []⟩,
      ⟨(some (6, true)), none, .mov (.tmp 27 false) .asg⟩])) [6] []
    (.ret))
    (.skip))) [0, 1, 2] []
  (.seq (.reg (.seq [⟨(some (28, false)), none, .mov (.tmp 2 true) .peek⟩,
      ⟨(some (29, false)), none, .bin .add (.tmp 28 false) (.cst (.string (str [47])) (.lit (.string (str [47]))))⟩,
      ⟨(some (30, false)), none, .mov (.tmp 1 true) .peek⟩,
      ⟨(some (31, false)), none, .bin .add (.tmp 29 false) (.tmp 30 false)⟩,
      ⟨(some (7, true)), none, .mov (.tmp 31 false) .asg⟩])) [0, 1, 7] []
  (.seq (.reg (.seq [⟨(some (32, false)), none, .mov (.tmp 0 true) .peek⟩,
      ⟨(some (33, false)), none, .bin .add (.cst (.string (str [42, 42, 47])) (.lit (.string (str [42, 42, 47])))) (.tmp 32 false)⟩,
      ⟨(some (34, false)), none, .mov (.tmp 1 true) .peek⟩,
      ⟨(some (35, false)), none, .call 38 [(.tmp 33 false), (.tmp 34 false)]⟩,
      ⟨(some (36, false)), none, .mov (.tmp 35 false) .peek⟩,
      ⟨(some (37, false)), (some (36, true)), .mov (.tmp 7 true) .peek⟩,
      ⟨(some (38, false)), (some (36, true)), .call 42 [(.tmp 37 false)]⟩,
      ⟨(some (39, false)), (some (36, true)), .un .not (.tmp 38 false)⟩,
      ⟨(some (40, false)), (some (36, true)), .mov (.tmp 39 false) .peek⟩,
      ⟨(some (41, false)), (some (40, false)), .mov (.tmp 0 true) .peek⟩,
      ⟨(some (42, false)), (some (40, false)), .bin .add (.cst (.string (str [42, 42, 47])) (.lit (.string (str [42, 42, 47])))) (.tmp 41 false)⟩,
      ⟨(some (43, false)), (some (40, false)), .mov (.tmp 7 true) .peek⟩,
      ⟨(some (44, false)), (some (40, false)), .call 38 [(.tmp 42 false), (.tmp 43 false)]⟩,
      ⟨(some (45, false)), (some (36, true)), .pick (.tmp 40 false) (.cst (.bool true) (.lit (.bool true))) (.tmp 44 false)⟩,
      ⟨(some (46, false)), none, .pick (.tmp 36 false) (.tmp 45 false) (.cst (.bool false) (.lit (.bool false)))⟩,
      ⟨(some (47, false)), none, .mov (.tmp 46 false) .peek⟩,
      ⟨(some (48, false)), (some (47, true)), .call 32 []⟩,
      ⟨(some (49, false)), none, .pick (.tmp 47 false) (.tmp 48 false) (.cst (.bool false) (.lit (.bool false)))⟩,
      ⟨(some (6, true)), none, .mov (.tmp 49 false) .asg⟩])) [6] []
  (.ret)))),
  [.tmp 6]⟩
theorem lwDeep_comp (m : Int) : compF Tryd.prog (gl m) [] Tryd.f10 = some lwDeep := by kernel_rfl
theorem deep_law (p s d : Ln.Bs) (lp : p.length ≤ 1048576) (ls : s.length ≤ 1048576) (ld : d.length ≤ 1048576) : Snd Tryd.prog (gl m) 10 [S p, S s, S d] (B true) := by
  refine snd_of (fn := Tryd.f10) (af := lwDeep) Tryd.func10 (lwDeep_comp m) mixed (kn_ok m) (Nat.le_of_ble_eq_true rfl) ?_
  simp only [lwDeep, go_sem, reduceCtorEq, Nat.reduceEqDiff, reduceIte, Nat.reduceAdd, Nat.reduceSub, Nat.reduceLeDiff, Int.reduceToNat, Nat.reduceBEq]
  by_cases h1 : 200 < p.length
  · rw [igt_t (by omega)]
    simp only [go_sem, reduceCtorEq, Nat.reduceEqDiff, reduceIte, Nat.reduceAdd, Nat.reduceSub, Nat.reduceLeDiff, Int.reduceToNat, Nat.reduceBEq]
    refine of_call glives_snd ?_
    simp only [go_sem, reduceCtorEq, Nat.reduceEqDiff, reduceIte, Nat.reduceAdd, Nat.reduceSub, Nat.reduceLeDiff, Int.reduceToNat, Nat.reduceBEq]
  · rw [igt_f (by omega)]
    simp only [go_sem, reduceCtorEq, Nat.reduceEqDiff, reduceIte, Nat.reduceAdd, Nat.reduceSub, Nat.reduceLeDiff, Int.reduceToNat, Nat.reduceBEq]
    by_cases h2 : 200 < s.length
    · rw [igt_t (by omega)]
      simp only [go_sem, reduceCtorEq, Nat.reduceEqDiff, reduceIte, Nat.reduceAdd, Nat.reduceSub, Nat.reduceLeDiff, Int.reduceToNat, Nat.reduceBEq]
      refine of_call glives_snd ?_
      simp only [go_sem, reduceCtorEq, Nat.reduceEqDiff, reduceIte, Nat.reduceAdd, Nat.reduceSub, Nat.reduceLeDiff, Int.reduceToNat, Nat.reduceBEq]
    · rw [igt_f (by omega)]
      simp only [go_sem, reduceCtorEq, Nat.reduceEqDiff, reduceIte, Nat.reduceAdd, Nat.reduceSub, Nat.reduceLeDiff, Int.reduceToNat, Nat.reduceBEq]
      by_cases h3 : 200 < d.length
      · rw [igt_t (by omega)]
        simp only [go_sem, reduceCtorEq, Nat.reduceEqDiff, reduceIte, Nat.reduceAdd, Nat.reduceSub, Nat.reduceLeDiff, Int.reduceToNat, Nat.reduceBEq]
        refine of_call glives_snd ?_
        simp only [go_sem, reduceCtorEq, Nat.reduceEqDiff, reduceIte, Nat.reduceAdd, Nat.reduceSub, Nat.reduceLeDiff, Int.reduceToNat, Nat.reduceBEq]
      · rw [igt_f (by omega)]
        simp only [go_sem, reduceCtorEq, Nat.reduceEqDiff, reduceIte, Nat.reduceAdd, Nat.reduceSub, Nat.reduceLeDiff, Int.reduceToNat, Nat.reduceBEq]
        refine of_call (gmatch_snd p s (by omega) (by omega)) ?_
        cases hm : matchF p s with
        | false =>
          simp only [unVal, go_sem, reduceCtorEq, Nat.reduceEqDiff, reduceIte, Nat.reduceAdd, Nat.reduceSub, Nat.reduceLeDiff, Int.reduceToNat, Nat.reduceBEq]
          refine of_call glives_snd ?_
          simp only [go_sem, reduceCtorEq, Nat.reduceEqDiff, reduceIte, Nat.reduceAdd, Nat.reduceSub, Nat.reduceLeDiff, Int.reduceToNat, Nat.reduceBEq]
        | true =>
          simp only [unVal, go_sem, reduceCtorEq, Nat.reduceEqDiff, reduceIte, Nat.reduceAdd, Nat.reduceSub, Nat.reduceLeDiff, Int.reduceToNat, Nat.reduceBEq]
          repeat (refine ⟨by (try simp only [List.length_append, List.length_cons, List.length_nil]); omega, ?_⟩)
          refine of_call (gmatch_snd (42 :: 42 :: 47 :: p) s (by simp; omega) (by omega)) ?_
          rw [show matchF (42 :: 42 :: 47 :: p) s = true from deep_same hm (by omega)]
          simp only [go_sem, reduceCtorEq, Nat.reduceEqDiff, reduceIte, Nat.reduceAdd, Nat.reduceSub, Nat.reduceLeDiff, Int.reduceToNat, Nat.reduceBEq]
          refine of_call (ris_snd (d ++ [47] ++ s) (by simp; omega)) ?_
          cases ht : isPath (d ++ [47] ++ s) with
          | false =>
            simp only [unVal, go_sem, reduceCtorEq, Nat.reduceEqDiff, reduceIte, Nat.reduceAdd, Nat.reduceSub, Nat.reduceLeDiff, Int.reduceToNat, Nat.reduceBEq]
            refine of_call glives_snd ?_
            simp only [go_sem, reduceCtorEq, Nat.reduceEqDiff, reduceIte, Nat.reduceAdd, Nat.reduceSub, Nat.reduceLeDiff, Int.reduceToNat, Nat.reduceBEq]
          | true =>
            simp only [unVal, go_sem, reduceCtorEq, Nat.reduceEqDiff, reduceIte, Nat.reduceAdd, Nat.reduceSub, Nat.reduceLeDiff, Int.reduceToNat, Nat.reduceBEq]
            repeat (refine ⟨by (try simp only [List.length_append, List.length_cons, List.length_nil]); omega, ?_⟩)
            refine of_call (gmatch_snd (42 :: 42 :: 47 :: p) (d ++ [47] ++ s) (by simp; omega) (by simp; omega)) ?_
            rw [show matchF (42 :: 42 :: 47 :: p) (d ++ [47] ++ s) = true from deep_in hm (by omega) ht]
            simp only [go_sem, reduceCtorEq, Nat.reduceEqDiff, reduceIte, Nat.reduceAdd, Nat.reduceSub, Nat.reduceLeDiff, Int.reduceToNat, Nat.reduceBEq]
            refine of_call glives_snd ?_
            simp only [go_sem, reduceCtorEq, Nat.reduceEqDiff, reduceIte, Nat.reduceAdd, Nat.reduceSub, Nat.reduceLeDiff, Int.reduceToNat, Nat.reduceBEq]
end Go.Gb

/- GlobDeep: the card, by the second form. -/
namespace Go.Proofs.YtolghafejibajaaDoor.globDeep
open Go.ChangeShapes Go.WideShapes Go.ChangeAt Go.RowKit
open Go.ChangeMaps (open_string shut_string)
open Go.Ev (X0 old Bs ss TabsAt RelT)
set_option linter.unusedVariables false

theorem contract (H : Type) (enc : TypeId × Value → H) (W : World) (base : Nat) (args : Array Value) (ds gs : List (DataW H)) (before : List MemPlace)
    (hval : ∀ (j : Nat) t v, Tryd.f10.params[j]? = some t → args[j]? = some v → Value.okWide Tryd.prog W .any base t v)
    (hW : DataW.Whole enc Tryd.prog Tryd.f10.params.toList Rows.globDeepSpec.vars false W args.toList ds gs before) (hk : Rows.uptoSmall H (ds ++ gs) = true) (hsh : W.ShapedOpen Tryd.prog) :
    Calls Tryd.prog 10 args W fun e W' => ∃ v, e = .returned v ∧ Rows.globDeepSpec.post enc Tryd.prog Tryd.f10 false true false false W args v W' := by
  refine Ev.contract_law laidOut (by kernel_rfl) rfl (tb := 4) (by kernel_rfl) (by kernel_rfl) Tryd.underlying4 (fun ds hd => ?_) hW ?_
  · rw [Tryd.params10] at hd
    match ds, hd with
    | [d0, d1, d2], _ => rfl
  · obtain ⟨p, q, hA0, hV, rfl, hfz, hnd⟩ := hW
    have hA : DataW.TrodAll enc Tryd.prog W 0 (fun _ => true) true Tryd.f10.params.toList args.toList ds p := hA0
    rw [Tryd.params10] at hA hval
    obtain ⟨v0, vs0, d0, ds0, p0, q0, hargs, rfl, rfl, h0, r0⟩ := trodAll_cons hA
    obtain ⟨v1, vs1, d1, ds1, p1, q1, rfl, rfl, rfl, h1, r1⟩ := trodAll_cons r0
    obtain ⟨v2, vs2, d2, ds2, p2, q2, rfl, rfl, rfl, h2, r2⟩ := trodAll_cons r1
    obtain ⟨rfl, rfl, rfl⟩ := trodAll_nil r2
    obtain rfl : args = #[v0, v1, v2] := by cases args; simp_all
    obtain ⟨rfl, rfl⟩ := trodVars_none hV
    obtain ⟨s0, rfl, rfl, rfl, hmax0⟩ := open_string Tryd.underlying9 (hval 0 9 v0 rfl rfl) h0
    obtain ⟨s1, rfl, rfl, rfl, hmax1⟩ := open_string Tryd.underlying9 (hval 1 9 v1 rfl rfl) h1
    obtain ⟨s2, rfl, rfl, rfl, hmax2⟩ := open_string Tryd.underlying9 (hval 2 9 v2 rfl rfl) h2
    obtain ⟨m, hm⟩ := maxLen_at hsh
    have hb0 := bulk_small hk
    simp only [List.append_nil] at hb0
    have hb1 := bulk_string hb0
    have hb2 := bulk_string (Nat.le_trans (Nat.le_add_left _ _) hb1)
    have hb3 := bulk_string (Nat.le_trans (Nat.le_add_left _ _) hb2)
    exact Ev.calls_law (Gb.deep_law s0.data.toList s1.data.toList s2.data.toList (by omega) (by omega) (by omega)) (tabs hm) (.cons _ _ _ [] _ _ [] Ev.rel_string (.cons _ _ _ [] _ _ [] Ev.rel_string (.cons _ _ _ [] _ _ [] Ev.rel_string (.nil _) (fun b hb => (List.not_mem_nil hb).elim)) (fun b hb => (List.not_mem_nil hb).elim)) (fun b hb => (List.not_mem_nil hb).elim))

theorem reads (os : Os) {H : Type} (enc : TypeId × Value → H) : ∃ places, DataW.whole enc Tryd.prog ((laidWorld os).forCall (fun _ _ => 0) ⟨#[], #[.string ⟨#[]⟩, .string ⟨#[]⟩, .string ⟨#[]⟩], []⟩).memory Tryd.f10.params.toList Rows.globDeepSpec.vars false #[Value.string ⟨#[]⟩, Value.string ⟨#[]⟩, Value.string ⟨#[]⟩].toList 8 = some ([.lit (.string []), .lit (.string []), .lit (.string [])], [], places) :=
  ⟨[], by kernel_rfl⟩

set_option maxRecDepth 100000 in
theorem lifted (os : Os) (started : os.Started) (H : Type) (enc : TypeId × Value → H) (F : Stop.Interp) :
    ReturnsInHanded {} Tryd.checked os 10 .any ((Rows.OpenSpec.upto Rows.globDeepSpec).preRow enc Tryd.prog Tryd.f10 Rows.globDeepUptoRow.domain false Rows.globDeepUptoRow.laid) (((Rows.OpenSpec.upto Rows.globDeepSpec).at F).post enc Tryd.prog Tryd.f10 false true false false) := by
  obtain ⟨places, hx⟩ := reads os enc
  refine returnsInHanded_of_row (C := Tryd.checked) (s := Rows.OpenSpec.upto Rows.globDeepSpec) own started (by kernel_rfl) Tryd.func10
    (witness_row_at (enc := enc) (C := Tryd.checked) false (laidWorld os) #[.string ⟨#[]⟩, .string ⟨#[]⟩, .string ⟨#[]⟩] rfl (by kernel_rfl) (by kernel_rfl) (by kernel_rfl)
      (OpenSpec.preRow_of_cond 8 hx (by kernel_rfl) (fun k hk => by cases hk; kernel_rfl) (by kernel_rfl) (laid_met os _))) ?_
  intro W base args ds gs before hval hW _ hcond _ hL hsh _
  exact contract H enc W base args ds gs before hval hW (hcond _ rfl) hsh

theorem said : Rows.GlobDeepUptoSaid :=
  OpenClaim.holds_of_cond 10 Tryd.f10 rfl rfl rfl rfl rfl rfl rfl ⟨rfl, rfl, rfl, rfl, rfl⟩ rfl rfl rfl rfl rfl (by kernel_rfl) Tryd.func10 (by kernel_rfl)
    (of_decide_eq_true (by kernel_rfl)) (by unfold Func.isWrapper; first | (rw [if_pos (by decide +kernel)]; kernel_rfl) | (rw [if_neg (by decide +kernel)]; exact ⟨rfl, rfl⟩))
    (fun os started H enc _ F => by rw [OpenClaim.pre_eq_preRow]; exact lifted os started H enc F)

theorem plain (f : FuncId) (fn : Func) (hf : Tryd.pinned.checked.prog.funcNamed "graftage/graftagelaw07.GlobDeep" = some f) (hfn : Tryd.pinned.checked.prog.funcs[f]? = some fn) :
    false = Tryd.pinned.checked.prog.looks [] ∧ ∀ (j : Nat) t, fn.params[j]? = some t → Tryd.pinned.checked.prog.wantsStandIn t = false := by
  obtain rfl : f = 10 := Option.some.inj ((show Tryd.prog.funcNamed "graftage/graftagelaw07.GlobDeep" = some 10 by kernel_rfl).symm.trans hf) |>.symm
  obtain rfl : fn = Tryd.f10 := (Option.some.inj (Tryd.func10.symm.trans hfn)).symm
  refine ⟨by kernel_rfl, fun j t ht => ?_⟩
  rw [Tryd.params10] at ht
  have ht := Array.mem_of_getElem? ht
  simp only [Array.mem_def, List.mem_cons, List.not_mem_nil, or_false] at ht
  rcases ht with rfl | rfl | rfl
  · exact (show Tryd.prog.wantsStandIn 9 = false by kernel_rfl)
  · exact (show Tryd.prog.wantsStandIn 9 = false by kernel_rfl)
  · exact (show Tryd.prog.wantsStandIn 9 = false by kernel_rfl)

theorem holds : Rows.GlobDeepUptoCardSaid :=
  Claim7.holds_tied_plain_at .later [] _ _ _ _ said (fun _ h => by cases h) (by kernel_rfl) (fun _ h => by cases h) globDeepUpto_row_tie rfl ⟨rfl, rfl⟩ (by kernel_rfl) rfl plain (by kernel_rfl)
#print axioms holds
end Go.Proofs.YtolghafejibajaaDoor.globDeep

