import Derived.Test.YtolghafejibajaaDoorGbF
import Derived.Test.YtolghafejibajaaDoorGbX
/- GlobLiteral -/
namespace Go.Gb
open Go Go.Ev Go.Proofs
set_option linter.unusedVariables false
set_option linter.unusedSimpArgs false
attribute [local go_sem] eqs implies_true List.map_cons List.map_nil kl klL roD roL Option.map_some Option.map_none Option.getD_some Option.getD_none binVal binObl unVal if_true if_false eq_self passA frnD resD content getH getR getW viaNot viaSlot viaBox viaDeep viaMem List.contains_cons List.contains_nil grabs peeks okCells isCell place cellsOf chunk elt List.headD_cons List.length_cons List.length_nil List.take_succ_cons List.take_zero List.drop_succ_cons List.drop_zero List.nil_append List.cons_append List.append_nil List.all_cons List.all_nil plainC takeR setW over reCell List.getElem?_cons_zero List.getElem?_cons_succ List.set_cons_zero List.take_length outV resG plainV pack outVG outBx List.set_cons_succ Ref.idx Ref.addOff beq_self_eq_true bxL Option.bind_some writeR isLit viaBoxes capsPA boxPA nsOf noDup boxesAt argG passG passD rhoIn rhoOut idxIn tr trL List.getD_cons_zero gives pasOf isPtr Ins.d List.getD_cons_succ resL frnL
variable {m : Int}

theorem toks_plain {x : Ln.Bs} (h : x.any special = false) : toks x = some (x.map .lit) := by
  induction x with
  | nil => exact toks_nil
  | cons b l ih =>
    rw [List.any_cons, Bool.or_eq_false_iff] at h
    have hb := h.1
    simp only [special, Bool.or_eq_false_iff, beq_eq_false_iff_ne] at hb
    have ht : tok (b :: l) = some (.lit b, l) := by
      simp only [tok]
      rw [if_neg hb.2, if_neg hb.1.2, if_neg hb.1.1.2, if_neg hb.1.1.1]
    rw [toks_some ht, ih h.2]; rfl
theorem whole_lits (x : Ln.Bs) : ∀ s : Ln.Bs, whole (x.map .lit) s = (x == s) := by
  induction x with
  | nil => intro s; rw [List.map_nil, whole]; cases s <;> rfl
  | cons b l ih =>
    intro s
    rw [List.map_cons, whole_tok (by simp)]
    cases s with
    | nil => rfl
    | cons c s => simp only [fits, ih]; rfl
theorem M_plain (L : List Ln.Bs) (h : ∀ x, x ∈ L → x.any special = false) : ∀ Y : List Ln.Bs, M L Y = (L == Y) := by
  induction L with
  | nil => intro Y; rw [M_nil]; cases Y <;> rfl
  | cons x L ih =>
    intro Y
    have hx := h x (List.mem_cons_self ..)
    have hd : x ≠ deep := by rintro rfl; revert hx; decide
    cases Y with
    | nil => rw [M_lit_nil hd]; rfl
    | cons y Y =>
      have e : partF x y = (x == y) := by rw [partF, toks_plain hx]; exact whole_lits x y
      rw [M_lit_cons hd, ih (fun z hz => h z (List.mem_cons_of_mem _ hz)), e]; rfl
theorem pieces_any {s x : Ln.Bs} (h : s.any special = false) (hx : x ∈ pieces s) : x.any special = false := by
  induction s generalizing x with
  | nil => simp [pieces] at hx; subst hx; rfl
  | cons c l ih =>
    rw [List.any_cons, Bool.or_eq_false_iff] at h
    simp only [pieces] at hx
    split at hx
    · rcases List.mem_cons.1 hx with rfl | hx
      · rfl
      · exact ih h.2 hx
    · split at hx
      · simp at hx; subst hx; simp [h.1]
      · rename_i y ys hy
        rcases List.mem_cons.1 hx with rfl | hx
        · rw [List.any_cons, h.1, ih h.2 (by rw [hy]; exact List.mem_cons_self ..)]; rfl
        · exact ih h.2 (by rw [hy]; exact List.mem_cons_of_mem _ hx)
def unpiece : List Ln.Bs → Ln.Bs
  | [] => []
  | [x] => x
  | x :: y :: r => x ++ 47 :: unpiece (y :: r)
theorem unpiece_pieces (s : Ln.Bs) : unpiece (pieces s) = s := by
  induction s with
  | nil => rfl
  | cons c l ih =>
    simp only [pieces]
    split
    · rename_i hc
      cases hp : pieces l with
      | nil => exact absurd hp (pieces_ne l)
      | cons x xs => rw [hp] at ih; simp only [unpiece, ih, List.nil_append, hc]
    · cases hp : pieces l with
      | nil => exact absurd hp (pieces_ne l)
      | cons x xs =>
        rw [hp] at ih
        cases xs with
        | nil => simp only [unpiece] at ih ⊢; rw [ih]
        | cons y r => simp only [unpiece, List.cons_append] at ih ⊢; rw [ih]
theorem pieces_inj {a b : Ln.Bs} (h : pieces a = pieces b) : a = b := by rw [← unpiece_pieces a, h, unpiece_pieces]
theorem lit_match {p : Ln.Bs} (h : plainP p = true) (s : Ln.Bs) : matchF p s = (p == s) := by
  simp only [plainP, Bool.and_eq_true, Bool.not_eq_true'] at h
  obtain ⟨⟨h1, h2⟩, h3⟩ := h
  rw [matchF, h1, Bool.true_and]
  by_cases hs : p = s
  · subst hs
    have hp0 : p ≠ [] := by rintro rfl; simp [isPath] at h2
    rw [h2, Bool.true_and, parts, if_neg hp0, M_plain _ (fun x hx => pieces_any h3 hx)]
    simp
  · rw [show (p == s) = false by simpa using hs]
    cases h4 : isPath s with
    | false => rfl
    | true =>
      have hs0 : s ≠ [] := by rintro rfl; simp [isPath] at h4
      rw [Bool.true_and, parts, if_neg hs0, M_plain _ (fun x hx => pieces_any h3 hx)]
      have : pieces p ≠ pieces s := fun e => hs (pieces_inj e)
      simpa using this

def lwLit : AF := ⟨.seq (.reg (.seq [⟨(some (4, true)), none, .mov (.cst (.bool false) (.lit (.bool false))) .asg⟩])) [0, 1] []
  (.seq (.reg (.seq [⟨(some (8, false)), none, .mov (.tmp 0 true) .peek⟩,
      ⟨(some (9, false)), none, .call 33 [(.tmp 8 false)]⟩,
      ⟨(some (7, false)), none, .mov (.tmp 9 false) .peek⟩,
      ⟨(some (10, false)), none, .ext (.tmp 7 false) 0⟩,
      ⟨(some (11, false)), none, .ext (.tmp 7 false) 1⟩,
      ⟨(some (5, true)), none, .mov (.tmp 10 false) .asg⟩,
      ⟨(some (6, true)), none, .mov (.tmp 11 false) .asg⟩])) [0, 1, 5, 6] []
  (.seq (.seq (.reg (.seq [⟨(some (12, false)), none, .mov (.tmp 6 true) .peek⟩,
      ⟨(some (13, false)), none, .un .not (.tmp 12 false)⟩])) [0, 1, 5, 13] []
  (.cond (.tmp 13 false)
    (.seq (.reg (.seq [⟨(some (14, false)), none, .mov (.tmp 5 true) .peek⟩,
      ⟨(some (15, false)), none, .bin .eql (.tmp 14 false) (.cst (.string (str [])) (.lit (.string (str []))))⟩,
      ⟨(some (16, false)), none, .mov (.tmp 15 false) .peek⟩,
      ⟨(some (17, false)), (some (16, true)), .call 32 []⟩,
      ⟨(some (18, false)), none, .pick (.tmp 16 false) (.tmp 17 false) (.cst (.bool false) (.lit (.bool false)))⟩,
      ⟨(some (4, true)), none, .mov (.tmp 18 false) .asg⟩])) [4] []
    (.ret))
    (.skip))) [0, 1, 5] []
  (.seq (.reg (.seq [⟨(some (19, false)), none, .mov (.tmp 5 true) .peek⟩,
      ⟨(some (20, false)), none, .mov (.tmp 0 true) .peek⟩,
      ⟨(some (21, false)), none, .bin .eql (.tmp 19 false) (.tmp 20 false)⟩,
      ⟨(some (22, false)), none, .mov (.tmp 21 false) .peek⟩,
      ⟨(some (23, false)), (some (22, true)), .mov (.tmp 0 true) .peek⟩,
      ⟨(some (24, false)), (some (22, true)), .call 35 [(.tmp 23 false)]⟩,
      ⟨(some (25, false)), none, .pick (.tmp 22 false) (.tmp 24 false) (.cst (.bool false) (.lit (.bool false)))⟩,
      ⟨(some (26, false)), none, .mov (.tmp 25 false) .peek⟩,
      ⟨(some (27, false)), (some (26, true)), .mov (.tmp 0 true) .peek⟩,
      ⟨(some (28, false)), (some (26, true)), .mov (.tmp 0 true) .peek⟩,
      ⟨(some (29, false)), (some (26, true)), .call 38 [(.tmp 27 false), (.tmp 28 false)]⟩,
      ⟨(some (30, false)), none, .pick (.tmp 26 false) (.tmp 29 false) (.cst (.bool false) (.lit (.bool false)))⟩,
      ⟨(some (31, false)), none, .mov (.tmp 30 false) .peek⟩,
      ⟨(some (32, false)), (some (31, true)), .mov (.tmp 0 true) .peek⟩,
      ⟨(some (33, false)), (some (31, true)), .mov (.tmp 1 true) .peek⟩,
      ⟨(some (34, false)), (some (31, true)), .call 38 [(.tmp 32 false), (.tmp 33 false)]⟩,
      ⟨(some (35, false)), (some (31, true)), .mov (.tmp 0 true) .peek⟩,
      ⟨(some (36, false)), (some (31, true)), .mov (.tmp 1 true) .peek⟩,
      ⟨(some (37, false)), (some (31, true)), .bin .eql (.tmp 35 false) (.tmp 36 false)⟩,
      ⟨(some (38, false)), (some (31, true)), .eqb false (.tmp 34 false) (.tmp 37 false)⟩,
      ⟨(some (39, false)), none, .pick (.tmp 31 false) (.tmp 38 false) (.cst (.bool false) (.lit (.bool false)))⟩,
      ⟨(some (40, false)), none, .mov (.tmp 39 false) .peek⟩,
      ⟨(some (41, false)), (some (40, true)), .mov (.tmp 0 true) .peek⟩,
      ⟨(some (42, false)), (some (40, true)), .mov (.tmp 0 true) .peek⟩,
      ⟨(some (43, false)), (some (40, true)), .call 40 [(.tmp 41 false), (.tmp 42 false)]⟩,
      ⟨(some (44, false)), none, .pick (.tmp 40 false) (.tmp 43 false) (.cst (.bool false) (.lit (.bool false)))⟩,
      ⟨(some (45, false)), none, .mov (.tmp 44 false) .peek⟩,
      ⟨(some (46, false)), (some (45, true)), .call 32 []⟩,
      ⟨(some (47, false)), none, .pick (.tmp 45 false) (.tmp 46 false) (.cst (.bool false) (.lit (.bool false)))⟩,
      ⟨(some (4, true)), none, .mov (.tmp 47 false) .asg⟩])) [4] []
  (.ret)))),
  [.tmp 4]⟩
theorem lwLit_comp (m : Int) : compF Tryd.prog (gl m) [] Tryd.f9 = some lwLit := by kernel_rfl
theorem glit_law (p s : Ln.Bs) (lp : p.length ≤ 1048575) (ls : s.length ≤ 1048575) : Snd Tryd.prog (gl m) 9 [S p, S s] (B true) := by
  refine snd_of (fn := Tryd.f9) (af := lwLit) Tryd.func9 (lwLit_comp m) mixed (kn_ok m) (Nat.le_of_ble_eq_true rfl) ?_
  simp only [lwLit, go_sem, reduceCtorEq, Nat.reduceEqDiff, reduceIte, Nat.reduceAdd, Nat.reduceSub, Nat.reduceLeDiff, Int.reduceToNat, Nat.reduceBEq]
  refine of_call (glit_snd p (by omega)) ?_
  cases h : plainP p with
  | false =>
    simp only [unVal, go_sem, reduceCtorEq, Nat.reduceEqDiff, reduceIte, Nat.reduceAdd, Nat.reduceSub, Nat.reduceLeDiff, Int.reduceToNat, Nat.reduceBEq]
    refine of_call glives_snd ?_
    simp only [go_sem, reduceCtorEq, Nat.reduceEqDiff, reduceIte, Nat.reduceAdd, Nat.reduceSub, Nat.reduceLeDiff, Int.reduceToNat, Nat.reduceBEq]
  | true =>
    have hpat : isPat p = true := by simp only [plainP, Bool.and_eq_true] at h; exact h.1.1
    simp only [unVal, go_sem, reduceCtorEq, Nat.reduceEqDiff, reduceIte, Nat.reduceAdd, Nat.reduceSub, Nat.reduceLeDiff, Int.reduceToNat, Nat.reduceBEq]
    refine of_call (gis_snd p (by omega)) ?_
    rw [hpat]
    simp only [go_sem, reduceCtorEq, Nat.reduceEqDiff, reduceIte, Nat.reduceAdd, Nat.reduceSub, Nat.reduceLeDiff, Int.reduceToNat, Nat.reduceBEq]
    refine of_call (gmatch_snd p p (by omega) (by omega)) ?_
    rw [lit_match h p]
    simp only [go_sem, reduceCtorEq, Nat.reduceEqDiff, reduceIte, Nat.reduceAdd, Nat.reduceSub, Nat.reduceLeDiff, Int.reduceToNat, Nat.reduceBEq]
    refine of_call (gmatch_snd p s (by omega) (by omega)) ?_
    rw [lit_match h s]
    simp only [beq_self_eq_true, go_sem, reduceCtorEq, Nat.reduceEqDiff, reduceIte, Nat.reduceAdd, Nat.reduceSub, Nat.reduceLeDiff, Int.reduceToNat, Nat.reduceBEq]
    refine of_call (gcov_snd p p (by omega) (by omega)) ?_
    rw [h, lit_match h p]
    simp only [Bool.true_and, beq_self_eq_true, go_sem, reduceCtorEq, Nat.reduceEqDiff, reduceIte, Nat.reduceAdd, Nat.reduceSub, Nat.reduceLeDiff, Int.reduceToNat, Nat.reduceBEq]
    refine of_call glives_snd ?_
    simp only [go_sem, reduceCtorEq, Nat.reduceEqDiff, reduceIte, Nat.reduceAdd, Nat.reduceSub, Nat.reduceLeDiff, Int.reduceToNat, Nat.reduceBEq]
end Go.Gb

/- GlobLiteral: the card, by the second form. -/
namespace Go.Proofs.YtolghafejibajaaDoor.globLiteral
open Go.ChangeShapes Go.WideShapes Go.ChangeAt Go.RowKit
open Go.ChangeMaps (open_string shut_string)
open Go.Ev (X0 old Bs ss TabsAt RelT)
set_option linter.unusedVariables false

theorem contract (H : Type) (enc : TypeId × Value → H) (W : World) (base : Nat) (args : Array Value) (ds gs : List (DataW H)) (before : List MemPlace)
    (hval : ∀ (j : Nat) t v, Tryd.f9.params[j]? = some t → args[j]? = some v → Value.okWide Tryd.prog W .any base t v)
    (hW : DataW.Whole enc Tryd.prog Tryd.f9.params.toList Rows.globLiteralSpec.vars false W args.toList ds gs before) (hk : Rows.uptoSmall H (ds ++ gs) = true) (hsh : W.ShapedOpen Tryd.prog) :
    Calls Tryd.prog 9 args W fun e W' => ∃ v, e = .returned v ∧ Rows.globLiteralSpec.post enc Tryd.prog Tryd.f9 false true false false W args v W' := by
  refine Ev.contract_law laidOut (by kernel_rfl) rfl (tb := 4) (by kernel_rfl) (by kernel_rfl) Tryd.underlying4 (fun ds hd => ?_) hW ?_
  · rw [Tryd.params9] at hd
    match ds, hd with
    | [d0, d1], _ => rfl
  · obtain ⟨p, q, hA0, hV, rfl, hfz, hnd⟩ := hW
    have hA : DataW.TrodAll enc Tryd.prog W 0 (fun _ => true) true Tryd.f9.params.toList args.toList ds p := hA0
    rw [Tryd.params9] at hA hval
    obtain ⟨v0, vs0, d0, ds0, p0, q0, hargs, rfl, rfl, h0, r0⟩ := trodAll_cons hA
    obtain ⟨v1, vs1, d1, ds1, p1, q1, rfl, rfl, rfl, h1, r1⟩ := trodAll_cons r0
    obtain ⟨rfl, rfl, rfl⟩ := trodAll_nil r1
    obtain rfl : args = #[v0, v1] := by cases args; simp_all
    obtain ⟨rfl, rfl⟩ := trodVars_none hV
    obtain ⟨s0, rfl, rfl, rfl, hmax0⟩ := open_string Tryd.underlying9 (hval 0 9 v0 rfl rfl) h0
    obtain ⟨s1, rfl, rfl, rfl, hmax1⟩ := open_string Tryd.underlying9 (hval 1 9 v1 rfl rfl) h1
    obtain ⟨m, hm⟩ := maxLen_at hsh
    have hb0 := bulk_small hk
    simp only [List.append_nil] at hb0
    have hb1 := bulk_string hb0
    have hb2 := bulk_string (Nat.le_trans (Nat.le_add_left _ _) hb1)
    exact Ev.calls_law (Gb.glit_law s0.data.toList s1.data.toList (by omega) (by omega)) (tabs hm) (.cons _ _ _ [] _ _ [] Ev.rel_string (.cons _ _ _ [] _ _ [] Ev.rel_string (.nil _) (fun b hb => (List.not_mem_nil hb).elim)) (fun b hb => (List.not_mem_nil hb).elim))

theorem reads (os : Os) {H : Type} (enc : TypeId × Value → H) : ∃ places, DataW.whole enc Tryd.prog ((laidWorld os).forCall (fun _ _ => 0) ⟨#[], #[.string ⟨#[]⟩, .string ⟨#[]⟩], []⟩).memory Tryd.f9.params.toList Rows.globLiteralSpec.vars false #[Value.string ⟨#[]⟩, Value.string ⟨#[]⟩].toList 8 = some ([.lit (.string []), .lit (.string [])], [], places) :=
  ⟨[], by kernel_rfl⟩

set_option maxRecDepth 100000 in
theorem lifted (os : Os) (started : os.Started) (H : Type) (enc : TypeId × Value → H) (F : Stop.Interp) :
    ReturnsInHanded {} Tryd.checked os 9 .any ((Rows.OpenSpec.upto Rows.globLiteralSpec).preRow enc Tryd.prog Tryd.f9 Rows.globLiteralUptoRow.domain false Rows.globLiteralUptoRow.laid) (((Rows.OpenSpec.upto Rows.globLiteralSpec).at F).post enc Tryd.prog Tryd.f9 false true false false) := by
  obtain ⟨places, hx⟩ := reads os enc
  refine returnsInHanded_of_row (C := Tryd.checked) (s := Rows.OpenSpec.upto Rows.globLiteralSpec) own started (by kernel_rfl) Tryd.func9
    (witness_row_at (enc := enc) (C := Tryd.checked) false (laidWorld os) #[.string ⟨#[]⟩, .string ⟨#[]⟩] rfl (by kernel_rfl) (by kernel_rfl) (by kernel_rfl)
      (OpenSpec.preRow_of_cond 8 hx (by kernel_rfl) (fun k hk => by cases hk; kernel_rfl) (by kernel_rfl) (laid_met os _))) ?_
  intro W base args ds gs before hval hW _ hcond _ hL hsh _
  exact contract H enc W base args ds gs before hval hW (hcond _ rfl) hsh

theorem said : Rows.GlobLiteralUptoSaid :=
  OpenClaim.holds_of_cond 9 Tryd.f9 rfl rfl rfl rfl rfl rfl rfl ⟨rfl, rfl, rfl, rfl, rfl⟩ rfl rfl rfl rfl rfl (by kernel_rfl) Tryd.func9 (by kernel_rfl)
    (of_decide_eq_true (by kernel_rfl)) (by unfold Func.isWrapper; first | (rw [if_pos (by decide +kernel)]; kernel_rfl) | (rw [if_neg (by decide +kernel)]; exact ⟨rfl, rfl⟩))
    (fun os started H enc _ F => by rw [OpenClaim.pre_eq_preRow]; exact lifted os started H enc F)

theorem plain (f : FuncId) (fn : Func) (hf : Tryd.pinned.checked.prog.funcNamed "graftage/graftagelaw07.GlobLiteral" = some f) (hfn : Tryd.pinned.checked.prog.funcs[f]? = some fn) :
    false = Tryd.pinned.checked.prog.looks [] ∧ ∀ (j : Nat) t, fn.params[j]? = some t → Tryd.pinned.checked.prog.wantsStandIn t = false := by
  obtain rfl : f = 9 := Option.some.inj ((show Tryd.prog.funcNamed "graftage/graftagelaw07.GlobLiteral" = some 9 by kernel_rfl).symm.trans hf) |>.symm
  obtain rfl : fn = Tryd.f9 := (Option.some.inj (Tryd.func9.symm.trans hfn)).symm
  refine ⟨by kernel_rfl, fun j t ht => ?_⟩
  rw [Tryd.params9] at ht
  have ht := Array.mem_of_getElem? ht
  simp only [Array.mem_def, List.mem_cons, List.not_mem_nil, or_false] at ht
  rcases ht with rfl | rfl
  · exact (show Tryd.prog.wantsStandIn 9 = false by kernel_rfl)
  · exact (show Tryd.prog.wantsStandIn 9 = false by kernel_rfl)

theorem holds : Rows.GlobLiteralUptoCardSaid :=
  Claim7.holds_tied_plain_at .later [] _ _ _ _ said (fun _ h => by cases h) (by kernel_rfl) (fun _ h => by cases h) globLiteralUpto_row_tie rfl ⟨rfl, rfl⟩ (by kernel_rfl) rfl plain (by kernel_rfl)
#print axioms holds
end Go.Proofs.YtolghafejibajaaDoor.globLiteral

