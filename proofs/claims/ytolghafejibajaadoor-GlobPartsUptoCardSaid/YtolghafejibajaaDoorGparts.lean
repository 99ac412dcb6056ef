import Derived.Test.YtolghafejibajaaDoorGbE
import Derived.Test.YtolghafejibajaaDoorGbX
/- GlobParts -/
namespace Go.Gb
open Go Go.Ev Go.Proofs
set_option linter.unusedVariables false
set_option linter.unusedSimpArgs false
attribute [local go_sem] eqs implies_true List.map_cons List.map_nil kl klL roD roL Option.map_some Option.map_none Option.getD_some Option.getD_none binVal binObl unVal if_true if_false eq_self passA frnD resD content getH getR getW viaNot viaSlot viaBox viaDeep viaMem List.contains_cons List.contains_nil grabs peeks okCells isCell place cellsOf chunk elt List.headD_cons List.length_cons List.length_nil List.take_succ_cons List.take_zero List.drop_succ_cons List.drop_zero List.nil_append List.cons_append List.append_nil List.all_cons List.all_nil plainC takeR setW over reCell List.getElem?_cons_zero List.getElem?_cons_succ List.set_cons_zero List.take_length outV resG plainV pack outVG outBx List.set_cons_succ Ref.idx Ref.addOff beq_self_eq_true bxL Option.bind_some writeR isLit viaBoxes capsPA boxPA nsOf noDup boxesAt argG passG passD rhoIn rhoOut idxIn tr trL List.getD_cons_zero gives pasOf isPtr Ins.d List.getD_cons_succ resL frnL
variable {m : Int}

def lwParts : AF := ⟨.seq (.reg (.seq [⟨(some (4, true)), none, .mov (.cst (.bool false) (.lit (.bool false))) .asg⟩])) [0, 1] []
  (.seq (.seq (.reg (.seq [⟨(some (5, false)), none, .mov (.tmp 0 true) .peek⟩,
      ⟨(some (6, false)), none, .mov (.tmp 1 true) .peek⟩,
      ⟨(some (7, false)), none, .call 37 [(.tmp 5 false), (.tmp 6 false)]⟩,
      ⟨(some (8, false)), none, .un .not (.tmp 7 false)⟩])) [0, 1, 8] []
  (.cond (.tmp 8 false)
    (.seq (.reg (.seq [⟨(some (9, false)), none, .call 32 []⟩,
      ⟨(some (4, true)), none, .mov (.tmp 9 false) .asg⟩])) [4] []
    (.ret))
    (.skip))) [0, 1] []
  (.seq (.reg (.seq [⟨(some (10, false)), none, .mov (.tmp 0 true) .peek⟩,
      ⟨(some (11, false)), none, .mov (.tmp 1 true) .peek⟩,
      ⟨(some (12, false)), none, .call 47 [(.tmp 10 false), (.tmp 11 false)]⟩,
      ⟨(some (13, false)), none, .mov (.tmp 0 true) .peek⟩,
      ⟨(some (14, false)), none, .mov (.tmp 1 true) .peek⟩,
      ⟨(some (15, false)), none, .call 48 [(.tmp 13 false), (.tmp 14 false)]⟩,
      ⟨(some (16, false)), none, .eqb false (.tmp 12 false) (.tmp 15 false)⟩,
      ⟨(some (17, false)), none, .mov (.tmp 16 false) .peek⟩,
      ⟨(some (18, false)), (some (17, true)), .call 32 []⟩,
      ⟨(some (19, false)), none, .pick (.tmp 17 false) (.tmp 18 false) (.cst (.bool false) (.lit (.bool false)))⟩,
      ⟨(some (4, true)), none, .mov (.tmp 19 false) .asg⟩])) [4] []
  (.ret))),
  [.tmp 4]⟩
theorem lwParts_comp (m : Int) : compF Tryd.prog (gl m) [] Tryd.f13 = some lwParts := by kernel_rfl
theorem gparts_law (p s : Ln.Bs) (lp : p.length ≤ 1048575) (ls : s.length ≤ 1048575) : Snd Tryd.prog (gl m) 13 [S p, S s] (B true) := by
  refine snd_of (fn := Tryd.f13) (af := lwParts) Tryd.func13 (lwParts_comp m) mixed (kn_ok m) (Nat.le_of_ble_eq_true rfl) ?_
  simp only [lwParts, go_sem, reduceCtorEq, Nat.reduceEqDiff, reduceIte, Nat.reduceAdd, Nat.reduceSub, Nat.reduceLeDiff, Int.reduceToNat, Nat.reduceBEq]
  refine of_call (few_snd p s) ?_
  cases hf : (decide (p.length ≤ 14) && decide (s.length ≤ 14)) with
  | false =>
    simp only [unVal, go_sem, reduceCtorEq, Nat.reduceEqDiff, reduceIte, Nat.reduceAdd, Nat.reduceSub, Nat.reduceLeDiff, Int.reduceToNat, Nat.reduceBEq]
    refine of_call glives_snd ?_
    simp only [go_sem, reduceCtorEq, Nat.reduceEqDiff, reduceIte, Nat.reduceAdd, Nat.reduceSub, Nat.reduceLeDiff, Int.reduceToNat, Nat.reduceBEq]
  | true =>
    simp only [unVal, go_sem, reduceCtorEq, Nat.reduceEqDiff, reduceIte, Nat.reduceAdd, Nat.reduceSub, Nat.reduceLeDiff, Int.reduceToNat, Nat.reduceBEq]
    refine of_call (gPart_snd p s (by omega) (by omega)) ?_
    simp only [go_sem, reduceCtorEq, Nat.reduceEqDiff, reduceIte, Nat.reduceAdd, Nat.reduceSub, Nat.reduceLeDiff, Int.reduceToNat, Nat.reduceBEq]
    refine of_call (r7part_snd p s (by omega) (by omega)) ?_
    simp only [beq_self_eq_true, go_sem, reduceCtorEq, Nat.reduceEqDiff, reduceIte, Nat.reduceAdd, Nat.reduceSub, Nat.reduceLeDiff, Int.reduceToNat, Nat.reduceBEq]
    refine of_call glives_snd ?_
    simp only [go_sem, reduceCtorEq, Nat.reduceEqDiff, reduceIte, Nat.reduceAdd, Nat.reduceSub, Nat.reduceLeDiff, Int.reduceToNat, Nat.reduceBEq]
end Go.Gb

/- GlobParts: the card, by the second form. -/
namespace Go.Proofs.YtolghafejibajaaDoor.globParts
open Go.ChangeShapes Go.WideShapes Go.ChangeAt Go.RowKit
open Go.ChangeMaps (open_string shut_string)
open Go.Ev (X0 old Bs ss TabsAt RelT)
set_option linter.unusedVariables false

theorem contract (H : Type) (enc : TypeId × Value → H) (W : World) (base : Nat) (args : Array Value) (ds gs : List (DataW H)) (before : List MemPlace)
    (hval : ∀ (j : Nat) t v, Tryd.f13.params[j]? = some t → args[j]? = some v → Value.okWide Tryd.prog W .any base t v)
    (hW : DataW.Whole enc Tryd.prog Tryd.f13.params.toList Rows.globPartsSpec.vars false W args.toList ds gs before) (hk : Rows.uptoSmall H (ds ++ gs) = true) (hsh : W.ShapedOpen Tryd.prog) :
    Calls Tryd.prog 13 args W fun e W' => ∃ v, e = .returned v ∧ Rows.globPartsSpec.post enc Tryd.prog Tryd.f13 false true false false W args v W' := by
  refine Ev.contract_law laidOut (by kernel_rfl) rfl (tb := 4) (by kernel_rfl) (by kernel_rfl) Tryd.underlying4 (fun ds hd => ?_) hW ?_
  · rw [Tryd.params13] at hd
    match ds, hd with
    | [d0, d1], _ => rfl
  · obtain ⟨p, q, hA0, hV, rfl, hfz, hnd⟩ := hW
    have hA : DataW.TrodAll enc Tryd.prog W 0 (fun _ => true) true Tryd.f13.params.toList args.toList ds p := hA0
    rw [Tryd.params13] at hA hval
    obtain ⟨v0, vs0, d0, ds0, p0, q0, hargs, rfl, rfl, h0, r0⟩ := trodAll_cons hA
    obtain ⟨v1, vs1, d1, ds1, p1, q1, rfl, rfl, rfl, h1, r1⟩ := trodAll_cons r0
    obtain ⟨rfl, rfl, rfl⟩ := trodAll_nil r1
    obtain rfl : args = #[v0, v1] := by cases args; simp_all
    obtain ⟨rfl, rfl⟩ := trodVars_none hV
    obtain ⟨s0, rfl, rfl, rfl, hmax0⟩ := open_string Tryd.underlying9 (hval 0 9 v0 rfl rfl) h0
    obtain ⟨s1, rfl, rfl, rfl, hmax1⟩ := open_string Tryd.underlying9 (hval 1 9 v1 rfl rfl) h1
    obtain ⟨m, hm⟩ := maxLen_at hsh
    have hb0 := bulk_small hk
    simp only [List.append_nil] at hb0
    have hb1 := bulk_string hb0
    have hb2 := bulk_string (Nat.le_trans (Nat.le_add_left _ _) hb1)
    exact Ev.calls_law (Gb.gparts_law s0.data.toList s1.data.toList (by omega) (by omega)) (tabs hm) (.cons _ _ _ [] _ _ [] Ev.rel_string (.cons _ _ _ [] _ _ [] Ev.rel_string (.nil _) (fun b hb => (List.not_mem_nil hb).elim)) (fun b hb => (List.not_mem_nil hb).elim))

theorem reads (os : Os) {H : Type} (enc : TypeId × Value → H) : ∃ places, DataW.whole enc Tryd.prog ((laidWorld os).forCall (fun _ _ => 0) ⟨#[], #[.string ⟨#[]⟩, .string ⟨#[]⟩], []⟩).memory Tryd.f13.params.toList Rows.globPartsSpec.vars false #[Value.string ⟨#[]⟩, Value.string ⟨#[]⟩].toList 8 = some ([.lit (.string []), .lit (.string [])], [], places) :=
  ⟨[], by kernel_rfl⟩

set_option maxRecDepth 100000 in
theorem lifted (os : Os) (started : os.Started) (H : Type) (enc : TypeId × Value → H) (F : Stop.Interp) :
    ReturnsInHanded {} Tryd.checked os 13 .any ((Rows.OpenSpec.upto Rows.globPartsSpec).preRow enc Tryd.prog Tryd.f13 Rows.globPartsUptoRow.domain false Rows.globPartsUptoRow.laid) (((Rows.OpenSpec.upto Rows.globPartsSpec).at F).post enc Tryd.prog Tryd.f13 false true false false) := by
  obtain ⟨places, hx⟩ := reads os enc
  refine returnsInHanded_of_row (C := Tryd.checked) (s := Rows.OpenSpec.upto Rows.globPartsSpec) own started (by kernel_rfl) Tryd.func13
    (witness_row_at (enc := enc) (C := Tryd.checked) false (laidWorld os) #[.string ⟨#[]⟩, .string ⟨#[]⟩] rfl (by kernel_rfl) (by kernel_rfl) (by kernel_rfl)
      (OpenSpec.preRow_of_cond 8 hx (by kernel_rfl) (fun k hk => by cases hk; kernel_rfl) (by kernel_rfl) (laid_met os _))) ?_
  intro W base args ds gs before hval hW _ hcond _ hL hsh _
  exact contract H enc W base args ds gs before hval hW (hcond _ rfl) hsh

theorem said : Rows.GlobPartsUptoSaid :=
  OpenClaim.holds_of_cond 13 Tryd.f13 rfl rfl rfl rfl rfl rfl rfl ⟨rfl, rfl, rfl, rfl, rfl⟩ rfl rfl rfl rfl rfl (by kernel_rfl) Tryd.func13 (by kernel_rfl)
    (of_decide_eq_true (by kernel_rfl)) (by unfold Func.isWrapper; first | (rw [if_pos (by decide +kernel)]; kernel_rfl) | (rw [if_neg (by decide +kernel)]; exact ⟨rfl, rfl⟩))
    (fun os started H enc _ F => by rw [OpenClaim.pre_eq_preRow]; exact lifted os started H enc F)

theorem plain (f : FuncId) (fn : Func) (hf : Tryd.pinned.checked.prog.funcNamed "graftage/graftagelaw07.GlobParts" = some f) (hfn : Tryd.pinned.checked.prog.funcs[f]? = some fn) :
    false = Tryd.pinned.checked.prog.looks [] ∧ ∀ (j : Nat) t, fn.params[j]? = some t → Tryd.pinned.checked.prog.wantsStandIn t = false := by
  obtain rfl : f = 13 := Option.some.inj ((show Tryd.prog.funcNamed "graftage/graftagelaw07.GlobParts" = some 13 by kernel_rfl).symm.trans hf) |>.symm
  obtain rfl : fn = Tryd.f13 := (Option.some.inj (Tryd.func13.symm.trans hfn)).symm
  refine ⟨by kernel_rfl, fun j t ht => ?_⟩
  rw [Tryd.params13] at ht
  have ht := Array.mem_of_getElem? ht
  simp only [Array.mem_def, List.mem_cons, List.not_mem_nil, or_false] at ht
  rcases ht with rfl | rfl
  · exact (show Tryd.prog.wantsStandIn 9 = false by kernel_rfl)
  · exact (show Tryd.prog.wantsStandIn 9 = false by kernel_rfl)

theorem holds : Rows.GlobPartsUptoCardSaid :=
  Claim7.holds_tied_plain_at .later [] _ _ _ _ said (fun _ h => by cases h) (by kernel_rfl) (fun _ h => by cases h) globPartsUpto_row_tie rfl ⟨rfl, rfl⟩ (by kernel_rfl) rfl plain (by kernel_rfl)
#print axioms holds
end Go.Proofs.YtolghafejibajaaDoor.globParts

