import Derived.Test.YtfkggoohajdabaaDoorXX
import Derived.Test.YtfkggoohajdabaaDoorWI
set_option linter.unusedVariables false
set_option linter.unusedSimpArgs false
/- HunkElsewhere: the card, by the second form. -/
namespace Go.Proofs.YtfkggoohajdabaaDoor.hunkElsewhere
open Go.ChangeShapes Go.WideShapes Go.ChangeAt Go.RowKit
open Go.ChangeMaps (open_string shut_string)
open Go.Ev (X0 old Bs ss TabsAt RelT)
set_option linter.unusedVariables false
set_option maxRecDepth 100000 in
theorem contract (H : Type) (enc : TypeId × Value → H) (W : World) (base : Nat) (args : Array Value) (ds gs : List (DataW H)) (before : List MemPlace)
    (hval : ∀ (j : Nat) t v, Tryd.f4.params[j]? = some t → args[j]? = some v → Value.okWide Tryd.prog W .any base t v)
    (hW : DataW.Whole enc Tryd.prog Tryd.f4.params.toList Rows.hunkElsewhereSpec.vars false W args.toList ds gs before) (hk : Rows.uptoSmall H (ds ++ gs) = true) (hL : laidMet Tryd.prog laid W) (hsh : W.ShapedOpen Tryd.prog) :
    Calls Tryd.prog 4 args W fun e W' => ∃ v, e = .returned v ∧ Rows.hunkElsewhereSpec.post enc Tryd.prog Tryd.f4 false true false false W args v W' := by
  refine Ev.contract_law laidOut (by kernel_rfl) rfl (tb := 4) (by kernel_rfl) (by kernel_rfl) Tryd.underlying4 (fun ds hd => ?_) hW ?_
  · rw [Tryd.params4] at hd
    match ds, hd with
    | [d0, d1, d2], _ => rfl
  · obtain ⟨p, q, hA0, hV, rfl, hfz, hnd⟩ := hW
    have hA : DataW.TrodAll enc Tryd.prog W 0 (fun _ => true) true Tryd.f4.params.toList args.toList ds p := hA0
    rw [Tryd.params4] at hA hval
    obtain ⟨v0, vs0, d0, ds0, p0, q0, hargs, rfl, rfl, h0, r0⟩ := trodAll_cons hA
    obtain ⟨v1, vs1, d1, ds1, p1, q1, rfl, rfl, rfl, h1, r1⟩ := trodAll_cons r0
    obtain ⟨v2, vs2, d2, ds2, p2, q2, rfl, rfl, rfl, h2, r2⟩ := trodAll_cons r1
    obtain ⟨rfl, rfl, rfl⟩ := trodAll_nil r2
    obtain rfl : args = #[v0, v1, v2] := by cases args; simp_all
    obtain ⟨rfl, rfl⟩ := trodVars_none hV
    obtain ⟨x0, ok0, kb0, hr0⟩ := Ev.rel_kd ubulk (n := 20) (k := .sl .str) (t := 22) (by kernel_rfl) (hval 0 22 v0 rfl rfl) h0
    simp only [ubulk] at kb0
    obtain ⟨x1, ok1, kb1, hr1⟩ := Ev.rel_kd ubulk (n := 20) (k := .sl .str) (t := 22) (by kernel_rfl) (hval 1 22 v1 rfl rfl) h1
    simp only [ubulk] at kb1
    obtain ⟨x2, ok2, kb2, hr2⟩ := Ev.rel_kd ubulk (n := 20) (k := .sl .str) (t := 22) (by kernel_rfl) (hval 2 22 v2 rfl rfl) h2
    simp only [ubulk] at kb2
    obtain ⟨m, hm⟩ := maxLen_at hsh
    have hb0 := bulk_small hk
    simp only [List.append_nil, Rows.uptoBulkAll, Rows.uptoBulk] at hb0
    exact Ev.calls_law (Hk.pElse_snd x0 x1 x2 (by have := (Hk.strs_kb kb0).1; omega) (by have := (Hk.strs_kb kb1).1; omega) (by have := (Hk.strs_kb kb2).1; omega) (fun y h => Nat.le_trans ((Hk.strs_kb kb0).2 y h) (by omega)) (fun y h => Nat.le_trans ((Hk.strs_kb kb1).2 y h) (by omega))) (tabs hm hL) (.cons _ _ _ [] _ _ [] hr0 (.cons _ _ _ [] _ _ [] hr1 (.cons _ _ _ [] _ _ [] hr2 (.nil _) (fun b hb => (List.not_mem_nil hb).elim)) (fun b hb => (List.not_mem_nil hb).elim)) (fun b hb => (List.not_mem_nil hb).elim))
theorem reads (os : Os) {H : Type} (enc : TypeId × Value → H) : ∃ places, DataW.whole enc Tryd.prog ((laidWorld os).forCall (fun _ _ => 0) ⟨#[], #[.slice none 0 0, .slice none 0 0, .slice none 0 0], []⟩).memory Tryd.f4.params.toList Rows.hunkElsewhereSpec.vars false #[Value.slice none 0 0, Value.slice none 0 0, Value.slice none 0 0].toList 8 = some ([.nil, .nil, .nil], [], places) :=
  ⟨[], by kernel_rfl⟩
set_option maxRecDepth 100000 in
theorem lifted (os : Os) (started : os.Started) (H : Type) (enc : TypeId × Value → H) (F : Stop.Interp) :
    ReturnsInHanded {} Tryd.checked os 4 .any ((Rows.OpenSpec.upto Rows.hunkElsewhereSpec).preRow enc Tryd.prog Tryd.f4 Rows.hunkElsewhereUptoRow.domain false Rows.hunkElsewhereUptoRow.laid) (((Rows.OpenSpec.upto Rows.hunkElsewhereSpec).at F).post enc Tryd.prog Tryd.f4 false true false false) := by
  obtain ⟨places, hx⟩ := reads os enc
  refine returnsInHanded_of_row (C := Tryd.checked) (s := Rows.OpenSpec.upto Rows.hunkElsewhereSpec) own started (by kernel_rfl) Tryd.func4
    (witness_row_at (enc := enc) (C := Tryd.checked) false (laidWorld os) #[.slice none 0 0, .slice none 0 0, .slice none 0 0] rfl (by kernel_rfl) (by kernel_rfl) (by kernel_rfl)
      (OpenSpec.preRow_of_cond 8 hx (by kernel_rfl) (fun k hk => by cases hk; kernel_rfl) (by kernel_rfl) (laid_met os _))) ?_
  intro W base args ds gs before hval hW _ hcond _ hL hsh _
  exact contract H enc W base args ds gs before hval hW (hcond _ rfl) hL hsh
theorem said : Rows.HunkElsewhereUptoSaid :=
  OpenClaim.holds_of_cond 4 Tryd.f4 rfl rfl rfl rfl rfl rfl rfl ⟨rfl, rfl, rfl, rfl, rfl⟩ rfl rfl rfl rfl rfl (by kernel_rfl) Tryd.func4 (by kernel_rfl)
    (of_decide_eq_true (by kernel_rfl)) (by unfold Func.isWrapper; first | (rw [if_pos (by decide +kernel)]; kernel_rfl) | (rw [if_neg (by decide +kernel)]; exact ⟨rfl, rfl⟩))
    (fun os started H enc _ F => by rw [OpenClaim.pre_eq_preRow]; exact lifted os started H enc F)
theorem plain (f : FuncId) (fn : Func) (hf : Tryd.pinned.checked.prog.funcNamed "graftage/graftagelaw10.HunkElsewhere" = some f) (hfn : Tryd.pinned.checked.prog.funcs[f]? = some fn) :
    true = Tryd.pinned.checked.prog.looks [] ∧ ∀ (j : Nat) t, fn.params[j]? = some t → Tryd.pinned.checked.prog.wantsStandIn t = false := by
  obtain rfl : f = 4 := Option.some.inj ((show Tryd.prog.funcNamed "graftage/graftagelaw10.HunkElsewhere" = some 4 by kernel_rfl).symm.trans hf) |>.symm
  obtain rfl : fn = Tryd.f4 := (Option.some.inj (Tryd.func4.symm.trans hfn)).symm
  refine ⟨by kernel_rfl, fun j t ht => ?_⟩
  rw [Tryd.params4] at ht
  have ht := Array.mem_of_getElem? ht
  simp only [Array.mem_def, List.mem_cons, List.not_mem_nil, or_false] at ht
  rcases ht with rfl | rfl | rfl
  · exact (show Tryd.prog.wantsStandIn 22 = false by kernel_rfl)
  · exact (show Tryd.prog.wantsStandIn 22 = false by kernel_rfl)
  · exact (show Tryd.prog.wantsStandIn 22 = false by kernel_rfl)
theorem holds : Rows.HunkElsewhereUptoCardSaid :=
  Claim7.holds_tied_plain_at .later [] _ _ _ _ said (fun _ h => by cases h) (by kernel_rfl) (fun _ h => by cases h) hunkElsewhereUpto_row_tie rfl ⟨rfl, rfl⟩ (by kernel_rfl) rfl plain (by kernel_rfl)
end Go.Proofs.YtfkggoohajdabaaDoor.hunkElsewhere

