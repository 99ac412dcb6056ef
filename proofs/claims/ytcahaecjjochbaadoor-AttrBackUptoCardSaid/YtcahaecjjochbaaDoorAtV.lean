import Derived.Test.YtcahaecjjochbaaDoorAtU
import Derived.Test.YtcahaecjjochbaaDoorEvC
import Derived.Test.YtcahaecjjochbaaDoorAtA
import Derived.LaidSub
import Derived.Test.YtcahaecjjochbaaDoorCards
import Derived.Test.YtcahaecjjochbaaDoorTie
import Derived.WalkKit
import Derived.ProofKit
import Derived.OpenShut
import Derived.Deep.DeepHandedRow
import Derived.Deep.DeepWitnessRowRef
import Derived.Lib.LaidIn
import Derived.Lib.LaidU8
import Derived.Shelf.Vars
set_option linter.unusedVariables false
set_option linter.unusedSimpArgs false
/- Attributes: what is asked of a path: the laws' own functions (Asks, Below, Each). -/
namespace Go.At
open Go Go.Ev Go.Proofs
open Go.Ln (u8b_t u8b_f lines lines_len line_len lf crlf binary)
open Go.Gb (isPath isPat matchF ris_snd)
set_option linter.unusedVariables false
set_option linter.unusedSimpArgs false
set_option maxHeartbeats 2000000
attribute [local go_sem] eqs implies_true List.map_cons List.map_nil kl klL roD roL Option.map_some Option.map_none Option.getD_some Option.getD_none binVal binObl unVal if_true if_false eq_self passA frnD resD content getH getR getW viaNot viaSlot viaBox viaDeep viaMem List.contains_cons List.contains_nil grabs peeks okCells isCell place cellsOf chunk elt List.headD_cons List.length_cons List.length_nil List.take_succ_cons List.take_zero List.drop_succ_cons List.drop_zero List.nil_append List.cons_append List.append_nil List.all_cons List.all_nil plainC takeR setW over reCell List.getElem?_cons_zero List.getElem?_cons_succ List.set_cons_zero List.take_length outV resG plainV pack outVG outBx List.set_cons_succ Ref.idx Ref.addOff beq_self_eq_true bxL Option.bind_some writeR isLit viaBoxes capsPA boxPA nsOf noDup boxesAt argG passG passD rhoIn rhoOut idxIn tr trL List.getD_cons_zero gives pasOf isPtr Ins.d List.getD_cons_succ resL frnL List.getLast?_nil List.getLast?_singleton List.dropLast_singleton List.nil_append frnL_fs roL_fs resL_fs passL_fs klL_fs trL_fs map_roD_fs fs_length
variable {m : Int}
end Go.At
namespace Go.Proofs.YtcahaecjjochbaaDoor
open Go.ChangeShapes Go.WideShapes Go.ChangeAt Go.RowKit
open Go.ChangeMaps (open_string shut_string)
open Go.Ev (X0 old Bs ss TabsAt)
set_option linter.unusedVariables false
theorem own : ownKnob Tryd.prog.godebug = none := by kernel_rfl
theorem laidOut : laidOutB Tryd.prog = true := by kernel_rfl
theorem maxLen_at {W : World} (h : W.ShapedOpen Tryd.prog) : ∃ m, W.cell? ⟨0, 0, none⟩ = some (.int .i64 m) :=
  cell_of_shapedOpen_int (zero := #[.int .i64 0]) (t := 3) h (of_decide_eq_true (by kernel_rfl)) (by kernel_rfl) rfl (by kernel_rfl) (by kernel_rfl) Tryd.underlying3
noncomputable def laidWorld (os : Os) : World :=
  let w0 := World.holding Tryd.prog os ⟨#[], #[], []⟩
  let put (h : Array Obj) (g : Nat) (cs : Array Value) : Array Obj := h.modify g fun
    | .cells _ t frozen => .cells cs t frozen
    | o => o
  let h1 := put w0.heap 1 (Lib.firstTab.map fun z => Value.int .u8 z).toArray
  let h2 := put h1 2 ((List.range 16).flatMap fun i => [Value.int .u8 (Lib.accLo i), Value.int .u8 (Lib.accHi i)]).toArray
  { w0 with heap := h2 }
def laid : List (String × DataW Unit) := [("unicode/utf8.acceptRanges", Rows.laid_unicode_utf8_acceptRanges), ("unicode/utf8.first", Rows.laid_unicode_utf8_first)]
set_option maxRecDepth 100000 in
theorem laid_met (os : Os) (args : Array Value) : laidMet Tryd.prog laid ((laidWorld os).forCall (fun _ _ => 0) ⟨#[], args, []⟩).memory :=
  laidMet_of_run' 8 (by kernel_rfl) (by kernel_rfl)
theorem tabs {W : World} {m : Int} (hm : W.cell? ⟨0, 0, none⟩ = some (.int .i64 m)) (_ : laidMet Tryd.prog laid W) : TabsAt (At.gl m) W (old W) where
  lit g vs hg v hv := by
    simp only [At.gl] at hg
    split at hg
    · injection hg with hg; subst hg; simp at hv; subst hv; exact ⟨rfl, rfl⟩
    · cases hg
  cell g vs hg k v hv := by
    simp only [At.gl] at hg
    split at hg
    · rename_i h0
      injection hg with hg; subst hg; subst h0
      cases k with
      | zero => simp at hv; subst hv; exact ⟨hm, Ev.cell_lt hm⟩
      | succ k => simp at hv
    · cases hg
  size g vs hg hl := by
    simp only [At.gl] at hg
    split at hg
    · injection hg with hg; subst hg; simp at hl
    · cases hg
theorem bulk_small {H : Type} {l : List (DataW H)} (hk : Rows.uptoSmall H l = true) : Rows.uptoBulkAll l ≤ 1048576 := of_decide_eq_true hk
def ubulk {H : Type} : Ev.Bulk H := ⟨Rows.uptoBulk, Rows.uptoBulkAll, fun s => by simp [Rows.uptoBulk], fun k n => by simp [Rows.uptoBulk], fun x => by simp [Rows.uptoBulk], by simp [Rows.uptoBulk], fun e s => by simp [Rows.uptoBulk], fun ps => by simp [Rows.uptoBulk], by simp [Rows.uptoBulkAll], fun d r => by simp [Rows.uptoBulkAll]⟩
end Go.Proofs.YtcahaecjjochbaaDoor
namespace Go.At
open Go Go.Ev
end Go.At

