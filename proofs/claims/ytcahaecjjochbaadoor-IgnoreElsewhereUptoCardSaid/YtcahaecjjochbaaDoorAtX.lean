import Derived.Test.YtcahaecjjochbaaDoorEvC
import Derived.Test.YtcahaecjjochbaaDoorAtA
import Derived.LaidSub
import Derived.Test.YtcahaecjjochbaaDoorCards
import Derived.Test.YtcahaecjjochbaaDoorTie
import Derived.WalkKit
import Derived.ProofKit
import Derived.OpenShut
import Derived.Deep.DeepHandedRow
import Derived.Deep.DeepWitnessRowRef
import Derived.Lib.LaidIn
import Derived.Lib.LaidU8
import Derived.Shelf.Vars
import Derived.Test.YtcahaecjjochbaaDoorAtF
set_option linter.unusedVariables false
set_option linter.unusedSimpArgs false
/- The seat's world for the witness, and what the rows' premises give. -/
namespace Go.Proofs.YtcahaecjjochbaaDoor
open Go.ChangeShapes Go.WideShapes Go.ChangeAt Go.RowKit
open Go.ChangeMaps (open_string shut_string)
open Go.Ev (X0 old Bs ss TabsAt)
set_option linter.unusedVariables false
theorem own : ownKnob Tryd.prog.godebug = none := by kernel_rfl
theorem laidOut : laidOutB Tryd.prog = true := by kernel_rfl
theorem maxLen_at {W : World} (h : W.ShapedOpen Tryd.prog) : ∃ m, W.cell? ⟨0, 0, none⟩ = some (.int .i64 m) :=
  cell_of_shapedOpen_int (zero := #[.int .i64 0]) (t := 3) h (of_decide_eq_true (by kernel_rfl)) (by kernel_rfl) rfl (by kernel_rfl) (by kernel_rfl) Tryd.underlying3
/-- the settled world, the two tables holding what their initialisers lay -/
noncomputable def laidWorld (os : Os) : World :=
  let w0 := World.holding Tryd.prog os ⟨#[], #[], []⟩
  let put (h : Array Obj) (g : Nat) (cs : Array Value) : Array Obj := h.modify g fun
    | .cells _ t frozen => .cells cs t frozen
    | o => o
  let h1 := put w0.heap 1 (Lib.firstTab.map fun z => Value.int .u8 z).toArray
  let h2 := put h1 2 ((List.range 16).flatMap fun i => [Value.int .u8 (Lib.accLo i), Value.int .u8 (Lib.accHi i)]).toArray
  { w0 with heap := h2 }
def laid : List (String × DataW Unit) := [("unicode/utf8.acceptRanges", Rows.laid_unicode_utf8_acceptRanges), ("unicode/utf8.first", Rows.laid_unicode_utf8_first)]
set_option maxRecDepth 100000 in
theorem laid_met (os : Os) (args : Array Value) : laidMet Tryd.prog laid ((laidWorld os).forCall (fun _ _ => 0) ⟨#[], args, []⟩).memory :=
  laidMet_of_run' 8 (by kernel_rfl) (by kernel_rfl)
theorem tabs {W : World} {m : Int} (hm : W.cell? ⟨0, 0, none⟩ = some (.int .i64 m)) (_ : laidMet Tryd.prog laid W) : TabsAt (At.gl m) W (old W) where
  lit g vs hg v hv := by
    simp only [At.gl] at hg
    split at hg
    · injection hg with hg; subst hg; simp at hv; subst hv; exact ⟨rfl, rfl⟩
    · cases hg
  cell g vs hg k v hv := by
    simp only [At.gl] at hg
    split at hg
    · rename_i h0
      injection hg with hg; subst hg; subst h0
      cases k with
      | zero => simp at hv; subst hv; exact ⟨hm, Ev.cell_lt hm⟩
      | succ k => simp at hv
    · cases hg
  size g vs hg hl := by
    simp only [At.gl] at hg
    split at hg
    · injection hg with hg; subst hg; simp at hl
    · cases hg
theorem bulk_small {H : Type} {l : List (DataW H)} (hk : Rows.uptoSmall H l = true) : Rows.uptoBulkAll l ≤ 1048576 := of_decide_eq_true hk
end Go.Proofs.YtcahaecjjochbaaDoor
/- From the rows' measure of size to the laws' bounds. -/
namespace Go.At
open Go Go.Ev
end Go.At

