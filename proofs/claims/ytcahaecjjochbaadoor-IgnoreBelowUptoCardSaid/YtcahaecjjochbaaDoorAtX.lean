import Derived.Test.YtcahaecjjochbaaDoorEvC
import Derived.Test.YtcahaecjjochbaaDoorAtA
import Derived.LaidSub
import Derived.Test.YtcahaecjjochbaaDoorCards
import Derived.Test.YtcahaecjjochbaaDoorTie
import Derived.WalkKit
import Derived.ProofKit
import Derived.OpenShut
import Derived.Deep.DeepHandedRow
import Derived.Deep.DeepWitnessRowRef
import Derived.Lib.LaidIn
import Derived.Lib.LaidU8
import Derived.Shelf.Vars
import Derived.Test.YtcahaecjjochbaaDoorAtF
set_option linter.unusedVariables false
set_option linter.unusedSimpArgs false
/- The seat's world for the witness, and what the rows' premises give. -/
namespace Go.Proofs.YtcahaecjjochbaaDoor
open Go.ChangeShapes Go.WideShapes Go.ChangeAt Go.RowKit
open Go.ChangeMaps (open_string shut_string)
open Go.Ev (X0 old Bs ss TabsAt)
set_option linter.unusedVariables false
theorem own : ownKnob Tryd.prog.godebug = none := by kernel_rfl
theorem laidOut : laidOutB Tryd.prog = true := by kernel_rfl
theorem maxLen_at {W : World} (h : W.ShapedOpen Tryd.prog) : ∃ m, W.cell? ⟨0, 0, none⟩ = some (.int .i64 m) :=
  cell_of_shapedOpen_int (zero := #[.int .i64 0]) (t := 3) h (of_decide_eq_true (by kernel_rfl)) (by kernel_rfl) rfl (by kernel_rfl) (by kernel_rfl) Tryd.underlying3
/-- the settled world, the two tables holding what their initialisers lay -/
noncomputable def laidWorld (os : Os) : World :=
  let w0 := World.holding Tryd.prog os ⟨#[], #[], []⟩
  let put (h : Array Obj) (g : Nat) (cs : Array Value) : Array Obj := h.modify g fun
    | .cells _ t frozen => .cells cs t frozen
    | o => o
  let h1 := put w0.heap 1 (Lib.firstTab.map fun z => Value.int .u8 z).toArray
  let h2 := put h1 2 ((List.range 16).flatMap fun i => [Value.int .u8 (Lib.accLo i), Value.int .u8 (Lib.accHi i)]).toArray
  { w0 with heap := h2 }
def laid : List (String × DataW Unit) := [("unicode/utf8.acceptRanges", Rows.laid_unicode_utf8_acceptRanges), ("unicode/utf8.first", Rows.laid_unicode_utf8_first)]
set_option maxRecDepth 100000 in
theorem laid_met (os : Os) (args : Array Value) : laidMet Tryd.prog laid ((laidWorld os).forCall (fun _ _ => 0) ⟨#[], args, []⟩).memory :=
  laidMet_of_run' 8 (by kernel_rfl) (by kernel_rfl)
theorem tabs {W : World} {m : Int} (hm : W.cell? ⟨0, 0, none⟩ = some (.int .i64 m)) (_ : laidMet Tryd.prog laid W) : TabsAt (At.gl m) W (old W) where
  lit g vs hg v hv := by
    simp only [At.gl] at hg
    split at hg
    · injection hg with hg; subst hg; simp at hv; subst hv; exact ⟨rfl, rfl⟩
    · cases hg
  cell g vs hg k v hv := by
    simp only [At.gl] at hg
    split at hg
    · rename_i h0
      injection hg with hg; subst hg; subst h0
      cases k with
      | zero => simp at hv; subst hv; exact ⟨hm, Ev.cell_lt hm⟩
      | succ k => simp at hv
    · cases hg
  size g vs hg hl := by
    simp only [At.gl] at hg
    split at hg
    · injection hg with hg; subst hg; simp at hl
    · cases hg
theorem bulk_small {H : Type} {l : List (DataW H)} (hk : Rows.uptoSmall H l = true) : Rows.uptoBulkAll l ≤ 1048576 := of_decide_eq_true hk
def ubulk {H : Type} : Ev.Bulk H := ⟨Rows.uptoBulk, Rows.uptoBulkAll, fun s => by simp [Rows.uptoBulk], fun k n => by simp [Rows.uptoBulk], fun x => by simp [Rows.uptoBulk], by simp [Rows.uptoBulk], fun e s => by simp [Rows.uptoBulk], fun ps => by simp [Rows.uptoBulk], by simp [Rows.uptoBulkAll], fun d r => by simp [Rows.uptoBulkAll]⟩
end Go.Proofs.YtcahaecjjochbaaDoor
/- From the rows' measure of size to the laws' bounds. -/
namespace Go.At
open Go Go.Ev
theorem ksum_mem {α : Type} (f : α → Nat) {x : α} : ∀ {l : List α}, x ∈ l → f x ≤ ksum f l
  | y :: l, h => by
    simp only [ksum]
    rcases List.mem_cons.1 h with rfl | h
    · omega
    · have := ksum_mem f h; omega
theorem ksum_len {α : Type} (f : α → Nat) (hf : ∀ x, 1 ≤ f x) : ∀ l : List α, l.length ≤ ksum f l
  | [] => Nat.zero_le _
  | y :: l => by
    have := hf y; have := ksum_len f hf l
    simp only [ksum, List.length_cons]; omega
def kR : Kd := .st (.pr .str (.pr .str (.pr .bool (.pr .bool .bool))))
theorem okRules_kb {l : List Rule} {n : Nat} (h : kb (.sl kR) l ≤ n) (hn : n ≤ 1048576) : okRules l := by
  have h : ksum (fun v : Rule => kb kR v) l + 1 ≤ n := h
  have e : ∀ r : Rule, kb kR r = r.1.length + 1 + (r.2.1.length + 1 + (1 + (1 + 1))) + 1 := fun r => rfl
  refine ⟨?_, fun r hr => ?_⟩
  · have := ksum_len (fun v : Rule => kb kR v) (fun r => by show 1 ≤ kb kR r; rw [e]; omega) l
    omega
  · have := ksum_mem (fun v : Rule => kb kR v) hr
    have h2 : kb kR r ≤ ksum (fun v : Rule => kb kR v) l := this
    rw [e] at h2
    constructor <;> omega
end Go.At

