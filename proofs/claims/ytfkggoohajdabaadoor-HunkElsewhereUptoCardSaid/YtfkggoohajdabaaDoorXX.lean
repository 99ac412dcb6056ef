import Derived.Test.YtfkggoohajdabaaDoorEvC
import Derived.Test.YtfkggoohajdabaaDoorWA
import Derived.Test.YtfkggoohajdabaaDoorCards
import Derived.Test.YtfkggoohajdabaaDoorTie
import Derived.WalkKit
import Derived.ProofKit
import Derived.OpenShut
import Derived.Deep.DeepHandedRow
import Derived.Deep.DeepWitnessRowRef
import Derived.Lib.LaidTab
import Derived.LaidSub
import Derived.Shelf.Vars
import Derived.Test.YtfkggoohajdabaaDoorWB
import Derived.Test.YtfkggoohajdabaaDoorPA
set_option linter.unusedVariables false
set_option linter.unusedSimpArgs false
/- The seat's world for the witness, and what the rows' premises give. -/
namespace Go.Proofs.YtfkggoohajdabaaDoor
open Go.ChangeShapes Go.WideShapes Go.ChangeAt Go.RowKit
open Go.ChangeMaps (open_string shut_string)
open Go.Ev (X0 old Bs ss TabsAt)
set_option linter.unusedVariables false
theorem own : ownKnob Tryd.prog.godebug = none := by kernel_rfl
theorem laidOut : laidOutB Tryd.prog = true := by kernel_rfl
theorem maxLen_at {W : World} (h : W.ShapedOpen Tryd.prog) : ∃ m, W.cell? ⟨0, 0, none⟩ = some (.int .i64 m) :=
  cell_of_shapedOpen_int (zero := #[.int .i64 0]) (t := 3) h (of_decide_eq_true (by kernel_rfl)) (by kernel_rfl) rfl (by kernel_rfl) (by kernel_rfl) Tryd.underlying3
def numbers : DataW Unit → Array Value
  | .agg l => (l.filterMap fun | .lit (.int k n) => some (Value.int k n) | _ => none).toArray
  | _ => #[]
def putAt (h : Array Obj) (g : Nat) (cs : Array Value) : Array Obj := h.modify g fun
  | .cells _ t frozen => .cells cs t frozen
  | o => o
noncomputable def laidWorld (os : Os) : World :=
  let w0 := World.holding Tryd.prog os ⟨#[], #[], []⟩
  let h1 := putAt w0.heap 1 (numbers Rows.laid_internal_strconv_uint64pow10)
  let h2 := putAt h1 4 (numbers Rows.laid_math_bits_deBruijn32tab)
  let h3 := putAt h2 5 (numbers Rows.laid_math_bits_deBruijn64tab)
  { w0 with heap := h3 }
def laid : List (String × DataW Unit) := [("math/bits.deBruijn32tab", Rows.laid_math_bits_deBruijn32tab), ("math/bits.deBruijn64tab", Rows.laid_math_bits_deBruijn64tab), ("internal/strconv.uint64pow10", Rows.laid_internal_strconv_uint64pow10)]
set_option maxRecDepth 100000 in
theorem laid_met (os : Os) (args : Array Value) : laidMet Tryd.prog laid ((laidWorld os).forCall (fun _ _ => 0) ⟨#[], args, []⟩).memory :=
  laidMet_of_run' 8 (by kernel_rfl) (by kernel_rfl)
theorem pow_laid {W : World} (h : laidMet Tryd.prog laid W) : Lib.TabIs Tryd.prog W "internal/strconv.uint64pow10" .u64 Lib.pow10Tab := by
  have h2 := laidMet.filter (fun x => x.1 == "internal/strconv.uint64pow10") h
  rw [show laid.filter (fun x => x.1 == "internal/strconv.uint64pow10") = [("internal/strconv.uint64pow10", Lib.tabData .u64 Lib.pow10Tab)] by kernel_rfl] at h2
  exact Lib.tabIs_of_head (g := 1) (t := 145) (e := 135) (n := 20) (by kernel_rfl) (by kernel_rfl) (by kernel_rfl) (by kernel_rfl) (by kernel_rfl) (by kernel_rfl) h2
theorem tab_cell {P : Program} {W : World} {name : String} {k : IntKind} {zs : List Int} {g : Nat} (h : Lib.TabIs P W name k zs) (hg : P.globalNamed name = some g) {i : Nat} {v : Value} (hv : (zs.map (Value.int k))[i]? = some v) : W.cell? ⟨g, i, none⟩ = some v := by
  have hi : i < zs.length := by
    have := (List.getElem?_eq_some_iff.1 hv).1; simpa using this
  rw [Lib.TabIs.cell h hg i hi]
  rw [List.getElem?_map, List.getElem?_eq_getElem hi] at hv
  simpa [List.getD, hi] using hv
theorem tab_size {P : Program} {W : World} {name : String} {k : IntKind} {zs : List Int} {g : Nat} (h : Lib.TabIs P W name k zs) (hg : P.globalNamed name = some g) : ∃ arr e fr, W.heap[g]? = some (.cells arr e fr) ∧ arr.size = (zs.map (Value.int k)).length := by
  simp only [Lib.TabIs, World.var?, hg, Option.bind_some] at h
  split at h
  · rename_i cs e fr hh
    injection h with h
    subst h
    exact ⟨_, _, _, hh, by simp⟩
  · cases h
theorem gPow : Tryd.prog.globalNamed "internal/strconv.uint64pow10" = some 1 := by kernel_rfl
theorem tabs_of {W : World} {m : Int} {b : Bool} (hm : W.cell? ⟨0, 0, none⟩ = some (.int .i64 m)) (h : Lib.TabIs Tryd.prog W "internal/strconv.uint64pow10" .u64 Lib.pow10Tab)
    (he : b = true → ∃ ev, W.cell? ⟨2, 0, none⟩ = some ev ∧ Ev.isErr ev) : TabsAt (Hk.gl (m, b)) W (old W) where
  lit g vs hg v hv := by
    simp only [Hk.gl] at hg
    split at hg
    · injection hg with hg; subst hg; simp at hv; subst hv; exact ⟨rfl, rfl⟩
    · split at hg
      · injection hg with hg; subst hg
        obtain ⟨x, _, rfl⟩ := List.mem_map.1 hv; exact ⟨rfl, rfl⟩
      · split at hg
        · injection hg with hg; subst hg; simp at hv
        · cases hg
  cell g vs hg k v hv := by
    simp only [Hk.gl] at hg
    split at hg
    · rename_i hh
      injection hg with hg; subst hg; subst hh
      cases k with
      | zero => simp at hv; subst hv; exact ⟨hm, Ev.cell_lt hm⟩
      | succ k => simp at hv
    · split at hg
      · rename_i hh
        injection hg with hg; subst hg; subst hh
        have := tab_cell h gPow hv
        exact ⟨this, Ev.cell_lt this⟩
      · split at hg
        · injection hg with hg; subst hg; simp at hv
        · cases hg
  size g vs hg hl := by
    simp only [Hk.gl] at hg
    split at hg
    · injection hg with hg; subst hg; simp at hl
    · split at hg
      · rename_i hh
        injection hg with hg; subst hg; subst hh
        exact tab_size h gPow
      · split at hg
        · injection hg with hg; subst hg; simp at hl
        · cases hg
  errs g hg := by
    simp only [Hk.gl] at hg
    split at hg
    · injection hg with hg; cases hg
    · split at hg
      · injection hg with hg
        have := congrArg List.length hg
        rw [List.length_map, Lib.pow10Tab_length] at this; cases this
      · split at hg
        · rename_i hh
          obtain ⟨rfl, hb⟩ := hh
          obtain ⟨ev, h1, h2⟩ := he hb
          exact ⟨ev, h1, Ev.cell_lt h1, h2⟩
        · cases hg
theorem tabs {W : World} {m : Int} (hm : W.cell? ⟨0, 0, none⟩ = some (.int .i64 m)) (h : laidMet Tryd.prog laid W) : TabsAt (Hk.gl (m, false)) W (old W) :=
  tabs_of hm (pow_laid h) (fun hb => by cases hb)
theorem bulk_small {H : Type} {l : List (DataW H)} (hk : Rows.uptoSmall H l = true) : Rows.uptoBulkAll l ≤ 1048576 := of_decide_eq_true hk
def ubulk {H : Type} : Ev.Bulk H := ⟨Rows.uptoBulk, Rows.uptoBulkAll, fun s => by simp [Rows.uptoBulk], fun k n => by simp [Rows.uptoBulk], fun x => by simp [Rows.uptoBulk], by simp [Rows.uptoBulk], fun e s => by simp [Rows.uptoBulk], fun ps => by simp [Rows.uptoBulk], by simp [Rows.uptoBulkAll], fun d r => by simp [Rows.uptoBulkAll]⟩
end Go.Proofs.YtfkggoohajdabaaDoor
namespace Go.Hk
open Go Go.Ev
open Go.Ob (dec)
theorem ksumH_mem {α : Type} (f : α → Nat) {x : α} : ∀ {l : List α}, x ∈ l → f x ≤ ksum f l
  | y :: l, h => by
    simp only [ksum]
    rcases List.mem_cons.1 h with rfl | h
    · omega
    · have := ksumH_mem f h; omega
theorem ksumH_len {α : Type} (f : α → Nat) (hf : ∀ x, 1 ≤ f x) : ∀ l : List α, l.length ≤ ksum f l
  | [] => Nat.zero_le _
  | y :: l => by
    have := hf y; have := ksumH_len f hf l
    simp only [ksum, List.length_cons]; omega
theorem strs_kb {L : List Ln.Bs} {n : Nat} (h : kb (.sl .str) L ≤ n) : L.length ≤ n ∧ ∀ x, x ∈ L → x.length ≤ n := by
  have h : ksum (fun v : Ln.Bs => kb .str v) L + 1 ≤ n := h
  have e : ∀ x : Ln.Bs, kb .str x = x.length + 1 := fun x => rfl
  refine ⟨?_, fun x hx => ?_⟩
  · have := ksumH_len (fun v : Ln.Bs => kb .str v) (fun r => by show 1 ≤ kb .str r; rw [e]; omega) L
    omega
  · have h1 : kb .str x ≤ ksum (fun v : Ln.Bs => kb .str v) L := ksumH_mem (fun v : Ln.Bs => kb .str v) hx
    rw [e] at h1; omega
end Go.Hk

