import Derived.Test.YtccbffefdaloiaaDoorEvC
import Derived.Test.YtccbffefdaloiaaDoorAwA
import Derived.Test.YtccbffefdaloiaaDoorCards
import Derived.Test.YtccbffefdaloiaaDoorTie
import Derived.WalkKit
import Derived.ProofKit
import Derived.OpenShut
import Derived.Deep.DeepHandedRow
import Derived.Deep.DeepWitnessRowRef
import Derived.Lib.LaidTab
import Derived.LaidSub
import Derived.Shelf.Vars
/- The seat's world for the witness, and what the rows' premises give. -/
namespace Go.Proofs.YtccbffefdaloiaaDoor
open Go.ChangeShapes Go.WideShapes Go.ChangeAt Go.RowKit
open Go.ChangeMaps (open_string shut_string)
open Go.Ev (X0 old Bs ss TabsAt)
set_option linter.unusedVariables false

theorem own : ownKnob Tryd.prog.godebug = none := by kernel_rfl
theorem laidOut : laidOutB Tryd.prog = true := by kernel_rfl
theorem maxLen_at {W : World} (h : W.ShapedOpen Tryd.prog) : ∃ m, W.cell? ⟨1, 0, none⟩ = some (.int .i64 m) :=
  cell_of_shapedOpen_int (zero := #[.int .i64 0]) (t := 3) h (of_decide_eq_true (by kernel_rfl)) (by kernel_rfl) rfl (by kernel_rfl) (by kernel_rfl) Tryd.underlying3
/-- the numbers of a table as listed -/
def numbers : DataW Unit → Array Value
  | .agg l => (l.filterMap fun | .lit (.int k n) => some (Value.int k n) | _ => none).toArray
  | _ => #[]
/-- the settled world, the tables holding what their initialisers lay -/
noncomputable def laidWorld (os : Os) : World :=
  let w0 := World.holding Tryd.prog os ⟨#[], #[], []⟩
  let put (h : Array Obj) (g : Nat) (cs : Array Value) : Array Obj := h.modify g fun
    | .cells _ t frozen => .cells cs t frozen
    | o => o
  let h1 := put w0.heap 0 (numbers Rows.laid_graftage_ident_table)
  let h2 := put h1 2 (numbers Rows.laid_internal_strconv_uint64pow10)
  let h3 := put h2 3 (numbers Rows.laid_math_bits_deBruijn32tab)
  let h4 := put h3 4 (numbers Rows.laid_math_bits_deBruijn64tab)
  { w0 with heap := h4 }
def laid : List (String × DataW Unit) := [("math/bits.deBruijn32tab", Rows.laid_math_bits_deBruijn32tab), ("math/bits.deBruijn64tab", Rows.laid_math_bits_deBruijn64tab), ("internal/strconv.uint64pow10", Rows.laid_internal_strconv_uint64pow10), ("graftage/ident.table", Rows.laid_graftage_ident_table)]
set_option maxRecDepth 100000 in
theorem laid_met (os : Os) (args : Array Value) : laidMet Tryd.prog laid ((laidWorld os).forCall (fun _ _ => 0) ⟨#[], args, []⟩).memory :=
  laidMet_of_run' 8 (by kernel_rfl) (by kernel_rfl)
def shaZ : List Int := Sh.K.map fun x => (x.toNat : Int)
theorem tabs_laid {W : World} (h : laidMet Tryd.prog laid W) : Lib.TabIs Tryd.prog W "graftage/ident.table" .u32 shaZ ∧ Lib.TabIs Tryd.prog W "internal/strconv.uint64pow10" .u64 Lib.pow10Tab := by
  have h0 := laidMet.filter (fun x => x.1 == "graftage/ident.table") h
  have h2 := laidMet.filter (fun x => x.1 == "internal/strconv.uint64pow10") h
  rw [show laid.filter (fun x => x.1 == "graftage/ident.table") = [("graftage/ident.table", Lib.tabData .u32 shaZ)] by kernel_rfl] at h0
  rw [show laid.filter (fun x => x.1 == "internal/strconv.uint64pow10") = [("internal/strconv.uint64pow10", Lib.tabData .u64 Lib.pow10Tab)] by kernel_rfl] at h2
  exact ⟨Lib.tabIs_of_head (g := 0) (t := 140) (e := 138) (n := 64) (by kernel_rfl) (by kernel_rfl) (by kernel_rfl) (by kernel_rfl) (by kernel_rfl) (by kernel_rfl) h0,
    Lib.tabIs_of_head (g := 2) (t := 171) (e := 144) (n := 20) (by kernel_rfl) (by kernel_rfl) (by kernel_rfl) (by kernel_rfl) (by kernel_rfl) (by kernel_rfl) h2⟩
theorem tab_cell {P : Program} {W : World} {name : String} {k : IntKind} {zs : List Int} {g : Nat} (h : Lib.TabIs P W name k zs) (hg : P.globalNamed name = some g) {i : Nat} {v : Value} (hv : (zs.map (Value.int k))[i]? = some v) : W.cell? ⟨g, i, none⟩ = some v := by
  have hi : i < zs.length := by
    have := (List.getElem?_eq_some_iff.1 hv).1; simpa using this
  rw [Lib.TabIs.cell h hg i hi]
  rw [List.getElem?_map, List.getElem?_eq_getElem hi] at hv
  simpa [List.getD, hi] using hv
theorem tab_size {P : Program} {W : World} {name : String} {k : IntKind} {zs : List Int} {g : Nat} (h : Lib.TabIs P W name k zs) (hg : P.globalNamed name = some g) : ∃ arr e fr, W.heap[g]? = some (.cells arr e fr) ∧ arr.size = (zs.map (Value.int k)).length := by
  simp only [Lib.TabIs, World.var?, hg, Option.bind_some] at h
  split at h
  · rename_i cs e fr hh
    injection h with h
    subst h
    exact ⟨_, _, _, hh, by simp⟩
  · cases h
theorem g0 : Tryd.prog.globalNamed "graftage/ident.table" = some 0 := by kernel_rfl
theorem g2 : Tryd.prog.globalNamed "internal/strconv.uint64pow10" = some 2 := by kernel_rfl
theorem shaK_Z : Aw.shaK = shaZ.map (Value.int .u32) := by simp only [Aw.shaK, shaZ, List.map_map]; rfl
theorem tabs {W : World} {m : Int} (hm : W.cell? ⟨1, 0, none⟩ = some (.int .i64 m)) (h : laidMet Tryd.prog laid W) : TabsAt (Aw.gl m) W (old W) where
  lit g vs hg v hv := by
    simp only [Aw.gl] at hg
    split at hg
    · injection hg with hg; subst hg
      obtain ⟨x, _, rfl⟩ := List.mem_map.1 hv; exact ⟨rfl, rfl⟩
    · split at hg
      · injection hg with hg; subst hg; simp at hv; subst hv; exact ⟨rfl, rfl⟩
      · split at hg
        · injection hg with hg; subst hg
          obtain ⟨x, _, rfl⟩ := List.mem_map.1 hv; exact ⟨rfl, rfl⟩
        · cases hg
  cell g vs hg k v hv := by
    obtain ⟨t0, t2⟩ := tabs_laid h
    simp only [Aw.gl] at hg
    split at hg
    · rename_i hh
      injection hg with hg; subst hg; subst hh
      rw [shaK_Z] at hv
      have := tab_cell t0 g0 hv
      exact ⟨this, Ev.cell_lt this⟩
    · split at hg
      · rename_i hh
        injection hg with hg; subst hg; subst hh
        cases k with
        | zero => simp at hv; subst hv; exact ⟨hm, Ev.cell_lt hm⟩
        | succ k => simp at hv
      · split at hg
        · rename_i hh
          injection hg with hg; subst hg; subst hh
          have := tab_cell t2 g2 hv
          exact ⟨this, Ev.cell_lt this⟩
        · cases hg
  size g vs hg hl := by
    obtain ⟨t0, t2⟩ := tabs_laid h
    simp only [Aw.gl] at hg
    split at hg
    · rename_i hh
      injection hg with hg; subst hg; subst hh
      rw [shaK_Z]
      exact tab_size t0 g0
    · split at hg
      · injection hg with hg; subst hg; simp at hl
      · split at hg
        · rename_i hh
          injection hg with hg; subst hg; subst hh
          exact tab_size t2 g2
        · cases hg
theorem bulk_string {H : Type} {s : List UInt8} {r : List (DataW H)} {n : Nat} (h : Rows.uptoBulkAll (DataW.lit (.string s) :: r) ≤ n) : s.length + 1 + Rows.uptoBulkAll r ≤ n := by
  simp only [Rows.uptoBulkAll, Rows.uptoBulk] at h; omega
theorem bulk_small {H : Type} {l : List (DataW H)} (hk : Rows.uptoSmall H l = true) : Rows.uptoBulkAll l ≤ 1048576 := of_decide_eq_true hk
def ubulk {H : Type} : Ev.Bulk H := ⟨Rows.uptoBulk, Rows.uptoBulkAll, fun s => by simp [Rows.uptoBulk], fun k n => by simp [Rows.uptoBulk], fun x => by simp [Rows.uptoBulk], by simp [Rows.uptoBulk], fun e s => by simp [Rows.uptoBulk], fun ps => by simp [Rows.uptoBulk], by simp [Rows.uptoBulkAll], fun d r => by simp [Rows.uptoBulkAll]⟩
end Go.Proofs.YtccbffefdaloiaaDoor

