import Derived.RangeFuncBox
import Derived.RangeFuncLeaves
import Derived.RangeFuncCalls
import Derived.Shelf.Abstract
import Derived.WalkKit
import Derived.OwnWalkIn
import Derived.TacticsInMore
import Derived.LoopNIn
import Derived.LoopIn
import Derived.Test.YtcahaecjjochbaaDoorAtD
import Derived.Test.YtcahaecjjochbaaDoorEvC
import Derived.Laws.EntriesVeiled
set_option linter.unusedVariables false
set_option linter.unusedSimpArgs false
/- ignore.up: the folders of a path, handed over one by one. -/
namespace Go.At
open Go Go.Ev Go.Proofs Go.RowKit Go.Shelf
set_option linter.unusedVariables false
set_option linter.unusedSimpArgs false
attribute [local go_sem] Oper.semAt_some
end Go.At
namespace Go.At
open Go Go.Ev Go.Proofs Go.RowKit Go.Shelf
set_option linter.unusedVariables false
set_option linter.unusedSimpArgs false
attribute [local go_sem] Oper.semAt_some
variable {m : Int}
theorem tabs_later {w w' : World} {zf : Nat → Nat → Prop} (k : Below w.heap.size w w') (hzf : ∀ b i, zf b i → b < w.heap.size) (h : TabsAt (gl m) w zf) : TabsAt (gl m) w' zf :=
  ⟨h.lit, fun g vs hg i v hi => ⟨(k.cell (p := ⟨g, i, none⟩) (hzf _ _ (h.cell g vs hg i v hi).2)).trans (h.cell g vs hg i v hi).1, (h.cell g vs hg i v hi).2⟩, h.size.keep (keep_below k)⟩
theorem Boxed.below' {W W' : World} {Bx : Nat} {t : TypeId} {v : Value} (h : Below W.heap.size W W') (b : Boxed W Bx t v) : Boxed W' Bx t v := (h.block Bx b.lt).trans b
theorem keeps_later {W W' : World} (h : Below W.heap.size W W') (B : Nat) : KeepsFrom B W W' := ⟨h.size, fun k o _ hk _ => (h.block k (Array.getElem?_eq_some_iff.1 hk).1).trans hk⟩
end Go.At

