import Derived.Orders
import Derived.Tactics
import Derived.Laws.IdiomCopy
import Derived.Laws.AppendOwn
set_option linter.unusedVariables false
set_option linter.unusedSimpArgs false
/- The tree-valued states of the evaluator, and how they stand for frames and memory. -/
namespace Go.Ev
set_option linter.unusedVariables false
inductive Fl where
  | own | ro | frn
  deriving DecidableEq
structure Comp where
  i : Nat
  o : Nat
  es : Nat
  deriving DecidableEq
inductive Root where
  | slot (t : Nat)
  | box (n k : Nat)
  deriving DecidableEq
structure Ref where
  root : Root
  path : List Comp
  deriving DecidableEq
inductive AV where
  | lit (v : Value)
  | sl (fl : Fl) (es : Nat) (xs : List AV)
  | agg (cs : List AV)
  | tup (vs : List AV)
  | ptr (r : Ref)
  | bor (r : Ref)
  | cell (fl : Fl) (cs : List AV) (o : Nat)
  | clo (f : FuncId) (caps : List AV)
  | junk
def scalar : Value → Bool
  | .bool _ | .int _ _ | .float _ _ | .complex _ _ _ | .string _ | .nilFunc | .nilIface | .pointer none => true
  | .func (.func _) #[] #[] => true
  | .tuple #[] => true
  | .iface _ v => scalar v
  | _ => false
def isCell : Value → Bool
  | .agg _ | .tuple _ => false
  | _ => true
def cellsOf : AV → List AV
  | .agg cs => cs
  | v => [v]
def flat (xs : List AV) : List AV := xs.flatMap cellsOf
structure Cx where
  w : World
  b0 : Nat
  bd : Nat → Option Nat
  bxc : Nat → Nat → Prop
  zf : Nat → Nat → Prop
  res : Ref → Option Addr
  hold : Ref → Option Value
def Cx.st (X : Cx) (b i : Nat) : Prop := (∀ m, X.bd b = some m → i < m) ∧ ¬ X.bxc b i ∧ (X.b0 ≤ b ∨ X.zf b i ∨ (X.bd b).isSome = true)
def Cx.sees (X : Cx) (fl : Fl) (b i : Nat) : Prop := if fl = .frn then X.zf b i else X.st b i
def Disj (F G : List Nat) : Prop := ∀ b, b ∈ F → b ∉ G
mutual
inductive Rel (X : Cx) : Bool → AV → Value → List Nat → Prop
  | junk (t : Bool) (v : Value) : Rel X t .junk v []
  | lit (t : Bool) (v : Value) (h : scalar v = true) : Rel X t (.lit v) v []
  | nil (t : Bool) (fl : Fl) (es : Nat) (A : Option Addr) : Rel X t (.sl fl es []) (.slice A 0 0) []
  | own (t : Bool) (xs : List AV) (b o cap es : Nat) (arr : Array Value) (e : TypeId) (fr : Nat × Nat) (vs : List Value) (F : List Nat)
      (hh : X.w.heap[b]? = some (.cells arr e fr)) (hfr : ∀ i, i < arr.size → (fr.1 ≤ i && i < fr.2) = false)
      (hs : arr.size = o + cap * es) (hn : xs.length ≤ cap) (hu : ∀ x, x ∈ xs → (cellsOf x).length = es)
      (hr : ∀ k v, vs[k]? = some v → arr[o + k]? = some v) (hc : RelL X false (flat xs) vs F) (hb : b ∉ F)
      (hbd : X.bd b = some (o + xs.length * es)) (hzf : ∀ i, ¬ X.zf b i) :
      Rel X t (.sl .own es xs) (.slice (some ⟨b, o, none⟩) xs.length cap) (b :: F)
  | imm (t : Bool) (fl : Fl) (xs : List AV) (ad : Addr) (cap es : Nat) (vs : List Value) (hfl : fl ≠ .own) (hn : xs.length ≤ cap)
      (hu : ∀ x, x ∈ xs → (cellsOf x).length = es)
      (hr : ∀ k v, vs[k]? = some v → X.w.cell? (ad.add k) = some v ∧ X.sees fl ad.block (ad.off + k)) (hc : RelL X false (flat xs) vs []) :
      Rel X t (.sl fl es xs) (.slice (some ad) xs.length cap) []
  | agg (t : Bool) (cs : List AV) (vs : List Value) (F : List Nat) (hc : RelL X t cs vs F) : Rel X t (.agg cs) (.agg vs.toArray) F
  | tup (t : Bool) (cs : List AV) (vs : List Value) (F : List Nat) (hc : RelT X t cs vs F) : Rel X t (.tup cs) (.tuple vs.toArray) F
  | ptr (r : Ref) (a : Addr) (h : X.res r = some a) : Rel X true (.ptr r) (.pointer (some a)) []
  | bor (r : Ref) (v : Value) (h : X.hold r = some v) (hc : isCell v = true) (hs : ∃ a n c, v = .slice a n c) : Rel X true (.bor r) v []
  | cell (fl : Fl) (cs : List AV) (o : Nat) (ad a : Addr) (vs : List Value) (hfl : fl ≠ .own) (ha : a = ad.add o)
      (hr : ∀ k v, vs[k]? = some v → X.w.cell? (ad.add k) = some v ∧ X.sees fl ad.block (ad.off + k)) (hc : RelL X false cs vs []) :
      Rel X true (.cell fl cs o) (.pointer (some a)) []
  | clo (f : FuncId) (cs : List AV) (vs : List Value) (hc : RelL X true cs vs []) : Rel X true (.clo f cs) (.func (.func f) #[] vs.toArray) []
inductive RelL (X : Cx) : Bool → List AV → List Value → List Nat → Prop
  | nil (t : Bool) : RelL X t [] [] []
  | cons (t : Bool) (x : AV) (v : Value) (F : List Nat) (xs : List AV) (vs : List Value) (G : List Nat) (hv : isCell v = true)
      (h : Rel X t x v F) (hs : RelL X t xs vs G) (hd : Disj F G) : RelL X t (x :: xs) (v :: vs) (F ++ G)
inductive RelT (X : Cx) : Bool → List AV → List Value → List Nat → Prop
  | nil (t : Bool) : RelT X t [] [] []
  | cons (t : Bool) (x : AV) (v : Value) (F : List Nat) (xs : List AV) (vs : List Value) (G : List Nat)
      (h : Rel X t x v F) (hs : RelT X t xs vs G) (hd : Disj F G) : RelT X t (x :: xs) (v :: vs) (F ++ G)
end
structure Cx.Keeps (X X' : Cx) (F : Nat → Prop) : Prop where
  res : ∀ r a, X.res r = some a → X'.res r = some a
  hold : ∀ r v, X.hold r = some v → X'.hold r = some v
  zf : ∀ b i v, X.zf b i → X.w.cell? ⟨b, i, none⟩ = some v → X'.zf b i ∧ X'.w.cell? ⟨b, i, none⟩ = some v
  st : ∀ b i v, X.st b i → X.w.cell? ⟨b, i, none⟩ = some v → X'.st b i ∧ X'.w.cell? ⟨b, i, none⟩ = some v
  own : ∀ b, F b → X'.w.heap[b]? = X.w.heap[b]? ∧ X'.bd b = X.bd b ∧ ∀ i, X'.zf b i → X.zf b i
theorem Addr.spot_of_cell {w : World} {a : Addr} {v : Value} (h : w.cell? a = some v) : a.spot = none := by
  unfold World.cell? at h
  split at h
  · split at h
    · cases h
    · rename_i hs; cases hsp : a.spot with
      | none => rfl
      | some x => simp [hsp] at hs
  · cases h
theorem Addr.eta {a : Addr} (h : a.spot = none) : a = ⟨a.block, a.off, none⟩ := by cases a; simp_all
theorem Addr.add_spot {a : Addr} (h : a.spot = none) (k : Nat) : a.add k = ⟨a.block, a.off + k, none⟩ := by
  unfold Addr.add; split
  · rename_i hk; subst hk; exact Addr.eta h
  · cases a; simp_all
theorem Addr.add_block (a : Addr) (k : Nat) : (a.add k).block = a.block := by unfold Addr.add; split <;> rfl
theorem Addr.add_off (a : Addr) (k : Nat) : (a.add k).off = a.off + k := by unfold Addr.add; split <;> simp_all
theorem Addr.add_add (a : Addr) (j k : Nat) : (a.add j).add k = a.add (j + k) := by
  unfold Addr.add; split <;> split <;> split <;> simp_all <;> omega
theorem Cx.Keeps.read {X X' : Cx} {F : Nat → Prop} (h : X.Keeps X' F) {fl : Fl} {a : Addr} {v : Value}
    (hr : X.w.cell? a = some v ∧ X.sees fl a.block a.off) : X'.w.cell? a = some v ∧ X'.sees fl a.block a.off := by
  have hsp := Addr.spot_of_cell hr.1
  rw [Addr.eta hsp] at hr ⊢
  obtain ⟨hc, hs⟩ := hr
  unfold Cx.sees at hs ⊢
  by_cases hf : fl = .frn
  · rw [if_pos hf] at hs ⊢; exact ⟨(h.zf _ _ _ hs hc).2, (h.zf _ _ _ hs hc).1⟩
  · rw [if_neg hf] at hs ⊢; exact ⟨(h.st _ _ _ hs hc).2, (h.st _ _ _ hs hc).1⟩
theorem Cx.Keeps.reads {X X' : Cx} {F : Nat → Prop} (h : X.Keeps X' F) {fl : Fl} {ad : Addr} {vs : List Value}
    (hr : ∀ k v, vs[k]? = some v → X.w.cell? (ad.add k) = some v ∧ X.sees fl ad.block (ad.off + k)) :
    ∀ k v, vs[k]? = some v → X'.w.cell? (ad.add k) = some v ∧ X'.sees fl ad.block (ad.off + k) := by
  intro k v hk
  have := h.read (fl := fl) (a := ad.add k) (v := v) (by simpa [Addr.add_block, Addr.add_off] using hr k v hk)
  simpa [Addr.add_block, Addr.add_off] using this
mutual
theorem Rel.mono {X X' : Cx} {P : Nat → Prop} (k : X.Keeps X' P) : ∀ {t : Bool} {x : AV} {v : Value} {F : List Nat}, Rel X t x v F → (∀ b, b ∈ F → P b) → Rel X' t x v F
  | _, _, _, _, .junk t v, _ => .junk t v
  | _, _, _, _, .lit t v h, _ => .lit t v h
  | _, _, _, _, .nil t fl es A, _ => .nil t fl es A
  | _, _, _, _, .own t xs b o cap es arr e fr vs F hh hfr hs hn hu hr hc hb hbd hzf, hP =>
    have hk := k.own b (hP b (List.mem_cons_self ..))
    .own t xs b o cap es arr e fr vs F (hk.1.trans hh) hfr hs hn hu hr (RelL.mono k hc fun c hc => hP c (List.mem_cons_of_mem _ hc)) hb (hk.2.1.trans hbd) fun i hi => hzf i (hk.2.2 i hi)
  | _, _, _, _, .imm t fl xs ad cap es vs hfl hn hu hr hc, hP => .imm t fl xs ad cap es vs hfl hn hu (k.reads hr) (RelL.mono k hc hP)
  | _, _, _, _, .agg t cs vs F hc, hP => .agg t cs vs F (RelL.mono k hc hP)
  | _, _, _, _, .tup t cs vs F hc, hP => .tup t cs vs F (RelT.mono k hc hP)
  | _, _, _, _, .ptr r a h, _ => .ptr r a (k.res r a h)
  | _, _, _, _, .bor r v h hc hs, _ => .bor r v (k.hold r v h) hc hs
  | _, _, _, _, .cell fl cs o ad a vs hfl ha hr hc, hP => .cell fl cs o ad a vs hfl ha (k.reads hr) (RelL.mono k hc hP)
  | _, _, _, _, .clo f cs vs hc, hP => .clo f cs vs (RelL.mono k hc hP)
theorem RelL.mono {X X' : Cx} {P : Nat → Prop} (k : X.Keeps X' P) : ∀ {t : Bool} {x : List AV} {v : List Value} {F : List Nat}, RelL X t x v F → (∀ b, b ∈ F → P b) → RelL X' t x v F
  | _, _, _, _, .nil t, _ => .nil t
  | _, _, _, _, .cons t x v F xs vs G hv h hs hd, hP =>
    .cons t x v F xs vs G hv (Rel.mono k h fun b hb => hP b (List.mem_append_left _ hb)) (RelL.mono k hs fun b hb => hP b (List.mem_append_right _ hb)) hd
theorem RelT.mono {X X' : Cx} {P : Nat → Prop} (k : X.Keeps X' P) : ∀ {t : Bool} {x : List AV} {v : List Value} {F : List Nat}, RelT X t x v F → (∀ b, b ∈ F → P b) → RelT X' t x v F
  | _, _, _, _, .nil t, _ => .nil t
  | _, _, _, _, .cons t x v F xs vs G h hs hd, hP =>
    .cons t x v F xs vs G (Rel.mono k h fun b hb => hP b (List.mem_append_left _ hb)) (RelT.mono k hs fun b hb => hP b (List.mem_append_right _ hb)) hd
end
mutual
theorem Rel.top {X : Cx} : ∀ {t : Bool} {x : AV} {v : Value} {F : List Nat}, Rel X t x v F → Rel X true x v F
  | _, _, _, _, .junk _ v => .junk _ v
  | _, _, _, _, .lit _ v h => .lit _ v h
  | _, _, _, _, .nil _ fl es A => .nil _ fl es A
  | _, _, _, _, .own _ xs b o cap es arr e fr vs F hh hfr hs hn hu hr hc hb hbd hzf => .own _ xs b o cap es arr e fr vs F hh hfr hs hn hu hr hc hb hbd hzf
  | _, _, _, _, .imm _ fl xs ad cap es vs hfl hn hu hr hc => .imm _ fl xs ad cap es vs hfl hn hu hr hc
  | _, _, _, _, .agg _ cs vs F hc => .agg _ cs vs F (RelL.top hc)
  | _, _, _, _, .tup _ cs vs F hc => .tup _ cs vs F (RelT.top hc)
  | _, _, _, _, .ptr r a h => .ptr r a h
  | _, _, _, _, .bor r v h hc hs => .bor r v h hc hs
  | _, _, _, _, .cell fl cs o ad a vs hfl ha hr hc => .cell fl cs o ad a vs hfl ha hr hc
  | _, _, _, _, .clo f cs vs hc => .clo f cs vs hc
theorem RelL.top {X : Cx} : ∀ {t : Bool} {x : List AV} {v : List Value} {F : List Nat}, RelL X t x v F → RelL X true x v F
  | _, _, _, _, .nil _ => .nil _
  | _, _, _, _, .cons _ x v F xs vs G hv h hs hd => .cons _ x v F xs vs G hv h.top hs.top hd
theorem RelT.top {X : Cx} : ∀ {t : Bool} {x : List AV} {v : List Value} {F : List Nat}, RelT X t x v F → RelT X true x v F
  | _, _, _, _, .nil _ => .nil _
  | _, _, _, _, .cons _ x v F xs vs G h hs hd => .cons _ x v F xs vs G h.top hs.top hd
end
theorem RelL.length {X : Cx} {t : Bool} {x : List AV} {v : List Value} {F : List Nat} (h : RelL X t x v F) : v.length = x.length := by
  induction x generalizing v F with
  | nil => cases h; rfl
  | cons a x ih => cases h with | cons _ _ _ _ _ _ _ _ _ hs _ => simp [ih hs]
theorem RelL.cells {X : Cx} {t : Bool} {x : List AV} {v : List Value} {F : List Nat} (h : RelL X t x v F) : ∀ c ∈ v, isCell c = true := by
  induction x generalizing v F with
  | nil => cases h; simp
  | cons a x ih => cases h with | cons _ _ _ _ _ _ _ hv _ hs _ => intro c hc; rcases List.mem_cons.1 hc with rfl | hc; exact hv; exact ih hs c hc
theorem Disj.symm {F G : List Nat} (h : Disj F G) : Disj G F := fun b hb hb' => h b hb' hb
theorem RelL.append {X : Cx} {t : Bool} {x : List AV} {v : List Value} {F : List Nat} (h : RelL X t x v F) {y : List AV} {u : List Value} {G : List Nat}
    (h' : RelL X t y u G) (hd : Disj F G) : RelL X t (x ++ y) (v ++ u) (F ++ G) := by
  induction x generalizing v F with
  | nil => cases h; exact h'
  | cons a x ih =>
    cases h with
    | cons _ _ c F₁ _ vs F₂ hv h hs hd' =>
      rw [List.append_assoc]
      refine .cons t a c F₁ (x ++ y) (vs ++ u) (F₂ ++ G) hv h (ih hs fun b hb => hd b (List.mem_append_right _ hb)) fun b hb hb' => ?_
      rcases List.mem_append.1 hb' with hb' | hb'
      · exact hd' b hb hb'
      · exact hd b (List.mem_append_left _ hb) hb'
theorem RelL.split {X : Cx} {t : Bool} {x y : List AV} : ∀ {v : List Value} {F : List Nat}, RelL X t (x ++ y) v F →
    ∃ v₁ v₂ F₁ F₂, v = v₁ ++ v₂ ∧ F = F₁ ++ F₂ ∧ RelL X t x v₁ F₁ ∧ RelL X t y v₂ F₂ ∧ Disj F₁ F₂ := by
  induction x with
  | nil => intro v F h; exact ⟨[], v, [], F, rfl, rfl, .nil t, h, fun b hb => by cases hb⟩
  | cons a x ih =>
    intro v F h
    cases h with
    | cons _ _ c F₁ _ vs F₂ hv h hs hd =>
      obtain ⟨v₁, v₂, G₁, G₂, rfl, rfl, h₁, h₂, hd₂⟩ := ih hs
      refine ⟨c :: v₁, v₂, F₁ ++ G₁, G₂, rfl, (List.append_assoc ..).symm, .cons t a c F₁ x v₁ G₁ hv h h₁ fun b hb hb' => hd b hb (List.mem_append_left _ hb'), h₂, fun b hb hb' => ?_⟩
      rcases List.mem_append.1 hb with hb | hb
      · exact hd b hb (List.mem_append_right _ hb')
      · exact hd₂ b hb hb'
theorem flat_nil : flat [] = [] := rfl
theorem flat_cons (x : AV) (xs : List AV) : flat (x :: xs) = cellsOf x ++ flat xs := by simp [flat]
theorem flat_append (xs ys : List AV) : flat (xs ++ ys) = flat xs ++ flat ys := by simp [flat]
theorem flat_length {xs : List AV} {es : Nat} (h : ∀ x, x ∈ xs → (cellsOf x).length = es) : (flat xs).length = xs.length * es := by
  induction xs with
  | nil => simp [flat]
  | cons x xs ih =>
    rw [flat_cons, List.length_append, h x (List.mem_cons_self ..), ih fun y hy => h y (List.mem_cons_of_mem _ hy), List.length_cons, Nat.add_mul]; omega
end Go.Ev
namespace Go.Ev
set_option linter.unusedVariables false
mutual
def kl (p : Bool → Ref → Bool) (ro : Bool) : AV → AV
  | .lit v => .lit v
  | .sl fl es xs => if ro then (if fl = .ro then .junk else .sl fl es (klL p ro xs)) else .sl fl es xs
  | .agg cs => .agg (klL p ro cs)
  | .tup cs => .tup (klL p ro cs)
  | .ptr r => if p false r then .junk else .ptr r
  | .bor r => if p true r then .junk else .bor r
  | .cell fl cs o => if ro then .junk else .cell fl cs o
  | .clo f caps => .clo f (klL p ro caps)
  | .junk => .junk
def klL (p : Bool → Ref → Bool) (ro : Bool) : List AV → List AV
  | [] => []
  | x :: xs => kl p ro x :: klL p ro xs
end
theorem klL_eq (p : Bool → Ref → Bool) (ro : Bool) (xs : List AV) : klL p ro xs = xs.map (kl p ro) := by
  induction xs with
  | nil => rfl
  | cons x xs ih => simp [klL, ih]
theorem cellsOf_kl (p : Bool → Ref → Bool) (ro : Bool) (x : AV) : cellsOf (kl p ro x) = (cellsOf x).map (kl p ro) := by
  cases x with
  | sl fl es xs => by_cases h1 : ro = true <;> by_cases h2 : fl = .ro <;> simp [kl, h1, h2, cellsOf]
  | agg cs => simp [kl, cellsOf, klL_eq]
  | ptr r => by_cases h : p false r = true <;> simp [kl, h, cellsOf]
  | bor r => by_cases h : p true r = true <;> simp [kl, h, cellsOf]
  | cell fl cs o => by_cases h1 : ro = true <;> simp [kl, h1, cellsOf]
  | lit v => simp [kl, cellsOf]
  | tup vs => simp [kl, cellsOf]
  | clo f cs => simp [kl, cellsOf]
  | junk => simp [kl, cellsOf]
theorem flat_kl (p : Bool → Ref → Bool) (ro : Bool) (xs : List AV) : flat (xs.map (kl p ro)) = (flat xs).map (kl p ro) := by
  induction xs with
  | nil => rfl
  | cons x xs ih => rw [List.map_cons, flat_cons, flat_cons, ih, cellsOf_kl p ro x, List.map_append]
structure Cx.KeepsK (X X' : Cx) (p : Bool → Ref → Bool) (ro : Bool) (F : Nat → Prop) : Prop where
  res : ∀ r a, p false r = false → X.res r = some a → X'.res r = some a
  hold : ∀ r v, p true r = false → X.hold r = some v → isCell v = true → (∃ a n c, v = .slice a n c) → X'.hold r = some v
  zf : ∀ b i v, X.zf b i → X.w.cell? ⟨b, i, none⟩ = some v → X'.zf b i ∧ X'.w.cell? ⟨b, i, none⟩ = some v
  st : ro = false → ∀ b i v, X.st b i → X.w.cell? ⟨b, i, none⟩ = some v → X'.st b i ∧ X'.w.cell? ⟨b, i, none⟩ = some v
  own : ∀ b, F b → X'.w.heap[b]? = X.w.heap[b]? ∧ X'.bd b = X.bd b ∧ ∀ i, X'.zf b i → X.zf b i
theorem Cx.KeepsK.reads {X X' : Cx} {p : Bool → Ref → Bool} {ro : Bool} {F : Nat → Prop} (h : X.KeepsK X' p ro F) {fl : Fl} (hfl : ro = true → fl = .frn) {ad : Addr} {vs : List Value}
    (hr : ∀ k v, vs[k]? = some v → X.w.cell? (ad.add k) = some v ∧ X.sees fl ad.block (ad.off + k)) :
    ∀ k v, vs[k]? = some v → X'.w.cell? (ad.add k) = some v ∧ X'.sees fl ad.block (ad.off + k) := by
  intro k v hk
  obtain ⟨hc, hs⟩ := hr k v hk
  have hsp := Addr.spot_of_cell hc
  rw [Addr.eta hsp, Addr.add_block, Addr.add_off] at hc ⊢
  unfold Cx.sees at hs ⊢
  by_cases hf : fl = .frn
  · rw [if_pos hf] at hs ⊢; exact ⟨(h.zf _ _ _ hs hc).2, (h.zf _ _ _ hs hc).1⟩
  · rw [if_neg hf] at hs ⊢
    have hro : ro = false := by cases hro : ro with | false => rfl | true => exact absurd (hfl hro) hf
    exact ⟨(h.st hro _ _ _ hs hc).2, (h.st hro _ _ _ hs hc).1⟩
mutual
theorem Rel.kl {X X' : Cx} {p : Bool → Ref → Bool} {ro : Bool} {P : Nat → Prop} (k : X.KeepsK X' p ro P) : ∀ {t : Bool} {x : AV} {v : Value} {F : List Nat}, Rel X t x v F → (∀ b, b ∈ F → P b) → Rel X' t (kl p ro x) v F
  | _, _, _, _, .junk t v, _ => .junk t v
  | _, _, _, _, .lit t v h, _ => .lit t v h
  | _, _, _, _, .nil t fl es A, _ => by
    simp only [Ev.kl, klL]
    repeat' split
    · exact .junk t _
    · exact .nil t fl es A
    · exact .nil t fl es A
  | _, _, _, _, .own t xs b o cap es arr e fr vs F hh hfr hs hn hu hr hc hb hbd hzf, hP => by
    have hk := k.own b (hP b (List.mem_cons_self ..))
    have hc' := RelL.kl k hc fun c hc => hP c (List.mem_cons_of_mem _ hc)
    simp only [Ev.kl]
    split
    · rename_i hro
      rw [if_neg (by decide)]
      have hlen : (klL p ro xs).length = xs.length := by rw [klL_eq, List.length_map]
      have := Rel.own (X := X') t (klL p ro xs) b o cap es arr e fr vs F (hk.1.trans hh) hfr hs (by rw [hlen]; exact hn)
        (by intro x hx; rw [klL_eq] at hx; obtain ⟨y, hy, rfl⟩ := List.mem_map.1 hx; rw [cellsOf_kl p ro y, List.length_map]; exact hu y hy) hr
        (by rw [klL_eq, flat_kl, ← klL_eq]; exact hc') hb (by rw [hlen]; exact hk.2.1.trans hbd) fun i hi => hzf i (hk.2.2 i hi)
      rwa [hlen] at this
    · rename_i hro
      have hro' : ro = false := by simpa using hro
      refine .own t xs b o cap es arr e fr vs F (hk.1.trans hh) hfr hs hn hu hr ?_ hb (hk.2.1.trans hbd) fun i hi => hzf i (hk.2.2 i hi)
      exact RelL.kl0 k hro' hc rfl fun c hc => hP c (List.mem_cons_of_mem _ hc)
  | _, _, _, _, .imm t fl xs ad cap es vs hfl hn hu hr hc, hP => by
    simp only [Ev.kl]
    split
    · rename_i hro
      split
      · exact .junk t _
      · rename_i hf
        have hfrn : fl = .frn := by cases fl <;> simp_all
        have hlen : (klL p ro xs).length = xs.length := by rw [klL_eq, List.length_map]
        have := Rel.imm (X := X') t fl (klL p ro xs) ad cap es vs hfl (by rw [hlen]; exact hn)
          (by intro x hx; rw [klL_eq] at hx; obtain ⟨y, hy, rfl⟩ := List.mem_map.1 hx; rw [cellsOf_kl p ro y, List.length_map]; exact hu y hy)
          (k.reads (fun _ => hfrn) hr) (by rw [klL_eq, flat_kl, ← klL_eq]; exact RelL.kl k hc hP)
        rwa [hlen] at this
    · rename_i hro
      have hro' : ro = false := by simpa using hro
      exact .imm t fl xs ad cap es vs hfl hn hu (k.reads (fun h => absurd h hro) hr) (RelL.kl0 k hro' hc rfl hP)
  | _, _, _, _, .agg t cs vs F hc, hP => by simp only [Ev.kl]; exact .agg t _ vs F (RelL.kl k hc hP)
  | _, _, _, _, .tup t cs vs F hc, hP => by simp only [Ev.kl]; exact .tup t _ vs F (RelT.kl k hc hP)
  | _, _, _, _, .ptr r a h, _ => by
    simp only [Ev.kl]
    split
    · exact .junk _ _
    · rename_i hp; exact .ptr r a (k.res r a (by simpa using hp) h)
  | _, _, _, _, .bor r v h hc hs, _ => by
    simp only [Ev.kl]
    split
    · exact .junk _ _
    · rename_i hp; exact .bor r v (k.hold r v (by simpa using hp) h hc hs) hc hs
  | _, _, _, _, .cell fl cs o ad a vs hfl ha hr hc, hP => by
    simp only [Ev.kl]
    split
    · exact .junk _ _
    · rename_i hro
      have hro' : ro = false := by simpa using hro
      exact .cell fl cs o ad a vs hfl ha (k.reads (fun h => absurd h hro) hr) (RelL.kl0 k hro' hc rfl hP)
  | _, _, _, _, .clo f cs vs hc, hP => by simp only [Ev.kl]; exact .clo f _ vs (RelL.kl k hc hP)
theorem RelL.kl {X X' : Cx} {p : Bool → Ref → Bool} {ro : Bool} {P : Nat → Prop} (k : X.KeepsK X' p ro P) : ∀ {t : Bool} {x : List AV} {v : List Value} {F : List Nat}, RelL X t x v F → (∀ b, b ∈ F → P b) → RelL X' t (klL p ro x) v F
  | _, _, _, _, .nil t, _ => .nil t
  | _, _, _, _, .cons t x v F xs vs G hv h hs hd, hP => by
    simp only [klL]
    exact .cons t _ v F _ vs G hv (Rel.kl k h fun b hb => hP b (List.mem_append_left _ hb)) (RelL.kl k hs fun b hb => hP b (List.mem_append_right _ hb)) hd
theorem RelT.kl {X X' : Cx} {p : Bool → Ref → Bool} {ro : Bool} {P : Nat → Prop} (k : X.KeepsK X' p ro P) : ∀ {t : Bool} {x : List AV} {v : List Value} {F : List Nat}, RelT X t x v F → (∀ b, b ∈ F → P b) → RelT X' t (klL p ro x) v F
  | _, _, _, _, .nil t, _ => .nil t
  | _, _, _, _, .cons t x v F xs vs G h hs hd, hP => by
    simp only [klL]
    exact .cons t _ v F _ vs G (Rel.kl k h fun b hb => hP b (List.mem_append_left _ hb)) (RelT.kl k hs fun b hb => hP b (List.mem_append_right _ hb)) hd
theorem Rel.kl0 {X X' : Cx} {p : Bool → Ref → Bool} {ro : Bool} {P : Nat → Prop} (k : X.KeepsK X' p ro P) (hro : ro = false) : ∀ {t : Bool} {x : AV} {v : Value} {F : List Nat}, Rel X t x v F → t = false → (∀ b, b ∈ F → P b) → Rel X' t x v F
  | _, _, _, _, .junk t v, _, _ => .junk t v
  | _, _, _, _, .lit t v h, _, _ => .lit t v h
  | _, _, _, _, .nil t fl es A, _, _ => .nil t fl es A
  | _, _, _, _, .own t xs b o cap es arr e fr vs F hh hfr hs hn hu hr hc hb hbd hzf, _, hP =>
    have hk := k.own b (hP b (List.mem_cons_self ..))
    .own t xs b o cap es arr e fr vs F (hk.1.trans hh) hfr hs hn hu hr (RelL.kl0 k hro hc rfl fun c hc => hP c (List.mem_cons_of_mem _ hc)) hb (hk.2.1.trans hbd) fun i hi => hzf i (hk.2.2 i hi)
  | _, _, _, _, .imm t fl xs ad cap es vs hfl hn hu hr hc, _, hP => .imm t fl xs ad cap es vs hfl hn hu (k.reads (fun h => by rw [hro] at h; cases h) hr) (RelL.kl0 k hro hc rfl hP)
  | _, _, _, _, .agg t cs vs F hc, ht, hP => .agg t cs vs F (RelL.kl0 k hro hc ht hP)
  | _, _, _, _, .tup t cs vs F hc, ht, hP => .tup t cs vs F (RelT.kl0 k hro hc ht hP)
  | _, _, _, _, .ptr r a h, ht, _ => nomatch ht
  | _, _, _, _, .bor r v h hc hs, ht, _ => nomatch ht
  | _, _, _, _, .cell fl cs o ad a vs hfl ha hr hc, ht, _ => nomatch ht
  | _, _, _, _, .clo f cs vs hc, ht, _ => nomatch ht
theorem RelL.kl0 {X X' : Cx} {p : Bool → Ref → Bool} {ro : Bool} {P : Nat → Prop} (k : X.KeepsK X' p ro P) (hro : ro = false) : ∀ {t : Bool} {x : List AV} {v : List Value} {F : List Nat}, RelL X t x v F → t = false → (∀ b, b ∈ F → P b) → RelL X' t x v F
  | _, _, _, _, .nil t, _, _ => .nil t
  | _, _, _, _, .cons t x v F xs vs G hv h hs hd, ht, hP =>
    .cons t x v F xs vs G hv (Rel.kl0 k hro h ht fun b hb => hP b (List.mem_append_left _ hb)) (RelL.kl0 k hro hs ht fun b hb => hP b (List.mem_append_right _ hb)) hd
theorem RelT.kl0 {X X' : Cx} {p : Bool → Ref → Bool} {ro : Bool} {P : Nat → Prop} (k : X.KeepsK X' p ro P) (hro : ro = false) : ∀ {t : Bool} {x : List AV} {v : List Value} {F : List Nat}, RelT X t x v F → t = false → (∀ b, b ∈ F → P b) → RelT X' t x v F
  | _, _, _, _, .nil t, _, _ => .nil t
  | _, _, _, _, .cons t x v F xs vs G h hs hd, ht, hP =>
    .cons t x v F xs vs G (Rel.kl0 k hro h ht fun b hb => hP b (List.mem_append_left _ hb)) (RelT.kl0 k hro hs ht fun b hb => hP b (List.mem_append_right _ hb)) hd
end
mutual
def roD : AV → AV
  | .sl fl es xs => if fl = .own then .sl .ro es (roL xs) else .sl fl es xs
  | .agg cs => .agg (roL cs)
  | .tup cs => .tup (roL cs)
  | x => x
def roL : List AV → List AV
  | [] => []
  | x :: xs => roD x :: roL xs
end
theorem roL_eq (xs : List AV) : roL xs = xs.map roD := by
  induction xs with
  | nil => rfl
  | cons x xs ih => simp [roL, ih]
theorem cellsOf_roD (x : AV) : cellsOf (roD x) = (cellsOf x).map roD := by
  cases x with
  | sl fl es xs => by_cases h2 : fl = .own <;> simp [roD, h2, cellsOf]
  | agg cs => simp [roD, cellsOf, roL_eq]
  | _ => simp [roD, cellsOf]
theorem flat_roD (xs : List AV) : flat (xs.map roD) = (flat xs).map roD := by
  induction xs with
  | nil => rfl
  | cons x xs ih => rw [List.map_cons, flat_cons, flat_cons, ih, cellsOf_roD, List.map_append]
mutual
theorem Rel.ro {X : Cx} : ∀ {t : Bool} {x : AV} {v : Value} {F : List Nat}, Rel X t x v F → (∀ b, b ∈ F → ∀ i, ¬ X.bxc b i) → Rel X t (roD x) v []
  | _, _, _, _, .junk t v, _ => by simp only [roD]; exact .junk t v
  | _, _, _, _, .lit t v h, _ => by simp only [roD]; exact .lit t v h
  | _, _, _, _, .nil t fl es A, _ => by simp only [roD, roL]; split <;> exact .nil t _ es A
  | _, _, _, _, .own t xs b o cap es arr e fr vs F hh hfr hs hn hu hr hc hb hbd hzf, hP => by
    simp only [roD, if_true]
    have hlen : (roL xs).length = xs.length := by rw [roL_eq, List.length_map]
    have hl := hc.length
    rw [flat_length hu] at hl
    have hc' := RelL.ro hc fun c hc => hP c (List.mem_cons_of_mem _ hc)
    have := Rel.imm (X := X) t .ro (roL xs) ⟨b, o, none⟩ cap es vs (by decide) (by rw [hlen]; exact hn)
      (by intro x hx; rw [roL_eq] at hx; obtain ⟨y, hy, rfl⟩ := List.mem_map.1 hx; rw [cellsOf_roD, List.length_map]; exact hu y hy)
      (by
        intro k v hk
        have hkl : k < vs.length := (List.getElem?_eq_some_iff.1 hk).1
        refine ⟨?_, ?_⟩
        · rw [Addr.add_spot rfl]; simp only [World.cell?, hh]; simpa using hr k v hk
        · simp only [Cx.sees, Cx.st]
          rw [if_neg (by decide)]
          exact ⟨fun m hm => by rw [hbd] at hm; injection hm with hm; omega, hP b (List.mem_cons_self ..) _, .inr (.inr (by rw [hbd]; rfl))⟩)
      (by rw [roL_eq, flat_roD, ← roL_eq]; exact hc')
    rwa [hlen] at this
  | _, _, _, _, .imm t fl xs ad cap es vs hfl hn hu hr hc, hP => by
    simp only [roD]
    rw [if_neg hfl]
    exact .imm t fl xs ad cap es vs hfl hn hu hr hc
  | _, _, _, _, .agg t cs vs F hc, hP => by simp only [roD]; exact .agg t _ vs [] (RelL.ro hc hP)
  | _, _, _, _, .tup t cs vs F hc, hP => by simp only [roD]; exact .tup t _ vs [] (RelT.ro hc hP)
  | _, _, _, _, .ptr r a h, _ => by simp only [roD]; exact .ptr r a h
  | _, _, _, _, .bor r v h hc hs, _ => by simp only [roD]; exact .bor r v h hc hs
  | _, _, _, _, .cell fl cs o ad a vs hfl ha hr hc, hP => by simp only [roD]; exact .cell fl cs o ad a vs hfl ha hr hc
  | _, _, _, _, .clo f cs vs hc, hP => by simp only [roD]; exact .clo f cs vs hc
theorem RelL.ro {X : Cx} : ∀ {t : Bool} {x : List AV} {v : List Value} {F : List Nat}, RelL X t x v F → (∀ b, b ∈ F → ∀ i, ¬ X.bxc b i) → RelL X t (roL x) v []
  | _, _, _, _, .nil t, _ => .nil t
  | _, _, _, _, .cons t x v F xs vs G hv h hs hd, hP => by
    simp only [roL]
    exact .cons t _ v [] _ vs [] hv (Rel.ro h fun b hb => hP b (List.mem_append_left _ hb)) (RelL.ro hs fun b hb => hP b (List.mem_append_right _ hb)) fun b hb => by cases hb
theorem RelT.ro {X : Cx} : ∀ {t : Bool} {x : List AV} {v : List Value} {F : List Nat}, RelT X t x v F → (∀ b, b ∈ F → ∀ i, ¬ X.bxc b i) → RelT X t (roL x) v []
  | _, _, _, _, .nil t, _ => .nil t
  | _, _, _, _, .cons t x v F xs vs G h hs hd, hP => by
    simp only [roL]
    exact .cons t _ v [] _ vs [] (Rel.ro h fun b hb => hP b (List.mem_append_left _ hb)) (RelT.ro hs fun b hb => hP b (List.mem_append_right _ hb)) fun b hb => by cases hb
end
end Go.Ev
namespace Go.Ev
set_option linter.unusedVariables false
structure St where
  env : Nat → AV
  bx : Nat → Option (List AV)
def walk (w : World) : Value → List Comp → Option Addr
  | .slice (some ad) _ _, [c] => some (ad.add (c.i * c.es + c.o))
  | .slice (some ad) _ _, c :: d :: rest => (w.cell? (ad.add (c.i * c.es + c.o))).bind fun v => walk w v (d :: rest)
  | _, _ => none
structure Fc where
  w0 : World
  T : Nat → Nat → Prop
  zf : Nat → Nat → Prop
  pers : Nat → Bool
  n : Nat
  hb : Nat → Option Addr
inductive Pos where
  | slot (t : Nat)
  | box (n : Nat)
structure Gh where
  bd : Nat → Option Nat
  ba : Nat → Option Addr
  F : Pos → List Nat
def resOf (pers : Nat → Bool) (tm : Nat → Value) (ba : Nat → Option Addr) (w : World) : Ref → Option Addr
  | ⟨.slot s, p⟩ => if pers s then walk w (tm s) p else none
  | ⟨.box n k, []⟩ => (ba n).map (·.add k)
  | ⟨.box n k, c :: p⟩ => (ba n).bind fun ad => (w.cell? (ad.add k)).bind fun v => walk w v (c :: p)
def holdOf (pers : Nat → Bool) (tm : Nat → Value) (ba : Nat → Option Addr) (w : World) : Ref → Option Value
  | ⟨.slot s, []⟩ => if pers s then some (tm s) else none
  | r => (resOf pers tm ba w r).bind w.cell?
def bxcOf (bx : Nat → Option (List AV)) (ba : Nat → Option Addr) (b i : Nat) : Prop :=
  ∃ n cs ad, bx n = some cs ∧ ba n = some ad ∧ b = ad.block ∧ ad.off ≤ i ∧ i < ad.off + cs.length
def tmOf (a : Act) (t : Nat) : Value := a.tmps.getD t undef
def cx (fc : Fc) (s : St) (a : Act) (w : World) (g : Gh) : Cx :=
  { w := w, b0 := fc.w0.heap.size, bd := g.bd, bxc := bxcOf s.bx g.ba, zf := fc.zf, res := resOf fc.pers (tmOf a) g.ba w, hold := holdOf fc.pers (tmOf a) g.ba w }
structure Keep (T : Nat → Nat → Prop) (w0 w : World) : Prop where
  os : w.os = w0.os
  tape : w.tape = w0.tape
  output : w.output = w0.output
  size : w0.heap.size ≤ w.heap.size
  block : ∀ b, b < w0.heap.size → (∀ i, ¬ T b i) → w.heap[b]? = w0.heap[b]?
  cells : ∀ b, b < w0.heap.size → ∀ arr e fr, w0.heap[b]? = some (.cells arr e fr) →
    ∃ arr', w.heap[b]? = some (.cells arr' e fr) ∧ arr'.size = arr.size ∧ ∀ i, ¬ T b i → arr'[i]? = arr[i]?
theorem Keep.refl (T : Nat → Nat → Prop) (w : World) : Keep T w w :=
  ⟨rfl, rfl, rfl, Nat.le_refl _, fun _ _ _ => rfl, fun _ _ arr _ _ h => ⟨arr, h, rfl, fun _ _ => rfl⟩⟩
def Fc.free (fc : Fc) (b : Nat) : Prop := fc.w0.heap.size ≤ b ∨ ∀ i, fc.T b i
structure BoxAt (w : World) (ad : Addr) (vs : List Value) : Prop where
  spot : ad.spot = none
  blk : ∃ arr e fr, w.heap[ad.block]? = some (.cells arr e fr) ∧ (∀ i, i < arr.size → (fr.1 ≤ i && i < fr.2) = false) ∧ ∀ k v, vs[k]? = some v → arr[ad.off + k]? = some v
theorem BoxAt.cell {w : World} {ad : Addr} {vs : List Value} (h : BoxAt w ad vs) {k : Nat} {v : Value} (hk : vs[k]? = some v) : w.cell? (ad.add k) = some v := by
  obtain ⟨hs, arr, e, fr, hh, _, hr⟩ := h
  rw [Addr.add_spot hs]; simp only [World.cell?, hh]; simpa using hr k v hk
theorem BoxAt.free {w : World} {ad : Addr} {vs : List Value} (h : BoxAt w ad vs) {k : Nat} (hk : k < vs.length) : w.frozen? (ad.add k) = false := by
  obtain ⟨hs, arr, e, fr, hh, hf, hr⟩ := h
  rw [Addr.add_spot hs]; simp only [World.frozen?, hh]
  have := hr k _ (List.getElem?_eq_getElem hk)
  exact hf _ (Array.getElem?_eq_some_iff.1 this).1
structure SR (fc : Fc) (s : St) (a : Act) (w : World) (g : Gh) : Prop where
  slots : ∀ t, Rel (cx fc s a w g) true (s.env t) (tmOf a t) (g.F (.slot t))
  boxes : ∀ n cs, s.bx n = some cs → ∃ ad vs, g.ba n = some ad ∧ BoxAt w ad vs ∧ RelL (cx fc s a w g) true cs vs (g.F (.box n))
  nobox : ∀ n, s.bx n = none → g.F (.box n) = []
  disj : ∀ p q, p ≠ q → Disj (g.F p) (g.F q)
  sep : ∀ n cs ad, s.bx n = some cs → g.ba n = some ad → ∀ p, ad.block ∉ g.F p
  apart : ∀ n m cs cs' ad ad', n ≠ m → s.bx n = some cs → s.bx m = some cs' → g.ba n = some ad → g.ba m = some ad' →
    ad.block ≠ ad'.block ∨ ad.off + cs.length ≤ ad'.off ∨ ad'.off + cs'.length ≤ ad.off
  zfb : ∀ b i, fc.zf b i → ¬ bxcOf s.bx g.ba b i
  zfo : ∀ b i, fc.zf b i → b < fc.w0.heap.size
  touchF : ∀ p b, b ∈ g.F p → fc.free b
  touchB : ∀ b i, bxcOf s.bx g.ba b i → fc.w0.heap.size ≤ b ∨ fc.T b i
  keep : Keep fc.T fc.w0 w
  defers : a.defers = []
  size : a.tmps.size = fc.n
  nob : ∀ n, s.bx n = none → g.ba n = none
  zfd : ∀ b i, fc.zf b i → g.bd b = none
  bdo : ∀ b, b < fc.w0.heap.size → (¬ ∀ i, fc.T b i) → g.bd b = none
  hbo : ∀ n, fc.n ≤ n → s.bx n ≠ none → g.ba n = fc.hb n
def SlKept (w w' : World) : Prop := ∀ a ad n c, w.cell? a = some (.slice ad n c) → w'.cell? a = some (.slice ad n c)
theorem SlKept.refl (w : World) : SlKept w w := fun _ _ _ _ h => h
theorem walk_kept {w w' : World} (h : SlKept w w') : ∀ (p : List Comp) (v : Value) (a : Addr), walk w v p = some a → walk w' v p = some a
  | [], v, a, hw => by cases v <;> simp [walk] at hw
  | [c], v, a, hw => by
    cases v with
    | slice ad n cp => cases ad <;> exact hw
    | _ => simp [walk] at hw
  | c :: d :: rest, v, a, hw => by
    cases v with
    | slice ad n cp =>
      cases ad with
      | none => simp [walk] at hw
      | some ad =>
        simp only [walk, Option.bind_eq_some_iff] at hw ⊢
        obtain ⟨u, hu, hw⟩ := hw
        have hs : ∃ ad n c, u = .slice ad n c := by
          cases u with
          | slice ad' n' c' => exact ⟨_, _, _, rfl⟩
          | _ => cases rest <;> simp [walk] at hw
        obtain ⟨ad', n', c', rfl⟩ := hs
        exact ⟨_, h _ _ _ _ hu, walk_kept h (d :: rest) _ _ hw⟩
    | _ => simp [walk] at hw
theorem resOf_kept {pers : Nat → Bool} {tm tm' : Nat → Value} {ba ba' : Nat → Option Addr} {w w' : World} (h : SlKept w w')
    (ht : ∀ t, pers t = true → tm' t = tm t) (hb : ∀ n ad, ba n = some ad → ba' n = some ad) :
    ∀ r a, resOf pers tm ba w r = some a → resOf pers tm' ba' w' r = some a := by
  rintro ⟨root, path⟩ a hr
  cases root with
  | slot s =>
    simp only [resOf] at hr ⊢
    by_cases hp : pers s = true
    · rw [if_pos hp] at hr ⊢; rw [ht s hp]; exact walk_kept h _ _ _ hr
    · rw [if_neg hp] at hr; cases hr
  | box n k =>
    cases path with
    | nil =>
      simp only [resOf, Option.map_eq_some_iff] at hr ⊢
      obtain ⟨ad, h1, h2⟩ := hr
      exact ⟨ad, hb n ad h1, h2⟩
    | cons c p =>
      simp only [resOf, Option.bind_eq_some_iff] at hr ⊢
      obtain ⟨ad, h1, u, h2, h3⟩ := hr
      refine ⟨ad, hb n ad h1, ?_⟩
      cases u with
      | slice ad' n' c' => exact ⟨_, h _ _ _ _ h2, walk_kept h _ _ _ h3⟩
      | _ => cases p <;> simp [walk] at h3
theorem holdOf_kept {pers : Nat → Bool} {tm tm' : Nat → Value} {ba ba' : Nat → Option Addr} {w w' : World} (h : SlKept w w')
    (ht : ∀ t, pers t = true → tm' t = tm t) (hb : ∀ n ad, ba n = some ad → ba' n = some ad) :
    ∀ r v, holdOf pers tm ba w r = some v → (∃ a n c, v = .slice a n c) → holdOf pers tm' ba' w' r = some v := by
  rintro ⟨root, path⟩ v hr ⟨a, n, c, rfl⟩
  have key : ∀ r, (resOf pers tm ba w r).bind w.cell? = some (.slice a n c) → (resOf pers tm' ba' w' r).bind w'.cell? = some (.slice a n c) := by
    intro r hr
    simp only [Option.bind_eq_some_iff] at hr ⊢
    obtain ⟨ad, h1, h2⟩ := hr
    exact ⟨ad, resOf_kept h ht hb _ _ h1, h _ _ _ _ h2⟩
  cases root with
  | slot s =>
    cases path with
    | nil =>
      simp only [holdOf] at hr ⊢
      by_cases hp : pers s = true
      · rw [if_pos hp] at hr ⊢; rw [ht s hp]; exact hr
      · rw [if_neg hp] at hr; cases hr
    | cons c p => exact key _ hr
  | box n k => exact key _ hr
def getW : AV → List Comp → Option (List AV)
  | .sl _ es xs, c :: rest =>
    match xs[c.i]? with
    | none => none
    | some x => if es = c.es then (match rest with | [] => some ((cellsOf x).drop c.o) | _ => (match (cellsOf x)[c.o]? with | some y => getW y rest | none => none)) else none
  | _, _ => none
def getR (s : St) : Ref → Option (List AV)
  | ⟨.slot t, p⟩ => getW (s.env t) p
  | ⟨.box n k, []⟩ => (s.bx n).map (·.drop k)
  | ⟨.box n k, c :: p⟩ => ((s.bx n).bind (·[k]?)).bind fun v => getW v (c :: p)
def getH (s : St) : Ref → Option AV
  | ⟨.slot t, []⟩ => some (s.env t)
  | r => (getR s r).bind (·[0]?)
theorem RelL.get {X : Cx} {t : Bool} : ∀ {x : List AV} {v : List Value} {F : List Nat}, RelL X t x v F → ∀ {k : Nat} {y : AV}, x[k]? = some y →
    ∃ u G, v[k]? = some u ∧ Rel X t y u G ∧ isCell u = true ∧ (∀ b, b ∈ G → b ∈ F) := by
  intro x
  induction x with
  | nil => intro v F h k y hk; simp at hk
  | cons a x ih =>
    intro v F h k y hk
    cases h with
    | cons _ _ c F₁ _ vs F₂ hv h hs hd =>
      cases k with
      | zero => simp at hk; subst hk; exact ⟨c, F₁, by simp, h, hv, fun b hb => List.mem_append_left _ hb⟩
      | succ k =>
        obtain ⟨u, G, h1, h2, h3, h4⟩ := ih hs (k := k) (y := y) (by simpa using hk)
        exact ⟨u, G, by simpa using h1, h2, h3, fun b hb => List.mem_append_right _ (h4 b hb)⟩
theorem flat_get {xs : List AV} {es : Nat} (hu : ∀ x, x ∈ xs → (cellsOf x).length = es) : ∀ {i : Nat} {x : AV}, xs[i]? = some x → ∀ {o : Nat} {y : AV}, (cellsOf x)[o]? = some y →
    (flat xs)[i * es + o]? = some y := by
  induction xs with
  | nil => intro i x h; simp at h
  | cons a xs ih =>
    intro i x h o y hy
    have ha := hu a (List.mem_cons_self ..)
    rw [flat_cons]
    cases i with
    | zero =>
      simp at h; subst h
      have ho := (List.getElem?_eq_some_iff.1 hy).1
      rw [Nat.zero_mul, Nat.zero_add, List.getElem?_append_left ho]; exact hy
    | succ i =>
      rw [List.getElem?_append_right (by rw [ha, Nat.add_mul]; omega), ha]
      rw [show (i + 1) * es + o - es = i * es + o by rw [Nat.add_mul]; omega]
      exact ih (fun z hz => hu z (List.mem_cons_of_mem _ hz)) (by simpa using h) hy
def CellsAt (X : Cx) (F : List Nat) (ad : Addr) (cs : List AV) : Prop :=
  ∀ k y, cs[k]? = some y → ∃ t u G, X.w.cell? (ad.add k) = some u ∧ Rel X t y u G ∧ isCell u = true ∧ ∀ b, b ∈ G → b ∈ F
theorem getW_rel {X : Cx} : ∀ (p : List Comp) {t : Bool} {x : AV} {v : Value} {F : List Nat} {cs : List AV}, Rel X t x v F → getW x p = some cs → cs ≠ [] →
    ∃ ad, walk X.w v p = some ad ∧ CellsAt X F ad cs := by
  intro p
  induction p with
  | nil => intro t x v F cs h hg; cases x <;> simp [getW] at hg
  | cons c p ih =>
    intro t x v F cs h hg hne
    cases x with
    | sl fl es xs =>
      simp only [getW] at hg
      cases hx : xs[c.i]? with
      | none => simp [hx] at hg
      | some x =>
        simp only [hx] at hg
        by_cases he : es = c.es
        · rw [if_pos he] at hg
          -- the cells of the slice, however it is held
          have key : ∃ ad n cap vs G, v = .slice (some ad) n cap ∧ (∀ x, x ∈ xs → (cellsOf x).length = es) ∧ (∀ k u, vs[k]? = some u → X.w.cell? (ad.add k) = some u) ∧ RelL X false (flat xs) vs G ∧ ∀ b, b ∈ G → b ∈ F := by
            cases h with
            | nil => simp at hx
            | own _ _ b o cap _ arr e fr vs F hh hfr hs hn hu hr hc hb hbd hzf =>
              exact ⟨⟨b, o, none⟩, _, cap, vs, F, rfl, hu, fun k u hk => by rw [Addr.add_spot rfl]; simp only [World.cell?, hh]; simpa using hr k u hk, hc, fun b hb => List.mem_cons_of_mem _ hb⟩
            | imm _ _ _ ad cap _ vs hfl hn hu hr hc => exact ⟨ad, _, cap, vs, [], rfl, hu, fun k u hk => (hr k u hk).1, hc, fun b hb => hb⟩
          obtain ⟨ad, n, cap, vs, G, rfl, hu, hr, hc, hGF⟩ := key
          have hes : c.es = es := he.symm
          cases p with
          | nil =>
            simp only at hg
            injection hg with hg
            subst hg
            refine ⟨ad.add (c.i * c.es + c.o), by simp [walk], ?_⟩
            intro k y hk
            rw [List.getElem?_drop] at hk
            obtain ⟨u, G', h1, h2, h3, h4⟩ := hc.get (flat_get hu hx hk)
            exact ⟨false, u, G', by rw [Addr.add_add, hes, Nat.add_assoc]; exact hr _ _ h1, h2, h3, fun b hb => hGF b (h4 b hb)⟩
          | cons d p =>
            simp only at hg
            cases hy : (cellsOf x)[c.o]? with
            | none => simp [hy] at hg
            | some y =>
              simp only [hy] at hg
              obtain ⟨u, G', h1, h2, h3, h6⟩ := hc.get (flat_get hu hx hy)
              obtain ⟨ad', h4, h5⟩ := ih h2 hg hne
              refine ⟨ad', ?_, fun k y hk => ?_⟩
              rotate_left
              · obtain ⟨t', u', G2, q1, q2, q3, q4⟩ := h5 k y hk
                exact ⟨t', u', G2, q1, q2, q3, fun b hb => hGF b (h6 b (q4 b hb))⟩
              simp only [walk, Option.bind_eq_some_iff]
              exact ⟨u, by rw [hes]; exact hr _ _ h1, h4⟩
        · rw [if_neg he] at hg; cases hg
    | _ => simp [getW] at hg
theorem getR_rel {fc : Fc} {s : St} {a : Act} {w : World} {g : Gh} (h : SR fc s a w g) {r : Ref} {cs : List AV} (hp : ∀ t, r.root = .slot t → fc.pers t = true)
    (hg : getR s r = some cs) (hne : cs ≠ []) : ∃ ad q, (cx fc s a w g).res r = some ad ∧ CellsAt (cx fc s a w g) (g.F q) ad cs := by
  obtain ⟨root, path⟩ := r
  cases root with
  | slot t =>
    obtain ⟨ad, h1, h2⟩ := getW_rel path (h.slots t) (by simpa [getR] using hg) hne
    exact ⟨ad, .slot t, by simp only [cx, resOf]; rw [if_pos (hp t rfl)]; exact h1, h2⟩
  | box n k =>
    cases path with
    | nil =>
      simp only [getR, Option.map_eq_some_iff] at hg
      obtain ⟨cs', h1, rfl⟩ := hg
      obtain ⟨ad, vs, h2, h3, h4⟩ := h.boxes n cs' h1
      refine ⟨ad.add k, .box n, by simp [cx, resOf, h2], ?_⟩
      intro j y hy
      rw [List.getElem?_drop] at hy
      obtain ⟨u, G, h5, h6, h7, h8⟩ := h4.get hy
      exact ⟨true, u, G, by rw [Addr.add_add]; exact h3.cell h5, h6, h7, h8⟩
    | cons c p =>
      simp only [getR, Option.bind_eq_some_iff] at hg
      obtain ⟨x, ⟨cs', h1, h2⟩, h3⟩ := hg
      obtain ⟨ad, vs, h4, h5, h6⟩ := h.boxes n cs' h1
      obtain ⟨u, G, h7, h8, h9, h12⟩ := h6.get h2
      obtain ⟨ad', h10, h11⟩ := getW_rel _ h8 h3 hne
      refine ⟨ad', .box n, ?_, fun k y hk => ?_⟩
      rotate_left
      · obtain ⟨t', u', G2, q1, q2, q3, q4⟩ := h11 k y hk
        exact ⟨t', u', G2, q1, q2, q3, fun b hb => h12 b (q4 b hb)⟩
      simp only [cx, resOf, Option.bind_eq_some_iff]
      exact ⟨ad, h4, u, h5.cell h7, h10⟩
end Go.Ev
namespace Go.Ev
set_option linter.unusedVariables false
def upd {α : Type} (f : Nat → α) (d : Nat) (v : α) : Nat → α := fun t => if t = d then v else f t
theorem upd_same {α : Type} (f : Nat → α) (d : Nat) (v : α) : upd f d v d = v := by simp [upd]
theorem upd_other {α : Type} (f : Nat → α) {d t : Nat} (v : α) (h : t ≠ d) : upd f d v t = f t := by simp [upd, h]
def updP (f : Pos → List Nat) : Pos → List Nat → Pos → List Nat
  | .slot d, v, .slot t => if t = d then v else f (.slot t)
  | .box d, v, .box t => if t = d then v else f (.box t)
  | _, _, q => f q
theorem updP_same (f : Pos → List Nat) (p : Pos) (v : List Nat) : updP f p v p = v := by cases p <;> simp [updP]
theorem updP_other (f : Pos → List Nat) {p q : Pos} (v : List Nat) (h : q ≠ p) : updP f p v q = f q := by
  cases p <;> cases q <;> simp [updP] <;> intro hh <;> subst hh <;> exact absurd rfl h
def Gh.setF (g : Gh) (p : Pos) (H : List Nat) : Gh := { g with F := updP g.F p H }
theorem Gh.setF_same (g : Gh) (p : Pos) (v : List Nat) : (g.setF p v).F p = v := updP_same ..
theorem Gh.setF_other (g : Gh) {p q : Pos} (v : List Nat) (h : q ≠ p) : (g.setF p v).F q = g.F q := updP_other _ v h
def St.kl (s : St) (p : Bool → Ref → Bool) (ro : Bool) : St := { env := fun t => Ev.kl p ro (s.env t), bx := fun n => (s.bx n).map (klL p ro) }
def St.set (s : St) (d : Nat) (v : AV) : St := { s with env := upd s.env d v }
theorem bxcOf_kl (s : St) (p : Bool → Ref → Bool) (ro : Bool) (ba : Nat → Option Addr) : bxcOf (s.kl p ro).bx ba = bxcOf s.bx ba := by
  funext b i
  apply propext
  constructor
  · rintro ⟨n, cs, ad, h1, h2, h3, h4, h5⟩
    simp only [St.kl, Option.map_eq_some_iff] at h1
    obtain ⟨cs', h1, rfl⟩ := h1
    exact ⟨n, cs', ad, h1, h2, h3, h4, by simpa [klL_eq] using h5⟩
  · rintro ⟨n, cs, ad, h1, h2, h3, h4, h5⟩
    exact ⟨n, klL p ro cs, ad, by simp [St.kl, h1], h2, h3, h4, by simpa [klL_eq] using h5⟩
structure Hand (fc : Fc) (s : St) (g : Gh) (H : List Nat) : Prop where
  disj : ∀ q, Disj H (g.F q)
  sep : ∀ n cs ad, s.bx n = some cs → g.ba n = some ad → ad.block ∉ H
  free : ∀ b, b ∈ H → fc.free b
theorem Hand.nil (fc : Fc) (s : St) (g : Gh) : Hand fc s g [] := ⟨fun q b hb => (List.not_mem_nil hb).elim, fun _ _ _ _ _ h => (List.not_mem_nil h).elim, fun b hb => (List.not_mem_nil hb).elim⟩
theorem Cx.KeepsK.same {X X' : Cx} (hw : X'.w = X.w) (hb0 : X'.b0 = X.b0) (hbd : X'.bd = X.bd) (hb : X'.bxc = X.bxc) (hz : X'.zf = X.zf)
    (p : Bool → Ref → Bool) (ro : Bool) (F : Nat → Prop) (hres : ∀ r a, p false r = false → X.res r = some a → X'.res r = some a)
    (hhold : ∀ r v, p true r = false → X.hold r = some v → isCell v = true → (∃ a n c, v = .slice a n c) → X'.hold r = some v) : X.KeepsK X' p ro F where
  res := hres
  hold := hhold
  zf := fun b i v h1 h2 => by rw [hw, hz]; exact ⟨h1, h2⟩
  st := fun _ b i v h1 h2 => by rw [hw]; exact ⟨by simpa [Cx.st, hbd, hb, hb0, hz] using h1, h2⟩
  own := fun b _ => ⟨by rw [hw], by rw [hbd], fun i => by rw [hz]; exact id⟩
section
variable {fc : Fc} {s : St} {a : Act} {w : World} {g : Gh}
theorem SR.kill (h : SR fc s a w g) (p : Bool → Ref → Bool) (ro : Bool) : SR fc (s.kl p ro) a w g := by
  have hcx : cx fc (s.kl p ro) a w g = cx fc s a w g := by simp only [cx, bxcOf_kl]
  have hk : (cx fc s a w g).KeepsK (cx fc s a w g) p ro (fun _ => True) := .same rfl rfl rfl rfl rfl p ro _ (fun _ _ _ h => h) (fun _ _ _ h _ _ => h)
  refine ⟨fun t => ?_, fun n cs hn => ?_, fun n hn => ?_, h.disj, fun n cs ad hn => ?_, fun n m cs cs' ad ad' hnm hn hm => ?_, ?_, h.zfo, h.touchF, ?_, h.keep, h.defers, h.size, fun n hn => h.nob n (by simpa [St.kl] using hn), h.zfd, h.bdo, fun n h1 h2 => h.hbo n h1 (by simpa [St.kl] using h2)⟩
  · rw [hcx]; exact (h.slots t).kl hk (fun _ _ => trivial)
  · simp only [St.kl, Option.map_eq_some_iff] at hn
    obtain ⟨cs', h1, rfl⟩ := hn
    obtain ⟨ad, vs, h2, h3, h4⟩ := h.boxes n cs' h1
    exact ⟨ad, vs, h2, h3, by rw [hcx]; exact h4.kl hk (fun _ _ => trivial)⟩
  · exact h.nobox n (by simpa [St.kl] using hn)
  · simp only [St.kl, Option.map_eq_some_iff] at hn
    obtain ⟨cs', h1, rfl⟩ := hn
    exact h.sep n cs' ad h1
  · simp only [St.kl, Option.map_eq_some_iff] at hn hm
    obtain ⟨c1, h1, rfl⟩ := hn
    obtain ⟨c2, h2, rfl⟩ := hm
    intro h3 h4
    have := h.apart n m c1 c2 ad ad' hnm h1 h2 h3 h4
    simpa [klL_eq] using this
  · rw [bxcOf_kl]; exact h.zfb
  · rw [bxcOf_kl]; exact h.touchB
theorem SR.noBox (h : SR fc s a w g) {p : Pos} {b : Nat} (hb : b ∈ g.F p) (i : Nat) : ¬ bxcOf s.bx g.ba b i := by
  rintro ⟨n, cs, ad, h1, h2, rfl, _, _⟩
  exact h.sep n cs ad h1 h2 p hb
theorem Hand.noBox {H : List Nat} (h : Hand fc s g H) {b : Nat} (hb : b ∈ H) (i : Nat) : ¬ bxcOf s.bx g.ba b i := by
  rintro ⟨n, cs, ad, h1, h2, rfl, _, _⟩
  exact h.sep n cs ad h1 h2 hb
theorem SR.strip (h : SR fc s a w g) (t : Nat) :
    SR fc (s.set t (roD (s.env t))) a w (g.setF (.slot t) []) ∧ Hand fc (s.set t (roD (s.env t))) (g.setF (.slot t) []) (g.F (.slot t)) := by
  have hF : ∀ q b, b ∈ (g.setF (.slot t) []).F q → q ≠ .slot t ∧ b ∈ g.F q := by
    intro q b hb
    by_cases hq : q = .slot t
    · subst hq; rw [Gh.setF_same] at hb; cases hb
    · rw [Gh.setF_other _ _ hq] at hb; exact ⟨hq, hb⟩
  refine ⟨⟨fun u => ?_, fun n cs hn => ?_, fun n hn => ?_, fun p q hpq b hb hb' => ?_, fun n cs ad hn ha p hb => ?_, h.apart, h.zfb, h.zfo, fun p b hb => ?_, h.touchB, h.keep, h.defers, h.size, h.nob, h.zfd, h.bdo, h.hbo⟩, ⟨fun q b hb hb' => ?_, fun n cs ad hn ha hb => ?_, fun b hb => ?_⟩⟩
  · by_cases hu : u = t
    · subst hu
      rw [Gh.setF_same]
      simp only [St.set, upd_same]
      exact (h.slots u).ro fun b hb i => h.noBox hb i
    · rw [Gh.setF_other _ _ (by intro hh; injection hh with hh; exact hu hh)]
      simp only [St.set]
      rw [upd_other _ _ hu]
      exact h.slots u
  · obtain ⟨ad, vs, h2, h3, h4⟩ := h.boxes n cs hn
    exact ⟨ad, vs, h2, h3, by rw [Gh.setF_other _ _ (by intro hh; cases hh)]; exact h4⟩
  · rw [Gh.setF_other _ _ (by intro hh; cases hh)]; exact h.nobox n hn
  · exact h.disj p q hpq b (hF p b hb).2 (hF q b hb').2
  · exact h.sep n cs ad hn ha p (hF p _ hb).2
  · exact h.touchF p b (hF p b hb).2
  · obtain ⟨hq, hb''⟩ := hF q b hb'
    exact h.disj (.slot t) q (Ne.symm hq) b hb hb''
  · exact h.sep n cs ad hn ha _ hb
  · exact h.touchF _ b hb
theorem tmOf_put {c : Value} {d : Nat} (hd : d < a.tmps.size) (t : Nat) : tmOf (a.put (some d) c) t = if t = d then c else tmOf a t := by
  simp only [tmOf, Act.put, Array.getD_eq_getD_getElem?, Array.getElem?_setIfInBounds]
  by_cases h : d = t
  · subst h; simp [hd]
  · rw [if_neg h, if_neg (Ne.symm h)]
theorem SR.putL (h : SR fc s a w g) {d : Nat} (hd : d < fc.n) (hp : fc.pers d = false) {v : AV} {c : Value} {H : List Nat}
    (hv : Rel (cx fc s a w g) true v c H) (hH : ∀ q, q ≠ .slot d → Disj H (g.F q)) (hsep : ∀ n cs ad, s.bx n = some cs → g.ba n = some ad → ad.block ∉ H) (hfree : ∀ b, b ∈ H → fc.free b) :
    SR fc (s.set d v) (a.put (some d) c) w (g.setF (.slot d) H) := by
  have hda : d < a.tmps.size := by rw [h.size]; exact hd
  have hk : (cx fc s a w g).Keeps (cx fc (s.set d v) (a.put (some d) c) w (g.setF (.slot d) H)) (fun _ => True) := by
    refine ⟨?_, ?_, fun b i v h1 h2 => ⟨h1, h2⟩, fun b i v h1 h2 => ⟨h1, h2⟩, fun b _ => ⟨rfl, rfl, fun i h => h⟩⟩
    · exact resOf_kept (SlKept.refl w) (fun t ht => by rw [tmOf_put hda, if_neg (by intro hh; subst hh; rw [hp] at ht; cases ht)]) (fun _ _ h => h)
    · rintro ⟨root, path⟩ v hv
      have key : ∀ r v, (resOf fc.pers (tmOf a) g.ba w r).bind w.cell? = some v → (resOf fc.pers (tmOf (a.put (some d) c)) g.ba w r).bind w.cell? = some v := by
        intro r v hr
        simp only [Option.bind_eq_some_iff] at hr ⊢
        obtain ⟨ad, h1, h2⟩ := hr
        exact ⟨ad, resOf_kept (SlKept.refl w) (fun t ht => by rw [tmOf_put hda, if_neg (by intro hh; subst hh; rw [hp] at ht; cases ht)]) (fun _ _ h => h) _ _ h1, h2⟩
      cases root with
      | slot t =>
        cases path with
        | nil =>
          simp only [cx, holdOf] at hv ⊢
          by_cases ht : fc.pers t = true
          · rw [if_pos ht] at hv ⊢
            rw [tmOf_put hda, if_neg (by intro hh; subst hh; rw [hp] at ht; cases ht)]; exact hv
          · rw [if_neg ht] at hv; cases hv
        | cons c p => exact key _ _ hv
      | box n k => exact key _ _ hv
  refine ⟨fun u => ?_, fun n cs hn => ?_, fun n hn => ?_, fun p q hpq b hb hb' => ?_, fun n cs ad hn ha p hb => ?_, h.apart, h.zfb, h.zfo, fun p b hb => ?_, h.touchB, h.keep, ?_, ?_, h.nob, h.zfd, h.bdo, h.hbo⟩
  · rw [tmOf_put hda]
    by_cases hu : u = d
    · subst hu
      rw [Gh.setF_same, if_pos rfl]
      simp only [St.set, upd_same]
      exact hv.mono hk (fun _ _ => trivial)
    · rw [Gh.setF_other _ _ (by intro hh; injection hh with hh; exact hu hh), if_neg hu]
      simp only [St.set]
      rw [upd_other _ _ hu]
      exact (h.slots u).mono hk (fun _ _ => trivial)
  · obtain ⟨ad, vs, h2, h3, h4⟩ := h.boxes n cs hn
    exact ⟨ad, vs, h2, h3, by rw [Gh.setF_other _ _ (by intro hh; cases hh)]; exact h4.mono hk (fun _ _ => trivial)⟩
  · rw [Gh.setF_other _ _ (by intro hh; cases hh)]; exact h.nobox n hn
  · by_cases h1 : p = .slot d
    · subst h1
      rw [Gh.setF_same] at hb
      rw [Gh.setF_other _ _ (Ne.symm hpq)] at hb'
      exact hH q (Ne.symm hpq) b hb hb'
    · rw [Gh.setF_other _ _ h1] at hb
      by_cases h2 : q = .slot d
      · subst h2
        rw [Gh.setF_same] at hb'
        exact hH p h1 b hb' hb
      · rw [Gh.setF_other _ _ h2] at hb'
        exact h.disj p q hpq b hb hb'
  · by_cases h1 : p = .slot d
    · subst h1; rw [Gh.setF_same] at hb; exact hsep n cs ad hn ha hb
    · rw [Gh.setF_other _ _ h1] at hb; exact h.sep n cs ad hn ha p hb
  · by_cases h1 : p = .slot d
    · subst h1; rw [Gh.setF_same] at hb; exact hfree b hb
    · rw [Gh.setF_other _ _ h1] at hb; exact h.touchF p b hb
  · exact h.defers
  · simpa [Act.put] using h.size
def viaSlot (d : Nat) (_ : Bool) (r : Ref) : Bool := match r.root with | .slot t => t == d | _ => false
theorem SR.putP (h : SR fc s a w g) {d : Nat} (hd : d < fc.n) {v : AV} {c : Value} {H : List Nat}
    (hv : Rel (cx fc s a w g) true v c H) (hH : ∀ q, q ≠ .slot d → Disj H (g.F q)) (hsep : ∀ n cs ad, s.bx n = some cs → g.ba n = some ad → ad.block ∉ H) (hfree : ∀ b, b ∈ H → fc.free b) :
    SR fc ((s.kl (viaSlot d) false).set d (Ev.kl (viaSlot d) false v)) (a.put (some d) c) w (g.setF (.slot d) H) := by
  have hda : d < a.tmps.size := by rw [h.size]; exact hd
  have hk : (cx fc s a w g).KeepsK (cx fc ((s.kl (viaSlot d) false).set d (Ev.kl (viaSlot d) false v)) (a.put (some d) c) w (g.setF (.slot d) H)) (viaSlot d) false (fun _ => True) := by
    have hres : ∀ r a', viaSlot d false r = false → resOf fc.pers (tmOf a) g.ba w r = some a' → resOf fc.pers (tmOf (a.put (some d) c)) g.ba w r = some a' := by
      rintro ⟨root, path⟩ a' hv hr
      cases root with
      | slot t =>
        have hne : t ≠ d := by simpa [viaSlot] using hv
        simp only [resOf] at hr ⊢
        rw [tmOf_put hda, if_neg hne]; exact hr
      | box n k => cases path <;> exact hr
    refine Cx.KeepsK.same (X := cx fc s a w g) (X' := cx fc ((s.kl (viaSlot d) false).set d (Ev.kl (viaSlot d) false v)) (a.put (some d) c) w (g.setF (.slot d) H)) rfl rfl rfl ?_ rfl _ _ _ hres ?_
    · simp only [cx]; exact bxcOf_kl s _ _ _
    · rintro ⟨root, path⟩ u hv hu _ _
      have key : ∀ r, viaSlot d false r = false → (resOf fc.pers (tmOf a) g.ba w r).bind w.cell? = some u → (resOf fc.pers (tmOf (a.put (some d) c)) g.ba w r).bind w.cell? = some u := by
        intro r hr0 hr
        simp only [Option.bind_eq_some_iff] at hr ⊢
        obtain ⟨ad, h1, h2⟩ := hr
        exact ⟨ad, hres _ _ hr0 h1, h2⟩
      cases root with
      | slot t =>
        have hne : t ≠ d := by simpa [viaSlot] using hv
        cases path with
        | nil =>
          simp only [cx, holdOf] at hu ⊢
          rw [tmOf_put hda, if_neg hne]; exact hu
        | cons c p => exact key _ (by simpa [viaSlot] using hv) hu
      | box n k => exact key _ (by simp [viaSlot]) hu
  have h' := h.kill (viaSlot d) false
  refine ⟨fun u => ?_, fun n cs hn => ?_, fun n hn => ?_, fun p q hpq b hb hb' => ?_, fun n cs ad hn ha p hb => ?_, h'.apart, h'.zfb, h.zfo, fun p b hb => ?_, h'.touchB, h.keep, h.defers, ?_, h'.nob, h.zfd, h.bdo, h'.hbo⟩
  · rw [tmOf_put hda]
    by_cases hu : u = d
    · subst hu
      rw [Gh.setF_same, if_pos rfl]
      simp only [St.set, upd_same]
      exact hv.kl hk (fun _ _ => trivial)
    · rw [Gh.setF_other _ _ (by intro hh; injection hh with hh; exact hu hh), if_neg hu]
      simp only [St.set]
      rw [upd_other _ _ hu]
      exact (h.slots u).kl hk (fun _ _ => trivial)
  · simp only [St.set, St.kl, Option.map_eq_some_iff] at hn
    obtain ⟨cs', hn, rfl⟩ := hn
    obtain ⟨ad, vs, h2, h3, h4⟩ := h.boxes n cs' hn
    exact ⟨ad, vs, h2, h3, by rw [Gh.setF_other _ _ (by intro hh; cases hh)]; exact h4.kl hk (fun _ _ => trivial)⟩
  · rw [Gh.setF_other _ _ (by intro hh; cases hh)]; exact h'.nobox n hn
  · by_cases h1 : p = .slot d
    · subst h1
      rw [Gh.setF_same] at hb
      rw [Gh.setF_other _ _ (Ne.symm hpq)] at hb'
      exact hH q (Ne.symm hpq) b hb hb'
    · rw [Gh.setF_other _ _ h1] at hb
      by_cases h2 : q = .slot d
      · subst h2
        rw [Gh.setF_same] at hb'
        exact hH p h1 b hb' hb
      · rw [Gh.setF_other _ _ h2] at hb'
        exact h.disj p q hpq b hb hb'
  · simp only [St.set, St.kl, Option.map_eq_some_iff] at hn
    obtain ⟨cs', hn, rfl⟩ := hn
    by_cases h1 : p = .slot d
    · subst h1; rw [Gh.setF_same] at hb; exact hsep n cs' ad hn ha hb
    · rw [Gh.setF_other _ _ h1] at hb; exact h.sep n cs' ad hn ha p hb
  · by_cases h1 : p = .slot d
    · subst h1; rw [Gh.setF_same] at hb; exact hfree b hb
    · rw [Gh.setF_other _ _ h1] at hb; exact h.touchF p b hb
  · simpa [Act.put] using h.size
theorem SR.heap (h : SR fc s a w g) {w' : World} (hh : w'.heap = w.heap) (ho : w'.os = w.os) (ht : w'.tape = w.tape) (hou : w'.output = w.output) : SR fc s a w' g := by
  have hc : ∀ ad, w'.cell? ad = w.cell? ad := fun ad => by simp [World.cell?, hh]
  have hsl : SlKept w w' := fun ad b n c hcl => by rw [hc]; exact hcl
  have hk : (cx fc s a w g).Keeps (cx fc s a w' g) (fun _ => True) := by
    refine ⟨resOf_kept hsl (fun _ _ => rfl) (fun _ _ h => h), ?_, fun b i v h1 h2 => ⟨h1, by rw [← h2]; exact hc _⟩, fun b i v h1 h2 => ⟨h1, by rw [← h2]; exact hc _⟩, fun b _ => ⟨by simp [cx, hh], rfl, fun i h => h⟩⟩
    rintro ⟨root, path⟩ v hv
    have key : ∀ r, (resOf fc.pers (tmOf a) g.ba w r).bind w.cell? = some v → (resOf fc.pers (tmOf a) g.ba w' r).bind w'.cell? = some v := by
      intro r hr
      simp only [Option.bind_eq_some_iff] at hr ⊢
      obtain ⟨ad, h1, h2⟩ := hr
      exact ⟨ad, resOf_kept hsl (fun _ _ => rfl) (fun _ _ h => h) _ _ h1, by rw [hc]; exact h2⟩
    cases root with
    | slot t => cases path with
      | nil => exact hv
      | cons c p => exact key _ hv
    | box n k => exact key _ hv
  refine ⟨fun u => (h.slots u).mono hk (fun _ _ => trivial), fun n cs hn => ?_, h.nobox, h.disj, h.sep, h.apart, h.zfb, h.zfo, h.touchF, h.touchB, ?_, h.defers, h.size, h.nob, h.zfd, h.bdo, h.hbo⟩
  · obtain ⟨ad, vs, h2, ⟨h3, h4⟩, h5⟩ := h.boxes n cs hn
    exact ⟨ad, vs, h2, ⟨h3, by rw [hh]; exact h4⟩, h5.mono hk (fun _ _ => trivial)⟩
  · obtain ⟨h1, h2, h3, h4, h5, h6⟩ := h.keep
    exact ⟨ho.trans h1, ht.trans h2, hou.trans h3, by rw [hh]; exact h4, by rw [hh]; exact h5, by rw [hh]; exact h6⟩
end
end Go.Ev
namespace Go.Ev
set_option linter.unusedVariables false
mutual
theorem Rel.lt {X : Cx} : ∀ {t : Bool} {x : AV} {v : Value} {F : List Nat}, Rel X t x v F → ∀ b, b ∈ F → b < X.w.heap.size
  | _, _, _, _, .junk _ _, b, hb => (List.not_mem_nil hb).elim
  | _, _, _, _, .lit _ _ _, b, hb => (List.not_mem_nil hb).elim
  | _, _, _, _, .nil _ _ _ _, b, hb => (List.not_mem_nil hb).elim
  | _, _, _, _, .own _ xs b₀ o cap es arr e fr vs F hh hfr hs hn hu hr hc hb₀ hbd hzf, b, hb => by
    rcases List.mem_cons.1 hb with rfl | hb
    · exact (Array.getElem?_eq_some_iff.1 hh).1
    · exact RelL.lt hc b hb
  | _, _, _, _, .imm _ _ _ _ _ _ _ _ _ _ _ _, b, hb => (List.not_mem_nil hb).elim
  | _, _, _, _, .agg _ _ _ _ hc, b, hb => RelL.lt hc b hb
  | _, _, _, _, .tup _ _ _ _ hc, b, hb => RelT.lt hc b hb
  | _, _, _, _, .ptr _ _ _, b, hb => (List.not_mem_nil hb).elim
  | _, _, _, _, .bor _ _ _ _ _, b, hb => (List.not_mem_nil hb).elim
  | _, _, _, _, .cell _ _ _ _ _ _ _ _ _ _, b, hb => (List.not_mem_nil hb).elim
  | _, _, _, _, .clo _ _ _ _, b, hb => (List.not_mem_nil hb).elim
theorem RelL.lt {X : Cx} : ∀ {t : Bool} {x : List AV} {v : List Value} {F : List Nat}, RelL X t x v F → ∀ b, b ∈ F → b < X.w.heap.size
  | _, _, _, _, .nil _, b, hb => (List.not_mem_nil hb).elim
  | _, _, _, _, .cons _ _ _ _ _ _ _ _ h hs _, b, hb => by
    rcases List.mem_append.1 hb with hb | hb
    · exact Rel.lt h b hb
    · exact RelL.lt hs b hb
theorem RelT.lt {X : Cx} : ∀ {t : Bool} {x : List AV} {v : List Value} {F : List Nat}, RelT X t x v F → ∀ b, b ∈ F → b < X.w.heap.size
  | _, _, _, _, .nil _, b, hb => (List.not_mem_nil hb).elim
  | _, _, _, _, .cons _ _ _ _ _ _ _ h hs _, b, hb => by
    rcases List.mem_append.1 hb with hb | hb
    · exact Rel.lt h b hb
    · exact RelT.lt hs b hb
end
theorem BoxAt.lt {w : World} {ad : Addr} {vs : List Value} (h : BoxAt w ad vs) : ad.block < w.heap.size := by
  obtain ⟨_, arr, e, fr, hh, _⟩ := h
  exact (Array.getElem?_eq_some_iff.1 hh).1
theorem heap_alloc (w : World) (o : Obj) (b : Nat) : (w.alloc o).heap[b]? = if b = w.heap.size then some o else w.heap[b]? := by
  simp only [World.alloc, Array.getElem?_push]
theorem size_alloc (w : World) (o : Obj) : (w.alloc o).heap.size = w.heap.size + 1 := by simp only [World.alloc, Array.size_push]
theorem heap_alloc_lt (w : World) (o : Obj) {b : Nat} (h : b < w.heap.size) : (w.alloc o).heap[b]? = w.heap[b]? := by
  rw [heap_alloc, if_neg (by omega)]
theorem cell_lt {w : World} {a : Addr} {v : Value} (h : w.cell? a = some v) : a.block < w.heap.size := by
  unfold World.cell? at h
  split at h
  · rename_i hh; exact (Array.getElem?_eq_some_iff.1 hh).1
  · cases h
theorem cell_alloc (w : World) (o : Obj) {a : Addr} {v : Value} (h : w.cell? a = some v) : (w.alloc o).cell? a = some v := by
  have := cell_lt h
  rw [← h]; simp only [World.cell?, heap_alloc_lt w o this]
section
variable {fc : Fc} {s : St} {a : Act} {w : World} {g : Gh}
theorem SR.F_lt (h : SR fc s a w g) {p : Pos} {b : Nat} (hb : b ∈ g.F p) : b < w.heap.size := by
  cases p with
  | slot t => exact (h.slots t).lt b hb
  | box n =>
    cases hn : s.bx n with
    | none => rw [h.nobox n hn] at hb; cases hb
    | some cs => obtain ⟨ad, vs, h2, h3, h4⟩ := h.boxes n cs hn; exact h4.lt b hb
theorem SR.bxc_lt (h : SR fc s a w g) {b i : Nat} (hb : bxcOf s.bx g.ba b i) : b < w.heap.size := by
  obtain ⟨n, cs, ad, h1, h2, rfl, _, _⟩ := hb
  obtain ⟨ad', vs, h3, h4, h5⟩ := h.boxes n cs h1
  rw [h2] at h3; injection h3 with h3; subst h3; exact h4.lt
theorem keeps_alloc (fc : Fc) (s : St) (a : Act) (w : World) (g : Gh) (arr : Array Value) (e : TypeId) (fr : Nat × Nat) (m : Option Nat) :
    (cx fc s a w g).Keeps (cx fc s a (w.alloc (.cells arr e fr)) { g with bd := upd g.bd w.heap.size m }) (fun b => b < w.heap.size) := by
  have hsl : SlKept w (w.alloc (.cells arr e fr)) := fun ad b n c hcl => cell_alloc w _ hcl
  refine ⟨resOf_kept hsl (fun _ _ => rfl) (fun _ _ h => h), ?_, fun b i v h1 h2 => ⟨h1, cell_alloc w _ h2⟩, fun b i v h1 h2 => ⟨?_, cell_alloc w _ h2⟩, fun b hb => ⟨?_, ?_, fun i h => h⟩⟩
  · rintro ⟨root, path⟩ v hv
    have key : ∀ r, (resOf fc.pers (tmOf a) g.ba w r).bind w.cell? = some v → (resOf fc.pers (tmOf a) g.ba (w.alloc (.cells arr e fr)) r).bind (w.alloc (.cells arr e fr)).cell? = some v := by
      intro r hr
      simp only [Option.bind_eq_some_iff] at hr ⊢
      obtain ⟨ad, h1, h2⟩ := hr
      exact ⟨ad, resOf_kept hsl (fun _ _ => rfl) (fun _ _ h => h) _ _ h1, cell_alloc w _ h2⟩
    cases root with
    | slot t => cases path with
      | nil => exact hv
      | cons c p => exact key _ hv
    | box n k => exact key _ hv
  · have hb := cell_lt h2
    have hne : b ≠ w.heap.size := by simp only [cx] at hb; omega
    refine ⟨fun m' hm' => h1.1 m' ?_, h1.2.1, ?_⟩
    · simp only [cx] at hm' ⊢
      rwa [upd_other _ _ hne] at hm'
    · have := h1.2.2
      simp only [cx] at this ⊢
      rwa [upd_other _ _ hne]
  · exact heap_alloc_lt w _ hb
  · simp only [cx]; rw [upd_other _ _ (by omega)]
theorem SR.alloc (h : SR fc s a w g) (arr : Array Value) (e : TypeId) (fr : Nat × Nat) (m : Option Nat) :
    SR fc s a (w.alloc (.cells arr e fr)) { g with bd := upd g.bd w.heap.size m } := by
  have hk := keeps_alloc fc s a w g arr e fr m
  refine ⟨fun u => (h.slots u).mono hk (fun b hb => h.F_lt hb), fun n cs hn => ?_, h.nobox, h.disj, h.sep, h.apart, h.zfb, h.zfo, h.touchF, h.touchB, ?_, h.defers, h.size, h.nob, fun b i hz => ?_, fun b hb hT => ?_, h.hbo⟩
  · obtain ⟨ad, vs, h2, h3, h5⟩ := h.boxes n cs hn
    have hlt := h3.lt
    obtain ⟨h4, h6⟩ := h3
    exact ⟨ad, vs, h2, ⟨h4, by rw [heap_alloc_lt w _ hlt]; exact h6⟩, h5.mono hk (fun b hb => h.F_lt hb)⟩
  · obtain ⟨h1, h2, h3, h4, h5, h6⟩ := h.keep
    refine ⟨h1, h2, h3, by rw [size_alloc]; omega, fun b hb hT => ?_, fun b hb arr' e' fr' hh => ?_⟩
    · rw [heap_alloc_lt w _ (by omega)]; exact h5 b hb hT
    · rw [heap_alloc_lt w _ (by omega)]; exact h6 b hb arr' e' fr' hh
  · have := h.zfo b i hz
    have := h.keep.size
    simp only; rw [upd_other _ _ (by omega)]; exact h.zfd b i hz
  · have := h.keep.size
    simp only; rw [upd_other _ _ (by omega)]; exact h.bdo b hb hT
theorem SR.next (h : SR fc s a w g) : (∀ p, w.heap.size ∉ g.F p) ∧ (∀ i, ¬ bxcOf s.bx g.ba w.heap.size i) ∧ (∀ i, ¬ fc.zf w.heap.size i) ∧ fc.free w.heap.size :=
  ⟨fun p hb => by have := h.F_lt hb; omega, fun i hb => by have := h.bxc_lt hb; omega, fun i hz => by have := h.zfo _ _ hz; have := h.keep.size; omega, .inl h.keep.size⟩
theorem Rel.alloc (h : SR fc s a w g) (arr : Array Value) (e : TypeId) (fr : Nat × Nat) (m : Option Nat) {t : Bool} {x : AV} {v : Value} {F : List Nat}
    (hr : Rel (cx fc s a w g) t x v F) : Rel (cx fc s a (w.alloc (.cells arr e fr)) { g with bd := upd g.bd w.heap.size m }) t x v F :=
  hr.mono (keeps_alloc fc s a w g arr e fr m) (fun b hb => hr.lt b hb)
theorem RelL.alloc (h : SR fc s a w g) (arr : Array Value) (e : TypeId) (fr : Nat × Nat) (m : Option Nat) {t : Bool} : ∀ {x : List AV} {v : List Value} {F : List Nat}
    (_ : RelL (cx fc s a w g) t x v F), RelL (cx fc s a (w.alloc (.cells arr e fr)) { g with bd := upd g.bd w.heap.size m }) t x v F := by
  intro x
  induction x with
  | nil => intro v F hr; cases hr; exact .nil t
  | cons y x ih => intro v F hr; cases hr with | cons _ _ c F₁ _ vs F₂ hv hr hs hd => exact .cons t y c F₁ x vs F₂ hv (hr.alloc h arr e fr m) (ih hs) hd
def viaBox (d : Nat) (_ : Bool) (r : Ref) : Bool := match r.root with | .box n _ => n == d | _ => false
def St.setB (s : St) (d : Nat) (cs : List AV) : St := { s with bx := upd s.bx d (some cs) }
theorem bxcOf_setB {bx : Nat → Option (List AV)} {ba : Nat → Option Addr} {d : Nat} {cs : List AV} {ad : Addr} {b i : Nat}
    (h : bxcOf (upd bx d (some cs)) (upd ba d (some ad)) b i) : (b = ad.block ∧ ad.off ≤ i ∧ i < ad.off + cs.length) ∨ ∃ n cs' ad', n ≠ d ∧ bx n = some cs' ∧ ba n = some ad' ∧ b = ad'.block ∧ ad'.off ≤ i ∧ i < ad'.off + cs'.length := by
  obtain ⟨n, cs', ad', h1, h2, h3, h4, h5⟩ := h
  by_cases hn : n = d
  · subst hn
    rw [upd_same] at h1 h2
    injection h1 with h1; injection h2 with h2; subst h1; subst h2
    exact .inl ⟨h3, h4, h5⟩
  · rw [upd_other _ _ hn] at h1 h2
    exact .inr ⟨n, cs', ad', hn, h1, h2, h3, h4, h5⟩
theorem SR.newBox (h : SR fc s a w g) (d : Nat) (hdn : d < fc.n) (e : TypeId) {cs : List AV} {vs : List Value} {H : List Nat}
    (hv : RelL (cx fc s a w g) true cs vs H) (hH : ∀ q, q ≠ .box d → Disj H (g.F q)) (hsep : ∀ n cs ad, s.bx n = some cs → g.ba n = some ad → ad.block ∉ H) (hfree : ∀ b, b ∈ H → fc.free b) :
    SR fc ((s.kl (viaBox d) false).setB d (klL (viaBox d) false cs)) a (w.alloc (.cells vs.toArray e)) { bd := g.bd, ba := upd g.ba d (some ⟨w.heap.size, 0, none⟩), F := updP g.F (.box d) H } := by
  have hnx := h.next
  have hsl : SlKept w (w.alloc (.cells vs.toArray e)) := fun ad b n c hcl => cell_alloc w _ hcl
  have hbxc : ∀ b i, b < w.heap.size → bxcOf ((s.kl (viaBox d) false).setB d (klL (viaBox d) false cs)).bx (upd g.ba d (some ⟨w.heap.size, 0, none⟩)) b i → bxcOf s.bx g.ba b i := by
    intro b i hb hx
    rcases bxcOf_setB hx with ⟨rfl, _⟩ | ⟨n, cs', ad', h0, h1, h2, h3, h4, h5⟩
    · exact absurd hb (by simp)
    · simp only [St.kl, Option.map_eq_some_iff] at h1
      obtain ⟨cs'', h1, rfl⟩ := h1
      exact ⟨n, cs'', ad', h1, h2, h3, h4, by simpa [klL_eq] using h5⟩
  have hres : ∀ r a', viaBox d false r = false → resOf fc.pers (tmOf a) g.ba w r = some a' → resOf fc.pers (tmOf a) (upd g.ba d (some ⟨w.heap.size, 0, none⟩)) (w.alloc (.cells vs.toArray e)) r = some a' := by
    rintro ⟨root, path⟩ a' hv hr
    cases root with
    | slot t =>
      simp only [resOf] at hr ⊢
      by_cases hp : fc.pers t = true
      · rw [if_pos hp] at hr ⊢; exact walk_kept hsl _ _ _ hr
      · rw [if_neg hp] at hr; cases hr
    | box n k =>
      have hne : n ≠ d := by simpa [viaBox] using hv
      cases path with
      | nil => simp only [resOf] at hr ⊢; rw [upd_other _ _ hne]; exact hr
      | cons c p =>
        simp only [resOf] at hr ⊢
        rw [upd_other _ _ hne]
        simp only [Option.bind_eq_some_iff] at hr ⊢
        obtain ⟨ad, h1, u, h2, h3⟩ := hr
        exact ⟨ad, h1, u, cell_alloc w _ h2, walk_kept hsl _ _ _ h3⟩
  have hk : (cx fc s a w g).KeepsK (cx fc ((s.kl (viaBox d) false).setB d (klL (viaBox d) false cs)) a (w.alloc (.cells vs.toArray e)) { bd := g.bd, ba := upd g.ba d (some ⟨w.heap.size, 0, none⟩), F := updP g.F (.box d) H }) (viaBox d) false (fun b => b < w.heap.size) := by
    refine ⟨hres, ?_, fun b i v h1 h2 => ⟨h1, cell_alloc w _ h2⟩, fun _ b i v h1 h2 => ⟨⟨h1.1, fun hx => h1.2.1 (hbxc b i (cell_lt h2) hx), h1.2.2⟩, cell_alloc w _ h2⟩, fun b hb => ⟨heap_alloc_lt w _ hb, rfl, fun i h => h⟩⟩
    rintro ⟨root, path⟩ v hr0 hv _ _
    have key : ∀ r, viaBox d true r = false → (resOf fc.pers (tmOf a) g.ba w r).bind w.cell? = some v → (resOf fc.pers (tmOf a) (upd g.ba d (some ⟨w.heap.size, 0, none⟩)) (w.alloc (.cells vs.toArray e)) r).bind (w.alloc (.cells vs.toArray e)).cell? = some v := by
      intro r hr0 hr
      simp only [Option.bind_eq_some_iff] at hr ⊢
      obtain ⟨ad, h1, h2⟩ := hr
      exact ⟨ad, hres r ad hr0 h1, cell_alloc w _ h2⟩
    cases root with
    | slot t => cases path with
      | nil => exact hv
      | cons c p => exact key _ hr0 hv
    | box n k => exact key _ hr0 hv
  have hF : ∀ {q b}, b ∈ updP g.F (.box d) H q → (q = .box d ∧ b ∈ H) ∨ (q ≠ .box d ∧ b ∈ g.F q) := by
    intro q b hb
    by_cases hq : q = .box d
    · subst hq; rw [updP_same] at hb; exact .inl ⟨rfl, hb⟩
    · rw [updP_other _ _ hq] at hb; exact .inr ⟨hq, hb⟩
  have hbx : ∀ {n cs'}, ((s.kl (viaBox d) false).setB d (klL (viaBox d) false cs)).bx n = some cs' → (n = d ∧ cs' = klL (viaBox d) false cs) ∨ (n ≠ d ∧ ∃ cs'', s.bx n = some cs'' ∧ cs' = klL (viaBox d) false cs'') := by
    intro n cs' hn
    simp only [St.setB] at hn
    by_cases hd : n = d
    · subst hd; rw [upd_same] at hn; injection hn with hn; exact .inl ⟨rfl, hn.symm⟩
    · rw [upd_other _ _ hd] at hn
      simp only [St.kl, Option.map_eq_some_iff] at hn
      obtain ⟨cs'', h1, h2⟩ := hn
      exact .inr ⟨hd, cs'', h1, h2.symm⟩
  have hlen := hv.length
  refine ⟨fun u => ?_, fun n cs' hn => ?_, fun n hn => ?_, fun p q hpq b hb hb' => ?_, fun n cs' ad hn ha p hb => ?_, fun n m c1 c2 ad ad' hnm hn hm ha ha' => ?_, fun b i hz hx => ?_, h.zfo, fun p b hb => ?_, fun b i hx => ?_, ?_, h.defers, h.size, fun n hn => ?_, h.zfd, h.bdo, fun n h1 h2 => by
    have hd : n ≠ d := by omega
    simp only [St.setB] at h2; rw [upd_other _ _ hd] at h2
    simp only; rw [upd_other _ _ hd]
    exact h.hbo n h1 (by simpa [St.kl] using h2)⟩
  · simp only
    rw [updP_other _ _ (by intro hh; cases hh)]
    exact (h.slots u).kl hk (fun b hb => h.F_lt hb)
  · simp only
    rcases hbx hn with ⟨rfl, rfl⟩ | ⟨hd, cs'', h1, rfl⟩
    · rw [updP_same, upd_same]
      refine ⟨⟨w.heap.size, 0, none⟩, vs, rfl, ⟨rfl, vs.toArray, e, (0, 0), by rw [heap_alloc, if_pos rfl], fun i _ => by simp, fun k v hk => by simpa using hk⟩, ?_⟩
      exact hv.kl hk (fun b hb => hv.lt b hb)
    · obtain ⟨ad, vs', h2, h3, h5⟩ := h.boxes n cs'' h1
      rw [updP_other _ _ (by intro hh; injection hh with hh; exact hd hh), upd_other _ _ hd]
      have hlt := h3.lt
      obtain ⟨h4, h6⟩ := h3
      exact ⟨ad, vs', h2, ⟨h4, by rw [heap_alloc_lt w _ hlt]; exact h6⟩, h5.kl hk (fun b hb => h.F_lt hb)⟩
  · simp only
    have hd : n ≠ d := by intro hd; subst hd; simp [St.setB, upd_same] at hn
    rw [updP_other _ _ (by intro hh; injection hh with hh; exact hd hh)]
    simp only [St.setB] at hn
    rw [upd_other _ _ hd] at hn
    exact h.nobox n (by simpa [St.kl] using hn)
  · rcases hF hb with ⟨h1, k1⟩ | ⟨h1, k1⟩ <;> rcases hF hb' with ⟨h2, k2⟩ | ⟨h2, k2⟩
    · exact hpq (h1.trans h2.symm)
    · exact hH q h2 b k1 k2
    · exact hH p h1 b k2 k1
    · exact h.disj p q hpq b k1 k2
  · simp only at ha
    rcases hbx hn with ⟨rfl, rfl⟩ | ⟨hd, cs'', h1, rfl⟩
    · rw [upd_same] at ha; injection ha with ha; subst ha
      rcases hF hb with ⟨_, hb⟩ | ⟨_, hb⟩
      · exact absurd (hv.lt _ hb) (by simp [cx])
      · exact hnx.1 _ hb
    · rw [upd_other _ _ hd] at ha
      rcases hF hb with ⟨_, hb⟩ | ⟨_, hb⟩
      · exact hsep n cs'' ad h1 ha hb
      · exact h.sep n cs'' ad h1 ha p hb
  · simp only at ha ha'
    rcases hbx hn with ⟨rfl, rfl⟩ | ⟨hd, cs'', h1, rfl⟩ <;> rcases hbx hm with ⟨rfl, rfl⟩ | ⟨hd', cs3, h1', rfl⟩
    · exact absurd rfl hnm
    · rw [upd_same] at ha; injection ha with ha; subst ha
      rw [upd_other _ _ hd'] at ha'
      obtain ⟨ad3, vs', h2, h3, h5⟩ := h.boxes m cs3 h1'
      rw [h2] at ha'; injection ha' with ha'; subst ha'
      have := h3.lt
      left; simp only; omega
    · rw [upd_same] at ha'; injection ha' with ha'; subst ha'
      rw [upd_other _ _ hd] at ha
      obtain ⟨ad3, vs', h2, h3, h5⟩ := h.boxes n cs'' h1
      rw [h2] at ha; injection ha with ha; subst ha
      have := h3.lt
      left; simp only; omega
    · rw [upd_other _ _ hd] at ha
      rw [upd_other _ _ hd'] at ha'
      have := h.apart n m _ _ ad ad' hnm h1 h1' ha ha'
      simpa [klL_eq] using this
  · have hb : b < w.heap.size := by have := h.zfo b i hz; have := h.keep.size; omega
    exact h.zfb b i hz (hbxc b i hb hx)
  · rcases hF hb with ⟨_, hb⟩ | ⟨_, hb⟩
    · exact hfree b hb
    · exact h.touchF p b hb
  · by_cases hb : b < w.heap.size
    · exact h.touchB b i (hbxc b i hb hx)
    · left; have := h.keep.size; omega
  · obtain ⟨h1, h2, h3, h4, h5, h6⟩ := h.keep
    refine ⟨h1, h2, h3, by rw [size_alloc]; omega, fun b hb hT => ?_, fun b hb arr' e' fr' hh => ?_⟩
    · rw [heap_alloc_lt w _ (by omega)]; exact h5 b hb hT
    · rw [heap_alloc_lt w _ (by omega)]; exact h6 b hb arr' e' fr' hh
  · simp only [St.setB] at hn
    have hd : n ≠ d := by intro hd; subst hd; simp [upd_same] at hn
    rw [upd_other _ _ hd] at hn
    simp only; rw [upd_other _ _ hd]
    exact h.nob n (by simpa [St.kl] using hn)
end
end Go.Ev
namespace Go.Ev
set_option linter.unusedVariables false
structure Wrote (w w' : World) (b o : Nat) (us : List Value) : Prop where
  os : w'.os = w.os
  tape : w'.tape = w.tape
  output : w'.output = w.output
  size : w'.heap.size = w.heap.size
  other : ∀ c, c ≠ b → w'.heap[c]? = w.heap[c]?
  blk : ∃ arr arr' e fr, w.heap[b]? = some (.cells arr e fr) ∧ w'.heap[b]? = some (.cells arr' e fr) ∧ arr'.size = arr.size ∧ o + us.length ≤ arr.size ∧
    ∀ j, arr'[j]? = if o ≤ j ∧ j < o + us.length then us[j - o]? else arr[j]?
theorem heap_setCell (w : World) (a : Addr) (v : Value) (b : Nat) : (w.setCell a v).heap[b]? = if a.block = b then (w.heap[b]?).map (fun
      | .cells c elem frozen => .cells (if a.spot.isSome then c else c.setIfInBounds a.off v) elem frozen
      | o => o) else w.heap[b]? := by
  simp only [World.setCell, Array.getElem?_modify]
  rfl
theorem Wrote.one (w : World) (b o : Nat) (v : Value) {arr : Array Value} {e : TypeId} {fr : Nat × Nat} (hh : w.heap[b]? = some (.cells arr e fr)) (ho : o < arr.size) :
    Wrote w (w.setCell ⟨b, o, none⟩ v) b o [v] := by
  refine ⟨rfl, rfl, rfl, by simp [World.setCell], fun c hc => by rw [heap_setCell, if_neg (by simpa using Ne.symm hc)], arr, arr.setIfInBounds o v, e, fr, hh, ?_, by simp, by simp only [List.length_cons, List.length_nil]; omega, fun j => ?_⟩
  · rw [heap_setCell, if_pos rfl, hh]; rfl
  · rw [Array.getElem?_setIfInBounds]
    by_cases hj : o = j
    · subst hj; simp [ho]
    · rw [if_neg hj, if_neg (by simp; omega)]
theorem Wrote.nil (w : World) (b o : Nat) {arr : Array Value} {e : TypeId} {fr : Nat × Nat} (hh : w.heap[b]? = some (.cells arr e fr)) (ho : o ≤ arr.size) : Wrote w w b o [] :=
  ⟨rfl, rfl, rfl, rfl, fun _ _ => rfl, arr, arr, e, fr, hh, hh, rfl, by simpa using ho, fun j => by rw [if_neg (by simp only [List.length_nil]; omega)]⟩
theorem Wrote.cons {w w1 w2 : World} {b o : Nat} {v : Value} {us : List Value} (h1 : Wrote w w1 b o [v]) (h2 : Wrote w1 w2 b (o + 1) us) : Wrote w w2 b o (v :: us) := by
  obtain ⟨a1, a2, e, fr, p1, p2, p3, p4, p5⟩ := h1.blk
  obtain ⟨b1, b2, e', fr', q1, q2, q3, q4, q5⟩ := h2.blk
  rw [p2] at q1
  injection q1 with q1
  injection q1 with q1 q1' q1''
  subst q1; subst q1'; subst q1''
  refine ⟨h2.os.trans h1.os, h2.tape.trans h1.tape, h2.output.trans h1.output, h2.size.trans h1.size, fun c hc => (h2.other c hc).trans (h1.other c hc), a1, b2, e, fr, p1, q2, q3.trans p3, by simp at q4 p4 ⊢; omega, fun j => ?_⟩
  rw [q5 j, p5 j]
  simp only [List.length_cons, List.length_nil]
  by_cases h : o + 1 ≤ j ∧ j < o + 1 + us.length
  · rw [if_pos h, if_pos (by omega), show j - o = (j - (o + 1)) + 1 by omega, List.getElem?_cons_succ]
  · rw [if_neg h]
    by_cases h' : o ≤ j ∧ j < o + (0 + 1)
    · rw [if_pos h', if_pos (by omega), show j - o = 0 by omega]; rfl
    · rw [if_neg h', if_neg (by omega)]
theorem Wrote.setCells (b : Nat) : ∀ (us : List Value) (o : Nat) (w : World) {arr : Array Value} {e : TypeId} {fr : Nat × Nat}, w.heap[b]? = some (.cells arr e fr) → o + us.length ≤ arr.size →
    Wrote w (w.setCells b o us) b o us
  | [], o, w, arr, e, fr, hh, ho => .nil w b o hh (by simpa using ho)
  | v :: us, o, w, arr, e, fr, hh, ho => by
    have h1 := Wrote.one w b o v hh (by simp at ho; omega)
    obtain ⟨a1, a2, e', fr', p1, p2, p3, p4, p5⟩ := h1.blk
    rw [hh] at p1; injection p1 with p1; injection p1 with p1 _ _; subst p1
    exact h1.cons (Wrote.setCells b us (o + 1) _ p2 (by simp at ho; omega))
theorem run_store {P : Program} {w : World} {b o : Nat} {us : List Value} {arr : Array Value} {e : TypeId} {fr : Nat × Nat} (hh : w.heap[b]? = some (.cells arr e fr))
    (hfr : ∀ i, i < arr.size → (fr.1 ≤ i && i < fr.2) = false) (ho : o + us.length ≤ arr.size) (hu : ∀ v, v ∈ us → isCell v = true) :
    ∃ w', (storeCells ⟨b, o, none⟩ us).run P w = .ok () w' ∧ Wrote w w' b o us := by
  refine ⟨w.setCells b o us, ?_, .setCells b us o w hh ho⟩
  have := run_storeCells_cells (P := P) b o us 0 w (fun j hj => by simp only [World.cell?, hh]; simp; omega)
    (fun j hj => by simp only [World.frozen?, hh]; exact hfr _ (by omega)) (fun v hv => by have := hu v hv; cases v <;> first | rfl | cases this)
  simpa using this
theorem Wrote.cell {w w' : World} {b o : Nat} {us : List Value} (h : Wrote w w' b o us) {a : Addr} (ha : a.block ≠ b ∨ a.off < o ∨ o + us.length ≤ a.off) : w'.cell? a = w.cell? a := by
  by_cases hb : a.block = b
  · have ho := ha.resolve_left (fun h => h hb)
    obtain ⟨arr, arr', e, fr, h1, h2, h3, h4, h5⟩ := h.blk
    have e1 : w'.cell? a = if a.spot.isSome then none else arr'[a.off]? := by unfold World.cell?; rw [hb, h2]
    have e2 : w.cell? a = if a.spot.isSome then none else arr[a.off]? := by unfold World.cell?; rw [hb, h1]
    rw [e1, e2, h5, if_neg (by omega : ¬ (o ≤ a.off ∧ a.off < o + us.length))]
  · unfold World.cell?; rw [h.other _ hb]
theorem Wrote.at {w w' : World} {b o : Nat} {us : List Value} (h : Wrote w w' b o us) {k : Nat} {v : Value} (hk : us[k]? = some v) : w'.cell? ⟨b, o + k, none⟩ = some v := by
  obtain ⟨arr, arr', e, fr, h1, h2, h3, h4, h5⟩ := h.blk
  have hlt := (List.getElem?_eq_some_iff.1 hk).1
  have e1 : w'.cell? ⟨b, o + k, none⟩ = arr'[o + k]? := by simp [World.cell?, h2]
  rw [e1, h5, if_pos (by omega), show o + k - o = k by omega]; exact hk
theorem Keep.wrote {T : Nat → Nat → Prop} {w0 w w' : World} (h : Keep T w0 w) {b o : Nat} {us : List Value} (hw : Wrote w w' b o us)
    (ht : ∀ k, k < us.length → w0.heap.size ≤ b ∨ T b (o + k)) : Keep T w0 w' := by
  obtain ⟨h1, h2, h3, h4, h5, h6⟩ := h
  refine ⟨hw.os.trans h1, hw.tape.trans h2, hw.output.trans h3, by rw [hw.size]; exact h4, fun c hc hT => ?_, fun c hc arr e fr hh => ?_⟩
  · by_cases hb : c = b
    · subst hb
      by_cases hl : us = []
      · subst hl
        obtain ⟨arr, arr', e, fr, p1, p2, p3, p4, p5⟩ := hw.blk
        rw [← h5 c hc hT, p1, p2]
        congr 2
        apply Array.ext_getElem?
        intro j
        rw [p5 j, if_neg (by simp only [List.length_nil]; omega)]
      · have : 0 < us.length := List.length_pos_iff.2 hl
        rcases ht 0 this with h | h
        · omega
        · exact absurd h (hT _)
    · rw [hw.other c hb]; exact h5 c hc hT
  · obtain ⟨arr', q1, q2, q3⟩ := h6 c hc arr e fr hh
    by_cases hb : c = b
    · subst hb
      obtain ⟨a1, a2, e', fr', p1, p2, p3, p4, p5⟩ := hw.blk
      rw [q1] at p1; injection p1 with p1; injection p1 with p1 p1' p1''; subst p1; subst p1'; subst p1''
      refine ⟨a2, p2, p3.trans q2, fun i hi => ?_⟩
      rw [p5 i]
      split
      · rename_i hin
        rcases ht (i - o) (by omega) with h | h
        · omega
        · rw [show o + (i - o) = i by omega] at h; exact absurd h hi
      · exact q3 i hi
    · exact ⟨arr', by rw [hw.other c hb]; exact q1, q2, q3⟩
def noRef (_ : Bool) (_ : Ref) : Bool := false
section
variable {fc : Fc} {s : St} {a : Act} {w : World} {g : Gh}
theorem SR.writeBox (h : SR fc s a w g) {n k : Nat} {c1 c2 c3 ys : List AV} {ad : Addr} {u1 u2 u3 us : List Value} {F1 F2 F3 H : List Nat} {w' : World}
    (hn : s.bx n = some (c1 ++ c2 ++ c3)) (hk1 : c1.length = k) (hlen : ys.length = c2.length) (ha : g.ba n = some ad) (hb : BoxAt w ad (u1 ++ u2 ++ u3))
    (r1 : RelL (cx fc s a w g) true c1 u1 F1) (r2 : RelL (cx fc s a w g) true c2 u2 F2) (r3 : RelL (cx fc s a w g) true c3 u3 F3)
    (hF : g.F (.box n) = F1 ++ F2 ++ F3) (hd13 : Disj F1 F3)
    (hy : RelL (cx fc s a w g) true ys us H) (hH1 : Disj F1 H) (hH3 : Disj H F3) (hH : ∀ q, q ≠ .box n → Disj H (g.F q))
    (hsep : ∀ m cs ad, s.bx m = some cs → g.ba m = some ad → ad.block ∉ H) (hfree : ∀ b, b ∈ H → fc.free b)
    (hw : Wrote w w' ad.block (ad.off + k) us) (p : Bool → Ref → Bool)
    (hres : ∀ r a', p false r = false → (cx fc s a w g).res r = some a' → resOf fc.pers (tmOf a) g.ba w' r = some a')
    (hhold : ∀ r v, p true r = false → (cx fc s a w g).hold r = some v → (∃ a n c, v = .slice a n c) → holdOf fc.pers (tmOf a) g.ba w' r = some v) :
    SR fc ((s.kl p false).setB n (klL p false c1 ++ klL p false ys ++ klL p false c3)) a w' { g with F := updP g.F (.box n) (F1 ++ H ++ F3) } := by
  have l1 := r1.length; have l2 := r2.length; have l3 := r3.length; have ly := hy.length
  have hbx : ∀ {m cs'}, ((s.kl p false).setB n (klL p false c1 ++ klL p false ys ++ klL p false c3)).bx m = some cs' → (m = n ∧ cs' = klL p false c1 ++ klL p false ys ++ klL p false c3) ∨ (m ≠ n ∧ ∃ cs'', s.bx m = some cs'' ∧ cs' = klL p false cs'') := by
    intro m cs' hm
    simp only [St.setB] at hm
    by_cases hd : m = n
    · subst hd; rw [upd_same] at hm; injection hm with hm; exact .inl ⟨rfl, hm.symm⟩
    · rw [upd_other _ _ hd] at hm
      simp only [St.kl, Option.map_eq_some_iff] at hm
      obtain ⟨cs'', h1, h2⟩ := hm
      exact .inr ⟨hd, cs'', h1, h2.symm⟩
  have hbxc : bxcOf ((s.kl p false).setB n (klL p false c1 ++ klL p false ys ++ klL p false c3)).bx g.ba = bxcOf s.bx g.ba := by
    funext b i
    apply propext
    constructor
    · rintro ⟨m, cs, ad', h1, h2, h3, h4, h5⟩
      rcases hbx h1 with ⟨rfl, rfl⟩ | ⟨hd, cs'', k1, rfl⟩
      · exact ⟨m, _, ad', hn, h2, h3, h4, by simp [klL_eq] at h5 ⊢; omega⟩
      · exact ⟨m, _, ad', k1, h2, h3, h4, by simpa [klL_eq] using h5⟩
    · rintro ⟨m, cs, ad', h1, h2, h3, h4, h5⟩
      by_cases hd : m = n
      · subst hd
        rw [hn] at h1; injection h1 with h1; subst h1
        exact ⟨m, klL p false c1 ++ klL p false ys ++ klL p false c3, ad', by simp [St.setB, upd_same], h2, h3, h4, by simp [klL_eq] at h5 ⊢; omega⟩
      · exact ⟨m, klL p false cs, ad', by simp only [St.setB]; rw [upd_other _ _ hd]; simp [St.kl, h1], h2, h3, h4, by simpa [klL_eq] using h5⟩
  have hin : ∀ b i, ¬ bxcOf s.bx g.ba b i → (b ≠ ad.block ∨ i < ad.off + k ∨ ad.off + k + us.length ≤ i) := by
    intro b i hx
    by_cases h1 : b = ad.block
    · by_cases h2 : i < ad.off + k
      · exact .inr (.inl h2)
      · by_cases h3 : ad.off + k + us.length ≤ i
        · exact .inr (.inr h3)
        · exact absurd ⟨n, _, ad, hn, ha, h1, by omega, by simp; omega⟩ hx
    · exact .inl h1
  have hk : (cx fc s a w g).KeepsK (cx fc ((s.kl p false).setB n (klL p false c1 ++ klL p false ys ++ klL p false c3)) a w' { g with F := updP g.F (.box n) (F1 ++ H ++ F3) }) p false (fun b => b ≠ ad.block) := by
    refine ⟨hres, fun r v h1 h2 h3 h4 => hhold r v h1 h2 h4, fun b i v h1 h2 => ⟨h1, ?_⟩, fun _ b i v h1 h2 => ⟨?_, ?_⟩, fun b hb => ⟨hw.other b hb, rfl, fun i h => h⟩⟩
    · exact (hw.cell (hin b i (h.zfb b i h1))).trans h2
    · simp only [Cx.st, cx] at h1 ⊢; rw [hbxc]; exact h1
    · exact (hw.cell (hin b i h1.2.1)).trans h2
  have hne : ∀ q b, b ∈ g.F q → b ≠ ad.block := fun q b hb hh => h.sep n _ ad hn ha q (hh ▸ hb)
  have hmem : ∀ {q b}, b ∈ updP g.F (.box n) (F1 ++ H ++ F3) q → (b ∈ g.F q) ∨ (q = .box n ∧ b ∈ H) := by
    intro q b hb
    by_cases hq : q = .box n
    · subst hq
      rw [updP_same] at hb
      simp only [List.mem_append] at hb
      rcases hb with (hb | hb) | hb
      · left; rw [hF]; simp [hb]
      · exact .inr ⟨rfl, hb⟩
      · left; rw [hF]; simp [hb]
    · rw [updP_other _ _ hq] at hb; exact .inl hb
  refine ⟨fun u => ?_, fun m cs' hm => ?_, fun m hm => ?_, fun p q hpq b hb hb' => ?_, fun m cs' ad' hm ha' q hb => ?_, fun m m' d1 d2 ad1 ad2 hmm hm hm' ha1 ha2 => ?_, ?_, h.zfo, fun q b hb => ?_, ?_, ?_, h.defers, h.size, fun m hm => ?_, h.zfd, h.bdo, fun m h1 h2 => h.hbo m h1 fun hn' => h2 (by
    have hd : m ≠ n := by rintro rfl; rw [hn] at hn'; cases hn'
    simp only [St.setB]; rw [upd_other _ _ hd]; simp [St.kl, hn'])⟩
  · simp only
    rw [updP_other _ _ (by intro hh; cases hh)]
    exact (h.slots u).kl hk (fun b hb => hne _ b hb)
  · simp only
    rcases hbx hm with ⟨rfl, rfl⟩ | ⟨hd, cs'', h1, rfl⟩
    · rw [updP_same]
      obtain ⟨hsp, arr, e, fr, hh, hfr, hr⟩ := hb
      obtain ⟨a1, a2, e', fr', q1, q2, q3, q4, q5⟩ := hw.blk
      rw [hh] at q1; injection q1 with q1; injection q1 with q1 q1' q1''; subst q1; subst q1'; subst q1''
      refine ⟨ad, u1 ++ us ++ u3, ha, ⟨hsp, a2, e, fr, q2, by rw [q3]; exact hfr, fun j v hj => ?_⟩, ?_⟩
      · rw [q5]
        by_cases hj1 : j < u1.length
        · rw [if_neg (by omega)]
          rw [List.append_assoc, List.getElem?_append_left hj1] at hj
          exact hr j v (by rw [List.append_assoc, List.getElem?_append_left hj1]; exact hj)
        · by_cases hj2 : j < u1.length + us.length
          · rw [if_pos (by omega)]
            rw [List.append_assoc, List.getElem?_append_right (by omega), List.getElem?_append_left (by omega)] at hj
            rw [← hj]; congr 1; omega
          · rw [if_neg (by omega)]
            refine hr j v ?_
            rw [List.append_assoc, List.getElem?_append_right (by omega), List.getElem?_append_right (by omega)] at hj ⊢
            rw [← hj]; congr 1; omega
      · refine ((r1.kl hk fun b hb => hne (.box m) b (by rw [hF]; simp [hb])).append (hy.kl hk fun b hb hh => hsep m _ ad hn ha (hh ▸ hb)) hH1).append (r3.kl hk fun b hb => hne (.box m) b (by rw [hF]; simp [hb])) ?_
        intro b hb hb'
        rcases List.mem_append.1 hb with hb | hb
        · exact hd13 b hb hb'
        · exact hH3 b hb hb'
    · obtain ⟨ad', vs', h2, h3, h5⟩ := h.boxes m cs'' h1
      have l5 := h5.length
      rw [updP_other _ _ (by intro hh; injection hh with hh; exact hd hh)]
      obtain ⟨hsp, arr, e, fr, hh, hfr, hr⟩ := h3
      refine ⟨ad', vs', h2, ?_, h5.kl hk (fun b hb => hne _ b hb)⟩
      by_cases hbb : ad'.block = ad.block
      · obtain ⟨a1, a2, e', fr', q1, q2, q3, q4, q5⟩ := hw.blk
        rw [← hbb, hh] at q1; injection q1 with q1; injection q1 with q1 q1' q1''; subst q1; subst q1'; subst q1''
        refine ⟨hsp, a2, e, fr, by rw [hbb]; exact q2, by rw [q3]; exact hfr, fun j v hj => ?_⟩
        have hjl := (List.getElem?_eq_some_iff.1 hj).1
        have hap := (h.apart m n _ _ ad' ad hd h1 hn h2 ha).resolve_left (fun hx => hx hbb)
        simp only [List.length_append] at hap
        rw [q5, if_neg (by omega)]
        exact hr j v hj
      · exact ⟨hsp, arr, e, fr, by rw [hw.other _ hbb]; exact hh, hfr, hr⟩
  · simp only
    have hd : m ≠ n := by intro hd; subst hd; simp [St.setB, upd_same] at hm
    rw [updP_other _ _ (by intro hh; injection hh with hh; exact hd hh)]
    simp only [St.setB] at hm
    rw [upd_other _ _ hd] at hm
    exact h.nobox m (by simpa [St.kl] using hm)
  · rcases hmem hb with k1 | ⟨h1, k1⟩ <;> rcases hmem hb' with k2 | ⟨h2, k2⟩
    · exact h.disj p q hpq b k1 k2
    · subst h2; exact hH p hpq b k2 k1
    · subst h1; exact hH q (Ne.symm hpq) b k1 k2
    · exact hpq (h1.trans h2.symm)
  · have hold : ∃ cs, s.bx m = some cs := by
      rcases hbx hm with ⟨rfl, rfl⟩ | ⟨hd, cs'', h1, rfl⟩
      · exact ⟨_, hn⟩
      · exact ⟨_, h1⟩
    obtain ⟨cs, h1⟩ := hold
    rcases hmem hb with k1 | ⟨h2, k1⟩
    · exact h.sep m cs ad' h1 ha' q k1
    · exact hsep m cs ad' h1 ha' k1
  · rcases hbx hm with ⟨rfl, rfl⟩ | ⟨hd, cs'', h1, rfl⟩ <;> rcases hbx hm' with ⟨rfl, rfl⟩ | ⟨hd', cs3, h1', rfl⟩
    · exact absurd rfl hmm
    · have := h.apart _ _ _ _ ad1 ad2 hmm hn h1' ha1 ha2
      simp [klL_eq] at this ⊢; omega
    · have := h.apart _ _ _ _ ad1 ad2 hmm h1 hn ha1 ha2
      simp [klL_eq] at this ⊢; omega
    · have := h.apart _ _ _ _ ad1 ad2 hmm h1 h1' ha1 ha2
      simpa [klL_eq] using this
  · simp only; rw [hbxc]; exact h.zfb
  · rcases hmem hb with k1 | ⟨h2, k1⟩
    · exact h.touchF q b k1
    · exact hfree b k1
  · simp only; rw [hbxc]; exact h.touchB
  · exact h.keep.wrote hw fun j hj => h.touchB _ _ ⟨n, _, ad, hn, ha, rfl, by omega, by simp; omega⟩
  · simp only [St.setB] at hm
    have hd : m ≠ n := by intro hd; subst hd; simp [upd_same] at hm
    rw [upd_other _ _ hd] at hm
    exact h.nob m (by simpa [St.kl] using hm)
end
end Go.Ev
namespace Go.Ev
set_option linter.unusedVariables false
def over (cs : List AV) (o : Nat) (ys : List AV) : List AV := cs.take o ++ ys ++ cs.drop (o + ys.length)
def reCell (x : AV) (cs : List AV) : AV := match x with | .agg _ => .agg cs | _ => cs.headD .junk
def setW : AV → List Comp → List AV → Option AV
  | .sl .own es xs, c :: rest, ys =>
    match xs[c.i]? with
    | none => none
    | some x =>
      if es = c.es then
        match rest with
        | [] => if c.o + ys.length ≤ c.es then some (.sl .own es (xs.set c.i (reCell x (over (cellsOf x) c.o ys)))) else none
        | _ =>
          match (cellsOf x)[c.o]? with
          | none => none
          | some y => match setW y rest ys with
            | none => none
            | some y' => some (.sl .own es (xs.set c.i (reCell x ((cellsOf x).set c.o y'))))
      else none
  | _, _, _ => none
def kin (p : Bool → Ref → Bool) (ro : Bool) (x : AV) : AV := if ro then kl p true x else x
theorem kin_false (p : Bool → Ref → Bool) : kin p false = id := by funext x; simp [kin]
theorem kin_true (p : Bool → Ref → Bool) : kin p true = kl p true := by funext x; simp [kin]
theorem kl_own (p : Bool → Ref → Bool) (ro : Bool) (es : Nat) (xs : List AV) : kl p ro (.sl .own es xs) = .sl .own es (xs.map (kin p ro)) := by
  cases ro
  · simp [kl, kin_false]
  · simp [kl, klL_eq, kin_true]
theorem cellsOf_kin (p : Bool → Ref → Bool) (ro : Bool) (x : AV) : cellsOf (kin p ro x) = (cellsOf x).map (kin p ro) := by
  cases ro
  · simp [kin_false]
  · rw [kin_true]; exact cellsOf_kl p true x
theorem flat_kin (p : Bool → Ref → Bool) (ro : Bool) (xs : List AV) : flat (xs.map (kin p ro)) = (flat xs).map (kin p ro) := by
  induction xs with
  | nil => rfl
  | cons x xs ih => rw [List.map_cons, flat_cons, flat_cons, ih, cellsOf_kin, List.map_append]
theorem Rel.kin {X X' : Cx} {p : Bool → Ref → Bool} {ro : Bool} {P : Nat → Prop} (k : X.KeepsK X' p ro P) {x : AV} {v : Value} {F : List Nat} (h : Rel X false x v F) (hP : ∀ b, b ∈ F → P b) : Rel X' false (kin p ro x) v F := by
  cases ro
  · simp only [Ev.kin, Bool.false_eq_true, if_false]; exact h.kl0 k rfl rfl hP
  · simp only [Ev.kin, if_true]; exact h.kl k hP
theorem RelL.kin {X X' : Cx} {p : Bool → Ref → Bool} {ro : Bool} {P : Nat → Prop} (k : X.KeepsK X' p ro P) {xs : List AV} : ∀ {vs : List Value} {F : List Nat}, RelL X false xs vs F → (∀ b, b ∈ F → P b) → RelL X' false (xs.map (Ev.kin p ro)) vs F := by
  induction xs with
  | nil => intro vs F h _; cases h; exact .nil _
  | cons x xs ih =>
    intro vs F h hP
    cases h with
    | cons _ _ c F₁ _ vs F₂ hv h hs hd =>
      exact .cons _ _ c F₁ _ vs F₂ hv (h.kin k fun b hb => hP b (List.mem_append_left _ hb)) (ih hs fun b hb => hP b (List.mem_append_right _ hb)) hd
theorem Rel.one {X : Cx} {t : Bool} {x : AV} {v : Value} {F : List Nat} (h : Rel X t x v F) (hv : isCell v = true) : cellsOf x = [x] := by
  cases h <;> first | rfl | cases hv
theorem cellsOf_reCell {X : Cx} {t : Bool} {x : AV} {cs : List AV} {us : List Value} {H : List Nat} (h : RelL X t cs us H) (hl : cs.length = (cellsOf x).length) : cellsOf (reCell x cs) = cs := by
  have key : (cellsOf x).length = 1 → cellsOf (cs.headD .junk) = cs := by
    intro h1
    rw [h1] at hl
    match cs, hl, h with
    | [c], _, .cons _ _ v F₁ _ vs F₂ hv hr hs hd => exact hr.one hv
  cases x with
  | agg cs' => rfl
  | _ => exact key rfl
theorem Disj.left {F G H : List Nat} (h : Disj (F ++ G) H) : Disj F H := fun b hb => h b (List.mem_append_left _ hb)
theorem Disj.right {F G H : List Nat} (h : Disj (F ++ G) H) : Disj G H := fun b hb => h b (List.mem_append_right _ hb)
theorem Disj.app {F G H : List Nat} (h : Disj F H) (h' : Disj G H) : Disj (F ++ G) H := fun b hb => (List.mem_append.1 hb).elim (h b) (h' b)
theorem set_split {xs : List AV} {i : Nat} {x : AV} (h : xs[i]? = some x) (y : AV) : xs = xs.take i ++ x :: xs.drop (i + 1) ∧ xs.set i y = xs.take i ++ y :: xs.drop (i + 1) := by
  obtain ⟨hi, rfl⟩ := List.getElem?_eq_some_iff.1 h
  exact ⟨by rw [List.getElem_cons_drop, List.take_append_drop], by rw [List.set_eq_take_append_cons_drop, if_pos hi]⟩
theorem get5 (A B C D E : List Value) (k : Nat) : (A ++ (B ++ (C ++ D) ++ E))[k]? =
    if k < A.length then A[k]? else if k < A.length + B.length then B[k - A.length]? else if k < A.length + B.length + C.length then C[k - A.length - B.length]?
    else if k < A.length + B.length + C.length + D.length then D[k - A.length - B.length - C.length]? else E[k - A.length - B.length - C.length - D.length]? := by
  by_cases h1 : k < A.length
  · rw [if_pos h1, List.getElem?_append_left h1]
  rw [if_neg h1, List.getElem?_append_right (by omega), List.append_assoc]
  by_cases h2 : k < A.length + B.length
  · rw [if_pos h2, List.getElem?_append_left (by omega)]
  rw [if_neg h2, List.getElem?_append_right (by omega), List.append_assoc]
  by_cases h3 : k < A.length + B.length + C.length
  · rw [if_pos h3, List.getElem?_append_left (by omega)]
  rw [if_neg h3, List.getElem?_append_right (by omega)]
  by_cases h4 : k < A.length + B.length + C.length + D.length
  · rw [if_pos h4, List.getElem?_append_left (by omega)]
  rw [if_neg h4, List.getElem?_append_right (by omega)]
theorem Rel.edit {X X' : Cx} {p : Bool → Ref → Bool} {ro : Bool} {tb tof : Nat} {ys : List AV} {us : List Value} {H : List Nat}
    (hw : Wrote X.w X'.w tb tof us) (hk : X.KeepsK X' p ro (fun b => b ≠ tb)) (hbd : X'.bd tb = X.bd tb) (hzf : ∀ i, X'.zf tb i → X.zf tb i)
    (hy : RelL X' false ys us H) :
    ∀ (path : List Comp) {t : Bool} {x : AV} {v : Value} {F : List Nat} {x' : AV}, Rel X t x v F → setW (Ev.kin p ro x) path ys = some x' → walk X.w v path = some ⟨tb, tof, none⟩ → Disj H F →
      ∃ F' Fo olds uold, Rel X' t x' v F' ∧ (∀ b, b ∈ F' → b ∈ F ∨ b ∈ H) ∧ RelL X false olds uold Fo ∧ (∀ b, b ∈ Fo → b ∈ F) ∧ (Disj Fo H → Disj Fo F') ∧ tb ∈ F ∧
        (∃ more, getW x path = some (olds ++ more)) ∧ olds.length = ys.length ∧ (∀ k u, uold[k]? = some u → X.w.cell? ⟨tb, tof + k, none⟩ = some u) := by
  intro path
  induction path with
  | nil =>
    intro t x v F x' h hs
    exfalso
    cases hkx : Ev.kin p ro x with
    | sl fl es xs => rw [hkx] at hs; cases fl <;> simp [setW] at hs
    | _ => rw [hkx] at hs; simp [setW] at hs
  | cons c rest ih =>
    intro t x v F x' h hs hwalk hHF
    cases x with
    | sl fl es xs =>
      cases fl with
      | own =>
        have hkx : Ev.kin p ro (.sl .own es xs) = .sl .own es (xs.map (Ev.kin p ro)) := by
          cases ro
          · rw [kin_false]; simp
          · rw [kin_true]; simp [Ev.kl, klL_eq]
        rw [hkx] at hs
        simp only [setW, List.getElem?_map] at hs
        cases hx : xs[c.i]? with
        | none => simp [hx] at hs
        | some x =>
          simp only [hx, Option.map_some] at hs
          rw [cellsOf_kin] at hs
          by_cases he : es = c.es
          · rw [if_pos he] at hs
            cases h with
            | nil => simp at hx
            | imm _ _ _ _ _ _ _ hfl => exact absurd rfl hfl
            | own _ _ b o cap _ arr e fr vs F hh hfr hs0 hn hu hr hc hb hbd0 hzf0 =>
              have hes : c.es = es := he.symm
              have hxe : (cellsOf x).length = es := hu x (List.mem_of_getElem? hx)
              obtain ⟨hxs, _⟩ := set_split hx x
              have hflat : flat xs = flat (xs.take c.i) ++ (cellsOf x ++ flat (xs.drop (c.i + 1))) := by
                conv => lhs; rw [hxs]
                rw [flat_append, flat_cons]
              rw [hflat] at hc
              obtain ⟨v₁, v₂', F₁, F₂', rfl, rfl, r1, r2', d1⟩ := hc.split
              obtain ⟨v₂, v₃, F₂, F₃, rfl, rfl, r2, r3, d2⟩ := r2'.split
              have hil : c.i < xs.length := (List.getElem?_eq_some_iff.1 hx).1
              have l1 : v₁.length = c.i * es := by
                rw [r1.length, flat_length (fun z hz => hu z (List.mem_of_mem_take hz)), List.length_take, Nat.min_eq_left (by omega)]
              have l2 := r2.length
              -- the new element, whatever stands in it
              have key : ∀ (cs' : List AV) (v₂'' : List Value) (G : List Nat) (arr' : Array Value), RelL X' false cs' v₂'' G → cs'.length = (cellsOf x).length → Disj G F₁ → Disj G F₃ → b ∉ G →
                  (∀ b', b' ∈ F₁ → b' ≠ tb) → (∀ b', b' ∈ F₃ → b' ≠ tb) →
                  X'.w.heap[b]? = some (.cells arr' e fr) → arr'.size = arr.size → (∀ k u, (v₁ ++ (v₂'' ++ v₃))[k]? = some u → arr'[o + k]? = some u) → X'.bd b = X.bd b → (∀ i, X'.zf b i → X.zf b i) →
                  Rel X' t (.sl .own es ((xs.map (Ev.kin p ro)).set c.i (reCell (Ev.kin p ro x) cs'))) (.slice (some ⟨b, o, none⟩) xs.length cap) (b :: (F₁ ++ (G ++ F₃))) := by
                intro cs' v₂'' G arr' rc hcl dG1 dG3 hbG hn1 hn3 hh' hsz hr' hbd' hzf'
                have hcr : cellsOf (reCell (Ev.kin p ro x) cs') = cs' := cellsOf_reCell rc (by rw [hcl, cellsOf_kin, List.length_map])
                have hmx : (xs.map (Ev.kin p ro))[c.i]? = some (Ev.kin p ro x) := by rw [List.getElem?_map, hx]; rfl
                obtain ⟨_, hset⟩ := set_split hmx (reCell (Ev.kin p ro x) cs')
                have hlen : ((xs.map (Ev.kin p ro)).set c.i (reCell (Ev.kin p ro x) cs')).length = xs.length := by simp
                have := Rel.own (X := X') t ((xs.map (Ev.kin p ro)).set c.i (reCell (Ev.kin p ro x) cs')) b o cap es arr' e fr (v₁ ++ (v₂'' ++ v₃)) (F₁ ++ (G ++ F₃)) hh' (by rw [hsz]; exact hfr) (by rw [hsz]; exact hs0) (by rw [hlen]; exact hn)
                  (by
                    intro z hz
                    rw [hset] at hz
                    rcases List.mem_append.1 hz with hz | hz
                    · rw [← List.map_take] at hz
                      obtain ⟨z', hz', rfl⟩ := List.mem_map.1 hz
                      rw [cellsOf_kin, List.length_map]; exact hu z' (List.mem_of_mem_take hz')
                    · rcases List.mem_cons.1 hz with rfl | hz
                      · rw [hcr, hcl, hxe]
                      · rw [← List.map_drop] at hz
                        obtain ⟨z', hz', rfl⟩ := List.mem_map.1 hz
                        rw [cellsOf_kin, List.length_map]; exact hu z' (List.mem_of_mem_drop hz'))
                  hr'
                  (by
                    rw [hset, flat_append, flat_cons, hcr, ← List.map_take, ← List.map_drop, flat_kin, flat_kin]
                    exact (r1.kin hk hn1).append (rc.append (r3.kin hk hn3) dG3) (Disj.symm (dG1.app (fun b hb hb' => d1 b hb' (List.mem_append_right _ hb)))))
                  (by
                    intro hbm
                    rcases List.mem_append.1 hbm with hbm | hbm
                    · exact hb (List.mem_append_left _ hbm)
                    · rcases List.mem_append.1 hbm with hbm | hbm
                      · exact hbG hbm
                      · exact hb (by simp [hbm]))
                  (by rw [hlen]; exact hbd'.trans hbd0) (fun i hi => hzf0 i (hzf' i hi))
                rwa [hlen] at this
              cases rest with
              | nil =>
                simp only at hs
                by_cases hfit : c.o + ys.length ≤ c.es
                · rw [if_pos hfit] at hs
                  injection hs with hs
                  subst hs
                  simp only [walk, Option.some.injEq] at hwalk
                  rw [Addr.add_spot rfl] at hwalk
                  injection hwalk with hw1 hw2
                  simp only at hw1 hw2
                  subst hw1
                  -- the element's cells: ahead, the ones that are written, behind
                  have hcx : cellsOf x = (cellsOf x).take c.o ++ (((cellsOf x).drop c.o).take ys.length ++ (cellsOf x).drop (c.o + ys.length)) := by
                    rw [← List.drop_drop, List.take_append_drop, List.take_append_drop]
                  rw [hcx] at r2
                  obtain ⟨ua, ub', Fa, Fb', rfl, rfl, ra, rb', da⟩ := r2.split
                  obtain ⟨ub, uc, Fb, Fc, rfl, rfl, rb, rc, db⟩ := rb'.split
                  have lya := hy.length
                  have la := ra.length; have lb := rb.length; have lc := rc.length
                  simp only [List.length_take, List.length_drop] at la lb lc
                  have hlu : ua.length = c.o := by omega
                  have lub : ub.length = us.length := by omega
                  have hw2' : tof = o + (c.i * es + c.o) := by rw [← hw2, hes]
                  have hover : over ((cellsOf x).map (Ev.kin p ro)) c.o ys = ((cellsOf x).take c.o).map (Ev.kin p ro) ++ (ys ++ ((cellsOf x).drop (c.o + ys.length)).map (Ev.kin p ro)) := by
                    rw [over, ← List.map_take, ← List.map_drop, List.append_assoc]
                  have hnb : ∀ b', b' ∈ F₁ ++ (Fa ++ (Fb ++ Fc) ++ F₃) → b' ≠ b := fun b' hb' hh => hb (hh ▸ hb')
                  have hHc : Disj H (F₁ ++ (Fa ++ (Fb ++ Fc) ++ F₃)) := fun b' hb' hb'' => hHF b' hb' (List.mem_cons_of_mem _ hb'')
                  have rnew : RelL X' false (over ((cellsOf x).map (Ev.kin p ro)) c.o ys) (ua ++ (us ++ uc)) (Fa ++ (H ++ Fc)) := by
                    rw [hover]
                    refine (ra.kin hk fun b' hb' => hnb b' (by simp [hb'])).append (hy.append (rc.kin hk fun b' hb' => hnb b' (by simp [hb'])) ?_) ?_
                    · intro b' hb' hb''; exact hHc b' hb' (by simp [hb''])
                    · intro b' hb' hb''
                      rcases List.mem_append.1 hb'' with hb'' | hb''
                      · exact hHc b' hb'' (by simp [hb'])
                      · exact da b' hb' (List.mem_append_right _ hb'')
                  obtain ⟨a1, a2, e', fr', q1, q2, q3, q4, q5⟩ := hw.blk
                  rw [hh] at q1; injection q1 with q1; injection q1 with q1 q1' q1''; subst q1; subst q1'; subst q1''
                  have hvl : (v₁ ++ (ua ++ (ub ++ uc) ++ v₃)).length = xs.length * es := by
                    have hc2 : RelL X false (flat xs) (v₁ ++ (ua ++ (ub ++ uc) ++ v₃)) (F₁ ++ (Fa ++ (Fb ++ Fc) ++ F₃)) := by rw [hflat]; exact hc
                    rw [hc2.length, flat_length hu]
                  refine ⟨b :: (F₁ ++ ((Fa ++ (H ++ Fc)) ++ F₃)), Fb, ((cellsOf x).drop c.o).take ys.length, ub, ?_, ?_, rb, ?_, ?_, List.mem_cons_self .., ⟨(cellsOf x).drop (c.o + ys.length), ?_⟩, ?_, ?_⟩
                  · refine key _ _ _ a2 rnew ?_ ?_ ?_ ?_ (fun b' hb' => hnb b' (by simp [hb'])) (fun b' hb' => hnb b' (by simp [hb'])) q2 q3 ?_ hbd hzf
                    · rw [hover]; simp only [List.length_append, List.length_map, List.length_take, List.length_drop]; omega
                    · intro b' hb' hb''
                      simp only [List.mem_append] at hb'
                      rcases hb' with hb' | hb' | hb'
                      · exact d1 b' hb'' (by simp [hb'])
                      · exact hHc b' hb' (by simp [hb''])
                      · exact d1 b' hb'' (by simp [hb'])
                    · intro b' hb' hb''
                      simp only [List.mem_append] at hb'
                      rcases hb' with hb' | hb' | hb'
                      · exact d2 b' (by simp [hb']) hb''
                      · exact hHc b' hb' (by simp [hb''])
                      · exact d2 b' (by simp [hb']) hb''
                    · intro hbm
                      simp only [List.mem_append] at hbm
                      rcases hbm with hbm | hbm | hbm
                      · exact hb (by simp [hbm])
                      · exact hHF b hbm (List.mem_cons_self ..)
                      · exact hb (by simp [hbm])
                    · intro k u hk'
                      rw [get5 v₁ ua us uc v₃ k] at hk'
                      rw [q5]
                      by_cases h2 : c.i * es + c.o ≤ k ∧ k < c.i * es + c.o + us.length
                      · rw [if_pos (by omega), ← hk', if_neg (by omega), if_neg (by omega), if_pos (by omega)]
                        congr 1; omega
                      · rw [if_neg (by omega)]
                        refine hr k u ?_
                        rw [get5 v₁ ua ub uc v₃ k, ← hk', lub]
                        by_cases g1 : k < v₁.length
                        · simp only [if_pos g1]
                        · by_cases g2 : k < v₁.length + ua.length
                          · simp only [if_neg g1, if_pos g2]
                          · have g3 : ¬ k < v₁.length + ua.length + us.length := by omega
                            simp only [if_neg g1, if_neg g2, if_neg g3]
                  · intro b' hb'
                    rcases List.mem_cons.1 hb' with rfl | hb'
                    · exact .inl (List.mem_cons_self ..)
                    · simp only [List.mem_append] at hb'
                      rcases hb' with hb' | (hb' | hb' | hb') | hb'
                      · left; simp [hb']
                      · left; simp [hb']
                      · exact .inr hb'
                      · left; simp [hb']
                      · left; simp [hb']
                  · intro b' hb'; simp [hb']
                  · intro hFH b' hb' hb''
                    rcases List.mem_cons.1 hb'' with rfl | hb''
                    · exact hb (by simp [hb'])
                    · simp only [List.mem_append] at hb''
                      rcases hb'' with hb'' | (hb'' | hb'' | hb'') | hb''
                      · exact d1 b' hb'' (by simp [hb'])
                      · exact da b' hb'' (by simp [hb'])
                      · exact hFH b' hb' hb''
                      · exact db b' hb' hb''
                      · exact d2 b' (by simp [hb']) hb''
                  · simp only [getW, hx]
                    rw [if_pos he, ← List.drop_drop, List.take_append_drop]
                  · simp only [List.length_take, List.length_drop]; omega
                  · intro k u hk'
                    have hkl := (List.getElem?_eq_some_iff.1 hk').1
                    have := hr (c.i * es + c.o + k) u (by
                      rw [get5 v₁ ua ub uc v₃, if_neg (by omega), if_neg (by omega), if_pos (by omega), ← hk']
                      congr 1; omega)
                    simp only [World.cell?, hh]
                    rw [show tof + k = o + (c.i * es + c.o + k) by omega]
                    simpa using this
                · rw [if_neg hfit] at hs; cases hs
              | cons d rest =>
                simp only at hs
                rw [List.getElem?_map] at hs
                cases hy0 : (cellsOf x)[c.o]? with
                | none => simp [hy0] at hs
                | some y =>
                  simp only [hy0, Option.map_some] at hs
                  cases hsw : setW (Ev.kin p ro y) (d :: rest) ys with
                  | none => simp [hsw] at hs
                  | some y' =>
                    simp only [hsw, Option.some.injEq] at hs
                    subst hs
                    have hol : c.o < (cellsOf x).length := (List.getElem?_eq_some_iff.1 hy0).1
                    obtain ⟨hcx, _⟩ := set_split hy0 y
                    rw [hcx] at r2
                    obtain ⟨ua, ub', Fa, Fb', rfl, rfl, ra, rb', da⟩ := r2.split
                    cases rb' with
                    | cons _ _ u Fy _ uc Fc huv ry rc dy =>
                      have la := ra.length
                      simp only [List.length_take] at la
                      have hcell : X.w.cell? ((⟨b, o, none⟩ : Addr).add (c.i * c.es + c.o)) = some u := by
                        rw [Addr.add_spot rfl]
                        simp only [World.cell?, hh]
                        have := hr (c.i * es + c.o) u (by
                          rw [List.getElem?_append_right (by omega), List.append_assoc, List.getElem?_append_right (by omega), show c.i * es + c.o - v₁.length - ua.length = 0 by omega]; rfl)
                        rw [hes]; simpa using this
                      simp only [walk, hcell, Option.bind_some] at hwalk
                      have hHy : Disj H Fy := fun b' hb' hb'' => hHF b' hb' (by simp [hb''])
                      obtain ⟨Fy', Fo, olds, uold, g1, g2, g3, g4, g5, g6, g7, g8, g9⟩ := ih ry hsw hwalk hHy
                      have hnb : ∀ b', b' ∈ F₁ ++ (Fa ++ (Fy ++ Fc) ++ F₃) → b' ≠ b := fun b' hb' hh => hb (hh ▸ hb')
                      have htb : tb ≠ b := hnb tb (by simp [g6])
                      have hHc : Disj H (F₁ ++ (Fa ++ (Fy ++ Fc) ++ F₃)) := fun b' hb' hb'' => hHF b' hb' (List.mem_cons_of_mem _ hb'')
                      have n1 : ∀ b', b' ∈ F₁ → b' ≠ tb := fun b' hb' hh => d1 b' hb' (by simp [hh, g6])
                      have n3 : ∀ b', b' ∈ F₃ → b' ≠ tb := fun b' hb' hh => d2 b' (by simp [hh, g6]) hb'
                      have na : ∀ b', b' ∈ Fa → b' ≠ tb := fun b' hb' hh => da b' hb' (by simp [hh, g6])
                      have nc : ∀ b', b' ∈ Fc → b' ≠ tb := fun b' hb' hh => dy b' (by simp [hh, g6]) hb'
                      have hset : ((cellsOf x).map (Ev.kin p ro)).set c.o y' = ((cellsOf x).take c.o).map (Ev.kin p ro) ++ y' :: ((cellsOf x).drop (c.o + 1)).map (Ev.kin p ro) := by
                        rw [(set_split (xs := (cellsOf x).map (Ev.kin p ro)) (i := c.o) (x := Ev.kin p ro y) (by rw [List.getElem?_map, hy0]; rfl) y').2, ← List.map_take, ← List.map_drop]
                      have rnew : RelL X' false (((cellsOf x).map (Ev.kin p ro)).set c.o y') (ua ++ u :: uc) (Fa ++ (Fy' ++ Fc)) := by
                        rw [hset]
                        refine (ra.kin hk na).append (.cons _ _ u Fy' _ uc Fc huv g1 (rc.kin hk nc) ?_) ?_
                        · intro b' hb' hb''
                          rcases g2 b' hb' with hq | hq
                          · exact dy b' hq hb''
                          · exact hHc b' hq (by simp [hb''])
                        · intro b' hb' hb''
                          rcases List.mem_append.1 hb'' with hb'' | hb''
                          · rcases g2 b' hb'' with hq | hq
                            · exact da b' hb' (by simp [hq])
                            · exact hHc b' hq (by simp [hb'])
                          · exact da b' hb' (by simp [hb''])
                      refine ⟨b :: (F₁ ++ ((Fa ++ (Fy' ++ Fc)) ++ F₃)), Fo, olds, uold, ?_, ?_, g3, ?_, ?_, by simp [g6], ?_, g8, g9⟩
                      · refine key _ _ _ arr rnew ?_ ?_ ?_ ?_ n1 n3 ((hw.other b (Ne.symm htb)).trans hh) rfl (fun k u' hk' => hr k u' hk') ((hk.own b (Ne.symm htb)).2.1) ((hk.own b (Ne.symm htb)).2.2)
                        · rw [hset]; simp only [List.length_append, List.length_map, List.length_take, List.length_drop, List.length_cons]; omega
                        · intro b' hb' hb''
                          simp only [List.mem_append] at hb'
                          rcases hb' with hb' | hb' | hb'
                          · exact d1 b' hb'' (by simp [hb'])
                          · rcases g2 b' hb' with hq | hq
                            · exact d1 b' hb'' (by simp [hq])
                            · exact hHc b' hq (by simp [hb''])
                          · exact d1 b' hb'' (by simp [hb'])
                        · intro b' hb' hb''
                          simp only [List.mem_append] at hb'
                          rcases hb' with hb' | hb' | hb'
                          · exact d2 b' (by simp [hb']) hb''
                          · rcases g2 b' hb' with hq | hq
                            · exact d2 b' (by simp [hq]) hb''
                            · exact hHc b' hq (by simp [hb''])
                          · exact d2 b' (by simp [hb']) hb''
                        · intro hbm
                          simp only [List.mem_append] at hbm
                          rcases hbm with hbm | hbm | hbm
                          · exact hb (by simp [hbm])
                          · rcases g2 b hbm with hq | hq
                            · exact hb (by simp [hq])
                            · exact hHF b hq (List.mem_cons_self ..)
                          · exact hb (by simp [hbm])
                      · intro b' hb'
                        rcases List.mem_cons.1 hb' with rfl | hb'
                        · exact .inl (List.mem_cons_self ..)
                        · simp only [List.mem_append] at hb'
                          rcases hb' with hb' | (hb' | hb' | hb') | hb'
                          · left; simp [hb']
                          · left; simp [hb']
                          · rcases g2 b' hb' with hq | hq
                            · left; simp [hq]
                            · exact .inr hq
                          · left; simp [hb']
                          · left; simp [hb']
                      · intro b' hb'; have := g4 b' hb'; simp [this]
                      · intro hFH b' hb' hb''
                        have hq0 := g4 b' hb'
                        rcases List.mem_cons.1 hb'' with rfl | hb''
                        · exact hb (by simp [hq0])
                        · simp only [List.mem_append] at hb''
                          rcases hb'' with hb'' | (hb'' | hb'' | hb'') | hb''
                          · exact d1 b' hb'' (by simp [hq0])
                          · exact da b' hb'' (by simp [hq0])
                          · exact g5 hFH b' hb' hb''
                          · exact dy b' hq0 hb''
                          · exact d2 b' (by simp [hq0]) hb''
                      · obtain ⟨more, hm⟩ := g7
                        refine ⟨more, ?_⟩
                        simp only [getW, hx]
                        rw [if_pos he, hy0]
                        exact hm
          · rw [if_neg he] at hs; cases hs
      | ro => exfalso; cases ro <;> simp [Ev.kin, Ev.kl, setW] at hs
      | frn => exfalso; cases ro <;> simp [Ev.kin, Ev.kl, setW] at hs
    | _ =>
      exfalso
      revert hs
      cases ro <;> simp [Ev.kin, Ev.kl, setW] <;> (try split) <;> simp [setW]
end Go.Ev
namespace Go.Ev
set_option linter.unusedVariables false
mutual
theorem Rel.nozf {X : Cx} : ∀ {t : Bool} {x : AV} {v : Value} {F : List Nat}, Rel X t x v F → ∀ b, b ∈ F → ∀ i, ¬ X.zf b i
  | _, _, _, _, .junk _ _, b, hb => (List.not_mem_nil hb).elim
  | _, _, _, _, .lit _ _ _, b, hb => (List.not_mem_nil hb).elim
  | _, _, _, _, .nil _ _ _ _, b, hb => (List.not_mem_nil hb).elim
  | _, _, _, _, .own _ xs b₀ o cap es arr e fr vs F hh hfr hs hn hu hr hc hb₀ hbd hzf, b, hb => by
    rcases List.mem_cons.1 hb with rfl | hb
    · exact hzf
    · exact RelL.nozf hc b hb
  | _, _, _, _, .imm _ _ _ _ _ _ _ _ _ _ _ _, b, hb => (List.not_mem_nil hb).elim
  | _, _, _, _, .agg _ _ _ _ hc, b, hb => RelL.nozf hc b hb
  | _, _, _, _, .tup _ _ _ _ hc, b, hb => RelT.nozf hc b hb
  | _, _, _, _, .ptr _ _ _, b, hb => (List.not_mem_nil hb).elim
  | _, _, _, _, .bor _ _ _ _ _, b, hb => (List.not_mem_nil hb).elim
  | _, _, _, _, .cell _ _ _ _ _ _ _ _ _ _, b, hb => (List.not_mem_nil hb).elim
  | _, _, _, _, .clo _ _ _ _, b, hb => (List.not_mem_nil hb).elim
theorem RelL.nozf {X : Cx} : ∀ {t : Bool} {x : List AV} {v : List Value} {F : List Nat}, RelL X t x v F → ∀ b, b ∈ F → ∀ i, ¬ X.zf b i
  | _, _, _, _, .nil _, b, hb => (List.not_mem_nil hb).elim
  | _, _, _, _, .cons _ _ _ _ _ _ _ _ h hs _, b, hb => by
    rcases List.mem_append.1 hb with hb | hb
    · exact Rel.nozf h b hb
    · exact RelL.nozf hs b hb
theorem RelT.nozf {X : Cx} : ∀ {t : Bool} {x : List AV} {v : List Value} {F : List Nat}, RelT X t x v F → ∀ b, b ∈ F → ∀ i, ¬ X.zf b i
  | _, _, _, _, .nil _, b, hb => (List.not_mem_nil hb).elim
  | _, _, _, _, .cons _ _ _ _ _ _ _ h hs _, b, hb => by
    rcases List.mem_append.1 hb with hb | hb
    · exact Rel.nozf h b hb
    · exact RelT.nozf hs b hb
end
theorem kin_own (p : Bool → Ref → Bool) (ro : Bool) (es : Nat) (xs : List AV) : Ev.kin p ro (.sl .own es xs) = .sl .own es (xs.map (Ev.kin p ro)) := by
  cases ro
  · rw [kin_false]; simp
  · rw [kin_true, kl_own, kin_true]
theorem setW_own {x : AV} {path : List Comp} {ys : List AV} {x' : AV} (hs : setW x path ys = some x') : ∃ es xs, x = .sl .own es xs := by
  cases x with
  | sl fl es xs =>
    cases fl with
    | own => exact ⟨es, xs, rfl⟩
    | ro => cases path <;> simp [setW] at hs
    | frn => cases path <;> simp [setW] at hs
  | _ => cases path <;> simp [setW] at hs
theorem own_of_kl {p : Bool → Ref → Bool} {ro : Bool} {x : AV} {es : Nat} {xs : List AV} (h : Ev.kl p ro x = .sl .own es xs) : ∃ ys, x = .sl .own es ys := by
  cases x with
  | sl fl es' ys =>
    cases fl with
    | own => rw [kl_own] at h; injection h with h1 h2 h3; subst h2; exact ⟨ys, rfl⟩
    | ro => cases ro <;> simp [Ev.kl] at h
    | frn => cases ro <;> simp [Ev.kl] at h
  | ptr r => simp only [Ev.kl] at h; split at h <;> cases h
  | bor r => simp only [Ev.kl] at h; split at h <;> cases h
  | cell fl cs o => simp only [Ev.kl] at h; split at h <;> cases h
  | _ => simp [Ev.kl] at h
theorem setW_kin {p : Bool → Ref → Bool} {ro : Bool} {x : AV} {path : List Comp} {ys : List AV} {x' : AV} (hs : setW (Ev.kl p ro x) path ys = some x') : setW (Ev.kin p ro x) path ys = some x' := by
  obtain ⟨es, xs, hx⟩ := setW_own hs
  obtain ⟨zs, rfl⟩ := own_of_kl hx
  rw [kl_own] at hs
  rw [kin_own]; exact hs
theorem Rel.target {X : Cx} {tb tof : Nat} {ys : List AV} {p : Bool → Ref → Bool} {ro : Bool} : ∀ (path : List Comp) {t : Bool} {x : AV} {v : Value} {F : List Nat} {x' : AV}, Rel X t x v F → setW (Ev.kin p ro x) path ys = some x' →
    walk X.w v path = some ⟨tb, tof, none⟩ → tb ∈ F := by
  intro path
  induction path with
  | nil =>
    intro t x v F x' h hs
    exfalso
    obtain ⟨es, xs, hx⟩ := setW_own hs
    rw [hx] at hs; simp [setW] at hs
  | cons c rest ih =>
    intro t x v F x' h hs hwalk
    obtain ⟨es, zs, hz⟩ := setW_own hs
    have hxs : ∃ xs, x = .sl .own es xs := by
      cases ro
      · rw [kin_false] at hz; exact ⟨zs, hz⟩
      · rw [kin_true] at hz; exact own_of_kl hz
    obtain ⟨xs, rfl⟩ := hxs
    rw [kin_own] at hs
    cases h with
    | nil => simp [setW] at hs
    | imm _ _ _ _ _ _ _ hfl => exact absurd rfl hfl
    | own _ _ b o cap _ arr e fr vs F hh hfr hs0 hn hu hr hc hb hbd0 hzf0 =>
      simp only [setW, List.getElem?_map] at hs
      cases hx : xs[c.i]? with
      | none => simp [hx] at hs
      | some x =>
        simp only [hx, Option.map_some] at hs
        rw [cellsOf_kin] at hs
        by_cases he : es = c.es
        · rw [if_pos he] at hs
          have hes : c.es = es := he.symm
          cases rest with
          | nil =>
            simp only [walk, Option.some.injEq] at hwalk
            rw [Addr.add_spot rfl] at hwalk
            injection hwalk with h1 h2
            simp only at h1
            rw [← h1]; exact List.mem_cons_self ..
          | cons d rest =>
            simp only at hs
            rw [List.getElem?_map] at hs
            cases hy0 : (cellsOf x)[c.o]? with
            | none => simp [hy0] at hs
            | some y =>
              simp only [hy0, Option.map_some] at hs
              cases hsw : setW (Ev.kin p ro y) (d :: rest) ys with
              | none => simp [hsw] at hs
              | some y' =>
                obtain ⟨u, G, h1, h2, h3, h4⟩ := hc.get (flat_get hu hx hy0)
                have hcell : X.w.cell? ((⟨b, o, none⟩ : Addr).add (c.i * c.es + c.o)) = some u := by
                  rw [Addr.add_spot rfl]
                  simp only [World.cell?, hh]
                  have := hr _ _ h1
                  rw [hes]; simpa using this
                simp only [walk, hcell, Option.bind_some] at hwalk
                exact List.mem_cons_of_mem _ (h4 _ (ih h2 hsw hwalk))
        · rw [if_neg he] at hs; cases hs
def viaDeep (isBor : Bool) (r : Ref) : Bool := if isBor then decide (1 ≤ r.path.length) else decide (2 ≤ r.path.length)
section
variable {fc : Fc} {s : St} {a : Act} {w : World} {g : Gh}
theorem SR.keepsEdit (h : SR fc s a w g) {w' : World} {s' : St} {F' : Pos → List Nat} {tb tof : Nat} {us : List Value} (hw : Wrote w w' tb tof us) {q₀ : Pos} (htb : tb ∈ g.F q₀) (hzf : ∀ i, ¬ fc.zf tb i)
    {p : Bool → Ref → Bool} {ro : Bool} (hbxc : bxcOf s'.bx g.ba = bxcOf s.bx g.ba) (hro : ro = false → w' = w)
    (hres : ∀ r a', p false r = false → (cx fc s a w g).res r = some a' → resOf fc.pers (tmOf a) g.ba w' r = some a')
    (hhold : ∀ r v, p true r = false → (cx fc s a w g).hold r = some v → (∃ a n c, v = .slice a n c) → holdOf fc.pers (tmOf a) g.ba w' r = some v) :
    (cx fc s a w g).KeepsK (cx fc s' a w' { g with F := F' }) p ro (fun b => b ≠ tb) := by
  refine ⟨hres, fun r v h1 h2 h3 h4 => hhold r v h1 h2 h4, fun b i v h1 h2 => ⟨h1, ?_⟩, fun hr b i v h1 h2 => ?_, fun b hb => ⟨hw.other b hb, rfl, fun i h => h⟩⟩
  · refine (hw.cell (.inl ?_)).trans h2
    intro hh; simp only at hh; subst hh; exact hzf i h1
  · have := hro hr; subst this
    exact ⟨by simp only [Cx.st, cx] at h1 ⊢; rw [hbxc]; exact h1, h2⟩
theorem SR.editSlot (h : SR fc s a w g) {t : Nat} {path : List Comp} {ys : List AV} {x' : AV} {w' : World} {tb tof : Nat} {us : List Value} {H : List Nat} {p : Bool → Ref → Bool} {ro : Bool}
    (hs : setW (Ev.kl p ro (s.env t)) path ys = some x') (hwalk : walk w (tmOf a t) path = some ⟨tb, tof, none⟩) (hw : Wrote w w' tb tof us)
    (hy : RelL (cx fc s a w g) false ys us H) (hky : ys = ys.map (Ev.kin p ro)) (hH : ∀ q, Disj H (g.F q)) (hsep : ∀ m cs ad, s.bx m = some cs → g.ba m = some ad → ad.block ∉ H) (hfree : ∀ b, b ∈ H → fc.free b)
    (hro : ro = false → w' = w)
    (hres : ∀ r a', p false r = false → (cx fc s a w g).res r = some a' → resOf fc.pers (tmOf a) g.ba w' r = some a')
    (hhold : ∀ r v, p true r = false → (cx fc s a w g).hold r = some v → (∃ a n c, v = .slice a n c) → holdOf fc.pers (tmOf a) g.ba w' r = some v) :
    ∃ F' Fo olds uold, SR fc ((s.kl p ro).set t x') a w' { g with F := updP g.F (.slot t) F' } ∧ (∀ b, b ∈ F' → b ∈ g.F (.slot t) ∨ b ∈ H) ∧
      RelL (cx fc s a w g) false olds uold Fo ∧ (∀ b, b ∈ Fo → b ∈ g.F (.slot t)) ∧ (Disj Fo H → Disj Fo F') ∧
      (∃ more, getW (s.env t) path = some (olds ++ more)) ∧ olds.length = ys.length ∧ (∀ k u, uold[k]? = some u → w.cell? ⟨tb, tof + k, none⟩ = some u) := by
  have hrel := h.slots t
  have hs' := setW_kin hs
  have htb : tb ∈ g.F (.slot t) := hrel.target path hs' hwalk
  have hzf : ∀ i, ¬ fc.zf tb i := hrel.nozf tb htb
  have hk : ∀ F', (cx fc s a w g).KeepsK (cx fc ((s.kl p ro).set t x') a w' { g with F := F' }) p ro (fun b => b ≠ tb) := fun F' => h.keepsEdit hw htb hzf (bxcOf_kl s p ro g.ba) hro hres hhold
  have hyH : ∀ b, b ∈ H → b ≠ tb := fun b hb hh => hH (.slot t) b hb (hh ▸ htb)
  have hy' : RelL (cx fc ((s.kl p ro).set t x') a w' g) false ys us H := by
    have := hy.kin (hk g.F) hyH
    rw [← hky] at this; exact this
  obtain ⟨F', Fo, olds, uold, g1, g2, g3, g4, g5, g6, g7, g8, g9⟩ := Rel.edit (X := cx fc s a w g) (X' := cx fc ((s.kl p ro).set t x') a w' g) hw (hk g.F) rfl (fun i h => h) hy' path hrel hs' hwalk (hH _)
  refine ⟨F', Fo, olds, uold, ?_, g2, g3, g4, g5, g7, g8, g9⟩
  have hne : ∀ q, q ≠ .slot t → ∀ b, b ∈ g.F q → b ≠ tb := fun q hq b hb hh => h.disj q _ hq b hb (hh ▸ htb)
  have hbx : ∀ {n cs'}, ((s.kl p ro).set t x').bx n = some cs' → ∃ cs'', s.bx n = some cs'' ∧ cs' = klL p ro cs'' := by
    intro n cs' hn
    simp only [St.set, St.kl, Option.map_eq_some_iff] at hn
    obtain ⟨cs'', h1, h2⟩ := hn
    exact ⟨cs'', h1, h2.symm⟩
  have hmem : ∀ {q b}, b ∈ updP g.F (.slot t) F' q → (b ∈ g.F q) ∨ (q = .slot t ∧ b ∈ H) := by
    intro q b hb
    by_cases hq : q = .slot t
    · subst hq; rw [updP_same] at hb
      rcases g2 b hb with hb | hb
      · exact .inl hb
      · exact .inr ⟨rfl, hb⟩
    · rw [updP_other _ _ hq] at hb; exact .inl hb
  have h' := h.kill p ro
  refine ⟨fun u => ?_, fun n cs' hn => ?_, fun n hn => ?_, fun q q' hqq b hb hb' => ?_, fun n cs' ad hn ha q hb => ?_, h'.apart, h'.zfb, h.zfo, fun q b hb => ?_, h'.touchB, ?_, h.defers, h.size, h'.nob, h.zfd, h.bdo, h'.hbo⟩
  · simp only
    by_cases hu : u = t
    · subst hu
      rw [updP_same]
      simp only [St.set, upd_same]
      exact g1
    · rw [updP_other _ _ (by intro hh; injection hh with hh; exact hu hh)]
      simp only [St.set]
      rw [upd_other _ _ hu]
      exact (h.slots u).kl (hk _) (hne _ (by intro hh; injection hh with hh; exact hu hh))
  · simp only
    obtain ⟨cs'', h1, rfl⟩ := hbx hn
    obtain ⟨ad, vs, h2, ⟨hsp, arr, e, fr, hh, hfr, hr⟩, h5⟩ := h.boxes n cs'' h1
    rw [updP_other _ _ (by intro hh; cases hh)]
    have hab : ad.block ≠ tb := fun hh' => h.sep n cs'' ad h1 h2 _ (hh' ▸ htb)
    exact ⟨ad, vs, h2, ⟨hsp, arr, e, fr, by rw [hw.other _ hab]; exact hh, hfr, hr⟩, h5.kl (hk _) (hne _ (by intro hh; cases hh))⟩
  · simp only
    rw [updP_other _ _ (by intro hh; cases hh)]
    exact h'.nobox n hn
  · rcases hmem hb with k1 | ⟨h1, k1⟩ <;> rcases hmem hb' with k2 | ⟨h2, k2⟩
    · exact h.disj q q' hqq b k1 k2
    · exact hH q b k2 k1
    · exact hH q' b k1 k2
    · exact hqq (h1.trans h2.symm)
  · obtain ⟨cs'', h1, rfl⟩ := hbx hn
    rcases hmem hb with k1 | ⟨_, k1⟩
    · exact h.sep n cs'' ad h1 ha q k1
    · exact hsep n cs'' ad h1 ha k1
  · rcases hmem hb with k1 | ⟨_, k1⟩
    · exact h.touchF q b k1
    · exact hfree b k1
  · refine h.keep.wrote hw fun k hk => ?_
    rcases h.touchF _ tb htb with hf | hf
    · exact .inl hf
    · exact .inr (hf _)
theorem SR.editBox (h : SR fc s a w g) {n k : Nat} {c1 c3 : List AV} {x : AV} {path : List Comp} {ys : List AV} {x' : AV} {w' : World} {tb tof : Nat} {us : List Value} {H : List Nat} {p : Bool → Ref → Bool} {ro : Bool} {ad : Addr} {v : Value}
    (hn : s.bx n = some (c1 ++ x :: c3)) (hk1 : c1.length = k) (ha : g.ba n = some ad) (hv : w.cell? (ad.add k) = some v)
    (hs : setW (Ev.kl p ro x) path ys = some x') (hwalk : walk w v path = some ⟨tb, tof, none⟩) (hw : Wrote w w' tb tof us)
    (hy : RelL (cx fc s a w g) false ys us H) (hky : ys = ys.map (Ev.kin p ro)) (hH : ∀ q, Disj H (g.F q)) (hsep : ∀ m cs ad, s.bx m = some cs → g.ba m = some ad → ad.block ∉ H) (hfree : ∀ b, b ∈ H → fc.free b)
    (hro : ro = false → w' = w)
    (hres : ∀ r a', p false r = false → (cx fc s a w g).res r = some a' → resOf fc.pers (tmOf a) g.ba w' r = some a')
    (hhold : ∀ r v, p true r = false → (cx fc s a w g).hold r = some v → (∃ a n c, v = .slice a n c) → holdOf fc.pers (tmOf a) g.ba w' r = some v) :
    ∃ F' Fo olds uold, SR fc ((s.kl p ro).setB n (klL p ro c1 ++ x' :: klL p ro c3)) a w' { g with F := updP g.F (.box n) F' } ∧ (∀ b, b ∈ F' → b ∈ g.F (.box n) ∨ b ∈ H) ∧
      RelL (cx fc s a w g) false olds uold Fo ∧ (∀ b, b ∈ Fo → b ∈ g.F (.box n)) ∧ (Disj Fo H → Disj Fo F') ∧
      (∃ more, getW x path = some (olds ++ more)) ∧ olds.length = ys.length ∧ (∀ k u, uold[k]? = some u → w.cell? ⟨tb, tof + k, none⟩ = some u) := by
  obtain ⟨ad', vs, ha', hba, hrel⟩ := h.boxes n _ hn
  rw [ha] at ha'; injection ha' with ha'; subst ha'
  obtain ⟨u1, u', F1, F', rfl, hFb, r1, r', d1⟩ := hrel.split
  cases r' with
  | cons _ _ v' F2 _ u3 F3 hvc r2 r3 d2 =>
  have l1 := r1.length
  have hvv : v' = v := by
    have := hba.cell (k := k) (v := v') (by rw [List.getElem?_append_right (by omega), show k - u1.length = 0 by omega]; rfl)
    rw [hv] at this; injection this with this; exact this.symm
  subst hvv
  have hs' := setW_kin hs
  have htb2 : tb ∈ F2 := r2.target path hs' hwalk
  have htb : tb ∈ g.F (.box n) := by rw [hFb]; simp [htb2]
  have hzf : ∀ i, ¬ fc.zf tb i := r2.nozf tb htb2
  have hbxc : bxcOf ((s.kl p ro).setB n (klL p ro c1 ++ x' :: klL p ro c3)).bx g.ba = bxcOf s.bx g.ba := by
    funext b i
    apply propext
    constructor
    · rintro ⟨m, cs, ad', h1, h2, h3, h4, h5⟩
      by_cases hd : m = n
      · subst hd
        simp only [St.setB, upd_same, Option.some.injEq] at h1
        subst h1
        exact ⟨m, _, ad', hn, h2, h3, h4, by simp [klL_eq] at h5 ⊢; omega⟩
      · simp only [St.setB] at h1
        rw [upd_other _ _ hd] at h1
        simp only [St.kl, Option.map_eq_some_iff] at h1
        obtain ⟨cs'', h1, rfl⟩ := h1
        exact ⟨m, _, ad', h1, h2, h3, h4, by simpa [klL_eq] using h5⟩
    · rintro ⟨m, cs, ad', h1, h2, h3, h4, h5⟩
      by_cases hd : m = n
      · subst hd
        rw [hn] at h1; injection h1 with h1; subst h1
        exact ⟨m, _, ad', by simp [St.setB, upd_same]; rfl, h2, h3, h4, by simp [klL_eq] at h5 ⊢; omega⟩
      · exact ⟨m, klL p ro cs, ad', by simp only [St.setB]; rw [upd_other _ _ hd]; simp [St.kl, h1], h2, h3, h4, by simpa [klL_eq] using h5⟩
  have hk : ∀ F', (cx fc s a w g).KeepsK (cx fc ((s.kl p ro).setB n (klL p ro c1 ++ x' :: klL p ro c3)) a w' { g with F := F' }) p ro (fun b => b ≠ tb) := fun F' => h.keepsEdit hw htb hzf hbxc hro hres hhold
  have hyH : ∀ b, b ∈ H → b ≠ tb := fun b hb hh => hH _ b hb (hh ▸ htb)
  have hy' : RelL (cx fc ((s.kl p ro).setB n (klL p ro c1 ++ x' :: klL p ro c3)) a w' g) false ys us H := by
    have := hy.kin (hk g.F) hyH
    rw [← hky] at this; exact this
  have hHF2 : Disj H F2 := fun b hb hb' => hH (.box n) b hb (by rw [hFb]; simp [hb'])
  obtain ⟨F2', Fo, olds, uold, g1, g2, g3, g4, g5, g6, g7, g8, g9⟩ := Rel.edit (X := cx fc s a w g) (X' := cx fc ((s.kl p ro).setB n (klL p ro c1 ++ x' :: klL p ro c3)) a w' g) hw (hk g.F) rfl (fun i h => h) hy' path r2 hs' hwalk hHF2
  have n1 : ∀ b, b ∈ F1 → b ≠ tb := fun b hb hh => d1 b hb (by simp [hh, htb2])
  have n3 : ∀ b, b ∈ F3 → b ≠ tb := fun b hb hh => d2 b (by simp [hh, htb2]) hb
  have hH1 : ∀ b, b ∈ H → b ∉ F1 := fun b hb hb' => hH (.box n) b hb (by rw [hFb]; simp [hb'])
  have hH3 : ∀ b, b ∈ H → b ∉ F3 := fun b hb hb' => hH (.box n) b hb (by rw [hFb]; simp [hb'])
  refine ⟨F1 ++ (F2' ++ F3), Fo, olds, uold, ?_, ?_, g3, ?_, ?_, g7, g8, g9⟩
  · have hne : ∀ q, q ≠ .box n → ∀ b, b ∈ g.F q → b ≠ tb := fun q hq b hb hh => h.disj q _ hq b hb (hh ▸ htb)
    have hbx : ∀ {m cs'}, ((s.kl p ro).setB n (klL p ro c1 ++ x' :: klL p ro c3)).bx m = some cs' → (m = n ∧ cs' = klL p ro c1 ++ x' :: klL p ro c3) ∨ (m ≠ n ∧ ∃ cs'', s.bx m = some cs'' ∧ cs' = klL p ro cs'') := by
      intro m cs' hm
      simp only [St.setB] at hm
      by_cases hd : m = n
      · subst hd; rw [upd_same] at hm; injection hm with hm; exact .inl ⟨rfl, hm.symm⟩
      · rw [upd_other _ _ hd] at hm
        simp only [St.kl, Option.map_eq_some_iff] at hm
        obtain ⟨cs'', h1, h2⟩ := hm
        exact .inr ⟨hd, cs'', h1, h2.symm⟩
    have hmem : ∀ {q b}, b ∈ updP g.F (.box n) (F1 ++ (F2' ++ F3)) q → (b ∈ g.F q) ∨ (q = .box n ∧ b ∈ H) := by
      intro q b hb
      by_cases hq : q = .box n
      · subst hq; rw [updP_same] at hb
        simp only [List.mem_append] at hb
        rcases hb with hb | hb | hb
        · left; rw [hFb]; simp [hb]
        · rcases g2 b hb with hb | hb
          · left; rw [hFb]; simp [hb]
          · exact .inr ⟨rfl, hb⟩
        · left; rw [hFb]; simp [hb]
      · rw [updP_other _ _ hq] at hb; exact .inl hb
    refine ⟨fun u => ?_, fun m cs' hm => ?_, fun m hm => ?_, fun q q' hqq b hb hb' => ?_, fun m cs' ad1 hm ha1 q hb => ?_, fun m m' e1 e2 ad1 ad2 hmm hm hm' ha1 ha2 => ?_, ?_, h.zfo, fun q b hb => ?_, ?_, ?_, h.defers, h.size, fun m hm => ?_, h.zfd, h.bdo, fun m h1 h2 => h.hbo m h1 fun hn' => h2 (by
      have hd : m ≠ n := by rintro rfl; rw [hn] at hn'; cases hn'
      simp only [St.setB]; rw [upd_other _ _ hd]; simp [St.kl, hn'])⟩
    · simp only
      rw [updP_other _ _ (by intro hh; cases hh)]
      exact (h.slots u).kl (hk _) (hne _ (by intro hh; cases hh))
    · simp only
      rcases hbx hm with ⟨rfl, rfl⟩ | ⟨hd, cs'', h1, rfl⟩
      · rw [updP_same]
        obtain ⟨hsp, arr, e, fr, hh, hfr, hr⟩ := hba
        have hab : ad.block ≠ tb := fun hh' => h.sep _ _ ad hn ha _ (hh' ▸ htb)
        refine ⟨ad, u1 ++ v' :: u3, ha, ⟨hsp, arr, e, fr, by rw [hw.other _ hab]; exact hh, hfr, hr⟩, (r1.kl (hk _) n1).append (.cons _ _ v' F2' _ u3 F3 hvc g1 (r3.kl (hk _) n3) ?_) ?_⟩
        · intro b hb hb'
          rcases g2 b hb with hb | hb
          · exact d2 b hb hb'
          · exact hH3 b hb hb'
        · intro b hb hb'
          rcases List.mem_append.1 hb' with hb' | hb'
          · rcases g2 b hb' with hb' | hb'
            · exact d1 b hb (by simp [hb'])
            · exact hH1 b hb' hb
          · exact d1 b hb (by simp [hb'])
      · obtain ⟨ad1, vs1, h2, ⟨hsp, arr, e, fr, hh, hfr, hr⟩, h5⟩ := h.boxes m cs'' h1
        rw [updP_other _ _ (by intro hh; injection hh with hh; exact hd hh)]
        have hab : ad1.block ≠ tb := fun hh' => h.sep m cs'' ad1 h1 h2 _ (hh' ▸ htb)
        exact ⟨ad1, vs1, h2, ⟨hsp, arr, e, fr, by rw [hw.other _ hab]; exact hh, hfr, hr⟩, h5.kl (hk _) (hne _ (by intro hh; injection hh with hh; exact hd hh))⟩
    · simp only
      have hd : m ≠ n := by intro hd; subst hd; simp [St.setB, upd_same] at hm
      rw [updP_other _ _ (by intro hh; injection hh with hh; exact hd hh)]
      simp only [St.setB] at hm
      rw [upd_other _ _ hd] at hm
      exact h.nobox m (by simpa [St.kl] using hm)
    · rcases hmem hb with k1 | ⟨h1, k1⟩ <;> rcases hmem hb' with k2 | ⟨h2, k2⟩
      · exact h.disj q q' hqq b k1 k2
      · exact hH q b k2 k1
      · exact hH q' b k1 k2
      · exact hqq (h1.trans h2.symm)
    · have hold : ∃ cs, s.bx m = some cs := by
        rcases hbx hm with ⟨rfl, rfl⟩ | ⟨hd, cs'', h1, rfl⟩
        · exact ⟨_, hn⟩
        · exact ⟨_, h1⟩
      obtain ⟨cs, h1⟩ := hold
      rcases hmem hb with k1 | ⟨_, k1⟩
      · exact h.sep m cs ad1 h1 ha1 q k1
      · exact hsep m cs ad1 h1 ha1 k1
    · rcases hbx hm with ⟨rfl, rfl⟩ | ⟨hd, cs'', h1, rfl⟩ <;> rcases hbx hm' with ⟨rfl, rfl⟩ | ⟨hd', cs3, h1', rfl⟩
      · exact absurd rfl hmm
      · have := h.apart _ _ _ _ ad1 ad2 hmm hn h1' ha1 ha2
        simp [klL_eq] at this ⊢; omega
      · have := h.apart _ _ _ _ ad1 ad2 hmm h1 hn ha1 ha2
        simp [klL_eq] at this ⊢; omega
      · have := h.apart _ _ _ _ ad1 ad2 hmm h1 h1' ha1 ha2
        simpa [klL_eq] using this
    · simp only; rw [hbxc]; exact h.zfb
    · rcases hmem hb with k1 | ⟨_, k1⟩
      · exact h.touchF q b k1
      · exact hfree b k1
    · simp only; rw [hbxc]; exact h.touchB
    · refine h.keep.wrote hw fun k hk => ?_
      rcases h.touchF _ tb htb with hf | hf
      · exact .inl hf
      · exact .inr (hf _)
    · simp only [St.setB] at hm
      have hd : m ≠ n := by intro hd; subst hd; simp [upd_same] at hm
      rw [upd_other _ _ hd] at hm
      exact h.nob m (by simpa [St.kl] using hm)
  · intro b hb
    simp only [List.mem_append] at hb
    rcases hb with hb | hb | hb
    · left; rw [hFb]; simp [hb]
    · rcases g2 b hb with hb | hb
      · left; rw [hFb]; simp [hb]
      · exact .inr hb
    · left; rw [hFb]; simp [hb]
  · intro b hb; rw [hFb]; simp [g4 b hb]
  · intro hFH b hb hb'
    simp only [List.mem_append] at hb'
    rcases hb' with hb' | hb' | hb'
    · exact d1 b hb' (by simp [g4 b hb])
    · exact g5 hFH b hb hb'
    · exact d2 b (g4 b hb) hb'
end
end Go.Ev
namespace Go.Ev
set_option linter.unusedVariables false
mutual
theorem kl_noRef : ∀ x : AV, kl noRef false x = x
  | .lit v => rfl
  | .sl fl es xs => rfl
  | .agg cs => by simp only [kl, klL_noRef cs]
  | .tup cs => by simp only [kl, klL_noRef cs]
  | .ptr r => by simp [kl, noRef]
  | .bor r => by simp [kl, noRef]
  | .cell fl cs o => rfl
  | .clo f caps => by simp only [kl, klL_noRef caps]
  | .junk => rfl
theorem klL_noRef : ∀ xs : List AV, klL noRef false xs = xs
  | [] => rfl
  | x :: xs => by simp only [klL, kl_noRef x, klL_noRef xs]
end
theorem St.kl_noRef (s : St) : s.kl noRef false = s := by
  cases s with | mk env bx =>
  simp only [St.kl, Ev.kl_noRef]
  congr
  funext n
  cases bx n <;> simp [klL_noRef]
theorem Wrote.self {w : World} {b o : Nat} {v : Value} (h : w.cell? ⟨b, o, none⟩ = some v) : Wrote w w b o [v] := by
  unfold World.cell? at h
  simp only at h
  split at h
  · rename_i arr e fr hh
    simp only [Option.isSome_none, Bool.false_eq_true, if_false] at h
    have hlt := (Array.getElem?_eq_some_iff.1 h).1
    refine ⟨rfl, rfl, rfl, rfl, fun _ _ => rfl, arr, arr, e, fr, hh, hh, rfl, by simp; omega, fun j => ?_⟩
    split
    · rename_i hj
      have : j = o := by simp at hj; omega
      subst this
      simp [h]
    · rfl
  · cases h
theorem Rel.slAny {X : Cx} {t t' : Bool} {fl : Fl} {es : Nat} {xs : List AV} {v : Value} {F : List Nat} (h : Rel X t (.sl fl es xs) v F) : Rel X t' (.sl fl es xs) v F := by
  cases h with
  | nil => exact .nil _ _ _ _
  | own _ _ b o cap _ arr e fr vs F hh hfr hs hn hu hr hc hb hbd hzf => exact .own _ _ b o cap es arr e fr vs F hh hfr hs hn hu hr hc hb hbd hzf
  | imm _ _ _ ad cap _ vs hfl hn hu hr hc => exact .imm _ _ _ ad cap es vs hfl hn hu hr hc
def takeR (s : St) (r : Ref) : Option (AV × St) :=
  match getH s r with
  | some (.sl .own es xs) =>
    match r with
    | ⟨.slot t, []⟩ => some (.sl .own es xs, s.set t (roD (.sl .own es xs)))
    | ⟨.slot t, p⟩ => (setW (s.env t) p [roD (.sl .own es xs)]).map fun x' => (.sl .own es xs, s.set t x')
    | ⟨.box n k, []⟩ => (s.bx n).map fun cs => (.sl .own es xs, s.setB n (cs.set k (roD (.sl .own es xs))))
    | ⟨.box n k, p⟩ =>
      match s.bx n with
      | none => none
      | some cs => match cs[k]? with
        | none => none
        | some x => (setW x p [roD (.sl .own es xs)]).map fun x' => (.sl .own es xs, s.setB n (cs.set k x'))
  | some (.sl fl es xs) => some (.sl fl es xs, s)
  | _ => none
theorem bxcOf_setB_len {bx : Nat → Option (List AV)} {ba : Nat → Option Addr} {n : Nat} {cs cs' : List AV} (hn : bx n = some cs) (hl : cs'.length = cs.length) : bxcOf (upd bx n (some cs')) ba = bxcOf bx ba := by
  funext b i
  apply propext
  constructor
  · rintro ⟨m, c, ad, h1, h2, h3, h4, h5⟩
    by_cases hd : m = n
    · subst hd; rw [upd_same] at h1; injection h1 with h1; subst h1; exact ⟨m, cs, ad, hn, h2, h3, h4, by omega⟩
    · rw [upd_other _ _ hd] at h1; exact ⟨m, c, ad, h1, h2, h3, h4, h5⟩
  · rintro ⟨m, c, ad, h1, h2, h3, h4, h5⟩
    by_cases hd : m = n
    · subst hd; rw [hn] at h1; injection h1 with h1; subst h1; exact ⟨m, cs', ad, upd_same .., h2, h3, h4, by omega⟩
    · exact ⟨m, c, ad, by rw [upd_other _ _ hd]; exact h1, h2, h3, h4, h5⟩
section
variable {fc : Fc} {s : St} {a : Act} {w : World} {g : Gh}
theorem hold_slot (h : SR fc s a w g) {t : Nat} (hp : fc.pers t = true) : (cx fc s a w g).hold ⟨.slot t, []⟩ = some (tmOf a t) := by simp [cx, holdOf, hp]
theorem getH_rel (h : SR fc s a w g) {r : Ref} {y : AV} {v : Value} (hg : getH s r = some y) (hv : (cx fc s a w g).hold r = some v) : ∃ t G q, Rel (cx fc s a w g) t y v G ∧ ∀ b, b ∈ G → b ∈ g.F q := by
  obtain ⟨root, path⟩ := r
  have key : ∀ r : Ref, (getR s r).bind (·[0]?) = some y → (∀ t, r.root = .slot t → fc.pers t = true) → (resOf fc.pers (tmOf a) g.ba w r).bind w.cell? = some v → ∃ t G q, Rel (cx fc s a w g) t y v G ∧ ∀ b, b ∈ G → b ∈ g.F q := by
    intro r hr hp hv
    simp only [Option.bind_eq_some_iff] at hr hv
    obtain ⟨cs, h1, h2⟩ := hr
    obtain ⟨ad, h3, h4⟩ := hv
    obtain ⟨ad', q, h5, h6⟩ := getR_rel h hp h1 (by rintro rfl; simp at h2)
    simp only [cx] at h5
    rw [h5] at h3; injection h3 with h3; subst h3
    obtain ⟨t, u, G, h7, h8, _, h9⟩ := h6 0 y h2
    have : u = v := by
      have h7' : w.cell? (ad'.add 0) = some u := h7
      have : ad'.add 0 = ad' := by simp [Addr.add]
      rw [this, h4] at h7'; injection h7' with h7'; exact h7'.symm
    subst this
    exact ⟨t, G, q, h8, h9⟩
  cases root with
  | slot t =>
    have hp : fc.pers t = true := by
      cases path with
      | nil => simp only [cx, holdOf] at hv; by_cases hp : fc.pers t = true; exact hp; rw [if_neg hp] at hv; cases hv
      | cons c p => simp only [cx, holdOf, resOf] at hv; by_cases hp : fc.pers t = true; exact hp; rw [if_neg hp] at hv; cases hv
    cases path with
    | nil =>
      rw [hold_slot h hp] at hv
      simp only [getH, Option.some.injEq] at hg hv
      subst hg; subst hv
      exact ⟨true, _, .slot t, h.slots t, fun b hb => hb⟩
    | cons c p => exact key _ hg (fun t' ht => by injection ht with ht; subst ht; exact hp) hv
  | box n k => exact key _ (by simpa [getH] using hg) (fun t' ht => by cases ht) (by simpa [cx, holdOf] using hv)
def Sub (g : Gh) (F : Pos → List Nat) (H : List Nat) : Prop := (∀ q b, b ∈ F q → b ∈ g.F q) ∧ ∀ b, b ∈ H → ∃ q, b ∈ g.F q
theorem sub_upd {g : Gh} {p : Pos} {F' H : List Nat} (h1 : ∀ b, b ∈ F' → b ∈ g.F p) (h2 : ∀ b, b ∈ H → b ∈ g.F p) : Sub g (updP g.F p F') H := by
  refine ⟨fun q b hb => ?_, fun b hb => ⟨p, h2 b hb⟩⟩
  by_cases hq : q = p
  · subst hq; rw [updP_same] at hb; exact h1 b hb
  · rw [updP_other _ _ hq] at hb; exact hb
theorem SR.take' (h : SR fc s a w g) {r : Ref} {y : AV} {s' : St} {v : Value} (hv : (cx fc s a w g).hold r = some v) (ht : takeR s r = some (y, s')) :
    ∃ F H, SR fc s' a w { g with F := F } ∧ Rel (cx fc s' a w { g with F := F }) true y v H ∧ Hand fc s' { g with F := F } H ∧ Sub g F H := by
  unfold takeR at ht
  have hother : ∀ y, getH s r = some y → ∃ t G q, Rel (cx fc s a w g) t y v G ∧ ∀ b, b ∈ G → b ∈ g.F q := fun y hy => getH_rel h hy hv
  split at ht
  · rename_i es xs hg
    obtain ⟨root, path⟩ := r
    have hpers : ∀ t, root = .slot t → fc.pers t = true := by
      rintro t rfl
      cases path with
      | nil => simp only [cx, holdOf] at hv; by_cases hp : fc.pers t = true; exact hp; rw [if_neg hp] at hv; cases hv
      | cons c p => simp only [cx, holdOf, resOf] at hv; by_cases hp : fc.pers t = true; exact hp; rw [if_neg hp] at hv; cases hv
    cases root with
    | slot t =>
      have hp := hpers t rfl
      cases path with
      | nil =>
        simp only [Option.some.injEq, Prod.mk.injEq] at ht
        obtain ⟨rfl, rfl⟩ := ht
        simp only [getH, Option.some.injEq] at hg
        obtain ⟨h1, h2⟩ := h.strip t
        rw [hg] at h1 h2
        rw [hold_slot h hp] at hv; injection hv with hv; subst hv
        have := h.slots t
        rw [hg] at this
        exact ⟨_, _, h1, this, h2, sub_upd (fun b hb => (List.not_mem_nil hb).elim) (fun b hb => hb)⟩
      | cons c p =>
        simp only [Option.map_eq_some_iff, Prod.mk.injEq] at ht
        obtain ⟨x', hs, rfl, rfl⟩ := ht
        simp only [getH, getR, Option.bind_eq_some_iff] at hg
        obtain ⟨cs, hg1, hg2⟩ := hg
        have hne : cs ≠ [] := by rintro rfl; simp at hg2
        obtain ⟨ad, h1, h2⟩ := getW_rel (c :: p) (h.slots t) hg1 hne
        obtain ⟨t', u, G, h3, h4, h5, hGF⟩ := h2 0 _ hg2
        have hadd : ad.add 0 = ad := by simp [Addr.add]
        rw [hadd] at h3
        have hsp := Addr.spot_of_cell h3
        have hu : u = v := by
          simp only [cx, holdOf, resOf] at hv
          rw [if_pos hp] at hv
          have h1' : walk w (tmOf a t) (c :: p) = some ad := h1
          rw [h1', Option.bind_some] at hv
          have h3' : w.cell? ad = some u := h3
          rw [h3'] at hv; injection hv
        subst hu
        have hz := Addr.eta hsp
        have hG : ∀ b, b ∈ G → ∀ i, ¬ (cx fc s a w g).bxc b i := fun b hb i => h.noBox (hGF b hb) i
        have hro : Rel (cx fc s a w g) false (roD (.sl .own es xs)) u [] := by
          have := h4.ro hG
          simp only [roD, if_true] at this ⊢
          exact this.slAny
        obtain ⟨F', Fo, olds, uold, q1, q2, q3, q4, q5, q6, q7, q8⟩ := h.editSlot (t := t) (path := c :: p) (ys := [roD (.sl .own es xs)]) (x' := x') (w' := w) (tb := ad.block) (tof := ad.off) (us := [u]) (H := []) (p := noRef) (ro := false)
          (by rw [kl_noRef]; exact hs) (by rw [← hz]; exact h1) (Wrote.self (by rw [← hz]; exact h3)) (.cons _ _ u [] _ [] [] h5 hro (.nil _) (fun b hb => (List.not_mem_nil hb).elim))
          (by rw [kin_false]; simp) (fun q b hb => (List.not_mem_nil hb).elim) (fun _ _ _ _ _ hb => (List.not_mem_nil hb).elim) (fun b hb => (List.not_mem_nil hb).elim) (fun _ => rfl)
          (fun r a' _ h => h) (fun r v _ h _ => h)
        rw [St.kl_noRef] at q1
        obtain ⟨more, q6⟩ := q6
        have hold : ∃ y', olds = [y'] := by
          match olds, q7 with
          | [y'], _ => exact ⟨y', rfl⟩
        obtain ⟨y', rfl⟩ := hold
        rw [hg1] at q6; injection q6 with q6; subst q6
        simp only [List.singleton_append, List.getElem?_cons_zero, Option.some.injEq] at hg2
        subst hg2
        cases q3 with
        | cons _ _ u' F1 _ us' F2 hv' hr' hs' hd' =>
        cases hs'
        have hu' : u' = u := by
          have := q8 0 u' rfl
          simp only [Nat.add_zero] at this
          rw [← hz] at this
          have h3' : w.cell? ad = some u := h3
          rw [h3'] at this; injection this with this; exact this.symm
        subst hu'
        rw [List.append_nil] at q4 q5
        refine ⟨_, F1, q1, hr'.top, ⟨fun q b hb hb' => ?_, fun n cs ad' hn ha hb => ?_, fun b hb => h.touchF _ b (q4 b hb)⟩, sub_upd (fun b hb => (q2 b hb).resolve_right List.not_mem_nil) q4⟩
        · by_cases hq : q = .slot t
          · subst hq
            simp only at hb'; rw [updP_same] at hb'
            exact q5 (fun b _ hb => (List.not_mem_nil hb).elim) b hb hb'
          · simp only at hb'; rw [updP_other _ _ hq] at hb'
            exact h.disj _ q (Ne.symm hq) b (q4 b hb) hb'
        · exact h.sep n cs ad' hn ha _ (q4 _ hb)
    | box n k =>
      cases path with
      | nil =>
        simp only [Option.map_eq_some_iff, Prod.mk.injEq] at ht
        obtain ⟨cs, hn, rfl, rfl⟩ := ht
        simp only [getH, getR, hn, Option.map_some, Option.bind_some, List.getElem?_drop, Nat.add_zero] at hg
        obtain ⟨ad, vs, ha, hba, hrel⟩ := h.boxes n cs hn
        obtain ⟨hcs, hset⟩ := set_split hg (roD (.sl .own es xs))
        have hkl : k < cs.length := (List.getElem?_eq_some_iff.1 hg).1
        rw [hcs] at hrel hn
        obtain ⟨u1, u', F1, F', rfl, hFb, r1, r', d1⟩ := hrel.split
        cases r' with
        | cons _ _ v' F2 _ u3 F3 hvc r2 r3 d2 =>
        have l1 := r1.length
        have hlk : (cs.take k).length = k := by rw [List.length_take]; omega
        have hcell : w.cell? (ad.add k) = some v' := hba.cell (by rw [List.getElem?_append_right (by omega), show k - u1.length = 0 by omega]; rfl)
        have hvv : v' = v := by
          simp only [cx, holdOf, resOf, ha, Option.map_some, Option.bind_some] at hv
          rw [hcell] at hv; injection hv
        subst hvv
        have hG : ∀ b, b ∈ F2 → ∀ i, ¬ (cx fc s a w g).bxc b i := fun b hb i => h.noBox (p := .box n) (by rw [hFb]; simp [hb]) i
        have hw : Wrote w w ad.block (ad.off + k) [v'] := Wrote.self (by rw [← Addr.add_spot hba.spot]; exact hcell)
        have key := h.writeBox (n := n) (k := k) (c1 := cs.take k) (c2 := [.sl .own es xs]) (c3 := cs.drop (k + 1)) (ys := [roD (.sl .own es xs)]) (ad := ad) (u1 := u1) (u2 := [v']) (u3 := u3) (us := [v']) (F1 := F1) (F2 := F2) (F3 := F3) (H := []) (w' := w)
          (by rw [hn, List.append_assoc]; rfl) hlk rfl ha (by rw [List.append_assoc]; exact hba) r1 (by have := RelL.cons true _ v' F2 [] [] [] hvc r2 (.nil _) (fun b _ hb => (List.not_mem_nil hb).elim); rwa [List.append_nil] at this) r3
          (by rw [hFb, List.append_assoc]) (fun b hb hb' => d1 b hb (by simp [hb'])) (.cons _ _ v' [] _ [] [] hvc (r2.ro hG) (.nil _) (fun b hb => (List.not_mem_nil hb).elim)) (fun b _ hb => (List.not_mem_nil hb).elim) (fun b hb => (List.not_mem_nil hb).elim) (fun q _ b hb => (List.not_mem_nil hb).elim) (fun _ _ _ _ _ hb => (List.not_mem_nil hb).elim) (fun b hb => (List.not_mem_nil hb).elim)
          hw noRef (fun r a' _ h => h) (fun r v _ h _ => h)
        rw [St.kl_noRef] at key
        simp only [klL_noRef] at key
        rw [List.append_assoc, List.singleton_append, ← hset] at key
        refine ⟨_, F2, key, ?_, ⟨fun q b hb hb' => ?_, fun m cs' ad' hm ha' hb => ?_, fun b hb => h.touchF (.box n) b (by rw [hFb]; simp [hb])⟩, sub_upd (p := .box n) (fun b hb => by rw [hFb]; simp at hb ⊢; rcases hb with hb | hb <;> simp [hb]) (fun b hb => by rw [hFb]; simp [hb])⟩
        · have hbxc : bxcOf (s.setB n (cs.set k (roD (.sl .own es xs)))).bx g.ba = bxcOf s.bx g.ba := by
            have := bxcOf_setB_len (bx := s.bx) (ba := g.ba) (n := n) (cs := cs) (cs' := cs.set k (roD (.sl .own es xs))) (by rw [hn, ← hcs]) (by simp)
            exact this
          have : cx fc (s.setB n (cs.set k (roD (.sl .own es xs)))) a w { g with F := updP g.F (.box n) (F1 ++ [] ++ F3) } = cx fc s a w g := by simp only [cx, hbxc]
          rw [this]; exact r2
        · by_cases hq : q = .box n
          · subst hq
            simp only at hb'; rw [updP_same] at hb'
            simp only [List.append_nil, List.mem_append] at hb'
            rcases hb' with hb' | hb'
            · exact d1 b hb' (by simp [hb])
            · exact d2 b hb hb'
          · simp only at hb'; rw [updP_other _ _ hq] at hb'
            exact h.disj (.box n) q (Ne.symm hq) b (by rw [hFb]; simp [hb]) hb'
        · have : ∃ cs, s.bx m = some cs := by
            simp only [St.setB] at hm
            by_cases hd : m = n
            · subst hd; exact ⟨_, hn⟩
            · rw [upd_other _ _ hd] at hm; exact ⟨_, hm⟩
          obtain ⟨cs0, h0⟩ := this
          exact h.sep m cs0 ad' h0 ha' (.box n) (by rw [hFb]; simp [hb])
      | cons c p =>
        cases hn : s.bx n with
        | none => simp [hn] at ht
        | some cs =>
          simp only [hn] at ht
          cases hck : cs[k]? with
          | none => simp [hck] at ht
          | some x =>
            simp only [hck, Option.map_eq_some_iff, Prod.mk.injEq] at ht
            obtain ⟨x', hs, rfl, rfl⟩ := ht
            simp only [getH, getR, hn, hck, Option.bind_some, Option.bind_eq_some_iff] at hg
            obtain ⟨cs', hg1, hg2⟩ := hg
            have hne : cs' ≠ [] := by rintro rfl; simp at hg2
            obtain ⟨adb, vs, ha, hba, hrel⟩ := h.boxes n cs hn
            obtain ⟨vx, Gx, hvx, hrx, hcx, hGx⟩ := hrel.get hck
            have hcellx := hba.cell hvx
            obtain ⟨ad, h1, h2⟩ := getW_rel (c :: p) hrx hg1 hne
            obtain ⟨t', u, G, h3, h4, h5, hGF⟩ := h2 0 _ hg2
            have hadd : ad.add 0 = ad := by simp [Addr.add]
            rw [hadd] at h3
            have hsp := Addr.spot_of_cell h3
            have hu : u = v := by
              simp only [cx, holdOf, resOf, ha, Option.bind_some] at hv
              rw [hcellx, Option.bind_some] at hv
              have h1' : walk w vx (c :: p) = some ad := h1
              rw [h1', Option.bind_some] at hv
              have h3' : w.cell? ad = some u := h3
              rw [h3'] at hv; injection hv
            subst hu
            have hz := Addr.eta hsp
            have hG : ∀ b, b ∈ G → ∀ i, ¬ (cx fc s a w g).bxc b i := fun b hb i => h.noBox (p := .box n) (hGx b (hGF b hb)) i
            have hro : Rel (cx fc s a w g) false (roD (.sl .own es xs)) u [] := by
              have := h4.ro hG
              simp only [roD, if_true] at this ⊢
              exact this.slAny
            obtain ⟨hcs, hset⟩ := set_split hck x'
            have hkl : k < cs.length := (List.getElem?_eq_some_iff.1 hck).1
            obtain ⟨F', Fo, olds, uold, q1, q2, q3, q4, q5, q6, q7, q8⟩ := h.editBox (n := n) (k := k) (c1 := cs.take k) (c3 := cs.drop (k + 1)) (x := x) (path := c :: p) (ys := [roD (.sl .own es xs)]) (x' := x') (w' := w) (tb := ad.block) (tof := ad.off) (us := [u]) (H := []) (p := noRef) (ro := false) (ad := adb) (v := vx)
              (by rw [hn, ← hcs]) (by rw [List.length_take]; omega) ha hcellx (by rw [kl_noRef]; exact hs) (by rw [← hz]; exact h1) (Wrote.self (by rw [← hz]; exact h3)) (.cons _ _ u [] _ [] [] h5 hro (.nil _) (fun b hb => (List.not_mem_nil hb).elim))
              (by rw [kin_false]; simp) (fun q b hb => (List.not_mem_nil hb).elim) (fun _ _ _ _ _ hb => (List.not_mem_nil hb).elim) (fun b hb => (List.not_mem_nil hb).elim) (fun _ => rfl)
              (fun r a' _ h => h) (fun r v _ h _ => h)
            rw [St.kl_noRef] at q1
            simp only [klL_noRef] at q1
            rw [← hset] at q1
            obtain ⟨more, q6⟩ := q6
            have hold : ∃ y', olds = [y'] := by
              match olds, q7 with
              | [y'], _ => exact ⟨y', rfl⟩
            obtain ⟨y', rfl⟩ := hold
            rw [hg1] at q6; injection q6 with q6; subst q6
            simp only [List.singleton_append, List.getElem?_cons_zero, Option.some.injEq] at hg2
            subst hg2
            cases q3 with
            | cons _ _ u' F1 _ us' F2 hv' hr' hs' hd' =>
            cases hs'
            have hu' : u' = u := by
              have := q8 0 u' rfl
              simp only [Nat.add_zero] at this
              rw [← hz] at this
              have h3' : w.cell? ad = some u := h3
              rw [h3'] at this; injection this with this; exact this.symm
            subst hu'
            rw [List.append_nil] at q4 q5
            refine ⟨_, F1, q1, ?_, ⟨fun q b hb hb' => ?_, fun m cs' ad' hm ha' hb => ?_, fun b hb => h.touchF _ b (q4 b hb)⟩, sub_upd (p := .box n) (fun b hb => (q2 b hb).resolve_right List.not_mem_nil) q4⟩
            · have hbxc : bxcOf (s.setB n (cs.set k x')).bx g.ba = bxcOf s.bx g.ba := bxcOf_setB_len hn (by simp)
              have : cx fc (s.setB n (cs.set k x')) a w { g with F := updP g.F (.box n) F' } = cx fc s a w g := by simp only [cx, hbxc]
              rw [this]; exact hr'.top
            · by_cases hq : q = .box n
              · subst hq
                simp only at hb'; rw [updP_same] at hb'
                exact q5 (fun b _ hb => (List.not_mem_nil hb).elim) b hb hb'
              · simp only at hb'; rw [updP_other _ _ hq] at hb'
                exact h.disj _ q (Ne.symm hq) b (q4 b hb) hb'
            · have : ∃ cs, s.bx m = some cs := by
                simp only [St.setB] at hm
                by_cases hd : m = n
                · subst hd; exact ⟨_, hn⟩
                · rw [upd_other _ _ hd] at hm; exact ⟨_, hm⟩
              obtain ⟨cs0, h0⟩ := this
              exact h.sep m cs0 ad' h0 ha' _ (q4 _ hb)
  · rename_i fl es xs hfl hg
    simp only [Option.some.injEq, Prod.mk.injEq] at ht
    obtain ⟨rfl, rfl⟩ := ht
    obtain ⟨t, G, _, hr, _⟩ := hother _ hg
    have : G = [] := by cases hr <;> first | rfl | (exact (hfl rfl).elim)
    subst this
    exact ⟨g.F, [], h, hr.top, .nil _ _ _, fun q b hb => hb, fun b hb => (List.not_mem_nil hb).elim⟩
  · cases ht
theorem SR.take (h : SR fc s a w g) {r : Ref} {y : AV} {s' : St} {v : Value} (hv : (cx fc s a w g).hold r = some v) (ht : takeR s r = some (y, s')) :
    ∃ F H, SR fc s' a w { g with F := F } ∧ Rel (cx fc s' a w { g with F := F }) true y v H ∧ Hand fc s' { g with F := F } H := by
  obtain ⟨F, H, h1, h2, h3, _⟩ := h.take' hv ht
  exact ⟨F, H, h1, h2, h3⟩
theorem takeR_bx {r : Ref} {y : AV} {s' : St} (ht : takeR s r = some (y, s')) (ba : Nat → Option Addr) : bxcOf s'.bx ba = bxcOf s.bx ba ∧ ∀ n, (s'.bx n = none ↔ s.bx n = none) := by
  have hset : ∀ n cs cs', s.bx n = some cs → cs'.length = cs.length → bxcOf (s.setB n cs').bx ba = bxcOf s.bx ba ∧ ∀ m, ((s.setB n cs').bx m = none ↔ s.bx m = none) := by
    intro n cs cs' hn hl
    refine ⟨bxcOf_setB_len hn hl, fun m => ?_⟩
    simp only [St.setB]
    by_cases hm : m = n
    · subst hm; simp [upd_same, hn]
    · rw [upd_other _ _ hm]
  unfold takeR at ht
  split at ht
  · obtain ⟨root, path⟩ := r
    cases root with
    | slot t => cases path with
      | nil => simp only [Option.some.injEq, Prod.mk.injEq] at ht; obtain ⟨_, rfl⟩ := ht; exact ⟨rfl, fun _ => Iff.rfl⟩
      | cons c p => simp only [Option.map_eq_some_iff, Prod.mk.injEq] at ht; obtain ⟨_, _, _, rfl⟩ := ht; exact ⟨rfl, fun _ => Iff.rfl⟩
    | box n k => cases path with
      | nil => simp only [Option.map_eq_some_iff, Prod.mk.injEq] at ht; obtain ⟨cs, hn, _, rfl⟩ := ht; exact hset n cs _ hn (by simp)
      | cons c p =>
        cases hn : s.bx n with
        | none => simp [hn] at ht
        | some cs =>
          simp only [hn] at ht
          cases hck : cs[k]? with
          | none => simp [hck] at ht
          | some x => simp only [hck, Option.map_eq_some_iff, Prod.mk.injEq] at ht; obtain ⟨_, _, _, rfl⟩ := ht; exact hset n cs _ hn (by simp)
  · simp only [Option.some.injEq, Prod.mk.injEq] at ht; obtain ⟨_, rfl⟩ := ht; exact ⟨rfl, fun _ => Iff.rfl⟩
  · cases ht
end
end Go.Ev
namespace Go.Ev
set_option linter.unusedVariables false
theorem Rel.lit_inv {X : Cx} {t : Bool} {u v : Value} {F : List Nat} (h : Rel X t (.lit u) v F) : v = u ∧ scalar u = true ∧ F = [] := by
  cases h with | lit _ _ hs => exact ⟨rfl, hs, rfl⟩
theorem Rel.sl_inv {X : Cx} {t : Bool} {fl : Fl} {es : Nat} {xs : List AV} {v : Value} {F : List Nat} (h : Rel X t (.sl fl es xs) v F) : ∃ a c, v = .slice a xs.length c ∧ xs.length ≤ c := by
  cases h with
  | nil _ _ _ A => exact ⟨A, 0, rfl, Nat.le_refl _⟩
  | own => exact ⟨_, _, rfl, by assumption⟩
  | imm => exact ⟨_, _, rfl, by assumption⟩
theorem Rel.bor_inv {X : Cx} {t : Bool} {r : Ref} {v : Value} {F : List Nat} (h : Rel X t (.bor r) v F) : X.hold r = some v ∧ (∃ a n c, v = .slice a n c) ∧ F = [] := by
  cases h with | bor _ _ hh hc hs => exact ⟨hh, hs, rfl⟩
def St.put (s : St) (pd : Bool) (d : Nat) (v : AV) : St :=
  if pd then
    match s.env d with
    | .lit _ => s.set d v
    | _ => (s.kl (viaSlot d) false).set d (Ev.kl (viaSlot d) false v)
  else s.set d v
def peek (s : St) (ps : Bool) (t : Nat) : AV :=
  match s.env t with
  | .sl .own es xs => if ps then .bor ⟨.slot t, []⟩ else .sl .ro es (roL xs)
  | v => roD v
def grab (s : St) (t : Nat) : Option (AV × St) :=
  match s.env t with
  | .bor r => takeR s r
  | .sl .own es xs => some (.sl .own es xs, s.set t (.sl .ro es (roL xs)))
  | .agg cs => some (.agg cs, s.set t (.agg (roL cs)))
  | .tup cs => some (.tup cs, s.set t (.tup (roL cs)))
  | v => some (v, s)
section
variable {fc : Fc} {s : St} {a : Act} {w : World} {g : Gh}
theorem SR.putLit (h : SR fc s a w g) {d : Nat} (hd : d < fc.n) {u : Value} (hl : s.env d = .lit u) {v : AV} {c : Value} {H : List Nat}
    (hv : Rel (cx fc s a w g) true v c H) (hH : Hand fc s g H) : SR fc (s.set d v) (a.put (some d) c) w { g with F := updP g.F (.slot d) H } := by
  have hda : d < a.tmps.size := by rw [h.size]; exact hd
  have hsc : scalar (tmOf a d) = true := by
    have := h.slots d; rw [hl] at this; rw [this.lit_inv.1]; exact this.lit_inv.2.1
  have hnw : ∀ p x, walk w (tmOf a d) p ≠ some x := by
    intro p x hx
    revert hsc hx
    generalize tmOf a d = v
    intro hsc hx
    cases v <;> first | (cases hsc; done) | skip
    all_goals (cases p with | nil => simp [walk] at hx | cons c p => simp [walk] at hx)
  have hres : ∀ r x, resOf fc.pers (tmOf a) g.ba w r = some x → resOf fc.pers (tmOf (a.put (some d) c)) g.ba w r = some x := by
    rintro ⟨root, path⟩ x hr
    cases root with
    | slot t =>
      simp only [resOf] at hr ⊢
      by_cases hp : fc.pers t = true
      · rw [if_pos hp] at hr ⊢
        by_cases ht : t = d
        · subst ht; exact absurd hr (hnw _ _)
        · rw [tmOf_put hda, if_neg ht]; exact hr
      · rw [if_neg hp] at hr; cases hr
    | box n k => cases path <;> exact hr
  have hk : (cx fc s a w g).KeepsK (cx fc (s.set d v) (a.put (some d) c) w { g with F := updP g.F (.slot d) H }) noRef false (fun _ => True) := by
    refine Cx.KeepsK.same (X := cx fc s a w g) (X' := cx fc (s.set d v) (a.put (some d) c) w { g with F := updP g.F (.slot d) H }) rfl rfl rfl rfl rfl _ _ _ (fun r x _ hx => hres r x hx) ?_
    rintro ⟨root, path⟩ u' _ hu _ hsl
    have key : ∀ r, (resOf fc.pers (tmOf a) g.ba w r).bind w.cell? = some u' → (resOf fc.pers (tmOf (a.put (some d) c)) g.ba w r).bind w.cell? = some u' := by
      intro r hr
      simp only [Option.bind_eq_some_iff] at hr ⊢
      obtain ⟨ad, h1, h2⟩ := hr
      exact ⟨ad, hres _ _ h1, h2⟩
    cases root with
    | slot t =>
      cases path with
      | nil =>
        simp only [cx, holdOf] at hu ⊢
        by_cases hp : fc.pers t = true
        · rw [if_pos hp] at hu ⊢
          by_cases ht : t = d
          · subst ht
            injection hu with hu
            obtain ⟨x, y, z, rfl⟩ := hsl
            rw [hu] at hsc; cases hsc
          · rw [tmOf_put hda, if_neg ht]; exact hu
        · rw [if_neg hp] at hu; cases hu
      | cons c p => exact key _ hu
    | box n k => exact key _ hu
  have hF : ∀ {q b}, b ∈ updP g.F (.slot d) H q → b ∈ H ∨ (q ≠ .slot d ∧ b ∈ g.F q) := by
    intro q b hb
    by_cases hq : q = .slot d
    · subst hq; rw [updP_same] at hb; exact .inl hb
    · rw [updP_other _ _ hq] at hb; exact .inr ⟨hq, hb⟩
  refine ⟨fun u => ?_, fun n cs hn => ?_, fun n hn => ?_, fun p q hpq b hb hb' => ?_, fun n cs ad hn ha p hb => ?_, h.apart, h.zfb, h.zfo, fun p b hb => ?_, h.touchB, h.keep, h.defers, ?_, h.nob, h.zfd, h.bdo, h.hbo⟩
  · rw [tmOf_put hda]
    by_cases hu : u = d
    · subst hu
      simp only [updP_same, if_true, St.set, upd_same]
      have := hv.kl hk (fun _ _ => trivial)
      rwa [kl_noRef] at this
    · have := (h.slots u).kl hk (fun _ _ => trivial)
      rw [kl_noRef] at this
      simp only [if_neg hu, St.set, upd_other _ _ hu]
      rw [updP_other _ _ (by intro hh; injection hh with hh; exact hu hh)]
      exact this
  · obtain ⟨ad, vs, h2, h3, h4⟩ := h.boxes n cs hn
    have := h4.kl hk (fun _ _ => trivial)
    rw [klL_noRef] at this
    exact ⟨ad, vs, h2, h3, by simp only; rw [updP_other _ _ (by intro hh; cases hh)]; exact this⟩
  · simp only; rw [updP_other _ _ (by intro hh; cases hh)]; exact h.nobox n hn
  · simp only at hb hb'
    by_cases h1 : p = .slot d
    · subst h1
      rw [updP_same] at hb
      rw [updP_other _ _ (Ne.symm hpq)] at hb'
      exact hH.disj q b hb hb'
    · rw [updP_other _ _ h1] at hb
      rcases hF hb' with h2 | ⟨_, h2⟩
      · exact hH.disj p b h2 hb
      · exact h.disj p q hpq b hb h2
  · rcases hF hb with h1 | ⟨_, h1⟩
    · exact hH.sep n cs ad hn ha h1
    · exact h.sep n cs ad hn ha p h1
  · rcases hF hb with h1 | ⟨_, h1⟩
    · exact hH.free b h1
    · exact h.touchF p b h1
  · simpa [Act.put] using h.size
theorem SR.put (h : SR fc s a w g) {pd : Bool} {d : Nat} (hd : d < fc.n) (hpd : pd = fc.pers d) {v : AV} {c : Value} {H : List Nat}
    (hv : Rel (cx fc s a w g) true v c H) (hH : Hand fc s g H) : ∃ g', SR fc (s.put pd d v) (a.put (some d) c) w g' := by
  unfold St.put
  cases pd with
  | false =>
    rw [if_neg (by decide)]
    exact ⟨_, h.putL hd hpd.symm hv (fun q _ => hH.disj q) hH.sep hH.free⟩
  | true =>
    rw [if_pos rfl]
    split
    · rename_i u hu; exact ⟨_, h.putLit hd hu hv hH⟩
    · exact ⟨_, h.putP hd hv (fun q _ => hH.disj q) hH.sep hH.free⟩
theorem peek_rel (h : SR fc s a w g) (t : Nat) {ps : Bool} (hps : ps = fc.pers t) : Rel (cx fc s a w g) true (peek s ps t) (tmOf a t) [] := by
  have hr := h.slots t
  have hro := hr.ro fun b hb i => h.noBox hb i
  unfold peek
  split
  · rename_i es xs hx
    rw [hx] at hr hro
    split
    · rename_i hp
      have hsl : ∃ a' n c, tmOf a t = .slice a' n c := by obtain ⟨a', c, e, _⟩ := hr.sl_inv; exact ⟨a', _, c, e⟩
      exact .bor _ _ (hold_slot h (by rw [← hps]; exact hp)) (by obtain ⟨_, _, _, e⟩ := hsl; rw [e]; rfl) hsl
    · simpa [roD] using hro
  · exact hro
theorem SR.grab' (h : SR fc s a w g) {t : Nat} {y : AV} {s' : St} (hg : Ev.grab s t = some (y, s')) :
    ∃ F H, SR fc s' a w { g with F := F } ∧ Rel (cx fc s' a w { g with F := F }) true y (tmOf a t) H ∧ Hand fc s' { g with F := F } H ∧ Sub g F H := by
  have hr := h.slots t
  have hstrip : ∀ y, s.env t = y → (∀ r, y ≠ .bor r) → ∃ F H, SR fc (s.set t (roD y)) a w { g with F := F } ∧ Rel (cx fc (s.set t (roD y)) a w { g with F := F }) true y (tmOf a t) H ∧ Hand fc (s.set t (roD y)) { g with F := F } H ∧ Sub g F H := by
    rintro y rfl _
    obtain ⟨h1, h2⟩ := h.strip t
    exact ⟨_, _, h1, hr, h2, sub_upd (fun b hb => (List.not_mem_nil hb).elim) (fun b hb => hb)⟩
  have hplain : ∀ y, s.env t = y → g.F (.slot t) = [] → ∃ F H, SR fc s a w { g with F := F } ∧ Rel (cx fc s a w { g with F := F }) true y (tmOf a t) H ∧ Hand fc s { g with F := F } H ∧ Sub g F H := by
    rintro y rfl hF
    exact ⟨g.F, [], h, by rw [hF] at hr; exact hr, .nil _ _ _, fun q b hb => hb, fun b hb => (List.not_mem_nil hb).elim⟩
  unfold Ev.grab at hg
  split at hg
  · rename_i r hx
    rw [hx] at hr
    exact h.take' hr.bor_inv.1 hg
  · rename_i es xs hx
    injection hg with hg; injection hg with h1 h2; subst h1; subst h2
    have := hstrip _ hx (by intro r hr; cases hr)
    simpa [roD] using this
  · rename_i cs hx
    injection hg with hg; injection hg with h1 h2; subst h1; subst h2
    have := hstrip _ hx (by intro r hr; cases hr)
    simpa [roD] using this
  · rename_i cs hx
    injection hg with hg; injection hg with h1 h2; subst h1; subst h2
    have := hstrip _ hx (by intro r hr; cases hr)
    simpa [roD] using this
  · rename_i hb ho ha ht
    injection hg with hg; injection hg with h1 h2; subst h1; subst h2
    refine hplain _ rfl ?_
    generalize hcv : tmOf a t = cv at hr
    generalize g.F (.slot t) = F at hr
    revert hb ho ha ht
    generalize s.env t = y at hr
    intro hb ho ha ht
    cases hr <;> first | rfl | (exact absurd rfl (ho _ _)) | (exact absurd rfl (ha _)) | (exact absurd rfl (ht _))
theorem SR.grab (h : SR fc s a w g) {t : Nat} {y : AV} {s' : St} (hg : Ev.grab s t = some (y, s')) :
    ∃ F H, SR fc s' a w { g with F := F } ∧ Rel (cx fc s' a w { g with F := F }) true y (tmOf a t) H ∧ Hand fc s' { g with F := F } H := by
  obtain ⟨F, H, h1, h2, h3, _⟩ := h.grab' hg
  exact ⟨F, H, h1, h2, h3⟩
theorem grab_bx {t : Nat} {y : AV} {s' : St} (hg : Ev.grab s t = some (y, s')) (ba : Nat → Option Addr) : bxcOf s'.bx ba = bxcOf s.bx ba ∧ ∀ n, (s'.bx n = none ↔ s.bx n = none) := by
  unfold Ev.grab at hg
  split at hg
  · exact takeR_bx hg ba
  all_goals (injection hg with hg; injection hg with h1 h2; subst h2; exact ⟨rfl, fun _ => Iff.rfl⟩)
theorem SR.stripP (h : SR fc s a w g) {n : Nat} {cs cs' : List AV} {F' H : List Nat} (hn : s.bx n = some cs) (hlen : cs'.length = cs.length)
    (hrel : ∀ ad vs, g.ba n = some ad → BoxAt w ad vs → RelL (cx fc s a w g) true cs vs (g.F (.box n)) → RelL (cx fc s a w g) true cs' vs F')
    (hF' : ∀ b, b ∈ F' → b ∈ g.F (.box n)) (hH : ∀ b, b ∈ H → b ∈ g.F (.box n)) (hHF : Disj H F') :
    SR fc { s with bx := upd s.bx n (some cs') } a w { g with F := updP g.F (.box n) F' } ∧ Hand fc { s with bx := upd s.bx n (some cs') } { g with F := updP g.F (.box n) F' } H ∧
      bxcOf (upd s.bx n (some cs')) g.ba = bxcOf s.bx g.ba := by
  have hbx := bxcOf_setB_len (ba := g.ba) hn hlen
  have hcx : cx fc { s with bx := upd s.bx n (some cs') } a w { g with F := updP g.F (.box n) F' } = cx fc s a w g := by simp only [cx, hbx]
  have hF : ∀ q b, b ∈ updP g.F (.box n) F' q → b ∈ g.F q := by
    intro q b hb
    by_cases hq : q = .box n
    · subst hq; rw [updP_same] at hb; exact hF' b hb
    · rw [updP_other _ _ hq] at hb; exact hb
  have hget : ∀ m c, upd s.bx n (some cs') m = some c → ∃ c', s.bx m = some c' ∧ c.length = c'.length ∧ (m = n → c = cs') ∧ (m ≠ n → c = c') := by
    intro m c hm
    by_cases e : m = n
    · subst e; rw [upd_same] at hm; injection hm with hm; subst hm; exact ⟨cs, hn, hlen, fun _ => rfl, fun h => absurd rfl h⟩
    · rw [upd_other _ _ e] at hm; exact ⟨c, hm, rfl, fun h => absurd h e, fun _ => rfl⟩
  refine ⟨⟨fun u => ?_, fun m c hm => ?_, fun m hm => ?_, fun p q hpq b hb hb' => ?_, fun m c ad hm ha p hb => ?_, fun m m' c c' ad ad' hmm hm hm' ha ha' => ?_, ?_, h.zfo, fun p b hb => ?_, ?_, h.keep, h.defers, h.size, fun m hm => ?_, h.zfd, h.bdo, fun m h1 h2 => h.hbo m h1 fun hn' => h2 (by
    have hd : m ≠ n := by rintro rfl; rw [hn] at hn'; cases hn'
    simp only; rw [upd_other _ _ hd]; exact hn')⟩, ⟨fun q b hb hb' => ?_, fun m c ad hm ha hb => ?_, fun b hb => ?_⟩, hbx⟩
  · rw [hcx]; simp only; rw [updP_other _ _ (by intro hh; cases hh)]; exact h.slots u
  · by_cases e : m = n
    · subst e
      obtain ⟨c', h1, h2, h3, h4⟩ := hget m c hm
      have := h3 rfl; subst this
      obtain ⟨ad, vs, q1, q2, q3⟩ := h.boxes m cs hn
      refine ⟨ad, vs, q1, q2, ?_⟩
      rw [hcx]; simp only; rw [updP_same]
      exact hrel ad vs q1 q2 q3
    · obtain ⟨c', h1, h2, h3, h4⟩ := hget m c hm
      have := h4 e; subst this
      obtain ⟨ad, vs, q1, q2, q3⟩ := h.boxes m c h1
      refine ⟨ad, vs, q1, q2, ?_⟩
      rw [hcx]; simp only; rw [updP_other _ _ (by intro hh; injection hh with hh; exact e hh)]; exact q3
  · have e : m ≠ n := by rintro rfl; simp only [upd_same] at hm; cases hm
    simp only at hm; rw [upd_other _ _ e] at hm
    simp only; rw [updP_other _ _ (by intro hh; injection hh with hh; exact e hh)]; exact h.nobox m hm
  · exact h.disj p q hpq b (hF p b hb) (hF q b hb')
  · obtain ⟨c', h1, _⟩ := hget m c hm
    exact h.sep m c' ad h1 ha p (hF p _ hb)
  · obtain ⟨c1, h1, h2, _⟩ := hget m c hm
    obtain ⟨c2, h1', h2', _⟩ := hget m' c' hm'
    have := h.apart m m' c1 c2 ad ad' hmm h1 h1' ha ha'
    omega
  · simp only; rw [hbx]; exact h.zfb
  · exact h.touchF p b (hF p b hb)
  · simp only; rw [hbx]; exact h.touchB
  · have e : m ≠ n := by rintro rfl; simp only [upd_same] at hm; cases hm
    simp only at hm; rw [upd_other _ _ e] at hm
    exact h.nob m hm
  · by_cases hq : q = .box n
    · subst hq; simp only [updP_same] at hb'; exact hHF b hb hb'
    · simp only at hb'; rw [updP_other _ _ hq] at hb'
      exact h.disj (.box n) q (Ne.symm hq) b (hH b hb) hb'
  · obtain ⟨c', h1, _⟩ := hget m c hm
    exact h.sep m c' ad h1 ha _ (hH _ hb)
  · exact h.touchF _ b (hH b hb)
theorem SR.stripB (h : SR fc s a w g) {n : Nat} {cs : List AV} (hn : s.bx n = some cs) :
    SR fc { s with bx := upd s.bx n (some (roL cs)) } a w { g with F := updP g.F (.box n) [] } ∧ Hand fc { s with bx := upd s.bx n (some (roL cs)) } { g with F := updP g.F (.box n) [] } (g.F (.box n)) ∧
      bxcOf (upd s.bx n (some (roL cs))) g.ba = bxcOf s.bx g.ba :=
  h.stripP hn (by rw [roL_eq, List.length_map]) (fun ad vs q1 q2 q3 => q3.ro fun b hb i => h.noBox hb i) (fun b hb => (List.not_mem_nil hb).elim) (fun b hb => hb) (fun b _ hb => (List.not_mem_nil hb).elim)
def mixR (k n : Nat) (cs : List AV) : List AV := cs.take k ++ (roL ((cs.drop k).take n) ++ cs.drop (k + n))
theorem RelL.mix {X : Cx} {t : Bool} {cs : List AV} : ∀ (k n : Nat) {vs : List Value} {F : List Nat}, (∀ b, b ∈ F → ∀ i, ¬ X.bxc b i) → RelL X t cs vs F →
    ∃ F' H, RelL X t (mixR k n cs) vs F' ∧ RelL X t ((cs.drop k).take n) ((vs.drop k).take n) H ∧ (∀ b, b ∈ F' → b ∈ F) ∧ (∀ b, b ∈ H → b ∈ F) ∧ Disj H F' := by
  induction cs with
  | nil =>
    intro k n vs F hb hr
    cases hr
    exact ⟨[], [], by simp only [mixR, List.take_nil, List.drop_nil, roL, List.append_nil]; exact .nil _, by simp only [List.take_nil, List.drop_nil]; exact .nil _, fun b hb => hb, fun b hb => hb, fun b hb => (List.not_mem_nil hb).elim⟩
  | cons x xs ih =>
    intro k n vs F hb hr
    cases hr with
    | cons _ _ v F _ vs G hv h hs hd =>
    cases k with
    | zero =>
      cases n with
      | zero => exact ⟨F ++ G, [], by simp only [mixR, List.take_zero, List.drop_zero, roL, List.nil_append, Nat.add_zero]; exact .cons t x v F xs vs G hv h hs hd, by simp only [List.take_zero]; exact .nil _, fun b hb => hb, fun b hb => (List.not_mem_nil hb).elim, fun b hb => (List.not_mem_nil hb).elim⟩
      | succ n =>
        obtain ⟨F', H, h1, h2, h3, h4, h5⟩ := ih 0 n (fun b h i => hb b (List.mem_append_right _ h) i) hs
        refine ⟨F', F ++ H, ?_, ?_, fun b h => List.mem_append_right _ (h3 b h), fun b h => ?_, fun b h h' => ?_⟩
        · have hr := h.ro fun b h i => hb b (List.mem_append_left _ h) i
          have := RelL.cons t (roD x) v [] _ vs F' hv hr h1 (fun b hb => (List.not_mem_nil hb).elim)
          simpa [mixR, roL] using this
        · have := RelL.cons t x v F _ _ H hv h h2 (fun b hb hb' => hd b hb (h4 b hb'))
          simpa using this
        · rcases List.mem_append.1 h with h | h
          · exact List.mem_append_left _ h
          · exact List.mem_append_right _ (h4 b h)
        · rcases List.mem_append.1 h with h | h
          · exact hd b h (h3 b h')
          · exact h5 b h h'
    | succ k =>
      obtain ⟨F', H, h1, h2, h3, h4, h5⟩ := ih k n (fun b h i => hb b (List.mem_append_right _ h) i) hs
      refine ⟨F ++ F', H, ?_, ?_, fun b h => ?_, fun b h => List.mem_append_right _ (h4 b h), fun b h h' => ?_⟩
      · have := RelL.cons t x v F _ vs F' hv h h1 (fun b hb hb' => hd b hb (h3 b hb'))
        have e : k + 1 + n = k + n + 1 := by omega
        simpa [mixR, e] using this
      · simpa using h2
      · rcases List.mem_append.1 h with h | h
        · exact List.mem_append_left _ h
        · exact List.mem_append_right _ (h3 b h)
      · rcases List.mem_append.1 h' with h' | h'
        · exact hd b h' (h4 b h)
        · exact h5 b h h'
def partB (tk : Bool) (r : Ref) : Option (Nat × Nat) := match tk, r with
  | true, ⟨.box d k, []⟩ => some (d, k)
  | _, _ => none
theorem partB_spec {tk : Bool} {r : Ref} {d k : Nat} (h : partB tk r = some (d, k)) : tk = true ∧ r = ⟨.box d k, []⟩ := by
  unfold partB at h
  split at h
  · cases h; exact ⟨rfl, rfl⟩
  · cases h
theorem partB_f (r : Ref) : partB false r = none := rfl
theorem partB_t (d k : Nat) : partB true ⟨.box d k, []⟩ = some (d, k) := rfl
theorem partB_p (rt : Root) (c : Comp) (p : List Comp) : partB true ⟨rt, c :: p⟩ = none := by cases rt <;> rfl
theorem partB_s (t : Nat) (p : List Comp) : partB true ⟨.slot t, p⟩ = none := rfl
def St.setP (s : St) (d k n : Nat) : St := match s.bx d with
  | some cs => s.setB d (mixR k n cs)
  | none => s
end
end Go.Ev
namespace Go.Ev
set_option linter.unusedVariables false
mutual
theorem kl_idem (p : Bool → Ref → Bool) : ∀ x : AV, kl p true (kl p true x) = kl p true x
  | .lit v => rfl
  | .sl fl es xs => by
    by_cases h : fl = .ro
    · simp [kl, h]
    · simp only [kl, if_true, if_neg h, klL_idem p xs]
  | .agg cs => by simp only [kl, klL_idem p cs]
  | .tup cs => by simp only [kl, klL_idem p cs]
  | .ptr r => by by_cases h : p false r = true <;> simp [kl, h]
  | .bor r => by by_cases h : p true r = true <;> simp [kl, h]
  | .cell fl cs o => by simp [kl]
  | .clo f caps => by simp only [kl, klL_idem p caps]
  | .junk => rfl
theorem klL_idem (p : Bool → Ref → Bool) : ∀ xs : List AV, klL p true (klL p true xs) = klL p true xs
  | [] => rfl
  | x :: xs => by simp only [klL, kl_idem p x, klL_idem p xs]
end
def Ref.addOff (r : Ref) (off : Nat) : Ref :=
  match r.path.getLast? with
  | some c => ⟨r.root, r.path.dropLast ++ [{ c with o := c.o + off }]⟩
  | none => match r.root with
    | .box n k => ⟨.box n (k + off), []⟩
    | .slot t => ⟨.slot t, []⟩
def Ref.idx (r : Ref) (i es : Nat) : Ref := ⟨r.root, r.path ++ [⟨i, 0, es⟩]⟩
theorem walk_app (w : World) : ∀ (p : List Comp) (v : Value) (c : Comp), p ≠ [] → walk w v (p ++ [c]) = ((walk w v p).bind w.cell?).bind fun u => walk w u [c]
  | [], _, _, h => absurd rfl h
  | [d], v, c, _ => by
    cases v with
    | slice ad n cp => cases ad <;> simp [walk]
    | _ => simp [walk]
  | d :: e :: p, v, c, _ => by
    cases v with
    | slice ad n cp =>
      cases ad with
      | none => simp [walk]
      | some ad =>
        simp only [List.cons_append, walk]
        cases w.cell? (ad.add (d.i * d.es + d.o)) with
        | none => rfl
        | some u =>
          have := walk_app w (e :: p) u c (by simp)
          simpa using this
    | _ => simp [walk]
theorem walk_last (w : World) (v : Value) (c : Comp) (off : Nat) {x : Addr} (h : walk w v [c] = some x) : walk w v [{ c with o := c.o + off }] = some (x.add off) := by
  cases v with
  | slice ad n cp =>
    cases ad with
    | none => simp [walk] at h
    | some ad =>
      simp only [walk, Option.some.injEq] at h ⊢
      rw [← h, Addr.add_add, Nat.add_assoc]
  | _ => simp [walk] at h
theorem walk_addOff (w : World) (v : Value) (p : List Comp) (c : Comp) (off : Nat) {x : Addr} (h : walk w v (p ++ [c]) = some x) : walk w v (p ++ [{ c with o := c.o + off }]) = some (x.add off) := by
  by_cases hp : p = []
  · subst hp; exact walk_last w v c off h
  · rw [walk_app w p v _ hp] at h ⊢
    simp only [Option.bind_eq_some_iff] at h ⊢
    obtain ⟨u, h1, h2⟩ := h
    exact ⟨u, h1, walk_last w u c off h2⟩
section
variable {fc : Fc} {s : St} {a : Act} {w : World} {g : Gh}
theorem res_addOff {r : Ref} {x : Addr} (off : Nat) (h : (cx fc s a w g).res r = some x) : (cx fc s a w g).res (r.addOff off) = some (x.add off) := by
  obtain ⟨root, path⟩ := r
  simp only [cx] at h ⊢
  have hsplit : ∀ p : List Comp, p ≠ [] → ∃ q c, p = q ++ [c] := fun p hp => ⟨p.dropLast, p.getLast hp, (List.dropLast_concat_getLast hp).symm⟩
  cases root with
  | slot t =>
    simp only [resOf] at h
    by_cases hp : fc.pers t = true
    · rw [if_pos hp] at h
      have hne : path ≠ [] := by rintro rfl; cases hv : tmOf a t <;> simp [hv, walk] at h
      obtain ⟨q, c, rfl⟩ := hsplit path hne
      simp only [Ref.addOff, List.getLast?_concat, List.dropLast_concat, resOf]
      rw [if_pos hp]
      exact walk_addOff w _ q c off h
    · rw [if_neg hp] at h; cases h
  | box n k =>
    cases path with
    | nil =>
      simp only [resOf, Option.map_eq_some_iff, Ref.addOff, List.getLast?_nil] at h ⊢
      obtain ⟨ad, h1, rfl⟩ := h
      exact ⟨ad, h1, (Addr.add_add ..).symm⟩
    | cons d p =>
      obtain ⟨q, c, hq⟩ := hsplit (d :: p) (by simp)
      rw [hq] at h
      have hd : Ref.addOff ⟨.box n k, d :: p⟩ off = ⟨.box n k, q ++ [{ c with o := c.o + off }]⟩ := by
        rw [hq]
        simp only [Ref.addOff, List.getLast?_concat, List.dropLast_concat]
      rw [hd]
      have hgen : ∀ l : List Comp, l ≠ [] → resOf fc.pers (tmOf a) g.ba w ⟨.box n k, l⟩ = (g.ba n).bind fun ad => (w.cell? (ad.add k)).bind fun v => walk w v l := by
        intro l hl; cases l with | nil => exact absurd rfl hl | cons => rfl
      rw [hgen _ (by simp)] at h ⊢
      simp only [Option.bind_eq_some_iff] at h ⊢
      obtain ⟨ad, h1, u, h2, h3⟩ := h
      exact ⟨ad, h1, u, h2, walk_addOff w u q c off h3⟩
theorem res_idx {r : Ref} {ad : Addr} {n cp : Nat} (i es : Nat) (h : (cx fc s a w g).hold r = some (.slice (some ad) n cp)) : (cx fc s a w g).res (r.idx i es) = some (ad.add (i * es)) := by
  obtain ⟨root, path⟩ := r
  simp only [cx] at h ⊢
  have hw1 : ∀ u, u = Value.slice (some ad) n cp → walk w u [⟨i, 0, es⟩] = some (ad.add (i * es)) := by rintro u rfl; simp [walk]
  cases root with
  | slot t =>
    simp only [Ref.idx, resOf]
    cases path with
    | nil =>
      simp only [holdOf] at h
      by_cases hp : fc.pers t = true
      · rw [if_pos hp] at h ⊢; injection h with h; exact hw1 _ h
      · rw [if_neg hp] at h; cases h
    | cons c p =>
      simp only [holdOf, resOf] at h
      by_cases hp : fc.pers t = true
      · rw [if_pos hp] at h ⊢
        rw [walk_app w _ _ _ (by simp), h]
        exact hw1 _ rfl
      · rw [if_neg hp] at h; cases h
  | box m k =>
    cases path with
    | nil =>
      simp only [holdOf, resOf, Option.bind_eq_some_iff, Option.map_eq_some_iff] at h
      obtain ⟨_, ⟨ad', h1, rfl⟩, h2⟩ := h
      simp only [Ref.idx, List.nil_append, resOf, h1, Option.bind_some, h2]
      exact hw1 _ rfl
    | cons c p =>
      simp only [holdOf, resOf, Option.bind_eq_some_iff] at h
      obtain ⟨x, ⟨ad', h1, u, h2, h3⟩, h4⟩ := h
      simp only [Ref.idx, List.cons_append, resOf, h1, Option.bind_some, h2]
      rw [← List.cons_append, walk_app w _ _ _ (by simp), h3]
      simp only [Option.bind_some, h4]
      exact hw1 _ rfl
theorem ptr_inv {X : Cx} {t : Bool} {r : Ref} {v : Value} {F : List Nat} (h : Rel X t (.ptr r) v F) : ∃ ad, v = .pointer (some ad) ∧ X.res r = some ad ∧ F = [] := by
  cases h with | ptr _ ad h => exact ⟨ad, rfl, h, rfl⟩
theorem root_of_res {r : Ref} {x : Addr} (h : (cx fc s a w g).res r = some x) : ∀ t, r.root = .slot t → fc.pers t = true := by
  intro t ht
  obtain ⟨root, path⟩ := r
  simp only at ht; subst ht
  simp only [cx, resOf] at h
  by_cases hp : fc.pers t = true
  · exact hp
  · rw [if_neg hp] at h; cases h
theorem readR_rel (h : SR fc s a w g) {r : Ref} {ad : Addr} (hr : (cx fc s a w g).res r = some ad) {cs : List AV} (hg : getR s r = some cs) (hne : cs ≠ []) :
    ∃ q, CellsAt (cx fc s a w g) (g.F q) ad cs := by
  obtain ⟨ad', q, h1, h2⟩ := getR_rel h (root_of_res hr) hg hne
  rw [hr] at h1; injection h1 with h1; subst h1
  exact ⟨q, h2⟩
theorem CellsAt.ro {ad : Addr} {cs : List AV} {q : Pos} (hs : SR fc s a w g) (h : CellsAt (cx fc s a w g) (g.F q) ad cs) : ∀ (n : Nat), n ≤ cs.length →
    ∃ us, RelL (cx fc s a w g) true ((cs.take n).map roD) us [] ∧ ∀ k u, us[k]? = some u → w.cell? (ad.add k) = some u := by
  intro n
  induction n with
  | zero => exact fun _ => ⟨[], by simp; exact .nil _, fun k u hk => by simp at hk⟩
  | succ n ih =>
    intro hn
    obtain ⟨us, h1, h2⟩ := ih (by omega)
    obtain ⟨t, u, G, h4, h5, h6, h7⟩ := h n cs[n] (List.getElem?_eq_getElem (by omega))
    have hl := h1.length
    simp only [List.length_map, List.length_take] at hl
    refine ⟨us ++ [u], ?_, fun k v hk => ?_⟩
    · rw [List.take_succ_eq_append_getElem (by omega), List.map_append]
      have := h1.append (RelL.cons true (roD cs[n]) u [] [] [] [] h6 (h5.ro fun b hb i => hs.noBox (h7 b hb) i).top (.nil _) (fun b hb => (List.not_mem_nil hb).elim)) (fun b hb => (List.not_mem_nil hb).elim)
      simpa using this
    · by_cases hkn : k < us.length
      · rw [List.getElem?_append_left hkn] at hk; exact h2 k v hk
      · rw [List.getElem?_append_right (by omega)] at hk
        have : k - us.length = 0 := by
          have := (List.getElem?_eq_some_iff.1 hk).1; simp at this; omega
        rw [this] at hk; simp at hk; subst hk
        rw [show k = n by omega]; exact h4
end
end Go.Ev
namespace Go.Ev
set_option linter.unusedVariables false
theorem Rel.block {X : Cx} {tb tof : Nat} {ys : List AV} {p : Bool → Ref → Bool} {ro : Bool} : ∀ (path : List Comp) {t : Bool} {x : AV} {v : Value} {F : List Nat} {x' : AV}, Rel X t x v F → setW (Ev.kin p ro x) path ys = some x' →
    walk X.w v path = some ⟨tb, tof, none⟩ → ∃ arr e fr, X.w.heap[tb]? = some (.cells arr e fr) ∧ (∀ i, i < arr.size → (fr.1 ≤ i && i < fr.2) = false) ∧ tof + ys.length ≤ arr.size := by
  intro path
  induction path with
  | nil =>
    intro t x v F x' h hs
    exfalso
    obtain ⟨es, xs, hx⟩ := setW_own hs
    rw [hx] at hs; simp [setW] at hs
  | cons c rest ih =>
    intro t x v F x' h hs hwalk
    obtain ⟨es, zs, hz⟩ := setW_own hs
    have hxs : ∃ xs, x = .sl .own es xs := by
      cases ro
      · rw [kin_false] at hz; exact ⟨zs, hz⟩
      · rw [kin_true] at hz; exact own_of_kl hz
    obtain ⟨xs, rfl⟩ := hxs
    rw [kin_own] at hs
    cases h with
    | nil => simp [setW] at hs
    | imm _ _ _ _ _ _ _ hfl => exact absurd rfl hfl
    | own _ _ b o cap _ arr e fr vs F hh hfr hs0 hn hu hr hc hb hbd0 hzf0 =>
      simp only [setW, List.getElem?_map] at hs
      cases hx : xs[c.i]? with
      | none => simp [hx] at hs
      | some x =>
        simp only [hx, Option.map_some] at hs
        rw [cellsOf_kin] at hs
        by_cases he : es = c.es
        · rw [if_pos he] at hs
          cases rest with
          | nil =>
            simp only at hs
            by_cases hfit : c.o + ys.length ≤ c.es
            · simp only [walk, Option.some.injEq] at hwalk
              rw [Addr.add_spot rfl] at hwalk
              injection hwalk with h1 h2
              simp only at h1 h2
              subst h1
              refine ⟨arr, e, fr, hh, hfr, ?_⟩
              have hi : c.i < xs.length := (List.getElem?_eq_some_iff.1 hx).1
              have : (c.i + 1) * es ≤ cap * es := Nat.mul_le_mul_right _ (by omega)
              rw [Nat.add_mul] at this
              rw [← he] at h2 hfit
              omega
            · rw [if_neg hfit] at hs; cases hs
          | cons d rest =>
            simp only at hs
            rw [List.getElem?_map] at hs
            cases hy0 : (cellsOf x)[c.o]? with
            | none => simp [hy0] at hs
            | some y =>
              simp only [hy0, Option.map_some] at hs
              cases hsw : setW (Ev.kin p ro y) (d :: rest) ys with
              | none => simp [hsw] at hs
              | some y' =>
                obtain ⟨u, G, h1, h2, h3, h4⟩ := hc.get (flat_get hu hx hy0)
                have hcell : X.w.cell? ((⟨b, o, none⟩ : Addr).add (c.i * c.es + c.o)) = some u := by
                  rw [Addr.add_spot rfl]
                  simp only [World.cell?, hh]
                  have := hr _ _ h1
                  rw [← he]; simpa using this
                simp only [walk, hcell, Option.bind_some] at hwalk
                exact ih h2 hsw hwalk
        · rw [if_neg he] at hs; cases hs
def plainC : AV → Bool
  | .lit _ | .sl _ _ _ | .junk => true
  | _ => false
def isLit : AV → Bool
  | .lit _ => true
  | _ => false
def viaBoxes (isBor : Bool) (r : Ref) : Bool :=
  decide (2 ≤ r.path.length) || (match r.root with | .box _ _ => isBor || decide (1 ≤ r.path.length) | .slot _ => isBor && decide (1 ≤ r.path.length))
def staleOf (olds : List AV) : Bool → Ref → Bool := if olds.all isLit then noRef else viaDeep
def writeR (s : St) (r : Ref) (ys : List AV) : Option St :=
  match r with
  | ⟨.box n k, []⟩ =>
    match s.bx n with
    | none => none
    | some cs =>
      if k + ys.length ≤ cs.length then
        if ((cs.drop k).take ys.length).all isLit then some (s.setB n (cs.take k ++ ys ++ cs.drop (k + ys.length)))
        else some ((s.kl viaBoxes false).setB n (klL viaBoxes false (cs.take k) ++ klL viaBoxes false ys ++ klL viaBoxes false (cs.drop (k + ys.length))))
      else none
  | ⟨.box n k, p⟩ =>
    match s.bx n with
    | none => none
    | some cs =>
      match cs[k]? with
      | none => none
      | some x =>
        match getW x p with
        | none => none
        | some olds =>
          if ys.all plainC = true ∧ ys.length ≤ olds.length then
            match setW (kl (staleOf (olds.take ys.length)) true x) p (klL (staleOf (olds.take ys.length)) true ys) with
            | none => none
            | some x' => some ((s.kl (staleOf (olds.take ys.length)) true).setB n (klL (staleOf (olds.take ys.length)) true (cs.take k) ++ x' :: klL (staleOf (olds.take ys.length)) true (cs.drop (k + 1))))
          else none
  | ⟨.slot t, p⟩ =>
    match getW (s.env t) p with
    | none => none
    | some olds =>
      if ys.all plainC = true ∧ ys.length ≤ olds.length then
        match setW (kl (staleOf (olds.take ys.length)) true (s.env t)) p (klL (staleOf (olds.take ys.length)) true ys) with
        | none => none
        | some x' => some ((s.kl (staleOf (olds.take ys.length)) true).set t x')
      else none
theorem slKept_of {w w' : World} {b o : Nat} {us : List Value} (hw : Wrote w w' b o us) (hold : ∀ j, j < us.length → ∃ u, w.cell? ⟨b, o + j, none⟩ = some u ∧ scalar u = true) : SlKept w w' := by
  intro a ad n c hc
  have hsp := Addr.spot_of_cell hc
  rw [Addr.eta hsp] at hc ⊢
  rw [← hc]
  apply hw.cell
  by_cases hb : a.block = b
  · right
    by_cases h1 : a.off < o
    · exact .inl h1
    · by_cases h2 : o + us.length ≤ a.off
      · exact .inr h2
      · exfalso
        obtain ⟨u, h3, h4⟩ := hold (a.off - o) (by omega)
        rw [show o + (a.off - o) = a.off by omega, ← hb, hc] at h3
        injection h3 with h3; subst h3; cases h4
  · exact .inl hb
section
variable {fc : Fc} {s : St} {a : Act} {w : World} {g : Gh}
theorem RelL.selfKl {X : Cx} (p : Bool → Ref → Bool) (ro : Bool) {t : Bool} {x : List AV} {v : List Value} {F : List Nat} (h : RelL X t x v F) : RelL X t (klL p ro x) v F :=
  h.kl (X' := X) (P := fun _ => True) (Cx.KeepsK.same rfl rfl rfl rfl rfl p ro _ (fun _ _ _ h => h) (fun _ _ _ h _ _ => h)) (fun _ _ => trivial)
theorem RelL.plain {X : Cx} {t : Bool} : ∀ {x : List AV} {v : List Value} {F : List Nat}, RelL X t x v F → x.all plainC = true → RelL X false x v F := by
  intro x
  induction x with
  | nil => intro v F h _; cases h; exact .nil _
  | cons y x ih =>
    intro v F h hp
    simp only [List.all_cons, Bool.and_eq_true] at hp
    cases h with
    | cons _ _ c F₁ _ vs F₂ hv h hs hd =>
      refine .cons _ y c F₁ x vs F₂ hv ?_ (ih hs hp.2) hd
      cases y with
      | lit u => obtain ⟨rfl, h1, rfl⟩ := h.lit_inv; exact .lit _ _ h1
      | sl fl es xs => exact h.slAny
      | junk => cases h; exact .junk _ _
      | _ => simp [plainC] at hp
theorem plainC_kl (p : Bool → Ref → Bool) (x : AV) (h : plainC x = true) : plainC (kl p true x) = true := by
  cases x with
  | sl fl es xs => by_cases hf : fl = .ro <;> simp [kl, hf, plainC]
  | lit v => rfl
  | junk => rfl
  | _ => simp [plainC] at h
theorem plainC_klL (p : Bool → Ref → Bool) (xs : List AV) (h : xs.all plainC = true) : (klL p true xs).all plainC = true := by
  rw [klL_eq]
  simp only [List.all_eq_true, List.mem_map] at h ⊢
  rintro y ⟨x, hx, rfl⟩
  exact plainC_kl p x (h x hx)
theorem res_deep {w' : World} {tb tof : Nat} {us : List Value} (hw : Wrote w w' tb tof us) (hbx : ∀ n ad, g.ba n = some ad → ad.block ≠ tb) :
    (∀ r x, viaDeep false r = false → resOf fc.pers (tmOf a) g.ba w r = some x → resOf fc.pers (tmOf a) g.ba w' r = some x) ∧
    (∀ r v, viaDeep true r = false → holdOf fc.pers (tmOf a) g.ba w r = some v → holdOf fc.pers (tmOf a) g.ba w' r = some v) := by
  constructor
  · rintro ⟨root, path⟩ x hv hr
    have hl : path.length ≤ 1 := by simp [viaDeep] at hv; omega
    match path, hl with
    | [], _ =>
      cases root with
      | slot t => simp only [resOf] at hr; split at hr; cases hv' : tmOf a t <;> simp [hv', walk] at hr; cases hr
      | box n k => exact hr
    | [c], _ =>
      cases root with
      | slot t =>
        simp only [resOf] at hr ⊢
        by_cases hp : fc.pers t = true
        · rw [if_pos hp] at hr ⊢
          cases hv' : tmOf a t with
          | slice ad n cp => rw [hv'] at hr; cases ad <;> exact hr
          | _ => rw [hv'] at hr; simp [walk] at hr
        · rw [if_neg hp] at hr; cases hr
      | box n k =>
        simp only [resOf, Option.bind_eq_some_iff] at hr ⊢
        obtain ⟨ad, h1, u, h2, h3⟩ := hr
        refine ⟨ad, h1, u, ?_, ?_⟩
        · rw [hw.cell (.inl (by rw [Addr.add_block]; exact hbx n ad h1))]; exact h2
        · cases u with
          | slice ad' n' cp => cases ad' <;> exact h3
          | _ => simp [walk] at h3
  · rintro ⟨root, path⟩ v hv hr
    have hl : path = [] := by simpa [viaDeep] using hv
    subst hl
    · skip
      cases root with
      | slot t => exact hr
      | box n k =>
        simp only [holdOf, resOf, Option.bind_eq_some_iff, Option.map_eq_some_iff] at hr ⊢
        obtain ⟨x, ⟨ad, h1, rfl⟩, h2⟩ := hr
        exact ⟨_, ⟨ad, h1, rfl⟩, by rw [hw.cell (.inl (by rw [Addr.add_block]; exact hbx n ad h1))]; exact h2⟩
theorem res_boxes {w' : World} {tb tof : Nat} {us : List Value} (hw : Wrote w w' tb tof us) :
    (∀ r x, viaBoxes false r = false → resOf fc.pers (tmOf a) g.ba w r = some x → resOf fc.pers (tmOf a) g.ba w' r = some x) ∧
    (∀ r v, viaBoxes true r = false → holdOf fc.pers (tmOf a) g.ba w r = some v → holdOf fc.pers (tmOf a) g.ba w' r = some v) := by
  constructor
  · rintro ⟨root, path⟩ x hv hr
    cases root with
    | slot t =>
      have hl : path.length ≤ 1 := by simp [viaBoxes] at hv; omega
      match path, hl with
      | [], _ => simp only [resOf] at hr; split at hr; cases hv' : tmOf a t <;> simp [hv', walk] at hr; cases hr
      | [c], _ =>
        simp only [resOf] at hr ⊢
        by_cases hp : fc.pers t = true
        · rw [if_pos hp] at hr ⊢
          cases hv' : tmOf a t with
          | slice ad n cp => rw [hv'] at hr; cases ad <;> exact hr
          | _ => rw [hv'] at hr; simp [walk] at hr
        · rw [if_neg hp] at hr; cases hr
    | box n k =>
      have hl : path = [] := by
        cases path with
        | nil => rfl
        | cons c p => simp [viaBoxes] at hv
      subst hl
      exact hr
  · rintro ⟨root, path⟩ v hv hr
    cases root with
    | slot t =>
      have hl : path = [] := by
        cases path with
        | nil => rfl
        | cons c p => simp [viaBoxes] at hv
      subst hl
      exact hr
    | box n k => simp [viaBoxes] at hv
theorem SR.write (h : SR fc s a w g) {r : Ref} {ad : Addr} {ys : List AV} {us : List Value} {H : List Nat} {s' : St} (P : Program) (hr : (cx fc s a w g).res r = some ad) (hne : ys ≠ [])
    (hy : RelL (cx fc s a w g) true ys us H) (hH : Hand fc s g H) (hs : writeR s r ys = some s') :
    ∃ w' g', SR fc s' a w' g' ∧ (storeCells ad us).run P w = .ok () w' := by
  have hbxne : ∀ {tb : Nat} {q : Pos}, tb ∈ g.F q → ∀ n ad, g.ba n = some ad → ad.block ≠ tb := by
    intro tb q htb n ad' ha hh
    cases hn : s.bx n with
    | none => rw [h.nob n hn] at ha; cases ha
    | some cs => exact h.sep n cs ad' hn ha q (hh ▸ htb)
  have hcells := hy.cells
  have hlen := hy.length
  have hul : 0 < us.length := by rw [hlen]; exact List.length_pos_iff.2 hne
  obtain ⟨root, path⟩ := r
  -- a write into a slice's content
  have content : ∀ {p : List Comp} {x : AV} {v : Value} {F : List Nat} {t : Bool} {olds : List AV} {x' : AV} {q : Pos}, Rel (cx fc s a w g) t x v F → (∀ b, b ∈ F → b ∈ g.F q) → getW x p = some olds → ys.length ≤ olds.length → walk w v p = some ad →
      setW (kl (staleOf (olds.take ys.length)) true x) p (klL (staleOf (olds.take ys.length)) true ys) = some x' →
      ∃ w', (storeCells ad us).run P w = .ok () w' ∧ ad = ⟨ad.block, ad.off, none⟩ ∧ Wrote w w' ad.block ad.off us ∧
        (∀ r x, staleOf (olds.take ys.length) false r = false → resOf fc.pers (tmOf a) g.ba w r = some x → resOf fc.pers (tmOf a) g.ba w' r = some x) ∧
        (∀ r v, staleOf (olds.take ys.length) true r = false → holdOf fc.pers (tmOf a) g.ba w r = some v → (∃ a n c, v = .slice a n c) → holdOf fc.pers (tmOf a) g.ba w' r = some v) := by
    intro p x v F t olds x' q hrel hFq hgw hol hwk hset
    have hset' := setW_kin hset
    have hne' : olds ≠ [] := by
      rintro rfl
      exact absurd (show ys.length ≤ 0 from hol) (by omega)
    obtain ⟨ad', h1, h2⟩ := getW_rel p hrel hgw hne'
    have : ad' = ad := by
      have h1' : walk w v p = some ad' := h1
      rw [hwk] at h1'; injection h1' with h1'; exact h1'.symm
    subst this
    have hop : 0 < olds.length := List.length_pos_iff.2 hne'
    obtain ⟨t0, u0, G0, h3, _⟩ := h2 0 olds[0] (List.getElem?_eq_getElem hop)
    have hsp := Addr.spot_of_cell h3
    rw [Addr.add_spot (by simpa [Addr.add] using hsp)] at h3
    have hz : ad' = ⟨ad'.block, ad'.off, none⟩ := Addr.eta (by simpa [Addr.add] using hsp)
    rw [hz] at hwk
    obtain ⟨arr, e, fr, hh, hfr, hfit⟩ := hrel.block p hset' hwk
    rw [klL_eq, List.length_map, ← hlen] at hfit
    obtain ⟨w', hrun, hw⟩ := run_store (P := P) hh hfr hfit hcells
    have htb := hFq _ (hrel.target p hset' hwk)
    refine ⟨w', by rw [hz]; exact hrun, hz, hw, ?_⟩
    unfold staleOf
    by_cases hl : (olds.take ys.length).all isLit = true
    · rw [if_pos hl]
      have hkept : SlKept w w' := by
        refine slKept_of hw fun j hj => ?_
        have hj' : j < olds.length := by omega
        obtain ⟨t1, u1, G1, h4, h5, _⟩ := h2 j olds[j] (List.getElem?_eq_getElem hj')
        have hlit : isLit olds[j] = true := by
          rw [List.all_eq_true] at hl
          exact hl _ (List.mem_iff_getElem?.2 ⟨j, by rw [List.getElem?_take, if_pos (by omega), List.getElem?_eq_getElem hj']⟩)
        rw [hz, Addr.add_spot rfl] at h4
        refine ⟨u1, h4, ?_⟩
        cases ho : olds[j] with
        | lit z => rw [ho] at h5; obtain ⟨rfl, h6, _⟩ := h5.lit_inv; exact h6
        | _ => rw [ho] at hlit; simp [isLit] at hlit
      exact ⟨fun r x _ hx => resOf_kept hkept (fun _ _ => rfl) (fun _ _ h => h) r x hx, fun r v _ hv hsl => holdOf_kept hkept (fun _ _ => rfl) (fun _ _ h => h) r v hv hsl⟩
    · rw [if_neg hl]
      obtain ⟨q1, q2⟩ := res_deep (fc := fc) (a := a) (g := g) hw (hbxne htb)
      exact ⟨q1, fun r v hv hr _ => q2 r v hv hr⟩
  have hyk : ∀ q : Bool → Ref → Bool, ys.all plainC = true → RelL (cx fc s a w g) false (klL q true ys) us H ∧ klL q true ys = (klL q true ys).map (Ev.kin q true) := by
    intro q hp
    refine ⟨(hy.selfKl q true).plain (plainC_klL q ys hp), ?_⟩
    rw [kin_true, ← klL_eq, klL_idem]
  have hylen : ∀ q : Bool → Ref → Bool, (klL q true ys).length = ys.length := fun q => by rw [klL_eq, List.length_map]
  cases root with
  | slot t =>
    simp only [writeR] at hs
    cases hg : getW (s.env t) path with
    | none => simp [hg] at hs
    | some olds =>
      simp only [hg] at hs
      by_cases hp : ys.all plainC = true ∧ ys.length ≤ olds.length
      · rw [if_pos hp] at hs
        generalize hq : staleOf (olds.take ys.length) = q at hs
        cases hset : setW (kl q true (s.env t)) path (klL q true ys) with
        | none => simp [hset] at hs
        | some x' =>
          simp only [hset, Option.some.injEq] at hs
          subst hs
          have hwk : walk w (tmOf a t) path = some ad := by
            simp only [cx, resOf] at hr
            by_cases hp : fc.pers t = true
            · rwa [if_pos hp] at hr
            · rw [if_neg hp] at hr; cases hr
          obtain ⟨w', hrun, hz, hw, hres, hhold⟩ := content (q := .slot t) (h.slots t) (fun b hb => hb) hg hp.2 hwk (by rw [hq]; exact hset)
          rw [hq] at hres hhold
          obtain ⟨hy1, hy2⟩ := hyk q hp.1
          obtain ⟨F', Fo, olds', uold, h1, _⟩ := h.editSlot (p := q) (ro := true) hset (by rw [← hz]; exact hwk) hw hy1 hy2 hH.disj hH.sep hH.free (fun hh => by cases hh) hres hhold
          exact ⟨w', _, h1, hrun⟩
      · rw [if_neg hp] at hs; cases hs
  | box n k =>
    cases path with
    | nil =>
      simp only [writeR] at hs
      cases hn : s.bx n with
      | none => simp [hn] at hs
      | some cs =>
        simp only [hn] at hs
        by_cases hfit : k + ys.length ≤ cs.length
        · rw [if_pos hfit] at hs
          obtain ⟨adb, vs, ha, hba, hrel⟩ := h.boxes n cs hn
          have hcs : cs = cs.take k ++ ((cs.drop k).take ys.length ++ cs.drop (k + ys.length)) := by
            rw [← List.drop_drop, List.take_append_drop, List.take_append_drop]
          rw [hcs] at hrel
          obtain ⟨u1, u', F1, F', rfl, hFb, r1, r', d1⟩ := hrel.split
          obtain ⟨u2, u3, F2, F3, rfl, rfl, r2, r3, d2⟩ := r'.split
          have l1 := r1.length; have l2 := r2.length; have l3 := r3.length
          simp only [List.length_take, List.length_drop] at l1 l2 l3
          have had : ad = adb.add k := by
            simp only [cx, resOf, ha, Option.map_some, Option.some.injEq] at hr; exact hr.symm
          have hsp := hba.spot
          have had' : ad = ⟨adb.block, adb.off + k, none⟩ := by rw [had, Addr.add_spot hsp]
          obtain ⟨_, arr, e, fr, hh, hfr, hrd⟩ := hba
          have hfit' : adb.off + k + us.length ≤ arr.size := by
            have hlast : (u1 ++ (u2 ++ u3))[k + us.length - 1]? = some ((u1 ++ (u2 ++ u3))[k + us.length - 1]'(by simp only [List.length_append]; omega)) := List.getElem?_eq_getElem _
            have := (Array.getElem?_eq_some_iff.1 (hrd _ _ hlast)).1
            omega
          obtain ⟨w', hrun, hw⟩ := run_store (P := P) (o := adb.off + k) hh hfr hfit' hcells
          have hd13 : Disj F1 F3 := fun b hb hb' => d1 b hb (by simp [hb'])
          have hHb : ∀ b, b ∈ H → b ∉ F1 ++ (F2 ++ F3) := fun b hb hb' => hH.disj (.box n) b hb (by rw [hFb]; exact hb')
          have key := fun p hres hhold => h.writeBox (n := n) (k := k) (c1 := cs.take k) (c2 := (cs.drop k).take ys.length) (c3 := cs.drop (k + ys.length)) (ys := ys) (ad := adb) (u1 := u1) (u2 := u2) (u3 := u3) (us := us) (F1 := F1) (F2 := F2) (F3 := F3) (H := H) (w' := w')
            (by rw [hn, List.append_assoc, ← hcs]) (by rw [List.length_take]; omega) (by simp only [List.length_take, List.length_drop]; omega) ha (by rw [List.append_assoc]; exact ⟨hsp, arr, e, fr, hh, hfr, hrd⟩) r1 r2 r3 (by rw [hFb, List.append_assoc]) hd13 hy
            (fun b hb hb' => hHb b hb' (by simp [hb])) (fun b hb hb' => hHb b hb (by simp [hb'])) (fun q _ => hH.disj q) hH.sep hH.free hw p hres hhold
          by_cases hl : ((cs.drop k).take ys.length).all isLit = true
          · rw [if_pos hl] at hs
            injection hs with hs; subst hs
            have hkept : SlKept w w' := by
              refine slKept_of hw fun j hj => ?_
              have hj2 : j < ((cs.drop k).take ys.length).length := by simp only [List.length_take, List.length_drop]; omega
              obtain ⟨u, G, h4, h5, _⟩ := r2.get (List.getElem?_eq_getElem hj2)
              have hlit : isLit (((cs.drop k).take ys.length)[j]) = true := by
                rw [List.all_eq_true] at hl
                exact hl _ (List.getElem_mem hj2)
              refine ⟨u, ?_, ?_⟩
              · have := hrd (k + j) u (by rw [List.getElem?_append_right (by omega), List.getElem?_append_left (by have := (List.getElem?_eq_some_iff.1 h4).1; omega), ← h4]; congr 1; omega)
                simp only [World.cell?, hh]
                rw [show adb.off + k + j = adb.off + (k + j) by omega]; simpa using this
              · cases ho : ((cs.drop k).take ys.length)[j] with
                | lit z => rw [ho] at h5; obtain ⟨rfl, h6, _⟩ := h5.lit_inv; exact h6
                | _ => rw [ho] at hlit; simp [isLit] at hlit
            have h1 := key noRef (fun r x _ hx => resOf_kept hkept (fun _ _ => rfl) (fun _ _ h => h) r x hx) (fun r v _ hv hsl => holdOf_kept hkept (fun _ _ => rfl) (fun _ _ h => h) r v hv hsl)
            rw [St.kl_noRef] at h1
            simp only [klL_noRef] at h1
            exact ⟨w', _, h1, by rw [had']; exact hrun⟩
          · rw [if_neg hl] at hs
            injection hs with hs; subst hs
            obtain ⟨q1, q2⟩ := res_boxes (fc := fc) (a := a) (g := g) hw
            have h1 := key viaBoxes q1 (fun r v hv hr _ => q2 r v hv hr)
            exact ⟨w', _, h1, by rw [had']; exact hrun⟩
        · rw [if_neg hfit] at hs; cases hs
    | cons c p =>
      simp only [writeR] at hs
      cases hn : s.bx n with
      | none => simp [hn] at hs
      | some cs =>
        simp only [hn] at hs
        cases hck : cs[k]? with
        | none => simp [hck] at hs
        | some x =>
          simp only [hck] at hs
          cases hg : getW x (c :: p) with
          | none => simp [hg] at hs
          | some olds =>
            simp only [hg] at hs
            by_cases hp : ys.all plainC = true ∧ ys.length ≤ olds.length
            · rw [if_pos hp] at hs
              generalize hq : staleOf (olds.take ys.length) = q at hs
              cases hset : setW (kl q true x) (c :: p) (klL q true ys) with
              | none => simp [hset] at hs
              | some x' =>
                simp only [hset, Option.some.injEq] at hs
                subst hs
                obtain ⟨adb, vs, ha, hba, hrel⟩ := h.boxes n cs hn
                obtain ⟨vx, Gx, hvx, hrx, hcx, hGx⟩ := hrel.get hck
                have hcellx := hba.cell hvx
                have hwk : walk w vx (c :: p) = some ad := by
                  simp only [cx, resOf, ha, Option.bind_some, hcellx] at hr; exact hr
                obtain ⟨w', hrun, hz, hw, hres, hhold⟩ := content (q := .box n) hrx hGx hg hp.2 hwk (by rw [hq]; exact hset)
                rw [hq] at hres hhold
                obtain ⟨hy1, hy2⟩ := hyk q hp.1
                obtain ⟨hcs, _⟩ := set_split hck x
                have hkl : k < cs.length := (List.getElem?_eq_some_iff.1 hck).1
                obtain ⟨F', Fo, olds', uold, h1, _⟩ := h.editBox (n := n) (k := k) (c1 := cs.take k) (c3 := cs.drop (k + 1)) (p := q) (ro := true) (by rw [hn, ← hcs]) (by rw [List.length_take]; omega) ha hcellx hset (by rw [← hz]; exact hwk) hw hy1 hy2 hH.disj hH.sep hH.free (fun hh => by cases hh) hres hhold
                exact ⟨w', _, h1, hrun⟩
            · rw [if_neg hp] at hs; cases hs
end
end Go.Ev
namespace Go.Ev
set_option linter.unusedVariables false
structure Src (P : Program) (w : World) (size n : Nat) (x : Value) (us : List Value) : Prop where
  len : ∀ w1, (Builtin.lenOf x).run P w1 = .ok n w1
  cells : ∀ w1, (∀ a v, w.cell? a = some v → w1.cell? a = some v) → (Builtin.firstCells size n x).run P w1 = .ok us.toArray w1
  count : us.length = n * size
theorem Src.slice {P : Program} {w : World} {size n : Nat} {ad : Addr} {c : Nat} {us : List Value} (hl : us.length = n * size) (h : ∀ k u, us[k]? = some u → w.cell? (ad.add k) = some u) :
    Src P w size n (.slice (some ad) n c) us := by
  refine ⟨fun w1 => by simp [Builtin.lenOf], fun w1 h1 => ?_, hl⟩
  exact run_firstCells_some (P := P) w1 size n ad n c us hl fun j v hj => h1 _ _ (h j v hj)
theorem Src.none {P : Program} {w : World} {size : Nat} {A : Option Addr} {c : Nat} : Src P w size 0 (.slice A 0 c) [] := by
  refine ⟨fun w1 => by simp [Builtin.lenOf], fun w1 h1 => ?_, by simp⟩
  cases A <;> simp [Builtin.firstCells, loadCells, loadCellsFrom]
theorem Src.string {P : Program} {w : World} (b : ByteArray) : Src P w 1 b.size (.string b) (b.data.toList.map fun c => .int .u8 c.toNat) := by
  refine ⟨fun w1 => by simp [Builtin.lenOf], fun w1 h1 => ?_, by simp⟩
  have hx : (Array.map (fun b : UInt8 => Value.int IntKind.u8 (b.toNat : Int)) b.data).extract 0 b.size = Array.map (fun b : UInt8 => Value.int IntKind.u8 (b.toNat : Int)) b.data := by
    have hs : b.size = (Array.map (fun b : UInt8 => Value.int IntKind.u8 (b.toNat : Int)) b.data).size := by rw [Array.size_map]; rfl
    rw [hs, Array.extract_size]
  simp only [Builtin.firstCells, Sem.run_pure]
  congr 1
  apply Array.ext'
  simp
theorem size_zeroCells' (z : Array Value) (n : Nat) : (Builtin.zeroCells z n).size = n * z.size := by simp [Builtin.zeroCells]
section
variable {P : Program}
theorem run_append_in {w : World} {sT xT ty e : TypeId} {i : TypeInfo} {du : TypeDesc} (ht : P.underlying sT = some (.slice e)) (hu : P.underlying xT = some du) (hdu : ∀ k, du ≠ .int k) (hi : P.info? e = some i)
    {b o n m cap : Nat} {arr : Array Value} {et : TypeId} {fr : Nat × Nat} {x : Value} {us : List Value} (hh : w.heap[b]? = some (.cells arr et fr)) (hfr : ∀ i, i < arr.size → (fr.1 ≤ i && i < fr.2) = false)
    (hs : arr.size = o + cap * i.size) (hx : Src P w i.size m x us) (hc : ∀ u, u ∈ us → isCell u = true) (hroom : n + m ≤ cap) :
    ∃ w', (Builtin.append_ #[sT, xT] ty #[.slice (some ⟨b, o, none⟩) n cap, x]).run P w = .ok (.slice (some ⟨b, o, none⟩) (n + m) cap) w' ∧ Wrote w w' b (o + n * i.size) us := by
  have hfit : o + n * i.size + us.length ≤ arr.size := by
    rw [hx.count, hs]
    have : (n + m) * i.size ≤ cap * i.size := Nat.mul_le_mul_right _ hroom
    rw [Nat.add_mul] at this; omega
  obtain ⟨w', hrun, hw⟩ := run_store (P := P) hh hfr hfit hc
  refine ⟨w', ?_, hw⟩
  have h1 := hx.len w
  have h2 := hx.cells w (fun _ _ h => h)
  have hadd : (⟨b, o, none⟩ : Addr).add (n * i.size) = ⟨b, o + n * i.size, none⟩ := Addr.add_spot rfl _
  simp [Builtin.append_, run_underlying ht, run_underlying hu, sizeOf, typeInfo, hi, h1, h2, hroom, hadd, hrun]
theorem run_append_new {w : World} {sT xT ty e : TypeId} {i : TypeInfo} {z : Value} {du : TypeDesc} (ht : P.underlying sT = some (.slice e)) (hu : P.underlying xT = some du) (hdu : ∀ k, du ≠ .int k) (hi : P.info? e = some i) (hz : i.zero = some z)
    {A : Option Addr} {n m cap : Nat} {x : Value} {os us : List Value} (hos : Src P w i.size n (.slice A n cap) os) (hx : Src P w i.size m x us) (hroom : cap < n + m) (hb : (n + m) * i.bytes ≤ 140737488355328) (hb0 : 0 < i.bytes) :
    ∃ nc, n + m ≤ nc ∧ (Builtin.append_ #[sT, xT] ty #[.slice A n cap, x]).run P w =
      .ok (.slice (some ⟨w.heap.size, 0, none⟩) (n + m) nc) (w.drew.alloc (.cells (os.toArray ++ us.toArray ++ Builtin.zeroCells z.cells (nc - (n + m))) e)) := by
  refine ⟨grownCap w (n + m) cap e, grownCap_ge .., ?_⟩
  have h1 := hx.len w
  have h2 := hx.cells w.drew (fun _ _ h => h)
  have h3 := hos.cells w.drew (fun _ _ h => h)
  have hn : ¬ (n + m ≤ cap) := by omega
  have hle : n + m ≤ (n + m) * i.bytes := Nat.le_mul_of_pos_right _ hb0
  have h63' : ¬ (9223372036854775807 < ((n : Int) + (m : Int))) := by omega
  have hfit := growslice_fits hroom hb
  have h48' : ¬ (281474976710656 < Builtin.nextslicecap (n + m) cap * i.bytes) := by omega
  simp [Builtin.append_, run_underlying ht, run_underlying hu, sizeOf, typeInfo, zeroValue, hi, hz, h1, hn, h63', h48', Question.forced, h2, h3, newRow, grownCap]
  congr 2
  apply Array.ext'
  simp [List.append_assoc]
end
theorem cell_heap {w w' : World} (h : w'.heap = w.heap) (a : Addr) : w'.cell? a = w.cell? a := by simp [World.cell?, h]
theorem walk_heap {w w' : World} (h : w'.heap = w.heap) : ∀ (p : List Comp) (v : Value), walk w' v p = walk w v p
  | [], v => by cases v <;> simp [walk]
  | [c], v => by cases v with | slice ad n cp => cases ad <;> simp [walk] | _ => simp [walk]
  | c :: d :: rest, v => by
    cases v with
    | slice ad n cp =>
      cases ad with
      | none => simp [walk]
      | some ad =>
        simp only [walk, cell_heap h]
        congr 1; funext u; exact walk_heap h (d :: rest) u
    | _ => simp [walk]
theorem resOf_heap (pers : Nat → Bool) (tm : Nat → Value) (ba : Nat → Option Addr) {w w' : World} (h : w'.heap = w.heap) : resOf pers tm ba w' = resOf pers tm ba w := by
  funext r
  obtain ⟨root, path⟩ := r
  cases root with
  | slot t => simp only [resOf, walk_heap h]
  | box n k => cases path with
    | nil => rfl
    | cons c p => simp only [resOf, walk_heap h, cell_heap h]
theorem holdOf_heap (pers : Nat → Bool) (tm : Nat → Value) (ba : Nat → Option Addr) {w w' : World} (h : w'.heap = w.heap) : holdOf pers tm ba w' = holdOf pers tm ba w := by
  have hc : w'.cell? = w.cell? := funext (cell_heap h)
  funext r
  obtain ⟨root, path⟩ := r
  cases root with
  | slot t => cases path with
    | nil => rfl
    | cons c p => simp only [holdOf, resOf_heap pers tm ba h, hc]
  | box n k => simp only [holdOf, resOf_heap pers tm ba h, hc]
section
variable {fc : Fc} {s : St} {a : Act} {w : World} {g : Gh}
theorem SR.newRow (h : SR fc s a w g) {es : Nat} {xs : List AV} {vs rest : List Value} {F : List Nat} {cap : Nat} (e : TypeId) (hu : ∀ x, x ∈ xs → (cellsOf x).length = es)
    (hc : RelL (cx fc s a w g) false (flat xs) vs F) (hF : Hand fc s g F) (hl : vs.length + rest.length = cap * es) (hn : xs.length ≤ cap) :
    ∃ g', SR fc s a (w.alloc (.cells (vs ++ rest).toArray e)) g' ∧ Rel (cx fc s a (w.alloc (.cells (vs ++ rest).toArray e)) g') true (.sl .own es xs) (.slice (some ⟨w.heap.size, 0, none⟩) xs.length cap) (w.heap.size :: F) ∧
      Hand fc s g' (w.heap.size :: F) ∧ g'.F = g.F ∧ g'.ba = g.ba := by
  obtain ⟨n1, n2, n3, n4⟩ := h.next
  refine ⟨_, h.alloc (vs ++ rest).toArray e (0, 0) (some (0 + xs.length * es)), ?_, ⟨fun q b hb hb' => ?_, fun n cs ad hn ha hb => ?_, fun b hb => ?_⟩, rfl, rfl⟩
  · refine .own true xs w.heap.size 0 cap es (vs ++ rest).toArray e (0, 0) vs F (by simp only [cx]; rw [heap_alloc, if_pos rfl]) (fun i _ => by simp) (by simp; omega) hn hu (fun k v hk => ?_) (hc.alloc h _ e (0, 0) _) (fun hb => ?_) (by simp [cx, upd_same]) n3
    · have hkl := (List.getElem?_eq_some_iff.1 hk).1
      simp only [Nat.zero_add, List.getElem?_toArray, List.getElem?_append_left hkl]; exact hk
    · have := hc.lt _ hb; simp [cx] at this
  · rcases List.mem_cons.1 hb with rfl | hb
    · exact n1 q hb'
    · exact hF.disj q b hb hb'
  · rcases List.mem_cons.1 hb with hb | hb
    · exact n2 ad.off (by
        obtain ⟨ad', vs', h2, h3, h4⟩ := h.boxes n cs hn
        rw [ha] at h2; injection h2 with h2; subst h2
        have := h3.lt; omega)
    · exact hF.sep n cs ad hn ha hb
  · rcases List.mem_cons.1 hb with rfl | hb
    · exact n4
    · exact hF.free b hb
theorem SR.growIn (h : SR fc s a w g) {w' : World} {b o m0 m1 : Nat} {us : List Value} {H : List Nat} (hH : Hand fc s g H) (hb : b ∈ H) (hz : ∀ i, ¬ fc.zf b i) (hbd : g.bd b = some m0) (hm : m0 ≤ m1)
    (ho : m0 ≤ o) (hw : Wrote w w' b o us) :
    SR fc (s.kl viaDeep false) a w' { g with bd := upd g.bd b (some m1) } ∧
      (cx fc s a w g).KeepsK (cx fc (s.kl viaDeep false) a w' { g with bd := upd g.bd b (some m1) }) viaDeep false (fun c => c ≠ b) := by
  have hbxne : ∀ n ad, g.ba n = some ad → ad.block ≠ b := by
    intro n ad' ha hh
    cases hn : s.bx n with
    | none => rw [h.nob n hn] at ha; cases ha
    | some cs => exact hH.sep n cs ad' hn ha (hh ▸ hb)
  obtain ⟨q1, q2⟩ := res_deep (fc := fc) (a := a) (g := g) hw hbxne
  have hk : (cx fc s a w g).KeepsK (cx fc (s.kl viaDeep false) a w' { g with bd := upd g.bd b (some m1) }) viaDeep false (fun c => c ≠ b) := by
    refine ⟨q1, fun r v h1 h2 _ _ => q2 r v h1 h2, fun c i v h1 h2 => ⟨h1, ?_⟩, fun _ c i v h1 h2 => ?_, fun c hc => ⟨hw.other c hc, by simp only [cx]; exact upd_other _ _ hc, fun i h => h⟩⟩
    · refine (hw.cell (.inl ?_)).trans h2
      intro hh; simp only at hh; subst hh; exact hz i h1
    · by_cases hcb : c = b
      · subst hcb
        have hi := h1.1 m0 hbd
        refine ⟨⟨fun m hm' => ?_, ?_, .inr (.inr (by simp only [cx, upd_same]; rfl))⟩, (hw.cell (.inr (.inl (by simp only; omega)))).trans h2⟩
        · simp only [cx, upd_same, Option.some.injEq] at hm'; omega
        · simp only [cx]; rw [bxcOf_kl]; exact h1.2.1
      · refine ⟨⟨fun m hm' => h1.1 m ?_, ?_, ?_⟩, (hw.cell (.inl hcb)).trans h2⟩
        · simp only [cx] at hm' ⊢; rwa [upd_other _ _ hcb] at hm'
        · simp only [cx]; rw [bxcOf_kl]; exact h1.2.1
        · have := h1.2.2
          simp only [cx] at this ⊢; rwa [upd_other _ _ hcb]
  refine ⟨?_, hk⟩
  have h' := h.kill viaDeep false
  have hne : ∀ q c, c ∈ g.F q → c ≠ b := fun q c hc hh => hH.disj q b hb (hh ▸ hc)
  refine ⟨fun u => (h.slots u).kl hk (hne _), fun n cs hn => ?_, h'.nobox, h.disj, h'.sep, h'.apart, h'.zfb, h.zfo, h.touchF, h'.touchB, ?_, h.defers, h.size, h'.nob, fun c i hc => ?_, fun c hc hT => ?_, h'.hbo⟩
  · simp only [St.kl, Option.map_eq_some_iff] at hn
    obtain ⟨cs', hn, rfl⟩ := hn
    obtain ⟨ad, vs, h2, ⟨hsp, arr, e, fr, hh, hfr, hr⟩, h4⟩ := h.boxes n cs' hn
    exact ⟨ad, vs, h2, ⟨hsp, arr, e, fr, by rw [hw.other _ (hbxne n ad h2)]; exact hh, hfr, hr⟩, h4.kl hk (hne _)⟩
  · refine h.keep.wrote hw fun k _ => ?_
    rcases hH.free b hb with hf | hf
    · exact .inl hf
    · exact .inr (hf _)
  · have : c ≠ b := fun hh => hz i (hh ▸ hc)
    simp only; rw [upd_other _ _ this]; exact h.zfd c i hc
  · have : c ≠ b := by
      rintro rfl
      rcases hH.free c hb with hf | hf
      · omega
      · exact hT hf
    simp only; rw [upd_other _ _ this]; exact h.bdo c hc hT
theorem SR.shrink (h : SR fc s a w g) {b m0 m1 : Nat} {H : List Nat} (hH : Hand fc s g H) (hb : b ∈ H) (hz : ∀ i, ¬ fc.zf b i) (hbd : g.bd b = some m0) :
    SR fc (s.kl viaDeep true) a w { g with bd := upd g.bd b (some m1) } ∧
      (cx fc s a w g).KeepsK (cx fc (s.kl viaDeep true) a w { g with bd := upd g.bd b (some m1) }) viaDeep true (fun c => c ≠ b) := by
  have hbxne : ∀ n ad, g.ba n = some ad → ad.block ≠ b := by
    intro n ad' ha hh
    cases hn : s.bx n with
    | none => rw [h.nob n hn] at ha; cases ha
    | some cs => exact hH.sep n cs ad' hn ha (hh ▸ hb)
  have hk : (cx fc s a w g).KeepsK (cx fc (s.kl viaDeep true) a w { g with bd := upd g.bd b (some m1) }) viaDeep true (fun c => c ≠ b) :=
    ⟨fun r x _ hx => hx, fun r v _ hv _ _ => hv, fun c i v h1 h2 => ⟨h1, h2⟩, (fun e => by cases e), fun c hc => ⟨rfl, by simp only [cx]; exact upd_other _ _ hc, fun i h => h⟩⟩
  refine ⟨?_, hk⟩
  have h' := h.kill viaDeep true
  have hne : ∀ q c, c ∈ g.F q → c ≠ b := fun q c hc hh => hH.disj q b hb (hh ▸ hc)
  refine ⟨fun u => (h.slots u).kl hk (hne _), fun n cs hn => ?_, h'.nobox, h.disj, h'.sep, h'.apart, h'.zfb, h.zfo, h.touchF, h'.touchB, h.keep, h.defers, h.size, h'.nob, fun c i hc => ?_, fun c hc hT => ?_, h'.hbo⟩
  · simp only [St.kl, Option.map_eq_some_iff] at hn
    obtain ⟨cs', hn, rfl⟩ := hn
    obtain ⟨ad, vs, h2, h3, h4⟩ := h.boxes n cs' hn
    exact ⟨ad, vs, h2, h3, h4.kl hk (hne _)⟩
  · have : c ≠ b := fun hh => hz i (hh ▸ hc)
    simp only; rw [upd_other _ _ this]; exact h.zfd c i hc
  · have : c ≠ b := by
      rintro rfl
      rcases hH.free c hb with hf | hf
      · omega
      · exact hT hf
    simp only; rw [upd_other _ _ this]; exact h.bdo c hc hT
theorem Hand.kl {H : List Nat} (hH : Hand fc s g H) (p : Bool → Ref → Bool) (ro : Bool) : Hand fc (s.kl p ro) g H :=
  ⟨hH.disj, fun n cs ad hn ha => by
    simp only [St.kl, Option.map_eq_some_iff] at hn
    obtain ⟨cs', hn, rfl⟩ := hn
    exact hH.sep n cs' ad hn ha, hH.free⟩
theorem SR.append (h : SR fc s a w g) {P : Program} {sT xT ty e : TypeId} {i : TypeInfo} {z : Value} {du : TypeDesc} (ht : P.underlying sT = some (.slice e)) (hu' : P.underlying xT = some du) (hdu : ∀ k, du ≠ .int k)
    (hi : P.info? e = some i) (hzero : i.zero = some z) (hzs : z.cells.size = i.size) (hb0 : 0 < i.bytes)
    {xs ys : List AV} {v x : Value} {us : List Value} {H1 H2 : List Nat}
    (hv : Rel (cx fc s a w g) true (.sl .own i.size xs) v H1) (hH1 : Hand fc s g H1)
    (hy : RelL (cx fc s a w g) false (flat ys) us H2) (hu : ∀ y, y ∈ ys → (cellsOf y).length = i.size) (hH2 : Hand fc s g H2) (hd : Disj H1 H2)
    (hx : Src P w i.size ys.length x us) (hb : (xs.length + ys.length) * i.bytes ≤ 140737488355328) :
    ∃ v' w' g' H', (Builtin.append_ #[sT, xT] ty #[v, x]).run P w = .ok v' w' ∧ SR fc (s.kl viaDeep false) a w' g' ∧
      Rel (cx fc (s.kl viaDeep false) a w' g') true (.sl .own i.size (xs ++ ys)) v' H' ∧ Hand fc (s.kl viaDeep false) g' H' := by
  have hun : ∀ y, y ∈ xs ++ ys → (∀ x, x ∈ xs → (cellsOf x).length = i.size) → (cellsOf y).length = i.size := fun y hy hx => (List.mem_append.1 hy).elim (hx y) (hu y)
  have hkill := h.kill viaDeep false
  have hcxk : ∀ g', cx fc (s.kl viaDeep false) a w g' = cx fc s a w g' := fun g' => by simp only [cx, bxcOf_kl]
  -- a new block
  have new : ∀ {A : Option Addr} {n cap : Nat} {os : List Value} {F1 : List Nat}, n = xs.length → v = .slice A n cap → (∀ x, x ∈ xs → (cellsOf x).length = i.size) → RelL (cx fc s a w g) false (flat xs) os F1 → Hand fc s g F1 → Disj F1 H2 →
      Src P w i.size n (.slice A n cap) os → cap < n + ys.length →
      ∃ v' w' g' H', (Builtin.append_ #[sT, xT] ty #[v, x]).run P w = .ok v' w' ∧ SR fc (s.kl viaDeep false) a w' g' ∧
        Rel (cx fc (s.kl viaDeep false) a w' g') true (.sl .own i.size (xs ++ ys)) v' H' ∧ Hand fc (s.kl viaDeep false) g' H' := by
    rintro A n cap os F1 rfl rfl hxu hos hF1 hd1 hsrc hroom
    obtain ⟨nc, hnc, hrun⟩ := run_append_new (ty := ty) ht hu' hdu hi hzero hsrc hx hroom hb hb0
    have hrel : RelL (cx fc (s.kl viaDeep false) a w.drew g) false (flat (xs ++ ys)) (os ++ us) (F1 ++ H2) := by
      have h1 : RelL (cx fc s a w g) false (flat (xs ++ ys)) (os ++ us) (F1 ++ H2) := by rw [flat_append]; exact hos.append hy hd1
      have h0 : SR fc s a w.drew g := h.heap rfl rfl rfl rfl
      rw [show cx fc (s.kl viaDeep false) a w.drew g = cx fc s a w.drew g from by simp only [cx, bxcOf_kl]]
      have hcx : cx fc s a w.drew g = { cx fc s a w g with w := w.drew } := by
        simp only [cx]
        rw [resOf_heap fc.pers (tmOf a) g.ba (w := w) (w' := w.drew) rfl, holdOf_heap fc.pers (tmOf a) g.ba (w := w) (w' := w.drew) rfl]
      rw [hcx]
      exact h1.mono (P := fun _ => True) (X := cx fc s a w g) (X' := { cx fc s a w g with w := w.drew }) ⟨fun r x hx => hx, fun r x hx => hx, fun b i v h1 h2 => ⟨h1, h2⟩, fun b i v h1 h2 => ⟨h1, h2⟩, fun b _ => ⟨rfl, rfl, fun i h => h⟩⟩ (fun _ _ => trivial)
    have hk0 : SR fc (s.kl viaDeep false) a w.drew g := hkill.heap rfl rfl rfl rfl
    have hhand : Hand fc (s.kl viaDeep false) g (F1 ++ H2) := by
      have hF1' := hF1.kl viaDeep false
      have hH2' := hH2.kl viaDeep false
      exact ⟨fun q b hb => (List.mem_append.1 hb).elim (hF1'.disj q b) (hH2'.disj q b), fun n cs ad hn ha hb => (List.mem_append.1 hb).elim (hF1'.sep n cs ad hn ha) (hH2'.sep n cs ad hn ha), fun b hb => (List.mem_append.1 hb).elim (hF1'.free b) (hH2'.free b)⟩
    have hzl : (Builtin.zeroCells z.cells (nc - (xs.length + ys.length))).toList.length = (nc - (xs.length + ys.length)) * i.size := by
      rw [Array.length_toList, size_zeroCells', hzs]
    obtain ⟨g', h1, h2, h3, _, _⟩ := hk0.newRow (cap := nc) (rest := (Builtin.zeroCells z.cells (nc - (xs.length + ys.length))).toList) e (fun y hy => hun y hy hxu) hrel hhand
      (by rw [List.length_append, hx.count, hsrc.count, hzl, ← Nat.add_mul, ← Nat.add_mul]; congr 1; omega) (by rw [List.length_append]; exact hnc)
    have harr : (os.toArray ++ us.toArray ++ Builtin.zeroCells z.cells (nc - (xs.length + ys.length))) = (os ++ us ++ (Builtin.zeroCells z.cells (nc - (xs.length + ys.length))).toList).toArray := by
      apply Array.ext'; simp
    rw [harr] at hrun
    rw [List.length_append] at h2
    exact ⟨_, _, g', _, hrun, h1, h2, h3⟩
  cases hv with
  | nil _ _ _ A =>
    by_cases hy0 : ys = []
    · subst hy0
      refine ⟨.slice A 0 0, w, g, [], ?_, hkill, ?_, .nil _ _ _⟩
      · have h1 := hx.len w
        have h2 := hx.cells w (fun _ _ h => h)
        have hus : us = [] := List.eq_nil_of_length_eq_zero (by have := hx.count; simpa using this)
        subst hus
        simp only [List.length_nil] at h1 h2
        cases A <;> simp [Builtin.append_, run_underlying ht, run_underlying hu', sizeOf, typeInfo, hi, h1, h2, storeCells]
      · exact .nil _ _ _ _
    · exact new rfl rfl (by simp) (.nil _) (.nil _ _ _) (fun b hb => (List.not_mem_nil hb).elim) .none (by have := List.length_pos_iff.2 hy0; simp; omega)
  | imm _ _ _ _ _ _ _ hfl => exact absurd rfl hfl
  | own _ _ b o cap _ arr et fr vs F hh hfr hs hn hxu hr hc hbF hbd hzf =>
    have hF : Hand fc s g F := ⟨fun q c hc => hH1.disj q c (by simp [hc]), fun n cs ad hn ha hc => hH1.sep n cs ad hn ha (by simp [hc]), fun c hc => hH1.free c (by simp [hc])⟩
    have hdF : Disj F H2 := fun c hc => hd c (by simp [hc])
    have hbH2 : b ∉ H2 := hd b (by simp)
    have hvl : vs.length = xs.length * i.size := by rw [hc.length, flat_length hxu]
    by_cases hroom : xs.length + ys.length ≤ cap
    · obtain ⟨w', hrun, hw⟩ := run_append_in (ty := ty) ht hu' hdu hi hh hfr hs hx hy.cells hroom
      have hHb : Hand fc s g (b :: F) := hH1
      obtain ⟨h1, hk⟩ := h.growIn (m1 := o + (xs ++ ys).length * i.size) hHb (List.mem_cons_self ..) hzf hbd (by rw [List.length_append, Nat.add_mul]; omega) (Nat.le_refl _) hw
      obtain ⟨a1, a2, e', fr', p1, p2, p3, p4, p5⟩ := hw.blk
      simp only [cx] at p1 p2
      rw [show w.heap[b]? = some (.cells arr et fr) from hh] at p1; injection p1 with p1; injection p1 with p1 p1' p1''; subst p1; subst p1'; subst p1''
      refine ⟨_, w', _, b :: (F ++ H2), hrun, h1, ?_, ?_⟩
      · have := Rel.own (X := cx fc (s.kl viaDeep false) a w' { g with bd := upd g.bd b (some (o + (xs ++ ys).length * i.size)) }) true (xs ++ ys) b o cap i.size a2 et fr (vs ++ us) (F ++ H2) p2 (by rw [p3]; exact hfr) (by rw [p3]; exact hs) (by rw [List.length_append]; exact hroom)
          (fun y hy => hun y hy hxu) (fun k u hk' => ?_) ?_ (fun hb => (List.mem_append.1 hb).elim hbF hbH2) (by simp [cx, upd_same]) hzf
        · have hlen : (xs ++ ys).length = xs.length + ys.length := List.length_append
          rw [show (Value.slice (some ⟨b, o, none⟩) (xs ++ ys).length cap) = .slice (some ⟨b, o, none⟩) (xs.length + ys.length) cap by rw [hlen]] at this
          exact this
        · rw [p5]
          by_cases hkl : k < vs.length
          · rw [List.getElem?_append_left hkl] at hk'
            rw [if_neg (by omega)]; exact hr k u hk'
          · have hkl2 := (List.getElem?_eq_some_iff.1 hk').1
            rw [List.length_append] at hkl2
            rw [List.getElem?_append_right (by omega)] at hk'
            rw [if_pos (by omega), ← hk']; congr 1; omega
        · rw [flat_append]
          have e1 := hc.kin hk (fun c hc hh => hbF (hh ▸ hc))
          have e2 := hy.kin hk (fun c hc hh => hbH2 (hh ▸ hc))
          rw [kin_false, List.map_id] at e1 e2
          exact e1.append e2 hdF
      · have e1 := hH1.kl viaDeep false
        have e2 := hH2.kl viaDeep false
        refine ⟨fun q c hc => ?_, fun n cs ad hn ha hc => ?_, fun c hc => ?_⟩
        · rcases List.mem_cons.1 hc with rfl | hc
          · exact e1.disj q c (by simp)
          · rcases List.mem_append.1 hc with hc | hc
            · exact e1.disj q c (by simp [hc])
            · exact e2.disj q c hc
        · rcases List.mem_cons.1 hc with hc | hc
          · exact e1.sep n cs ad hn ha (by simp [hc])
          · rcases List.mem_append.1 hc with hc | hc
            · exact e1.sep n cs ad hn ha (by simp [hc])
            · exact e2.sep n cs ad hn ha hc
        · rcases List.mem_cons.1 hc with rfl | hc
          · exact e1.free c (by simp)
          · rcases List.mem_append.1 hc with hc | hc
            · exact e1.free c (by simp [hc])
            · exact e2.free c hc
    · refine new rfl rfl hxu hc hF hdF (.slice hvl fun k u hk => ?_) (by omega)
      rw [Addr.add_spot rfl]
      simp only [cx] at hh
      simp only [World.cell?, hh]
      simpa using hr k u hk
end
end Go.Ev

