import Derived.Test.YtfkggoohajdabaaDoorEvB
import Derived.Scope
import Derived.Lib.Bytes
import Derived.Below
import Derived.Deep.Draws
import Derived.Carry
import Derived.ProofKit
import Derived.ChangeMaps5
import Derived.SliceStrings
import Derived.RowKit
set_option linter.unusedVariables false
set_option linter.unusedSimpArgs false
/- An operation and the instruction that it becomes. -/
namespace Go.Ev
set_option linter.unusedVariables false
def handsOn (ops : List Oper) : Bool := decide (3 ≤ ops.length ∧ ops.length ≤ 5) && ops.all fun o => match o.op with
  | .move _ | .nilCheck _ | .fieldAddr .. | .load .. | .assign _ => true
  | _ => false
def isTake (ops : List Oper) (t : Nat) (ofLoad : Bool) : Bool :=
  ops.any fun o => match o.op with
    | .assign (.tmp u) => (!ofLoad || handsOn ops) && u == t
    | .store _ _ (.tmp u) => u == t
    | .call { callee := .builtin .append, args := as, .. } => (match (as[0]? : Option Operand) with | some (.tmp u) => u == t | _ => false)
    | .build _ ps => ps.any fun p => match p.2 with | .tmp u => u == t | _ => false
    | .buildSlice _ _ ps => ps.any fun p => match p.2 with | .tmp u => u == t | _ => false
    | .box _ (.tmp u) => u == t
    | _ => false
def takes (ops : List Oper) (o : Oper) (ofLoad : Bool) : Bool := match o.dst with | some d => isTake ops d ofLoad | none => false
def scalT (P : Program) (t : TypeId) : Bool := match P.underlying t with | some .bool | some .string | some (.int _) => true | _ => false
def aggScal (P : Program) (d : TypeDesc) : Bool := match d with
  | .struct fs => fs.toList.all fun f => scalT P f.type
  | _ => false
def gives' (gl : Tabs) (ops : List Oper) (o : Oper) : Bool := match o.dst with
  | some d => ops.any fun o' => match o'.op with
    | .call { callee := .value (.func f), args := as, .. } => (match gl.sg f with
      | some ms => (as.toList.zip ms).any fun p => (match p.1 with | .tmp u => u == d | _ => false) && p.2 == .give
      | none => false)
    | _ => false
  | none => false
def compOds (P : Program) (gl : Tabs) (pers : Nat → Bool) : List TypeId → List Operand → Option (List Od)
  | _, [] => some []
  | ts, x :: xs => match compOd P gl pers ts.head? x, compOds P gl pers ts.tail xs with
    | some y, some ys => some (y :: ys)
    | _, _ => none
def compParts (P : Program) (gl : Tabs) (pers : Nat → Bool) (pl : Nat → Option (Nat × Nat)) (ty : Nat → Option TypeId) : List (Nat × Operand) → Option (List (Nat × Nat × Od))
  | [] => some []
  | (i, x) :: rest => match pl i, compOd P gl pers (ty i) x, compParts P gl pers pl ty rest with
    | some (off, n), some y, some ys => some ((off, n, y) :: ys)
    | _, _, _ => none
def compOpt (P : Program) (gl : Tabs) (pers : Nat → Bool) : Option Operand → Option (Option Od)
  | none => some none
  | some x => (compOd P gl pers none x).map some
def zeroOf (P : Program) (t : TypeId) : Option AV :=
  match P.info? t with
  | some i => match i.zero with
    | some z => if flatV z = true ∧ z.cells.size = i.size then (match avOf P (some t) z with | some x => if okCells x = true then some x else none | none => none) else none
    | none => none
  | none => none
def isIntT : TypeDesc → Bool
  | .int _ => true
  | _ => false
theorem isIntT_ne {d : TypeDesc} (h : isIntT d = false) : ∀ k, d ≠ .int k := by
  intro k e; subst e; cases h
def compCall (P : Program) (gl : Tabs) (pers : Nat → Bool) (c : Call) : Option AOp :=
  match c with
  | { callee := .builtin .len, args := ⟨[x]⟩, argTypes := ⟨[t]⟩ } =>
    match P.underlying t with
    | some .string => (compOd P gl pers (some t) x).map .len
    | some (.slice _) => (compOd P gl pers (some t) x).map .lenL
    | _ => none
  | { callee := .builtin .append, args := ⟨[x, y]⟩, argTypes := ⟨[sT, xT]⟩ } =>
    match P.underlying sT, P.underlying xT with
    | some (.slice e), some du =>
      match P.info? e, zeroOf P e, compOd P gl pers (some sT) x, compOd P gl pers (some xT) y with
      | some i, some _, some x', some y' => if 0 < i.bytes ∧ isIntT du = false then some (.app i.size i.bytes x' y') else none
      | _, _, _, _ => none
    | _, _ => none
  | { callee := .builtin .max, args := ⟨[x, y]⟩, .. } => match compOd P gl pers none x, compOd P gl pers none y with
    | some x', some y' => some (.mx true x' y')
    | _, _ => none
  | { callee := .builtin .min, args := ⟨[x, y]⟩, .. } => match compOd P gl pers none x, compOd P gl pers none y with
    | some x', some y' => some (.mx false x' y')
    | _, _ => none
  | { callee := .value (.func f), args := as, .. } =>
    match P.funcs[f]? with
    | some fn => if fn.body.isSome = true ∧ fn.name ≠ "runtime.NumGoroutine" then (match gl.sg f with
        | none => (compOds P gl pers fn.params.toList as.toList).map (.call f)
        | some ms => (match compOds P gl pers fn.params.toList as.toList with
          | some ys => if ms.length = ys.length then some (.callG f (ys.zip ms)) else none
          | none => none)) else none
    | none => none
  | { callee := .value x, args := as, .. } => match compOd P gl pers none x, compOds P gl pers [] as.toList with
    | some x', some ys => some (.callV x' ys)
    | _, _ => none
  | _ => none
def isCopy (ops : List Oper) (x : Operand) : Bool :=
  match x with
  | .tmp t => ops.any fun o => o.dst == some t && (match o.op with | .move _ => true | _ => false)
  | _ => false
def shrinks (P : Program) (ops : List Oper) (o : Oper) : Bool := match o.op, o.dst with
  | .slice ty (.tmp u) none (some _) none, some d => (match P.underlying ty with | some (.slice _) => true | _ => false) && ops.any fun p => (match p.op, p.dst with
    | .assign (.tmp v), some x => v == d && ops.any fun q => (match q.op with
      | .move (.tmp y) => y == x && q.dst == some u
      | _ => false)
    | _, _ => false)
  | _, _ => false
def compOp (P : Program) (gl : Tabs) (pers : Nat → Bool) (dm : Bool) (ops : List Oper) (o : Oper) : Option AOp :=
  match o.op with
  | .move x => (compOd P gl pers (some o.type) x).map (.mov · (if !dm && takes ops o false then .take else .peek))
  | .assign x => (compOd P gl pers (some o.type) x).map (.mov · (if dm && isCopy ops x then .take else .asg))
  | .pick c x y => match compOd P gl pers none c, compOd P gl pers (some o.type) x, compOd P gl pers (some o.type) y with
    | some c', some x', some y' => some (.pick c' x' y')
    | _, _, _ => none
  | .binOp op t x y _ => match compOd P gl pers (some t) x, compOd P gl pers (some t) y with
    | some x', some y' => match P.underlying t with
      | some .bool => if op = .eql then some (.eqb false x' y') else if op = .neq then some (.eqb true x' y') else none
      | some (.struct fs) => if P.stoodInHeld t = false ∧ P.eqGuardType P.depth t = false then (match flatS P fs.toList 0 with | none => none | some ks => if op = .eql then some (.eqS ks false x' y') else if op = .neq then some (.eqS ks true x' y') else none) else none
      | _ => some (.bin op x' y')
    | _, _ => none
  | .unOp op t x => (compOd P gl pers (some t) x).map (.un op)
  | .convert t t' x => match P.underlying t, P.underlying t', compOd P gl pers (some t) x with
    | some (.int _), some (.int k), some x' => some (.cvt k x')
    | some .string, some .string, some x' => some (.same x')
    | some (.slice e), some .string, some x' => (match P.underlying e with | some (.int .u8) => some (.b2s x') | _ => none)
    | some .string, some (.slice e), some x' => (match P.underlying e with | some (.int .u8) => some (.s2b x') | _ => none)
    | _, _, _ => none
  | .makeFunc (.func f) ⟨[]⟩ caps => (compOds P gl pers [] caps.toList).map (.mkF f)
  | .makeSlice t x y => match P.underlying t with
    | some (.slice e) => match P.info? e, zeroOf P e, compOd P gl pers none x, compOd P gl pers none y with
      | some i, some z, some x', some y' => if (cellsOf z).all plainC = true then some (.mkS i.size i.bytes (cellsOf z) x' y') else none
      | _, _, _, _ => none
    | _ => none
  | .call c => compCall P gl pers c
  | .field t x k => match P.underlying t with
    | some (.struct fs) => match fs[k]? with
      | some f => match P.info? f.type, P.underlying f.type, compOd P gl pers (some t) x with
        | some i, some d, some x' => some (.fld x' f.offset i.size (aggB d))
        | _, _, _ => none
      | none => none
    | _ => none
  | .extract (.tmp t) i => some (.ext (.tmp t (pers t)) i)
  | .fieldAddr t x k => match P.underlying t with
    | some (.struct fs) => match fs[k]? with
      | some f => match P.info? f.type, compOd P gl pers none x with
        | some i, some x' => if i.size ≠ 0 then some (.fad x' f.offset) else none
        | _, _ => none
      | none => none
    | _ => none
  | .indexAddr t x y => match P.underlying t, compOd P gl pers none x, compOd P gl pers none y with
    | some (.slice e), some x', some y' => (P.info? e).map fun i => .iad x' y' i.size
    | some (.array n e), some x', some y' => (P.info? e).map fun i => .iadA x' y' n i.size
    | _, _, _ => none
  | .index t x y => match P.underlying t, compOd P gl pers none x, compOd P gl pers none y with
    | some .string, some x', some y' => some (.idx x' y')
    | some (.array n e), some x', some y' => (match P.info? e, P.underlying e with | some i, some d => some (.idxA x' y' n i.size (aggB d)) | _, _ => none)
    | _, _, _ => none
  | .load t x => match P.info? t, P.underlying t, compOd P gl pers none x with
    | some i, some d, some x' => if aggB d = false → i.size = 1 then some (.load x' i.size (aggB d) (if aggB d then !aggScal P d && (takes ops o true || gives' gl ops o) else !dm && takes ops o true)) else none
    | _, _, _ => none
  | .store t p x => match o.dst, P.info? t, compOd P gl pers none p, compOd P gl pers (some t) x with
    | none, some i, some p', some x' => some (.store p' x' i.size)
    | _, _, _, _ => none
  | .alloc t => match o.dst with
    | some _ => (zeroOf P t).map fun x => .new (cellsOf x)
    | none => none
  | .box t x => match o.dst with
    | some _ => (compOd P gl pers (some t) x).map .box
    | none => none
  | .build t parts => match P.underlying t, zeroOf P t with
    | some (.struct fs), some z => if ∀ f, f ∈ fs.toList → (P.info? f.type).isSome = true then
        (compParts P gl pers ((fs.map fun (f : Field) => (f.offset, P.cellsOf f.type))[·]?) (fun k => (fs[k]?).map (·.type)) parts.toList).map (if dm && fs.toList.all (fun f => scalT P f.type) then .buildP (cellsOf z) else .build (cellsOf z)) else none
    | some (.array _ e), some z => (match P.info? e with
      | some i => (compParts P gl pers (fun k => some (k * i.size, i.size)) (fun _ => some e) parts.toList).map (.buildP (cellsOf z))
      | none => none)
    | _, _ => none
  | .buildSlice t n parts => match P.underlying t with
    | some (.slice e) => match P.info? e, zeroOf P e with
      | some i, some z => if n * i.size ≤ 16777216 then
          (compParts P gl pers (fun k => some (k * i.size, i.size)) (fun _ => some e) parts.toList).map (.buildS i.size n ((List.range (n * i.size)).map fun k => (cellsOf z).getD (k % i.size) .junk)) else none
      | _, _ => none
    | _ => none
  | .slice t x lo hi none => match lo, hi, (!dm && shrinks P ops o) with
    | none, some z, true => (match P.underlying t, compOd P gl pers (some t) x, compOd P gl pers none z with
      | some (.slice e), some x', some z' => (P.info? e).map fun i => .slcT i.size x' z'
      | _, _, _ => none)
    | _, _, _ => (match P.underlying t, compOd P gl pers (some t) x, compOpt P gl pers lo, compOpt P gl pers hi with
      | some .string, some x', some lo', some hi' => some (.sub x' lo' hi')
      | some (.slice e), some x', some lo', some hi' => (P.info? e).map fun i => .slc i.size x' lo' hi'
      | _, _, _, _ => none)
  | .nilCheck x => (compOd P gl pers none x).map .chk
  | _ => none
theorem compOds_all {P : Program} {gl : Tabs} {pers : Nat → Bool} : ∀ {xs : List Operand} {ts : List TypeId} {ys : List Od}, compOds P gl pers ts xs = some ys → All2 (fun x x' => ∃ ty, compOd P gl pers ty x = some x') xs ys := by
  intro xs
  induction xs with
  | nil => intro ts ys h; simp only [compOds, Option.some.injEq] at h; subst h; exact .nil
  | cons x xs ih =>
    intro ts ys h
    simp only [compOds] at h
    split at h
    · rename_i y ys' h1 h2
      injection h with h; subst h
      exact .cons ⟨_, h1⟩ (ih h2)
    · cases h
theorem All2.zip {R : Operand → Od → Prop} : ∀ {xs : List Operand} {ys : List Od} {ms : List AM}, All2 R xs ys → ms.length = ys.length → All2 (fun x (y : Od × AM) => R x y.1) xs (ys.zip ms) := by
  intro xs ys ms h
  induction h generalizing ms with
  | nil => intro _; exact .nil
  | cons h _ ih =>
    intro hl
    cases ms with
    | nil => simp at hl
    | cons m ms => exact .cons h (ih (by simpa using hl))
theorem compParts_pc {P : Program} {gl : Tabs} {pers : Nat → Bool} {pl : Nat → Option (Nat × Nat)} {ty : Nat → Option TypeId} : ∀ {xs : List (Nat × Operand)} {ys : List (Nat × Nat × Od)}, compParts P gl pers pl ty xs = some ys → PC P gl pers pl xs ys := by
  intro xs
  induction xs with
  | nil => intro ys h; simp only [compParts, Option.some.injEq] at h; subst h; exact .nil
  | cons p xs ih =>
    obtain ⟨i, x⟩ := p
    intro ys h
    simp only [compParts] at h
    split at h
    · rename_i off n y ys' h1 h2 h3
      injection h with h; subst h
      exact .cons i off n x y _ xs ys' h1 h2 (ih h3)
    · cases h
theorem zeroOf_spec {P : Program} {t : TypeId} {x : AV} (h : zeroOf P t = some x) : ∃ i z, P.info? t = some i ∧ i.zero = some z ∧ flatV z = true ∧ z.cells.size = i.size ∧ avOf P (some t) z = some x ∧ okCells x = true := by
  unfold zeroOf at h
  split at h
  · rename_i i hi
    split at h
    · rename_i z hz
      split at h
      · rename_i hh
        split at h
        · rename_i y hy
          split at h
          · rename_i hok
            injection h with h; subst h
            exact ⟨i, z, hi, hz, hh.1, hh.2, hy, hok⟩
          · cases h
        · cases h
      · cases h
    · cases h
  · cases h
theorem compOpt_spec {P : Program} {gl : Tabs} {pers : Nat → Bool} {x : Option Operand} {y : Option Od} (h : compOpt P gl pers x = some y) : x.map (compOd P gl pers none) = y.map some := by
  cases x with
  | none => simp only [compOpt, Option.some.injEq] at h; subst h; rfl
  | some x => simp only [compOpt, Option.map_eq_some_iff] at h; obtain ⟨z, h1, rfl⟩ := h; simp [h1]
section
variable {P : Program} {fc : Fc} {s : St} {a : Act} {w : World} {g : Gh} {gl : Tabs} {o : Oper} {Q : Exit → Act → World → Prop} {K : St → Prop} {dst : Option (Nat × Bool)} {C : Kn}
theorem compCall_sound (h : SR fc s a w g) (hok : fc.Ok gl) (hd : dstOk fc dst) (ho : o.dst = dst.map (·.1)) {c : Call} (hop : o.op = .call c) {op : AOp} (hc : compCall P gl fc.pers c = some op)
    (hC : Kn.Ok P gl C) (hv : vc C dst op s K) : o.wp P a w (After fc K) Q := by
  unfold compCall at hc
  split at hc
  · rename_i x t
    split at hc
    · rename_i ht
      simp only [Option.map_eq_some_iff] at hc
      obtain ⟨x', h1, rfl⟩ := hc
      exact op_len h hok hd ho hop ht h1 hv
    · rename_i e ht
      simp only [Option.map_eq_some_iff] at hc
      obtain ⟨x', h1, rfl⟩ := hc
      exact op_lenL h hok hd ho hop ht h1 hv
    · cases hc
  · rename_i x y sT xT
    split at hc
    · rename_i e du ht hu
      split at hc
      · rename_i i z x' y' hi hz hx hy
        split at hc
        · rename_i hb
          injection hc with hc; subst hc
          obtain ⟨i', z', q1, q2, q3, q4, q5, q6⟩ := zeroOf_spec hz
          rw [hi] at q1; injection q1 with q1; subst q1
          exact op_app h hok hd ho hop ht hu (isIntT_ne hb.2) hi q2 q4 hb.1 hx hy hv
        · cases hc
      · cases hc
    · cases hc
  · rename_i x y
    split at hc
    · rename_i x' y' hx hy
      injection hc with hc; subst hc
      exact op_mx (isMax := true) h hok hd ho hop hx hy hv
    · cases hc
  · rename_i x y
    split at hc
    · rename_i x' y' hx hy
      injection hc with hc; subst hc
      exact op_mx (isMax := false) h hok hd ho hop hx hy hv
    · cases hc
  · rename_i f as
    split at hc
    · rename_i fn hf
      split at hc
      · rename_i hh
        obtain ⟨c, hbd⟩ := Option.isSome_iff_exists.1 hh.1
        split at hc
        · simp only [Option.map_eq_some_iff] at hc
          obtain ⟨ys, h1, rfl⟩ := hc
          exact op_call h hok hd ho hop hf hbd hh.2 (compOds_all h1) hC hv
        · rename_i ms hms
          split at hc
          · rename_i ys h1
            split at hc
            · rename_i hl
              injection hc with hc; subst hc
              exact op_callG h hok hd ho hop hf hbd hh.2 ((compOds_all h1).zip hl) hC hv
            · cases hc
          · cases hc
      · cases hc
    · cases hc
  · rename_i x as
    split at hc
    · rename_i x' ys hx hys
      injection hc with hc; subst hc
      exact op_callV h hok hd ho hop hx (compOds_all hys) hC hv
    · cases hc
  · cases hc
theorem compOp_sound (h : SR fc s a w g) (hok : fc.Ok gl) (hd : dstOk fc dst) (ho : o.dst = dst.map (·.1)) {dm : Bool} {ops : List Oper} {op : AOp} (hc : compOp P gl fc.pers dm ops o = some op)
    (hC : Kn.Ok P gl C) (hv : vc C dst op s K) : o.wp P a w (After fc K) Q := by
  unfold compOp at hc
  split at hc
  · rename_i x hop
    simp only [Option.map_eq_some_iff] at hc
    obtain ⟨y, h1, rfl⟩ := hc
    exact op_mov h hok hd ho (.inl hop) h1 hv
  · rename_i x hop
    simp only [Option.map_eq_some_iff] at hc
    obtain ⟨y, h1, rfl⟩ := hc
    exact op_mov h hok hd ho (.inr hop) h1 hv
  · rename_i c x y hop
    split at hc
    · rename_i c' x' y' h1 h2 h3
      injection hc with hc; subst hc
      exact op_pick h hok hd ho hop h1 h2 h3 hv
    · cases hc
  · rename_i op' t x y t' hop
    split at hc
    · rename_i x' y' h1 h2
      split at hc
      · rename_i ht
        split at hc
        · rename_i he
          injection hc with hc; subst hc; subst he
          exact op_eqb (neg := false) h hok hd ho hop ht h1 h2 hv
        · split at hc
          · rename_i he
            injection hc with hc; subst hc; subst he
            exact op_eqb (neg := true) h hok hd ho hop ht h1 h2 hv
          · cases hc
      · rename_i fs ht
        split at hc
        · rename_i hq
          split at hc
          · cases hc
          · rename_i ks hks
            split at hc
            · rename_i he
              injection hc with hc; subst hc; subst he
              exact op_eqS (neg := false) h hok hd ho hop ht hks hq.1 hq.2 h1 h2 hv
            · split at hc
              · rename_i he
                injection hc with hc; subst hc; subst he
                exact op_eqS (neg := true) h hok hd ho hop ht hks hq.1 hq.2 h1 h2 hv
              · cases hc
        · cases hc
      · injection hc with hc; subst hc
        exact op_bin h hok hd ho hop h1 h2 hv
    · cases hc
  · rename_i op' t x hop
    simp only [Option.map_eq_some_iff] at hc
    obtain ⟨y, h1, rfl⟩ := hc
    exact op_un h hok hd ho hop h1 hv
  · rename_i t t' x hop
    split at hc
    · rename_i k0 k x' h1 h2 h3
      injection hc with hc; subst hc
      exact op_cvt h hok hd ho hop h1 h2 h3 hv
    · rename_i x' h1 h2 h3
      injection hc with hc; subst hc
      exact op_same h hok hd ho hop h1 h2 h3 hv
    · rename_i e x' h1 h2 h3
      split at hc
      · rename_i h4
        injection hc with hc; subst hc
        exact op_b2s h hok hd ho hop h1 h4 h2 h3 hv
      · cases hc
    · rename_i e x' h1 h2 h3
      split at hc
      · rename_i h4
        injection hc with hc; subst hc
        exact op_s2b h hok hd ho hop h1 h2 h4 h3 hv
      · cases hc
    · cases hc
  · rename_i f caps hop
    simp only [Option.map_eq_some_iff] at hc
    obtain ⟨ys, h1, rfl⟩ := hc
    exact op_mkF h hok hd ho hop (compOds_all h1) hv
  · rename_i t x y hop
    split at hc
    · rename_i e ht
      split at hc
      · rename_i i z x' y' hi hz h1 h2
        split at hc
        · rename_i hpl
          injection hc with hc; subst hc
          obtain ⟨i', z', q1, q2, q3, q4, q5, q6⟩ := zeroOf_spec hz
          rw [hi] at q1; injection q1 with q1; subst q1
          exact op_mkS h hok hd ho hop ht hi q2 q4 q3 q5 q6 hpl h1 h2 hv
        · cases hc
      · cases hc
    · cases hc
  · rename_i c hop
    exact compCall_sound h hok hd ho hop hc hC hv
  · rename_i t x k hop
    split at hc
    · rename_i fs ht
      split at hc
      · rename_i f hf
        split at hc
        · rename_i i d x' h1 h2 h3
          injection hc with hc; subst hc
          exact op_fld h hok hd ho hop ht hf h1 h2 h3 hv
        · cases hc
      · cases hc
    · cases hc
  · rename_i t i hop
    injection hc with hc; subst hc
    exact op_ext h hd ho hop hv
  · rename_i t x k hop
    split at hc
    · rename_i fs ht
      split at hc
      · rename_i f hf
        split at hc
        · rename_i i x' h1 h2
          split at hc
          · rename_i h0
            injection hc with hc; subst hc
            exact op_fad h hok hd ho hop ht hf h1 h0 h2 hv
          · cases hc
        · cases hc
      · cases hc
    · cases hc
  · rename_i t x y hop
    split at hc
    · rename_i e x' y' ht h1 h2
      simp only [Option.map_eq_some_iff] at hc
      obtain ⟨i, hi, rfl⟩ := hc
      exact op_iad h hok hd ho hop ht hi h1 h2 hv
    · rename_i n e x' y' ht h1 h2
      simp only [Option.map_eq_some_iff] at hc
      obtain ⟨i, hi, rfl⟩ := hc
      exact op_iadA h hok hd ho hop ht hi h1 h2 hv
    · cases hc
  · rename_i t x y hop
    split at hc
    · rename_i x' y' ht h1 h2
      injection hc with hc; subst hc
      exact op_idx h hok hd ho hop ht h1 h2 hv
    · rename_i n e x' y' ht h1 h2
      split at hc
      · rename_i i d hi hdd
        injection hc with hc; subst hc
        exact op_idxA h hok hd ho hop ht hi hdd h1 h2 hv
      · cases hc
    · cases hc
  · rename_i t x hop
    split at hc
    · rename_i i d x' h1 h2 h3
      split at hc
      · rename_i h4
        injection hc with hc; subst hc
        exact op_load h hok hd ho hop h1 h2 h4 h3 hv
      · cases hc
    · cases hc
  · rename_i t p x hop
    split at hc
    · rename_i i p' x' hdn h1 h2 h3
      injection hc with hc; subst hc
      have hdn' : dst = none := by cases dst with | none => rfl | some z => rw [hdn] at ho; simp at ho
      subst hdn'
      exact op_store h hok hop hdn h1 h2 h3 hv
    · cases hc
  · rename_i t hop
    split at hc
    · rename_i d hdd
      simp only [Option.map_eq_some_iff] at hc
      obtain ⟨x, hx, rfl⟩ := hc
      obtain ⟨i, z, q1, q2, q3, q4, q5, q6⟩ := zeroOf_spec hx
      cases dst with
      | none => rw [hdd] at ho; simp at ho
      | some pp => obtain ⟨d', pd⟩ := pp; exact op_new h hd (by rw [ho]; rfl) hop q1 q2 q3 q5 q6 hv
    · cases hc
  · rename_i t x hop
    split at hc
    · rename_i d hdd
      simp only [Option.map_eq_some_iff] at hc
      obtain ⟨x', hx, rfl⟩ := hc
      cases dst with
      | none => rw [hdd] at ho; simp at ho
      | some pp => obtain ⟨d', pd⟩ := pp; exact op_box h hok hd (by rw [ho]; rfl) hop hx hv
    · cases hc
  · rename_i t parts hop
    split at hc
    · rename_i fs z ht hz
      split at hc
      · rename_i hfs
        simp only [Option.map_eq_some_iff] at hc
        obtain ⟨ps, hp, rfl⟩ := hc
        obtain ⟨i, z', q1, q2, q3, q4, q5, q6⟩ := zeroOf_spec hz
        split at hv
        · exact op_buildP h hok hd ho hop q1 q2 q3 q5 q6 ht (fun f hf => Option.isSome_iff_exists.1 (hfs f hf)) (compParts_pc hp) hv
        · exact op_build h hok hd ho hop q1 q2 q3 q5 q6 ht (fun f hf => Option.isSome_iff_exists.1 (hfs f hf)) (compParts_pc hp) hv
      · cases hc
    · rename_i m e z ht hz
      split at hc
      · rename_i ie hie
        simp only [Option.map_eq_some_iff] at hc
        obtain ⟨ps, hp, rfl⟩ := hc
        obtain ⟨i, z', q1, q2, q3, q4, q5, q6⟩ := zeroOf_spec hz
        exact op_buildA h hok hd ho hop q1 q2 q3 q5 q6 ht hie (compParts_pc hp) hv
      · cases hc
    · cases hc
  · rename_i t n parts hop
    split at hc
    · rename_i e ht
      split at hc
      · rename_i i z hi hz
        split at hc
        · rename_i hsm
          simp only [Option.map_eq_some_iff] at hc
          obtain ⟨ps, hp, rfl⟩ := hc
          obtain ⟨i', z', q1, q2, q3, q4, q5, q6⟩ := zeroOf_spec hz
          rw [hi] at q1; injection q1 with q1; subst q1
          exact op_buildS h hok hd ho hop ht hi q2 q4 q3 q5 q6 hsm (compParts_pc hp) hv
        · cases hc
      · cases hc
    · cases hc
  · rename_i t x lo hi hop
    split at hc
    · split at hc
      · rename_i e x' z' ht h1 h2
        simp only [Option.map_eq_some_iff] at hc
        obtain ⟨i, hi, rfl⟩ := hc
        exact op_slcT h hok hd ho hop ht hi h1 h2 hv
      · cases hc
    · split at hc
      · rename_i x' lo' hi' ht h1 h2 h3
        injection hc with hc; subst hc
        exact op_sub h hok hd ho hop ht h1 (compOpt_spec h2) (compOpt_spec h3) hv
      · rename_i e x' lo' hi' ht h1 h2 h3
        simp only [Option.map_eq_some_iff] at hc
        obtain ⟨i, hi, rfl⟩ := hc
        exact op_slc h hok hd ho hop ht hi h1 (compOpt_spec h2) (compOpt_spec h3) hv
      · cases hc
  · rename_i x hop
    simp only [Option.map_eq_some_iff] at hc
    obtain ⟨x', hx, rfl⟩ := hc
    exact op_chk h hok hd ho hop hx hv
  · cases hc
end
end Go.Ev
namespace Go.Ev
set_option linter.unusedVariables false
def pu : AOp → Bool
  | .mov _ md => decide (md = .peek)
  | .load _ _ _ tk => !tk
  | .pick .. | .bin .. | .eqb .. | .eqS .. | .un .. | .cvt .. | .same _ | .b2s _ | .len _ | .lenL _ | .idx .. | .sub .. | .slc .. | .fld .. | .fad .. | .iad .. | .iadA .. | .chk _ | .mx .. | .call .. | .buildP .. | .idxA .. => true
  | _ => false
def pv (C : Kn) (op : AOp) (s : St) (z : AV) : Prop :=
  match op with
  | .mov x _ => z = x.peek s
  | .pick c x y => (match c.val s with
    | .lit (.bool b) => (match x.val s, y.val s with
      | .lit u, .lit v => z = (.lit (if b then u else v))
      | u, v => z = (if b then x.peek s else y.peek s))
    | _ => False)
  | .bin op x y => (match x.val s, y.val s with
    | .lit u, .lit v => binObl op u v ∧ z = (.lit (binVal op u v))
    | _, _ => False)
  | .eqb neg x y => (match x.val s, y.val s with
    | .lit (.bool a), .lit (.bool b) => z = (.lit (.bool (if neg then !(a == b) else a == b)))
    | _, _ => False)
  | .eqS ks neg x y => (match x.val s, y.val s with
    | .agg cs, .agg ds => (match eqC ks cs ds with | some b => z = (.lit (.bool (if neg then !b else b))) | none => False)
    | _, _ => False)
  | .un op x => (match x.val s with
    | .lit u => (match unVal op u with | some v => z = (.lit v) | none => False)
    | _ => False)
  | .cvt k x => (match x.val s with
    | .lit (.int _ n) => z = (.lit (.int k (k.wrap n)))
    | _ => False)
  | .same x => (match x.val s with
    | .lit (.string b) => z = (.lit (.string b))
    | _ => False)
  | .b2s x => (match content s (x.val s) with
    | some (es, xs) => es = 1 ∧ ∃ b : ByteArray, xs = b.data.toList.map (fun c => .lit (.int .u8 c.toNat)) ∧ z = (.lit (.string b))
    | none => False)
  | .len x => (match x.val s with
    | .lit (.string b) => z = (.lit (.int .i64 b.size))
    | _ => False)
  | .lenL x => (match content s (x.val s) with | some (_, xs) => z = (.lit (.int .i64 xs.length)) | none => False)
  | .idx x i => (match x.val s, i.val s with
    | .lit (.string b), .lit (.int _ n) => 0 ≤ n ∧ ∃ c, b[n.toNat]? = some c ∧ z = (.lit (.int .u8 c.toNat))
    | _, _ => False)
  | .sub x lo hi => (match x.val s, (lo.map (·.val s)).getD (.lit (.int .i64 0)), hi.map (·.val s) with
    | .lit (.string b), .lit (.int _ l), none => 0 ≤ l ∧ l ≤ b.size ∧ z = (.lit (.string (b.extract l.toNat b.size)))
    | .lit (.string b), .lit (.int _ l), some (.lit (.int _ h)) => 0 ≤ l ∧ l ≤ h ∧ h ≤ b.size ∧ z = (.lit (.string (b.extract l.toNat h.toNat)))
    | _, _, _ => False)
  | .slc es0 x lo hi => (match content s (x.val s), (lo.map (·.val s)).getD (.lit (.int .i64 0)), hi.map (·.val s) with
    | some (es, xs), .lit (.int _ l), none => es = es0 ∧ 0 ≤ l ∧ l ≤ xs.length ∧ z = (.sl (match x.val s with | .sl .frn _ _ => .frn | _ => .ro) es (match x.val s with | .sl .frn _ _ => xs.drop l.toNat | _ => (xs.drop l.toNat).map roD))
    | some (es, xs), .lit (.int _ l), some (.lit (.int _ h)) => es = es0 ∧ 0 ≤ l ∧ l ≤ h ∧ h ≤ xs.length ∧ z = (.sl (match x.val s with | .sl .frn _ _ => .frn | _ => .ro) es (match x.val s with | .sl .frn _ _ => (xs.take h.toNat).drop l.toNat | _ => ((xs.take h.toNat).drop l.toNat).map roD))
    | _, _, _ => False)
  | .fld x off n agg => (match x.val s with
    | .agg cs => off + n ≤ cs.length ∧ (if agg then z = (.agg (((cs.drop off).take n).map roD)) else ∃ y, cs[off]? = some y ∧ z = (roD y))
    | _ => False)
  | .fad x off => (match x.val s with
    | .ptr r => z = (.ptr (r.addOff off))
    | .cell fl cs o => z = (.cell fl cs (o + off))
    | _ => False)
  | .iad x i es => (match i.val s with
    | .lit (.int _ n) => (match x.val s with
      | .bor r => (match getH s r with
        | some (.sl _ es' xs) => es' = es ∧ 0 ≤ n ∧ n < xs.length ∧ z = (.ptr (r.idx n.toNat es))
        | _ => False)
      | .sl fl es' xs => es' = es ∧ 0 ≤ n ∧ ∃ y, xs[n.toNat]? = some y ∧ z = (if fl = .own then .cell .ro (roL (cellsOf y)) 0 else .cell fl (cellsOf y) 0)
      | _ => False)
    | _ => False)
  | .iadA x i len es => (match i.val s with
    | .lit (.int _ n) => 0 ≤ n ∧ n < len ∧ (match x.val s with
      | .ptr r => z = (.ptr (r.addOff (n.toNat * es)))
      | .cell fl cs o => z = (.cell fl cs (o + n.toNat * es))
      | _ => False)
    | _ => False)
  | .load x n agg _ => (match x.val s with
    | .ptr r => (match getR s r with
      | some cs => n ≤ cs.length ∧ 0 < n ∧ (if agg then z = (.agg ((cs.take n).map roD)) else
          match (cs[0]? : Option AV) with
          | some (.sl .own es xs) => z = (.bor r)
          | some y => z = (roD y)
          | none => False)
      | none => False)
    | .cell fl cs o => o + n ≤ cs.length ∧ 0 < n ∧ (if agg then z = (.agg ((cs.drop o).take n)) else ∃ y, cs[o]? = some y ∧ z = y)
    | _ => False)
  | .chk x => (match x.val s with
    | .ptr r => z = (.ptr r)
    | .cell fl cs o => z = (.cell fl cs o)
    | _ => False)
  | .mx isMax x y => (match x.val s, y.val s with
    | .lit (.int k a), .lit (.int k' b) => k = k' ∧ z = (.lit (.int k (if isMax then max a b else min a b)))
    | _, _ => False)
  | .call f args => (∃ res, C.s f (args.map fun x => passA s (x.val s)) res ∧ z = (resD res))
  | .buildP cells parts => (match peeks s parts with
    | some ys => (match place cells ys with | some cs => z = (.agg cs) | none => False)
    | none => False)
  | .idxA x i len es agg => (match x.val s, i.val s with
    | .agg cs, .lit (.int _ n) => 0 ≤ n ∧ n < len ∧ n.toNat * es + es ≤ cs.length ∧ (if agg then z = (.agg (((cs.drop (n.toNat * es)).take es).map roD)) else ∃ y, cs[n.toNat * es]? = some y ∧ z = (roD y))
    | _, _ => False)
  | _ => False
theorem vc_pv {C : Kn} {dst : Option (Nat × Bool)} {op : AOp} {s : St} {K : St → Prop} (h : pu op = true) : vc C dst op s K ↔ ∃ z, pv C op s z ∧ K (fin dst s z) := by
  cases op <;> simp only [pu, decide_eq_true_eq, Bool.not_eq_true', Bool.false_eq_true] at h <;> simp only [vc, pv] <;> (try subst h) <;> (try simp only [partB_f])
  all_goals (repeat' split) <;> grind
def AOp.ods : AOp → List Od
  | .mov x _ | .un _ x | .cvt _ x | .same x | .b2s x | .len x | .lenL x | .fld x _ _ _ | .ext x _ | .fad x _ | .load x _ _ _ | .chk x | .box x => [x]
  | .pick c x y => [c, x, y]
  | .bin _ x y | .eqb _ x y | .eqS _ _ x y | .idx x y | .iad x y _ | .iadA x y _ _ | .app _ _ x y | .store x y _ | .mx _ x y => [x, y]
  | .sub x lo hi | .slc _ x lo hi => x :: (lo.toList ++ hi.toList)
  | .new _ => []
  | .build _ ps | .buildS _ _ _ ps | .buildP _ ps => ps.map (·.2.2)
  | .s2b x => [x]
  | .mkS _ _ _ x y | .idxA x y _ _ _ | .slcT _ x y => [x, y]
  | .callG _ as => as.map (·.1)
  | .callV x as => x :: as
  | .mkF _ cs => cs
  | .call _ as => as
structure Sim (D : Nat → Prop) (S s : St) : Prop where
  bx : S.bx = s.bx
  env : ∀ t, ¬ D t → S.env t = s.env t
structure Clear (D : Nat → Prop) (s : St) (x : Od) : Prop where
  tmp : ∀ t ps, x = .tmp t ps → ¬ D t
  root : ∀ r, (x.val s = .ptr r ∨ x.val s = .bor r) → ∀ t, r.root = .slot t → ¬ D t
section
variable {D : Nat → Prop} {S s : St}
theorem Sim.val (h : Sim D S s) {x : Od} (hx : Clear D s x) : x.val S = x.val s := by
  cases x with
  | tmp t ps => exact h.env t (hx.tmp t ps rfl)
  | _ => rfl
theorem Sim.peek (h : Sim D S s) {x : Od} (hx : Clear D s x) : x.peek S = x.peek s := by
  cases x with
  | tmp t ps => simp only [Od.peek, Ev.peek, h.env t (hx.tmp t ps rfl)]
  | _ => rfl
theorem Sim.getR (h : Sim D S s) {r : Ref} (hr : ∀ t, r.root = .slot t → ¬ D t) : getR S r = getR s r := by
  obtain ⟨root, path⟩ := r
  cases root with
  | slot t => simp only [Ev.getR, h.env t (hr t rfl)]
  | box n k => cases path <;> simp only [Ev.getR, h.bx]
theorem Sim.getH (h : Sim D S s) {r : Ref} (hr : ∀ t, r.root = .slot t → ¬ D t) : getH S r = getH s r := by
  have := h.getR hr
  obtain ⟨root, path⟩ := r
  cases root with
  | slot t => cases path with
    | nil => simp only [Ev.getH, h.env t (hr t rfl)]
    | cons c p => simp only [Ev.getH, this]
  | box n k => simp only [Ev.getH, this]
theorem Sim.content (h : Sim D S s) {x : Od} (hx : Clear D s x) : content S (x.val s) = content s (x.val s) := by
  cases hv : x.val s with
  | bor r => simp only [Ev.content, h.getH (hx.root r (.inr hv))]
  | _ => rfl
theorem Sim.passA (h : Sim D S s) {x : Od} (hx : Clear D s x) : passA S (x.val s) = passA s (x.val s) := by
  cases hv : x.val s with
  | bor r => simp only [Ev.passA, h.getH (hx.root r (.inr hv))]
  | _ => rfl
theorem pv_sim (h : Sim D S s) {C : Kn} {op : AOp} (hp : pu op = true) (hx : ∀ x, x ∈ op.ods → Clear D s x) {z : AV} (hv : pv C op S z) : pv C op s z := by
  have e1 : ∀ x, x ∈ op.ods → x.val S = x.val s := fun x m => h.val (hx x m)
  have e2 : ∀ x, x ∈ op.ods → x.peek S = x.peek s := fun x m => h.peek (hx x m)
  have e3 : ∀ x, x ∈ op.ods → content S (x.val s) = content s (x.val s) := fun x m => h.content (hx x m)
  have e4 : ∀ x, x ∈ op.ods → ∀ r, x.val s = .bor r → getH S r = getH s r := fun x m r hr => h.getH ((hx x m).root r (.inr hr))
  have e5 : ∀ x, x ∈ op.ods → ∀ r, x.val s = .ptr r → getR S r = getR s r := fun x m r hr => h.getR ((hx x m).root r (.inl hr))
  cases op with
  | call f args =>
    simp only [pv, AOp.ods] at *
    have : args.map (fun x => Ev.passA S (x.val S)) = args.map (fun x => Ev.passA s (x.val s)) := List.map_congr_left fun x m => by rw [e1 x m]; exact h.passA (hx x m)
    rw [← this]; exact hv
  | sub x lo hi =>
    simp only [pv, AOp.ods] at *
    have h1 := e1 x (by simp)
    have h2 : lo.map (·.val S) = lo.map (·.val s) := by cases lo with | none => rfl | some y => simp [e1 y (by simp)]
    have h3 : hi.map (·.val S) = hi.map (·.val s) := by cases hi with | none => rfl | some y => simp [e1 y (by simp)]
    rw [h1, h2, h3] at hv; exact hv
  | buildP cells parts =>
    simp only [pv, AOp.ods] at *
    have : peeks S parts = peeks s parts := by
      clear hv e1 e3 e4 e5
      induction parts with
      | nil => rfl
      | cons p ps ih =>
        obtain ⟨off, n, x⟩ := p
        simp only [peeks]
        rw [e2 x (by simp), ih (by simp [pu]) (fun y hy => hx y (by simp at hy ⊢; exact .inr hy)) (fun y hy => e2 y (by simp at hy ⊢; exact .inr hy))]
    rw [this] at hv; exact hv
  | slc es0 x lo hi =>
    simp only [pv, AOp.ods] at *
    have h1 := e1 x (by simp)
    have h2 : lo.map (·.val S) = lo.map (·.val s) := by cases lo with | none => rfl | some y => simp [e1 y (by simp)]
    have h3 : hi.map (·.val S) = hi.map (·.val s) := by cases hi with | none => rfl | some y => simp [e1 y (by simp)]
    rw [h1, h2, h3, e3 x (by simp)] at hv; exact hv
  | iad x i es =>
    simp only [pv, AOp.ods] at *
    rw [e1 x (by simp), e1 i (by simp)] at hv
    have := e4 x (by simp)
    revert hv
    (repeat' split) <;> grind
  | load x n agg tk =>
    simp only [pv, AOp.ods] at *
    rw [e1 x (by simp)] at hv
    have := e5 x (by simp)
    revert hv
    (repeat' split) <;> grind
  | _ =>
    simp only [pu, Bool.false_eq_true] at hp
    try simp only [pv, AOp.ods, List.mem_cons, List.not_mem_nil, or_false, forall_eq_or_imp, forall_eq] at *
    all_goals simp_all
end
end Go.Ev
namespace Go.Ev
set_option linter.unusedVariables false
def Clr (D : Nat → Prop) (s : St) : Prop := ∀ t, ¬ D t → ∀ r, (s.env t = .ptr r ∨ s.env t = .bor r) → ∀ u, r.root = .slot u → ¬ D u
def OdOk (D : Nat → Prop) : Od → Prop
  | .tmp t _ => ¬ D t
  | .cst _ x => ∀ r, x ≠ .ptr r ∧ x ≠ .bor r
  | .glb _ _ => True
section
variable {D : Nat → Prop} {S s : St}
theorem Clr.clear (h : Clr D s) {x : Od} (hx : OdOk D x) : Clear D s x := by
  constructor
  · intro t ps e; subst e; exact hx
  · intro r hr u hu
    cases x with
    | tmp t ps => exact h t hx r hr u hu
    | cst v x => rcases hr with hr | hr; exact absurd hr (hx r).1; exact absurd hr (hx r).2
    | glb g vs => rcases hr with hr | hr <;> cases hr
theorem Clr.set (h : Clr D s) {d : Nat} {v : AV} (hv : ∀ r, v ≠ .ptr r ∧ v ≠ .bor r) : Clr D (s.set d v) := by
  intro t ht r hr u hu
  by_cases e : t = d
  · subst e
    simp only [St.set, upd, if_true] at hr
    rcases hr with hr | hr
    · exact absurd hr (hv r).1
    · exact absurd hr (hv r).2
  · simp only [St.set, upd, if_neg e] at hr; exact h t ht r hr u hu
theorem Clr.setB (h : Clr D s) {d : Nat} {cs : List AV} : Clr D (s.setB d cs) := h
theorem Sim.set (h : Sim D S s) (d : Nat) (v : AV) : Sim D (S.set d v) (s.set d v) :=
  ⟨h.bx, fun t ht => by simp only [St.set, upd]; split; rfl; exact h.env t ht⟩
theorem Sim.setB (h : Sim D S s) (d : Nat) (cs : List AV) : Sim D (S.setB d cs) (s.setB d cs) :=
  ⟨by simp only [St.setB, h.bx], h.env⟩
theorem Sim.kl (h : Sim D S s) (p : Bool → Ref → Bool) (ro : Bool) : Sim D (S.kl p ro) (s.kl p ro) :=
  ⟨by simp only [St.kl, h.bx], fun t ht => by simp only [St.kl, h.env t ht]⟩
theorem Sim.put (h : Sim D S s) {d : Nat} (hd : ¬ D d) (pd : Bool) (v : AV) : Sim D (S.put pd d v) (s.put pd d v) := by
  unfold St.put
  rw [h.env d hd]
  split
  · split
    · exact h.set d v
    · exact (h.kl _ _).set d _
  · exact h.set d v
theorem Sim.fin (h : Sim D S s) {dst : Option (Nat × Bool)} (hd : ∀ d pd, dst = some (d, pd) → ¬ D d) (v : AV) : Sim D (fin dst S v) (fin dst s v) := by
  cases dst with
  | none => exact h
  | some p => exact h.put (hd p.1 p.2 rfl) p.2 v
theorem setW_noPtr {x : AV} {p : List Comp} {ys : List AV} {x' : AV} (h : setW x p ys = some x') : ∀ r, x' ≠ .ptr r ∧ x' ≠ .bor r := by
  unfold setW at h
  intro r
  (repeat' split at h) <;> first | (cases h; done) | (injection h with h; subst h; exact ⟨by simp, by simp⟩)
theorem sim_takeR (h : Sim D S s) (hc : Clr D s) {r : Ref} (hr : ∀ u, r.root = .slot u → ¬ D u) {y : AV} {S1 : St} (hg : takeR S r = some (y, S1)) : ∃ s1, takeR s r = some (y, s1) ∧ Sim D S1 s1 ∧ Clr D s1 := by
  unfold takeR at hg ⊢
  rw [h.getH hr] at hg
  split at hg
  · rename_i es xs hH
    try simp only [hH]
    obtain ⟨root, path⟩ := r
    cases root with
    | slot t =>
      cases path with
      | nil =>
        simp only [Option.some.injEq, Prod.mk.injEq] at hg
        obtain ⟨rfl, rfl⟩ := hg
        exact ⟨_, rfl, h.set _ _, hc.set fun r => by simp [roD]⟩
      | cons c p =>
        simp only [Option.map_eq_some_iff] at hg
        obtain ⟨x', h1, h2⟩ := hg
        simp only [Prod.mk.injEq] at h2
        obtain ⟨rfl, rfl⟩ := h2
        rw [h.env t (hr t rfl)] at h1
        simp only [h1, Option.map_some]
        exact ⟨_, rfl, h.set _ _, hc.set (setW_noPtr h1)⟩
    | box n k =>
      cases path with
      | nil =>
        simp only [Option.map_eq_some_iff] at hg
        obtain ⟨cs, h1, h2⟩ := hg
        simp only [Prod.mk.injEq] at h2
        obtain ⟨rfl, rfl⟩ := h2
        rw [h.bx] at h1
        simp only [h1, Option.map_some]
        exact ⟨_, rfl, h.setB _ _, hc.setB⟩
      | cons c p =>
        simp only [h.bx] at hg
        simp only
        split at hg
        · cases hg
        · rename_i cs h1
          split at hg
          · cases hg
          · rename_i x h2
            simp only [Option.map_eq_some_iff] at hg
            obtain ⟨x', h3, h4⟩ := hg
            simp only [Prod.mk.injEq] at h4
            obtain ⟨rfl, rfl⟩ := h4
            simp only [h3, Option.map_some]
            exact ⟨_, rfl, h.setB _ _, hc.setB⟩
  · rename_i fl es xs hne hH
    simp only [Option.some.injEq, Prod.mk.injEq] at hg
    obtain ⟨rfl, rfl⟩ := hg
    cases fl with
    | own => exact absurd rfl hne
    | ro => exact ⟨_, rfl, h, hc⟩
    | frn => exact ⟨_, rfl, h, hc⟩
  · cases hg
theorem sim_grab (h : Sim D S s) (hc : Clr D s) {x : Od} (hx : OdOk D x) {y : AV} {S1 : St} (hg : x.grab S = some (y, S1)) : ∃ s1, x.grab s = some (y, s1) ∧ Sim D S1 s1 ∧ Clr D s1 := by
  cases x with
  | tmp t ps =>
    simp only [Od.grab, Ev.grab] at hg ⊢
    rw [h.env t hx] at hg
    split at hg
    · rename_i r hr
      try simp only [hr]
      exact sim_takeR h hc (fun u hu => hc t hx r (.inr hr) u hu) hg
    · rename_i es xs hr
      simp only [Option.some.injEq, Prod.mk.injEq] at hg
      obtain ⟨rfl, rfl⟩ := hg
      try simp only [hr]
      exact ⟨_, rfl, h.set _ _, hc.set fun r => by simp⟩
    · rename_i cs hr
      simp only [Option.some.injEq, Prod.mk.injEq] at hg
      obtain ⟨rfl, rfl⟩ := hg
      try simp only [hr]
      exact ⟨_, rfl, h.set _ _, hc.set fun r => by simp⟩
    · rename_i cs hr
      simp only [Option.some.injEq, Prod.mk.injEq] at hg
      obtain ⟨rfl, rfl⟩ := hg
      try simp only [hr]
      exact ⟨_, rfl, h.set _ _, hc.set fun r => by simp⟩
    · rename_i h1 h2 h3 h4
      simp only [Option.some.injEq, Prod.mk.injEq] at hg
      obtain ⟨rfl, rfl⟩ := hg
      exact ⟨s, rfl, h, hc⟩
  | cst v x =>
    simp only [Od.grab, Option.some.injEq, Prod.mk.injEq] at hg ⊢
    obtain ⟨rfl, rfl⟩ := hg
    exact ⟨s, ⟨rfl, rfl⟩, h, hc⟩
  | glb g vs =>
    simp only [Od.grab, Option.some.injEq, Prod.mk.injEq] at hg ⊢
    obtain ⟨rfl, rfl⟩ := hg
    exact ⟨s, ⟨rfl, rfl⟩, h, hc⟩
theorem sim_grabs : ∀ {ps : List (Nat × Nat × Od)} {S s : St}, Sim D S s → Clr D s → (∀ p, p ∈ ps → OdOk D p.2.2) → ∀ {ys : List (Nat × Nat × AV)} {S1 : St}, grabs S ps = some (ys, S1) →
    ∃ s1, grabs s ps = some (ys, s1) ∧ Sim D S1 s1 ∧ Clr D s1 := by
  intro ps
  induction ps with
  | nil => intro S s h hc _ ys S1 hg; simp only [grabs, Option.some.injEq, Prod.mk.injEq] at hg; obtain ⟨rfl, rfl⟩ := hg; exact ⟨s, rfl, h, hc⟩
  | cons p ps ih =>
    obtain ⟨off, n, x⟩ := p
    intro S s h hc hx ys S1 hg
    simp only [grabs] at hg ⊢
    split at hg
    · cases hg
    · rename_i y S' hy
      obtain ⟨s', h1, h2, h3⟩ := sim_grab h hc (hx (off, n, x) (by simp)) hy
      split at hg
      · rename_i hok
        split at hg
        · cases hg
        · rename_i ys' S2 hys
          obtain ⟨s2, h4, h5, h6⟩ := ih h2 h3 (fun p hp => hx p (by simp [hp])) hys
          simp only [Option.some.injEq, Prod.mk.injEq] at hg
          obtain ⟨rfl, rfl⟩ := hg
          exact ⟨s2, by simp only [h1, hok, if_true, h4], h5, h6⟩
      · cases hg
theorem sim_writeR (h : Sim D S s) {r : Ref} (hr : ∀ u, r.root = .slot u → ¬ D u) {ys : List AV} {S1 : St} (hg : writeR S r ys = some S1) : ∃ s1, writeR s r ys = some s1 ∧ Sim D S1 s1 := by
  unfold writeR at hg ⊢
  split at hg
  · rename_i n k
    rw [h.bx] at hg
    try simp only
    split at hg
    · cases hg
    · rename_i cs h1
      try simp only [h1]
      split at hg
      · rename_i h2
        rw [if_pos h2]
        split at hg
        · rename_i h3; rw [if_pos h3]; injection hg with hg; subst hg; exact ⟨_, rfl, h.setB _ _⟩
        · rename_i h3; rw [if_neg h3]; injection hg with hg; subst hg; exact ⟨_, rfl, (h.kl _ _).setB _ _⟩
      · cases hg
  · rename_i n k p hp
    rw [h.bx] at hg
    cases p with
    | nil => exact absurd rfl (hp)
    | cons c p =>
      try simp only
      split at hg
      · cases hg
      · rename_i cs h1
        try simp only [h1]
        split at hg
        · cases hg
        · rename_i x h2
          try simp only [h2]
          split at hg
          · cases hg
          · rename_i olds h3
            try simp only [h3]
            split at hg
            · rename_i h4
              rw [if_pos h4]
              split at hg
              · cases hg
              · rename_i x' h5
                try simp only [h5]
                injection hg with hg; subst hg
                exact ⟨_, rfl, (h.kl _ _).setB _ _⟩
            · cases hg
  · rename_i t p
    rw [h.env t (hr t rfl)] at hg
    split at hg
    · cases hg
    · rename_i olds h3
      try simp only [h3]
      split at hg
      · rename_i h4
        rw [if_pos h4]
        split at hg
        · cases hg
        · rename_i x' h5
          try simp only [h5]
          injection hg with hg; subst hg
          exact ⟨_, rfl, (h.kl _ _).set _ _⟩
      · cases hg
theorem sim_gives : ∀ {as : List (Od × AM)} {S s : St}, Sim D S s → Clr D s → (∀ p, p ∈ as → OdOk D p.1) → ∀ {ys : List (Option AV)} {S1 : St}, gives S as = some (ys, S1) →
    ∃ s1, gives s as = some (ys, s1) ∧ Sim D S1 s1 ∧ Clr D s1 := by
  intro as
  induction as with
  | nil => intro S s h hc _ ys S1 hg; simp only [gives, Option.some.injEq, Prod.mk.injEq] at hg; obtain ⟨rfl, rfl⟩ := hg; exact ⟨s, rfl, h, hc⟩
  | cons p ps ih =>
    obtain ⟨x, m⟩ := p
    intro S s h hc hx ys S1 hg
    simp only [gives] at hg ⊢
    split at hg
    · rename_i hm
      split at hg
      · rename_i y S' hy
        obtain ⟨s', h1, h2, h3⟩ := sim_grab h hc (hx (x, m) (by simp)) hy
        split at hg
        · rename_i ys' S2 hys
          obtain ⟨s2, h4, h5, h6⟩ := ih h2 h3 (fun p hp => hx p (by simp [hp])) hys
          simp only [Option.some.injEq, Prod.mk.injEq] at hg
          obtain ⟨rfl, rfl⟩ := hg
          exact ⟨s2, by simp only [hm, if_true, h1, h4], h5, h6⟩
        · cases hg
      · cases hg
    · rename_i hm
      split at hg
      · rename_i ys' S2 hys
        obtain ⟨s2, h4, h5, h6⟩ := ih h hc (fun p hp => hx p (by simp [hp])) hys
        simp only [Option.some.injEq, Prod.mk.injEq] at hg
        obtain ⟨rfl, rfl⟩ := hg
        exact ⟨s2, by simp only [hm, if_false, h4], h5, h6⟩
      · cases hg
theorem sim_pasOf (h : Sim D S s) (hc : Clr D s) : ∀ {as : List (Od × AM)} {ys : List (Option AV)}, (∀ p, p ∈ as → OdOk D p.1) → pasOf S as ys = pasOf s as ys ∧ ∀ pas, pasOf s as ys = some pas → ∀ x, PA.pass x ∈ pas → ∀ r, x = .bor r → ∀ u, r.root = .slot u → ¬ D u := by
  intro as
  induction as with
  | nil => intro ys _; cases ys <;> exact ⟨rfl, fun pas hp x hx => by simp [pasOf] at hp; try (subst hp; cases hx)⟩
  | cons p ps ih =>
    obtain ⟨x, m⟩ := p
    intro ys hx
    cases ys with
    | nil => exact ⟨rfl, fun pas hp => by simp [pasOf] at hp⟩
    | cons y ys =>
      obtain ⟨i1, i2⟩ := ih (ys := ys) (fun p hp => hx p (by simp [hp]))
      have hcl := hc.clear (hx (x, m) (by simp))
      have e := h.val hcl
      simp only [pasOf, e, i1]
      refine ⟨trivial, fun pas hp x0 hx0 r hr u hu => ?_⟩
      split at hp
      · rename_i q qs h1 h2
        injection hp with hp; subst hp
        rcases List.mem_cons.1 hx0 with hx0 | hx0
        · subst hx0
          cases y with
          | some z => simp at h1
          | none =>
            simp only at h1
            split at h1
            · injection h1 with h1; injection h1 with h1
              subst hr
              exact hcl.root r (.inr h1) u hu
            · obtain ⟨n, _, e2⟩ := boxPA_inv h1; cases e2
        · exact i2 qs h2 x0 hx0 r hr u hu
      · cases hp
theorem capsPA_nopass : ∀ {caps : List AV} {ps : List PA}, capsPA caps = some ps → ∀ x, PA.pass x ∉ ps := by
  intro caps
  induction caps with
  | nil => intro ps hps x hx; simp only [capsPA, Option.some.injEq] at hps; subst hps; cases hx
  | cons c cs ih =>
    intro ps hps x hx
    simp only [capsPA] at hps
    split at hps
    · rename_i p ps' h1 h2
      injection hps with hps; subst hps
      rcases List.mem_cons.1 hx with hx | hx
      · obtain ⟨n, _, e2⟩ := boxPA_inv h1; rw [e2] at hx; cases hx
      · exact ih h2 x hx
    · cases hps
theorem sim_coreG (h : Sim D S s) {C : Kn} {f : FuncId} {pas : List PA} {dst : Option (Nat × Bool)} {K : St → Prop} (hd : ∀ d pd, dst = some (d, pd) → ¬ D d)
    (hp : ∀ x, PA.pass x ∈ pas → ∀ r, x = .bor r → ∀ u, r.root = .slot u → ¬ D u) (hv : coreG C f pas S dst K) : coreG C f pas s dst fun s' => ∃ S', K S' ∧ Sim D S' s' := by
  obtain ⟨h1, hv⟩ := hv
  have hb : ∀ ns, boxesAt S ns = boxesAt s ns := by
    intro ns
    induction ns with
    | nil => rfl
    | cons n ns ih => simp only [boxesAt, h.bx, ih]
  have ha : ∀ ns, pas.map (argG S ns) = pas.map (argG s ns) := by
    intro ns
    refine List.map_congr_left fun p hpm => ?_
    cases p with
    | pass x =>
      simp only [argG]
      cases x with
      | bor r =>
        have := h.getH (hp _ hpm r rfl)
        simp only [passG, this]
      | _ => rfl
    | give y => rfl
    | box n => rfl
  refine ⟨h1, ?_⟩
  rw [hb] at hv
  split at hv
  · rename_i bxs hbx
    obtain ⟨res, bxs', q1, q2, q3⟩ := hv
    rw [ha] at q1
    refine ⟨res, bxs', q1, q2, _, q3, Sim.fin ⟨?_, fun t ht => ?_⟩ hd _⟩
    · simp only [backG, h.bx]
    · simp only [backG, h.env t ht]
  · exact hv
theorem vc_sim (h : Sim D S s) (hc : Clr D s) {C : Kn} {dst : Option (Nat × Bool)} {op : AOp} {K : St → Prop} (hd : ∀ d pd, dst = some (d, pd) → ¬ D d)
    (hx : ∀ x, x ∈ op.ods → OdOk D x) (hv : vc C dst op S K) : vc C dst op s fun s' => ∃ S', K S' ∧ Sim D S' s' := by
  by_cases hp : pu op = true
  · obtain ⟨z, h1, h2⟩ := (vc_pv hp).1 hv
    exact (vc_pv hp).2 ⟨z, pv_sim h hp (fun x m => hc.clear (hx x m)) h1, _, h2, h.fin hd z⟩
  have e1 : ∀ x, x ∈ op.ods → x.val S = x.val s := fun x m => h.val (hc.clear (hx x m))
  have e5 : ∀ x, x ∈ op.ods → ∀ r, (x.val s = .ptr r ∨ x.val s = .bor r) → ∀ u, r.root = .slot u → ¬ D u := fun x m => (hc.clear (hx x m)).root
  have e6 : ∀ x, x ∈ op.ods → ∀ y S1, x.grab S = some (y, S1) → ∃ s1, x.grab s = some (y, s1) ∧ Sim D S1 s1 ∧ Clr D s1 := fun x m y S1 hg => sim_grab h hc (hx x m) hg
  cases op with
  | mov x md =>
    simp only [AOp.ods, List.mem_singleton, forall_eq] at e1 e5 e6
    cases md with
    | peek => exact absurd rfl hp
    | take =>
      simp only [vc] at hv ⊢
      split at hv
      · rename_i y S1 hg
        obtain ⟨s1, h1, h2, h3⟩ := e6 y S1 hg
        simp only [h1]
        exact ⟨_, hv, h2.fin hd y⟩
      · cases hv
    | asg =>
      simp only [vc, e1] at hv ⊢
      split at hv
      · exact ⟨_, hv, h.fin hd _⟩
      · split at hv
        · rename_i y S1 hg
          obtain ⟨s1, h1, h2, h3⟩ := e6 y S1 hg
          simp only [h1]
          exact ⟨_, hv, h2.fin hd y⟩
        · cases hv
  | ext x i =>
    simp only [AOp.ods, List.mem_singleton, forall_eq] at e1 e5 e6 hx
    simp only [vc] at hv ⊢
    split at hv
    · rename_i t ps
      rw [h.env t hx] at hv
      split at hv
      · obtain ⟨y, h1, h2⟩ := hv
        exact ⟨y, h1, _, h2, (h.set _ _).fin hd y⟩
      · cases hv
    · cases hv
  | load x n agg tk =>
    simp only [AOp.ods, List.mem_singleton, forall_eq] at e1 e5 e6
    cases tk with
    | false => exact absurd rfl hp
    | true =>
    simp only [vc, e1] at hv ⊢
    split at hv
    · rename_i r hr
      rw [h.getR (e5 r (.inl hr))] at hv
      split at hv
      · obtain ⟨h1, h2, h3⟩ := hv
        refine ⟨h1, h2, ?_⟩
        cases agg with
        | true =>
          simp only [if_true] at h3 ⊢
          cases hw : partB true r with
          | none => rw [hw] at h3; exact ⟨_, h3, h.fin hd _⟩
          | some dk =>
            rw [hw] at h3
            refine ⟨_, h3, ?_⟩
            have hbx := h.bx
            refine Sim.fin ?_ hd _
            simp only [St.setP, hbx]
            split
            · exact h.setB _ _
            · exact h
        | false =>
          simp only [Bool.false_eq_true, if_false, if_true] at h3 ⊢
          split at h3
          · split at h3
            · rename_i y S1 hg
              obtain ⟨s1, q1, q2, q3⟩ := sim_takeR h hc (e5 r (.inl hr)) hg
              simp only [q1]
              exact ⟨_, h3, q2.fin hd y⟩
            · cases h3
          · exact ⟨_, h3, h.fin hd _⟩
          · cases h3
      · cases hv
    · obtain ⟨h1, h2, h3⟩ := hv
      refine ⟨h1, h2, ?_⟩
      cases agg with
      | true => exact ⟨_, h3, h.fin hd _⟩
      | false =>
        simp only [Bool.false_eq_true, if_false] at h3 ⊢
        obtain ⟨y, h4, h5⟩ := h3
        exact ⟨y, h4, _, h5, h.fin hd _⟩
    · cases hv
  | new cells =>
    simp only [vc] at hv ⊢
    split at hv
    · rename_i d pd
      exact ⟨_, hv, ((h.kl _ _).setB _ _).put (hd d pd rfl) _ _⟩
    · cases hv
  | box x =>
    simp only [AOp.ods, List.mem_singleton, forall_eq] at e1 e5 e6
    simp only [vc] at hv ⊢
    split at hv
    · rename_i d pd y S1 hg
      obtain ⟨s1, h1, h2, h3⟩ := e6 y S1 hg
      simp only [h1]
      exact ⟨hv.1, _, hv.2, ((h2.kl _ _).setB _ _).put (hd d pd rfl) _ _⟩
    · cases hv
  | build cells parts =>
    simp only [vc] at hv ⊢
    split at hv
    · rename_i ys S1 hg
      obtain ⟨s1, h1, h2, h3⟩ := sim_grabs h hc (fun p hp => hx p.2.2 (List.mem_map.2 ⟨p, hp, rfl⟩)) hg
      simp only [h1]
      split at hv
      · exact ⟨_, hv, h2.fin hd _⟩
      · cases hv
    · cases hv
  | buildS es len cells parts =>
    simp only [vc] at hv ⊢
    split at hv
    · rename_i ys S1 hg
      obtain ⟨s1, h1, h2, h3⟩ := sim_grabs h hc (fun p hp => hx p.2.2 (List.mem_map.2 ⟨p, hp, rfl⟩)) hg
      simp only [h1]
      split at hv
      · exact ⟨hv.1, _, hv.2, h2.fin hd _⟩
      · cases hv
    · cases hv
  | slcT es x hi =>
    simp only [vc] at hv ⊢
    rw [e1 hi (by simp [AOp.ods])] at hv
    split at hv
    · rename_i k n es' xs S1 hn hg
      obtain ⟨s1, h1, h2, h3⟩ := e6 x (by simp [AOp.ods]) _ S1 hg
      simp only [hn, h1]
      obtain ⟨a1, a2, a3, hv⟩ := hv
      exact ⟨a1, a2, a3, _, hv, (h2.kl viaDeep true).fin hd _⟩
    · cases hv
  | app es bytes sx x =>
    simp only [vc] at hv ⊢
    split at hv
    · rename_i es' xs S1 hg
      obtain ⟨s1, h1, h2, h3⟩ := e6 sx (by simp [AOp.ods]) _ S1 hg
      simp only [h1]
      obtain ⟨he, hv⟩ := hv
      refine ⟨he, ?_⟩
      have hox : OdOk D x := hx x (by simp [AOp.ods])
      have hcx := h3.clear hox
      rw [h2.val hcx] at hv
      split at hv
      · rename_i r hr
        rw [h2.getH (hcx.root r (.inr hr))] at hv
        simp only [hr]
        split at hv
        · exact ⟨hv.1, hv.2.1, _, hv.2.2, (h2.kl _ _).fin hd _⟩
        · cases hv
      · rename_i b S2 hg2 hne
        obtain ⟨s2, q1, q2, q3⟩ := sim_grab h2 h3 hox hg2
        have := (q2.kl viaDeep false).fin hd (.sl .own es (xs ++ b.data.toList.map fun c => .lit (.int .u8 c.toNat)))
        simp only [q1]
        exact ⟨hv.1, hv.2.1, _, hv.2.2, this⟩
      · rename_i fl es2 ys S2 hg2 hne
        obtain ⟨s2, q1, q2, q3⟩ := sim_grab h2 h3 hox hg2
        have := (q2.kl viaDeep false).fin hd (.sl .own es (xs ++ ys))
        simp only [q1]
        exact ⟨hv.1, hv.2.1, _, hv.2.2, this⟩
      · cases hv
    · cases hv
  | store a x n =>
    simp only [vc] at hv ⊢
    rw [e1 a (by simp [AOp.ods])] at hv
    split at hv
    · rename_i r y S1 hr hg
      obtain ⟨s1, h1, h2, h3⟩ := e6 x (by simp [AOp.ods]) y S1 hg
      simp only [hr, h1]
      refine ⟨hv.1, hv.2.1, hv.2.2.1, ?_⟩
      have hv := hv.2.2.2
      split at hv
      · rename_i S2 hw
        obtain ⟨s2, q1, q2⟩ := sim_writeR h2 (e5 a (by simp [AOp.ods]) r (.inl hr)) hw
        simp only [q1]
        exact ⟨_, hv, q2⟩
      · cases hv
    · cases hv
  | s2b x =>
    simp only [AOp.ods, List.mem_singleton, forall_eq] at e1
    simp only [vc, e1] at hv ⊢
    split at hv
    · exact ⟨_, hv, h.fin hd _⟩
    · cases hv
  | mkS es bytes cells x y =>
    simp only [vc, e1 x (by simp [AOp.ods]), e1 y (by simp [AOp.ods])] at hv ⊢
    split at hv
    · exact ⟨hv.1, hv.2.1, hv.2.2.1, hv.2.2.2.1, _, hv.2.2.2.2, h.fin hd _⟩
    · cases hv
  | callG f args =>
    simp only [vc] at hv ⊢
    have hx' : ∀ p, p ∈ args → OdOk D p.1 := fun p hp => hx p.1 (by simp only [AOp.ods, List.mem_map]; exact ⟨p, hp, rfl⟩)
    split at hv
    · rename_i ys S1 hg
      obtain ⟨s1, h1, h2, h3⟩ := sim_gives h hc hx' hg
      obtain ⟨i1, i2⟩ := sim_pasOf h2 h3 (ys := ys) hx'
      simp only [h1]
      rw [i1] at hv
      split at hv
      · rename_i pas hpas
        exact sim_coreG h2 hd (i2 pas hpas) hv
      · cases hv
    · cases hv
  | callV x args =>
    have e1' : ∀ y, y ∈ args → y.val S = y.val s := fun y hy => e1 y (by simp [AOp.ods, hy])
    have e2' : args.map (fun x => PA.pass (x.val S)) = args.map (fun x => PA.pass (x.val s)) := List.map_congr_left fun y hy => by rw [e1' y hy]
    have e3' : args.map (fun x => Ev.passA S (x.val S)) = args.map (fun x => Ev.passA s (x.val s)) := List.map_congr_left fun y hy => by
      rw [e1' y hy]; exact h.passA (hc.clear (hx y (by simp [AOp.ods, hy])))
    simp only [vc, e1 x (by simp [AOp.ods]), e2', e3'] at hv ⊢
    split at hv
    · obtain ⟨q0, res, q1, q2⟩ := hv
      exact ⟨q0, res, q1, _, q2, h.fin hd _⟩
    · rename_i f caps hclo
      obtain ⟨q0, hv⟩ := hv
      refine ⟨q0, ?_⟩
      split at hv
      · rename_i ps hps
        refine sim_coreG h hd (fun x0 hx0 r hr u hu => ?_) hv
        rcases List.mem_append.1 hx0 with hx0 | hx0
        · obtain ⟨y, hy, e⟩ := List.mem_map.1 hx0
          injection e with e
          subst hr
          exact e5 y (by simp [AOp.ods, hy]) r (.inr e) u hu
        · exact absurd hx0 (capsPA_nopass hps x0)
      · cases hv
    · cases hv
  | mkF f caps =>
    have e1' : ∀ y, y ∈ caps → y.val S = y.val s := fun y hy => e1 y (by simp [AOp.ods, hy])
    have e2' : caps.map (fun x => x.val S) = caps.map (fun x => x.val s) := List.map_congr_left fun y hy => e1' y hy
    have e3' : caps.all (fun x => isPtr (x.val S)) = caps.all (fun x => isPtr (x.val s)) := by
      rw [Bool.eq_iff_iff, List.all_eq_true, List.all_eq_true]
      exact ⟨fun q y hy => by rw [← e1' y hy]; exact q y hy, fun q y hy => by rw [e1' y hy]; exact q y hy⟩
    simp only [vc, e2', e3'] at hv ⊢
    exact ⟨hv.1, _, hv.2, h.fin hd _⟩
  | _ => exact absurd rfl hp
end
end Go.Ev
namespace Go.Ev
set_option linter.unusedVariables false
def dstC (pers : Nat → Bool) (n : Nat) : Option Tmp → Option (Option (Nat × Bool))
  | none => some none
  | some d => if d < n then some (some (d, pers d)) else none
def grdC (ops : List Oper) : Option (Nat × Bool) → Option (Option (Nat × Bool))
  | none => some none
  | some (j, want) => match (ops[j]?).bind (·.dst) with
    | some t => some (some (t, want))
    | none => none
def compIns (P : Program) (gl : Tabs) (pers : Nat → Bool) (n : Nat) (dm : Bool) (ops : List Oper) (o : Oper) : Option Ins :=
  match compOp P gl pers dm ops o, dstC pers n o.dst, grdC ops o.guard with
  | some op, some dst, some grd => some ⟨dst, grd, op⟩
  | _, _, _ => none
def compInss (P : Program) (gl : Tabs) (pers : Nat → Bool) (n : Nat) (dm : Bool) (ops : List Oper) : List Oper → Option (List Ins)
  | [] => some []
  | o :: os => match compIns P gl pers n dm ops o, compInss P gl pers n dm ops os with
    | some i, some is => some (i :: is)
    | _, _ => none
section
variable {P : Program} {fc : Fc} {s : St} {a : Act} {w : World} {g : Gh} {gl : Tabs} {Q : Exit → Act → World → Prop} {K : St → Prop} {C : Kn}
theorem dstC_spec {n : Nat} {d : Option Tmp} {dst : Option (Nat × Bool)} (hn : n = fc.n) (h : dstC fc.pers n d = some dst) : dstOk fc dst ∧ d = dst.map (·.1) := by
  subst hn
  unfold dstC at h
  split at h
  · injection h with h; subst h; exact ⟨fun _ _ e => (by cases e), rfl⟩
  · split at h
    · rename_i hlt; injection h with h; subst h; exact ⟨fun d pd e => (by injection e with e; injection e with e1 e2; subst e1; subst e2; exact ⟨hlt, rfl⟩), rfl⟩
    · cases h
theorem undef_rel {X : Cx} : Rel X true (.lit undef) undef [] := .lit _ _ rfl
theorem compIns_spec {n : Nat} {dm : Bool} {ops : List Oper} {o : Oper} {i : Ins} (hc : compIns P gl fc.pers n dm ops o = some i) :
    compOp P gl fc.pers dm ops o = some i.op ∧ dstC fc.pers n o.dst = some i.dst ∧ grdC ops o.guard = some i.grd := by
  unfold compIns at hc
  split at hc
  · rename_i op dst grd h1 h2 h3
    injection hc with hc; subst hc
    exact ⟨h1, h2, h3⟩
  · cases hc
theorem wanted_of (h : SR fc s a w g) {ops : Array Oper} {o : Oper} {t : Nat} {want b : Bool} (hg : grdC ops.toList o.guard = some (some (t, want))) (hb : s.env t = .lit (.bool b)) :
    Region.wanted o (yielded ops a.tmps) = (b == want) := by
  unfold grdC at hg
  split at hg
  · cases hg
  · rename_i j want' ho
    split at hg
    · rename_i t' ht
      injection hg with hg; injection hg with hg; injection hg with h1 h2; subst h1; subst h2
      have ht' : (ops[j]?).bind (·.dst) = some t' := by simpa using ht
      have hv : tmOf a t' = .bool b := by
        have := h.slots t'; rw [hb] at this; exact this.lit_inv.1
      have hget : a.tmps[t']? = some (.bool b) := by
        unfold tmOf at hv
        rw [Array.getD_eq_getD_getElem?] at hv
        cases hh : a.tmps[t']? with
        | none => rw [hh] at hv; simp [undef] at hv
        | some u => rw [hh] at hv; simp at hv; rw [hv]
      unfold Region.wanted
      rw [ho]
      simp only [yielded, ht', Option.bind_some, hget]
      cases b <;> cases want' <;> rfl
    · cases hg
theorem wanted_un (h : SR fc s a w g) {ops : Array Oper} {o : Oper} {t : Nat} {want : Bool} {xs : Array Value} (hg : grdC ops.toList o.guard = some (some (t, want))) (hb : s.env t = .lit (.tuple xs)) :
    Region.wanted o (yielded ops a.tmps) = false := by
  unfold grdC at hg
  split at hg
  · cases hg
  · rename_i j want' ho
    split at hg
    · rename_i t' ht
      injection hg with hg; injection hg with hg; injection hg with h1 h2; subst h1; subst h2
      have ht' : (ops[j]?).bind (·.dst) = some t' := by simpa using ht
      have hv : tmOf a t' = .tuple xs := by
        have := h.slots t'; rw [hb] at this; exact this.lit_inv.1
      have hget : a.tmps[t']? = some (.tuple xs) ∨ a.tmps[t']? = none := by
        unfold tmOf at hv
        rw [Array.getD_eq_getD_getElem?] at hv
        cases hh : a.tmps[t']? with
        | none => exact .inr rfl
        | some u => rw [hh] at hv; simp at hv; exact .inl (by rw [hv])
      unfold Region.wanted
      rw [ho]
      simp only [yielded, ht', Option.bind_some]
      rcases hget with hget | hget <;> rw [hget] <;> cases want' <;> rfl
    · cases hg
theorem wanted_none {ops : Array Oper} {o : Oper} {y : Nat → Option Bool} (hg : grdC ops.toList o.guard = some none) : Region.wanted o y = true := by
  unfold grdC at hg
  split at hg
  · rename_i ho; simp [Region.wanted, ho]
  · split at hg <;> cases hg
theorem ins_sound (h : SR fc s a w g) (hok : fc.Ok gl) {ops : Array Oper} {k : Nat} {o : Oper} (ho : ops[k]? = some o) {n : Nat} (hn : n = fc.n) {dm : Bool} {i : Ins} (hc : compIns P gl fc.pers n dm ops.toList o = some i)
    (hC : Kn.Ok P gl C) (hv : vcG C i s K) : wpOp P ops Q k (After fc K) a w := by
  obtain ⟨h1, h2, h3⟩ := compIns_spec hc
  obtain ⟨h4, h5⟩ := dstC_spec hn h2
  unfold wpOp
  simp only [ho]
  unfold vcG at hv
  cases hg : i.grd with
  | none =>
    rw [hg] at hv h3
    rw [wanted_none h3]
    simp only [if_true]
    exact .inl (compOp_sound h hok h4 h5 h1 hC hv)
  | some p =>
    obtain ⟨t, want⟩ := p
    rw [hg] at hv h3
    simp only at hv
    split at hv
    · rename_i b hb
      rw [wanted_of h h3 hb]
      cases hbw : b == want with
      | true =>
        simp only [if_true]
        exact .inl (compOp_sound h hok h4 h5 h1 hC (hv.1 (by simpa using hbw)))
      | false =>
        simp only [Bool.false_eq_true, if_false]
        rw [h5]
        exact After.fin h h4 undef_rel (Hand.nil ..) (hv.2 (by simpa using hbw))
    · rename_i xs hb
      rw [wanted_un h h3 hb]
      simp only [Bool.false_eq_true, if_false]
      rw [h5]
      exact After.fin h h4 undef_rel (Hand.nil ..) hv
    · cases hv
theorem compInss_get {n : Nat} {dm : Bool} {ops : List Oper} : ∀ {os : List Oper} {is : List Ins}, compInss P gl fc.pers n dm ops os = some is → is.length = os.length ∧ ∀ (k : Nat) (o : Oper), os[k]? = some o → ∃ i, is[k]? = some i ∧ compIns P gl fc.pers n dm ops o = some i := by
  intro os
  induction os with
  | nil => intro is h; simp only [compInss, Option.some.injEq] at h; subst h; exact ⟨rfl, fun k o h => by simp at h⟩
  | cons o os ih =>
    intro is h
    simp only [compInss] at h
    split at h
    · rename_i i is' h1 h2
      injection h with h; subst h
      obtain ⟨q1, q2⟩ := ih h2
      refine ⟨by simp [q1], fun k o' hk => ?_⟩
      cases k with
      | zero => simp at hk; subst hk; exact ⟨i, rfl, h1⟩
      | succ k => exact q2 k o' (by simpa using hk)
    · cases h
theorem vcs_sound (hok : fc.Ok gl) {ops : Array Oper} {n : Nat} (hn : n = fc.n) {dm : Bool} (hC : Kn.Ok P gl C) (hQ : ∀ a w, After fc K a w → Q .normal a w) :
    ∀ (l : List (Nat × Ins)) (s : St) (a : Act) (w : World) (g : Gh), SR fc s a w g → (∀ k i, (k, i) ∈ l → ∃ o, ops[k]? = some o ∧ compIns P gl fc.pers n dm ops.toList o = some i) →
      vcs C (l.map (·.2)) s K → wpOps P ops Q (l.map (·.1)) a w := by
  intro l
  induction l with
  | nil => intro s a w g h _ hv; exact hQ a w ⟨s, g, h, hv⟩
  | cons p l ih =>
    obtain ⟨k, i⟩ := p
    intro s a w g h hl hv
    obtain ⟨o, h1, h2⟩ := hl k i (List.mem_cons_self ..)
    simp only [List.map_cons, wpOps_cons]
    refine wpOp_mono ?_ (ins_sound h hok h1 hn h2 hC (K := fun s' => vcs C (l.map (·.2)) s' K) (by simpa only [List.map_cons, vcs] using hv))
    rintro a' w' ⟨s', g', h', hv'⟩
    exact ih s' a' w' g' h' (fun k i hm => hl k i (List.mem_cons_of_mem _ hm)) hv'
theorem zip_range {α : Type} : ∀ (xs : List α) (m : Nat), ((List.range' m xs.length).zip xs).map (·.1) = List.range' m xs.length ∧ ((List.range' m xs.length).zip xs).map (·.2) = xs := by
  intro xs m
  exact ⟨List.map_fst_zip (by simp), List.map_snd_zip (by simp)⟩
theorem region_seq (h : SR fc s a w g) (hok : fc.Ok gl) {ops : Array Oper} {n id : Nat} (hn : n = fc.n) {dm : Bool} (hC : Kn.Ok P gl C) (hQ : ∀ a w, After fc K a w → Q .normal a w)
    {is : List Ins} (hc : compInss P gl fc.pers n dm ops.toList ops.toList = some is) (hv : vcs C is s K) : (Code.region id ops false).wp P Q a w := by
  obtain ⟨h1, h2⟩ := compInss_get hc
  refine wp_region ?_
  have hz := zip_range is 0
  have : List.range ops.size = ((List.range' 0 is.length).zip is).map (·.1) := by rw [hz.1, List.range_eq_range', h1]; simp
  rw [this]
  refine vcs_sound (dm := dm) hok hn hC hQ _ s a w g h (fun k i hm => ?_) (by rw [hz.2]; exact hv)
  have hi : is[k]? = some i := by
    obtain ⟨j, hj⟩ := List.mem_iff_getElem?.1 hm
    rw [List.getElem?_zip_eq_some] at hj
    obtain ⟨q1, q2⟩ := hj
    have hj := (List.getElem?_eq_some_iff.1 q2).1
    rw [List.getElem?_range' hj] at q1
    simp at q1; subst q1; exact q2
  have hlt := (List.getElem?_eq_some_iff.1 hi).1
  have : ∃ o, ops.toList[k]? = some o := ⟨_, List.getElem?_eq_getElem (by omega)⟩
  obtain ⟨o, ho⟩ := this
  obtain ⟨i', q1, q2⟩ := h2 k o ho
  rw [hi] at q1; injection q1 with q1; subst q1
  exact ⟨o, by simpa using ho, q2⟩
end
end Go.Ev
namespace Go.Ev
set_option linter.unusedVariables false
def Od.tm? : Od → Option Nat
  | .tmp t _ => some t
  | _ => none
def odB : Od → Bool
  | .cst _ (.ptr _) | .cst _ (.bor _) => false
  | _ => true
def Ins.tms (i : Ins) : List Nat := i.op.ods.filterMap Od.tm? ++ (match i.grd with | some (t, _) => [t] | none => [])
def Ins.d (i : Ins) : Nat := match i.dst with | some (d, _) => d | none => 0
def Ins.pur (i : Ins) : Bool := pu i.op && (match i.dst with | some (_, false) => true | _ => false)
def edges (o : Oper) : List Nat := (o.after.toList.filter (Region.binds .any ·)).map (·.on)
def maskOf (pre : List Nat) : List Nat → Nat
  | [] => 0
  | e :: es => (1 <<< e ||| pre.getD e 0) ||| maskOf pre es
def insAt (is : List Ins) (k : Nat) : Ins := is.getD k ⟨none, none, .new []⟩
def dChk (pre : List Nat) (cls : List Bool) (ops : List Oper) (is : List Ins) : Bool :=
  (List.range ops.length).all fun k => match ops[k]? with
    | none => false
    | some o => (edges o).all (fun e => decide (e < k)) && (pre.getD k 0 == maskOf pre (edges o)) && (insAt is k).op.ods.all odB && (!(cls.getD k false) || (insAt is k).pur) &&
      (List.range ops.length).all fun q =>
        if cls.getD q false then (!((insAt is k).tms.contains (insAt is q).d) || (pre.getD k 0).testBit q) && (q == k || (insAt is k).dst.map (·.1) != some (insAt is q).d)
        else true
def preOf (ops : List Oper) : List Nat := ops.foldl (fun acc o => acc ++ [maskOf acc (edges o)]) []
def clsOf (pre : List Nat) (is : List Ins) : List Bool := is.foldl (fun acc i => acc ++ [i.pur && (List.range acc.length).all fun q => acc.getD q false || !(pre.getD acc.length 0).testBit q]) []
inductive CT where
  | done
  | no
  | alt (i : Ins) (re : List Ins) (t r : CT)
inductive AR where
  | seq (is : List Ins)
  | draw (look : List Ins) (chain : CT)
def vcRe (C : Kn) : List Ins → St → Prop
  | [], S => True
  | i :: is, S => vcG C i S (fun S' => S'.env i.d = S.env i.d) ∧ vcRe C is S
def vcT (C : Kn) : CT → St → (St → Prop) → Prop
  | .done, S, K => K S
  | .no, _, _ => True
  | .alt i re t r, S, K => vcG C i S (fun S' => vcRe C re S' ∧ vcT C t S' K) ∧ vcT C r S K
def vcR (C : Kn) : AR → St → (St → Prop) → Prop
  | .seq is, s, K => vcs C is s K
  | .draw look chain, s, K => vcs C look s fun S => vcT C chain S K
def lookOf (cls : List Bool) (n : Nat) : List Nat := (List.range n).filter fun k => cls.getD k false
def chainOf (cls : List Bool) (n : Nat) : List Nat := (List.range n).filter fun k => !cls.getD k false
def reOf (pre : List Nat) (cls : List Bool) (n : Nat) (rest : List Nat) (c : Nat) : List Nat := (lookOf cls n).filter fun p => !(pre.getD c 0).testBit p && (chainOf cls n).all fun q => rest.contains q || !(pre.getD q 0).testBit p
def mayC (pre : List Nat) (rest : List Nat) (c : Nat) : Bool := rest.all fun q => !(pre.getD c 0).testBit q
def treeC (is : List Ins) (pre : List Nat) (cls : List Bool) (n : Nat) : Nat → List Nat → CT
  | 0, _ => .done
  | k + 1, rest => if rest = [] then .done else (rest.filter (mayC pre rest)).foldr (fun c acc => .alt (insAt is c) ((reOf pre cls n rest c).map (insAt is)) (treeC is pre cls n k (rest.erase c)) acc) .no
def CT.size : CT → Nat
  | .done => 1
  | .no => 0
  | .alt _ _ t r => t.size + r.size + 1
def compR (P : Program) (gl : Tabs) (pers : Nat → Bool) (n : Nat) (ops : List Oper) (draw : Bool) : Option AR :=
  match compInss P gl pers n draw ops ops with
  | none => none
  | some is =>
    if draw then
      if dChk (preOf ops) (clsOf (preOf ops) is) ops is then
        (if (treeC is (preOf ops) (clsOf (preOf ops) is) ops.length (chainOf (clsOf (preOf ops) is) ops.length).length (chainOf (clsOf (preOf ops) is) ops.length)).size ≤ 400 then
          some (.draw ((lookOf (clsOf (preOf ops) is) ops.length).map (insAt is)) (treeC is (preOf ops) (clsOf (preOf ops) is) ops.length (chainOf (clsOf (preOf ops) is) ops.length).length (chainOf (clsOf (preOf ops) is) ops.length))) else none)
      else none
    else some (.seq is)
structure DOk (pre : List Nat) (cls : List Bool) (ops : Array Oper) (is : List Ins) : Prop where
  edge : ∀ k o, ops[k]? = some o → ∀ e, e ∈ edges o → e < k
  prs : ∀ k o, ops[k]? = some o → ∀ q, (pre.getD k 0).testBit q = true → ∃ e, e ∈ edges o ∧ (q = e ∨ (pre.getD e 0).testBit q = true)
  ods : ∀ k, k < ops.size → ∀ x, x ∈ (insAt is k).op.ods → odB x = true
  pur : ∀ k, k < ops.size → cls.getD k false = true → pu (insAt is k).op = true ∧ ∃ d, (insAt is k).dst = some (d, false)
  dep : ∀ k q, k < ops.size → q < ops.size → cls.getD q false = true → (insAt is q).d ∈ (insAt is k).tms → (pre.getD k 0).testBit q = true
  uniq : ∀ k q, k < ops.size → q < ops.size → cls.getD q false = true → q ≠ k → ∀ d pd, (insAt is k).dst = some (d, pd) → d ≠ (insAt is q).d
theorem maskOf_spec {pre : List Nat} {q : Nat} : ∀ {es : List Nat}, (maskOf pre es).testBit q = true → ∃ e, e ∈ es ∧ (q = e ∨ (pre.getD e 0).testBit q = true) := by
  intro es
  induction es with
  | nil => intro h; simp [maskOf] at h
  | cons e es ih =>
    intro h
    simp only [maskOf, Nat.testBit_or, Bool.or_eq_true] at h
    rcases h with (h | h) | h
    · rw [Nat.one_shiftLeft, Nat.testBit_two_pow] at h
      exact ⟨e, List.mem_cons_self .., .inl (by simpa [eq_comm] using h)⟩
    · exact ⟨e, List.mem_cons_self .., .inr h⟩
    · obtain ⟨e', h1, h2⟩ := ih h
      exact ⟨e', List.mem_cons_of_mem _ h1, h2⟩
theorem dChk_ok {pre : List Nat} {cls : List Bool} {ops : Array Oper} {is : List Ins} (h : dChk pre cls ops.toList is = true) : DOk pre cls ops is := by
  have key : ∀ k o, ops[k]? = some o → k < ops.size ∧ ((((∀ e, e ∈ edges o → e < k) ∧ pre.getD k 0 = maskOf pre (edges o)) ∧ (∀ x, x ∈ (insAt is k).op.ods → odB x = true)) ∧ (cls.getD k false = false ∨ (insAt is k).pur = true)) ∧
      ∀ q, q < ops.size → (if cls.getD q false = true then (¬ (insAt is q).d ∈ (insAt is k).tms ∨ (pre.getD k 0).testBit q = true) ∧ (q = k ∨ (insAt is k).dst.map (·.1) ≠ some (insAt is q).d) else True) := by
    intro k o ho
    have hk : k < ops.size := (Array.getElem?_eq_some_iff.1 ho).1
    have ho' : ops.toList[k]? = some o := by simpa using ho
    have h := List.all_eq_true.1 h k (by simpa using hk)
    rw [ho'] at h
    simp only [Bool.and_eq_true, List.all_eq_true, decide_eq_true_eq, beq_iff_eq, Bool.or_eq_true, Bool.not_eq_true'] at h
    refine ⟨hk, h.1, fun q hq => ?_⟩
    have hh := h.2 q (by simpa using hq)
    split
    · rename_i hc
      simp only [hc, if_true, Bool.and_eq_true, Bool.or_eq_true, Bool.not_eq_true', beq_iff_eq, bne_iff_ne, List.contains_eq_mem, decide_eq_false_iff_not] at hh
      exact hh
    · trivial
  have get : ∀ k, k < ops.size → ∃ o, ops[k]? = some o := fun k hk => ⟨_, Array.getElem?_eq_getElem hk⟩
  constructor
  · intro k o ho; exact (key k o ho).2.1.1.1.1
  · intro k o ho q hq; rw [(key k o ho).2.1.1.1.2] at hq; exact maskOf_spec hq
  · intro k hk; obtain ⟨o, ho⟩ := get k hk; exact (key k o ho).2.1.1.2
  · intro k hk hc
    obtain ⟨o, ho⟩ := get k hk
    have := (key k o ho).2.1.2
    rw [hc] at this
    have hp := this.resolve_left (by simp)
    simp only [Ins.pur, Bool.and_eq_true] at hp
    refine ⟨hp.1, ?_⟩
    revert hp
    cases hd : (insAt is k).dst with
    | none => simp
    | some x => obtain ⟨d, pd⟩ := x; cases pd <;> simp
  · intro k q hk hq hc hd
    obtain ⟨o, ho⟩ := get k hk
    have := (key k o ho).2.2 q hq
    rw [if_pos hc] at this
    exact this.1.resolve_left (fun h => h hd)
  · intro k q hk hq hc hne d pd hd he
    obtain ⟨o, ho⟩ := get k hk
    have := (key k o ho).2.2 q hq
    rw [if_pos hc] at this
    exact (this.2.resolve_left hne) (by rw [hd, he]; rfl)
end Go.Ev
namespace Go.Ev
set_option linter.unusedVariables false
def pvG (C : Kn) (i : Ins) (S : St) (z : AV) : Prop :=
  match i.grd with
  | none => pv C i.op S z
  | some (t, want) => match S.env t with
    | .lit (.bool b) => (b = want → pv C i.op S z) ∧ (b ≠ want → z = .lit undef)
    | .lit (.tuple _) => z = .lit undef
    | _ => False
section
variable {C : Kn} {D : Nat → Prop} {S s : St} {K : St → Prop} {i : Ins}
theorem vcG_pvG (hp : pu i.op = true) : vcG C i S K ↔ ∃ z, pvG C i S z ∧ K (fin i.dst S z) := by
  unfold vcG pvG
  cases hg : i.grd with
  | none => exact vc_pv hp
  | some q =>
    obtain ⟨t, want⟩ := q
    simp only
    cases hb : S.env t with
    | lit v =>
      cases v with
      | bool b =>
        simp only
        by_cases e : b = want
        · simp only [e, ne_eq, not_true_eq_false, false_implies, and_true, true_implies]; exact vc_pv hp
        · simp [e]
      | _ => simp
    | _ => simp
theorem pvG_sim (h : Sim D S s) (hp : pu i.op = true) (hx : ∀ x, x ∈ i.op.ods → Clear D s x) (hg : ∀ t, t ∈ i.tms → ¬ D t) {z : AV} (hv : pvG C i S z) : pvG C i s z := by
  unfold pvG at hv ⊢
  cases hgr : i.grd with
  | none => rw [hgr] at hv; exact pv_sim h hp hx hv
  | some q =>
    obtain ⟨t, want⟩ := q
    rw [hgr] at hv
    simp only at hv ⊢
    rw [h.env t (hg t (by simp [Ins.tms, hgr]))] at hv
    split at hv
    · exact ⟨fun e => pv_sim h hp hx (hv.1 e), hv.2⟩
    · exact hv
    · cases hv
theorem vcG_sim (h : Sim D S s) (hc : Clr D s) (hd : ∀ d pd, i.dst = some (d, pd) → ¬ D d) (hx : ∀ x, x ∈ i.op.ods → OdOk D x) (hg : ∀ t, t ∈ i.tms → ¬ D t) (hv : vcG C i S K) :
    vcG C i s fun s' => ∃ S', K S' ∧ Sim D S' s' := by
  unfold vcG at hv ⊢
  cases hgr : i.grd with
  | none => rw [hgr] at hv; exact vc_sim h hc hd hx hv
  | some q =>
    obtain ⟨t, want⟩ := q
    rw [hgr] at hv
    simp only at hv ⊢
    rw [h.env t (hg t (by simp [Ins.tms, hgr]))] at hv
    split at hv
    · exact ⟨fun e => vc_sim h hc hd hx (hv.1 e), fun e => ⟨_, hv.2 e, h.fin hd _⟩⟩
    · exact ⟨_, hv, h.fin hd _⟩
    · cases hv
theorem Sim.trans {D' : Nat → Prop} {S1 : St} (h : Sim D S1 S) (h' : Sim D' S s) : Sim (fun t => D t ∨ D' t) S1 s :=
  ⟨h.bx.trans h'.bx, fun t ht => (h.env t fun q => ht (.inl q)).trans (h'.env t fun q => ht (.inr q))⟩
theorem Sim.mono {D' : Nat → Prop} (h : Sim D S s) (hD : ∀ t, D t → D' t) : Sim D' S s := ⟨h.bx, fun t ht => h.env t fun q => ht (hD t q)⟩
theorem Sim.refl : Sim D S S := ⟨rfl, fun _ _ => rfl⟩
theorem odOk_of {x : Od} (hb : odB x = true) (ht : ∀ t, t ∈ (Od.tm? x).toList → ¬ D t) : OdOk D x := by
  cases x with
  | tmp t ps => exact ht t (by simp [Od.tm?])
  | cst v x => intro r; constructor <;> (intro e; subst e; cases hb)
  | glb g vs => trivial
variable {fc : Fc} {a : Act} {w : World} {g : Gh}
theorem SR.clr (h : SR fc s a w g) (hD : ∀ t, D t → fc.pers t = false) : Clr D s := by
  intro t ht r hr u hu hDu
  have hs := h.slots t
  have hpu : ∀ r : Ref, r.root = .slot u → resOf fc.pers (tmOf a) g.ba w r = none := by
    rintro ⟨root, path⟩ e
    simp only at e
    subst e
    simp [resOf, hD u hDu]
  rcases hr with hr | hr
  · rw [hr] at hs
    have : ∀ {X : Cx} {v : Value} {F : List Nat}, Rel X true (.ptr r) v F → ∃ ad, X.res r = some ad := by
      intro X v F h; cases h with | ptr _ ad hres => exact ⟨ad, hres⟩
    obtain ⟨ad, hres⟩ := this hs
    simp only [cx] at hres; rw [hpu r hu] at hres; cases hres
  · rw [hr] at hs
    obtain ⟨h1, _⟩ := hs.bor_inv
    simp only [cx, holdOf] at h1
    obtain ⟨root, path⟩ := r
    simp only at hu
    subst hu
    cases path with
    | nil => simp only [hD u hDu] at h1; cases h1
    | cons c p => simp only [hpu ⟨.slot u, c :: p⟩ rfl] at h1; cases h1
end
def PV (pers : Nat → Bool) (C : Kn) (i : Ins) (S : St) : Prop :=
  ∃ S1 D1, Sim D1 S1 S ∧ (∀ t, t ∈ i.tms → ¬ D1 t) ∧ (∀ t, D1 t → pers t = false) ∧ pvG C i S1 (S.env i.d)
section
variable {P : Program} {fc : Fc} {gl : Tabs} {Q : Exit → Act → World → Prop} {K : St → Prop} {C : Kn} {ops : Array Oper} {is : List Ins} {pre : List Nat} {cls : List Bool}
theorem tree_mem {n k : Nat} : ∀ (l rest : List Nat) {S : St}, vcT C (l.foldr (fun c acc => .alt (insAt is c) ((reOf pre cls n rest c).map (insAt is)) (treeC is pre cls n k (rest.erase c)) acc) .no) S K →
    ∀ c, c ∈ l → vcG C (insAt is c) S fun S' => vcRe C ((reOf pre cls n rest c).map (insAt is)) S' ∧ vcT C (treeC is pre cls n k (rest.erase c)) S' K := by
  intro l
  induction l with
  | nil => intro rest S _ c hc; exact (List.not_mem_nil hc).elim
  | cons d l ih =>
    intro rest S h c hc
    simp only [List.foldr_cons, vcT] at h
    rcases List.mem_cons.1 hc with rfl | hc
    · exact h.1
    · exact ih rest h.2 c hc
theorem tree_step {n k : Nat} {rest : List Nat} {S : St} (h : vcT C (treeC is pre cls n k rest) S K) (hk : rest.length ≤ k) {c : Nat} (hc : c ∈ rest) (hm : mayC pre rest c = true) :
    ∃ k', (rest.erase c).length ≤ k' ∧ vcG C (insAt is c) S fun S' => vcRe C ((reOf pre cls n rest c).map (insAt is)) S' ∧ vcT C (treeC is pre cls n k' (rest.erase c)) S' K := by
  have hl := List.length_erase_of_mem hc
  have hp := List.length_pos_of_mem hc
  cases k with
  | zero => omega
  | succ k =>
    have hne : rest ≠ [] := by rintro rfl; cases hc
    simp only [treeC, hne, if_false] at h
    exact ⟨k, by omega, tree_mem _ rest h c (List.mem_filter.2 ⟨hc, hm⟩)⟩
theorem tree_nil {n k : Nat} {S : St} (h : vcT C (treeC is pre cls n k []) S K) : K S := by
  cases k with
  | zero => exact h
  | succ k => simpa [treeC, vcT] using h
theorem vcRe_mem : ∀ {re : List Ins} {S : St}, vcRe C re S → ∀ i, i ∈ re → vcG C i S fun S' => S'.env i.d = S.env i.d := by
  intro re
  induction re with
  | nil => intro S _ i h; exact (List.not_mem_nil h).elim
  | cons j re ih =>
    intro S h i hi
    rcases List.mem_cons.1 hi with rfl | hi
    · exact h.1
    · exact ih h.2 i hi
def Dn (is : List Ins) (cls : List Bool) (n : Nat) (L : Nat → Bool) (t : Nat) : Prop := ∃ p, p < n ∧ cls.getD p false = true ∧ L p = false ∧ (insAt is p).d = t
structure Inv (fc : Fc) (gl : Tabs) (K : St → Prop) (C : Kn) (ops : Array Oper) (is : List Ins) (pre : List Nat) (cls : List Bool) (L : Nat → Bool) (a : Act) (w : World) : Prop where
  closed : ∀ k o, ops[k]? = some o → L k = true → ∀ e, e ∈ edges o → L e = true
  st : ∃ S s g rest k, SR fc s a w g ∧ Sim (Dn is cls ops.size L) S s ∧ vcT C (treeC is pre cls ops.size k rest) S K ∧ (rest.Nodup ∧ rest.length ≤ k) ∧ (∀ c, c ∈ rest ↔ c < ops.size ∧ cls.getD c false = false ∧ L c = false) ∧
    ∀ p, p < ops.size → cls.getD p false = true → L p = false → PV fc.pers C (insAt is p) S
theorem pre_listed (hd : DOk pre cls ops is) {L : Nat → Bool} (hcl : ∀ k o, ops[k]? = some o → L k = true → ∀ e, e ∈ edges o → L e = true) :
    ∀ k o, ops[k]? = some o → (∀ e, e ∈ edges o → L e = true) → ∀ q, (pre.getD k 0).testBit q = true → L q = true := by
  intro k
  induction k using Nat.strongRecOn with
  | _ k ih =>
    intro o ho he q hq
    obtain ⟨e, h1, h2⟩ := hd.prs k o ho q hq
    rcases h2 with rfl | h2
    · exact he _ h1
    · have hlt := hd.edge k o ho e h1
      have hk := (Array.getElem?_eq_some_iff.1 ho).1
      have ho' : ops[e]? = some ops[e] := Array.getElem?_eq_getElem (by omega)
      exact ih e hlt _ ho' (hcl e _ ho' (he e h1)) q h2
theorem tms_ods {D : Nat → Prop} {i : Ins} (h : ∀ t, t ∈ i.tms → ¬ D t) (hb : ∀ x, x ∈ i.op.ods → odB x = true) : ∀ x, x ∈ i.op.ods → OdOk D x := by
  intro x hx
  refine odOk_of (hb x hx) fun t ht => h t ?_
  simp only [Ins.tms, List.mem_append, List.mem_filterMap]
  exact .inl ⟨x, hx, by simpa using ht⟩
theorem ready_any (hd : DOk pre cls ops is) {listed : Array Bool} (hs : listed.size = ops.size) : ∀ k, k < ops.size → listed.getD k true = false → ∃ j, j ∈ Region.ready .any ops listed := by
  intro k
  induction k using Nat.strongRecOn with
  | _ k ih =>
    intro hk hl
    have ho : ops[k]? = some ops[k] := Array.getElem?_eq_getElem hk
    by_cases hall : ∀ e, e ∈ edges ops[k] → listed.getD e true = true
    · refine ⟨k, mem_ready.2 ⟨hl, ops[k], ho, fun e he hb => ?_⟩⟩
      have hm : e.on ∈ edges ops[k] := List.mem_map.2 ⟨e, List.mem_filter.2 ⟨by simpa using he, hb⟩, rfl⟩
      have hlt := hd.edge k _ ho _ hm
      have := hall _ hm
      rw [Array.getD_eq_getD_getElem?] at this ⊢
      have hh : e.on < listed.size := by omega
      rw [Array.getElem?_eq_getElem hh] at this ⊢
      exact this
    · simp only [Classical.not_forall] at hall
      obtain ⟨e, he, hne⟩ := hall
      have hlt := hd.edge k _ ho e he
      exact ih e hlt (by omega) (by simpa using hne)
theorem getD_set {listed : Array Bool} {i j : Nat} (hi : i < listed.size) : (listed.setIfInBounds i true).getD j true = (decide (j = i) || listed.getD j true) := by
  by_cases h : i = j
  · subst h
    simp [Array.getD_eq_getD_getElem?, hi]
  · rw [getD_set_ne true h]
    have : decide (j = i) = false := by simpa using fun e => h e.symm
    rw [this]; rfl
theorem inv_step (hd : DOk pre cls ops is) (hok : fc.Ok gl) (hC : Kn.Ok P gl C) (hlen : is.length = ops.size)
    (hcomp : ∀ k o, ops[k]? = some o → compIns P gl fc.pers fc.n true ops.toList o = some (insAt is k))
    {listed : Array Bool} (hs : listed.size = ops.size) {a : Act} {w : World} (hI : Inv fc gl K C ops is pre cls (fun j => listed.getD j true) a w) {i : Nat} (hi : i ∈ Region.ready .any ops listed) :
    wpOp P ops Q i (fun a' w' => Inv fc gl K C ops is pre cls (fun j => (listed.setIfInBounds i true).getD j true) a' w') a w := by
  obtain ⟨hun, o, ho, hed⟩ := mem_ready.1 hi
  have hin : i < ops.size := (Array.getElem?_eq_some_iff.1 ho).1
  have hil : i < listed.size := by omega
  have hed' : ∀ e, e ∈ edges o → listed.getD e true = true := by
    intro e he
    obtain ⟨ed, h1, rfl⟩ := List.mem_map.1 he
    obtain ⟨h1, h2⟩ := List.mem_filter.1 h1
    have := hed ed (by simpa using h1) h2
    have hlt := hd.edge i o ho ed.on he
    rw [Array.getD_eq_getD_getElem?] at this ⊢
    have hh : ed.on < listed.size := by omega
    rw [Array.getElem?_eq_getElem hh] at this ⊢
    exact this
  have hprs := pre_listed hd hI.closed i o ho hed'
  obtain ⟨S, s, g, rest, k, hSR, hSim, hrest, hpw, hmem, hPV⟩ := hI.st
  have hL : ∀ j, (listed.setIfInBounds i true).getD j true = (decide (j = i) || listed.getD j true) := fun j => getD_set hil
  have hcl' : ∀ k o, ops[k]? = some o → (listed.setIfInBounds i true).getD k true = true → ∀ e, e ∈ edges o → (listed.setIfInBounds i true).getD e true = true := by
    intro k o' ho' hk e he
    rw [hL] at hk ⊢
    simp only [Bool.or_eq_true, decide_eq_true_eq] at hk ⊢
    rcases hk with rfl | hk
    · rw [ho] at ho'; injection ho' with ho'; subst ho'; exact .inr (hed' e he)
    · exact .inr (hI.closed k o' ho' hk e he)
  have hdn : ∀ p, p < ops.size → cls.getD p false = true → fc.pers (insAt is p).d = false ∧ ∃ d, (insAt is p).dst = some (d, false) := by
    intro p hp hc
    obtain ⟨h1, d, h2⟩ := hd.pur p hp hc
    obtain ⟨q1, q2, q3⟩ := compIns_spec (hcomp p ops[p] (Array.getElem?_eq_getElem hp))
    obtain ⟨h4, h5⟩ := dstC_spec rfl q2
    refine ⟨?_, d, h2⟩
    have := (h4 d false h2).2
    simp only [Ins.d, h2]
    exact this.symm
  have hDnp : ∀ t, Dn is cls ops.size (fun j => listed.getD j true) t → fc.pers t = false := by
    rintro t ⟨p, h1, h2, h3, rfl⟩; exact (hdn p h1 h2).1
  have hDnt : ∀ t, t ∈ (insAt is i).tms → ¬ Dn is cls ops.size (fun j => listed.getD j true) t := by
    rintro t ht ⟨p, h1, h2, h3, rfl⟩
    have := hprs p (hd.dep i p hin h1 h2 ht)
    simp only at h3
    rw [h3] at this; cases this
  have hunL : listed.getD i true = false := hun
  by_cases hcls : cls.getD i false = true
  · -- an operation that looks
    obtain ⟨hpu, d, hdst⟩ := hd.pur i hin hcls
    obtain ⟨S1, D1, hs1, ht1, hp1, hpv⟩ := hPV i hin hcls hunL
    have hsim := hs1.trans hSim
    have hclr := hSR.clr (D := fun t => D1 t ∨ Dn is cls ops.size (fun j => listed.getD j true) t) (fun t ht => ht.elim (hp1 t) (hDnp t))
    have htm : ∀ t, t ∈ (insAt is i).tms → ¬ (D1 t ∨ Dn is cls ops.size (fun j => listed.getD j true) t) := fun t ht => fun h => h.elim (ht1 t ht) (hDnt t ht)
    have hpv' : pvG C (insAt is i) s (S.env (insAt is i).d) := pvG_sim hsim hpu (fun x hx => hclr.clear (tms_ods htm (hd.ods i hin) x hx)) htm hpv
    have hv : vcG C (insAt is i) s fun s' => s' = s.set d (S.env d) := by
      refine (vcG_pvG hpu).2 ⟨_, hpv', ?_⟩
      simp only [hdst, fin, St.put, Ins.d]; simp
    refine wpOp_mono ?_ (ins_sound hSR hok ho rfl (hcomp i o ho) hC hv)
    rintro a' w' ⟨s', g', hSR', rfl⟩
    refine ⟨hcl', S, _, g', rest, k, hSR', ?_, hrest, hpw, fun c => ?_, fun p hp hc hl => ?_⟩
    · refine ⟨hSim.bx, fun t ht => ?_⟩
      by_cases e : t = d
      · subst e; simp [St.set, upd]
      · simp only [St.set, upd, if_neg e]
        refine hSim.env t fun hq => ht ?_
        obtain ⟨p, h1, h2, h3, h4⟩ := hq
        refine ⟨p, h1, h2, ?_, h4⟩
        simp only at h3 ⊢
        rw [hL, h3]
        have : p ≠ i := by rintro rfl; apply e; rw [← h4]; simp [Ins.d, hdst]
        simp [this]
    · rw [hmem c]
      try simp only
      rw [hL]
      constructor
      · rintro ⟨h1, h2, h3⟩
        refine ⟨h1, h2, ?_⟩
        have : c ≠ i := by rintro rfl; rw [h2] at hcls; cases hcls
        simp [this]; simpa using h3
      · rintro ⟨h1, h2, h3⟩
        simp only [Bool.or_eq_false_iff] at h3
        exact ⟨h1, h2, h3.2⟩
    · try simp only at hl
      rw [hL] at hl
      simp only [Bool.or_eq_false_iff] at hl
      exact hPV p hp hc hl.2
  · -- an operation of the chain
    have hcls' : cls.getD i false = false := by simpa using hcls
    have hir : i ∈ rest := (hmem i).2 ⟨hin, hcls', hunL⟩
    have hmay : mayC pre rest i = true := by
      rw [mayC, List.all_eq_true]
      intro q hq
      obtain ⟨q1, q2, q3⟩ := (hmem q).1 hq
      cases hb : (pre.getD i 0).testBit q with
      | false => rfl
      | true => have := hprs q hb; rw [q3] at this; cases this
    obtain ⟨k', hk', hrest⟩ := tree_step hrest hpw.2 hir hmay
    have hclr := hSR.clr (D := Dn is cls ops.size (fun j => listed.getD j true)) hDnp
    have hdd : ∀ d pd, (insAt is i).dst = some (d, pd) → ¬ Dn is cls ops.size (fun j => listed.getD j true) d := by
      rintro d pd hdst ⟨p, h1, h2, h3, h4⟩
      refine hd.uniq i p hin h1 h2 ?_ d pd hdst h4.symm
      rintro rfl; rw [h2] at hcls'; cases hcls'
    have hv := vcG_sim hSim hclr hdd (tms_ods hDnt (hd.ods i hin)) hDnt hrest
    refine wpOp_mono ?_ (ins_sound hSR hok ho rfl (hcomp i o ho) hC hv)
    rintro a' w' ⟨s', g', hSR', S', ⟨hre, hcs⟩, hSim'⟩
    refine ⟨hcl', S', s', g', rest.erase i, k', hSR', hSim'.mono ?_, hcs, ⟨hpw.1.erase i, hk'⟩, fun c' => ?_, fun p hp hc hl => ?_⟩
    · rintro t ⟨p, h1, h2, h3, h4⟩
      refine ⟨p, h1, h2, ?_, h4⟩
      simp only at h3 ⊢
      rw [hL, h3]
      have : p ≠ i := by rintro rfl; rw [h2] at hcls'; cases hcls'
      simp [this]
    · rw [hpw.1.mem_erase_iff, hmem c']
      try simp only
      rw [hL]
      simp only [Bool.or_eq_false_iff, decide_eq_false_iff_not]
      constructor
      · rintro ⟨h0, q1, q2, q3⟩; exact ⟨q1, q2, h0, q3⟩
      · rintro ⟨q1, q2, q3, q4⟩; exact ⟨q3, q1, q2, q4⟩
    · try simp only at hl
      rw [hL] at hl
      simp only [Bool.or_eq_false_iff] at hl
      have hnb : (pre.getD i 0).testBit p = false := by
        cases hb : (pre.getD i 0).testBit p with
        | false => rfl
        | true => have := hprs p hb; rw [hl.2] at this; cases this
      have hin' : insAt is p ∈ (reOf pre cls ops.size rest i).map (insAt is) := by
        refine List.mem_map.2 ⟨p, ?_, rfl⟩
        simp only [reOf, lookOf, List.mem_filter, List.mem_range, hnb, Bool.not_false, Bool.true_and, List.all_eq_true, Bool.or_eq_true, Bool.not_eq_true']
        refine ⟨⟨hp, hc⟩, fun q hq => ?_⟩
        simp only [chainOf, List.mem_filter, List.mem_range, Bool.not_eq_true'] at hq
        by_cases hqr : q ∈ rest
        · exact .inl (by simpa using hqr)
        · refine .inr ?_
          cases hb : (pre.getD q 0).testBit p with
          | false => rfl
          | true =>
            have hLq : listed.getD q true = true := by
              cases hLq : listed.getD q true with
              | true => rfl
              | false => exact absurd ((hmem q).2 ⟨hq.1, hq.2, hLq⟩) hqr
            have hoq : ops[q]? = some ops[q] := Array.getElem?_eq_getElem hq.1
            have := pre_listed hd hI.closed q _ hoq (hI.closed q _ hoq hLq) p hb
            rw [hl.2] at this; cases this
      obtain ⟨z, h1, h2⟩ := (vcG_pvG (hd.pur p hp hc).1).1 (vcRe_mem hre _ hin')
      obtain ⟨_, d, hdst⟩ := hd.pur p hp hc
      simp only [hdst, fin, St.put, Ins.d] at h2
      simp only [Bool.false_eq_true, if_false, St.set, upd, if_true] at h2
      refine ⟨S', fun _ => False, Sim.refl, fun _ _ h => h, fun _ h => h.elim, ?_⟩
      rw [h2] at h1
      simpa only [Ins.d, hdst] using h1
theorem draw_any (hd : DOk pre cls ops is) (hok : fc.Ok gl) (hC : Kn.Ok P gl C) (hlen : is.length = ops.size)
    (hcomp : ∀ k o, ops[k]? = some o → compIns P gl fc.pers fc.n true ops.toList o = some (insAt is k)) (hQ : ∀ a w, After fc K a w → Q .normal a w) :
    ∀ (fuel : Nat) (listed : Array Bool) (a : Act) (w : World), listed.size = ops.size → ((List.range ops.size).filter fun j => !listed.getD j true).length ≤ fuel →
      Inv fc gl K C ops is pre cls (fun j => listed.getD j true) a w → wpAny P .any ops Q fuel listed a w := by
  have done : ∀ (listed : Array Bool) (a : Act) (w : World), listed.size = ops.size → Inv fc gl K C ops is pre cls (fun j => listed.getD j true) a w → Region.ready .any ops listed = [] → Q .normal a w := by
    intro listed a w hs hI hr
    have hall : ∀ k, k < ops.size → listed.getD k true = true := by
      intro k hk
      cases h : listed.getD k true with
      | true => rfl
      | false => obtain ⟨j, hj⟩ := ready_any hd hs k hk h; rw [hr] at hj; exact (List.not_mem_nil hj).elim
    obtain ⟨S, s, g, rest, k, hSR, hSim, hrest, hpw, hmem, hPV⟩ := hI.st
    have hnil : rest = [] := by
      cases rest with
      | nil => rfl
      | cons c cs => obtain ⟨q1, q2, q3⟩ := (hmem c).1 (List.mem_cons_self ..); rw [hall c q1] at q3; cases q3
    subst hnil
    have hSs : S = s := by
      have h1 := hSim.bx
      have h2 : S.env = s.env := funext fun t => hSim.env t (by rintro ⟨p, q1, q2, q3, q4⟩; simp only at q3; rw [hall p q1] at q3; cases q3)
      cases S; cases s; simp_all
    subst hSs
    exact hQ a w ⟨S, g, hSR, tree_nil hrest⟩
  intro fuel
  induction fuel with
  | zero =>
    intro listed a w hs hf hI
    have hnil : Region.ready .any ops listed = [] := by
      cases hr : Region.ready .any ops listed with
      | nil => rfl
      | cons j js =>
        have hj : j ∈ Region.ready .any ops listed := by rw [hr]; exact List.mem_cons_self ..
        obtain ⟨h1, o, ho, _⟩ := mem_ready.1 hj
        have hjn : j < ops.size := (Array.getElem?_eq_some_iff.1 ho).1
        have : j ∈ (List.range ops.size).filter fun j => !listed.getD j true := by simp only [List.mem_filter, List.mem_range, h1]; exact ⟨hjn, rfl⟩
        have hne := List.length_pos_of_mem this
        omega
    exact ⟨hnil, done listed a w hs hI hnil⟩
  | succ fuel ih =>
    intro listed a w hs hf hI
    refine ⟨done listed a w hs hI, fun i hi => ?_⟩
    refine wpOp_mono (fun a' w' hI' => ih _ a' w' (by simp [hs]) ?_ hI') (inv_step hd hok hC hlen hcomp hs hI hi)
    obtain ⟨h1, o, ho, _⟩ := mem_ready.1 hi
    have hin : i < ops.size := (Array.getElem?_eq_some_iff.1 ho).1
    have hil : i < listed.size := by omega
    have e : ((List.range ops.size).filter fun j => !(listed.setIfInBounds i true).getD j true) = (((List.range ops.size).filter fun j => !listed.getD j true).filter fun j => !decide (j = i)) := by
      rw [List.filter_filter]
      congr 1
      funext j
      rw [getD_set hil]
      simp
    rw [e]
    have hlt : ((((List.range ops.size).filter fun j => !listed.getD j true)).filter fun j => !decide (j = i)).length < ((List.range ops.size).filter fun j => !listed.getD j true).length := by
      rw [List.length_filter_lt_length_iff_exists]
      exact ⟨i, by simp only [List.mem_filter, List.mem_range, h1]; exact ⟨hin, rfl⟩, by simp⟩
    omega
end
end Go.Ev
namespace Go.Ev
set_option linter.unusedVariables false
section
variable {P : Program} {fc : Fc} {gl : Tabs} {Q : Exit → Act → World → Prop} {K : St → Prop} {C : Kn} {ops : Array Oper} {is : List Ins} {pre : List Nat} {cls : List Bool}
theorem pre_lt (hd : DOk pre cls ops is) : ∀ k, k < ops.size → ∀ q, (pre.getD k 0).testBit q = true → q < k := by
  intro k
  induction k using Nat.strongRecOn with
  | _ k ih =>
    intro hk q hq
    have ho : ops[k]? = some ops[k] := Array.getElem?_eq_getElem hk
    obtain ⟨e, h1, h2⟩ := hd.prs k _ ho q hq
    have hlt := hd.edge k _ ho e h1
    rcases h2 with rfl | h2
    · exact hlt
    · have := ih e hlt (by omega) q h2; omega
theorem look_run (hd : DOk pre cls ops is) (pers : Nat → Bool) (hp : ∀ p, p < ops.size → cls.getD p false = true → pers (insAt is p).d = false) :
    ∀ (l : List Nat) (s : St), (∀ p, p ∈ l → p < ops.size ∧ cls.getD p false = true) → l.Pairwise (· < ·) → vcs C (l.map (insAt is)) s K →
      ∃ S, K S ∧ Sim (fun t => ∃ p, p ∈ l ∧ (insAt is p).d = t) s S ∧ ∀ p, p ∈ l → PV pers C (insAt is p) S := by
  intro l
  induction l with
  | nil => intro s _ _ hv; exact ⟨s, hv, Sim.refl, fun p hp => (List.not_mem_nil hp).elim⟩
  | cons p l ih =>
    intro s hl hpw hv
    obtain ⟨hpn, hpc⟩ := hl p (List.mem_cons_self ..)
    obtain ⟨hpu, d, hdst⟩ := hd.pur p hpn hpc
    simp only [List.map_cons, vcs] at hv
    obtain ⟨z, hz, hv⟩ := (vcG_pvG hpu).1 hv
    have hfin : fin (insAt is p).dst s z = s.set d z := by simp only [hdst, fin, St.put]; simp
    rw [hfin] at hv
    obtain ⟨S, hK, hS, hPV⟩ := ih (s.set d z) (fun q hq => hl q (List.mem_cons_of_mem _ hq)) (List.pairwise_cons.1 hpw).2 hv
    have hdd : (insAt is p).d = d := by simp [Ins.d, hdst]
    have hsim : Sim (fun t => ∃ q, q ∈ p :: l ∧ (insAt is q).d = t) s S := by
      refine ⟨hS.bx, fun t ht => ?_⟩
      have h1 : t ≠ d := fun e => ht ⟨p, List.mem_cons_self .., by rw [hdd, e]⟩
      have h2 := hS.env t fun ⟨q, hq, e⟩ => ht ⟨q, List.mem_cons_of_mem _ hq, e⟩
      rw [← h2]; simp [St.set, upd, h1]
    refine ⟨S, hK, hsim, fun q hq => ?_⟩
    rcases List.mem_cons.1 hq with rfl | hq
    · refine ⟨s, _, hsim, ?_, ?_, ?_⟩
      · rintro t ht ⟨q', hq', e⟩
        obtain ⟨h1, h2⟩ := hl q' hq'
        have hb := hd.dep q q' hpn h1 h2 (by rw [e]; exact ht)
        have hlt := pre_lt hd q hpn q' hb
        rcases List.mem_cons.1 hq' with rfl | hq'
        · omega
        · have := (List.pairwise_cons.1 hpw).1 q' hq'; omega
      · rintro t ⟨q', hq', rfl⟩
        obtain ⟨h1, h2⟩ := hl q' hq'
        exact hp q' h1 h2
      · have : S.env (insAt is q).d = z := by
          rw [hdd, ← hS.env d]
          · simp [St.set, upd]
          · rintro ⟨q', hq', e⟩
            obtain ⟨h1, h2⟩ := hl q' (List.mem_cons_of_mem _ hq')
            refine hd.uniq q q' hpn h1 h2 ?_ d false hdst e.symm
            rintro rfl; have := (List.pairwise_cons.1 hpw).1 q' hq'; omega
        rw [this]; exact hz
    · exact hPV q hq
theorem getD_rep {n j : Nat} : (Array.replicate n false).getD j true = decide (¬ j < n) := by
  by_cases h : j < n <;> simp [Array.getD_eq_getD_getElem?, h]
theorem region_draw {s : St} {a : Act} {w : World} {g : Gh} (h : SR fc s a w g) (hok : fc.Ok gl) (hm : P.follows .mixedOrders = true) {n id : Nat} (hn : n = fc.n)
    (hC : Kn.Ok P gl C) (hQ : ∀ a w, After fc K a w → Q .normal a w)
    {r : AR} (hc : compR P gl fc.pers n ops.toList true = some r) (hv : vcR C r s K) : (Code.region id ops true).wp P Q a w := by
  subst hn
  unfold compR at hc
  split at hc
  · cases hc
  · rename_i is hcs
    simp only [if_true] at hc
    split at hc
    · rename_i hchk
      split at hc
      rotate_left
      · cases hc
      injection hc with hc; subst hc
      have hd := dChk_ok (ops := ops) hchk
      obtain ⟨hlen, hget⟩ := compInss_get hcs
      have hlen' : is.length = ops.size := by simpa using hlen
      generalize hpre : preOf ops.toList = pre at *
      generalize hcls : clsOf pre is = cls at *
      have hcomp : ∀ k o, ops[k]? = some o → compIns P gl fc.pers fc.n true ops.toList o = some (insAt is k) := by
        intro k o ho
        obtain ⟨i, h1, h2⟩ := hget k o (by simpa using ho)
        rw [show insAt is k = i from by simp [insAt, List.getD_eq_getElem?_getD, h1]]
        exact h2
      have hpers : ∀ p, p < ops.size → cls.getD p false = true → fc.pers (insAt is p).d = false := by
        intro p hp hc
        obtain ⟨h1, d, h2⟩ := hd.pur p hp hc
        obtain ⟨q1, q2, q3⟩ := compIns_spec (hcomp p ops[p] (Array.getElem?_eq_getElem hp))
        obtain ⟨h4, h5⟩ := dstC_spec rfl q2
        have := (h4 d false h2).2
        simp only [Ins.d, h2]
        exact this.symm
      simp only [vcR, Array.length_toList] at hv
      have hlk : ∀ p, p ∈ lookOf cls ops.size ↔ p < ops.size ∧ cls.getD p false = true := by
        intro p; simp [lookOf, List.mem_filter]
      have hpwr : (List.range ops.size).Pairwise (· < ·) := List.pairwise_lt_range
      obtain ⟨S, hK, hS, hPV⟩ := look_run hd fc.pers hpers (lookOf cls ops.size) s (fun p hp => (hlk p).1 hp) (hpwr.filter _) hv
      have h' : SR fc s a { w with drawn := w.drawn + 1 } g := h.heap rfl rfl rfl rfl
      refine wp_region_any hm (draw_any hd hok hC hlen' hcomp hQ ops.size _ a _ (by simp) (Nat.le_trans (List.length_filter_le ..) (by simp)) ⟨?_, S, s, g, _, _, h', ?_, hK, ⟨(hpwr.filter _).imp (fun h => Nat.ne_of_lt h), Nat.le_refl _⟩, ?_, ?_⟩)
      · intro k o ho hk
        have hlt := (Array.getElem?_eq_some_iff.1 ho).1
        rw [getD_rep] at hk
        simp [hlt] at hk
      · refine ⟨hS.bx.symm, fun t ht => (hS.env t ?_).symm⟩
        rintro ⟨p, hp, e⟩
        obtain ⟨h1, h2⟩ := (hlk p).1 hp
        exact ht ⟨p, h1, h2, by simp only [getD_rep]; simp [h1], e⟩
      · intro c
        simp only [getD_rep, chainOf, List.mem_filter, List.mem_range]
        constructor
        · rintro ⟨h1, h2⟩; exact ⟨h1, by simpa using h2, by simp [h1]⟩
        · rintro ⟨h1, h2, _⟩; exact ⟨h1, by rw [h2]; rfl⟩
      · intro p hp hc _
        exact hPV p ((hlk p).2 ⟨hp, hc⟩)
    · cases hc
theorem region_sound {s : St} {a : Act} {w : World} {g : Gh} (h : SR fc s a w g) (hok : fc.Ok gl) (hm : P.follows .mixedOrders = true) {n id : Nat} (hn : n = fc.n)
    (hC : Kn.Ok P gl C) (hQ : ∀ a w, After fc K a w → Q .normal a w)
    {draw : Bool} {r : AR} (hc : compR P gl fc.pers n ops.toList draw = some r) (hv : vcR C r s K) : (Code.region id ops draw).wp P Q a w := by
  cases draw with
  | true => exact region_draw h hok hm hn hC hQ hc hv
  | false =>
    unfold compR at hc
    split at hc
    · cases hc
    · rename_i is hcs
      simp only [Bool.false_eq_true, if_false, Option.some.injEq] at hc
      subst hc
      exact region_seq h hok hn hC hQ hcs hv
end
end Go.Ev
namespace Go.Ev
set_option linter.unusedVariables false
section
variable {C : Kn} {K K' : St → Prop} {s : St}
theorem coreG_mono {f : FuncId} {pas : List PA} {dst : Option (Nat × Bool)} (hK : ∀ s, K s → K' s) (h : coreG C f pas s dst K) : coreG C f pas s dst K' := by
  obtain ⟨h1, h⟩ := h
  refine ⟨h1, ?_⟩
  split at h
  · obtain ⟨res, bxs', q1, q2, q3⟩ := h
    exact ⟨res, bxs', q1, q2, hK _ q3⟩
  · exact h
theorem vc_mono {dst : Option (Nat × Bool)} {op : AOp} (hK : ∀ s, K s → K' s) (h : vc C dst op s K) : vc C dst op s K' := by
  cases op
  case callG f args =>
    simp only [vc] at h ⊢
    split at h
    · rename_i ys s1 hg
      split at h
      · rename_i pas hpas
        exact coreG_mono hK h
      · exact h
    · exact h
  case callV x args =>
    simp only [vc] at h ⊢
    split at h
    · obtain ⟨q0, res, q1, q2⟩ := h
      exact ⟨q0, res, q1, hK _ q2⟩
    · obtain ⟨q0, h⟩ := h
      refine ⟨q0, ?_⟩
      split at h
      · exact coreG_mono hK h
      · exact h
    · exact h
  all_goals simp only [vc] at h ⊢
  all_goals (repeat' split) <;> grind
theorem vcG_mono {i : Ins} (hK : ∀ s, K s → K' s) (h : vcG C i s K) : vcG C i s K' := by
  unfold vcG at h ⊢
  cases hg : i.grd with
  | none => rw [hg] at h; exact vc_mono hK h
  | some p =>
    obtain ⟨t, want⟩ := p
    rw [hg] at h
    simp only at h ⊢
    cases he : s.env t with
    | lit v =>
      rw [he] at h
      cases v with
      | bool b => exact ⟨fun e => vc_mono hK (h.1 e), fun e => hK _ (h.2 e)⟩
      | tuple _ => exact hK _ h
      | _ => exact h
    | _ => rw [he] at h; exact h
theorem vcs_mono {is : List Ins} (hK : ∀ s, K s → K' s) : ∀ {s : St}, vcs C is s K → vcs C is s K' := by
  induction is with
  | nil => intro s h; exact hK s h
  | cons i is ih => intro s h; exact vcG_mono (fun s' h' => ih h') h
theorem vcT_mono {l : CT} (hK : ∀ s, K s → K' s) : ∀ {s : St}, vcT C l s K → vcT C l s K' := by
  induction l with
  | done => intro s h; exact hK s h
  | no => intro s h; trivial
  | alt i re t r iht ihr => intro s h; exact ⟨vcG_mono (fun s' h' => ⟨h'.1, iht h'.2⟩) h.1, ihr h.2⟩
theorem vcR_mono {r : AR} (hK : ∀ s, K s → K' s) (h : vcR C r s K) : vcR C r s K' := by
  cases r with
  | seq is => exact vcs_mono hK h
  | draw look chain => exact vcs_mono (fun s' h' => vcT_mono hK h') h
end
theorem lk_map {α : Type} (d : α) (f : Nat → α) (t : Nat) : ∀ l : List Nat, lk d (l.map fun t => (t, f t)) t = if t ∈ l then f t else d := by
  intro l
  induction l with
  | nil => simp [lk]
  | cons k l ih =>
    simp only [List.map_cons, lk, ih, List.mem_cons]
    by_cases h : t = k
    · subst h; simp
    · simp [h]
def viaNot (bl : List Nat) (_ : Bool) (r : Ref) : Bool := match r.root with | .box n _ => !bl.contains n | _ => false
def St.only (s : St) (pl bl : List Nat) : St :=
  { env := lk .junk (pl.map fun t => (t, Ev.kl (viaNot bl) false (s.env t))), bx := lk none (bl.map fun n => (n, (s.bx n).map (klL (viaNot bl) false))) }
theorem SR.only {fc : Fc} {s : St} {a : Act} {w : World} {g : Gh} (h : SR fc s a w g) (pl bl : List Nat) : ∃ g', SR fc (s.only pl bl) a w g' := by
  let ba' : Nat → Option Addr := fun n => if n ∈ bl then g.ba n else none
  let F' : Pos → List Nat := fun p => match p with | .slot t => if t ∈ pl then g.F (.slot t) else [] | .box n => if n ∈ bl then g.F (.box n) else []
  let g' : Gh := { bd := g.bd, ba := ba', F := F' }
  have hF : ∀ p b, b ∈ F' p → b ∈ g.F p := by
    intro p b hb
    cases p with
    | slot t => simp only [F'] at hb; split at hb; exact hb; exact (List.not_mem_nil hb).elim
    | box t => simp only [F'] at hb; split at hb; exact hb; exact (List.not_mem_nil hb).elim
  have henv : ∀ t, (s.only pl bl).env t = if t ∈ pl then Ev.kl (viaNot bl) false (s.env t) else .junk := fun t => lk_map _ _ t pl
  have hbx : ∀ n, (s.only pl bl).bx n = if n ∈ bl then (s.bx n).map (klL (viaNot bl) false) else none := fun n => lk_map _ _ n bl
  have hbxs : ∀ n cs, (s.only pl bl).bx n = some cs → n ∈ bl ∧ ∃ cs', s.bx n = some cs' ∧ cs = klL (viaNot bl) false cs' := by
    intro n cs hn
    rw [hbx] at hn
    split at hn
    · rename_i hb
      simp only [Option.map_eq_some_iff] at hn
      obtain ⟨cs', h1, rfl⟩ := hn
      exact ⟨hb, cs', h1, rfl⟩
    · cases hn
  have hbxc : ∀ b i, bxcOf (s.only pl bl).bx ba' b i → bxcOf s.bx g.ba b i := by
    rintro b i ⟨n, cs, ad, h1, h2, h3, h4, h5⟩
    obtain ⟨hb, cs', h6, rfl⟩ := hbxs n cs h1
    refine ⟨n, cs', ad, h6, ?_, h3, h4, by simpa [klL_eq] using h5⟩
    simp only [ba', hb, if_true] at h2; exact h2
  have hres : ∀ r x, viaNot bl false r = false → resOf fc.pers (tmOf a) g.ba w r = some x → resOf fc.pers (tmOf a) ba' w r = some x := by
    rintro ⟨root, path⟩ x hp hx
    cases root with
    | slot t => exact hx
    | box n k =>
      have hb : n ∈ bl := by simpa [viaNot] using hp
      cases path <;> simpa [resOf, ba', hb] using hx
  have hk : (cx fc s a w g).KeepsK (cx fc (s.only pl bl) a w g') (viaNot bl) false (fun _ => True) := by
    refine ⟨hres, ?_, fun b i v h1 h2 => ⟨h1, h2⟩, fun _ b i v h1 h2 => ⟨⟨h1.1, fun hh => h1.2.1 (hbxc b i hh), h1.2.2⟩, h2⟩, fun b _ => ⟨rfl, rfl, fun i h => h⟩⟩
    rintro ⟨root, path⟩ v hp hv hcv hsl
    have key : ∀ r : Ref, viaNot bl false r = false → (resOf fc.pers (tmOf a) g.ba w r).bind w.cell? = some v → (resOf fc.pers (tmOf a) ba' w r).bind w.cell? = some v := by
      intro r hp hr
      simp only [Option.bind_eq_some_iff] at hr ⊢
      obtain ⟨ad, h1, h2⟩ := hr
      exact ⟨ad, hres _ _ hp h1, h2⟩
    cases root with
    | slot t => cases path with
      | nil => exact hv
      | cons c p => exact key _ (by simp [viaNot]) hv
    | box n k => exact key _ (by simpa [viaNot] using hp) hv
  refine ⟨g', fun t => ?_, fun n cs hn => ?_, fun n hn => ?_, fun p q hpq b hb hb' => h.disj p q hpq b (hF p b hb) (hF q b hb'), fun n cs ad hn ha p hb => ?_, fun n m cs cs' ad ad' hnm hn hm ha ha' => ?_, fun b i hz hx => h.zfb b i hz (hbxc b i hx), h.zfo, fun p b hb => h.touchF p b (hF p b hb), fun b i hx => h.touchB b i (hbxc b i hx), h.keep, h.defers, h.size, fun n hn => ?_, h.zfd, h.bdo, fun n h1 h2 => ?_⟩
  · rw [henv]
    simp only [g', F']
    split
    · exact (h.slots t).kl hk (fun _ _ => trivial)
    · exact .junk _ _
  · obtain ⟨hb, cs', h1, rfl⟩ := hbxs n cs hn
    obtain ⟨ad, vs, h2, h3, h4⟩ := h.boxes n cs' h1
    refine ⟨ad, vs, by simp only [g', ba', hb, if_true]; exact h2, h3, ?_⟩
    simp only [g', F', hb, if_true]
    exact h4.kl hk (fun _ _ => trivial)
  · simp only [g', F']
    split
    · rename_i hb
      rw [hbx, if_pos hb] at hn
      exact h.nobox n (by simpa using hn)
    · rfl
  · obtain ⟨hb', cs', h1, rfl⟩ := hbxs n cs hn
    simp only [g', ba', hb', if_true] at ha
    exact h.sep n cs' ad h1 ha p (hF p _ hb)
  · obtain ⟨hb1, c1, h1, rfl⟩ := hbxs n cs hn
    obtain ⟨hb2, c2, h2, rfl⟩ := hbxs m cs' hm
    simp only [g', ba', hb1, hb2, if_true] at ha ha'
    have := h.apart n m c1 c2 ad ad' hnm h1 h2 ha ha'
    simpa [klL_eq] using this
  · simp only [g', ba']
    split
    · rename_i hb
      rw [hbx, if_pos hb] at hn
      exact h.nob n (by simpa using hn)
    · rfl
  · rw [hbx] at h2
    by_cases hb : n ∈ bl
    · rw [if_pos hb] at h2
      simp only [g', ba', hb, if_true]
      exact h.hbo n h1 (by simpa using h2)
    · rw [if_neg hb] at h2; exact absurd rfl h2
inductive Ex where
  | normal
  | exit (id : Nat)
  | ret
  deriving DecidableEq
inductive AC where
  | skip
  | reg (r : AR)
  | seq (x : AC) (pl bl : List Nat) (y : AC)
  | cond (c : Od) (x y : AC)
  | block (id : Nat) (c : AC)
  | loop (pl bl : List Nat) (c : AC)
  | exit (id : Nat)
  | ret
def vcC (C : Kn) : AC → (Ex → St → Prop) → St → Prop
  | .skip, K, s => K .normal s
  | .reg r, K, s => vcR C r s (K .normal)
  | .seq x pl bl y, K, s => vcC C x (fun e s' => match e with | .normal => vcC C y K (s'.only pl bl) | .exit id => K (.exit id) s' | .ret => K .ret s') s
  | .cond c x y, K, s => (match c.val s with | .lit (.bool b) => (b = true → vcC C x K s) ∧ (b = false → vcC C y K s) | _ => False)
  | .block id c, K, s => vcC C c (fun e s' => match e with | .normal => K .normal s' | .exit j => if j = id then K .normal s' else K (.exit j) s' | .ret => K .ret s') s
  | .loop pl bl c, K, s => ∀ R : St → Prop, (∀ s, vcC C c (fun e s' => match e with | .normal => R (s'.only pl bl) | .exit id => K (.exit id) s' | .ret => K .ret s') s → R s) → R (s.only pl bl)
  | .exit id, K, s => K (.exit id) s
  | .ret, K, s => K .ret s
theorem vcC_mono {C : Kn} : ∀ (c : AC) {K K' : Ex → St → Prop} {s : St}, (∀ e s, K e s → K' e s) → vcC C c K s → vcC C c K' s := by
  intro c
  induction c with
  | skip => intro K K' s hK h; exact hK _ _ h
  | reg r => intro K K' s hK h; exact vcR_mono (hK _) h
  | seq x pl bl y ihx ihy =>
    intro K K' s hK h
    refine ihx ?_ h
    intro e s' h'
    cases e with
    | normal => exact ihy hK h'
    | exit id => exact hK _ _ h'
    | ret => exact hK _ _ h'
  | cond c x y ihx ihy =>
    intro K K' s hK h
    simp only [vcC] at h ⊢
    split
    · rename_i b hb
      rw [hb] at h
      exact ⟨fun e => ihx hK (h.1 e), fun e => ihy hK (h.2 e)⟩
    · rename_i hb
      split at h
      · rename_i b hb'; exact absurd hb' (hb b)
      · exact h
  | block id c ih =>
    intro K K' s hK h
    refine ih ?_ h
    intro e s' h'
    cases e with
    | normal => exact hK _ _ h'
    | exit j => simp only at h' ⊢; split <;> rename_i hj <;> simp only [hj, if_true, if_false] at h' <;> exact hK _ _ h'
    | ret => exact hK _ _ h'
  | loop pl bl c ih =>
    intro K K' s hK h R hR
    refine h R fun s' h' => hR s' (ih ?_ h')
    intro e s'' h''
    cases e with
    | normal => exact h''
    | exit j => exact hK _ _ h''
    | ret => exact hK _ _ h''
  | exit id => intro K K' s hK h; exact hK _ _ h
  | ret => intro K K' s hK h; exact hK _ _ h
def vcL (C : Kn) (pl bl : List Nat) (c : AC) (K : Ex → St → Prop) (s : St) : Prop :=
  ∀ R : St → Prop, (∀ s, vcC C c (fun e s' => match e with | .normal => R (s'.only pl bl) | .exit id => K (.exit id) s' | .ret => K .ret s') s → R s) → R s
theorem vcL_round {C : Kn} {pl bl : List Nat} {c : AC} {K : Ex → St → Prop} {s : St}
    (h : vcC C c (fun e s' => match e with | .normal => vcL C pl bl c K (s'.only pl bl) | .exit id => K (.exit id) s' | .ret => K .ret s') s) : vcL C pl bl c K s := by
  intro R hR
  refine hR s (vcC_mono c ?_ h)
  intro e s' h'
  cases e with
  | normal => exact h' R hR
  | exit id => exact h'
  | ret => exact h'
end Go.Ev
namespace Go.Ev
set_option linter.unusedVariables false
def bitT (t : Nat) : Nat := 1 <<< t
def opnd : Operand → Nat
  | .tmp t => bitT t
  | _ => 0
def opndL (xs : List Operand) : Nat := xs.foldl (fun m x => m ||| opnd x) 0
def delT (m : Nat) : Option Tmp → Nat
  | some d => if m.testBit d then m ^^^ bitT d else m
  | none => m
def grdM (ops : List Oper) : Option (Nat × Bool) → Nat
  | some (j, _) => match (ops[j]?).bind (·.dst) with | some t => bitT t | none => 0
  | none => 0
def regLive (ops : List Oper) (out : Nat) : Nat := ops.foldr (fun o m => delT m o.dst ||| opndL o.op.operands.toList ||| grdM ops o.guard) out
def edgesOf (P : Program) (o : Oper) : List (Nat × Nat) :=
  match o.dst with
  | none => []
  | some d => match o.op with
    | .move _ | .assign _ | .indexAddr .. | .fieldAddr .. | .slice .. | .load .. | .pick .. | .extract .. | .nilCheck _ | .makeFunc .. | .index .. | .field .. =>
      (match P.underlying o.type with
      | some (.slice _) | some (.pointer _) | some (.func ..) => [(d, opndL o.op.operands.toList)]
      | _ => [])
    | _ => []
def regEdges (P : Program) (ops : List Oper) : List (Nat × Nat) := ops.foldl (fun acc o => edgesOf P o ++ acc) []
def codeEdges (P : Program) : Code → List (Nat × Nat)
  | .region _ ops _ => regEdges P ops.toList
  | .seq x y | .cond _ x y => codeEdges P y ++ codeEdges P x
  | .block _ c | .loop c | .scope c => codeEdges P c
  | _ => []
def closePass (es : List (Nat × Nat)) (m : Nat) : Nat := es.foldl (fun m e => if m.testBit e.1 then m ||| e.2 else m) m
def closeM (es : List (Nat × Nat)) (m : Nat) : Nat := closePass es (closePass es m)
def liveC : Code → Nat → List (Nat × Nat) → Nat → Nat
  | .skip, out, _, _ => out
  | .region _ ops _, out, _, _ => regLive ops.toList out
  | .seq x y, out, ex, rt => liveC x (liveC y out ex rt) ex rt
  | .cond c x y, out, ex, rt => opnd c ||| liveC x out ex rt ||| liveC y out ex rt
  | .block id c, out, ex, rt => liveC c out ((id, out) :: ex) rt
  | .loop c, _, ex, rt => liveC c (liveC c 0 ex rt) ex rt
  | .exit id, _, ex, _ => lk 0 ex id
  | .ret, _, _, rt => rt
  | .scope c, out, ex, rt => liveC c out ex rt
  | .label _, out, _, _ => out
  | _, _, _, _ => 0
def regBoxes (ops : List Oper) : Nat := ops.foldl (fun m o => match o.dst, o.op with | some d, .alloc _ | some d, .box _ _ => m ||| bitT d | _, _ => m) 0
def codeBoxes : Code → Nat
  | .region _ ops _ => regBoxes ops.toList
  | .seq x y | .cond _ x y => codeBoxes x ||| codeBoxes y
  | .block _ c | .loop c | .scope c => codeBoxes c
  | _ => 0
def bitsOf (n m : Nat) : List Nat := (List.range n).filter (m.testBit ·)
structure CF where
  n : Nat
  pm : Nat
  bm : Nat
  es : List (Nat × Nat)
  ab : List Nat
def CF.pers (c : CF) (t : Nat) : Bool := c.pm.testBit t
def CF.pl (c : CF) (m : Nat) : List Nat := bitsOf c.n ((closeM c.es m &&& c.pm) ||| m)
def CF.bl (c : CF) (m : Nat) : List Nat := bitsOf c.n (closeM c.es m &&& c.bm) ++ c.ab
def compC (P : Program) (gl : Tabs) (cf : CF) : Code → Nat → List (Nat × Nat) → Nat → Option AC
  | .skip, _, _, _ => some .skip
  | .region _ ops dr, _, _, _ => (compR P gl cf.pers cf.n ops.toList dr).map .reg
  | .seq x y, out, ex, rt => match compC P gl cf x (liveC y out ex rt) ex rt, compC P gl cf y out ex rt with
    | some x', some y' => some (.seq x' (cf.pl (liveC y out ex rt)) (cf.bl (liveC y out ex rt)) y')
    | _, _ => none
  | .cond c x y, out, ex, rt => match compOd P gl cf.pers none c, compC P gl cf x out ex rt, compC P gl cf y out ex rt with
    | some c', some x', some y' => some (.cond c' x' y')
    | _, _, _ => none
  | .block id c, out, ex, rt => (compC P gl cf c out ((id, out) :: ex) rt).map (.block id)
  | .loop c, out, ex, rt => (compC P gl cf c (liveC (.loop c) out ex rt) ex rt).map (.loop (cf.pl (liveC (.loop c) out ex rt)) (cf.bl (liveC (.loop c) out ex rt)))
  | .exit id, _, _, _ => some (.exit id)
  | .ret, _, _, _ => some .ret
  | .scope c, out, ex, rt => compC P gl cf c out ex rt
  | .label _, _, _, _ => some .skip
  | .goto _, _, _, _ => some (.cond (.cst undef .junk) .skip .skip)
  | _, _, _, _ => none
def LW (P : Program) (c : Code) (Q : Exit → Act → World → Prop) (a : Act) (w : World) : Prop :=
  ∀ (b : Frame) (k : List Item) (cs : List Frame), ∃ e a' w', Q e a' w' ∧ Arrives P (lone (b.at a (.code c :: .inLoop c :: k)) cs w) b k cs e a' w'
theorem LW.loop {P : Program} {c : Code} {Q : Exit → Act → World → Prop} {a : Act} {w : World} (h : LW P c Q a w) : (Code.loop c).wp P Q a w :=
  fun b k cs => let ⟨e, a', w', hq, harr⟩ := h b k cs; ⟨e, a', w', hq, .of_steps (.one step_loop) harr⟩
theorem LW.round {P : Program} {c : Code} {Q : Exit → Act → World → Prop} {a : Act} {w : World} (h : c.wp P (Exit.then (LW P c Q) Q) a w) : LW P c Q a w := by
  intro b k cs
  obtain ⟨e, a₁, w₁, hq, harr⟩ := h b (.inLoop c :: k) cs
  cases e with
  | normal =>
    obtain ⟨e₂, a₂, w₂, hq₂, harr₂⟩ := hq b k cs
    exact ⟨e₂, a₂, w₂, hq₂, .of_steps (Steps.trans harr (.one step_inLoop)) harr₂⟩
  | exit id => exact ⟨_, a₁, w₁, hq, .pass (x := .inLoop c) rfl (fun _ _ => .inl (by simp)) harr⟩
  | goto l => exact ⟨_, a₁, w₁, hq, .pass (x := .inLoop c) rfl (fun _ _ => .inl (by simp)) harr⟩
  | ret => exact ⟨_, a₁, w₁, hq, .pass (x := .inLoop c) rfl (fun _ _ => .inl (by simp)) harr⟩
  | panic ch => exact ⟨_, a₁, w₁, hq, .pass (x := .inLoop c) rfl (fun _ _ => .inl (by simp)) harr⟩
  | outgrown => exact ⟨_, a₁, w₁, hq, .pass (x := .inLoop c) rfl (fun _ _ => .inl (by simp)) harr⟩
def Ex.ex : Ex → Exit
  | .normal => .normal
  | .exit id => .exit id
  | .ret => .ret
def Aft (fc : Fc) (K : Ex → St → Prop) (Q : Exit → Act → World → Prop) : Prop := ∀ e s a w g, SR fc s a w g → K e s → Q e.ex a w
theorem compC_sound {P : Program} {gl : Tabs} {cf : CF} {fc : Fc} {C : Kn} (hok : fc.Ok gl) (hm : P.follows .mixedOrders = true) (hn : cf.n = fc.n) (hp : fc.pers = cf.pers)
    (hC : Kn.Ok P gl C) : ∀ (c : Code) (out : Nat) (ex : List (Nat × Nat)) (rt : Nat) (ac : AC), compC P gl cf c out ex rt = some ac →
      ∀ (K : Ex → St → Prop) (Q : Exit → Act → World → Prop) (s : St) (a : Act) (w : World) (g : Gh), SR fc s a w g → Aft fc K Q → vcC C ac K s → c.wp P Q a w := by
  intro c
  induction c with
  | skip =>
    intro out ex rt ac hc K Q s a w g h hQ hv
    simp only [compC, Option.some.injEq] at hc; subst hc
    exact wp_skip (hQ .normal s a w g h hv)
  | region id ops dr =>
    intro out ex rt ac hc K Q s a w g h hQ hv
    simp only [compC, Option.map_eq_some_iff] at hc
    obtain ⟨r, h1, rfl⟩ := hc
    rw [← hp] at h1
    exact region_sound h hok hm hn hC (fun a' w' ⟨s', g', h', hK⟩ => hQ .normal s' a' w' g' h' hK) h1 hv
  | seq x y ihx ihy =>
    intro out ex rt ac hc K Q s a w g h hQ hv
    simp only [compC] at hc
    split at hc
    · rename_i x' y' h1 h2
      injection hc with hc; subst hc
      refine wp_seq (ihx _ _ _ _ h1 _ _ s a w g h ?_ hv)
      intro e s' a' w' g' h' hK
      cases e with
      | normal =>
        obtain ⟨g2, h2'⟩ := h'.only (cf.pl (liveC y out ex rt)) (cf.bl (liveC y out ex rt))
        exact ihy _ _ _ _ h2 K Q _ a' w' g2 h2' hQ hK
      | exit id => exact hQ (.exit id) s' a' w' g' h' hK
      | ret => exact hQ .ret s' a' w' g' h' hK
    · cases hc
  | cond c x y ihx ihy =>
    intro out ex rt ac hc K Q s a w g h hQ hv
    simp only [compC] at hc
    split at hc
    · rename_i c' x' y' h1 h2 h3
      injection hc with hc; subst hc
      simp only [vcC] at hv
      split at hv
      · rename_i b hb
        rw [← hp] at h1
        obtain ⟨F, q1, q2⟩ := od_val P h hok h1
        rw [hb] at q1
        have hv' := q1.lit_inv.1
        exact wp_cond_split hv' (fun e => ihx _ _ _ _ h2 K Q s a w g h hQ (hv.1 e)) (fun e => ihy _ _ _ _ h3 K Q s a w g h hQ (hv.2 e))
      · cases hv
    · cases hc
  | block id c ih =>
    intro out ex rt ac hc K Q s a w g h hQ hv
    simp only [compC, Option.map_eq_some_iff] at hc
    obtain ⟨c', h1, rfl⟩ := hc
    refine wp_block (ih _ _ _ _ h1 _ _ s a w g h ?_ hv)
    intro e s' a' w' g' h' hK
    cases e with
    | normal => exact hQ .normal s' a' w' g' h' hK
    | exit j =>
      simp only [Ex.ex, Exit.inBlock] at hK ⊢
      split
      · rename_i hj; rw [if_pos hj] at hK; exact hQ .normal s' a' w' g' h' hK
      · rename_i hj; rw [if_neg hj] at hK; exact hQ (.exit j) s' a' w' g' h' hK
    | ret => exact hQ .ret s' a' w' g' h' hK
  | loop c ih =>
    intro out ex rt ac hc K Q s a w g h hQ hv
    simp only [compC, Option.map_eq_some_iff] at hc
    obtain ⟨c', h1, rfl⟩ := hc
    obtain ⟨g2, h2⟩ := h.only (cf.pl (liveC (.loop c) out ex rt)) (cf.bl (liveC (.loop c) out ex rt))
    refine LW.loop (hv (fun s => ∀ a w g, SR fc s a w g → LW P c Q a w) ?_ a w g2 h2)
    intro s1 hv1 a1 w1 g1 h1'
    refine LW.round (ih _ _ _ _ h1 _ _ s1 a1 w1 g1 h1' ?_ hv1)
    intro e s' a' w' g' h' hK
    cases e with
    | normal =>
      obtain ⟨g3, h3⟩ := h'.only (cf.pl (liveC (.loop c) out ex rt)) (cf.bl (liveC (.loop c) out ex rt))
      exact hK a' w' g3 h3
    | exit id => exact hQ (.exit id) s' a' w' g' h' hK
    | ret => exact hQ .ret s' a' w' g' h' hK
  | exit id =>
    intro out ex rt ac hc K Q s a w g h hQ hv
    simp only [compC, Option.some.injEq] at hc; subst hc
    exact wp_exit (hQ (.exit id) s a w g h hv)
  | ret =>
    intro out ex rt ac hc K Q s a w g h hQ hv
    simp only [compC, Option.some.injEq] at hc; subst hc
    exact wp_ret (hQ .ret s a w g h hv)
  | scope c ih =>
    intro out ex rt ac hc K Q s a w g h hQ hv
    simp only [compC] at hc
    refine wp_scope_straight (ih _ _ _ _ hc K _ s a w g h ?_ hv)
    intro e s' a' w' g' h' hK
    cases e with
    | normal => exact hQ .normal s' a' w' g' h' hK
    | exit id => exact hQ (.exit id) s' a' w' g' h' hK
    | ret => exact hQ .ret s' a' w' g' h' hK
  | label l =>
    intro out ex rt ac hc K Q s a w g h hQ hv
    simp only [compC, Option.some.injEq] at hc; subst hc
    exact wp_label (hQ .normal s a w g h hv)
  | goto l =>
    intro out ex rt ac hc K Q s a w g h hQ hv
    simp only [compC, Option.some.injEq] at hc; subst hc
    exact hv.elim
  | _ => intro out ex rt ac hc; simp [compC] at hc
end Go.Ev
namespace Go.Ev
set_option linter.unusedVariables false
inductive ROd where
  | tmp (t : Nat)
  | cell (t n : Nat) (agg : Bool)
def plainV : AV → Bool
  | .agg cs => cs.all plainC
  | x => plainC x
def resG (s : St) : List ROd → Option (List AV × St)
  | [] => some ([], s)
  | .tmp t :: rs => (match Ev.grab s t with
    | some (y, s1) => (match resG s1 rs with | some (ys, s2) => some (y :: ys, s2) | none => none)
    | none => none)
  | .cell t n agg :: rs => (match s.env t with
    | .ptr ⟨.box d 0, []⟩ => (match s.bx d with
      | some cs => if cs.length = n ∧ (agg = false → n = 1) then (match resG { s with bx := upd s.bx d (some (roL cs)) } rs with | some (ys, s2) => some ((if agg then .agg cs else cs.headD .junk) :: ys, s2) | none => none) else none
      | none => none)
    | _ => none)
def pack : List AV → AV
  | [y] => y
  | ys => .tup ys
def compRes (P : Program) : ResultVar → Option ROd
  | .tmp t => some (.tmp t)
  | .cell t ty => match P.info? ty, P.underlying ty with
    | some i, some d => some (.cell t i.size (aggB d))
    | _, _ => none
def compRess (P : Program) : List ResultVar → Option (List ROd)
  | [] => some []
  | r :: rs => match compRes P r, compRess P rs with
    | some x, some xs => some (x :: xs)
    | _, _ => none
def resRun (P : Program) (a : Act) : ResultVar → Sem Value
  | .tmp t => pure (a.tmps.getD t undef)
  | .cell t ty => do loadVar ty (← asAddr (a.tmps.getD t undef))
section
variable {P : Program} {fc : Fc} {a : Act} {w : World}
theorem RelL.head {X : Cx} {t : Bool} {cs : List AV} {vs : List Value} {F : List Nat} (h : RelL X t cs vs F) (hl : cs.length = 1) : ∃ v, vs = [v] ∧ Rel X t (cs.headD .junk) v F := by
  cases h with
  | nil => simp at hl
  | cons _ x v F1 xs vs' G hv hx hs hd =>
    simp only [List.length_cons] at hl
    have : xs = [] := List.eq_nil_of_length_eq_zero (by omega)
    subst this
    cases hs
    exact ⟨v, rfl, by simpa using hx⟩
theorem resG_rel : ∀ {rs : List ResultVar} {rs' : List ROd} {s s' : St} {g : Gh} {ys : List AV}, compRess P rs = some rs' → SR fc s a w g → resG s rs' = some (ys, s') →
    ∃ F H vs, SR fc s' a w { g with F := F } ∧ RelT (cx fc s' a w g) true ys vs H ∧ Hand fc s' { g with F := F } H ∧ Sub g F H ∧ (bxcOf s'.bx g.ba = bxcOf s.bx g.ba ∧ ∀ n, (s'.bx n = none ↔ s.bx n = none)) ∧
      All2 (fun r v => (resRun P a r).run P w = .ok v w) rs vs := by
  intro rs
  induction rs with
  | nil =>
    intro rs' s s' g ys hc h hg
    simp only [compRess, Option.some.injEq] at hc; subst hc
    simp only [resG, Option.some.injEq, Prod.mk.injEq] at hg
    obtain ⟨rfl, rfl⟩ := hg
    exact ⟨g.F, [], [], h, .nil _, .nil _ _ _, ⟨fun q b hb => hb, fun b hb => (List.not_mem_nil hb).elim⟩, ⟨rfl, fun _ => Iff.rfl⟩, .nil⟩
  | cons r rs ih =>
    intro rs' s s' g ys hc h hg
    simp only [compRess] at hc
    split at hc
    · rename_i x xs hx hxs
      injection hc with hc; subst hc
      -- one result, then the others
      have step : ∀ (y : AV) (s1 : St) (ys2 : List AV) (F1 : Pos → List Nat) (H1 : List Nat) (v : Value), SR fc s1 a w { g with F := F1 } → Rel (cx fc s1 a w { g with F := F1 }) true y v H1 → Hand fc s1 { g with F := F1 } H1 → Sub g F1 H1 →
          (bxcOf s1.bx g.ba = bxcOf s.bx g.ba ∧ ∀ n, (s1.bx n = none ↔ s.bx n = none)) → (resRun P a r).run P w = .ok v w → resG s1 xs = some (ys2, s') → ys = y :: ys2 →
          ∃ F H vs, SR fc s' a w { g with F := F } ∧ RelT (cx fc s' a w g) true ys vs H ∧ Hand fc s' { g with F := F } H ∧ Sub g F H ∧ (bxcOf s'.bx g.ba = bxcOf s.bx g.ba ∧ ∀ n, (s'.bx n = none ↔ s.bx n = none)) ∧
            All2 (fun r v => (resRun P a r).run P w = .ok v w) (r :: rs) vs := by
        rintro y s1 ys2 F1 H1 v q1 q2 q3 q4 b1 hrun hgs rfl
        obtain ⟨F2, H2, vs, r1, r2, r3, r4, b2, r5⟩ := ih hxs q1 hgs
        obtain ⟨q5, q6⟩ := q3.grabbed b2.2 r4
        have hcx : cx fc s' a w g = cx fc s1 a w g := by simp only [cx]; rw [b2.1]
        refine ⟨F2, H1 ++ H2, v :: vs, r1, .cons _ y v H1 ys2 vs H2 (by rw [hcx]; exact q2) r2 q6, ?_, ⟨fun q b hb => q4.1 q b (r4.1 q b hb), fun b hb => ?_⟩, ⟨b2.1.trans b1.1, fun n => (b2.2 n).trans (b1.2 n)⟩, .cons hrun r5⟩
        · exact ⟨fun q b hb => (List.mem_append.1 hb).elim (q5.disj q b) (r3.disj q b), fun n cs ad hn ha hb => (List.mem_append.1 hb).elim (q5.sep n cs ad hn ha) (r3.sep n cs ad hn ha), fun b hb => (List.mem_append.1 hb).elim (q5.free b) (r3.free b)⟩
        · rcases List.mem_append.1 hb with hb | hb
          · exact q4.2 b hb
          · obtain ⟨q, hq⟩ := r4.2 b hb
            exact ⟨q, q4.1 q b hq⟩
      cases r with
      | tmp t =>
        simp only [compRes, Option.some.injEq] at hx; subst hx
        simp only [resG] at hg
        split at hg
        · rename_i y s1 hgr
          split at hg
          · rename_i ys2 s2 hgs
            simp only [Option.some.injEq, Prod.mk.injEq] at hg
            obtain ⟨rfl, rfl⟩ := hg
            obtain ⟨F1, H1, q1, q2, q3, q4⟩ := h.grab' hgr
            exact step y s1 ys2 F1 H1 _ q1 q2 q3 q4 (grab_bx hgr g.ba) (by simp [resRun, tmOf]) hgs rfl
          · cases hg
        · cases hg
      | cell t ty =>
        simp only [compRes] at hx
        split at hx
        · rename_i i d hi hd
          injection hx with hx; subst hx
          simp only [resG] at hg
          split at hg
          · rename_i n hn
            split at hg
            · rename_i cs hcs
              split at hg
              · rename_i hh
                split at hg
                · rename_i ys2 s2 hgs
                  simp only [Option.some.injEq, Prod.mk.injEq] at hg
                  obtain ⟨rfl, rfl⟩ := hg
                  obtain ⟨ad, vs, b1, b2, b3⟩ := h.boxes n cs hcs
                  have hl := b3.length
                  obtain ⟨q1, q3, hbx⟩ := h.stripB hcs
                  have hsl := h.slots t
                  rw [hn] at hsl
                  obtain ⟨ad', e, h3, _⟩ := ptr_inv hsl
                  have had : ad' = ad := by
                    simp only [cx, resOf, b1, Option.map_some, Option.some.injEq] at h3
                    rw [← h3]; simp [Addr.add]
                  subst had
                  have hcx : cx fc { s with bx := upd s.bx n (some (roL cs)) } a w { g with F := updP g.F (.box n) [] } = cx fc s a w g := by simp only [cx, hbx]
                  have hrun := run_loadAt (P := P) (w := w) (t := ty) hi hd (us := vs) (by omega) (fun k u hk => b2.cell hk) (fun e => by have := hh.2 e; omega)
                  have hrun' : (resRun P a (.cell t ty)).run P w = .ok (if aggB d then .agg vs.toArray else vs.headD undef) w := by
                    have e' : a.tmps.getD t undef = .pointer (some ad') := e
                    simp only [Instr.loadAt, Instr.sureAddr, Sem.run_bind, Sem.run_pure, Result.andThen_ok] at hrun
                    simp only [resRun, e', asAddr, Sem.run_bind, Sem.run_pure, Result.andThen_ok]
                    exact hrun
                  refine step _ _ ys2 _ (g.F (.box n)) _ q1 ?_ q3 ⟨fun q b hb => ?_, fun b hb => ⟨_, hb⟩⟩ ⟨hbx, fun m => ?_⟩ hrun' hgs rfl
                  · rw [hcx]
                    cases hag : aggB d with
                    | true => exact .agg _ cs vs _ b3
                    | false =>
                      obtain ⟨v, rfl, hv⟩ := b3.head (by rw [hh.1]; exact hh.2 hag)
                      exact hv
                  · by_cases hq : q = .box n
                    · subst hq; rw [updP_same] at hb; cases hb
                    · rw [updP_other _ _ hq] at hb; exact hb
                  · by_cases e : m = n
                    · subst e; simp [upd_same, hcs]
                    · simp only; rw [upd_other _ _ e]
                · cases hg
              · cases hg
            · cases hg
          · cases hg
        · cases hx
    · cases hc
theorem Rel.plain {X : Cx} {x : AV} {v : Value} {F : List Nat} (h : Rel X true x v F) (hp : plainV x = true) : Rel X false x v F := by
  cases h with
  | junk => exact .junk _ _
  | lit _ _ h => exact .lit _ _ h
  | nil _ fl es A => exact .nil _ _ _ _
  | own _ xs b o cap es arr e fr vs F hh hfr hs hn hu hr hc hb hbd hzf => exact .own _ xs b o cap es arr e fr vs F hh hfr hs hn hu hr hc hb hbd hzf
  | imm _ fl xs ad cap es vs hfl hn hu hr hc => exact .imm _ fl xs ad cap es vs hfl hn hu hr hc
  | agg _ cs vs F hc => exact .agg _ cs vs F (hc.plain hp)
  | tup => simp [plainV, plainC] at hp
  | ptr => simp [plainV, plainC] at hp
  | bor => simp [plainV, plainC] at hp
  | cell => simp [plainV, plainC] at hp
  | clo => simp [plainV, plainC] at hp
theorem RelT.plain {X : Cx} : ∀ {xs : List AV} {vs : List Value} {F : List Nat}, RelT X true xs vs F → xs.all plainV = true → RelT X false xs vs F := by
  intro xs
  induction xs with
  | nil => intro vs F h _; cases h; exact .nil _
  | cons x xs ih =>
    intro vs F h hp
    simp only [List.all_cons, Bool.and_eq_true] at hp
    cases h with | cons _ _ v F1 _ vs' G hx hs hd => exact .cons _ x v F1 xs vs' G (hx.plain hp.1) (ih hs hp.2) hd
theorem run_mapM {rs : List ResultVar} {vs : List Value} (h : All2 (fun r v => (resRun P a r).run P w = .ok v w) rs vs) : (rs.mapM (resRun P a)).run P w = .ok vs w := by
  induction h with
  | nil => rfl
  | cons h _ ih =>
    rw [List.mapM_cons]
    simp only [Sem.run_bind, h, ih, Result.andThen_ok, Sem.run_pure]
theorem RelT.length {X : Cx} {t : Bool} : ∀ {xs : List AV} {vs : List Value} {F : List Nat}, RelT X t xs vs F → vs.length = xs.length := by
  intro xs
  induction xs with
  | nil => intro vs F h; cases h; rfl
  | cons x xs ih => intro vs F h; cases h with | cons _ _ v F1 _ vs' G hx hs hd => simp [ih hs]
def packV : List Value → Value
  | [v] => v
  | vs => .tuple vs.toArray
theorem results_run {fn : Func} {vs : List Value} (h : All2 (fun r v => (resRun P a r).run P w = .ok v w) fn.results.toList vs) :
    (results fn a.tmps).run P w = .ok (packV vs) w := by
  have hm : (fn.results.mapM (resRun P a)).run P w = .ok vs.toArray w := by
    rw [Array.mapM_eq_mapM_toList, Sem.run_map, run_mapM h]
    rfl
  have hres : results fn a.tmps = (fn.results.mapM (resRun P a) >>= fun vs => pure (if h : vs.size = 1 then vs[0] else .tuple vs)) := by
    unfold results
    congr 1
  rw [hres]
  simp only [Sem.run_bind, hm]
  simp only [Result.andThen_ok, Sem.run_pure]
  congr 1
  match vs with
  | [] => rfl
  | [v] => rfl
  | v :: u :: vs => rfl
end
end Go.Ev
namespace Go.Ev
set_option linter.unusedVariables false
def entry (args : List AV) : St := { env := lk (.lit undef) (argL 0 args), bx := fun _ => none }
structure AF where
  body : AC
  res : List ROd
def persC : Code → Nat
  | .region _ ops _ => regLive ops.toList 0
  | .seq x y | .cond _ x y => persC x ||| persC y
  | .block _ c | .loop c | .scope c => persC c
  | _ => 0
def resM (rs : List ResultVar) : Nat := rs.foldl (fun m r => match r with | .tmp t => m ||| bitT t | .cell t _ => m ||| bitT t) 0
def cfOf (P : Program) (ab : List Nat) (fn : Func) (c : Code) : CF :=
  { n := fn.ntmps, pm := (bitT (fn.params.size + fn.nfree) - 1) ||| persC c ||| resM fn.results.toList, bm := codeBoxes c, es := codeEdges P c, ab := ab }
def compF (P : Program) (gl : Tabs) (ab : List Nat) (fn : Func) : Option AF :=
  match fn.body with
  | none => none
  | some c => match compC P gl (cfOf P ab fn c) c (resM fn.results.toList) [] (resM fn.results.toList), compRess P fn.results.toList with
    | some b, some r => some ⟨b, r⟩
    | _, _ => none
def outOk (rs : List ROd) (res : AV) (e : Ex) (s : St) : Prop :=
  (match e with | .exit _ => False | _ => True) ∧ ∃ ys s', resG s rs = some (ys, s') ∧ ys.all plainV = true ∧ pack ys = res
section
variable {P : Program} {gl : Tabs}
theorem RelT.get {X : Cx} {t : Bool} : ∀ {x : List AV} {v : List Value} {F : List Nat}, RelT X t x v F → ∀ {k : Nat} {y : AV}, x[k]? = some y → ∃ u G, v[k]? = some u ∧ Rel X t y u G ∧ (∀ b, b ∈ G → b ∈ F) := by
  intro x
  induction x with
  | nil => intro v F h k y hk; simp at hk
  | cons a x ih =>
    intro v F h k y hk
    cases h with
    | cons _ _ c F₁ _ vs F₂ h hs hd =>
      cases k with
      | zero => simp at hk; subst hk; exact ⟨c, F₁, by simp, h, fun b hb => List.mem_append_left _ hb⟩
      | succ k =>
        obtain ⟨u, G, h1, h2, h3⟩ := ih hs (k := k) (y := y) (by simpa using hk)
        exact ⟨u, G, by simpa using h1, h2, fun b hb => List.mem_append_right _ (h3 b hb)⟩
theorem snd_of {f : FuncId} {fn : Func} {af : AF} {C : Kn} (hf : P.funcs[f]? = some fn) (hcf : compF P gl [] fn = some af) (hm : P.follows .mixedOrders = true)
    (hC : Kn.Ok P gl C) {args : List AV} {res : AV} (hl : args.length ≤ fn.ntmps) (hv : vcC C af.body (outOk af.res res) (entry args)) : Snd P gl f args res := by
  intro w vals zf hzf htabs hargs
  unfold compF at hcf
  split at hcf
  · cases hcf
  · rename_i c hb
    split at hcf
    · rename_i b r hc hr
      injection hcf with hcf; subst hcf
      have hlen : vals.size = args.length := by simpa using hargs.length
      let fc : Fc := { w0 := w, T := fun _ _ => False, zf := zf, pers := (cfOf P [] fn c).pers, n := fn.ntmps, hb := fun _ => none }
      let g : Gh := { bd := fun _ => none, ba := fun _ => none, F := fun _ => [] }
      let a : Act := { tmps := vals ++ Array.replicate (fn.ntmps - vals.size) undef, defers := [] }
      have hok : fc.Ok gl := ⟨fun _ _ _ h => h, fun n vs hg => ⟨htabs.lit n vs hg, htabs.cell n vs hg⟩, htabs.size, htabs.errs⟩
      have hkeeps : (X0 w zf).Keeps (cx fc (entry args) a w g) (fun _ => False) := by
        refine ⟨fun r x h => ?_, fun r x h => ?_, fun b i v h1 h2 => ⟨h1, h2⟩, fun b i v h1 h2 => absurd trivial h1.2.1, fun b hb => hb.elim⟩
        · simp only [X0] at h; cases h
        · simp only [X0] at h; cases h
      have henv : ∀ t, (entry args).env t = (args[t]?).getD (.lit undef) := by
        intro t
        have := argL_lk args 0 t (.lit undef)
        rw [Nat.zero_add] at this; exact this
      have hSR : SR fc (entry args) a w g := by
        refine ⟨fun t => ?_, fun n cs hn => ?_, fun n hn => rfl, fun p q hpq b hb => (List.not_mem_nil hb).elim, fun n cs ad hn => ?_, fun n m cs cs' ad ad' hnm hn => ?_, fun b i hz hx => ?_, fun b i hz => hzf b i hz, fun p b hb => (List.not_mem_nil hb).elim, fun b i hx => ?_, .refl _ _, rfl, ?_, fun n _ => rfl, fun b i _ => rfl, fun b _ _ => rfl, fun n _ _ => rfl⟩
        · rw [henv]
          by_cases ht : t < args.length
          · have hx : args[t]? = some args[t] := List.getElem?_eq_getElem ht
            obtain ⟨u, G, h1, h2, h3⟩ := hargs.get hx
            have hG : G = [] := by cases G with | nil => rfl | cons b _ => exact (List.not_mem_nil (h3 b (List.mem_cons_self ..))).elim
            subst hG
            have hu : tmOf a t = u := by
              have h1' : vals[t]? = some u := by simpa using h1
              have htv : t < vals.size := by omega
              simp only [tmOf, a, Array.getD_eq_getD_getElem?, Array.getElem?_append_left htv, h1', Option.getD_some]
            rw [hx, hu]
            exact (h2.mono hkeeps (fun b hb => (List.not_mem_nil hb).elim)).top
          · have hx : args[t]? = none := List.getElem?_eq_none (by omega)
            have hu : tmOf a t = undef := by
              have htv : vals.size ≤ t := by omega
              simp only [tmOf, a, Array.getD_eq_getD_getElem?, Array.getElem?_append_right htv, Array.getElem?_replicate]
              split <;> rfl
            rw [hx, hu]
            exact undef_rel
        · simp [entry] at hn
        · simp [entry] at hn
        · simp [entry] at hn
        · obtain ⟨n, cs, ad, hn, _⟩ := hx; simp [entry] at hn
        · obtain ⟨n, cs, ad, hn, _⟩ := hx; simp [entry] at hn
        · simp only [a, Array.size_append, Array.size_replicate, fc]; omega
      refine calls_of_wp hf hb ?_
      refine compC_sound hok hm rfl rfl hC c _ [] _ b hc (outOk r res) _ (entry args) a w g hSR ?_ hv
      intro e s' a' w' g' h' hK
      obtain ⟨hex, ys, s'', hg, hpl, rfl⟩ := hK
      obtain ⟨F, H, vs, q1, q2, q3, q4, q5, q6⟩ := resG_rel hr h' hg
      have hrun := results_run q6
      have key : a'.defers = [] ∧ ∃ v, (results fn a'.tmps).run P w' = .ok v w' ∧ ∃ v', Ending.returned v = .returned v' ∧ Back w zf (pack ys) v' w' := by
        refine ⟨h'.defers, _, hrun, _, rfl, h'.keep, cx fc s'' a' w' g', H, rfl, rfl, rfl, fun b hb => h'.bdo b hb (fun h => h 0), ?_, fun b hb => ?_⟩
        · have hp := q2.plain hpl
          have hl' := hp.length
          match ys, vs, hp, hl' with
          | [], [], hp, _ => cases hp; exact .tup _ [] [] [] (.nil _)
          | [y], [v], hp, _ =>
            cases hp with
            | cons _ _ _ F1 _ _ G hx hs hd => cases hs; simpa [pack, packV] using hx
          | y :: y2 :: ys, v :: v2 :: vs, hp, _ => exact .tup _ _ _ _ hp
        · exact (q3.free b hb).elim id fun h => (h 0).elim
      cases e with
      | normal => exact key
      | exit id => exact hex.elim
      | ret => exact key
    · cases hcf
end
end Go.Ev
namespace Go.Ev
set_option linter.unusedVariables false
def viaLocal (k : Nat) (_ : Bool) (r : Ref) : Bool := match r.root with | .slot _ => true | .box n _ => decide (n < 10000) || decide (10000 + k ≤ n)
def outBx (s : St) (k : Nat) : Nat → Nat → Option (List (List AV))
  | _, 0 => some []
  | j, n + 1 => (match s.bx (10000 + j), outBx s k (j + 1) n with
    | some cs, some css => some (klL (viaLocal k) false cs :: css)
    | _, _ => none)
def outOkG (rs : List ROd) (res : AV) (bxs' : List (List AV)) (e : Ex) (s : St) : Prop :=
  (match e with | .exit _ => False | _ => True) ∧ ∃ ys s', resG s rs = some (ys, s') ∧ ys.all plainV = true ∧ pack ys = res ∧ outBx s' bxs'.length 0 bxs'.length = some bxs'
theorem outBx_get {s : St} {k : Nat} : ∀ {n j : Nat} {css : List (List AV)}, outBx s k j n = some css → css.length = n ∧ ∀ i cs, css[i]? = some cs → ∃ cs0, s.bx (10000 + (j + i)) = some cs0 ∧ cs = klL (viaLocal k) false cs0 := by
  intro n
  induction n with
  | zero => intro j css h; simp only [outBx, Option.some.injEq] at h; subst h; exact ⟨rfl, fun i cs hi => by simp at hi⟩
  | succ n ih =>
    intro j css h
    simp only [outBx] at h
    split at h
    · rename_i cs0 css' h1 h2
      injection h with h; subst h
      obtain ⟨q1, q2⟩ := ih h2
      refine ⟨by simp [q1], fun i cs hi => ?_⟩
      cases i with
      | zero => simp at hi; exact ⟨cs0, h1, hi.symm⟩
      | succ i =>
        obtain ⟨cs1, r1, r2⟩ := q2 i cs (by simpa using hi)
        exact ⟨cs1, by rw [show j + (i + 1) = j + 1 + i by omega]; exact r1, r2⟩
    · cases h
section
variable {P : Program} {gl : Tabs}
theorem sndG_of {f : FuncId} {fn : Func} {af : AF} {C : Kn} {ab : List Nat} (hf : P.funcs[f]? = some fn) (hcf : compF P gl ab fn = some af) (hm : P.follows .mixedOrders = true)
    (hC : Kn.Ok P gl C) {args : List AV} {bxs bxs' : List (List AV)} {res : AV} (hl : args.length ≤ fn.ntmps) (hn : fn.ntmps ≤ 10000) (hv : vcC C af.body (outOkG af.res res bxs') (entryG args bxs)) : SndG P gl f args bxs res bxs' := by
  intro fc0 vals w g hw0 hok0 hpers hn0 hhb hlen hSR0
  unfold compF at hcf
  split at hcf
  · cases hcf
  · rename_i c hb
    split at hcf
    · rename_i b r hc hr
      injection hcf with hcf; subst hcf
      let fc : Fc := { fc0 with pers := (cfOf P ab fn c).pers, n := fn.ntmps }
      let a : Act := { tmps := vals ++ Array.replicate (fn.ntmps - vals.size) undef, defers := [] }
      have hok : fc.Ok gl := ⟨hok0.zfT, hok0.glob, hok0.size, hok0.errs⟩
      have htm : ∀ t, tmOf a t = tmOf ⟨vals, []⟩ t := by
        intro t
        by_cases ht : t < vals.size
        · simp only [tmOf, a, Array.getD_eq_getD_getElem?, Array.getElem?_append_left ht]
        · have h1 : vals[t]? = none := Array.getElem?_eq_none (by omega)
          simp only [tmOf, a, Array.getD_eq_getD_getElem?, h1, Option.getD_none, Array.getElem?_append_right (by omega : vals.size ≤ t), Array.getElem?_replicate]
          split <;> rfl
      have hkeeps : (cx fc0 (entryG args bxs) ⟨vals, []⟩ w g).Keeps (cx fc (entryG args bxs) a w g) (fun _ => True) := by
        have hres : ∀ r x, resOf fc0.pers (tmOf ⟨vals, []⟩) g.ba w r = some x → resOf fc.pers (tmOf a) g.ba w r = some x := by
          rintro ⟨root, path⟩ x hx
          cases root with
          | slot t => simp only [resOf, hpers] at hx; cases hx
          | box n k => cases path <;> exact hx
        refine ⟨fun r x hx => hres r x hx, ?_, fun b i v h1 h2 => ⟨h1, h2⟩, fun b i v h1 h2 => ⟨h1, h2⟩, fun b hb => ⟨rfl, rfl, fun i h => h⟩⟩
        rintro ⟨root, path⟩ v hv
        have key : ∀ r, (resOf fc0.pers (tmOf ⟨vals, []⟩) g.ba w r).bind w.cell? = some v → (resOf fc.pers (tmOf a) g.ba w r).bind w.cell? = some v := by
          intro r hr
          simp only [Option.bind_eq_some_iff] at hr ⊢
          obtain ⟨ad, h1, h2⟩ := hr
          exact ⟨ad, hres _ _ h1, h2⟩
        cases root with
        | slot t => cases path with
          | nil => simp only [cx, holdOf, hpers] at hv; cases hv
          | cons c p => exact key _ hv
        | box n k => exact key _ hv
      have hSR : SR fc (entryG args bxs) a w g := by
        refine ⟨fun t => ?_, fun n cs hn => ?_, hSR0.nobox, hSR0.disj, hSR0.sep, hSR0.apart, hSR0.zfb, hSR0.zfo, hSR0.touchF, hSR0.touchB, hSR0.keep, rfl, ?_, hSR0.nob, hSR0.zfd, hSR0.bdo, fun n h1 h2 => hSR0.hbo n ?_ h2⟩
        · rw [htm]; exact (hSR0.slots t).mono hkeeps fun _ _ => trivial
        · obtain ⟨ad, vs, h1, h2, h3⟩ := hSR0.boxes n cs hn
          exact ⟨ad, vs, h1, h2, h3.mono hkeeps fun _ _ => trivial⟩
        · simp only [a, Array.size_append, Array.size_replicate, fc]; omega
        · have h1' : fn.ntmps ≤ n := h1
          omega
      subst hw0
      refine calls_of_wp hf hb ?_
      refine compC_sound hok hm rfl rfl hC c _ [] _ b hc (outOkG r res bxs') _ (entryG args bxs) a _ g hSR ?_ hv
      intro e s' a' w' g' h' hK
      obtain ⟨hex, ys, s'', hg, hpl, rfl, hob⟩ := hK
      obtain ⟨F, H, vs, q1, q2, q3, q4, q5, q6⟩ := resG_rel hr h' hg
      have hrun := results_run q6
      obtain ⟨hol, hog⟩ := outBx_get hob
      -- the result
      have hres : ∃ v, packV vs = v ∧ Rel (cx fc s'' a' w' g') false (pack ys) v H := by
        refine ⟨_, rfl, ?_⟩
        have hp := q2.plain hpl
        have hl' := hp.length
        match ys, vs, hp, hl' with
        | [], [], hp, _ => cases hp; exact .tup _ [] [] [] (.nil _)
        | [y], [v], hp, _ =>
          cases hp with
          | cons _ _ _ F1 _ _ G hx hs hd => cases hs; simpa [pack, packV] using hx
        | y :: y2 :: ys, v :: v2 :: vs, hp, _ => exact .tup _ _ _ _ hp
      obtain ⟨v, hve, hvr⟩ := hres
      let ids : List Nat := (List.range bxs'.length).map (10000 + ·)
      have hid : ∀ id, id ∈ ids ↔ ∃ j, j < bxs'.length ∧ id = 10000 + j := by
        intro id; simp only [ids, List.mem_map, List.mem_range]; exact ⟨fun ⟨j, h1, h2⟩ => ⟨j, h1, h2.symm⟩, fun ⟨j, h1, h2⟩ => ⟨j, h1, h2.symm⟩⟩
      let baE : Nat → Option Addr := fun id => if id ∈ ids then g'.ba id else none
      let FE : Pos → List Nat := fun p => match p with | .slot t => if t = 0 then H else [] | .box id => if id ∈ ids then F (.box id) else []
      let gE : Gh := { bd := g'.bd, ba := baE, F := FE }
      let sE : St := entryG [pack ys] bxs'
      have hbxE : ∀ id cs, sE.bx id = some cs → id ∈ ids ∧ ∃ cs0, s''.bx id = some cs0 ∧ cs = klL (viaLocal bxs'.length) false cs0 := by
        intro id cs hc
        have hc' : bxL bxs' id = some cs := hc
        simp only [bxL] at hc'
        split at hc'
        · rename_i hle
          have hlt := (List.getElem?_eq_some_iff.1 hc').1
          obtain ⟨cs0, r1, r2⟩ := hog _ cs hc'
          rw [Nat.zero_add, show 10000 + (id - 10000) = id by omega] at r1
          exact ⟨(hid id).2 ⟨id - 10000, hlt, by omega⟩, cs0, r1, r2⟩
        · cases hc'
      have hbxn : ∀ id, sE.bx id = none → id ∉ ids := by
        intro id hn hm
        obtain ⟨j, h1, rfl⟩ := (hid id).1 hm
        have hn' : bxL bxs' (10000 + j) = none := hn
        simp only [bxL] at hn'
        rw [if_pos (by omega), show 10000 + j - 10000 = j by omega, List.getElem?_eq_getElem h1] at hn'
        cases hn'
      have hbxc : ∀ b i, bxcOf sE.bx baE b i → bxcOf s''.bx g'.ba b i := by
        rintro b i ⟨id, cs, ad, h1, h2, h3, h4, h5⟩
        obtain ⟨hm, cs0, r1, rfl⟩ := hbxE id cs h1
        simp only [baE, hm, if_true] at h2
        exact ⟨id, cs0, ad, r1, h2, h3, h4, by simpa [klL_eq] using h5⟩
      let fcE : Fc := { fc0 with n := 1 }
      let aE : Act := ⟨#[v], []⟩
      have hvl : ∀ isB n k p, viaLocal bxs'.length isB ⟨.box n k, p⟩ = false → n ∈ ids := by
        intro isB n k p hp
        simp only [viaLocal, Bool.or_eq_false_iff, decide_eq_false_iff_not] at hp
        exact (hid n).2 ⟨n - 10000, by omega, by omega⟩
      have hkk : (cx fc s'' a' w' g').KeepsK (cx fcE sE aE w' gE) (viaLocal bxs'.length) false (fun _ => True) := by
        have hres : ∀ r x, viaLocal bxs'.length false r = false → resOf fc.pers (tmOf a') g'.ba w' r = some x → resOf fcE.pers (tmOf aE) baE w' r = some x := by
          rintro ⟨root, path⟩ x hp hx
          cases root with
          | slot t => simp [viaLocal] at hp
          | box n k =>
            have hm := hvl _ _ _ _ hp
            cases path <;> simpa [resOf, baE, hm] using hx
        refine ⟨hres, ?_, fun b i u h1 h2 => ⟨h1, h2⟩, fun _ b i u h1 h2 => ⟨⟨h1.1, fun hx => h1.2.1 (hbxc b i hx), h1.2.2⟩, h2⟩, fun b hb => ⟨rfl, rfl, fun i h => h⟩⟩
        rintro ⟨root, path⟩ u hp hu _ _
        have key : ∀ r : Ref, viaLocal bxs'.length false r = false → (resOf fc.pers (tmOf a') g'.ba w' r).bind w'.cell? = some u → (resOf fcE.pers (tmOf aE) baE w' r).bind w'.cell? = some u := by
          intro r hp hr
          simp only [Option.bind_eq_some_iff] at hr ⊢
          obtain ⟨ad, h1, h2⟩ := hr
          exact ⟨ad, hres _ _ hp h1, h2⟩
        cases root with
        | slot t => simp [viaLocal] at hp
        | box n k =>
          have hu' : (resOf fc.pers (tmOf a') g'.ba w' ⟨.box n k, path⟩).bind w'.cell? = some u := by simpa [cx, holdOf] using hu
          have := key ⟨.box n k, path⟩ hp hu'
          simpa [cx, holdOf] using this
      have hFE : ∀ p b, b ∈ FE p → (p = .slot 0 ∧ b ∈ H) ∨ ∃ id, p = .box id ∧ id ∈ ids ∧ b ∈ F (.box id) := by
        intro p b hb
        cases p with
        | slot t =>
          simp only [FE] at hb
          split at hb
          · rename_i ht; subst ht; exact .inl ⟨rfl, hb⟩
          · exact (List.not_mem_nil hb).elim
        | box id =>
          simp only [FE] at hb
          split at hb
          · rename_i hm; exact .inr ⟨id, rfl, hm, hb⟩
          · exact (List.not_mem_nil hb).elim
      have hE : SR fcE sE aE w' gE := by
        refine ⟨fun t => ?_, fun id cs hc => ?_, fun id hc => ?_, fun p q hpq b hb hb' => ?_, fun id cs ad hc ha p hb => ?_, fun n m cs cs' ad ad' hnm hn hm ha ha' => ?_, fun b i hz hx => q1.zfb b i hz (hbxc b i hx), q1.zfo, fun p b hb => ?_, fun b i hx => q1.touchB b i (hbxc b i hx), q1.keep, rfl, rfl, fun id hc => ?_, q1.zfd, q1.bdo, fun id h1 h2 => ?_⟩
        · by_cases ht : t = 0
          · subst ht
            have e1 : sE.env 0 = pack ys := by simp [sE, entryG, argL, lk]
            have e2 : tmOf aE 0 = v := by simp [tmOf, aE]
            rw [e1, e2]
            simp only [gE, FE, if_true]
            exact (hvr.kl0 hkk rfl rfl fun _ _ => trivial).top
          · have e1 : sE.env t = .lit undef := by
              simp only [sE, entryG, argL, lk]; rw [if_neg ht]
            have e2 : tmOf aE t = undef := by
              have : (#[v] : Array Value)[t]? = none := Array.getElem?_eq_none (by simp; omega)
              simp only [tmOf, aE, Array.getD_eq_getD_getElem?, this, Option.getD_none]
            rw [e1, e2]
            simp only [gE, FE, if_neg ht]
            exact undef_rel
        · obtain ⟨hm, cs0, r1, rfl⟩ := hbxE id cs hc
          obtain ⟨ad, us, r2, r3, r4⟩ := q1.boxes id cs0 r1
          refine ⟨ad, us, by simp only [gE, baE, hm, if_true]; exact r2, r3, ?_⟩
          simp only [gE, FE, hm, if_true]
          exact r4.kl hkk fun _ _ => trivial
        · have hm := hbxn id hc
          simp only [gE, FE]; exact if_neg hm
        · rcases hFE p b hb with ⟨rfl, h1⟩ | ⟨id, rfl, hm, h1⟩
          · rcases hFE q b hb' with ⟨rfl, h2⟩ | ⟨id, rfl, hm, h2⟩
            · exact hpq rfl
            · exact q3.disj _ b h1 h2
          · rcases hFE q b hb' with ⟨rfl, h2⟩ | ⟨jd, rfl, hm', h2⟩
            · exact q3.disj _ b h2 h1
            · exact q1.disj _ _ hpq b h1 h2
        · obtain ⟨hm, cs0, r1, rfl⟩ := hbxE id cs hc
          simp only [gE, baE, hm, if_true] at ha
          rcases hFE p _ hb with ⟨rfl, h1⟩ | ⟨jd, rfl, hm', h1⟩
          · exact q3.sep id cs0 ad r1 ha h1
          · exact q1.sep id cs0 ad r1 ha _ h1
        · obtain ⟨hm1, c1, r1, rfl⟩ := hbxE n cs hn
          obtain ⟨hm2, c2, r2, rfl⟩ := hbxE m cs' hm
          simp only [gE, baE, hm1, hm2, if_true] at ha ha'
          have := q1.apart n m c1 c2 ad ad' hnm r1 r2 ha ha'
          simpa [klL_eq] using this
        · rcases hFE p b hb with ⟨rfl, h1⟩ | ⟨jd, rfl, hm', h1⟩
          · exact q3.free b h1
          · exact q1.touchF _ b h1
        · have hm := hbxn id hc
          simp only [gE, baE]; exact if_neg hm
        · cases hc : sE.bx id with
          | none => exact absurd hc h2
          | some cs =>
            obtain ⟨hm, cs0, r1, rfl⟩ := hbxE id cs hc
            obtain ⟨j, hj, rfl⟩ := (hid id).1 hm
            simp only [gE, baE, hm, if_true]
            exact q1.hbo (10000 + j) (by show fn.ntmps ≤ 10000 + j; omega) (by rw [r1]; simp)
      have key : a'.defers = [] ∧ ∃ v, (results fn a'.tmps).run P w' = .ok v w' ∧ ∃ v', Ending.returned v = .returned v' ∧ ∃ g', SR { fc0 with n := 1 } (entryG [pack ys] bxs') ⟨#[v'], []⟩ w' g' :=
        ⟨h'.defers, v, by rw [hrun, hve], v, rfl, gE, hE⟩
      cases e with
      | normal => exact key
      | exit id => exact hex.elim
      | ret => exact key
    · cases hcf
end
end Go.Ev
namespace Go.Ev
set_option linter.unusedVariables false
abbrev Bs := List UInt8
def str (l : Bs) : ByteArray := ⟨l.toArray⟩
theorem str_data (b : ByteArray) : str b.data.toList = b := by cases b; simp [str]
theorem str_size (l : Bs) : (str l).size = l.length := by simp [str, ByteArray.size]
theorem str_toList (l : Bs) : (str l).toList = l := by rw [Go.Lib.toList_data]; simp [str]
theorem str_dataL (l : Bs) : (str l).data.toList = l := by simp [str]
theorem str_append (l m : Bs) : str l ++ str m = str (l ++ m) := by
  have : (str l ++ str m).data = (str (l ++ m)).data := by simp [str]
  cases h : str l ++ str m; cases h2 : str (l ++ m); simp_all
theorem str_extract (l : Bs) (a b : Nat) : (str l).extract a b = str ((l.take b).drop a) := by
  have : ((str l).extract a b).data = (str ((l.take b).drop a)).data := by
    rw [ByteArray.data_extract]
    simp only [str]
    apply Array.ext'
    rw [Array.toList_extract]
    simp [List.extract_eq_take_drop, List.drop_take]
  cases h : (str l).extract a b; cases h2 : str ((l.take b).drop a); simp_all
theorem str_get (l : Bs) (i : Nat) : (str l)[i]? = l[i]? := by
  by_cases h : i < l.length
  · have h' : i < (str l).size := by rw [str_size]; exact h
    rw [getElem?_pos (str l) i h', getElem?_pos l i h]
    simp [str, ByteArray.getElem_eq_getElem_data]
  · have h' : ¬ i < (str l).size := by rw [str_size]; exact h
    rw [getElem?_neg (str l) i h', getElem?_neg l i h]
abbrev I (n : Int) : AV := .lit (.int .i64 n)
abbrev N (n : Nat) : AV := .lit (.int .i64 (n : Int))
abbrev U8 (c : UInt8) : AV := .lit (.int .u8 c.toNat)
abbrev B (b : Bool) : AV := .lit (.bool b)
abbrev S (l : Bs) : AV := .lit (.string (str l))
def ss (l : List Bs) : List AV := l.map S
def bs (l : Bs) : List AV := l.map U8
def ns (l : List Int) : List AV := l.map I
theorem frnL_lits {α : Type} (f : α → Value) (l : List α) : frnL (l.map fun x => .lit (f x)) = l.map fun x => .lit (f x) := by rw [frnL_eq]; simp [frnD]
theorem resL_lits {α : Type} (f : α → Value) (l : List α) : resL (l.map fun x => .lit (f x)) = l.map fun x => .lit (f x) := by rw [resL_eq]; simp [resD]
theorem roL_lits {α : Type} (f : α → Value) (l : List α) : roL (l.map fun x => .lit (f x)) = l.map fun x => .lit (f x) := by rw [roL_eq]; simp [roD]
theorem passL_lits {α : Type} (f : α → Value) (l : List α) : passL (l.map fun x => .lit (f x)) = l.map fun x => .lit (f x) := by rw [passL_eq]; simp [passD]
theorem trL_lits {α : Type} (ρ : Nat → Option Nat) (rf : Bool) (f : α → Value) (l : List α) : trL ρ rf (l.map fun x => .lit (f x)) = l.map fun x => .lit (f x) := by rw [trL_eq]; simp [tr]
theorem klL_lits {α : Type} (p : Bool → Ref → Bool) (ro : Bool) (f : α → Value) (l : List α) : klL p ro (l.map fun x => .lit (f x)) = l.map fun x => .lit (f x) := by rw [klL_eq]; simp [kl]
theorem frnL_ss (l : List Bs) : frnL (ss l) = ss l := frnL_lits _ l
theorem resL_ss (l : List Bs) : resL (ss l) = ss l := resL_lits _ l
theorem roL_ss (l : List Bs) : roL (ss l) = ss l := roL_lits _ l
theorem passL_ss (l : List Bs) : passL (ss l) = ss l := passL_lits _ l
theorem trL_ss (ρ : Nat → Option Nat) (rf : Bool) (l : List Bs) : trL ρ rf (ss l) = ss l := trL_lits _ _ _ l
theorem klL_ss (p : Bool → Ref → Bool) (ro : Bool) (l : List Bs) : klL p ro (ss l) = ss l := klL_lits _ _ _ l
theorem map_roD_ss (l : List Bs) : (ss l).map roD = ss l := by rw [← roL_eq, roL_ss]
theorem frnL_bs (l : Bs) : frnL (bs l) = bs l := frnL_lits _ l
theorem resL_bs (l : Bs) : resL (bs l) = bs l := resL_lits _ l
theorem roL_bs (l : Bs) : roL (bs l) = bs l := roL_lits _ l
theorem passL_bs (l : Bs) : passL (bs l) = bs l := passL_lits _ l
theorem trL_bs (ρ : Nat → Option Nat) (rf : Bool) (l : Bs) : trL ρ rf (bs l) = bs l := trL_lits _ _ _ l
theorem klL_bs (p : Bool → Ref → Bool) (ro : Bool) (l : Bs) : klL p ro (bs l) = bs l := klL_lits _ _ _ l
theorem map_roD_bs (l : Bs) : (bs l).map roD = bs l := by rw [← roL_eq, roL_bs]
theorem frnL_ns (l : List Int) : frnL (ns l) = ns l := frnL_lits _ l
theorem resL_ns (l : List Int) : resL (ns l) = ns l := resL_lits _ l
theorem roL_ns (l : List Int) : roL (ns l) = ns l := roL_lits _ l
theorem passL_ns (l : List Int) : passL (ns l) = ns l := passL_lits _ l
theorem trL_ns (ρ : Nat → Option Nat) (rf : Bool) (l : List Int) : trL ρ rf (ns l) = ns l := trL_lits _ _ _ l
theorem klL_ns (p : Bool → Ref → Bool) (ro : Bool) (l : List Int) : klL p ro (ns l) = ns l := klL_lits _ _ _ l
theorem map_roD_ns (l : List Int) : (ns l).map roD = ns l := by rw [← roL_eq, roL_ns]
theorem ss_length (l : List Bs) : (ss l).length = l.length := by simp [ss]
theorem bs_length (l : Bs) : (bs l).length = l.length := by simp [bs]
theorem ns_length (l : List Int) : (ns l).length = l.length := by simp [ns]
theorem ss_snoc (l : List Bs) (x : Bs) : ss l ++ [S x] = ss (l ++ [x]) := by simp [ss]
theorem bs_snoc (l : Bs) (x : UInt8) : bs l ++ [U8 x] = bs (l ++ [x]) := by simp [bs]
theorem ns_snoc (l : List Int) (x : Int) : ns l ++ [I x] = ns (l ++ [x]) := by simp [ns]
theorem ss_append (l m : List Bs) : ss l ++ ss m = ss (l ++ m) := by simp [ss]
theorem bs_append (l m : Bs) : bs l ++ bs m = bs (l ++ m) := by simp [bs]
theorem ss_drop (l : List Bs) (n : Nat) : (ss l).drop n = ss (l.drop n) := by simp [ss]
theorem ss_take (l : List Bs) (n : Nat) : (ss l).take n = ss (l.take n) := by simp [ss]
theorem bs_drop (l : Bs) (n : Nat) : (bs l).drop n = bs (l.drop n) := by simp [bs]
theorem bs_take (l : Bs) (n : Nat) : (bs l).take n = bs (l.take n) := by simp [bs]
theorem bs_str (l : Bs) : ((str l).data.toList.map fun c => AV.lit (.int .u8 c.toNat)) = bs l := by rw [str_dataL]; rfl
theorem getE {α : Type} {l : List α} {i : Nat} (h : i < l.length) : l[i]? = some l[i] := List.getElem?_eq_getElem h
theorem lt_t {a b : Nat} (h : a < b) : decide ((a : Int) < b) = true := decide_eq_true (by omega)
theorem lt_f {a b : Nat} (h : ¬ a < b) : decide ((a : Int) < b) = false := decide_eq_false (by omega)
theorem ilt_t {a b : Int} (h : a < b) : decide (a < b) = true := decide_eq_true h
theorem ilt_f {a b : Int} (h : ¬ a < b) : decide (a < b) = false := decide_eq_false h
theorem igt_t {a b : Int} (h : b < a) : decide (a > b) = true := decide_eq_true h
theorem igt_f {a b : Int} (h : ¬ b < a) : decide (a > b) = false := decide_eq_false h
theorem eq_t {a b : Int} (h : a = b) : (a == b) = true := by simp [h]
theorem eq_f {a b : Int} (h : a ≠ b) : (a == b) = false := by simp [h]
theorem ne_t {a b : Int} (h : a ≠ b) : (a != b) = true := by simp [h]
theorem ne_f {a b : Int} (h : a = b) : (a != b) = false := by simp [h]
theorem se_t {a b : Bs} (h : a = b) : (a == b) = true := by simp [h]
theorem se_f {a b : Bs} (h : a ≠ b) : (a == b) = false := by simp [h]
theorem sn_t {a b : Bs} (h : a ≠ b) : (!(a == b)) = true := by simp [h]
theorem sn_f {a b : Bs} (h : a = b) : (!(a == b)) = false := by simp [h]
theorem len_0 {α : Type} {a : List α} (h : a.length = 0) : a = [] := List.length_eq_zero_iff.1 h
theorem wrap_in {n : Int} (h1 : -9223372036854775808 ≤ n) (h2 : n ≤ 9223372036854775807) : IntKind.i64.wrap n = n := by rw [IntKind.wrap_i64]; omega
theorem wrapN {e : Int} (n : Nat) (h : e = n) (hn : n ≤ 4611686018427387904) : IntKind.i64.wrap e = n := by subst h; exact wrap_in (by omega) (by omega)
theorem nr {α : Sort _} {a b : α} (h : a = b) : a = b := h
def mkS (l : List (Nat × AV)) (b : List (Nat × Option (List AV))) : St := ⟨lk .junk l, lk none b⟩
theorem mkS_env (l : List (Nat × AV)) (b : List (Nat × Option (List AV))) (t : Nat) : (mkS l b).env t = lk .junk l t := nr rfl
theorem mkS_bx (l : List (Nat × AV)) (b : List (Nat × Option (List AV))) (t : Nat) : (mkS l b).bx t = lk none b t := nr rfl
theorem lk_cons {α : Type} (d v : α) (k : Nat) (r : List (Nat × α)) (t : Nat) : lk d ((k, v) :: r) t = if t = k then v else lk d r t := nr rfl
theorem lk_nil {α : Type} (d : α) (t : Nat) : lk d [] t = d := nr rfl
theorem only_mk (s : St) (pl bl : List Nat) : s.only pl bl = mkS (pl.map fun t => (t, kl (viaNot bl) false (s.env t))) (bl.map fun n => (n, (s.bx n).map (klL (viaNot bl) false))) := nr rfl
theorem entry_env (args : List AV) (t : Nat) : (entry args).env t = lk (.lit undef) (argL 0 args) t := nr rfl
theorem entry_bx (args : List AV) (t : Nat) : (entry args).bx t = none := nr rfl
theorem entryG_env' (args : List AV) (bxs : List (List AV)) (t : Nat) : (entryG args bxs).env t = lk (.lit undef) (argL 0 args) t := nr rfl
theorem entryG_bx (args : List AV) (bxs : List (List AV)) (t : Nat) : (entryG args bxs).bx t = bxL bxs t := nr rfl
theorem argL_cons (k : Nat) (x : AV) (xs : List AV) : argL k (x :: xs) = (k, x) :: argL (k + 1) xs := nr rfl
theorem argL_nil (k : Nat) : argL k [] = [] := nr rfl
theorem set_env (s : St) (d : Nat) (v : AV) (t : Nat) : (s.set d v).env t = if t = d then v else s.env t := nr rfl
theorem set_bx (s : St) (d : Nat) (v : AV) (t : Nat) : (s.set d v).bx t = s.bx t := nr rfl
theorem setB_env (s : St) (d : Nat) (v : List AV) (t : Nat) : (s.setB d v).env t = s.env t := nr rfl
theorem setB_bx (s : St) (d : Nat) (v : List AV) (t : Nat) : (s.setB d v).bx t = if t = d then some v else s.bx t := nr rfl
theorem kl_env (s : St) (p : Bool → Ref → Bool) (ro : Bool) (t : Nat) : (s.kl p ro).env t = kl p ro (s.env t) := nr rfl
theorem kl_bx (s : St) (p : Bool → Ref → Bool) (ro : Bool) (t : Nat) : (s.kl p ro).bx t = (s.bx t).map (klL p ro) := nr rfl
theorem mk_env (e : Nat → AV) (b : Nat → Option (List AV)) (t : Nat) : (St.mk e b).env t = e t := nr rfl
theorem mk_bx (e : Nat → AV) (b : Nat → Option (List AV)) (t : Nat) : (St.mk e b).bx t = b t := nr rfl
theorem upd_app {α : Type} (f : Nat → α) (d : Nat) (v : α) (t : Nat) : upd f d v t = if t = d then v else f t := nr rfl
theorem backG_env (s : St) (n : List Nat) (b : List (List AV)) (t : Nat) : (backG s n b).env t = kl viaMem true (s.env t) := nr rfl
theorem backG_bx (s : St) (ns : List Nat) (bxs : List (List AV)) (n : Nat) : (backG s ns bxs).bx n = match idxIn ns n 0 with | some j => some (trL (rhoOut ns) true (bxs.getD j [])) | none => (s.bx n).map (klL viaMem true) := nr rfl
theorem St.ext' {s s' : St} (h1 : s.env = s'.env) (h2 : s.bx = s'.bx) : s = s' := by cases s; cases s'; simp_all
theorem put_t (s : St) (d : Nat) (v : AV) : s.put true d v = match s.env d with | .lit _ => s.set d v | _ => (s.kl (viaSlot d) false).set d (kl (viaSlot d) false v) := nr rfl
theorem put_f (s : St) (d : Nat) (v : AV) : s.put false d v = s.set d v := nr rfl
theorem fin_some (d : Nat) (pd : Bool) (s : St) (v : AV) : fin (some (d, pd)) s v = s.put pd d v := nr rfl
theorem fin_none (s : St) (v : AV) : fin none s v = s := nr rfl
theorem grab_eq (s : St) (t : Nat) : Ev.grab s t = (match s.env t with
    | .bor r => takeR s r
    | .sl .own es xs => some (.sl .own es xs, s.set t (.sl .ro es (roL xs)))
    | .agg cs => some (.agg cs, s.set t (.agg (roL cs)))
    | .tup cs => some (.tup cs, s.set t (.tup (roL cs)))
    | v => some (v, s)) := nr rfl
def outV (s : St) (rs : List ROd) : Option AV := match resG s rs with | some (ys, _) => if ys.all plainV = true then some (pack ys) else none | none => none
theorem out_ret (rs : List ROd) (res : AV) (s : St) : outOk rs res .ret s = (outV s rs = some res) := by
  unfold outOk outV
  apply propext
  constructor
  · rintro ⟨_, ys, s', h1, h2, h3⟩; rw [h1]; simp [h2, h3]
  · intro h
    refine ⟨trivial, ?_⟩
    cases hr : resG s rs with
    | none => rw [hr] at h; cases h
    | some p =>
      obtain ⟨ys, s'⟩ := p
      rw [hr] at h
      simp only at h
      split at h
      · rename_i hp; injection h with h; exact ⟨ys, s', rfl, hp, h⟩
      · cases h
theorem out_norm (rs : List ROd) (res : AV) (s : St) : outOk rs res .normal s = (outV s rs = some res) := out_ret rs res s
def outVG (s : St) (rs : List ROd) (n : Nat) : Option (AV × List (List AV)) := match resG s rs with | some (ys, s') => (match outBx s' n 0 n with | some bxs => if ys.all plainV = true then some (pack ys, bxs) else none | none => none) | none => none
theorem outG_ret (rs : List ROd) (res : AV) (bxs : List (List AV)) (s : St) : outOkG rs res bxs .ret s = (outVG s rs bxs.length = some (res, bxs)) := by
  unfold outOkG outVG
  apply propext
  constructor
  · rintro ⟨_, ys, s', h1, h2, h3, h4⟩; rw [h1]; simp [h2, h3, h4]
  · intro h
    refine ⟨trivial, ?_⟩
    cases hr : resG s rs with
    | none => rw [hr] at h; cases h
    | some p =>
      obtain ⟨ys, s'⟩ := p
      rw [hr] at h
      simp only at h
      split at h
      · rename_i bxs' hb
        split at h
        · rename_i hp; simp only [Option.some.injEq, Prod.mk.injEq] at h; obtain ⟨rfl, rfl⟩ := h; exact ⟨ys, s', rfl, hp, rfl, hb⟩
        · cases h
      · cases h
theorem outG_norm (rs : List ROd) (res : AV) (bxs : List (List AV)) (s : St) : outOkG rs res bxs .normal s = (outVG s rs bxs.length = some (res, bxs)) := outG_ret rs res bxs s
def byteK (o : Option UInt8) (dst : Option (Nat × Bool)) (s : St) (K : St → Prop) : Prop := ∃ c, o = some c ∧ K (fin dst s (.lit (.int .u8 c.toNat)))
def getRK (o : Option AV) (dst : Option (Nat × Bool)) (s : St) (K : St → Prop) : Prop := ∃ y, o = some y ∧ K (fin dst s (roD y))
def getK (o : Option AV) (dst : Option (Nat × Bool)) (s : St) (K : St → Prop) : Prop := ∃ y, o = some y ∧ K (fin dst s y)
def extK (o : Option AV) (t i : Nat) (vs : List AV) (dst : Option (Nat × Bool)) (s : St) (K : St → Prop) : Prop := ∃ y, o = some y ∧ K (fin dst (s.set t (.tup (vs.set i (roD y)))) y)
def elemK (o : Option AV) (fl : Fl) (dst : Option (Nat × Bool)) (s : St) (K : St → Prop) : Prop := ∃ y, o = some y ∧ K (fin dst s (if fl = .own then .cell .ro (roL (cellsOf y)) 0 else .cell fl (cellsOf y) 0))
theorem byte_some (c : UInt8) (dst : Option (Nat × Bool)) (s : St) (K : St → Prop) : byteK (some c) dst s K = K (fin dst s (.lit (.int .u8 c.toNat))) := by simp [byteK]
theorem getR_some (y : AV) (dst : Option (Nat × Bool)) (s : St) (K : St → Prop) : getRK (some y) dst s K = K (fin dst s (roD y)) := by simp [getRK]
theorem get_some (y : AV) (dst : Option (Nat × Bool)) (s : St) (K : St → Prop) : getK (some y) dst s K = K (fin dst s y) := by simp [getK]
theorem ext_some (y : AV) (t i : Nat) (vs : List AV) (dst : Option (Nat × Bool)) (s : St) (K : St → Prop) : extK (some y) t i vs dst s K = K (fin dst (s.set t (.tup (vs.set i (roD y)))) y) := by simp [extK]
theorem elem_some (y : AV) (fl : Fl) (dst : Option (Nat × Bool)) (s : St) (K : St → Prop) : elemK (some y) fl dst s K = K (fin dst s (if fl = .own then .cell .ro (roL (cellsOf y)) 0 else .cell fl (cellsOf y) 0)) := by simp [elemK]
theorem ssE (l : List Bs) {i : Nat} (h : i < l.length) : (ss l)[i]? = some (S l[i]) := by simp [ss, h]
section
variable {C : Kn}
def seqK (C : Kn) (pl bl : List Nat) (y : AC) (K : Ex → St → Prop) (e : Ex) (s : St) : Prop := match e with | .normal => vcC C y K (s.only pl bl) | .exit id => K (.exit id) s | .ret => K .ret s
def blockK (id : Nat) (K : Ex → St → Prop) (e : Ex) (s : St) : Prop := match e with | .normal => K .normal s | .exit j => if j = id then K .normal s else K (.exit j) s | .ret => K .ret s
def loopK (C : Kn) (pl bl : List Nat) (c : AC) (K : Ex → St → Prop) (e : Ex) (s : St) : Prop := match e with | .normal => vcL C pl bl c K (s.only pl bl) | .exit id => K (.exit id) s | .ret => K .ret s
def insK (C : Kn) (is : List Ins) (K : St → Prop) (s : St) : Prop := vcs C is s K
def drawK (C : Kn) (ch : CT) (K : St → Prop) (s : St) : Prop := vcT C ch s K
def chK (C : Kn) (re : List Ins) (ch : CT) (K : St → Prop) (s : St) : Prop := vcRe C re s ∧ vcT C ch s K
def reK (S : St) (d : Nat) (s' : St) : Prop := s'.env d = S.env d
variable {pl bl : List Nat} {x y c : AC} {K : Ex → St → Prop} {s : St} {id : Nat}
theorem c_skip : vcC C .skip K s = K .normal s := nr rfl
theorem c_reg (r : AR) : vcC C (.reg r) K s = vcR C r s (K .normal) := nr rfl
theorem c_seq : vcC C (.seq x pl bl y) K s = vcC C x (seqK C pl bl y K) s := nr rfl
def condK (C : Kn) (b : Bool) (x y : AC) (K : Ex → St → Prop) (s : St) : Prop := (b = true → vcC C x K s) ∧ (b = false → vcC C y K s)
theorem c_cond (o : Od) : vcC C (.cond o x y) K s = (match o.val s with | .lit (.bool b) => condK C b x y K s | _ => False) := nr rfl
theorem cond_t : condK C true x y K s = vcC C x K s := by simp [condK]
theorem cond_f : condK C false x y K s = vcC C y K s := by simp [condK]
theorem c_block : vcC C (.block id c) K s = vcC C c (blockK id K) s := nr rfl
theorem c_loop : vcC C (.loop pl bl c) K s = vcL C pl bl c K (s.only pl bl) := nr rfl
theorem c_exit : vcC C (.exit id) K s = K (.exit id) s := nr rfl
theorem c_ret : vcC C .ret K s = K .ret s := nr rfl
theorem seqK_n : seqK C pl bl y K .normal s = vcC C y K (s.only pl bl) := nr rfl
theorem seqK_e : seqK C pl bl y K (.exit id) s = K (.exit id) s := nr rfl
theorem seqK_r : seqK C pl bl y K .ret s = K .ret s := nr rfl
theorem blockK_n : blockK id K .normal s = K .normal s := nr rfl
theorem blockK_e (j : Nat) : blockK id K (.exit j) s = if j = id then K .normal s else K (.exit j) s := nr rfl
theorem blockK_r : blockK id K .ret s = K .ret s := nr rfl
theorem loopK_n : loopK C pl bl c K .normal s = vcL C pl bl c K (s.only pl bl) := nr rfl
theorem loopK_e : loopK C pl bl c K (.exit id) s = K (.exit id) s := nr rfl
theorem loopK_r : loopK C pl bl c K .ret s = K .ret s := nr rfl
theorem round (h : vcC C c (loopK C pl bl c K) s) : vcL C pl bl c K s := vcL_round h
theorem r_seq (is : List Ins) (K : St → Prop) : vcR C (.seq is) s K = vcs C is s K := nr rfl
theorem r_draw (look : List Ins) (ch : CT) (K : St → Prop) : vcR C (.draw look ch) s K = vcs C look s (drawK C ch K) := nr rfl
theorem drawK_a (ch : CT) (K : St → Prop) : drawK C ch K s = vcT C ch s K := nr rfl
theorem ch_nil (K : St → Prop) : vcT C .done s K = K s := nr rfl
theorem ch_no (K : St → Prop) : vcT C .no s K = True := nr rfl
theorem ch_cons (i : Ins) (re : List Ins) (t r : CT) (K : St → Prop) : vcT C (.alt i re t r) s K = (vcG C i s (chK C re t K) ∧ vcT C r s K) := nr rfl
theorem chK_a (re : List Ins) (ch : CT) (K : St → Prop) : chK C re ch K s = (vcRe C re s ∧ vcT C ch s K) := nr rfl
theorem re_nil : vcRe C [] s = True := nr rfl
theorem re_cons (i : Ins) (is : List Ins) : vcRe C (i :: is) s = (vcG C i s (reK s i.d) ∧ vcRe C is s) := nr rfl
theorem reK_a (S : St) (d : Nat) : reK S d s = (s.env d = S.env d) := nr rfl
theorem s_nil (K : St → Prop) : vcs C [] s K = K s := nr rfl
theorem s_cons (i : Ins) (is : List Ins) (K : St → Prop) : vcs C (i :: is) s K = vcG C i s (insK C is K) := nr rfl
theorem insK_a (is : List Ins) (K : St → Prop) : insK C is K s = vcs C is s K := nr rfl
theorem g_none (dst : Option (Nat × Bool)) (op : AOp) (K : St → Prop) : vcG C ⟨dst, none, op⟩ s K = vc C dst op s K := nr rfl
def grdK (C : Kn) (b want : Bool) (dst : Option (Nat × Bool)) (op : AOp) (s : St) (K : St → Prop) : Prop := (b = want → vc C dst op s K) ∧ (b ≠ want → K (fin dst s (.lit undef)))
def grdV (C : Kn) (v : AV) (want : Bool) (dst : Option (Nat × Bool)) (op : AOp) (s : St) (K : St → Prop) : Prop := match v with
  | .lit (.bool b) => grdK C b want dst op s K
  | .lit (.tuple _) => K (fin dst s (.lit undef))
  | _ => False
theorem grd_b (b want : Bool) (dst : Option (Nat × Bool)) (op : AOp) (K : St → Prop) : grdV C (.lit (.bool b)) want dst op s K = grdK C b want dst op s K := nr rfl
theorem grd_u (want : Bool) (dst : Option (Nat × Bool)) (op : AOp) (K : St → Prop) : grdV C (.lit undef) want dst op s K = K (fin dst s (.lit undef)) := nr rfl
theorem g_some (dst : Option (Nat × Bool)) (t : Nat) (want : Bool) (op : AOp) (K : St → Prop) : vcG C ⟨dst, some (t, want), op⟩ s K = grdV C (s.env t) want dst op s K := nr rfl
theorem grd_tt (dst : Option (Nat × Bool)) (op : AOp) (K : St → Prop) : grdK C true true dst op s K = vc C dst op s K := by simp [grdK]
theorem grd_ff (dst : Option (Nat × Bool)) (op : AOp) (K : St → Prop) : grdK C false false dst op s K = vc C dst op s K := by simp [grdK]
theorem grd_tf (dst : Option (Nat × Bool)) (op : AOp) (K : St → Prop) : grdK C true false dst op s K = K (fin dst s (.lit undef)) := by simp [grdK]
theorem grd_ft (dst : Option (Nat × Bool)) (op : AOp) (K : St → Prop) : grdK C false true dst op s K = K (fin dst s (.lit undef)) := by simp [grdK]
def callK (C : Kn) (f : FuncId) (args : List AV) (dst : Option (Nat × Bool)) (s : St) (K : St → Prop) : Prop := ∃ res, C.s f args res ∧ K (fin dst s (resD res))
theorem of_call {f : FuncId} {args : List AV} {dst : Option (Nat × Bool)} {K : St → Prop} {res : AV} (h : C.s f args res) (hK : K (fin dst s (resD res))) : callK C f args dst s K := ⟨res, h, hK⟩
def coreK (C : Kn) (f : FuncId) (args : List AV) (bxs : List (List AV)) (ns : List Nat) (dst : Option (Nat × Bool)) (s : St) (K : St → Prop) : Prop :=
  ∃ res bxs', C.g f args bxs res bxs' ∧ bxs'.map (·.length) = bxs.map (·.length) ∧ K (fin dst (backG s ns bxs') (tr (rhoOut ns) true res))
theorem of_core {f : FuncId} {args : List AV} {bxs bxs' : List (List AV)} {ns : List Nat} {dst : Option (Nat × Bool)} {K : St → Prop} {res : AV} (h : C.g f args bxs res bxs') (hl : bxs'.map (·.length) = bxs.map (·.length))
    (hK : K (fin dst (backG s ns bxs') (tr (rhoOut ns) true res))) : coreK C f args bxs ns dst s K := ⟨res, bxs', h, hl, hK⟩
theorem core_eq (f : FuncId) (pas : List PA) (dst : Option (Nat × Bool)) (K : St → Prop) : coreG C f pas s dst K = (noDup (nsOf pas) = true ∧ (match boxesAt s (nsOf pas) with
    | some bxs => coreK C f (pas.map (argG s (nsOf pas))) (bxs.map (trL (rhoIn (nsOf pas)) false)) (nsOf pas) dst s K
    | none => False)) := by
  unfold coreG coreK
  cases boxesAt s (nsOf pas) with
  | none => rfl
  | some bxs => simp only [List.map_map]; congr 3; funext bxs'; simp only [Function.comp_def, trL_eq, List.length_map]
theorem v_peek (dst : Option (Nat × Bool)) (K : St → Prop) (x : Od) : vc C dst (.mov x .peek) s K = K (fin dst s (x.peek s)) := nr rfl
theorem v_take (dst : Option (Nat × Bool)) (K : St → Prop) (x : Od) : vc C dst (.mov x .take) s K = (match x.grab s with | some (y, s') => K (fin dst s' y) | none => False) := nr rfl
theorem v_asg (dst : Option (Nat × Bool)) (K : St → Prop) (x : Od) : vc C dst (.mov x .asg) s K = (match x.val s with
    | .bor r => K (fin dst s (.bor r))
    | _ => (match x.grab s with | some (y, s') => K (fin dst s' y) | none => False)) := nr rfl
theorem v_pick (dst : Option (Nat × Bool)) (K : St → Prop) (c : Od) (x : Od) (y : Od) : vc C dst (.pick c x y) s K = ((match c.val s with
    | .lit (.bool b) => (match x.val s, y.val s with
      | .lit u, .lit v => K (fin dst s (.lit (if b then u else v)))
      | u, v => K (fin dst s (if b then x.peek s else y.peek s)))
    | _ => False)) := nr rfl
theorem v_bin (dst : Option (Nat × Bool)) (K : St → Prop) (op : BinOp) (x : Od) (y : Od) : vc C dst (.bin op x y) s K = ((match x.val s, y.val s with
    | .lit u, .lit v => binObl op u v ∧ K (fin dst s (.lit (binVal op u v)))
    | _, _ => False)) := nr rfl
theorem v_eqb (dst : Option (Nat × Bool)) (K : St → Prop) (neg : Bool) (x : Od) (y : Od) : vc C dst (.eqb neg x y) s K = ((match x.val s, y.val s with
    | .lit (.bool a), .lit (.bool b) => K (fin dst s (.lit (.bool (if neg then !(a == b) else a == b))))
    | _, _ => False)) := nr rfl
theorem v_eqS (dst : Option (Nat × Bool)) (K : St → Prop) (ks : List Nat) (neg : Bool) (x : Od) (y : Od) : vc C dst (.eqS ks neg x y) s K = ((match x.val s, y.val s with
    | .agg cs, .agg ds => (match eqC ks cs ds with | some b => K (fin dst s (.lit (.bool (if neg then !b else b)))) | none => False)
    | _, _ => False)) := nr rfl
theorem v_un (dst : Option (Nat × Bool)) (K : St → Prop) (op : UnOp) (x : Od) : vc C dst (.un op x) s K = ((match x.val s with
    | .lit u => (match unVal op u with | some v => K (fin dst s (.lit v)) | none => False)
    | _ => False)) := nr rfl
theorem v_cvt (dst : Option (Nat × Bool)) (K : St → Prop) (k : IntKind) (x : Od) : vc C dst (.cvt k x) s K = ((match x.val s with
    | .lit (.int _ n) => K (fin dst s (.lit (.int k (k.wrap n))))
    | _ => False)) := nr rfl
theorem v_same (dst : Option (Nat × Bool)) (K : St → Prop) (x : Od) : vc C dst (.same x) s K = ((match x.val s with
    | .lit (.string b) => K (fin dst s (.lit (.string b)))
    | _ => False)) := nr rfl
theorem v_b2s (dst : Option (Nat × Bool)) (K : St → Prop) (x : Od) : vc C dst (.b2s x) s K = ((match content s (x.val s) with
    | some (es, xs) => es = 1 ∧ ∃ b : ByteArray, xs = b.data.toList.map (fun c => .lit (.int .u8 c.toNat)) ∧ K (fin dst s (.lit (.string b)))
    | none => False)) := nr rfl
theorem v_len (dst : Option (Nat × Bool)) (K : St → Prop) (x : Od) : vc C dst (.len x) s K = ((match x.val s with
    | .lit (.string b) => K (fin dst s (.lit (.int .i64 b.size)))
    | _ => False)) := nr rfl
theorem v_lenL (dst : Option (Nat × Bool)) (K : St → Prop) (x : Od) : vc C dst (.lenL x) s K = ((match content s (x.val s) with | some (_, xs) => K (fin dst s (.lit (.int .i64 xs.length))) | none => False)) := nr rfl
theorem v_idx (dst : Option (Nat × Bool)) (K : St → Prop) (x : Od) (i : Od) : vc C dst (.idx x i) s K = ((match x.val s, i.val s with
    | .lit (.string b), .lit (.int _ n) => 0 ≤ n ∧ byteK (b[n.toNat]?) dst s K
    | _, _ => False)) := nr rfl
theorem v_sub (dst : Option (Nat × Bool)) (K : St → Prop) (x : Od) (lo : Option Od) (hi : Option Od) : vc C dst (.sub x lo hi) s K = ((match x.val s, (lo.map (·.val s)).getD (.lit (.int .i64 0)), hi.map (·.val s) with
    | .lit (.string b), .lit (.int _ l), none => 0 ≤ l ∧ l ≤ b.size ∧ K (fin dst s (.lit (.string (b.extract l.toNat b.size))))
    | .lit (.string b), .lit (.int _ l), some (.lit (.int _ h)) => 0 ≤ l ∧ l ≤ h ∧ h ≤ b.size ∧ K (fin dst s (.lit (.string (b.extract l.toNat h.toNat))))
    | _, _, _ => False)) := nr rfl
theorem v_slc (dst : Option (Nat × Bool)) (K : St → Prop) (es0 : Nat) (x : Od) (lo : Option Od) (hi : Option Od) : vc C dst (.slc es0 x lo hi) s K = ((match content s (x.val s), (lo.map (·.val s)).getD (.lit (.int .i64 0)), hi.map (·.val s) with
    | some (es, xs), .lit (.int _ l), none => es = es0 ∧ 0 ≤ l ∧ l ≤ xs.length ∧ K (fin dst s (.sl (match x.val s with | .sl .frn _ _ => .frn | _ => .ro) es (match x.val s with | .sl .frn _ _ => xs.drop l.toNat | _ => (xs.drop l.toNat).map roD)))
    | some (es, xs), .lit (.int _ l), some (.lit (.int _ h)) => es = es0 ∧ 0 ≤ l ∧ l ≤ h ∧ h ≤ xs.length ∧ K (fin dst s (.sl (match x.val s with | .sl .frn _ _ => .frn | _ => .ro) es (match x.val s with | .sl .frn _ _ => (xs.take h.toNat).drop l.toNat | _ => ((xs.take h.toNat).drop l.toNat).map roD)))
    | _, _, _ => False)) := nr rfl
theorem v_slcT (dst : Option (Nat × Bool)) (K : St → Prop) (es : Nat) (x hi : Od) : vc C dst (.slcT es x hi) s K = ((match hi.val s, x.grab s with
    | .lit (.int _ n), some (.sl .own es' xs, s') => es' = es ∧ 0 ≤ n ∧ n ≤ xs.length ∧ K (fin dst (s'.kl viaDeep true) (.sl .own es (klL viaDeep true (xs.take n.toNat))))
    | _, _ => False)) := nr rfl
theorem v_fld (dst : Option (Nat × Bool)) (K : St → Prop) (x : Od) (off : Nat) (n : Nat) (agg : Bool) : vc C dst (.fld x off n agg) s K = ((match x.val s with
    | .agg cs => off + n ≤ cs.length ∧ (if agg then K (fin dst s (.agg (((cs.drop off).take n).map roD))) else getRK (cs[off]?) dst s K)
    | _ => False)) := nr rfl
theorem v_ext (dst : Option (Nat × Bool)) (K : St → Prop) (x : Od) (i : Nat) : vc C dst (.ext x i) s K = ((match x with
    | .tmp t _ => (match s.env t with
      | .tup vs => extK (vs[i]?) t i vs dst s K
      | _ => False)
    | _ => False)) := nr rfl
theorem v_fad (dst : Option (Nat × Bool)) (K : St → Prop) (x : Od) (off : Nat) : vc C dst (.fad x off) s K = ((match x.val s with
    | .ptr r => K (fin dst s (.ptr (r.addOff off)))
    | .cell fl cs o => K (fin dst s (.cell fl cs (o + off)))
    | _ => False)) := nr rfl
theorem v_iad (dst : Option (Nat × Bool)) (K : St → Prop) (x : Od) (i : Od) (es : Nat) : vc C dst (.iad x i es) s K = ((match i.val s with
    | .lit (.int _ n) => (match x.val s with
      | .bor r => (match getH s r with
        | some (.sl _ es' xs) => es' = es ∧ 0 ≤ n ∧ n < xs.length ∧ K (fin dst s (.ptr (r.idx n.toNat es)))
        | _ => False)
      | .sl fl es' xs => es' = es ∧ 0 ≤ n ∧ elemK (xs[n.toNat]?) fl dst s K
      | _ => False)
    | _ => False)) := nr rfl
theorem v_iadA (dst : Option (Nat × Bool)) (K : St → Prop) (x : Od) (i : Od) (len : Nat) (es : Nat) : vc C dst (.iadA x i len es) s K = ((match i.val s with
    | .lit (.int _ n) => 0 ≤ n ∧ n < len ∧ (match x.val s with
      | .ptr r => K (fin dst s (.ptr (r.addOff (n.toNat * es))))
      | .cell fl cs o => K (fin dst s (.cell fl cs (o + n.toNat * es)))
      | _ => False)
    | _ => False)) := nr rfl
theorem v_load (dst : Option (Nat × Bool)) (K : St → Prop) (x : Od) (n : Nat) (agg : Bool) (tk : Bool) : vc C dst (.load x n agg tk) s K = ((match x.val s with
    | .ptr r => (match getR s r with
      | some cs => n ≤ cs.length ∧ 0 < n ∧ (if agg then (match partB tk r with | some (d, k) => K (fin dst (s.setP d k n) (.agg (cs.take n))) | none => K (fin dst s (.agg ((cs.take n).map roD)))) else
          match (cs[0]? : Option AV) with
          | some (.sl .own es xs) => if tk then (match takeR s r with | some (y, s') => K (fin dst s' y) | none => False) else K (fin dst s (.bor r))
          | some y => K (fin dst s (roD y))
          | none => False)
      | none => False)
    | .cell fl cs o => o + n ≤ cs.length ∧ 0 < n ∧ (if agg then K (fin dst s (.agg ((cs.drop o).take n))) else getK (cs[o]?) dst s K)
    | _ => False)) := nr rfl
theorem v_chk (dst : Option (Nat × Bool)) (K : St → Prop) (x : Od) : vc C dst (.chk x) s K = ((match x.val s with
    | .ptr r => K (fin dst s (.ptr r))
    | .cell fl cs o => K (fin dst s (.cell fl cs o))
    | _ => False)) := nr rfl
theorem v_new (dst : Option (Nat × Bool)) (K : St → Prop) (cells : List AV) : vc C dst (.new cells) s K = ((match dst with
    | some (d, pd) => K (((s.kl (viaBox d) false).setB d (klL (viaBox d) false cells)).put pd d (.ptr ⟨.box d 0, []⟩))
    | none => False)) := nr rfl
theorem v_box (dst : Option (Nat × Bool)) (K : St → Prop) (x : Od) : vc C dst (.box x) s K = ((match dst, x.grab s with
    | some (d, pd), some (y, s') => okCells y = true ∧ K (((s'.kl (viaBox d) false).setB d (klL (viaBox d) false (cellsOf y))).put pd d (.ptr ⟨.box d 0, []⟩))
    | _, _ => False)) := nr rfl
theorem v_build (dst : Option (Nat × Bool)) (K : St → Prop) (cells : List AV) (parts : List (Nat × Nat × Od)) : vc C dst (.build cells parts) s K = ((match grabs s parts with
    | some (ys, s') => (match place cells ys with | some cs => K (fin dst s' (.agg cs)) | none => False)
    | none => False)) := nr rfl
theorem v_buildS (dst : Option (Nat × Bool)) (K : St → Prop) (es : Nat) (len : Nat) (cells : List AV) (parts : List (Nat × Nat × Od)) : vc C dst (.buildS es len cells parts) s K = ((match grabs s parts with
    | some (ys, s') => (match place cells ys with | some cs => cs.all plainC = true ∧ K (fin dst s' (.sl .own es (chunk es cs len))) | none => False)
    | none => False)) := nr rfl
theorem v_app (dst : Option (Nat × Bool)) (K : St → Prop) (es : Nat) (bytes : Nat) (sx : Od) (x : Od) : vc C dst (.app es bytes sx x) s K = ((match sx.grab s with
    | some (.sl .own es' xs, s1) => es' = es ∧ (match x.val s1, x.grab s1 with
      | .bor r, _ => (match getH s1 r with
        | some (.sl _ es2 ys) => es2 = es ∧ (xs.length + ys.length) * bytes ≤ 140737488355328 ∧ K (fin dst (s1.kl viaDeep false) (.sl .own es (xs ++ ys.map roD)))
        | _ => False)
      | _, some (.lit (.string b), s2) => es = 1 ∧ (xs.length + b.size) * bytes ≤ 140737488355328 ∧ K (fin dst (s2.kl viaDeep false) (.sl .own es (xs ++ b.data.toList.map fun c => .lit (.int .u8 c.toNat))))
      | _, some (.sl fl es2 ys, s2) => es2 = es ∧ (xs.length + ys.length) * bytes ≤ 140737488355328 ∧ K (fin dst (s2.kl viaDeep false) (.sl .own es (xs ++ ys)))
      | _, _ => False)
    | _ => False)) := nr rfl
theorem v_store (dst : Option (Nat × Bool)) (K : St → Prop) (a : Od) (x : Od) (n : Nat) : vc C dst (.store a x n) s K = ((match a.val s, x.grab s with
    | .ptr r, some (y, s1) => okCells y = true ∧ (cellsOf y).length = n ∧ 0 < n ∧ (match writeR s1 r (cellsOf y) with | some s2 => K s2 | none => False)
    | _, _ => False)) := nr rfl
theorem v_mx (dst : Option (Nat × Bool)) (K : St → Prop) (isMax : Bool) (x : Od) (y : Od) : vc C dst (.mx isMax x y) s K = ((match x.val s, y.val s with
    | .lit (.int k a), .lit (.int k' b) => k = k' ∧ K (fin dst s (.lit (.int k (if isMax then max a b else min a b))))
    | _, _ => False)) := nr rfl
theorem v_call (dst : Option (Nat × Bool)) (K : St → Prop) (f : FuncId) (args : List Od) : vc C dst (.call f args) s K = (callK C f (args.map fun x => passA s (x.val s)) dst s K) := nr rfl
theorem v_buildP (dst : Option (Nat × Bool)) (K : St → Prop) (cells : List AV) (parts : List (Nat × Nat × Od)) : vc C dst (.buildP cells parts) s K = ((match peeks s parts with
    | some ys => (match place cells ys with | some cs => K (fin dst s (.agg cs)) | none => False)
    | none => False)) := nr rfl
theorem v_s2b (dst : Option (Nat × Bool)) (K : St → Prop) (x : Od) : vc C dst (.s2b x) s K = ((match x.val s with
    | .lit (.string b) => K (fin dst s (.sl .own 1 (b.data.toList.map fun c => .lit (.int .u8 c.toNat))))
    | _ => False)) := nr rfl
theorem v_mkS (dst : Option (Nat × Bool)) (K : St → Prop) (es : Nat) (bytes : Nat) (cells : List AV) (x : Od) (y : Od) : vc C dst (.mkS es bytes cells x y) s K = ((match x.val s, y.val s with
    | .lit (.int _ l), .lit (.int _ c) => 0 ≤ l ∧ l ≤ c ∧ bytes * c ≤ 140737488355328 ∧ c ≤ 140737488355328 ∧ K (fin dst s (.sl .own es (List.replicate l.toNat (elt es cells))))
    | _, _ => False)) := nr rfl
theorem v_idxA (dst : Option (Nat × Bool)) (K : St → Prop) (x : Od) (i : Od) (len : Nat) (es : Nat) (agg : Bool) : vc C dst (.idxA x i len es agg) s K = ((match x.val s, i.val s with
    | .agg cs, .lit (.int _ n) => 0 ≤ n ∧ n < len ∧ n.toNat * es + es ≤ cs.length ∧ (if agg then K (fin dst s (.agg (((cs.drop (n.toNat * es)).take es).map roD))) else getRK (cs[n.toNat * es]?) dst s K)
    | _, _ => False)) := nr rfl
theorem v_callG (dst : Option (Nat × Bool)) (K : St → Prop) (f : FuncId) (args : List (Od × AM)) : vc C dst (.callG f args) s K = ((match gives s args with
    | some (ys, s1) => (match pasOf s1 args ys with
      | some pas => coreG C f pas s1 dst K
      | none => False)
    | none => False)) := nr rfl
theorem v_callV (dst : Option (Nat × Bool)) (K : St → Prop) (x : Od) (args : List Od) : vc C dst (.callV x args) s K = ((match x.val s with
    | .lit (.func (.func f) _ _) => C.v f ∧ callK C f (args.map fun x => passA s (x.val s)) dst s K
    | .clo f caps => C.v f ∧ (match capsPA caps with
      | some ps => coreG C f (args.map (fun x => PA.pass (x.val s)) ++ ps) s dst K
      | none => False)
    | _ => False)) := nr rfl
theorem v_mkF (dst : Option (Nat × Bool)) (K : St → Prop) (f : FuncId) (caps : List Od) : vc C dst (.mkF f caps) s K = (caps.all (fun x => isPtr (x.val s)) = true ∧ K (fin dst s (if caps = [] then .lit (.func (.func f) #[] #[]) else .clo f (caps.map fun x => x.val s)))) := nr rfl
theorem od_tmp (t : Nat) (p : Bool) : (Od.tmp t p).val s = s.env t := nr rfl
theorem od_cst (v : Value) (x : AV) : (Od.cst v x).val s = x := nr rfl
theorem od_glb (g : Nat) (vs : List Value) : (Od.glb g vs).val s = .cell .frn (vs.map .lit) 0 := nr rfl
theorem od_ptmp (t : Nat) (p : Bool) : (Od.tmp t p).peek s = (match s.env t with | .sl .own es xs => if p then .bor ⟨.slot t, []⟩ else .sl .ro es (roL xs) | v => roD v) := nr rfl
theorem od_pcst (v : Value) (x : AV) : (Od.cst v x).peek s = x := nr rfl
theorem od_gtmp (t : Nat) (p : Bool) : (Od.tmp t p).grab s = (match s.env t with
    | .bor r => takeR s r
    | .sl .own es xs => some (.sl .own es xs, s.set t (.sl .ro es (roL xs)))
    | .agg cs => some (.agg cs, s.set t (.agg (roL cs)))
    | .tup cs => some (.tup cs, s.set t (.tup (roL cs)))
    | v => some (v, s)) := nr rfl
theorem od_gcst (v : Value) (x : AV) : (Od.cst v x).grab s = some (x, s) := nr rfl
end
end Go.Ev
namespace Go.Ev
open Go.RowKit
set_option linter.unusedVariables false
section
variable {P : Program} {gl : Tabs}
theorem keep_below {w w' : World} (h : Below w.heap.size w w') : Keep (fun _ _ => False) w w' :=
  ⟨h.os, h.tape, h.output, h.size, fun b hb _ => h.block b hb, fun b hb arr e fr hh => ⟨arr, by rw [h.block b hb]; exact hh, rfl, fun _ _ => rfl⟩⟩
theorem relT_lits {X : Cx} {t : Bool} : ∀ {us : List Value} {vs : List Value} {F : List Nat}, RelT X t (us.map .lit) vs F → vs = us := by
  intro us
  induction us with
  | nil => intro vs F h; cases h; rfl
  | cons u us ih =>
    intro vs F h
    simp only [List.map_cons] at h
    cases h with
    | cons _ _ v F1 _ vs F2 h hs hd => rw [ih hs, h.lit_inv.1]
theorem back_lit {w w' : World} {zf : Nat → Nat → Prop} {v : Value} (hv : scalar v = true) (h : Below w.heap.size w w') : Back w zf (.lit v) v w' :=
  ⟨keep_below h, { w := w', b0 := w.heap.size, bd := fun _ => none, bxc := fun _ _ => True, zf := zf, res := fun _ => none, hold := fun _ => none }, [], rfl, rfl, rfl, fun _ _ => rfl, .lit _ _ hv, fun b hb => (List.not_mem_nil hb).elim⟩
theorem snd_below {f : FuncId} {us : List Value} {v : Value} (hv : scalar v = true) (h : ∀ w zf, TabsAt gl w zf → Calls P f us.toArray w fun e w' => e = .returned v ∧ Below w.heap.size w w') : Snd P gl f (us.map .lit) (.lit v) := by
  intro w vals zf hzf htabs hargs
  have hvals : vals = us.toArray := by
    have := relT_lits hargs
    cases vals; simp at this; subst this; rfl
  subst hvals
  refine (h w zf htabs).mono ?_
  rintro e w' ⟨rfl, hb⟩
  exact ⟨v, rfl, back_lit hv hb⟩
theorem snd_same {f : FuncId} {us : List Value} {v : Value} (hv : scalar v = true) (h : ∀ w zf, TabsAt gl w zf → Calls P f us.toArray w fun e w' => e = .returned v ∧ w' = w) : Snd P gl f (us.map .lit) (.lit v) :=
  snd_below hv fun w zf ht => (h w zf ht).mono fun e w' ⟨h1, h2⟩ => ⟨h1, by subst h2; exact .refl _ _⟩
end
end Go.Ev
namespace Go.Ev
theorem eqs : type_of% (And.intro (And.intro (And.intro (And.intro (And.intro (And.intro (And.intro (@c_skip) (@c_reg)) (And.intro (@c_seq) (And.intro (@c_cond) (@c_block)))) (And.intro (And.intro (@c_loop) (@c_exit)) (And.intro (@c_ret) (And.intro (@seqK_n) (@seqK_e))))) (And.intro (And.intro (And.intro (@seqK_r) (@blockK_n)) (And.intro (@blockK_e) (And.intro (@blockK_r) (@loopK_n)))) (And.intro (And.intro (@loopK_e) (And.intro (@loopK_r) (@r_seq))) (And.intro (@r_draw) (And.intro (@drawK_a) (And.intro (@ch_nil) (@ch_no))))))) (And.intro (And.intro (And.intro (And.intro (@ch_cons) (@chK_a)) (And.intro (@re_nil) (And.intro (@re_cons) (@reK_a)))) (And.intro (And.intro (@s_nil) (And.intro (@s_cons) (@insK_a))) (And.intro (@g_none) (And.intro (@g_some) (@od_tmp))))) (And.intro (And.intro (And.intro (@od_cst) (@od_glb)) (And.intro (@od_ptmp) (And.intro (@od_pcst) (@od_gtmp)))) (And.intro (And.intro (@od_gcst) (And.intro (@fin_some) (@fin_none))) (And.intro (@put_t) (And.intro (@put_f) (@set_env))))))) (And.intro (And.intro (And.intro (And.intro (And.intro (@set_bx) (@setB_env)) (And.intro (@setB_bx) (And.intro (@kl_env) (@kl_bx)))) (And.intro (And.intro (@mk_env) (And.intro (@mk_bx) (@mkS_env))) (And.intro (@mkS_bx) (And.intro (@lk_cons) (@lk_nil))))) (And.intro (And.intro (And.intro (@only_mk) (@entry_env)) (And.intro (@entry_bx) (And.intro (@entryG_env') (@entryG_bx)))) (And.intro (And.intro (@argL_cons) (And.intro (@argL_nil) (@upd_app))) (And.intro (@backG_env) (And.intro (@backG_bx) (@v_peek)))))) (And.intro (And.intro (And.intro (And.intro (@v_take) (@v_asg)) (And.intro (@v_pick) (And.intro (@v_bin) (And.intro (@v_eqb) (@v_eqS))))) (And.intro (And.intro (@v_un) (And.intro (@v_cvt) (@v_same))) (And.intro (@v_b2s) (And.intro (@v_len) (@v_lenL))))) (And.intro (And.intro (And.intro (@v_idx) (@v_sub)) (And.intro (@v_slc) (And.intro (@v_fld) (@v_ext)))) (And.intro (And.intro (@v_fad) (And.intro (@v_iad) (@v_iadA))) (And.intro (@v_load) (And.intro (@v_chk) (@v_new)))))))) (And.intro (And.intro (And.intro (And.intro (And.intro (And.intro (@v_box) (@v_build)) (And.intro (@v_buildS) (And.intro (@v_app) (@v_store)))) (And.intro (And.intro (@v_mx) (@v_call)) (And.intro (@v_buildP) (And.intro (@v_s2b) (@v_mkS))))) (And.intro (And.intro (And.intro (@v_idxA) (@v_callG)) (And.intro (@v_callV) (And.intro (@v_mkF) (@cond_t)))) (And.intro (And.intro (@cond_f) (And.intro (@grd_tt) (@grd_b))) (And.intro (@grd_u) (And.intro (@grd_ff) (@grd_tf)))))) (And.intro (And.intro (And.intro (And.intro (@grd_ft) (@core_eq)) (And.intro (@byte_some) (And.intro (@getR_some) (@get_some)))) (And.intro (And.intro (@ext_some) (And.intro (@elem_some) (@true_or))) (And.intro (@or_true) (And.intro (@false_or) (@or_false))))) (And.intro (And.intro (And.intro (@and_self) (@false_implies)) (And.intro (@Bool.false_eq_true) (And.intro (@true_and) (@and_true)))) (And.intro (And.intro (@str_size) (And.intro (@str_toList) (@str_append))) (And.intro (@str_extract) (And.intro (@str_get) (@frnL_ss))))))) (And.intro (And.intro (And.intro (And.intro (And.intro (@resL_ss) (@roL_ss)) (And.intro (@klL_ss) (And.intro (@frnL_bs) (@resL_bs)))) (And.intro (And.intro (@roL_bs) (And.intro (@klL_bs) (@map_roD_ss))) (And.intro (@map_roD_bs) (And.intro (@ss_length) (@bs_length))))) (And.intro (And.intro (And.intro (@ss_snoc) (@bs_snoc)) (And.intro (@ss_append) (And.intro (@bs_append) (@bs_str)))) (And.intro (And.intro (@Nat.zero_add) (And.intro (@Nat.le_refl) (@Bool.and_self))) (And.intro (@Bool.and_true) (And.intro (@Bool.true_and) (@Int.toNat_natCast)))))) (And.intro (And.intro (And.intro (And.intro (@Int.toNat_zero) (@out_ret)) (And.intro (@out_norm) (And.intro (@grab_eq) (@outG_ret)))) (And.intro (And.intro (@outG_norm) (And.intro (@Bool.true_or) (@Bool.or_true))) (And.intro (@Bool.not_true) (And.intro (@Bool.not_false) (@decide_false))))) (And.intro (And.intro (And.intro (@decide_true) (@trL_ss)) (And.intro (@trL_bs) (And.intro (@passL_ss) (@passL_bs)))) (And.intro (And.intro (@Bool.or_self) (And.intro (@Bool.false_or) (@ss_take))) (And.intro (@ss_drop) (And.intro (@bs_take) (@bs_drop))))))))) := And.intro (And.intro (And.intro (And.intro (And.intro (And.intro (And.intro (@c_skip) (@c_reg)) (And.intro (@c_seq) (And.intro (@c_cond) (@c_block)))) (And.intro (And.intro (@c_loop) (@c_exit)) (And.intro (@c_ret) (And.intro (@seqK_n) (@seqK_e))))) (And.intro (And.intro (And.intro (@seqK_r) (@blockK_n)) (And.intro (@blockK_e) (And.intro (@blockK_r) (@loopK_n)))) (And.intro (And.intro (@loopK_e) (And.intro (@loopK_r) (@r_seq))) (And.intro (@r_draw) (And.intro (@drawK_a) (And.intro (@ch_nil) (@ch_no))))))) (And.intro (And.intro (And.intro (And.intro (@ch_cons) (@chK_a)) (And.intro (@re_nil) (And.intro (@re_cons) (@reK_a)))) (And.intro (And.intro (@s_nil) (And.intro (@s_cons) (@insK_a))) (And.intro (@g_none) (And.intro (@g_some) (@od_tmp))))) (And.intro (And.intro (And.intro (@od_cst) (@od_glb)) (And.intro (@od_ptmp) (And.intro (@od_pcst) (@od_gtmp)))) (And.intro (And.intro (@od_gcst) (And.intro (@fin_some) (@fin_none))) (And.intro (@put_t) (And.intro (@put_f) (@set_env))))))) (And.intro (And.intro (And.intro (And.intro (And.intro (@set_bx) (@setB_env)) (And.intro (@setB_bx) (And.intro (@kl_env) (@kl_bx)))) (And.intro (And.intro (@mk_env) (And.intro (@mk_bx) (@mkS_env))) (And.intro (@mkS_bx) (And.intro (@lk_cons) (@lk_nil))))) (And.intro (And.intro (And.intro (@only_mk) (@entry_env)) (And.intro (@entry_bx) (And.intro (@entryG_env') (@entryG_bx)))) (And.intro (And.intro (@argL_cons) (And.intro (@argL_nil) (@upd_app))) (And.intro (@backG_env) (And.intro (@backG_bx) (@v_peek)))))) (And.intro (And.intro (And.intro (And.intro (@v_take) (@v_asg)) (And.intro (@v_pick) (And.intro (@v_bin) (And.intro (@v_eqb) (@v_eqS))))) (And.intro (And.intro (@v_un) (And.intro (@v_cvt) (@v_same))) (And.intro (@v_b2s) (And.intro (@v_len) (@v_lenL))))) (And.intro (And.intro (And.intro (@v_idx) (@v_sub)) (And.intro (@v_slc) (And.intro (@v_fld) (@v_ext)))) (And.intro (And.intro (@v_fad) (And.intro (@v_iad) (@v_iadA))) (And.intro (@v_load) (And.intro (@v_chk) (@v_new)))))))) (And.intro (And.intro (And.intro (And.intro (And.intro (And.intro (@v_box) (@v_build)) (And.intro (@v_buildS) (And.intro (@v_app) (@v_store)))) (And.intro (And.intro (@v_mx) (@v_call)) (And.intro (@v_buildP) (And.intro (@v_s2b) (@v_mkS))))) (And.intro (And.intro (And.intro (@v_idxA) (@v_callG)) (And.intro (@v_callV) (And.intro (@v_mkF) (@cond_t)))) (And.intro (And.intro (@cond_f) (And.intro (@grd_tt) (@grd_b))) (And.intro (@grd_u) (And.intro (@grd_ff) (@grd_tf)))))) (And.intro (And.intro (And.intro (And.intro (@grd_ft) (@core_eq)) (And.intro (@byte_some) (And.intro (@getR_some) (@get_some)))) (And.intro (And.intro (@ext_some) (And.intro (@elem_some) (@true_or))) (And.intro (@or_true) (And.intro (@false_or) (@or_false))))) (And.intro (And.intro (And.intro (@and_self) (@false_implies)) (And.intro (@Bool.false_eq_true) (And.intro (@true_and) (@and_true)))) (And.intro (And.intro (@str_size) (And.intro (@str_toList) (@str_append))) (And.intro (@str_extract) (And.intro (@str_get) (@frnL_ss))))))) (And.intro (And.intro (And.intro (And.intro (And.intro (@resL_ss) (@roL_ss)) (And.intro (@klL_ss) (And.intro (@frnL_bs) (@resL_bs)))) (And.intro (And.intro (@roL_bs) (And.intro (@klL_bs) (@map_roD_ss))) (And.intro (@map_roD_bs) (And.intro (@ss_length) (@bs_length))))) (And.intro (And.intro (And.intro (@ss_snoc) (@bs_snoc)) (And.intro (@ss_append) (And.intro (@bs_append) (@bs_str)))) (And.intro (And.intro (@Nat.zero_add) (And.intro (@Nat.le_refl) (@Bool.and_self))) (And.intro (@Bool.and_true) (And.intro (@Bool.true_and) (@Int.toNat_natCast)))))) (And.intro (And.intro (And.intro (And.intro (@Int.toNat_zero) (@out_ret)) (And.intro (@out_norm) (And.intro (@grab_eq) (@outG_ret)))) (And.intro (And.intro (@outG_norm) (And.intro (@Bool.true_or) (@Bool.or_true))) (And.intro (@Bool.not_true) (And.intro (@Bool.not_false) (@decide_false))))) (And.intro (And.intro (And.intro (@decide_true) (@trL_ss)) (And.intro (@trL_bs) (And.intro (@passL_ss) (@passL_bs)))) (And.intro (And.intro (@Bool.or_self) (And.intro (@Bool.false_or) (@ss_take))) (And.intro (@ss_drop) (And.intro (@bs_take) (@bs_drop))))))))
end Go.Ev
namespace Go.Ev
open Go.RowKit Go.ChangeShapes Go.WideShapes Go.ChangeAt
open Go.ChangeMaps (open_string)
set_option linter.unusedVariables false
theorem below_keep {w w' : World} (h : Keep (fun _ _ => False) w w') : Below w.heap.size w w' :=
  ⟨h.os, h.tape, h.output, h.size, fun k hk => h.block k hk fun _ f => f⟩
section
variable {P : Program} {gl : Tabs}
def old (W : World) (b : Nat) (_ : Nat) : Prop := b < W.heap.size
theorem calls_law {f : FuncId} {args : List AV} {b : Bool} (h : Snd P gl f args (.lit (.bool b))) {W : World} {vals : Array Value} (ht : TabsAt gl W (old W)) (hr : RelT (X0 W (old W)) false args vals.toList []) :
    Calls P f vals W fun e W' => e = .returned (.bool b) ∧ Below W.heap.size W W' := by
  refine (h W vals (old W) (fun b i hb => hb) ht hr).mono ?_
  rintro e W' ⟨v, rfl, hk, X, F, _, _, _, _, hrel, _⟩
  exact ⟨by rw [hrel.lit_inv.1], below_keep hk⟩
theorem again_all {H : Type} {enc : TypeId × Value → H} (hl : laidOutB P = true) {W W' : World} (hb : Below W.heap.size W W') :
    ∀ {ts : List TypeId} {vs : List Value} {ds : List (DataW H)} {ps : List MemPlace}, ts.all (fun t => P.readableRec t && decide (t < P.types.size)) = true → DataW.TrodAll enc P W 0 (fun _ => true) true ts vs ds ps → (∀ x ∈ ps, x.block < W.heap.size) →
      DataW.TrodAll enc P W' 0 (fun b => decide (b < W.heap.size)) true ts vs ds ps
  | [], [], [], _, _, h, _ => h
  | t :: ts, v :: vs, d :: ds, _, ht, ⟨p, q, h1, h2, e⟩, hs => by
    simp only [List.all_cons, Bool.and_eq_true, decide_eq_true_eq] at ht
    exact ⟨p, q, Below.trod hl ht.1.1 ht.1.2 h1 hb (fun x hx => hs x (by rw [e]; exact List.mem_append_left _ hx)), again_all hl hb (by simpa using ht.2) h2 (fun x hx => hs x (by rw [e]; exact List.mem_append_right _ hx)), e⟩
theorem trodAll_len {H : Type} {enc : TypeId × Value → H} {W : World} {base : Nat} {spare : Nat → Bool} {held : Bool} : ∀ {ts : List TypeId} {vs : List Value} {ds : List (DataW H)} {ps : List MemPlace}, DataW.TrodAll enc P W base spare held ts vs ds ps → ds.length = ts.length
  | [], [], [], _, _ => rfl
  | t :: ts, v :: vs, d :: ds, _, ⟨p, q, h1, h2, e⟩ => by simp [trodAll_len h2]
theorem contract_law {H : Type} {enc : TypeId × Value → H} {f : FuncId} {fn : Func} {s : ChangeSpec} (hl : laidOutB P = true) (hp : fn.params.toList.all (fun t => P.readableRec t && decide (t < P.types.size)) = true)
    (hv : s.vars = []) {tb : TypeId} (hrt : fn.resultTypes.toList = [tb]) (hrs : fn.resultTypes.size = 1) (htb : P.underlying tb = some .bool)
    (hfn : ∀ ds : List (DataW H), ds.length = fn.params.toList.length → s.fn H ds = { results := [.lit (.bool true)], args := ds })
    {W : World} {args : Array Value} {ds gs : List (DataW H)} {before : List MemPlace} (hW : DataW.Whole enc P fn.params.toList s.vars false W args.toList ds gs before)
    (hc : Calls P f args W fun e W' => e = .returned (.bool true) ∧ Below W.heap.size W W') :
    Calls P f args W fun e W' => ∃ v, e = .returned v ∧ s.post enc P fn false true false false W args v W' := by
  refine hc.mono ?_
  rintro e W' ⟨rfl, hb⟩
  have hW' := hW
  have hlt : ∀ x ∈ before, x.block < W.heap.size := fun x hx => by simpa using hW'.lt x hx
  obtain ⟨p, q, hA, hV, rfl, _, _⟩ := hW
  rw [hv] at hV
  obtain ⟨rfl, rfl⟩ := trodVars_none hV
  have e1 : s.fn H (ds ++ []) = { results := [.lit (.bool true)], args := ds } := by rw [List.append_nil]; exact hfn ds (trodAll_len hA)
  rw [List.append_nil] at hlt
  have hag := again_all hl hb hp hA hlt
  refine ⟨_, rfl, ds, [], _, [], p, [], hW', ?_, ?_, ?_, hb.frame _, fun h => by cases h⟩
  · rw [e1, hrt, hrs]; exact trodAll_mk1 (shut_bool htb _)
  · rw [e1]; exact hag
  · rw [e1, hv]; rfl
theorem rel_string {X : Cx} {t : Bool} {b : ByteArray} : Rel X t (S b.data.toList) (.string b) [] := by
  have e : S b.data.toList = .lit (.string b) := by show AV.lit (.string (str _)) = _; rw [str_data]
  rw [e]; exact .lit _ _ rfl
end
end Go.Ev
namespace Go.Ev
open Go.RowKit Go.ChangeShapes Go.WideShapes Go.ChangeAt
set_option linter.unusedVariables false
set_option linter.unusedSimpArgs false
inductive Kd where
  | int (k : IntKind)
  | bool
  | str
  | sl (e : Kd)
  | pr (a b : Kd)
  | st (a : Kd)
@[reducible] def Kd.val : Kd → Type
  | .int _ => Int
  | .bool => Bool
  | .str => Bs
  | .sl e => List e.val
  | .pr a b => a.val × b.val
  | .st a => a.val
def Kd.size : Kd → Nat
  | .int _ => 1
  | .bool => 1
  | .str => 1
  | .sl _ => 1
  | .pr a b => a.size + b.size
  | .st a => a.size
def Kd.top : Kd → Bool
  | .pr _ _ => false
  | _ => true
def Kd.fine : Kd → Bool
  | .sl e => e.top && e.fine
  | .pr a b => a.fine && b.fine
  | .st a => a.fine
  | _ => true
def kt' (k : Kd) (cs : List AV) : AV := match k with
  | .st _ => .agg cs
  | _ => cs.headD .junk
def kc (fl : Fl) : (k : Kd) → k.val → List AV
  | .int q, n => [.lit (.int q n)]
  | .bool, b => [B b]
  | .str, s => [S s]
  | .sl e, l => [.sl fl e.size (List.map (fun v => kt' e (kc fl e v)) l)]
  | .pr a b, v => kc fl a v.1 ++ kc fl b v.2
  | .st a, v => kc fl a v
def kt (fl : Fl) (k : Kd) (v : k.val) : AV := kt' k (kc fl k v)
def ks (fl : Fl) (k : Kd) (l : List k.val) : List AV := l.map (kt fl k)
theorem kc_len (fl : Fl) (k : Kd) (v : k.val) : (kc fl k v).length = k.size := by
  induction k with
  | pr a b iha ihb => simp only [kc, List.length_append, iha, ihb, Kd.size]
  | st a ih => exact ih v
  | _ => rfl
theorem kt_cells (fl : Fl) (k : Kd) (hk : k.top = true) (v : k.val) : cellsOf (kt fl k v) = kc fl k v := by
  cases k with
  | pr a b => cases hk
  | _ => rfl
theorem ks_cells (fl : Fl) (k : Kd) (hk : k.top = true) (l : List k.val) : ∀ x, x ∈ ks fl k l → (cellsOf x).length = k.size := by
  intro x hx
  obtain ⟨v, _, rfl⟩ := List.mem_map.1 hx
  rw [kt_cells fl k hk, kc_len]
theorem kt'_map (f : AV → AV) (hf : ∀ cs, f (.agg cs) = .agg (cs.map f)) (k : Kd) (hk : k.top = true) (cs : List AV) (hc : cs ≠ []) : f (kt' k cs) = kt' k (cs.map f) := by
  cases cs with
  | nil => exact absurd rfl hc
  | cons c cs => cases k <;> first | rfl | exact hf _ | cases hk
theorem kc_ne (fl : Fl) (k : Kd) (v : k.val) : kc fl k v ≠ [] := by
  have : ∀ k : Kd, 0 < k.size := by intro k; induction k <;> simp [Kd.size] <;> omega
  intro h
  have h1 := kc_len fl k v
  rw [h] at h1
  have := this k
  simp at h1; omega
theorem kc_map (f : AV → AV) (fl fl' : Fl) (hl : ∀ v, f (.lit v) = .lit v) (ha : ∀ cs, f (.agg cs) = .agg (cs.map f)) (hs : ∀ es (xs ys : List AV), xs.map f = ys → f (.sl fl es xs) = .sl fl' es ys) :
    ∀ (k : Kd), k.fine = true → ∀ (v : k.val), (kc fl k v).map f = kc fl' k v := by
  intro k
  induction k with
  | int q => intro _ v; simp [kc, hl]
  | bool => intro _ v; simp [kc, hl]
  | str => intro _ v; simp [kc, hl]
  | sl e ih =>
    intro hk v
    simp only [Kd.fine, Bool.and_eq_true] at hk
    simp only [kc, List.map_cons, List.map_nil]
    have hx : ∀ l : List e.val, List.map f (List.map (fun v => kt' e (kc fl e v)) l) = List.map (fun v => kt' e (kc fl' e v)) l := by
      intro l
      induction l with
      | nil => rfl
      | cons x l ihl =>
        simp only [List.map_cons] at ihl ⊢
        rw [ihl, kt'_map f ha e hk.1 _ (kc_ne _ _ _), ih hk.2]
    rw [hs e.size _ (List.map (fun v => kt' e (kc fl' e v)) v) (hx v)]
  | pr a b iha ihb =>
    intro hk v
    simp only [Kd.fine, Bool.and_eq_true] at hk
    simp only [kc, List.map_append, iha hk.1, ihb hk.2]
  | st a ih => intro hk v; simp only [Kd.fine] at hk; simp only [kc]; exact ih hk v
theorem ks_map (f : AV → AV) (fl fl' : Fl) (hl : ∀ v, f (.lit v) = .lit v) (ha : ∀ cs, f (.agg cs) = .agg (cs.map f)) (hs : ∀ es (xs ys : List AV), xs.map f = ys → f (.sl fl es xs) = .sl fl' es ys)
    (k : Kd) (hk : k.fine = true) (ht : k.top = true) (l : List k.val) : (ks fl k l).map f = ks fl' k l := by
  simp only [ks, List.map_map]
  apply List.map_congr_left
  intro v _
  simp only [Function.comp, kt]
  rw [kt'_map f ha k ht _ (kc_ne _ _ _), kc_map f fl fl' hl ha hs k hk]
section
variable (fl : Fl) (k : Kd) (hk : k.fine = true) (ht : k.top = true)
include hk ht
theorem frnL_ks (l : List k.val) : frnL (ks fl k l) = ks .frn k l := by
  rw [frnL_eq]; exact ks_map frnD fl .frn (fun _ => rfl) (fun cs => by simp [frnD, frnL_eq]) (fun es xs ys h => by simp [frnD, frnL_eq, h]) k hk ht l
theorem roL_ks_own (l : List k.val) : roL (ks .own k l) = ks .ro k l := by
  rw [roL_eq]; exact ks_map roD .own .ro (fun _ => rfl) (fun cs => by simp [roD, roL_eq]) (fun es xs ys h => by simp [roD, roL_eq, h]) k hk ht l
theorem roL_ks_ro (l : List k.val) : roL (ks .ro k l) = ks .ro k l := by
  have hid : ∀ (k : Kd), k.fine = true → ∀ (v : k.val), (kc .ro k v).map roD = kc .ro k v := by
    intro k
    induction k with
    | pr a b iha ihb => intro hk v; simp only [Kd.fine, Bool.and_eq_true] at hk; simp only [kc, List.map_append, iha hk.1, ihb hk.2]
    | st a ih => intro hk v; exact ih hk v
    | _ => intro hk v; simp [kc, roD]
  rw [roL_eq]
  simp only [ks, List.map_map]
  apply List.map_congr_left
  intro v _
  simp only [Function.comp, kt]
  rw [kt'_map roD (fun cs => by simp [roD, roL_eq]) k ht _ (kc_ne _ _ _), hid k hk]
theorem roL_ks_frn (l : List k.val) : roL (ks .frn k l) = ks .frn k l := by
  have hid : ∀ (k : Kd), k.fine = true → ∀ (v : k.val), (kc .frn k v).map roD = kc .frn k v := by
    intro k
    induction k with
    | pr a b iha ihb => intro hk v; simp only [Kd.fine, Bool.and_eq_true] at hk; simp only [kc, List.map_append, iha hk.1, ihb hk.2]
    | st a ih => intro hk v; exact ih hk v
    | _ => intro hk v; simp [kc, roD]
  rw [roL_eq]
  simp only [ks, List.map_map]
  apply List.map_congr_left
  intro v _
  simp only [Function.comp, kt]
  rw [kt'_map roD (fun cs => by simp [roD, roL_eq]) k ht _ (kc_ne _ _ _), hid k hk]
theorem resL_ks_own (l : List k.val) : resL (ks .own k l) = ks .own k l := by
  rw [resL_eq]; exact ks_map resD .own .own (fun _ => rfl) (fun cs => by simp [resD, resL_eq]) (fun es xs ys h => by simp [resD, resL_eq, h]) k hk ht l
theorem resL_ks_ro (l : List k.val) : resL (ks .ro k l) = ks .ro k l := by
  rw [resL_eq]; exact ks_map resD .ro .ro (fun _ => rfl) (fun cs => by simp [resD, resL_eq]) (fun es xs ys h => by simp [resD, resL_eq, h]) k hk ht l
theorem klL_ks (p : Bool → Ref → Bool) (l : List k.val) : klL p false (ks fl k l) = ks fl k l := by
  have hid : ∀ (k : Kd), k.fine = true → ∀ (v : k.val), (kc fl k v).map (kl p false) = kc fl k v := by
    intro k
    induction k with
    | pr a b iha ihb => intro hk v; simp only [Kd.fine, Bool.and_eq_true] at hk; simp only [kc, List.map_append, iha hk.1, ihb hk.2]
    | st a ih => intro hk v; exact ih hk v
    | _ => intro hk v; simp [kc, kl]
  rw [klL_eq]
  simp only [ks, List.map_map]
  apply List.map_congr_left
  intro v _
  simp only [Function.comp, kt]
  rw [kt'_map (kl p false) (fun cs => by simp [kl, klL_eq]) k ht _ (kc_ne _ _ _), hid k hk]
theorem klL_ks_own (p : Bool → Ref → Bool) (l : List k.val) : klL p true (ks .own k l) = ks .own k l := by
  rw [klL_eq]; exact ks_map (kl p true) .own .own (fun _ => rfl) (fun cs => by simp [kl, klL_eq]) (fun es xs ys h => by simp [kl, klL_eq, h]) k hk ht l
theorem klL_ks_frn (p : Bool → Ref → Bool) (l : List k.val) : klL p true (ks .frn k l) = ks .frn k l := by
  rw [klL_eq]; exact ks_map (kl p true) .frn .frn (fun _ => rfl) (fun cs => by simp [kl, klL_eq]) (fun es xs ys h => by simp [kl, klL_eq, h]) k hk ht l
theorem passL_ks_own (l : List k.val) : passL (ks .own k l) = ks .frn k l := by
  rw [passL_eq]; exact ks_map passD .own .frn (fun _ => rfl) (fun cs => by simp [passD, passL_eq]) (fun es xs ys h => by simp [passD, passL_eq, h]) k hk ht l
theorem passL_ks_frn (l : List k.val) : passL (ks .frn k l) = ks .frn k l := by
  rw [passL_eq]; exact ks_map passD .frn .frn (fun _ => rfl) (fun cs => by simp [passD, passL_eq]) (fun es xs ys h => by simp [passD, passL_eq, h]) k hk ht l
theorem trL_ks_own (ρ : Nat → Option Nat) (rf : Bool) (l : List k.val) : trL ρ rf (ks .own k l) = ks .own k l := by
  rw [trL_eq]; exact ks_map (tr ρ rf) .own .own (fun _ => by simp [tr]) (fun cs => by simp [tr, trL_eq]) (fun es xs ys h => by simp [tr, trL_eq, h]) k hk ht l
theorem trL_ks_frn (ρ : Nat → Option Nat) (l : List k.val) : trL ρ false (ks .frn k l) = ks .frn k l := by
  rw [trL_eq]; exact ks_map (tr ρ false) .frn .frn (fun _ => by simp [tr]) (fun cs => by simp [tr, trL_eq]) (fun es xs ys h => by simp [tr, trL_eq, h]) k hk ht l
end
theorem ks_length (fl : Fl) (k : Kd) (l : List k.val) : (ks fl k l).length = l.length := by simp [ks]
theorem ks_snoc (fl : Fl) (k : Kd) (l : List k.val) (x : k.val) : ks fl k l ++ [kt fl k x] = ks fl k (l ++ [x]) := by simp [ks]
mutual
def kd (P : Program) : Nat → Kd → TypeId → Bool
  | 0, _, _ => false
  | n + 1, k, t => match k, P.underlying t with
    | .int q, some (.int q') => decide (q = q')
    | .bool, some .bool => true
    | .str, some .string => true
    | .sl e, some (.slice te) => e.top && kd P n e te && P.cellsOf te == e.size
    | .st a, some (.struct fs) => P.cellsOf t == a.size && kf P n a fs.toList 0
    | _, _ => false
def kf (P : Program) : Nat → Kd → List Field → Nat → Bool
  | 0, _, _, _ => false
  | n + 1, k, fs, off => match k, fs with
    | .pr a b, f :: r => f.offset == off && kd P n a f.type && P.cellsOf f.type == a.size && kf P n b r (off + a.size)
    | k, [f] => f.offset == off && kd P n k f.type && P.cellsOf f.type == k.size
    | _, _ => false
end
structure Bulk (H : Type) where
  b : DataW H → Nat
  all : List (DataW H) → Nat
  str : ∀ s, b (.lit (.string s)) = s.length + 1
  int : ∀ k n, b (.lit (.int k n)) = 1
  bool : ∀ x, b (.lit (.bool x)) = 1
  nil : b .nil = 1
  slice : ∀ e s, b (.slice e s) = all e + all s + 1
  agg : ∀ ps, b (.agg ps) = all ps + 1
  none : all [] = 0
  cons : ∀ d r, all (d :: r) = b d + all r
def ksum {α : Type} (f : α → Nat) : List α → Nat
  | [] => 0
  | x :: l => f x + ksum f l
def kb : (k : Kd) → k.val → Nat
  | .int _, _ => 1
  | .bool, _ => 1
  | .str, s => List.length s + 1
  | .sl e, l => ksum (fun v => kb e v) l + 1
  | .pr a b, v => kb a v.1 + kb b v.2
  | .st a, v => kb a v + 1
def kall {α : Type} (p : α → Prop) (l : List α) : Prop := ∀ x, x ∈ l → p x
def kok : (k : Kd) → k.val → Prop
  | .int q, n => (Lit.int q n).wf = true
  | .bool, _ => True
  | .str, _ => True
  | .sl e, l => kall (fun v => kok e v) l
  | .pr a b, v => kok a v.1 ∧ kok b v.2
  | .st a, v => kok a v
theorem ksum_append {α : Type} (f : α → Nat) (a b : List α) : ksum f (a ++ b) = ksum f a + ksum f b := by
  induction a with
  | nil => simp [ksum]
  | cons x a ih => simp only [List.cons_append, ksum, ih]; omega
theorem Bulk.append {H : Type} (U : Bulk H) (a b : List (DataW H)) : U.all (a ++ b) = U.all a + U.all b := by
  induction a with
  | nil => simp [U.none]
  | cons x a ih => simp only [List.cons_append, U.cons, ih]; omega
section
variable {H : Type} {enc : TypeId × Value → H} {P : Program} {W : World} {held : Bool}
abbrev Tr (enc : TypeId × Value → H) (P : Program) (W : World) (held : Bool) (n : Nat) (t : TypeId) (cs : List Value) := DataW.trod enc P W 0 (fun _ => true) held n t cs
theorem rows_in (U : Bulk H) {e : Kd} (he : e.top = true) {te : TypeId} {n : Nat} (hc : P.cellsOf te = e.size) {a : Addr}
    (ih : ∀ cs d ps, Tr enc P W held n te cs = some (d, ps) → ∃ v : e.val, kok e v ∧ kb e v ≤ U.b d ∧ RelL (X0 W (old W)) false (kc .frn e v) cs []) (elems : List (DataW H × List MemPlace))
    (hel : ∀ i, i < elems.length → (W.cells? 0 (a.add (i * P.cellsOf te)) (P.cellsOf te)).bind (Tr enc P W held n te) = elems[i]?) :
    ∀ m, m ≤ elems.length → ∃ (vs : List e.val) (cs : List Value), vs.length = m ∧ cs.length = m * e.size ∧ (∀ k v, cs[k]? = some v → W.cell? (a.add k) = some v) ∧ kok (.sl e) vs ∧ ksum (kb e) vs ≤ U.all ((elems.take m).map (·.1)) ∧
      RelL (X0 W (old W)) false (flat (ks .frn e vs)) cs [] := by
  intro m
  induction m with
  | zero => intro _; exact ⟨[], [], rfl, by simp, by simp, (fun x hx => by cases hx), by simp [ksum], .nil _⟩
  | succ m ihm =>
    intro hm
    obtain ⟨vs, cs, h1, h2, h3, h4, h5, h6⟩ := ihm (by omega)
    have hg := hel m (by omega)
    rw [List.getElem?_eq_getElem (by omega : m < elems.length), Option.bind_eq_some_iff] at hg
    obtain ⟨cs', hcs, htr⟩ := hg
    obtain ⟨_, hl, hcell⟩ := World.cells?_some hcs
    obtain ⟨v, k1, k2, k3⟩ := ih cs' elems[m].1 elems[m].2 htr
    rw [hc] at hl hcell
    refine ⟨vs ++ [v], cs ++ cs', by simp [h1], by rw [List.length_append, h2, hl, Nat.add_mul]; omega, ?_, ?_, ?_, ?_⟩
    · intro k u hk
      by_cases hlt : k < cs.length
      · rw [List.getElem?_append_left hlt] at hk; exact h3 k u hk
      · rw [List.getElem?_append_right (by omega)] at hk
        have hk2 := (List.getElem?_eq_some_iff.1 hk).1
        have := hcell (k - cs.length) (by omega)
        rw [Addr.add_add] at this
        rw [hk] at this
        rw [← this]; congr 2; rw [h2] at hlt ⊢; omega
    · intro x hx
      rcases List.mem_append.1 hx with hx | hx
      · exact h4 x hx
      · simp at hx; subst hx; exact k1
    · rw [ksum_append, List.take_succ_eq_append_getElem (by omega), List.map_append, U.append]
      simp only [ksum, List.map_cons, List.map_nil, U.cons, U.none]
      omega
    · rw [show ks .frn e (vs ++ [v]) = ks .frn e vs ++ [kt .frn e v] from (ks_snoc _ _ _ _).symm, flat_append]
      have e1 : flat [kt .frn e v] = kc .frn e v := by rw [flat_cons, flat_nil, List.append_nil, kt_cells .frn e he]
      rw [e1]
      exact h6.append k3 (fun b hb => by cases hb)
theorem kd_in (U : Bulk H) : ∀ (n : Nat),
    (∀ (k : Kd) (t : TypeId) (fuel : Nat) (cs : List Value) (d : DataW H) (ps : List MemPlace), kd P n k t = true → Tr enc P W held fuel t cs = some (d, ps) → ∃ v : k.val, kok k v ∧ kb k v ≤ U.b d ∧ RelL (X0 W (old W)) false (kc .frn k v) cs []) ∧
    (∀ (k : Kd) (fs : List Field) (off : Nat) (fuel : Nat) (cs : List Value) (xs : List (DataW H × List MemPlace)), kf P n k fs off = true → cs.length = off + k.size → xs.length = fs.length →
      (∀ (i : Nat) (f : Field), fs[i]? = some f → Tr enc P W held fuel f.type ((cs.drop f.offset).take (P.cellsOf f.type)) = xs[i]?) →
      ∃ v : k.val, kok k v ∧ kb k v ≤ U.all (xs.map (·.1)) ∧ RelL (X0 W (old W)) false (kc .frn k v) (cs.drop off) []) := by
  intro n
  induction n with
  | zero => exact ⟨fun k t fuel cs d ps h => by simp [kd] at h, fun k fs off fuel cs xs h => by simp [kf] at h⟩
  | succ n ih =>
    obtain ⟨ih1, ih2⟩ := ih
    have hkd : ∀ (k : Kd) (t : TypeId) (fuel : Nat) (cs : List Value) (d : DataW H) (ps : List MemPlace), kd P (n + 1) k t = true → Tr enc P W held fuel t cs = some (d, ps) → ∃ v : k.val, kok k v ∧ kb k v ≤ U.b d ∧ RelL (X0 W (old W)) false (kc .frn k v) cs [] := by
      intro k t fuel cs d ps h htr
      simp only [kd] at h
      cases k with
      | pr a b => simp at h
      | int q =>
        split at h <;> try (simp at h; done)
        · rename_i q1 q2 e1 e2
          injection e1 with e1
          subst e1
          obtain rfl := of_decide_eq_true h
          obtain ⟨m, rfl, e, hw⟩ := DataW.trod_int e2 htr
          injection e with e _; subst e
          exact ⟨m, hw, by rw [U.int]; simp [kb], .cons _ _ _ [] _ _ [] rfl (.lit _ _ rfl) (.nil _) (fun b hb => by cases hb)⟩
        all_goals (rename_i e1 _; cases e1)
      | bool =>
        split at h <;> try (simp at h; done)
        all_goals first
          | (rename_i e1 e2
             obtain ⟨b, rfl, e⟩ := DataW.trod_bool e2 htr
             injection e with e _; subst e
             exact ⟨b, trivial, by rw [U.bool]; simp [kb], .cons _ _ _ [] _ _ [] rfl (.lit _ _ rfl) (.nil _) (fun b hb => by cases hb)⟩)
          | (rename_i e1 _; cases e1)
      | str =>
        split at h <;> try (simp at h; done)
        all_goals first
          | (rename_i e1 e2
             obtain ⟨s, rfl, e, hw⟩ := DataW.trod_string e2 htr
             injection e with e _; subst e
             exact ⟨s.data.toList, trivial, by rw [U.str]; simp [kb], .cons _ _ _ [] _ _ [] rfl rel_string (.nil _) (fun b hb => by cases hb)⟩)
          | (rename_i e1 _; cases e1)
      | sl e =>
        split at h <;> try (simp at h; done)
        all_goals first
          | (rename_i e1 _; cases e1; done)
          | skip
        rename_i e' te e1 e2
        injection e1 with e1; subst e1
        simp only [Bool.and_eq_true, beq_iff_eq] at h
        rcases DataW.trod_slice e2 htr with ⟨rfl, e3⟩ | ⟨a, len, cap, elems, rest, n', _, rfl, e3, hb, hl, hm, hlen, hel, hsp, hns⟩
        · injection e3 with e3 _; subst e3
          exact ⟨[], (fun x hx => by cases hx), by rw [U.nil]; simp [kb, ksum], .cons _ _ _ [] _ _ [] rfl (.nil _ _ _ _) (.nil _) (fun b hb => by cases hb)⟩
        · injection e3 with e3 _; subst e3
          obtain ⟨vs, cs', h1, h2, h3, h4, h5, h6⟩ := rows_in U h.1.1 h.2 (a := a) (fun cs d ps => ih1 e te n' cs d ps h.1.2) elems (fun i hi => hel i (by omega)) elems.length (Nat.le_refl _)
          refine ⟨vs, h4, ?_, ?_⟩
          · rw [U.slice]; rw [List.take_length] at h5; have e : kb (.sl e) vs = ksum (kb e) vs + 1 := rfl; rw [e]; omega
          · refine .cons _ _ _ [] _ _ [] rfl ?_ (.nil _) (fun b hb => by cases hb)
            have := Rel.imm (X := X0 W (old W)) false .frn (ks .frn e vs) a cap e.size cs' (by simp) (by rw [ks_length]; omega) (ks_cells .frn e h.1.1 vs)
              (fun k v hk => ⟨h3 k v hk, by have := cell_lt (h3 k v hk); rw [Addr.add_block] at this; exact this⟩) h6
            rw [ks_length, h1, hlen] at this
            exact this
      | st a =>
        split at h <;> try (simp at h; done)
        all_goals first
          | (rename_i e1 _; cases e1; done)
          | skip
        rename_i a' fs e1 e2
        injection e1 with e1; subst e1
        simp only [Bool.and_eq_true, beq_iff_eq] at h
        obtain ⟨xs, n', _, e3, hcl, hxl, hx⟩ := DataW.trod_struct e2 htr
        injection e3 with e3 _; subst e3
        obtain ⟨v, h1, h2, h3⟩ := ih2 a fs.toList 0 n' cs xs h.2 (by rw [hcl, h.1]; omega) (by rw [hxl]; simp) (fun i f hf => hx i f (by simpa using hf))
        exact ⟨v, h1, by rw [U.agg]; simp only [kb]; omega, by simpa [kc] using h3⟩
    refine ⟨hkd, ?_⟩
    intro k fs off fuel cs xs h hcl hxl hx
    simp only [kf] at h
    split at h
    · rename_i a b f r
      simp only [Bool.and_eq_true, beq_iff_eq] at h
      obtain ⟨⟨⟨h1, h2⟩, h3⟩, h4⟩ := h
      cases xs with
      | nil => simp at hxl
      | cons x xs =>
        have hx0 := hx 0 f rfl
        simp only [List.getElem?_cons_zero] at hx0
        obtain ⟨v, v1, v2, v3⟩ := ih1 a f.type fuel _ x.1 x.2 h2 hx0
        obtain ⟨u, u1, u2, u3⟩ := ih2 b r (off + a.size) fuel cs xs h4 (by rw [hcl]; simp only [Kd.size]; omega) (by simpa using hxl) (fun i g hg => by have := hx (i + 1) g (by simpa using hg); simpa using this)
        refine ⟨(v, u), ⟨v1, u1⟩, ?_, ?_⟩
        · simp only [List.map_cons, U.cons, kb]; omega
        · rw [h1, h3] at v3
          have e : cs.drop off = (cs.drop off).take a.size ++ cs.drop (off + a.size) := by rw [← List.drop_drop, List.take_append_drop]
          rw [e]
          exact v3.append u3 (fun b hb => by cases hb)
    · rename_i f _
      simp only [Bool.and_eq_true, beq_iff_eq] at h
      obtain ⟨⟨h1, h2⟩, h3⟩ := h
      match xs, hxl with
      | [x], _ =>
        have hx0 := hx 0 f rfl
        simp only [List.getElem?_cons_zero] at hx0
        obtain ⟨v, v1, v2, v3⟩ := ih1 k f.type fuel _ x.1 x.2 h2 hx0
        refine ⟨v, v1, ?_, ?_⟩
        · simp only [List.map_cons, List.map_nil, U.cons, U.none]; omega
        · rw [h1, h3] at v3
          have e : (cs.drop off).take k.size = cs.drop off := by rw [List.take_of_length_le]; rw [List.length_drop, hcl]; omega
          rw [e] at v3; exact v3
    · cases h
theorem rel_kd (U : Bulk H) {n : Nat} {k : Kd} {t : TypeId} (hk : kd P n k t = true) {v : Value} {d : DataW H} {ps : List MemPlace} {r : Reach} {b0 : Nat}
    (hval : Value.okWide P W r b0 t v) (hd : DataW.Trod enc P W 0 (fun _ => true) held t v d ps) :
    ∃ x : k.val, kok k x ∧ kb k x ≤ U.b d ∧ Rel (X0 W (old W)) false (kt .frn k x) v [] := by
  obtain ⟨fuel, hf⟩ := hd
  obtain ⟨x, h1, h2, h3⟩ := (kd_in U n).1 k t fuel _ d ps hk hf
  refine ⟨x, h1, h2, ?_⟩
  cases n with
  | zero => simp [kd] at hk
  | succ n =>
    have one : ∀ (y : AV) (hv : v.cells = #[v]), kt .frn k x = y → kc .frn k x = [y] → Rel (X0 W (old W)) false (kt .frn k x) v [] := by
      intro y hv e1 e2
      rw [e1]
      rw [e2, hv] at h3
      have hg : ∀ {cs vs F}, RelL (X0 W (old W)) false cs vs F → cs = [y] → vs = [v] → F = [] → Rel (X0 W (old W)) false y v [] := by
        intro cs vs F h a b c
        cases h with
        | nil => cases a
        | cons _ _ _ F _ _ G _ h _ _ =>
          injection a with a1 a2; injection b with b1 b2; subst a1; subst b1
          have : F = [] := (List.append_eq_nil_iff.1 c).1
          rw [this] at h; exact h
      exact hg h3 rfl (by simp) rfl
    simp only [kd] at hk
    cases k with
    | pr a b => simp at hk
    | int q =>
      split at hk <;> try (simp at hk; done)
      · rename_i q1 q2 e1 e2
        obtain ⟨m, rfl⟩ := okWide_int e2 hval
        exact one _ rfl rfl rfl
      all_goals (rename_i e1 _; cases e1)
    | bool =>
      split at hk <;> try (simp at hk; done)
      all_goals first
        | (rename_i e1 e2
           obtain ⟨b, rfl⟩ := okWide_bool e2 hval
           exact one _ rfl rfl rfl)
        | (rename_i e1 _; cases e1)
    | str =>
      split at hk <;> try (simp at hk; done)
      all_goals first
        | (rename_i e1 e2
           obtain ⟨b, rfl⟩ := okWide_string e2 hval
           exact one _ rfl rfl rfl)
        | (rename_i e1 _; cases e1)
    | sl e =>
      split at hk <;> try (simp at hk; done)
      all_goals first
        | (rename_i e1 e2
           obtain ⟨a, l, c, rfl⟩ := okWide_slice e2 hval
           exact one _ rfl rfl rfl)
        | (rename_i e1 _; cases e1)
    | st a =>
      split at hk <;> try (simp at hk; done)
      all_goals first
        | (rename_i e1 e2
           obtain ⟨cs, rfl, hcs⟩ := okWide_struct e2 hval
           exact .agg _ _ cs.toList [] h3)
        | (rename_i e1 _; cases e1)
end
end Go.Ev

