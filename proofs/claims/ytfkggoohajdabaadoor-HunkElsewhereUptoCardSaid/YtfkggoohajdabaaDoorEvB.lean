import Derived.Test.YtfkggoohajdabaaDoorEvA
import Derived.Laws.StructEq
import Derived.ChangeKeysEq
import Derived.Laws.IdiomStrings
import Derived.Laws.MakeOwn
import Derived.Laws.BytesArg
set_option linter.unusedVariables false
set_option linter.unusedSimpArgs false
/- The instructions of the evaluator, what each asks and does, and how an operation becomes one. -/
namespace Go.Ev
set_option linter.unusedVariables false
inductive Od where
  | tmp (t : Nat) (ps : Bool)
  | cst (v : Value) (x : AV)
  | glb (g : Nat) (vs : List Value)
inductive Md where
  | peek | take | asg
  deriving DecidableEq
inductive AM where
  | pass | give | ptr
  deriving DecidableEq
structure Kn where
  s : FuncId → List AV → AV → Prop
  g : FuncId → List AV → List (List AV) → AV → List (List AV) → Prop
  v : FuncId → Prop
inductive AOp where
  | mov (x : Od) (md : Md)
  | pick (c x y : Od)
  | bin (op : BinOp) (x y : Od)
  | eqb (neg : Bool) (x y : Od)
  | eqS (ks : List Nat) (neg : Bool) (x y : Od)
  | un (op : UnOp) (x : Od)
  | cvt (k : IntKind) (x : Od)
  | same (x : Od)
  | b2s (x : Od)
  | len (x : Od)
  | lenL (x : Od)
  | idx (x i : Od)
  | sub (x : Od) (lo hi : Option Od)
  | slc (es : Nat) (x : Od) (lo hi : Option Od)
  | slcT (es : Nat) (x hi : Od)
  | fld (x : Od) (off n : Nat) (agg : Bool)
  | ext (x : Od) (i : Nat)
  | fad (x : Od) (off : Nat)
  | iad (x i : Od) (es : Nat)
  | iadA (x i : Od) (len es : Nat)
  | load (x : Od) (n : Nat) (agg tk : Bool)
  | chk (x : Od)
  | new (cells : List AV)
  | box (x : Od)
  | build (cells : List AV) (parts : List (Nat × Nat × Od))
  | buildS (es len : Nat) (cells : List AV) (parts : List (Nat × Nat × Od))
  | app (es bytes : Nat) (s x : Od)
  | store (a x : Od) (n : Nat)
  | mx (isMax : Bool) (x y : Od)
  | call (f : FuncId) (args : List Od)
  | buildP (cells : List AV) (parts : List (Nat × Nat × Od))
  | s2b (x : Od)
  | mkS (es bytes : Nat) (cells : List AV) (x y : Od)
  | idxA (x i : Od) (len es : Nat) (agg : Bool)
  | callG (f : FuncId) (args : List (Od × AM))
  | callV (x : Od) (args : List Od)
  | mkF (f : FuncId) (caps : List Od)
structure Ins where
  dst : Option (Nat × Bool)
  grd : Option (Nat × Bool)
  op : AOp
def Od.val (s : St) : Od → AV
  | .tmp t _ => s.env t
  | .cst _ x => x
  | .glb _ vs => .cell .frn (vs.map .lit) 0
def Od.peek (s : St) : Od → AV
  | .tmp t ps => Ev.peek s ps t
  | .cst _ x => x
  | .glb _ vs => .cell .frn (vs.map .lit) 0
def Od.grab (s : St) : Od → Option (AV × St)
  | .tmp t _ => Ev.grab s t
  | .cst _ x => some (x, s)
  | .glb _ vs => some (.cell .frn (vs.map .lit) 0, s)
def content (s : St) : AV → Option (Nat × List AV)
  | .sl _ es xs => some (es, xs)
  | .bor r => match getH s r with
    | some (.sl _ es xs) => some (es, xs)
    | _ => none
  | _ => none
def fin (dst : Option (Nat × Bool)) (s : St) (v : AV) : St :=
  match dst with
  | some (d, pd) => s.put pd d v
  | none => s
def binObl : BinOp → Value → Value → Prop
  | .shl, .int _ _, .int _ b | .shr, .int _ _, .int _ b => 0 ≤ b
  | op, .int k a, .int k' b => k = k' ∧ (op = .quo ∨ op = .rem → b ≠ 0)
  | .add, .string x, .string y => x.size + y.size ≤ 9223372036854775807
  | op, .string _, .string _ => op = .eql ∨ op = .neq ∨ op = .lss ∨ op = .leq ∨ op = .gtr ∨ op = .geq
  | _, _, _ => False
def binVal : BinOp → Value → Value → Value
  | .add, .int k a, .int _ b => .int k (k.wrap (a + b))
  | .sub, .int k a, .int _ b => .int k (k.wrap (a - b))
  | .mul, .int k a, .int _ b => .int k (k.wrap (a * b))
  | .quo, .int k a, .int _ b => .int k (k.wrap (a.tdiv b))
  | .rem, .int k a, .int _ b => .int k (a.tmod b)
  | .and, .int k a, .int _ b => .int k (k.wrap (BitVec.ofInt k.bits a &&& BitVec.ofInt k.bits b).toNat)
  | .or, .int k a, .int _ b => .int k (k.wrap (BitVec.ofInt k.bits a ||| BitVec.ofInt k.bits b).toNat)
  | .xor, .int k a, .int _ b => .int k (k.wrap (BitVec.ofInt k.bits a ^^^ BitVec.ofInt k.bits b).toNat)
  | .andNot, .int k a, .int _ b => .int k (k.wrap (BitVec.ofInt k.bits a &&& ~~~(BitVec.ofInt k.bits b)).toNat)
  | .shl, .int k a, .int _ b => .int k (k.wrap (a * 2 ^ (min b.toNat k.bits)))
  | .shr, .int k a, .int _ b => .int k (a.fdiv (2 ^ (min b.toNat k.bits)))
  | .eql, .int _ a, .int _ b => .bool (a == b)
  | .neq, .int _ a, .int _ b => .bool (a != b)
  | .lss, .int _ a, .int _ b => .bool (decide (a < b))
  | .leq, .int _ a, .int _ b => .bool (decide (a ≤ b))
  | .gtr, .int _ a, .int _ b => .bool (decide (a > b))
  | .geq, .int _ a, .int _ b => .bool (decide (a ≥ b))
  | .add, .string x, .string y => .string (x ++ y)
  | .eql, .string x, .string y => .bool (x.toList == y.toList)
  | .neq, .string x, .string y => .bool (!(x.toList == y.toList))
  | .lss, .string x, .string y => .bool (Op.bytesLess x.toList y.toList)
  | .leq, .string x, .string y => .bool (Op.bytesLess x.toList y.toList || x.toList == y.toList)
  | .gtr, .string x, .string y => .bool (!(Op.bytesLess x.toList y.toList || x.toList == y.toList))
  | .geq, .string x, .string y => .bool (!(Op.bytesLess x.toList y.toList))
  | _, _, _ => undef
def unVal : UnOp → Value → Option Value
  | .neg, .int k n => some (.int k (k.wrap (0 - n)))
  | .xor, .int k n => some (.int k (k.wrap (BitVec.ofInt k.bits (if k.signed then -1 else k.max) ^^^ BitVec.ofInt k.bits n).toNat))
  | .not, .bool b => some (.bool !b)
  | _, _ => none
def okCells : AV → Bool
  | .junk | .tup _ => false
  | .lit v => isCell v
  | _ => true
def grabs (s : St) : List (Nat × Nat × Od) → Option (List (Nat × Nat × AV) × St)
  | [] => some ([], s)
  | (off, n, x) :: rest =>
    match x.grab s with
    | none => none
    | some (y, s1) => if okCells y then (match grabs s1 rest with
      | none => none
      | some (ys, s2) => some ((off, n, y) :: ys, s2)) else none
def place (cells : List AV) : List (Nat × Nat × AV) → Option (List AV)
  | [] => some cells
  | (off, n, y) :: rest => if (cellsOf y).length = n ∧ off + n ≤ cells.length then place (cells.take off ++ cellsOf y ++ cells.drop (off + n)) rest else none
def elt (es : Nat) (cells : List AV) : AV := if es = 1 then cells.headD .junk else .agg (cells.take es)
def chunk (es : Nat) (cells : List AV) : Nat → List AV
  | 0 => []
  | n + 1 => elt es cells :: chunk es (cells.drop es) n
mutual
def frnD : AV → AV
  | .lit v => .lit v
  | .sl _ es xs => .sl .frn es (frnL xs)
  | .agg cs => .agg (frnL cs)
  | _ => .junk
def frnL : List AV → List AV
  | [] => []
  | x :: xs => frnD x :: frnL xs
end
mutual
def resD : AV → AV
  | .lit v => .lit v
  | .sl fl es xs => .sl (if fl = .own then .own else .ro) es (resL xs)
  | .agg cs => .agg (resL cs)
  | .tup cs => .tup (resL cs)
  | _ => .junk
def resL : List AV → List AV
  | [] => []
  | x :: xs => resD x :: resL xs
end
def passA (s : St) (x : AV) : AV :=
  match x with
  | .bor r => match getH s r with
    | some y => frnD y
    | none => .junk
  | x => frnD x
def isPtr : AV → Bool
  | .ptr _ => true
  | _ => false
def peeks (s : St) : List (Nat × Nat × Od) → Option (List (Nat × Nat × AV))
  | [] => some []
  | (off, n, x) :: rest => if okCells (x.peek s) then (match peeks s rest with
    | none => none
    | some ys => some ((off, n, x.peek s) :: ys)) else none
mutual
def tr (ρ : Nat → Option Nat) (rf : Bool) : AV → AV
  | .lit v => .lit v
  | .sl fl es xs => .sl (if fl = .own then .own else if rf then .ro else fl) es (trL ρ rf xs)
  | .agg cs => .agg (trL ρ rf cs)
  | .tup cs => .tup (trL ρ rf cs)
  | .ptr r => (match r with
    | ⟨.box n k, []⟩ => (match ρ n with | some m => .ptr ⟨.box m k, []⟩ | none => .junk)
    | _ => .junk)
  | _ => .junk
def trL (ρ : Nat → Option Nat) (rf : Bool) : List AV → List AV
  | [] => []
  | x :: xs => tr ρ rf x :: trL ρ rf xs
end
mutual
def passD : AV → AV
  | .lit v => .lit v
  | .sl fl es xs => if fl = .ro then .junk else .sl .frn es (passL xs)
  | .agg cs => .agg (passL cs)
  | _ => .junk
def passL : List AV → List AV
  | [] => []
  | x :: xs => passD x :: passL xs
end
inductive PA where
  | pass (x : AV)
  | give (y : AV)
  | box (n : Nat)
def idxIn : List Nat → Nat → Nat → Option Nat
  | [], _, _ => none
  | m :: ms, n, j => if n = m then some j else idxIn ms n (j + 1)
def rhoIn (ns : List Nat) (n : Nat) : Option Nat := idxIn ns n 10000
def rhoOut (ns : List Nat) (m : Nat) : Option Nat := if 10000 ≤ m then ns[m - 10000]? else none
def nsOf : List PA → List Nat
  | [] => []
  | .box n :: r => n :: nsOf r
  | .pass _ :: r => nsOf r
  | .give _ :: r => nsOf r
def passG (s : St) (ns : List Nat) : AV → AV
  | .bor r => (match r.root with
    | .box n _ => if ns.contains n then .junk else (match getH s r with | some y => passD y | none => .junk)
    | .slot _ => (match getH s r with | some y => passD y | none => .junk))
  | x => passD x
def argG (s : St) (ns : List Nat) : PA → AV
  | .pass x => passG s ns x
  | .give y => tr (rhoIn ns) false y
  | .box n => .ptr ⟨.box ((rhoIn ns n).getD 0) 0, []⟩
def gives (s : St) : List (Od × AM) → Option (List (Option AV) × St)
  | [] => some ([], s)
  | (x, m) :: r => if m = .give then (match x.grab s with
      | some (y, s1) => (match gives s1 r with | some (ys, s2) => some (some y :: ys, s2) | none => none)
      | none => none)
    else (match gives s r with | some (ys, s2) => some (none :: ys, s2) | none => none)
def boxPA : AV → Option PA
  | .ptr ⟨.box n 0, []⟩ => some (.box n)
  | _ => none
def pasOf (s : St) : List (Od × AM) → List (Option AV) → Option (List PA)
  | [], [] => some []
  | (x, m) :: r, y :: ys => (match (match y with | some z => some (PA.give z) | none => if m = .pass then some (.pass (x.val s)) else boxPA (x.val s)), pasOf s r ys with
    | some p, some ps => some (p :: ps)
    | _, _ => none)
  | _, _ => none
def capsPA : List AV → Option (List PA)
  | [] => some []
  | x :: xs => (match boxPA x, capsPA xs with
    | some p, some ps => some (p :: ps)
    | _, _ => none)
def boxesAt (s : St) : List Nat → Option (List (List AV))
  | [] => some []
  | n :: ns => (match s.bx n, boxesAt s ns with
    | some cs, some css => some (cs :: css)
    | _, _ => none)
def viaMem (isBor : Bool) (r : Ref) : Bool :=
  decide (2 ≤ r.path.length) || (match r.root with | .box _ _ => isBor || decide (1 ≤ r.path.length) | .slot _ => isBor && decide (1 ≤ r.path.length))
def backG (s : St) (ns : List Nat) (bxs : List (List AV)) : St :=
  { env := fun t => Ev.kl viaMem true (s.env t), bx := fun n => match idxIn ns n 0 with | some j => some (trL (rhoOut ns) true (bxs.getD j [])) | none => (s.bx n).map (klL viaMem true) }
def noDup : List Nat → Bool
  | [] => true
  | n :: ns => !ns.contains n && noDup ns
def coreG (C : Kn) (f : FuncId) (pas : List PA) (s : St) (dst : Option (Nat × Bool)) (K : St → Prop) : Prop :=
  noDup (nsOf pas) = true ∧ (match boxesAt s (nsOf pas) with
    | some bxs => ∃ res bxs', C.g f (pas.map (argG s (nsOf pas))) (bxs.map (trL (rhoIn (nsOf pas)) false)) res bxs' ∧ bxs'.map (·.length) = bxs.map (·.length) ∧
        K (fin dst (backG s (nsOf pas) bxs') (tr (rhoOut (nsOf pas)) true res))
    | none => False)
def eqC : List Nat → List AV → List AV → Option Bool
  | [], [], [] => some true
  | 0 :: ks, .lit (.int k a) :: cs, .lit (.int k' b) :: ds => if k = k' then (eqC ks cs ds).map fun r => (a == b) && r else none
  | 1 :: ks, .lit (.string a) :: cs, .lit (.string b) :: ds => (eqC ks cs ds).map fun r => (a.toList == b.toList) && r
  | 2 :: ks, .lit (.bool a) :: cs, .lit (.bool b) :: ds => (eqC ks cs ds).map fun r => (a == b) && r
  | _, _, _ => none
def vc (C : Kn) (dst : Option (Nat × Bool)) (op : AOp) (s : St) (K : St → Prop) : Prop :=
  match op with
  | .mov x md => (match md with
    | .peek => K (fin dst s (x.peek s))
    | .take => (match x.grab s with | some (y, s') => K (fin dst s' y) | none => False)
    | .asg => (match x.val s with
      | .bor r => K (fin dst s (.bor r))
      | _ => (match x.grab s with | some (y, s') => K (fin dst s' y) | none => False)))
  | .pick c x y => (match c.val s with
    | .lit (.bool b) => (match x.val s, y.val s with
      | .lit u, .lit v => K (fin dst s (.lit (if b then u else v)))
      | u, v => K (fin dst s (if b then x.peek s else y.peek s)))
    | _ => False)
  | .bin op x y => (match x.val s, y.val s with
    | .lit u, .lit v => binObl op u v ∧ K (fin dst s (.lit (binVal op u v)))
    | _, _ => False)
  | .eqb neg x y => (match x.val s, y.val s with
    | .lit (.bool a), .lit (.bool b) => K (fin dst s (.lit (.bool (if neg then !(a == b) else a == b))))
    | _, _ => False)
  | .eqS ks neg x y => (match x.val s, y.val s with
    | .agg cs, .agg ds => (match eqC ks cs ds with | some b => K (fin dst s (.lit (.bool (if neg then !b else b)))) | none => False)
    | _, _ => False)
  | .un op x => (match x.val s with
    | .lit u => (match unVal op u with | some v => K (fin dst s (.lit v)) | none => False)
    | _ => False)
  | .cvt k x => (match x.val s with
    | .lit (.int _ n) => K (fin dst s (.lit (.int k (k.wrap n))))
    | _ => False)
  | .same x => (match x.val s with
    | .lit (.string b) => K (fin dst s (.lit (.string b)))
    | _ => False)
  | .b2s x => (match content s (x.val s) with
    | some (es, xs) => es = 1 ∧ ∃ b : ByteArray, xs = b.data.toList.map (fun c => .lit (.int .u8 c.toNat)) ∧ K (fin dst s (.lit (.string b)))
    | none => False)
  | .len x => (match x.val s with
    | .lit (.string b) => K (fin dst s (.lit (.int .i64 b.size)))
    | _ => False)
  | .lenL x => (match content s (x.val s) with | some (_, xs) => K (fin dst s (.lit (.int .i64 xs.length))) | none => False)
  | .idx x i => (match x.val s, i.val s with
    | .lit (.string b), .lit (.int _ n) => 0 ≤ n ∧ ∃ c, b[n.toNat]? = some c ∧ K (fin dst s (.lit (.int .u8 c.toNat)))
    | _, _ => False)
  | .sub x lo hi => (match x.val s, (lo.map (·.val s)).getD (.lit (.int .i64 0)), hi.map (·.val s) with
    | .lit (.string b), .lit (.int _ l), none => 0 ≤ l ∧ l ≤ b.size ∧ K (fin dst s (.lit (.string (b.extract l.toNat b.size))))
    | .lit (.string b), .lit (.int _ l), some (.lit (.int _ h)) => 0 ≤ l ∧ l ≤ h ∧ h ≤ b.size ∧ K (fin dst s (.lit (.string (b.extract l.toNat h.toNat))))
    | _, _, _ => False)
  | .slc es0 x lo hi => (match content s (x.val s), (lo.map (·.val s)).getD (.lit (.int .i64 0)), hi.map (·.val s) with
    | some (es, xs), .lit (.int _ l), none => es = es0 ∧ 0 ≤ l ∧ l ≤ xs.length ∧ K (fin dst s (.sl (match x.val s with | .sl .frn _ _ => .frn | _ => .ro) es (match x.val s with | .sl .frn _ _ => xs.drop l.toNat | _ => (xs.drop l.toNat).map roD)))
    | some (es, xs), .lit (.int _ l), some (.lit (.int _ h)) => es = es0 ∧ 0 ≤ l ∧ l ≤ h ∧ h ≤ xs.length ∧ K (fin dst s (.sl (match x.val s with | .sl .frn _ _ => .frn | _ => .ro) es (match x.val s with | .sl .frn _ _ => (xs.take h.toNat).drop l.toNat | _ => ((xs.take h.toNat).drop l.toNat).map roD)))
    | _, _, _ => False)
  | .slcT es x hi => (match hi.val s, x.grab s with
    | .lit (.int _ n), some (.sl .own es' xs, s') => es' = es ∧ 0 ≤ n ∧ n ≤ xs.length ∧ K (fin dst (s'.kl viaDeep true) (.sl .own es (klL viaDeep true (xs.take n.toNat))))
    | _, _ => False)
  | .fld x off n agg => (match x.val s with
    | .agg cs => off + n ≤ cs.length ∧ (if agg then K (fin dst s (.agg (((cs.drop off).take n).map roD))) else ∃ y, cs[off]? = some y ∧ K (fin dst s (roD y)))
    | _ => False)
  | .ext x i => (match x with
    | .tmp t _ => (match s.env t with
      | .tup vs => ∃ y, vs[i]? = some y ∧ K (fin dst (s.set t (.tup (vs.set i (roD y)))) y)
      | _ => False)
    | _ => False)
  | .fad x off => (match x.val s with
    | .ptr r => K (fin dst s (.ptr (r.addOff off)))
    | .cell fl cs o => K (fin dst s (.cell fl cs (o + off)))
    | _ => False)
  | .iad x i es => (match i.val s with
    | .lit (.int _ n) => (match x.val s with
      | .bor r => (match getH s r with
        | some (.sl _ es' xs) => es' = es ∧ 0 ≤ n ∧ n < xs.length ∧ K (fin dst s (.ptr (r.idx n.toNat es)))
        | _ => False)
      | .sl fl es' xs => es' = es ∧ 0 ≤ n ∧ ∃ y, xs[n.toNat]? = some y ∧ K (fin dst s (if fl = .own then .cell .ro (roL (cellsOf y)) 0 else .cell fl (cellsOf y) 0))
      | _ => False)
    | _ => False)
  | .iadA x i len es => (match i.val s with
    | .lit (.int _ n) => 0 ≤ n ∧ n < len ∧ (match x.val s with
      | .ptr r => K (fin dst s (.ptr (r.addOff (n.toNat * es))))
      | .cell fl cs o => K (fin dst s (.cell fl cs (o + n.toNat * es)))
      | _ => False)
    | _ => False)
  | .load x n agg tk => (match x.val s with
    | .ptr r => (match getR s r with
      | some cs => n ≤ cs.length ∧ 0 < n ∧ (if agg then (match partB tk r with | some (d, k) => K (fin dst (s.setP d k n) (.agg (cs.take n))) | none => K (fin dst s (.agg ((cs.take n).map roD)))) else
          match (cs[0]? : Option AV) with
          | some (.sl .own es xs) => if tk then (match takeR s r with | some (y, s') => K (fin dst s' y) | none => False) else K (fin dst s (.bor r))
          | some y => K (fin dst s (roD y))
          | none => False)
      | none => False)
    | .cell fl cs o => o + n ≤ cs.length ∧ 0 < n ∧ (if agg then K (fin dst s (.agg ((cs.drop o).take n))) else ∃ y, cs[o]? = some y ∧ K (fin dst s y))
    | _ => False)
  | .chk x => (match x.val s with
    | .ptr r => K (fin dst s (.ptr r))
    | .cell fl cs o => K (fin dst s (.cell fl cs o))
    | _ => False)
  | .new cells => (match dst with
    | some (d, pd) => K (((s.kl (viaBox d) false).setB d (klL (viaBox d) false cells)).put pd d (.ptr ⟨.box d 0, []⟩))
    | none => False)
  | .box x => (match dst, x.grab s with
    | some (d, pd), some (y, s') => okCells y = true ∧ K (((s'.kl (viaBox d) false).setB d (klL (viaBox d) false (cellsOf y))).put pd d (.ptr ⟨.box d 0, []⟩))
    | _, _ => False)
  | .build cells parts => (match grabs s parts with
    | some (ys, s') => (match place cells ys with | some cs => K (fin dst s' (.agg cs)) | none => False)
    | none => False)
  | .buildS es len cells parts => (match grabs s parts with
    | some (ys, s') => (match place cells ys with | some cs => cs.all plainC = true ∧ K (fin dst s' (.sl .own es (chunk es cs len))) | none => False)
    | none => False)
  | .app es bytes sx x => (match sx.grab s with
    | some (.sl .own es' xs, s1) => es' = es ∧ (match x.val s1, x.grab s1 with
      | .bor r, _ => (match getH s1 r with
        | some (.sl _ es2 ys) => es2 = es ∧ (xs.length + ys.length) * bytes ≤ 140737488355328 ∧ K (fin dst (s1.kl viaDeep false) (.sl .own es (xs ++ ys.map roD)))
        | _ => False)
      | _, some (.lit (.string b), s2) => es = 1 ∧ (xs.length + b.size) * bytes ≤ 140737488355328 ∧ K (fin dst (s2.kl viaDeep false) (.sl .own es (xs ++ b.data.toList.map fun c => .lit (.int .u8 c.toNat))))
      | _, some (.sl fl es2 ys, s2) => es2 = es ∧ (xs.length + ys.length) * bytes ≤ 140737488355328 ∧ K (fin dst (s2.kl viaDeep false) (.sl .own es (xs ++ ys)))
      | _, _ => False)
    | _ => False)
  | .store a x n => (match a.val s, x.grab s with
    | .ptr r, some (y, s1) => okCells y = true ∧ (cellsOf y).length = n ∧ 0 < n ∧ (match writeR s1 r (cellsOf y) with | some s2 => K s2 | none => False)
    | _, _ => False)
  | .mx isMax x y => (match x.val s, y.val s with
    | .lit (.int k a), .lit (.int k' b) => k = k' ∧ K (fin dst s (.lit (.int k (if isMax then max a b else min a b))))
    | _, _ => False)
  | .call f args => (∃ res, C.s f (args.map fun x => passA s (x.val s)) res ∧ K (fin dst s (resD res)))
  | .buildP cells parts => (match peeks s parts with
    | some ys => (match place cells ys with | some cs => K (fin dst s (.agg cs)) | none => False)
    | none => False)
  | .s2b x => (match x.val s with
    | .lit (.string b) => K (fin dst s (.sl .own 1 (b.data.toList.map fun c => .lit (.int .u8 c.toNat))))
    | _ => False)
  | .mkS es bytes cells x y => (match x.val s, y.val s with
    | .lit (.int _ l), .lit (.int _ c) => 0 ≤ l ∧ l ≤ c ∧ bytes * c ≤ 140737488355328 ∧ c ≤ 140737488355328 ∧ K (fin dst s (.sl .own es (List.replicate l.toNat (elt es cells))))
    | _, _ => False)
  | .idxA x i len es agg => (match x.val s, i.val s with
    | .agg cs, .lit (.int _ n) => 0 ≤ n ∧ n < len ∧ n.toNat * es + es ≤ cs.length ∧ (if agg then K (fin dst s (.agg (((cs.drop (n.toNat * es)).take es).map roD))) else ∃ y, cs[n.toNat * es]? = some y ∧ K (fin dst s (roD y)))
    | _, _ => False)
  | .callG f args => (match gives s args with
    | some (ys, s1) => (match pasOf s1 args ys with
      | some pas => coreG C f pas s1 dst K
      | none => False)
    | none => False)
  | .callV x args => (match x.val s with
    | .lit (.func (.func f) _ _) => C.v f ∧ ∃ res, C.s f (args.map fun x => passA s (x.val s)) res ∧ K (fin dst s (resD res))
    | .clo f caps => C.v f ∧ (match capsPA caps with
      | some ps => coreG C f (args.map (fun x => PA.pass (x.val s)) ++ ps) s dst K
      | none => False)
    | _ => False)
  | .mkF f caps => caps.all (fun x => isPtr (x.val s)) = true ∧ K (fin dst s (if caps = [] then .lit (.func (.func f) #[] #[]) else .clo f (caps.map fun x => x.val s)))
def vcG (C : Kn) (i : Ins) (s : St) (K : St → Prop) : Prop :=
  match i.grd with
  | none => vc C i.dst i.op s K
  | some (t, want) => match s.env t with
    | .lit (.bool b) => (b = want → vc C i.dst i.op s K) ∧ (b ≠ want → K (fin i.dst s (.lit undef)))
    | .lit (.tuple _) => K (fin i.dst s (.lit undef))
    | _ => False
def vcs (C : Kn) : List Ins → St → (St → Prop) → Prop
  | [], s, K => K s
  | i :: is, s, K => vcG C i s fun s' => vcs C is s' K
end Go.Ev
namespace Go.Ev
set_option linter.unusedVariables false
def cellTys (P : Program) : Nat → TypeId → List TypeId
  | 0, t => [t]
  | d + 1, t => match P.underlying t with
    | some (.struct fs) => fs.toList.flatMap fun f => cellTys P d f.type
    | some (.array n e) => (List.replicate n (cellTys P d e)).flatten
    | _ => [t]
def esOf (P : Program) (t : Option TypeId) : Nat :=
  match t.bind P.underlying with
  | some (.slice e) => P.cellsOf e
  | _ => 0
def avCell (P : Program) (t : Option TypeId) (v : Value) : Option AV :=
  match v with
  | .slice none 0 0 => some (.sl .own (esOf P t) [])
  | v => if scalar v then some (.lit v) else none
def avCells (P : Program) : List TypeId → List Value → Option (List AV)
  | _, [] => some []
  | ts, v :: vs => match avCell P ts.head? v, avCells P ts.tail vs with
    | some x, some xs => some (x :: xs)
    | _, _ => none
def avOf (P : Program) (t : Option TypeId) (v : Value) : Option AV :=
  match v with
  | .agg cs => (avCells P ((t.map (cellTys P 16)).getD []) cs.toList).map .agg
  | v => avCell P t v
theorem avCell_rel {P : Program} {X : Cx} {t : Bool} {ty : Option TypeId} {v : Value} {x : AV} (h : avCell P ty v = some x) : Rel X t x v [] := by
  unfold avCell at h
  split at h
  · injection h with h; subst h; exact .nil _ _ _ _
  · split at h
    · rename_i hs; injection h with h; subst h; exact .lit _ _ hs
    · cases h
theorem avCells_rel {P : Program} {X : Cx} {t : Bool} : ∀ {vs : List Value} {ts : List TypeId} {xs : List AV}, (∀ v, v ∈ vs → isCell v = true) → avCells P ts vs = some xs → RelL X t xs vs [] := by
  intro vs
  induction vs with
  | nil => intro ts xs _ h; simp only [avCells, Option.some.injEq] at h; subst h; exact .nil _
  | cons v vs ih =>
    intro ts xs hc h
    simp only [avCells] at h
    split at h
    · rename_i x xs' h1 h2
      injection h with h; subst h
      exact .cons _ x v [] xs' vs [] (hc v (List.mem_cons_self ..)) (avCell_rel h1) (ih (fun v hv => hc v (List.mem_cons_of_mem _ hv)) h2) (fun b hb => (List.not_mem_nil hb).elim)
    · cases h
def flatV (v : Value) : Bool := match v with | .agg cs => cs.toList.all isCell | _ => true
theorem avOf_rel {P : Program} {X : Cx} {t : Bool} {ty : Option TypeId} {v : Value} {x : AV} (hf : flatV v = true) (h : avOf P ty v = some x) : Rel X t x v [] := by
  unfold avOf at h
  split at h
  · rename_i cs
    simp only [Option.map_eq_some_iff] at h
    obtain ⟨xs, h1, rfl⟩ := h
    have := avCells_rel (X := X) (t := t) (fun v hv => by simp only [flatV, List.all_eq_true] at hf; exact hf v hv) h1
    have := Rel.agg t xs cs.toList [] this
    simpa using this
  · exact avCell_rel h
structure Tabs where
  t : Nat → Option (List Value)
  sg : FuncId → Option (List AM)
instance : CoeFun Tabs fun _ => Nat → Option (List Value) := ⟨Tabs.t⟩
def compOd (P : Program) (gl : Tabs) (pers : Nat → Bool) (ty : Option TypeId) : Operand → Option Od
  | .tmp t => some (.tmp t (pers t))
  | .const v => if flatV v then (avOf P ty v).map (.cst v) else none
  | .func f => some (.cst (.func (.func f) #[] #[]) (.lit (.func (.func f) #[] #[])))
  | .global g => (gl g).map (.glb g)
def Sized (gl : Tabs) (w : World) : Prop := ∀ g vs, gl g = some vs → 1 < vs.length → ∃ arr e fr, w.heap[g]? = some (.cells arr e fr) ∧ arr.size = vs.length
theorem Sized.keep {gl : Tabs} {T : Nat → Nat → Prop} {w w' : World} (h : Sized gl w) (hk : Keep T w w') : Sized gl w' := by
  intro g vs hg hl
  obtain ⟨arr, e, fr, h1, h2⟩ := h g vs hg hl
  obtain ⟨arr', h3, h4, _⟩ := hk.cells g (Array.getElem?_eq_some_iff.1 h1).1 arr e fr h1
  exact ⟨arr', e, fr, h3, by omega⟩
def isErr (ev : Value) : Prop := ev = .nilIface ∨ ∃ te pe, ev = .iface te pe
structure Fc.Ok (fc : Fc) (gl : Tabs) : Prop where
  zfT : ∀ b i, fc.zf b i → ¬ fc.T b i
  glob : ∀ g vs, gl g = some vs → (∀ v, v ∈ vs → scalar v = true ∧ isCell v = true) ∧ ∀ k v, vs[k]? = some v → fc.w0.cell? ⟨g, k, none⟩ = some v ∧ fc.zf g k
  size : Sized gl fc.w0
  errs : ∀ g, gl g = some [] → ∃ ev, fc.w0.cell? ⟨g, 0, none⟩ = some ev ∧ fc.zf g 0 ∧ isErr ev
theorem Keep.cell {T : Nat → Nat → Prop} {w0 w : World} (h : Keep T w0 w) {b i : Nat} {v : Value} (hT : ¬ T b i) (hc : w0.cell? ⟨b, i, none⟩ = some v) : w.cell? ⟨b, i, none⟩ = some v := by
  have hb := cell_lt hc
  unfold World.cell? at hc
  simp only at hc
  split at hc
  · rename_i arr e fr hh
    obtain ⟨arr', h1, h2, h3⟩ := h.cells b hb arr e fr hh
    unfold World.cell?
    simp only [h1]
    rw [h3 i hT]; exact hc
  · cases hc
section
variable {fc : Fc} {s : St} {a : Act} {w : World} {g : Gh} {gl : Tabs}
theorem lits_rel {X : Cx} : ∀ (vs : List Value), (∀ v, v ∈ vs → scalar v = true ∧ isCell v = true) → RelL X false (vs.map .lit) vs []
  | [], _ => .nil _
  | v :: vs, h => .cons _ _ v [] _ vs [] (h v (List.mem_cons_self ..)).2 (.lit _ _ (h v (List.mem_cons_self ..)).1) (lits_rel vs fun u hu => h u (List.mem_cons_of_mem _ hu)) (fun b hb => (List.not_mem_nil hb).elim)
theorem glb_rel (h : SR fc s a w g) (hok : fc.Ok gl) {n : Nat} {vs : List Value} (hg : gl n = some vs) : Rel (cx fc s a w g) true (.cell .frn (vs.map .lit) 0) (.pointer (some ⟨n, 0, none⟩)) [] := by
  obtain ⟨h1, h2⟩ := hok.glob n vs hg
  refine .cell .frn _ 0 ⟨n, 0, none⟩ _ vs (by decide) (by simp [Addr.add]) (fun k v hk => ?_) (lits_rel vs h1)
  obtain ⟨h3, h4⟩ := h2 k v hk
  rw [Addr.add_spot rfl]
  simp only [Nat.zero_add]
  exact ⟨h.keep.cell (hok.zfT _ _ h4) h3, by simpa [Cx.sees, cx] using h4⟩
theorem od_val (P : Program) (h : SR fc s a w g) (hok : fc.Ok gl) {ty : Option TypeId} {x : Operand} {y : Od} (hc : compOd P gl fc.pers ty x = some y) :
    ∃ F, Rel (cx fc s a w g) true (y.val s) (a.eval x) F ∧ (∀ b, b ∈ F → ∃ q, b ∈ g.F q) := by
  cases x with
  | tmp t => simp only [compOd, Option.some.injEq] at hc; subst hc; exact ⟨_, h.slots t, fun b hb => ⟨_, hb⟩⟩
  | const v =>
    simp only [compOd] at hc
    split at hc
    · rename_i hf
      simp only [Option.map_eq_some_iff] at hc
      obtain ⟨x, h1, rfl⟩ := hc
      exact ⟨[], avOf_rel hf h1, fun b hb => (List.not_mem_nil hb).elim⟩
    · cases hc
  | func f => simp only [compOd, Option.some.injEq] at hc; subst hc; exact ⟨[], .lit _ _ rfl, fun b hb => (List.not_mem_nil hb).elim⟩
  | global n =>
    simp only [compOd, Option.map_eq_some_iff] at hc
    obtain ⟨vs, h1, rfl⟩ := hc
    exact ⟨[], glb_rel h hok h1, fun b hb => (List.not_mem_nil hb).elim⟩
theorem od_peek (P : Program) (h : SR fc s a w g) (hok : fc.Ok gl) {ty : Option TypeId} {x : Operand} {y : Od} (hc : compOd P gl fc.pers ty x = some y) : Rel (cx fc s a w g) true (y.peek s) (a.eval x) [] := by
  cases x with
  | tmp t => simp only [compOd, Option.some.injEq] at hc; subst hc; exact peek_rel h t rfl
  | const v =>
    simp only [compOd] at hc
    split at hc
    · rename_i hf
      simp only [Option.map_eq_some_iff] at hc
      obtain ⟨x, h1, rfl⟩ := hc
      exact avOf_rel hf h1
    · cases hc
  | func f => simp only [compOd, Option.some.injEq] at hc; subst hc; exact .lit _ _ rfl
  | global n =>
    simp only [compOd, Option.map_eq_some_iff] at hc
    obtain ⟨vs, h1, rfl⟩ := hc
    exact glb_rel h hok h1
theorem od_grab' (P : Program) (h : SR fc s a w g) (hok : fc.Ok gl) {ty : Option TypeId} {x : Operand} {y : Od} (hc : compOd P gl fc.pers ty x = some y) {z : AV} {s' : St} (hg : y.grab s = some (z, s')) :
    ∃ F H, SR fc s' a w { g with F := F } ∧ Rel (cx fc s' a w { g with F := F }) true z (a.eval x) H ∧ Hand fc s' { g with F := F } H ∧ Sub g F H := by
  have triv : ∀ {z : AV} {v : Value}, Rel (cx fc s a w g) true z v [] → ∃ F H, SR fc s a w { g with F := F } ∧ Rel (cx fc s a w { g with F := F }) true z v H ∧ Hand fc s { g with F := F } H ∧ Sub g F H :=
    fun hr => ⟨g.F, [], h, hr, .nil _ _ _, fun q b hb => hb, fun b hb => (List.not_mem_nil hb).elim⟩
  cases x with
  | tmp t => simp only [compOd, Option.some.injEq] at hc; subst hc; exact h.grab' hg
  | const v =>
    simp only [compOd] at hc
    split at hc
    · rename_i hf
      simp only [Option.map_eq_some_iff] at hc
      obtain ⟨x, h1, rfl⟩ := hc
      simp only [Od.grab, Option.some.injEq, Prod.mk.injEq] at hg
      obtain ⟨rfl, rfl⟩ := hg
      exact triv (avOf_rel hf h1)
    · cases hc
  | func f =>
    simp only [compOd, Option.some.injEq] at hc; subst hc
    simp only [Od.grab, Option.some.injEq, Prod.mk.injEq] at hg
    obtain ⟨rfl, rfl⟩ := hg
    exact triv (.lit _ _ rfl)
  | global n =>
    simp only [compOd, Option.map_eq_some_iff] at hc
    obtain ⟨vs, h1, rfl⟩ := hc
    simp only [Od.grab, Option.some.injEq, Prod.mk.injEq] at hg
    obtain ⟨rfl, rfl⟩ := hg
    exact triv (glb_rel h hok h1)
theorem od_grab (P : Program) (h : SR fc s a w g) (hok : fc.Ok gl) {ty : Option TypeId} {x : Operand} {y : Od} (hc : compOd P gl fc.pers ty x = some y) {z : AV} {s' : St} (hg : y.grab s = some (z, s')) :
    ∃ F H, SR fc s' a w { g with F := F } ∧ Rel (cx fc s' a w { g with F := F }) true z (a.eval x) H ∧ Hand fc s' { g with F := F } H := by
  obtain ⟨F, H, h1, h2, h3, _⟩ := od_grab' P h hok hc hg
  exact ⟨F, H, h1, h2, h3⟩
theorem od_grab_bx {y : Od} {z : AV} {s' : St} (hg : y.grab s = some (z, s')) (ba : Nat → Option Addr) : bxcOf s'.bx ba = bxcOf s.bx ba ∧ ∀ n, (s'.bx n = none ↔ s.bx n = none) := by
  cases y with
  | tmp t ps => exact grab_bx hg ba
  | cst v x => simp only [Od.grab, Option.some.injEq, Prod.mk.injEq] at hg; obtain ⟨_, rfl⟩ := hg; exact ⟨rfl, fun _ => Iff.rfl⟩
  | glb n vs => simp only [Od.grab, Option.some.injEq, Prod.mk.injEq] at hg; obtain ⟨_, rfl⟩ := hg; exact ⟨rfl, fun _ => Iff.rfl⟩
theorem Hand.grabbed {H0 : List Nat} (hH : Hand fc s g H0) {s' : St} {F : Pos → List Nat} {H : List Nat} (hb : ∀ n, (s'.bx n = none ↔ s.bx n = none)) (hs : Sub g F H) : Hand fc s' { g with F := F } H0 ∧ Disj H0 H := by
  refine ⟨⟨fun q b hb hb' => hH.disj q b hb (hs.1 q b hb'), fun n cs ad hn ha => ?_, hH.free⟩, fun b hb hb' => ?_⟩
  · cases h0 : s.bx n with
    | none => rw [(hb n).2 h0] at hn; cases hn
    | some cs0 => exact hH.sep n cs0 ad h0 ha
  · obtain ⟨q, hq⟩ := hs.2 b hb'
    exact hH.disj q b hb hq
def After (fc : Fc) (K : St → Prop) (a : Act) (w : World) : Prop := ∃ s g, SR fc s a w g ∧ K s
def dstOk (fc : Fc) (dst : Option (Nat × Bool)) : Prop := ∀ d pd, dst = some (d, pd) → d < fc.n ∧ pd = fc.pers d
theorem After.fin (h : SR fc s a w g) {dst : Option (Nat × Bool)} (hd : dstOk fc dst) {v : AV} {c : Value} {H : List Nat} (hv : Rel (cx fc s a w g) true v c H) (hH : Hand fc s g H) {K : St → Prop} (hK : K (fin dst s v)) :
    After fc K (a.put (dst.map (·.1)) c) w := by
  cases dst with
  | none => exact ⟨s, g, h, hK⟩
  | some p =>
    obtain ⟨d, pd⟩ := p
    obtain ⟨h1, h2⟩ := hd d pd rfl
    obtain ⟨g', hg⟩ := h.put h1 h2 hv hH
    exact ⟨_, g', hg, hK⟩
end
end Go.Ev
namespace Go.Ev
set_option linter.unusedVariables false
section
variable {P : Program} {fc : Fc} {s : St} {a : Act} {w : World} {g : Gh} {gl : Tabs} {o : Oper} {Q : Exit → Act → World → Prop} {K : St → Prop} {dst : Option (Nat × Bool)}
theorem wp_value {next : Act → World → Prop} {c : Value} {w' : World} (hrun : (execOp a.eval o).run P w = .ok (.value c) w') (h : next (a.put o.dst c) w') : o.wp P a w next Q := by
  unfold Oper.wp; rw [hrun]; exact h
theorem wp_skipped {next : Act → World → Prop} {w' : World} (hrun : (execOp a.eval o).run P w = .ok .skip w') (h : next (a.put o.dst undef) w') : o.wp P a w next Q := by
  unfold Oper.wp; rw [hrun]; exact h
theorem done (h : SR fc s a w g) (hd : dstOk fc dst) (ho : o.dst = dst.map (·.1)) {v : AV} {c : Value} (hrun : (execOp a.eval o).run P w = .ok (.value c) w)
    (hv : Rel (cx fc s a w g) true v c []) (hK : K (fin dst s v)) : o.wp P a w (After fc K) Q :=
  wp_value hrun (by rw [ho]; exact After.fin h hd hv (.nil _ _ _) hK)
theorem op_mov (h : SR fc s a w g) (hok : fc.Ok gl) (hd : dstOk fc dst) (ho : o.dst = dst.map (·.1)) {ty : Option TypeId} {x : Operand} {y : Od} (hop : o.op = .move x ∨ o.op = .assign x)
    (hc : compOd P gl fc.pers ty x = some y) {md : Md} {C : Kn} (hv : vc C dst (.mov y md) s K) : o.wp P a w (After fc K) Q := by
  have hrun : (execOp a.eval o).run P w = .ok (.value (a.eval x)) w := by rcases hop with h | h <;> simp [execOp, h]
  have take : (match y.grab s with | some (y, s') => K (fin dst s' y) | none => False) → o.wp P a w (After fc K) Q := by
    intro hv
    split at hv
    · rename_i z s' hg
      obtain ⟨F, H, h1, h2, h3⟩ := od_grab P h hok hc hg
      exact wp_value hrun (by rw [ho]; exact After.fin h1 hd h2 h3 hv)
    · cases hv
  cases md with
  | peek => exact done h hd ho hrun (od_peek P h hok hc) hv
  | take => exact take hv
  | asg =>
    simp only [vc] at hv
    split at hv
    · rename_i r hr
      obtain ⟨F, h1, _⟩ := od_val P h hok hc
      rw [hr] at h1
      obtain ⟨h2, h3, rfl⟩ := h1.bor_inv
      exact done h hd ho hrun h1 hv
    · exact take hv
theorem op_pick (h : SR fc s a w g) (hok : fc.Ok gl) (hd : dstOk fc dst) (ho : o.dst = dst.map (·.1)) {tc tx ty : Option TypeId} {c x y : Operand} {c' x' y' : Od} (hop : o.op = .pick c x y)
    (hcc : compOd P gl fc.pers tc c = some c') (hcx : compOd P gl fc.pers tx x = some x') (hcy : compOd P gl fc.pers ty y = some y') {C : Kn} (hv : vc C dst (.pick c' x' y') s K) : o.wp P a w (After fc K) Q := by
  obtain ⟨F, h1, _⟩ := od_val P h hok hcc
  simp only [vc] at hv
  split at hv
  · rename_i b hb
    rw [hb] at h1
    have hcb := h1.lit_inv.1
    have hrun : (execOp a.eval o).run P w = .ok (.value (if b then a.eval x else a.eval y)) w := by cases b <;> simp [execOp, hop, hcb, asBool]
    have hx := od_val P h hok hcx
    have hy := od_val P h hok hcy
    have hpx := od_peek P h hok hcx
    have hpy := od_peek P h hok hcy
    split at hv
    · rename_i u v hu hv'
      obtain ⟨_, h2, _⟩ := hx
      obtain ⟨_, h3, _⟩ := hy
      rw [hu] at h2; rw [hv'] at h3
      refine done h hd ho hrun ?_ hv
      cases b
      · simp only [Bool.false_eq_true, if_false]; rw [h3.lit_inv.1]; exact .lit _ _ h3.lit_inv.2.1
      · simp only [if_true]; rw [h2.lit_inv.1]; exact .lit _ _ h2.lit_inv.2.1
    · refine done h hd ho hrun ?_ hv
      cases b
      · simp only [Bool.false_eq_true, if_false]; exact hpy
      · simp only [if_true]; exact hpx
  · cases hv
theorem run_eqGuard_int (op : BinOp) (t : TypeId) (x y : Operand) (k k' : IntKind) (m n : Int) : (eqGuard op t x y (.int k m) (.int k' n)).run P w = .ok () w := by
  unfold eqGuard; cases op <;> simp
theorem run_eqGuard_str (op : BinOp) (t : TypeId) (x y : Operand) (m n : ByteArray) : (eqGuard op t x y (.string m) (.string n)).run P w = .ok () w := by
  unfold eqGuard; cases op <;> simp
theorem run_eqGuard_bool (op : BinOp) (t : TypeId) (x y : Operand) (m n : Bool) : (eqGuard op t x y (.bool m) (.bool n)).run P w = .ok () w := by
  unfold eqGuard; cases op <;> simp
theorem run_binOp (op : BinOp) (t : TypeId) {u v : Value} (h : binObl op u v) : (binOp op t u v).run P w = .ok (binVal op u v) w := by
  cases u with
  | int k m =>
    cases v with
    | int k' n =>
      cases op <;> simp only [binObl] at h
      all_goals first
        | (obtain ⟨rfl, h2⟩ := h; simp [binOp, binVal, Op.intArith, Op.intBits, Op.intCmp]; done)
        | (obtain ⟨rfl, h2⟩ := h; have hn : n ≠ 0 := h2 (by simp); simp [binOp, binVal, Op.intDiv, hn]; done)
        | (have hn : ¬ (n < 0) := by omega
           simp [binOp, binVal, Op.shift, hn]; done)
    | _ => cases op <;> simp [binObl] at h
  | string x =>
    cases v with
    | string y =>
      cases op <;> simp [binObl] at h
      all_goals first
        | (simp [binOp, binVal, Op.stringOp]; done)
        | (have hn : ¬ ((9223372036854775807 : Int) < ((x.size : Int) + (y.size : Int))) := by omega
           simp [binOp, binVal, Op.stringOp, IntKind.max, IntKind.signed, IntKind.bits, hn]; done)
    | _ => cases op <;> simp [binObl] at h
  | _ => cases op <;> simp [binObl] at h
theorem scalar_binVal (op : BinOp) {u v : Value} (h : binObl op u v) : scalar (binVal op u v) = true := by
  cases u with
  | int k m =>
    cases v with
    | int k' n => cases op <;> rfl
    | _ => cases op <;> simp [binObl] at h
  | string x =>
    cases v with
    | string y => cases op <;> first | rfl | (simp [binObl] at h)
    | _ => cases op <;> simp [binObl] at h
  | _ => cases op <;> simp [binObl] at h
theorem op_bin (h : SR fc s a w g) (hok : fc.Ok gl) (hd : dstOk fc dst) (ho : o.dst = dst.map (·.1)) {tx ty : Option TypeId} {x y : Operand} {x' y' : Od} {op : BinOp} {t t' : TypeId} (hop : o.op = .binOp op t x y t')
    (hcx : compOd P gl fc.pers tx x = some x') (hcy : compOd P gl fc.pers ty y = some y') {C : Kn} (hv : vc C dst (.bin op x' y') s K) : o.wp P a w (After fc K) Q := by
  obtain ⟨_, h2, _⟩ := od_val P h hok hcx
  obtain ⟨_, h3, _⟩ := od_val P h hok hcy
  simp only [vc] at hv
  split at hv
  · rename_i u v hu hv'
    rw [hu] at h2; rw [hv'] at h3
    have e2 := h2.lit_inv.1
    have e3 := h3.lit_inv.1
    obtain ⟨h4, h5⟩ := hv
    have hg : (eqGuard op t x y u v).run P w = .ok () w := by
      cases u with
      | int k m => cases v with
        | int k' n => exact run_eqGuard_int ..
        | _ => cases op <;> simp [binObl] at h4
      | string m => cases v with
        | string n => exact run_eqGuard_str ..
        | _ => cases op <;> simp [binObl] at h4
      | _ => cases op <;> simp [binObl] at h4
    have hrun : (execOp a.eval o).run P w = .ok (.value (binVal op u v)) w := by simp [execOp, hop, e2, e3, hg, run_binOp op t h4]
    exact done h hd ho hrun (.lit _ _ (scalar_binVal op h4)) h5
  · cases hv
theorem run_equalIn_bool (d : Nat) {t : TypeId} (ht : P.underlying t = some .bool) (u v : Bool) : (Op.equalIn (d + 1) t (.bool u) (.bool v)).run P w = .ok (u == v) w := by
  simp [Op.equalIn, run_underlying ht]
theorem run_equal_bool {t : TypeId} (ht : P.underlying t = some .bool) (u v : Bool) : (Op.equal t (.bool u) (.bool v)).run P w = .ok (u == v) w := run_equalIn_bool 9999 ht u v
theorem run_eql_bool {t : TypeId} (ht : P.underlying t = some .bool) (u v : Bool) : (binOp .eql t (.bool u) (.bool v)).run P w = .ok (.bool (u == v)) w := by
  have := run_equal_bool (w := w) ht u v
  simp only [binOp]
  simp [this]
theorem run_neq_bool {t : TypeId} (ht : P.underlying t = some .bool) (u v : Bool) : (binOp .neq t (.bool u) (.bool v)).run P w = .ok (.bool (!(u == v))) w := by
  have := run_equal_bool (w := w) ht u v
  simp only [binOp]
  simp [this]
theorem op_eqb (h : SR fc s a w g) (hok : fc.Ok gl) (hd : dstOk fc dst) (ho : o.dst = dst.map (·.1)) {tx ty : Option TypeId} {x y : Operand} {x' y' : Od} {neg : Bool} {t t' : TypeId} (hop : o.op = .binOp (if neg then .neq else .eql) t x y t')
    (ht : P.underlying t = some .bool) (hcx : compOd P gl fc.pers tx x = some x') (hcy : compOd P gl fc.pers ty y = some y') {C : Kn} (hv : vc C dst (.eqb neg x' y') s K) : o.wp P a w (After fc K) Q := by
  obtain ⟨_, h2, _⟩ := od_val P h hok hcx
  obtain ⟨_, h3, _⟩ := od_val P h hok hcy
  simp only [vc] at hv
  split at hv
  · rename_i u v hu hv'
    rw [hu] at h2; rw [hv'] at h3
    have e2 := h2.lit_inv.1
    have e3 := h3.lit_inv.1
    have hrun : (execOp a.eval o).run P w = .ok (.value (.bool (if neg then !(u == v) else u == v))) w := by
      have h0 : ∀ op, (eqGuard op t x y (.bool u) (.bool v)).run P w = .ok () w := fun op => run_eqGuard_bool op t x y u v
      have h5 := run_eql_bool (w := w) ht u v
      have h6 := run_neq_bool (w := w) ht u v
      unfold execOp
      rw [hop]
      cases neg
      · simp only [e2, e3, Sem.run_bind, Bool.false_eq_true, if_false, h0, Result.andThen_ok, h5, Sem.run_pure]
      · simp only [e2, e3, Sem.run_bind, if_true, h0, Result.andThen_ok, h6, Sem.run_pure]
    exact done h hd ho hrun (.lit _ _ rfl) hv
  · cases hv
def flatS (P : Program) : List Field → Nat → Option (List Nat)
  | [], _ => some []
  | f :: fs, off => if f.name ≠ "_" ∧ f.offset = off then (match P.underlying f.type with
    | some (.int _) => (flatS P fs (off + 1)).map (0 :: ·)
    | some .string => (flatS P fs (off + 1)).map (1 :: ·)
    | some .bool => (flatS P fs (off + 1)).map (2 :: ·)
    | _ => none) else none
theorem run_eqFields_flat {X : Cx} {t : Bool} (d : Nat) (xs ys : Array Value) : ∀ (fs : List Field) (off : Nat) (ks : List Nat) (cs ds : List AV) (vs us : List Value) (F G : List Nat) (b : Bool), flatS P fs off = some ks → RelL X t cs vs F → RelL X t ds us G →
    (∀ i v, vs[i]? = some v → xs[off + i]? = some v) → (∀ i u, us[i]? = some u → ys[off + i]? = some u) → eqC ks cs ds = some b → (Op.eqFields (d + 1) xs ys fs).run P w = .ok b w := by
  intro fs
  induction fs with
  | nil =>
    intro off ks cs ds vs us F G b hf hv hu hx hy h
    simp only [flatS, Option.some.injEq] at hf
    subst hf
    cases cs <;> cases ds <;> simp [eqC] at h
    subst h; simp [Op.eqFields]
  | cons f fs ih =>
    intro off ks cs ds vs us F G b hf hv hu hx hy h
    simp only [flatS] at hf
    split at hf
    · rename_i hno
      obtain ⟨hn, ho⟩ := hno
      have step : ∀ (dd : TypeDesc) (hd : P.underlying f.type = some dd) (hagg : P.plainKey f.type = true) (ks' : List Nat) (hks : flatS P fs (off + 1) = some ks') (u' v' : Value) (cs' ds' : List AV), cs = .lit v' :: cs' → ds = .lit u' :: ds' →
          ∀ (q r : Bool), b = (q && r) → eqC ks' cs' ds' = some r → (Op.equalIn (d + 1) f.type v' u').run P w = .ok q w → (Op.eqFields (d + 1) xs ys (f :: fs)).run P w = .ok b w := by
        intro dd hd hagg ks' hks u' v' cs' ds' e1 e2 q r hb hr he
        subst e1; subst e2
        cases hv with
        | cons _ _ v F1 _ vs F2 _ h1 hs1 _ =>
          cases hu with
          | cons _ _ u G1 _ us G2 _ h2 hs2 _ =>
            obtain rfl := h1.lit_inv.1
            obtain rfl := h2.lit_inv.1
            have p1 := run_part_plain (P := P) (w := w) (xs := xs) (off := f.offset) hagg (by have := hx 0 _ rfl; rw [ho]; simpa using this)
            have p2 := run_part_plain (P := P) (w := w) (xs := ys) (off := f.offset) hagg (by have := hy 0 _ rfl; rw [ho]; simpa using this)
            have := ih (off + 1) ks' cs' ds' vs us F2 G2 r hks hs1 hs2
              (fun i v' hi => by have := hx (i + 1) v' (by simpa using hi); rw [show off + 1 + i = off + (i + 1) by omega]; exact this)
              (fun i v' hi => by have := hy (i + 1) v' (by simpa using hi); rw [show off + 1 + i = off + (i + 1) by omega]; exact this) hr
            simp only [Op.eqFields, hn, ne_eq, not_false_eq_true, if_true, Sem.run_bind, p1, p2, he, Result.andThen_ok]
            subst hb
            cases q
            · simp
            · simpa using this
      split at hf
      · rename_i k0 hd
        rw [Option.map_eq_some_iff] at hf
        obtain ⟨ks', hks, rfl⟩ := hf
        unfold eqC at h
        split at h
        · rename_i e; cases e
        · rename_i ks2 k a' cs' k' b' ds' e
          injection e with _ e; subst e
          split at h
          · rename_i hk
            subst hk
            rw [Option.map_eq_some_iff] at h; obtain ⟨r, hr, hb⟩ := h
            exact step _ hd (by simp [Program.plainKey, hd]) ks' hks _ _ cs' ds' rfl rfl _ r hb.symm hr (run_equalIn_int w d f.type k _ a' b' hd)
          · cases h
        · rename_i e; injection e with e _; cases e
        · rename_i e; injection e with e _; cases e
        · cases h
      · rename_i hd
        rw [Option.map_eq_some_iff] at hf
        obtain ⟨ks', hks, rfl⟩ := hf
        unfold eqC at h
        split at h
        · rename_i e; cases e
        · rename_i e; injection e with e _; cases e
        · rename_i ks2 a' cs' b' ds' e
          injection e with _ e; subst e
          rw [Option.map_eq_some_iff] at h; obtain ⟨r, hr, hb⟩ := h
          exact step _ hd (by simp [Program.plainKey, hd]) ks' hks _ _ cs' ds' rfl rfl _ r hb.symm hr (run_equalIn_string w d f.type a' b' hd)
        · rename_i e; injection e with e _; cases e
        · cases h
      · rename_i hd
        rw [Option.map_eq_some_iff] at hf
        obtain ⟨ks', hks, rfl⟩ := hf
        unfold eqC at h
        split at h
        · rename_i e; cases e
        · rename_i e; injection e with e _; cases e
        · rename_i e; injection e with e _; cases e
        · rename_i ks2 a' cs' b' ds' e
          injection e with _ e; subst e
          rw [Option.map_eq_some_iff] at h; obtain ⟨r, hr, hb⟩ := h
          exact step _ hd (by simp [Program.plainKey, hd]) ks' hks _ _ cs' ds' rfl rfl _ r hb.symm hr (run_equalIn_bool' w d f.type a' b' hd)
        · cases h
      · cases hf
    · cases hf
theorem op_eqS (h : SR fc s a w g) (hok : fc.Ok gl) (hd : dstOk fc dst) (ho : o.dst = dst.map (·.1)) {tx ty : Option TypeId} {x y : Operand} {x' y' : Od} {neg : Bool} {t t' : TypeId} {fs : Array Field} {ks : List Nat} (hop : o.op = .binOp (if neg then .neq else .eql) t x y t')
    (ht : P.underlying t = some (.struct fs)) (hks : flatS P fs.toList 0 = some ks) (hst : P.stoodInHeld t = false) (heg : P.eqGuardType P.depth t = false)
    (hcx : compOd P gl fc.pers tx x = some x') (hcy : compOd P gl fc.pers ty y = some y') {C : Kn} (hv : vc C dst (.eqS ks neg x' y') s K) : o.wp P a w (After fc K) Q := by
  obtain ⟨_, h2, _⟩ := od_val P h hok hcx
  obtain ⟨_, h3, _⟩ := od_val P h hok hcy
  simp only [vc] at hv
  split at hv
  · rename_i cs ds hu hv'
    rw [hu] at h2; rw [hv'] at h3
    split at hv
    · rename_i b hb
      generalize hcv : a.eval x = cv at h2
      generalize hdv : a.eval y = dv at h3
      cases h2 with
      | agg _ _ vs _ h2 =>
        cases h3 with
        | agg _ _ us _ h3 =>
          have hfs : P.fieldsOf t = fs := by simp [Program.fieldsOf, ht]
          have heq := run_equalIn_struct (P := P) w 9999 t vs.toArray us.toArray (by rw [hfs]; exact ht) hst
          rw [hfs, run_eqFields_flat (P := P) (w := w) 9998 vs.toArray us.toArray fs.toList 0 ks cs ds vs us _ _ b hks h2 h3 (fun i v hi => by simpa using hi) (fun i v hi => by simpa using hi) hb] at heq
          have h5 : (binOp .eql t (.agg vs.toArray) (.agg us.toArray)).run P w = .ok (.bool b) w := by rw [run_eql_struct, heq]; rfl
          have h6 : (binOp .neq t (.agg vs.toArray) (.agg us.toArray)).run P w = .ok (.bool (!b)) w := by rw [run_neq_struct, heq]; rfl
          have h0 : ∀ op, (eqGuard op t x y (.agg vs.toArray) (.agg us.toArray)).run P w = .ok () w := fun op => run_eqGuard_agg w op t x y _ _ heg
          have hrun : (execOp a.eval o).run P w = .ok (.value (.bool (if neg then !b else b))) w := by
            unfold execOp
            rw [hop]
            cases neg
            · simp only [hcv, hdv, Sem.run_bind, Bool.false_eq_true, if_false, h0, Result.andThen_ok, h5, Sem.run_pure]
            · simp only [hcv, hdv, Sem.run_bind, if_true, h0, Result.andThen_ok, h6, Sem.run_pure]
          exact done h hd ho hrun (.lit _ _ rfl) hv
    · cases hv
  · cases hv
theorem op_un (h : SR fc s a w g) (hok : fc.Ok gl) (hd : dstOk fc dst) (ho : o.dst = dst.map (·.1)) {tx : Option TypeId} {x : Operand} {x' : Od} {op : UnOp} {t : TypeId} (hop : o.op = .unOp op t x)
    (hcx : compOd P gl fc.pers tx x = some x') {C : Kn} (hv : vc C dst (.un op x') s K) : o.wp P a w (After fc K) Q := by
  obtain ⟨_, h2, _⟩ := od_val P h hok hcx
  simp only [vc] at hv
  split at hv
  · rename_i u hu
    rw [hu] at h2
    have e2 := h2.lit_inv.1
    split at hv
    · rename_i v hun
      have hs : scalar v = true ∧ (Op.unary op u).run P w = .ok v w := by
        cases u with
        | int k n => cases op <;> simp [unVal] at hun <;> subst hun <;> refine ⟨rfl, ?_⟩ <;> simp [Op.unary, Op.intArith, Op.intBits]
        | bool b => cases op <;> simp [unVal] at hun <;> subst hun <;> exact ⟨rfl, by simp [Op.unary]⟩
        | _ => cases op <;> simp [unVal] at hun
      have hrun : (execOp a.eval o).run P w = .ok (.value v) w := by simp [execOp, hop, e2, hs.2]
      exact done h hd ho hrun (.lit _ _ hs.1) hv
    · cases hv
  · cases hv
theorem op_cvt (h : SR fc s a w g) (hok : fc.Ok gl) (hd : dstOk fc dst) (ho : o.dst = dst.map (·.1)) {tx : Option TypeId} {x : Operand} {x' : Od} {k : IntKind} {t t' : TypeId} {ds : TypeDesc} (hop : o.op = .convert t t' x)
    (hs : P.underlying t = some ds) (ht : P.underlying t' = some (.int k)) (hcx : compOd P gl fc.pers tx x = some x') {C : Kn} (hv : vc C dst (.cvt k x') s K) : o.wp P a w (After fc K) Q := by
  obtain ⟨_, h2, _⟩ := od_val P h hok hcx
  simp only [vc] at hv
  split at hv
  · rename_i u n hu
    rw [hu] at h2
    have e2 := h2.lit_inv.1
    have hrun : (execOp a.eval o).run P w = .ok (.value (.int k (k.wrap n))) w := by simp [execOp, hop, e2, convert, run_underlying hs, run_underlying ht, Conv.intToInt]
    exact done h hd ho hrun (.lit _ _ rfl) hv
  · cases hv
theorem op_same (h : SR fc s a w g) (hok : fc.Ok gl) (hd : dstOk fc dst) (ho : o.dst = dst.map (·.1)) {tx : Option TypeId} {x : Operand} {x' : Od} {t t' : TypeId} {ds : TypeDesc} (hop : o.op = .convert t t' x)
    (hs : P.underlying t = some ds) (ht : P.underlying t' = some .string) (hcx : compOd P gl fc.pers tx x = some x') {C : Kn} (hv : vc C dst (.same x') s K) : o.wp P a w (After fc K) Q := by
  obtain ⟨_, h2, _⟩ := od_val P h hok hcx
  simp only [vc] at hv
  split at hv
  · rename_i b hb
    rw [hb] at h2
    have e2 := h2.lit_inv.1
    have hrun : (execOp a.eval o).run P w = .ok (.value (.string b)) w := by simp [execOp, hop, e2, convert, run_underlying hs, run_underlying ht]
    exact done h hd ho hrun (.lit _ _ rfl) hv
  · cases hv
theorem op_chk (h : SR fc s a w g) (hok : fc.Ok gl) (hd : dstOk fc dst) (ho : o.dst = dst.map (·.1)) {tx : Option TypeId} {x : Operand} {x' : Od} (hop : o.op = .nilCheck x)
    (hcx : compOd P gl fc.pers tx x = some x') {C : Kn} (hv : vc C dst (.chk x') s K) : o.wp P a w (After fc K) Q := by
  obtain ⟨F, h2, _⟩ := od_val P h hok hcx
  simp only [vc] at hv
  split at hv
  · rename_i r hr
    rw [hr] at h2
    obtain ⟨ad, e, h3, rfl⟩ := ptr_inv h2
    have hrun : (execOp a.eval o).run P w = .ok (.value (.pointer (some ad))) w := by simp [execOp, hop, e]
    exact done h hd ho (by rw [hrun, ← e]) h2 hv
  · rename_i fl cs ofs hr
    rw [hr] at h2
    generalize hcv : a.eval x = cv at h2
    cases h2 with
    | cell _ _ _ ad a' vs hfl ha hr' hc =>
      have hrun : (execOp a.eval o).run P w = .ok (.value (.pointer (some a'))) w := by simp [execOp, hop, hcv]
      exact done h hd ho hrun (.cell _ _ _ ad a' vs hfl ha hr' hc) hv
  · cases hv
end
end Go.Ev
namespace Go.Ev
set_option linter.unusedVariables false
section
variable {P : Program} {fc : Fc} {s : St} {a : Act} {w : World} {g : Gh} {gl : Tabs} {o : Oper} {Q : Exit → Act → World → Prop} {K : St → Prop} {dst : Option (Nat × Bool)} {C : Kn}
theorem content_rel (h : SR fc s a w g) {t : Bool} {x : AV} {c : Value} {F : List Nat} (hr : Rel (cx fc s a w g) t x c F) {es : Nat} {xs : List AV} (hc : content s x = some (es, xs)) :
    ∃ t' fl F', Rel (cx fc s a w g) t' (.sl fl es xs) c F' ∧ ((∃ q, ∀ b, b ∈ F' → b ∈ g.F q) ∨ F' = F) := by
  unfold content at hc
  split at hc
  · injection hc with hc; injection hc with h1 h2; subst h1; subst h2; exact ⟨t, _, F, hr, .inr rfl⟩
  · split at hc
    · rename_i hy
      injection hc with hc; injection hc with h1 h2; subst h1; subst h2
      obtain ⟨t', G, q, h1, h2⟩ := getH_rel h hy hr.bor_inv.1
      exact ⟨t', _, G, h1, .inl ⟨q, h2⟩⟩
    · cases hc
  · cases hc
theorem op_len (h : SR fc s a w g) (hok : fc.Ok gl) (hd : dstOk fc dst) (ho : o.dst = dst.map (·.1)) {tx : Option TypeId} {x : Operand} {x' : Od} {t : TypeId} (hop : o.op = .call { callee := .builtin .len, args := #[x], argTypes := #[t] })
    (ht : P.underlying t = some .string) (hcx : compOd P gl fc.pers tx x = some x') (hv : vc C dst (.len x') s K) : o.wp P a w (After fc K) Q := by
  obtain ⟨F, h2, _⟩ := od_val P h hok hcx
  simp only [vc] at hv
  split at hv
  · rename_i b hb
    rw [hb] at h2
    have e2 := h2.lit_inv.1
    have hrun : (execOp a.eval o).run P w = .ok (.value (.int .i64 b.size)) w := by simp [execOp, hop, resolve, invoke, builtin, Builtin.len_, e2, run_underlying ht, goInt]
    exact done h hd ho hrun (.lit _ _ rfl) hv
  · cases hv
theorem op_lenL (h : SR fc s a w g) (hok : fc.Ok gl) (hd : dstOk fc dst) (ho : o.dst = dst.map (·.1)) {tx : Option TypeId} {x : Operand} {x' : Od} {t e : TypeId} (hop : o.op = .call { callee := .builtin .len, args := #[x], argTypes := #[t] })
    (ht : P.underlying t = some (.slice e)) (hcx : compOd P gl fc.pers tx x = some x') (hv : vc C dst (.lenL x') s K) : o.wp P a w (After fc K) Q := by
  obtain ⟨F, h2, _⟩ := od_val P h hok hcx
  simp only [vc] at hv
  split at hv
  · rename_i es xs hcn
    obtain ⟨t', fl, F', h3, _⟩ := content_rel h h2 hcn
    obtain ⟨A, cap, e2, _⟩ := h3.sl_inv
    have hrun : (execOp a.eval o).run P w = .ok (.value (.int .i64 xs.length)) w := by simp [execOp, hop, resolve, invoke, builtin, Builtin.len_, e2, run_underlying ht, goInt]
    exact done h hd ho hrun (.lit _ _ rfl) hv
  · cases hv
theorem op_idx (h : SR fc s a w g) (hok : fc.Ok gl) (hd : dstOk fc dst) (ho : o.dst = dst.map (·.1)) {tx ty : Option TypeId} {x y : Operand} {x' y' : Od} {t : TypeId} (hop : o.op = .index t x y)
    (ht : P.underlying t = some .string) (hcx : compOd P gl fc.pers tx x = some x') (hcy : compOd P gl fc.pers ty y = some y') (hv : vc C dst (.idx x' y') s K) : o.wp P a w (After fc K) Q := by
  obtain ⟨_, h2, _⟩ := od_val P h hok hcx
  obtain ⟨_, h3, _⟩ := od_val P h hok hcy
  simp only [vc] at hv
  split at hv
  · rename_i b k n hu hv'
    rw [hu] at h2; rw [hv'] at h3
    have e2 := h2.lit_inv.1
    have e3 := h3.lit_inv.1
    obtain ⟨h4, c, h5, h6⟩ := hv
    have hrun : (execOp a.eval o).run P w = .ok (.value (.int .u8 c.toNat)) w := by simp [execOp, hop, e2, e3, Instr.index, asIntOf, run_underlying ht, h4, h5]
    exact done h hd ho hrun (.lit _ _ rfl) h6
  · cases hv
theorem run_sliceBound {k : IntKind} {i : Int} {y : Nat} (code : BoundsCode) (h0 : 0 ≤ i) (h1 : i ≤ y) : (Instr.sliceBound (.int k i) y code).run P w = .ok i.toNat w := by
  simp [Instr.sliceBound, asIntOf, h0, h1]
theorem op_sub (h : SR fc s a w g) (hok : fc.Ok gl) (hd : dstOk fc dst) (ho : o.dst = dst.map (·.1)) {tx ty tz : Option TypeId} {x : Operand} {lo hi : Option Operand} {x' : Od} {lo' hi' : Option Od} {t : TypeId} (hop : o.op = .slice t x lo hi none)
    (ht : P.underlying t = some .string) (hcx : compOd P gl fc.pers tx x = some x') (hlo : lo.map (compOd P gl fc.pers ty) = lo'.map some) (hhi : hi.map (compOd P gl fc.pers tz) = hi'.map some) (hv : vc C dst (.sub x' lo' hi') s K) : o.wp P a w (After fc K) Q := by
  obtain ⟨_, h2, _⟩ := od_val P h hok hcx
  simp only [vc] at hv
  have hlov : ∀ v : Value, (lo'.map (·.val s)).getD (.lit (.int .i64 0)) = .lit v → (∃ lv, lo = some lv ∧ a.eval lv = v) ∨ (lo = none ∧ v = .int .i64 0) := by
    intro v hv
    cases lo' with
    | none =>
      cases lo with
      | none => simp at hv; exact .inr ⟨rfl, hv.symm⟩
      | some lv => simp at hlo
    | some l' =>
      cases lo with
      | none => simp at hlo
      | some lv =>
        simp only [Option.map_some, Option.some.injEq] at hlo
        obtain ⟨_, h3, _⟩ := od_val P h hok hlo
        simp at hv
        rw [hv] at h3
        exact .inl ⟨lv, rfl, h3.lit_inv.1⟩
  split at hv
  · rename_i b k l hu hl hh
    rw [hu] at h2
    have e2 := h2.lit_inv.1
    obtain ⟨h4, h5, h6⟩ := hv
    have hhn : hi = none := by
      cases hi' with
      | none => cases hi with | none => rfl | some z => simp at hhi
      | some z => simp at hh
    have hrun : (execOp a.eval o).run P w = .ok (.value (.string (b.extract l.toNat b.size))) w := by
      rcases hlov _ hl with ⟨lv, e3, e4⟩ | ⟨e3, e4⟩
      · simp [execOp, hop, e2, e3, e4, hhn, Instr.sliceAt, Instr.slice, Instr.sliceBounds, run_underlying ht, run_sliceBound _ h4 h5]
      · injection e4 with _ e4; subst e4
        simp [execOp, hop, e2, e3, hhn, Instr.sliceAt, Instr.slice, Instr.sliceBounds, run_underlying ht]
    exact done h hd ho hrun (.lit _ _ rfl) h6
  · rename_i b k l k' l' hu hl hh
    rw [hu] at h2
    have e2 := h2.lit_inv.1
    obtain ⟨h4, h5, h7, h6⟩ := hv
    have hhn : ∃ z, hi = some z ∧ a.eval z = .int k' l' := by
      cases hi' with
      | none => simp at hh
      | some z' =>
        cases hi with
        | none => simp at hhi
        | some z =>
          simp only [Option.map_some, Option.some.injEq] at hhi hh
          obtain ⟨_, h3, _⟩ := od_val P h hok hhi
          rw [hh] at h3
          exact ⟨z, rfl, h3.lit_inv.1⟩
    obtain ⟨z, e5, e6⟩ := hhn
    have h8 : l ≤ ((l'.toNat : Nat) : Int) := by omega
    have h9 : 0 ≤ l' := by omega
    have hrun : (execOp a.eval o).run P w = .ok (.value (.string (b.extract l.toNat l'.toNat))) w := by
      rcases hlov _ hl with ⟨lv, e3, e4⟩ | ⟨e3, e4⟩
      · simp [execOp, hop, e2, e3, e4, e5, e6, Instr.sliceAt, Instr.slice, Instr.sliceBounds, run_underlying ht, run_sliceBound _ h9 h7, run_sliceBound _ h4 h8]
      · injection e4 with _ e4; subst e4
        simp [execOp, hop, e2, e3, e5, e6, Instr.sliceAt, Instr.slice, Instr.sliceBounds, run_underlying ht, run_sliceBound _ h9 h7]
    exact done h hd ho hrun (.lit _ _ rfl) h6
  · cases hv
theorem run_typeInfo {t : TypeId} {i : TypeInfo} (h : P.info? t = some i) : (typeInfo t).run P w = .ok i w := by simp [typeInfo, h]
theorem run_sizeOf' {t : TypeId} {i : TypeInfo} (h : P.info? t = some i) : (sizeOf t).run P w = .ok i.size w := by simp [sizeOf, typeInfo, h]
def aggB : TypeDesc → Bool
  | .struct _ | .array _ _ => true
  | _ => false
theorem run_isAgg' {t : TypeId} {d : TypeDesc} (h : P.underlying t = some d) : (isAgg t).run P w = .ok (aggB d) w := by
  cases d <;> simp [isAgg, run_underlying h, aggB]
theorem op_fld (h : SR fc s a w g) (hok : fc.Ok gl) (hd : dstOk fc dst) (ho : o.dst = dst.map (·.1)) {tx : Option TypeId} {x : Operand} {x' : Od} {t : TypeId} {k : Nat} {fs : Array Field} {f : Field} {i : TypeInfo} {d : TypeDesc} (hop : o.op = .field t x k)
    (ht : P.underlying t = some (.struct fs)) (hf : fs[k]? = some f) (hi : P.info? f.type = some i) (hdd : P.underlying f.type = some d) (hcx : compOd P gl fc.pers tx x = some x')
    (hv : vc C dst (.fld x' f.offset i.size (aggB d)) s K) : o.wp P a w (After fc K) Q := by
  obtain ⟨F, h2, hF⟩ := od_val P h hok hcx
  simp only [vc] at hv
  split at hv
  · rename_i cs hu
    rw [hu] at h2
    generalize hcv : a.eval x = cv at h2
    cases h2 with
    | agg _ _ vs _ hc =>
      obtain ⟨hfit, hv⟩ := hv
      have hl := hc.length
      have hbx : ∀ b, b ∈ F → ∀ i, ¬ (cx fc s a w g).bxc b i := fun b hb i => by obtain ⟨q, hq⟩ := hF b hb; exact h.noBox hq i
      split at hv
      · rename_i hagg
        have hrun : (execOp a.eval o).run P w = .ok (.value (.agg (vs.toArray.extract f.offset (f.offset + i.size)))) w := by
          simp [execOp, hop, hcv, Instr.field, run_underlying ht, hf, part, run_isAgg' hdd, hagg, run_sizeOf' hi, asAgg]
        refine done h hd ho hrun ?_ hv
        have hcs : cs = cs.take f.offset ++ ((cs.drop f.offset).take i.size ++ cs.drop (f.offset + i.size)) := by
          rw [← List.drop_drop, List.take_append_drop, List.take_append_drop]
        rw [hcs] at hc
        obtain ⟨v1, v', F1, F', rfl, rfl, r1, r', _⟩ := hc.split
        obtain ⟨v2, v3, F2, F3, rfl, rfl, r2, r3, _⟩ := r'.split
        have l1 := r1.length; have l2 := r2.length
        simp only [List.length_take, List.length_drop] at l1 l2
        have hro := r2.ro fun b hb i => hbx b (by simp [hb]) i
        rw [roL_eq] at hro
        have := Rel.agg true _ v2 [] hro
        have hex : (v1 ++ (v2 ++ v3)).toArray.extract f.offset (f.offset + i.size) = v2.toArray := by
          apply Array.ext'
          rw [Array.toList_extract, List.extract_eq_take_drop, List.drop_append_of_le_length (by omega)]
          simp only [List.drop_of_length_le (show v1.length ≤ f.offset by omega), List.nil_append]
          rw [List.take_append_of_le_length (by omega), List.take_of_length_le (by omega)]
        rw [hex]; exact this
      · rename_i hagg
        obtain ⟨y, hy, hK⟩ := hv
        obtain ⟨u, G, h3, h4, _, h5⟩ := hc.get hy
        have hrun : (execOp a.eval o).run P w = .ok (.value u) w := by
          simp [execOp, hop, hcv, Instr.field, run_underlying ht, hf, part, run_isAgg' hdd, hagg, asAgg, h3]
        exact done h hd ho hrun (h4.ro fun b hb i => hbx b (h5 b hb) i) hK
  · cases hv
end
end Go.Ev
namespace Go.Ev
set_option linter.unusedVariables false
section
variable {P : Program} {fc : Fc} {s : St} {a : Act} {w : World} {g : Gh} {gl : Tabs} {o : Oper} {Q : Exit → Act → World → Prop} {K : St → Prop} {dst : Option (Nat × Bool)} {C : Kn}
theorem RelT.getSet {X : Cx} {t : Bool} : ∀ {xs : List AV} {vs : List Value} {F : List Nat}, RelT X t xs vs F → (∀ b, b ∈ F → ∀ i, ¬ X.bxc b i) → ∀ {k : Nat} {y : AV}, xs[k]? = some y →
    ∃ u G F', vs[k]? = some u ∧ Rel X t y u G ∧ RelT X t (xs.set k (roD y)) vs F' ∧ (∀ b, b ∈ G → b ∈ F) ∧ (∀ b, b ∈ F' → b ∈ F) ∧ Disj G F' := by
  intro xs
  induction xs with
  | nil => intro vs F h _ k y hk; simp at hk
  | cons x xs ih =>
    intro vs F h hb k y hk
    cases h with
    | cons _ _ c F₁ _ vs F₂ h hs hd =>
      cases k with
      | zero =>
        simp at hk; subst hk
        exact ⟨c, F₁, F₂, by simp, h, .cons t _ c [] xs vs F₂ (h.ro fun b hb' i => hb b (by simp [hb']) i) hs (fun b hb => (List.not_mem_nil hb).elim), fun b hb => by simp [hb], fun b hb => by simp [hb], hd⟩
      | succ k =>
        obtain ⟨u, G, F', h1, h2, h3, h4, h5, h6⟩ := ih hs (fun b hb' i => hb b (by simp [hb']) i) (k := k) (y := y) (by simpa using hk)
        refine ⟨u, G, F₁ ++ F', by simpa using h1, h2, .cons t x c F₁ _ vs F' h h3 (fun b hb hb' => hd b hb (h5 b hb')), fun b hb => by simp [h4 b hb], fun b hb => ?_, fun b hb hb' => ?_⟩
        · rcases List.mem_append.1 hb with hb | hb
          · simp [hb]
          · simp [h5 b hb]
        · rcases List.mem_append.1 hb' with hb' | hb'
          · exact hd b hb' (h4 b hb)
          · exact h6 b hb hb'
theorem op_ext (h : SR fc s a w g) (hd : dstOk fc dst) (ho : o.dst = dst.map (·.1)) {t : Nat} {ps : Bool} {i : Nat} (hop : o.op = .extract (.tmp t) i) (hv : vc C dst (.ext (.tmp t ps) i) s K) : o.wp P a w (After fc K) Q := by
  simp only [vc] at hv
  split at hv
  · rename_i vs hx
    obtain ⟨y, hy, hK⟩ := hv
    have hr := h.slots t
    rw [hx] at hr
    have hnb : ∀ b, b ∈ g.F (.slot t) → ∀ i, ¬ (cx fc s a w g).bxc b i := fun b hb i => h.noBox hb i
    generalize hcv : tmOf a t = cv at hr
    generalize hFt : g.F (.slot t) = Ft at hr
    cases hr with
    | tup _ _ us _ hc =>
      rw [hFt] at hnb
      obtain ⟨u, G, F', h1, h2, h3, h4, h5, h6⟩ := hc.getSet hnb hy
      have hev : a.eval (.tmp t) = .tuple us.toArray := hcv
      have hrun : (execOp a.eval o).run P w = .ok (.value u) w := by simp [execOp, hop, hev, Instr.extract, h1]
      -- the tuple keeps a copy
      have hFq : ∀ {q b}, b ∈ updP g.F (.slot t) F' q → b ∈ g.F q := by
        intro q b hb
        by_cases hq : q = .slot t
        · subst hq; rw [updP_same] at hb; rw [hFt]; exact h5 b hb
        · rw [updP_other _ _ hq] at hb; exact hb
      have hs : SR fc (s.set t (.tup (vs.set i (roD y)))) a w { g with F := updP g.F (.slot t) F' } := by
        refine ⟨fun u' => ?_, fun n cs hn => ?_, fun n hn => ?_, fun p q hpq b hb hb' => h.disj p q hpq b (hFq hb) (hFq hb'), fun n cs ad hn ha p hb => h.sep n cs ad hn ha p (hFq hb), h.apart, h.zfb, h.zfo, fun p b hb => h.touchF p b (hFq hb), h.touchB, h.keep, h.defers, h.size, h.nob, h.zfd, h.bdo, h.hbo⟩
        · by_cases hu : u' = t
          · subst hu
            simp only [updP_same, St.set, upd_same]
            rw [hcv]; exact .tup _ _ us F' h3
          · simp only
            rw [updP_other _ _ (by intro hh; injection hh with hh; exact hu hh)]
            simp only [St.set]
            rw [upd_other _ _ hu]
            exact h.slots u'
        · obtain ⟨ad, vs', q1, q2, q3⟩ := h.boxes n cs hn
          exact ⟨ad, vs', q1, q2, by simp only; rw [updP_other _ _ (by intro hh; cases hh)]; exact q3⟩
        · simp only; rw [updP_other _ _ (by intro hh; cases hh)]; exact h.nobox n hn
      refine wp_value hrun ?_
      rw [ho]
      refine After.fin hs hd h2 ⟨fun q b hb hb' => ?_, fun n cs ad hn ha hb => ?_, fun b hb => ?_⟩ hK
      · by_cases hq : q = .slot t
        · subst hq; simp only at hb'; rw [updP_same] at hb'; exact h6 b hb hb'
        · simp only at hb'; rw [updP_other _ _ hq] at hb'; exact h.disj (.slot t) q (Ne.symm hq) b (by rw [hFt]; exact h4 b hb) hb'
      · exact h.sep n cs ad hn ha (.slot t) (by rw [hFt]; exact h4 _ hb)
      · exact h.touchF (.slot t) b (by rw [hFt]; exact h4 b hb)
  · cases hv
theorem cell_inv {X : Cx} {t : Bool} {fl : Fl} {cs : List AV} {ofs : Nat} {v : Value} {F : List Nat} (h : Rel X t (.cell fl cs ofs) v F) :
    ∃ (ad : Addr) (vs : List Value), v = .pointer (some (ad.add ofs)) ∧ fl ≠ .own ∧ (∀ k v, vs[k]? = some v → X.w.cell? (ad.add k) = some v ∧ X.sees fl ad.block (ad.off + k)) ∧ RelL X false cs vs [] ∧ F = [] := by
  cases h with | cell _ _ _ ad a' vs hfl ha hr hc => exact ⟨ad, vs, by rw [ha], hfl, hr, hc, rfl⟩
theorem op_fad (h : SR fc s a w g) (hok : fc.Ok gl) (hd : dstOk fc dst) (ho : o.dst = dst.map (·.1)) {tx : Option TypeId} {x : Operand} {x' : Od} {t : TypeId} {k : Nat} {fs : Array Field} {f : Field} {i : TypeInfo} (hop : o.op = .fieldAddr t x k)
    (ht : P.underlying t = some (.struct fs)) (hf : fs[k]? = some f) (hi : P.info? f.type = some i) (hi0 : i.size ≠ 0) (hcx : compOd P gl fc.pers tx x = some x')
    (hv : vc C dst (.fad x' f.offset) s K) : o.wp P a w (After fc K) Q := by
  obtain ⟨F, h2, hF⟩ := od_val P h hok hcx
  simp only [vc] at hv
  have hgen : ∀ ad : Addr, a.eval x = .pointer (some ad) → (execOp a.eval o).run P w = .ok (.value (.pointer (some (ad.add f.offset)))) w := by
    intro ad e
    simp [execOp, hop, e, Instr.fieldAt, run_underlying ht, hf, Instr.sureAddr, fieldPlace, run_sizeOf' hi, hi0]
  split at hv
  · rename_i r hr
    rw [hr] at h2
    obtain ⟨ad, e, h3, rfl⟩ := ptr_inv h2
    exact done h hd ho (hgen ad e) (.ptr _ _ (res_addOff _ h3)) hv
  · rename_i fl cs ofs hr
    rw [hr] at h2
    obtain ⟨ad, vs, e, hfl, hrd, hc, rfl⟩ := cell_inv h2
    exact done h hd ho (hgen _ e) (.cell fl cs _ ad _ vs hfl (Addr.add_add ..) hrd hc) hv
  · cases hv
theorem op_iadA (h : SR fc s a w g) (hok : fc.Ok gl) (hd : dstOk fc dst) (ho : o.dst = dst.map (·.1)) {tx ty : Option TypeId} {x y : Operand} {x' y' : Od} {t e : TypeId} {len : Nat} {i : TypeInfo} (hop : o.op = .indexAddr t x y)
    (ht : P.underlying t = some (.array len e)) (hi : P.info? e = some i) (hcx : compOd P gl fc.pers tx x = some x') (hcy : compOd P gl fc.pers ty y = some y')
    (hv : vc C dst (.iadA x' y' len i.size) s K) : o.wp P a w (After fc K) Q := by
  obtain ⟨F, h2, hF⟩ := od_val P h hok hcx
  obtain ⟨_, h3, _⟩ := od_val P h hok hcy
  simp only [vc] at hv
  split at hv
  · rename_i k n hn
    rw [hn] at h3
    have e3 := h3.lit_inv.1
    obtain ⟨h0, h1, hv⟩ := hv
    have hgen : ∀ ad : Addr, a.eval x = .pointer (some ad) → (execOp a.eval o).run P w = .ok (.value (.pointer (some (ad.add (n.toNat * i.size))))) w := by
      intro ad e
      simp [execOp, hop, e, e3, Instr.indexAt, asIntOf, run_underlying ht, Instr.sureAddr, run_sizeOf' hi, h0, h1]
    split at hv
    · rename_i r hr
      rw [hr] at h2
      obtain ⟨ad, e, h3, rfl⟩ := ptr_inv h2
      exact done h hd ho (hgen ad e) (.ptr _ _ (res_addOff _ h3)) hv
    · rename_i fl cs ofs hr
      rw [hr] at h2
      obtain ⟨ad, vs, e, hfl, hrd, hc, rfl⟩ := cell_inv h2
      exact done h hd ho (hgen _ e) (.cell fl cs _ ad _ vs hfl (Addr.add_add ..) hrd hc) hv
    · cases hv
  · cases hv
theorem op_iad (h : SR fc s a w g) (hok : fc.Ok gl) (hd : dstOk fc dst) (ho : o.dst = dst.map (·.1)) {tx ty : Option TypeId} {x y : Operand} {x' y' : Od} {t e : TypeId} {i : TypeInfo} (hop : o.op = .indexAddr t x y)
    (ht : P.underlying t = some (.slice e)) (hi : P.info? e = some i) (hcx : compOd P gl fc.pers tx x = some x') (hcy : compOd P gl fc.pers ty y = some y')
    (hv : vc C dst (.iad x' y' i.size) s K) : o.wp P a w (After fc K) Q := by
  obtain ⟨F, h2, hF⟩ := od_val P h hok hcx
  obtain ⟨_, h3, _⟩ := od_val P h hok hcy
  simp only [vc] at hv
  split at hv
  · rename_i k n hn
    rw [hn] at h3
    have e3 := h3.lit_inv.1
    have hgen : ∀ (ad : Addr) (len cap : Nat), a.eval x = .slice (some ad) len cap → 0 ≤ n → n < len → (execOp a.eval o).run P w = .ok (.value (.pointer (some (ad.add (n.toNat * i.size))))) w := by
      intro ad len cap e h0 h1
      simp [execOp, hop, e, e3, Instr.indexAt, asIntOf, run_underlying ht, run_sizeOf' hi, h0, h1]
    split at hv
    · rename_i r hr
      rw [hr] at h2
      obtain ⟨h4, h5, rfl⟩ := h2.bor_inv
      split at hv
      · rename_i fl es xs hg
        obtain ⟨rfl, h0, h1, hK⟩ := hv
        obtain ⟨t', G, q, h6, _⟩ := getH_rel h hg h4
        obtain ⟨A, cap, e, _⟩ := h6.sl_inv
        cases A with
        | none =>
          exfalso
          rw [e] at h6
          cases h6 with
          | nil => simp at h1; omega
        | some ad =>
          rw [e] at h4
          exact done h hd ho (hgen ad _ cap e h0 h1) (.ptr _ _ (res_idx _ _ h4)) hK
      · cases hv
    · rename_i fl es xs hr
      rw [hr] at h2
      obtain ⟨rfl, h0, y0, hy, hK⟩ := hv
      have h1 : n.toNat < xs.length := (List.getElem?_eq_some_iff.1 hy).1
      have hnb : ∀ b, b ∈ F → ∀ i, ¬ (cx fc s a w g).bxc b i := fun b hb i => by obtain ⟨q, hq⟩ := hF b hb; exact h.noBox hq i
      -- what is looked at alone
      have key : ∀ {fl : Fl} {ys : List AV} {y1 : AV}, fl ≠ .own → ys.length = xs.length → ys[n.toNat]? = some y1 → Rel (cx fc s a w g) true (.sl fl i.size ys) (a.eval x) [] → K (fin dst s (.cell fl (cellsOf y1) 0)) → o.wp P a w (After fc K) Q := by
        intro fl ys y1 hfl hlen hy1 hr hK
        generalize hcv : a.eval x = cv at hr
        cases hr with
        | nil => rw [List.length_nil] at hlen; omega
        | imm _ _ _ ad cap _ vs _ hn hu hrd hc =>
          refine done h hd ho (hgen ad _ cap hcv h0 (by omega)) ?_ hK
          obtain ⟨hsp, _⟩ := set_split hy1 y1
          rw [hsp, flat_append, flat_cons] at hc
          obtain ⟨v1, v', F1, F', rfl, hFF, r1, r', _⟩ := hc.split
          obtain ⟨v2, v3, F2, F3, rfl, hFF', r2, r3, _⟩ := r'.split
          have l1 := r1.length; have l2 := r2.length
          rw [flat_length (fun z hz => hu z (List.mem_of_mem_take hz)), List.length_take, Nat.min_eq_left (by omega)] at l1
          have hF2 : F2 = [] := by
            obtain ⟨_, hF'⟩ := List.append_eq_nil_iff.1 hFF.symm
            rw [hF'] at hFF'
            exact (List.append_eq_nil_iff.1 hFF'.symm).1
          subst hF2
          refine .cell fl _ 0 (ad.add (n.toNat * i.size)) _ v2 hfl (by simp [Addr.add]) (fun k u hk => ?_) r2
          rw [Addr.add_add, Addr.add_block, Addr.add_off, Nat.add_assoc]
          have hkl := (List.getElem?_eq_some_iff.1 hk).1
          exact hrd _ u (by rw [List.getElem?_append_right (by omega), List.getElem?_append_left (by omega), ← hk]; congr 1; omega)
      by_cases hfl : fl = .own
      · subst hfl
        rw [if_pos rfl] at hK
        have hro := h2.ro hnb
        simp only [roD, if_true] at hro
        refine key (fl := .ro) (ys := roL xs) (y1 := roD y0) (by decide) (by rw [roL_eq, List.length_map]) (by rw [roL_eq, List.getElem?_map, hy]; rfl) hro ?_
        rw [cellsOf_roD, ← roL_eq]; exact hK
      · rw [if_neg hfl] at hK
        have hF0 : F = [] := by
          generalize a.eval x = cv at h2
          cases h2 with
          | nil => rfl
          | own => exact absurd rfl hfl
          | imm => rfl
        subst hF0
        exact key hfl rfl hy h2 hK
    · cases hv
  · cases hv
theorem run_loadAt {t : TypeId} {i : TypeInfo} {d : TypeDesc} (hi : P.info? t = some i) (hdd : P.underlying t = some d) {ad : Addr} {us : List Value} (hl : us.length = i.size) (hc : ∀ k u, us[k]? = some u → w.cell? (ad.add k) = some u)
    (h1 : aggB d = false → i.size = 1) : (Instr.loadAt t (.pointer (some ad))).run P w = .ok (if aggB d then .agg us.toArray else us.headD undef) w := by
  cases hag : aggB d with
  | true =>
    have := run_loadCells_list (P := P) w ad us hc
    rw [hl] at this
    simp [Instr.loadAt, Instr.sureAddr, loadVar, run_isAgg' hdd, hag, run_sizeOf' hi, this]
  | false =>
    have h1 := h1 hag
    match us, hl.trans h1 with
    | [u], _ =>
      have hcu := hc 0 u rfl
      have : w.cell? ad = some u := by simpa [Addr.add] using hcu
      simp [Instr.loadAt, Instr.sureAddr, loadVar, run_isAgg' hdd, hag, load, Sem.run, this]
theorem op_load (h : SR fc s a w g) (hok : fc.Ok gl) (hd : dstOk fc dst) (ho : o.dst = dst.map (·.1)) {tx : Option TypeId} {x : Operand} {x' : Od} {t : TypeId} {i : TypeInfo} {d : TypeDesc} {tk : Bool} (hop : o.op = .load t x)
    (hi : P.info? t = some i) (hdd : P.underlying t = some d) (h1 : aggB d = false → i.size = 1) (hcx : compOd P gl fc.pers tx x = some x')
    (hv : vc C dst (.load x' i.size (aggB d) tk) s K) : o.wp P a w (After fc K) Q := by
  obtain ⟨F, h2, hF⟩ := od_val P h hok hcx
  simp only [vc] at hv
  split at hv
  · rename_i r hr
    rw [hr] at h2
    obtain ⟨ad, e, h3, rfl⟩ := ptr_inv h2
    split at hv
    · rename_i cs hg
      obtain ⟨hn, hn0, hv⟩ := hv
      have hne : cs ≠ [] := by rintro rfl; simp at hn; omega
      obtain ⟨q, hca⟩ := readR_rel h h3 hg hne
      cases hag : aggB d with
      | true =>
        rw [hag, if_pos rfl] at hv
        split at hv
        · rename_i dB kB hw
          obtain ⟨_, rfl⟩ := partB_spec hw
          obtain ⟨cs0, hbx, hcs⟩ : ∃ cs0, s.bx dB = some cs0 ∧ cs0.drop kB = cs := by
            simp only [getR, Option.map_eq_some_iff] at hg
            exact hg
          obtain ⟨ad', vs, b1, b2, b3⟩ := h.boxes dB cs0 hbx
          have hadd : ad = ad'.add kB := by
            have h3' : (g.ba dB).map (·.add kB) = some ad := h3
            rw [b1] at h3'; exact (Option.some.inj h3').symm
          subst hadd
          have hl := b3.length
          obtain ⟨F', H, m1, m2, m3, m4, m5⟩ := RelL.mix kB i.size (fun b hb j => h.noBox hb j) b3
          have hl2 : ((vs.drop kB).take i.size).length = i.size := by
            rw [← hcs, List.length_drop] at hn; rw [List.length_take, List.length_drop]; omega
          have hrun : (execOp a.eval o).run P w = .ok (.value (.agg ((vs.drop kB).take i.size).toArray)) w := by
            have := run_loadAt (w := w) hi hdd (us := (vs.drop kB).take i.size) hl2 (fun k u hk => by
              have hk' : vs[kB + k]? = some u := by
                rw [List.getElem?_take] at hk
                split at hk
                · rwa [List.getElem?_drop] at hk
                · cases hk
              rw [Addr.add_add]; exact b2.cell hk') h1
            rw [hag, if_pos rfl] at this
            simp [execOp, hop, e, this]
          have hml : (mixR kB i.size cs0).length = cs0.length := by rw [← m1.length, hl]
          obtain ⟨q1, q2, q3⟩ := h.stripP (cs' := mixR kB i.size cs0) (F' := F') (H := H) hbx hml (fun ad2 vs2 e1 e2 e3 => by
            rw [b1] at e1; injection e1 with e1; subst e1
            have : vs2 = vs := by
              refine List.ext_getElem? fun k => ?_
              by_cases hk : k < cs0.length
              · have k1 : k < vs2.length := by rw [e3.length]; exact hk
                have k2 : k < vs.length := by rw [hl]; exact hk
                have c1 := e2.cell (List.getElem?_eq_getElem k1)
                have c2 := b2.cell (List.getElem?_eq_getElem k2)
                rw [c1] at c2
                rw [List.getElem?_eq_getElem k1, List.getElem?_eq_getElem k2]; exact c2
              · rw [List.getElem?_eq_none (by rw [e3.length]; omega), List.getElem?_eq_none (by rw [hl]; omega)]
            rw [this]; exact m1) m3 m4 m5
          have hcx : cx fc { s with bx := upd s.bx dB (some (mixR kB i.size cs0)) } a w { g with F := updP g.F (.box dB) F' } = cx fc s a w g := by simp only [cx, q3]
          simp only [St.setP, hbx] at hv
          refine wp_value hrun (by rw [ho]; exact After.fin q1 hd (v := .agg (cs.take i.size)) (.agg _ _ _ H (by rw [hcx, ← hcs]; exact m2)) q2 hv)
        obtain ⟨us, h4, h5⟩ := hca.ro h i.size hn
        have hl := h4.length
        simp only [List.length_map, List.length_take] at hl
        have hrun : (execOp a.eval o).run P w = .ok (.value (.agg us.toArray)) w := by
          have := run_loadAt (w := w) hi hdd (us := us) (by omega) h5 h1
          rw [hag, if_pos rfl] at this
          simp [execOp, hop, e, this]
        exact done h hd ho hrun (.agg _ _ us [] h4) hv
      | false =>
        rw [hag] at hv
        simp only [Bool.false_eq_true, if_false] at hv
        have hrun : ∀ u, w.cell? ad = some u → (execOp a.eval o).run P w = .ok (.value u) w := by
          intro u hu
          have := run_loadAt (w := w) (ad := ad) hi hdd (us := [u]) (by rw [h1 hag]; rfl) (by intro k v hk; cases k with | zero => simp at hk; subst hk; simpa [Addr.add] using hu | succ k => simp at hk) h1
          rw [hag] at this
          simp [execOp, hop, e, this]
        have hcell0 : ∀ y, cs[0]? = some y → ∃ t' u G, w.cell? ad = some u ∧ Rel (cx fc s a w g) t' y u G ∧ isCell u = true ∧ ∀ b, b ∈ G → b ∈ g.F q := by
          intro y hy
          obtain ⟨t', u, G, h6, h7, h8, h9⟩ := hca 0 y hy
          exact ⟨t', u, G, by simpa [Addr.add, cx] using h6, h7, h8, h9⟩
        split at hv
        · rename_i es xs hy
          obtain ⟨t', u, G, h6, h7, h8, h9⟩ := hcell0 _ hy
          have hhold : (cx fc s a w g).hold r = some u := by
            obtain ⟨root, path⟩ := r
            have hb : ((cx fc s a w g).res ⟨root, path⟩).bind w.cell? = some u := by rw [h3]; exact h6
            cases root with
            | slot t0 => cases path with
              | nil => simp only [cx, resOf] at h3; split at h3; cases hv' : tmOf a t0 <;> simp [hv', walk] at h3; cases h3
              | cons c p => exact hb
            | box n k => exact hb
          split at hv
          · split at hv
            · rename_i y s' htk
              obtain ⟨F', H, q1, q2, q3⟩ := h.take hhold htk
              exact wp_value (hrun u h6) (by rw [ho]; exact After.fin q1 hd q2 q3 hv)
            · cases hv
          · exact done h hd ho (hrun u h6) (.bor _ _ hhold h8 (by obtain ⟨A, cap, e, _⟩ := h7.sl_inv; exact ⟨_, _, _, e⟩)) hv
        · rename_i y hno hy
          obtain ⟨t', u, G, h6, h7, h8, h9⟩ := hcell0 _ hy
          exact done h hd ho (hrun u h6) (h7.ro fun b hb i => h.noBox (h9 b hb) i).top hv
        · cases hv
    · cases hv
  · rename_i fl cs ofs hr
    rw [hr] at h2
    obtain ⟨ad, vs, e, hfl, hrd, hc, rfl⟩ := cell_inv h2
    obtain ⟨hn, hn0, hv⟩ := hv
    have hl := hc.length
    cases hag : aggB d with
    | true =>
      rw [hag, if_pos rfl] at hv
      have hcs : cs = cs.take ofs ++ ((cs.drop ofs).take i.size ++ cs.drop (ofs + i.size)) := by
        rw [← List.drop_drop, List.take_append_drop, List.take_append_drop]
      rw [hcs] at hc
      obtain ⟨v1, v', F1, F', rfl, hFF, r1, r', _⟩ := hc.split
      obtain ⟨v2, v3, F2, F3, rfl, hFF', r2, r3, _⟩ := r'.split
      have l1 := r1.length; have l2 := r2.length
      simp only [List.length_take, List.length_drop] at l1 l2
      have hF2 : F2 = [] := by
        obtain ⟨_, hF'⟩ := List.append_eq_nil_iff.1 hFF.symm
        rw [hF'] at hFF'
        exact (List.append_eq_nil_iff.1 hFF'.symm).1
      subst hF2
      have h5 : ∀ k u, v2[k]? = some u → w.cell? ((ad.add ofs).add k) = some u := by
        intro k u hk
        have hkl := (List.getElem?_eq_some_iff.1 hk).1
        rw [Addr.add_add]
        exact (hrd (ofs + k) u (by rw [List.getElem?_append_right (by omega), List.getElem?_append_left (by omega), ← hk]; congr 1; omega)).1
      have hrun : (execOp a.eval o).run P w = .ok (.value (.agg v2.toArray)) w := by
        have := run_loadAt (w := w) hi hdd (us := v2) (by omega) h5 h1
        rw [hag, if_pos rfl] at this
        simp [execOp, hop, e, this]
      exact done h hd ho hrun (.agg _ _ v2 [] r2.top) hv
    | false =>
      rw [hag] at hv
      simp only [Bool.false_eq_true, if_false] at hv
      obtain ⟨y, hy, hK⟩ := hv
      obtain ⟨u, G, h6, h7, h8, h9⟩ := hc.get hy
      have hG : G = [] := by cases G with | nil => rfl | cons b _ => exact (List.not_mem_nil (h9 b (List.mem_cons_self ..))).elim
      subst hG
      have hcu := (hrd ofs u h6).1
      have hrun : (execOp a.eval o).run P w = .ok (.value u) w := by
        have := run_loadAt (w := w) (ad := ad.add ofs) hi hdd (us := [u]) (by rw [h1 hag]; rfl) (by intro k v hk; cases k with | zero => simp at hk; subst hk; rw [Addr.add_add]; exact hcu | succ k => simp at hk) h1
        rw [hag] at this
        simp [execOp, hop, e, this]
      exact done h hd ho hrun h7.top hK
  · cases hv
end
end Go.Ev
namespace Go.Ev
set_option linter.unusedVariables false
section
variable {P : Program} {fc : Fc} {s : St} {a : Act} {w : World} {g : Gh} {gl : Tabs} {o : Oper} {Q : Exit → Act → World → Prop} {K : St → Prop} {dst : Option (Nat × Bool)} {C : Kn}
theorem cells_rel {X : Cx} {t : Bool} {y : AV} {c : Value} {F : List Nat} (ho : okCells y = true) (h : Rel X t y c F) : RelL X t (cellsOf y) c.cells.toList F := by
  have one : ∀ {y : AV} {c : Value} {F : List Nat}, isCell c = true → Rel X t y c F → cellsOf y = [y] → RelL X t (cellsOf y) c.cells.toList F := by
    intro y c F hc hr hy
    rw [hy]
    have hcc : c.cells.toList = [c] := by cases c <;> first | rfl | cases hc
    rw [hcc]
    have := RelL.cons t y c F [] [] [] hc hr (.nil _) (fun b _ hb => (List.not_mem_nil hb).elim)
    rwa [List.append_nil] at this
  cases h with
  | junk => simp [okCells] at ho
  | tup => simp [okCells] at ho
  | lit _ v hs => exact one ho (.lit _ _ hs) rfl
  | nil _ fl es A => exact one rfl (.nil _ _ _ _) rfl
  | own _ xs b o cap es arr e fr vs F hh hfr hs hn hu hr hc hb hbd hzf => exact one rfl (.own _ xs b o cap es arr e fr vs F hh hfr hs hn hu hr hc hb hbd hzf) rfl
  | imm _ fl xs ad cap es vs hfl hn hu hr hc => exact one rfl (.imm _ fl xs ad cap es vs hfl hn hu hr hc) rfl
  | agg _ cs vs F hc => exact hc
  | ptr r a h => exact one rfl (.ptr r a h) rfl
  | bor r _ h hc hs => exact one hc (.bor r _ h hc hs) rfl
  | cell fl cs o ad a vs hfl ha hr hc => exact one rfl (.cell fl cs o ad a vs hfl ha hr hc) rfl
  | clo f cs vs hc => exact one rfl (.clo f cs vs hc) rfl
theorem newVar_run {t : TypeId} {v : Value} : (newVar t v).run P w = .ok ⟨w.heap.size, 0, none⟩ (w.alloc (.cells v.cells t)) := by
  rfl
theorem boxed (h : SR fc s a w g) {d : Nat} {pd : Bool} (hd : dstOk fc (some (d, pd))) (ho : o.dst = some d) {e : TypeId} {cs : List AV} {v : Value} {H : List Nat} (hrun : (execOp a.eval o).run P w = .ok (.value (.pointer (some ⟨w.heap.size, 0, none⟩))) (w.alloc (.cells v.cells e)))
    (hr : RelL (cx fc s a w g) true cs v.cells.toList H) (hH : Hand fc s g H) (hK : K (((s.kl (viaBox d) false).setB d (klL (viaBox d) false cs)).put pd d (.ptr ⟨.box d 0, []⟩))) : o.wp P a w (After fc K) Q := by
  have hnb := h.newBox d (hd d pd rfl).1 e hr (fun q _ => hH.disj q) hH.sep hH.free
  have harr : v.cells.toList.toArray = v.cells := by simp
  rw [harr] at hnb
  refine wp_value hrun ?_
  rw [ho]
  exact After.fin (dst := some (d, pd)) hnb hd (v := .ptr ⟨.box d 0, []⟩) (.ptr _ _ (by simp [cx, resOf, upd_same, Addr.add])) (.nil _ _ _) hK
theorem op_new (h : SR fc s a w g) {d : Nat} {pd : Bool} (hd : dstOk fc (some (d, pd))) (ho : o.dst = some d) {t : TypeId} {i : TypeInfo} {z : Value} {x : AV} (hop : o.op = .alloc t) (hi : P.info? t = some i) (hz : i.zero = some z) (hf : flatV z = true)
    (hx : avOf P (some t) z = some x) (hok : okCells x = true) (hv : vc C (some (d, pd)) (.new (cellsOf x)) s K) : o.wp P a w (After fc K) Q := by
  have hrun : (execOp a.eval o).run P w = .ok (.value (.pointer (some ⟨w.heap.size, 0, none⟩))) (w.alloc (.cells z.cells t)) := by
    simp [execOp, hop, Instr.alloc, zeroValue, run_typeInfo hi, hz, newVar_run]
  exact boxed h hd ho hrun (cells_rel hok (avOf_rel hf hx)) (.nil _ _ _) hv
theorem op_box (h : SR fc s a w g) (hok : fc.Ok gl) {d : Nat} {pd : Bool} (hd : dstOk fc (some (d, pd))) (ho : o.dst = some d) {t : TypeId} {tx : Option TypeId} {x : Operand} {x' : Od} (hop : o.op = .box t x)
    (hcx : compOd P gl fc.pers tx x = some x') (hv : vc C (some (d, pd)) (.box x') s K) : o.wp P a w (After fc K) Q := by
  simp only [vc] at hv
  split at hv
  · rename_i d' pd' y s' hdd hg
    injection hdd with hdd; injection hdd with h1 h2; subst h1; subst h2
    obtain ⟨hoc, hK⟩ := hv
    obtain ⟨F, H, q1, q2, q3⟩ := od_grab P h hok hcx hg
    have hrun : (execOp a.eval o).run P w = .ok (.value (.pointer (some ⟨w.heap.size, 0, none⟩))) (w.alloc (.cells (a.eval x).cells t)) := by
      simp [execOp, hop, Instr.box, newVar_run]
    exact boxed q1 hd ho hrun (cells_rel hoc q2) q3 hK
  · cases hv
theorem op_store (h : SR fc s a w g) (hok : fc.Ok gl) {t : TypeId} {i : TypeInfo} {ta tx : Option TypeId} {p x : Operand} {p' x' : Od} (hop : o.op = .store t p x) (ho : o.dst = none) (hi : P.info? t = some i)
    (hcp : compOd P gl fc.pers ta p = some p') (hcx : compOd P gl fc.pers tx x = some x') (hv : vc C none (.store p' x' i.size) s K) : o.wp P a w (After fc K) Q := by
  simp only [vc] at hv
  split at hv
  · rename_i r y s1 hr hg
    obtain ⟨hoc, hlen, hn0, hv⟩ := hv
    obtain ⟨F0, h2, _⟩ := od_val P h hok hcp
    rw [hr] at h2
    obtain ⟨ad, e, h3, _⟩ := ptr_inv h2
    obtain ⟨F, H, q1, q2, q3⟩ := od_grab P h hok hcx hg
    split at hv
    · rename_i s2 hw
      have hcl := cells_rel hoc q2
      have hres : (cx fc s1 a w { g with F := F }).res r = some ad := h3
      obtain ⟨w', g', q4, q5⟩ := q1.write P hres (by intro hh; rw [hh] at hlen; simp at hlen; omega) hcl q3 hw
      have hsz : (a.eval x).cells.size = i.size := by
        have := hcl.length; rw [hlen] at this; simpa using this
      have hrun : (execOp a.eval o).run P w = .ok .skip w' := by
        simp [execOp, hop, e, Instr.storeAt, Instr.sureAddr, storeVar, run_sizeOf' hi, hsz, q5]
      exact wp_skipped hrun (by rw [ho]; exact ⟨s2, g', q4, hv⟩)
    · cases hv
  · cases hv
theorem op_mx (h : SR fc s a w g) (hok : fc.Ok gl) (hd : dstOk fc dst) (ho : o.dst = dst.map (·.1)) {tx ty : Option TypeId} {x y : Operand} {x' y' : Od} {isMax : Bool} {ts : Array TypeId} (hop : o.op = .call { callee := .builtin (if isMax then .max else .min), args := #[x, y], argTypes := ts })
    (hcx : compOd P gl fc.pers tx x = some x') (hcy : compOd P gl fc.pers ty y = some y') (hv : vc C dst (.mx isMax x' y') s K) : o.wp P a w (After fc K) Q := by
  obtain ⟨_, h2, _⟩ := od_val P h hok hcx
  obtain ⟨_, h3, _⟩ := od_val P h hok hcy
  simp only [vc] at hv
  split at hv
  · rename_i k m k' n hu hv'
    rw [hu] at h2; rw [hv'] at h3
    have e2 := h2.lit_inv.1
    have e3 := h3.lit_inv.1
    obtain ⟨rfl, hK⟩ := hv
    have hrun : (execOp a.eval o).run P w = .ok (.value (.int k (if isMax then max m n else min m n))) w := by
      cases isMax
      · simp [execOp, hop, resolve, invoke, builtin, e2, e3, Builtin.min_, Builtin.min2]
        try (split <;> (congr 2; omega))
      · simp [execOp, hop, resolve, invoke, builtin, e2, e3, Builtin.max_, Builtin.max2]
        try (split <;> (congr 2; omega))
    exact done h hd ho hrun (.lit _ _ rfl) hK
  · cases hv
end
end Go.Ev
namespace Go.Ev
set_option linter.unusedVariables false
theorem fold_over (off : Nat) : ∀ (l : List Value) (k : Nat) (cells : Array Value), off + k + l.length ≤ cells.size →
    ((l.zipIdx k).foldl (fun cs p => cs.setIfInBounds (off + p.2) p.1) cells).toList = cells.toList.take (off + k) ++ l ++ cells.toList.drop (off + k + l.length)
  | [], k, cells, h => by simp
  | v :: l, k, cells, h => by
    simp only [List.zipIdx_cons, List.foldl_cons]
    rw [fold_over off l (k + 1) _ (by simp at h ⊢; omega)]
    simp only [List.length_cons] at h
    have hk : off + k < cells.toList.length := by simpa using (by omega : off + k < cells.size)
    rw [Array.toList_setIfInBounds, List.set_eq_take_append_cons_drop, if_pos hk]
    have e1 : (cells.toList.take (off + k) ++ v :: cells.toList.drop (off + k + 1)).take (off + (k + 1)) = cells.toList.take (off + k) ++ [v] := by
      rw [List.take_append]
      have : (cells.toList.take (off + k)).length = off + k := by rw [List.length_take]; omega
      rw [this, List.take_of_length_le (by rw [this]; omega), show off + (k + 1) - (off + k) = 1 by omega]
      simp
    have e2 : (cells.toList.take (off + k) ++ v :: cells.toList.drop (off + k + 1)).drop (off + (k + 1) + l.length) = cells.toList.drop (off + k + (l.length + 1)) := by
      have : (cells.toList.take (off + k)).length = off + k := by rw [List.length_take]; omega
      rw [List.drop_append, this, List.drop_of_length_le (by rw [this]; omega), show off + (k + 1) + l.length - (off + k) = l.length + 1 by omega]
      simp only [List.nil_append, List.drop_succ_cons, List.drop_drop]
      congr 1; omega
    rw [e1, e2]
    simp [List.append_assoc]
theorem fill_one {pl : Nat → Option (Nat × Nat)} {i off n : Nat} {v : Value} {cells : Array Value} {rest : List (Nat × Value)} (hp : pl i = some (off, n)) (hn : v.cells.size = n) (hfit : off + n ≤ cells.size) :
    Instr.fill pl cells ((i, v) :: rest) = Instr.fill pl (cells.toList.take off ++ v.cells.toList ++ cells.toList.drop (off + n)).toArray rest := by
  have h := fold_over off v.cells.toList 0 cells (by simp; omega)
  simp only [Nat.add_zero, Array.length_toList, hn] at h
  have h2 : (v.cells.zipIdx.foldl (fun cs p => cs.setIfInBounds (off + p.2) p.1) cells) = (cells.toList.take off ++ v.cells.toList ++ cells.toList.drop (off + n)).toArray := by
    apply Array.ext'
    rw [← Array.foldl_toList, Array.toList_zipIdx, h]
  simp only [Instr.fill, hp]
  rw [if_neg (by simp [hn]; omega)]
  congr 1
section
variable {P : Program} {fc : Fc} {s : St} {a : Act} {w : World} {g : Gh} {gl : Tabs} {o : Oper} {Q : Exit → Act → World → Prop} {K : St → Prop} {dst : Option (Nat × Bool)} {C : Kn}
inductive PR (X : Cx) (pl : Nat → Option (Nat × Nat)) : List (Nat × Nat × AV) → List (Nat × Value) → List Nat → Prop
  | nil : PR X pl [] [] []
  | cons (i off n : Nat) (y : AV) (v : Value) (F : List Nat) (ys : List (Nat × Nat × AV)) (vs : List (Nat × Value)) (G : List Nat) (hp : pl i = some (off, n)) (ho : okCells y = true)
      (h : Rel X true y v F) (hs : PR X pl ys vs G) (hd : Disj F G) : PR X pl ((off, n, y) :: ys) ((i, v) :: vs) (F ++ G)
theorem RelL.over {X : Cx} {t : Bool} {cells ys : List AV} {vs us : List Value} {F0 H : List Nat} (h : RelL X t cells vs F0) (hy : RelL X t ys us H) (hd : Disj F0 H) {off : Nat} (hfit : off + ys.length ≤ cells.length) :
    ∃ F', RelL X t (cells.take off ++ ys ++ cells.drop (off + ys.length)) (vs.take off ++ us ++ vs.drop (off + ys.length)) F' ∧ ∀ b, b ∈ F' → b ∈ F0 ∨ b ∈ H := by
  have hl := h.length
  have hcs : cells = cells.take off ++ ((cells.drop off).take ys.length ++ cells.drop (off + ys.length)) := by
    rw [← List.drop_drop, List.take_append_drop, List.take_append_drop]
  have h' := h
  rw [hcs] at h'
  obtain ⟨v1, v', F1, F', hv, rfl, r1, r', d1⟩ := h'.split
  obtain ⟨v2, v3, F2, F3, hv', rfl, r2, r3, d2⟩ := r'.split
  have l1 := r1.length; have l2 := r2.length
  simp only [List.length_take, List.length_drop] at l1 l2
  have e1 : vs.take off = v1 := by rw [hv, List.take_append_of_le_length (by omega), List.take_of_length_le (by omega)]
  have e3 : vs.drop (off + ys.length) = v3 := by
    rw [hv, hv', List.drop_append, List.drop_of_length_le (by omega), List.nil_append, List.drop_append, List.drop_of_length_le (by omega), List.nil_append, show off + ys.length - v1.length - v2.length = 0 by omega, List.drop_zero]
  rw [e1, e3]
  refine ⟨F1 ++ H ++ F3, (r1.append hy fun b hb hb' => hd b (by simp [hb]) hb').append r3 ?_, fun b hb => ?_⟩
  · intro b hb hb'
    rcases List.mem_append.1 hb with hb | hb
    · exact d1 b hb (by simp [hb'])
    · exact hd b (by simp [hb']) hb
  · simp only [List.mem_append] at hb ⊢
    rcases hb with (hb | hb) | hb
    · exact .inl (.inl hb)
    · exact .inr hb
    · exact .inl (.inr (.inr hb))
theorem fill_rel {X : Cx} {pl : Nat → Option (Nat × Nat)} : ∀ {ys : List (Nat × Nat × AV)} {ps : List (Nat × Value)} {H : List Nat} {cells cs : List AV} {vs : List Value} {F0 : List Nat}, PR X pl ys ps H → RelL X true cells vs F0 → Disj F0 H → Ev.place cells ys = some cs →
    ∃ arr F', Instr.fill pl vs.toArray ps = some arr ∧ RelL X true cs arr.toList F' ∧ ∀ b, b ∈ F' → b ∈ F0 ∨ b ∈ H := by
  intro ys
  induction ys with
  | nil =>
    intro ps H cells cs vs F0 hp hr _ hc
    cases hp
    simp only [Ev.place, Option.some.injEq] at hc
    subst hc
    exact ⟨vs.toArray, F0, rfl, by simpa using hr, fun b hb => .inl hb⟩
  | cons y ys ih =>
    intro ps H cells cs vs F0 hp hr hd hc
    cases hp with
    | cons i off n y v F _ ps G hpl hok hv hs hdd =>
      simp only [Ev.place] at hc
      split at hc
      · rename_i hh
        obtain ⟨hn, hfit⟩ := hh
        have hcl := cells_rel hok hv
        have hlen := hcl.length
        rw [Array.length_toList] at hlen
        obtain ⟨F1, h1, h2⟩ := hr.over hcl (fun b hb hb' => hd b hb (by simp [hb'])) (off := off) (by omega)
        rw [hn] at h1
        obtain ⟨arr, F2, h3, h4, h5⟩ := ih hs h1 (fun b hb hb' => by
          rcases h2 b hb with hb | hb
          · exact hd b hb (by simp [hb'])
          · exact hdd b hb hb') hc
        refine ⟨arr, F2, ?_, h4, fun b hb => ?_⟩
        · rw [fill_one hpl (by omega) (by have := hr.length; simp; omega)]
          simpa using h3
        · rcases h5 b hb with hb | hb
          · rcases h2 b hb with hb | hb
            · exact .inl hb
            · exact .inr (by simp [hb])
          · exact .inr (by simp [hb])
      · cases hc
inductive PC (P : Program) (gl : Tabs) (pers : Nat → Bool) (pl : Nat → Option (Nat × Nat)) : List (Nat × Operand) → List (Nat × Nat × Od) → Prop
  | nil : PC P gl pers pl [] []
  | cons (i off n : Nat) (x : Operand) (x' : Od) (ty : Option TypeId) (xs : List (Nat × Operand)) (xs' : List (Nat × Nat × Od)) (hp : pl i = some (off, n)) (hc : compOd P gl pers ty x = some x') (hs : PC P gl pers pl xs xs') :
      PC P gl pers pl ((i, x) :: xs) ((off, n, x') :: xs')
theorem grabs_rel (hok : fc.Ok gl) {pl : Nat → Option (Nat × Nat)} : ∀ {xs : List (Nat × Operand)} {xs' : List (Nat × Nat × Od)} {s s' : St} {g : Gh} {ys : List (Nat × Nat × AV)}, PC P gl fc.pers pl xs xs' → SR fc s a w g → grabs s xs' = some (ys, s') →
    ∃ F H, SR fc s' a w { g with F := F } ∧ PR (cx fc s' a w g) pl ys (xs.map fun p => (p.1, a.eval p.2)) H ∧ Hand fc s' { g with F := F } H ∧ Sub g F H ∧ (bxcOf s'.bx g.ba = bxcOf s.bx g.ba ∧ ∀ n, (s'.bx n = none ↔ s.bx n = none)) := by
  intro xs
  induction xs with
  | nil =>
    intro xs' s s' g ys hp h hg
    cases hp
    simp only [grabs, Option.some.injEq, Prod.mk.injEq] at hg
    obtain ⟨rfl, rfl⟩ := hg
    exact ⟨g.F, [], h, .nil, .nil _ _ _, ⟨fun q b hb => hb, fun b hb => (List.not_mem_nil hb).elim⟩, rfl, fun _ => Iff.rfl⟩
  | cons p xs ih =>
    intro xs' s s' g ys hp h hg
    cases hp with
    | cons i off n x x' ty _ xs' hpl hc hs =>
      simp only [grabs] at hg
      cases hgr : x'.grab s with
      | none => simp [hgr] at hg
      | some r =>
        obtain ⟨y, s1⟩ := r
        simp only [hgr] at hg
        by_cases hoc : okCells y = true
        · rw [if_pos hoc] at hg
          cases hgs : grabs s1 xs' with
          | none => simp [hgs] at hg
          | some r2 =>
            obtain ⟨ys2, s2⟩ := r2
            simp only [hgs, Option.some.injEq, Prod.mk.injEq] at hg
            obtain ⟨rfl, rfl⟩ := hg
            obtain ⟨F1, H1, q1, q2, q3, q4⟩ := od_grab' P h hok hc hgr
            have b1 := od_grab_bx hgr g.ba
            obtain ⟨F2, H2, r1, r2, r3, r4, b2⟩ := ih hs q1 hgs
            obtain ⟨q5, q6⟩ := q3.grabbed b2.2 r4
            have hcx : cx fc s2 a w g = cx fc s1 a w g := by simp only [cx]; rw [b2.1]
            refine ⟨F2, H1 ++ H2, r1, .cons i off n y _ H1 ys2 _ H2 hpl hoc (by rw [hcx]; exact q2) r2 q6, ?_, ⟨fun q b hb => q4.1 q b (r4.1 q b hb), fun b hb => ?_⟩, b2.1.trans b1.1, fun n => (b2.2 n).trans (b1.2 n)⟩
            · exact ⟨fun q b hb => (List.mem_append.1 hb).elim (q5.disj q b) (r3.disj q b), fun n cs ad hn ha hb => (List.mem_append.1 hb).elim (q5.sep n cs ad hn ha) (r3.sep n cs ad hn ha), fun b hb => (List.mem_append.1 hb).elim (q5.free b) (r3.free b)⟩
            · rcases List.mem_append.1 hb with hb | hb
              · exact q4.2 b hb
              · obtain ⟨q, hq⟩ := r4.2 b hb
                exact ⟨q, q4.1 q b hq⟩
        · rw [if_neg hoc] at hg; cases hg
theorem run_places {fs : List Field} (h : ∀ f, f ∈ fs → ∃ i, P.info? f.type = some i) : (fs.mapM fun (f : Field) => do pure (f.offset, ← sizeOf f.type)).run P w = .ok (fs.map fun (f : Field) => (f.offset, P.cellsOf f.type)) w := by
  induction fs with
  | nil => rfl
  | cons f fs ih =>
    obtain ⟨i, hi⟩ := h f (List.mem_cons_self ..)
    have hs : P.cellsOf f.type = i.size := by simp [Program.cellsOf, hi]
    rw [List.mapM_cons]
    simp only [Sem.run_bind, run_sizeOf' hi, Result.andThen_ok, Sem.run_pure, ih fun f hf => h f (List.mem_cons_of_mem _ hf), List.map_cons, hs]
theorem op_build (h : SR fc s a w g) (hok : fc.Ok gl) (hd : dstOk fc dst) (ho : o.dst = dst.map (·.1)) {t : TypeId} {i : TypeInfo} {z : Value} {x : AV} {fs : Array Field} {parts : Array (Nat × Operand)} {parts' : List (Nat × Nat × Od)} (hop : o.op = .build t parts)
    (hi : P.info? t = some i) (hz : i.zero = some z) (hf : flatV z = true) (hx : avOf P (some t) z = some x) (hokx : okCells x = true) (ht : P.underlying t = some (.struct fs)) (hfs : ∀ f, f ∈ fs.toList → ∃ i, P.info? f.type = some i)
    (hp : PC P gl fc.pers ((fs.map fun f => (f.offset, P.cellsOf f.type))[·]?) parts.toList parts') (hv : vc C dst (.build (cellsOf x) parts') s K) : o.wp P a w (After fc K) Q := by
  simp only [vc] at hv
  split at hv
  · rename_i ys s' hg
    obtain ⟨F, H, q1, q2, q3, q4, b⟩ := grabs_rel hok hp h hg
    split at hv
    · rename_i cs hpl
      have hzr : RelL (cx fc s' a w g) true (cellsOf x) z.cells.toList [] := cells_rel hokx (avOf_rel hf hx)
      obtain ⟨arr, F', h3, h4, h5⟩ := fill_rel q2 hzr (fun b hb => (List.not_mem_nil hb).elim) hpl
      have hpm := run_places (P := P) (w := w) (fs := fs.toList) hfs
      have hrun : (execOp a.eval o).run P w = .ok (.value (.agg arr)) w := by
        have h3' : Instr.fill ((fs.map fun f => (f.offset, P.cellsOf f.type))[·]?) z.cells (parts.map fun p => (p.1, a.eval p.2)).toList = some arr := by
          rw [Array.toList_map]; simpa using h3
        have hm : (fs.mapM fun (f : Field) => do pure (f.offset, ← sizeOf f.type)).run P w = .ok (fs.map fun (f : Field) => (f.offset, P.cellsOf f.type)) w := by
          rw [Array.mapM_eq_mapM_toList, Sem.run_map, hpm]
          simp only [Result.andThen_ok]
          congr 1; apply Array.ext'; simp
        unfold execOp
        rw [hop]
        simp only [Sem.run_bind, Instr.build, zeroValue, run_typeInfo hi, Result.andThen_ok, hz, Sem.run_pure, run_underlying ht, hm]
        simp only [h3', Sem.run_pure, Result.andThen_ok]
      refine wp_value hrun ?_
      rw [ho]
      refine After.fin q1 hd (v := .agg cs) (H := F') ?_ ⟨fun q b hb => q3.disj q b ((h5 b hb).resolve_left List.not_mem_nil), fun n cs ad hn ha hb => q3.sep n cs ad hn ha ((h5 _ hb).resolve_left List.not_mem_nil), fun b hb => q3.free b ((h5 b hb).resolve_left List.not_mem_nil)⟩ hv
      have := Rel.agg true cs arr.toList F' h4
      exact (by simpa using this : Rel (cx fc s' a w g) true (.agg cs) (.agg arr) F')
    · cases hv
  · cases hv
end
end Go.Ev
namespace Go.Ev
set_option linter.unusedVariables false
section
variable {P : Program} {fc : Fc} {s : St} {a : Act} {w : World} {g : Gh} {gl : Tabs} {o : Oper} {Q : Exit → Act → World → Prop} {K : St → Prop} {dst : Option (Nat × Bool)} {C : Kn}
theorem RelL.ofGet {X : Cx} {t : Bool} : ∀ {xs : List AV} {vs : List Value}, vs.length = xs.length → (∀ (k : Nat) (x : AV) (v : Value), xs[k]? = some x → vs[k]? = some v → Rel X t x v [] ∧ isCell v = true) → RelL X t xs vs []
  | [], [], _, _ => .nil _
  | x :: xs, v :: vs, hl, h => .cons _ x v [] xs vs [] (h 0 x v rfl rfl).2 (h 0 x v rfl rfl).1 (RelL.ofGet (by simpa using hl) fun k y u h1 h2 => h (k + 1) y u (by simpa using h1) (by simpa using h2)) (fun b hb => (List.not_mem_nil hb).elim)
  | [], _ :: _, hl, _ => by simp at hl
  | _ :: _, [], hl, _ => by simp at hl
theorem flat_chunk {X : Cx} {t : Bool} {es : Nat} : ∀ {n : Nat} {cs : List AV} {vs : List Value} {F : List Nat}, RelL X t cs vs F → cs.length = n * es → flat (chunk es cs n) = cs ∧ ∀ x, x ∈ chunk es cs n → (cellsOf x).length = es := by
  intro n
  induction n with
  | zero => intro cs vs F h hl; have : cs = [] := List.eq_nil_of_length_eq_zero (by omega); subst this; exact ⟨rfl, fun x hx => by simp [chunk] at hx⟩
  | succ n ih =>
    intro cs vs F h hl
    have hsp : cs = cs.take es ++ cs.drop es := (List.take_append_drop ..).symm
    have h' := h
    rw [hsp] at h'
    obtain ⟨v1, v2, F1, F2, _, _, r1, r2, _⟩ := h'.split
    obtain ⟨h1, h2⟩ := ih r2 (by rw [List.length_drop, hl, Nat.add_mul]; omega)
    have hx : cellsOf (elt es cs) = cs.take es := by
      unfold elt
      by_cases he : es = 1
      · subst he
        rw [if_pos rfl]
        cases cs with
        | nil => simp at hl
        | cons c cs =>
          cases h with
          | cons _ _ v F₁ _ vs F₂ hv hr hs hd => simpa using hr.one hv
      · rw [if_neg he]; rfl
    refine ⟨?_, fun x hx' => ?_⟩
    · simp only [chunk]
      rw [flat_cons, hx, h1, List.take_append_drop]
    · simp only [chunk] at hx'
      rcases List.mem_cons.1 hx' with rfl | hx'
      · rw [hx, List.length_take, hl, Nat.add_mul]; omega
      · exact h2 x hx'
theorem chunk_length (es : Nat) : ∀ (n : Nat) (cs : List AV), (chunk es cs n).length = n
  | 0, _ => rfl
  | n + 1, cs => by simp [chunk, chunk_length es n]
theorem place_length : ∀ {ys : List (Nat × Nat × AV)} {cells cs : List AV}, Ev.place cells ys = some cs → cs.length = cells.length
  | [], cells, cs, h => by simp only [Ev.place, Option.some.injEq] at h; rw [h]
  | (off, n, y) :: ys, cells, cs, h => by
    simp only [Ev.place] at h
    split at h
    · rename_i hh
      rw [place_length h]
      simp only [List.length_append, List.length_take, List.length_drop]; omega
    · cases h
theorem op_buildS (h : SR fc s a w g) (hok : fc.Ok gl) (hd : dstOk fc dst) (ho : o.dst = dst.map (·.1)) {t e : TypeId} {i : TypeInfo} {z : Value} {x : AV} {len : Nat} {parts : Array (Nat × Operand)} {parts' : List (Nat × Nat × Od)} (hop : o.op = .buildSlice t len parts)
    (ht : P.underlying t = some (.slice e)) (hi : P.info? e = some i) (hz : i.zero = some z) (hzs : z.cells.size = i.size) (hf : flatV z = true) (hx : avOf P (some e) z = some x) (hokx : okCells x = true) (hsm : len * i.size ≤ 16777216)
    (hp : PC P gl fc.pers (fun k => some (k * i.size, i.size)) parts.toList parts') (hv : vc C dst (.buildS i.size len ((List.range (len * i.size)).map fun k => (cellsOf x).getD (k % i.size) .junk) parts') s K) : o.wp P a w (After fc K) Q := by
  simp only [vc] at hv
  split at hv
  · rename_i ys s' hg
    obtain ⟨F, H, q1, q2, q3, q4, b⟩ := grabs_rel hok hp h hg
    split at hv
    · rename_i cs hpl
      obtain ⟨hplain, hK⟩ := hv
      have hzr : RelL (cx fc s' a w g) true (cellsOf x) z.cells.toList [] := cells_rel hokx (avOf_rel hf hx)
      have hzl := hzr.length
      rw [Array.length_toList, hzs] at hzl
      let tmpl : List Value := (List.range (len * i.size)).map fun k => z.cells.toList.getD (k % i.size) undef
      have htr : RelL (cx fc s' a w g) true ((List.range (len * i.size)).map fun k => (cellsOf x).getD (k % i.size) .junk) tmpl [] := by
        refine .ofGet (by simp [tmpl]) fun k y v h1 h2 => ?_
        simp only [List.getElem?_map, tmpl] at h1 h2
        by_cases hk : k < len * i.size
        · rw [List.getElem?_range hk] at h1 h2
          simp only [Option.map_some, Option.some.injEq] at h1 h2
          have hpos : 0 < i.size := by rcases Nat.eq_zero_or_pos i.size with h0 | h0; rw [h0] at hk; omega; exact h0
          have hm : k % i.size < i.size := Nat.mod_lt _ hpos
          have hy : (cellsOf x)[k % i.size]? = some y := by rw [← h1, List.getD_eq_getElem?_getD, List.getElem?_eq_getElem (by omega)]; rfl
          obtain ⟨u, G, q5, q6, q7, q8⟩ := hzr.get hy
          have hG : G = [] := by cases G with | nil => rfl | cons b _ => exact (List.not_mem_nil (q8 b (List.mem_cons_self ..))).elim
          subst hG
          have : v = u := by rw [← h2, List.getD_eq_getElem?_getD, q5]; rfl
          subst this
          exact ⟨q6, q7⟩
        · rw [List.getElem?_eq_none (by simp; omega)] at h1; cases h1
      obtain ⟨arr, F', h3, h4, h5⟩ := fill_rel q2 htr (fun b hb => (List.not_mem_nil hb).elim) hpl
      have hcl : cs.length = len * i.size := by rw [place_length hpl]; simp
      have h4' := h4.plain hplain
      obtain ⟨c1, c2⟩ := flat_chunk (es := i.size) h4' hcl
      have hzero : ∀ zero : Array Value, (len * i.size = 0 ∨ zero = z.cells) → ((Array.range (len * i.size)).map fun k => zero[k % zero.size]!) = tmpl.toArray := by
        intro zero hzz
        apply Array.ext'
        simp only [Array.toList_map, Array.toList_range, tmpl]
        apply List.map_congr_left
        intro k hk
        have hk' : k < len * i.size := List.mem_range.1 hk
        have hzz : zero = z.cells := hzz.resolve_left (by omega)
        subst hzz
        rw [hzs, List.getD_eq_getElem?_getD]
        have hpos : 0 < i.size := by rcases Nat.eq_zero_or_pos i.size with h0 | h0; rw [h0] at hk'; omega; exact h0
        have hm : k % i.size < z.cells.size := by rw [hzs]; exact Nat.mod_lt _ hpos
        rw [getElem!_pos z.cells (k % i.size) hm]
        simp [hm]
      have hF'H : ∀ b, b ∈ F' → b ∈ H := fun b hb => (h5 b hb).resolve_left List.not_mem_nil
      have hhand : Hand fc s' { g with F := F } F' := ⟨fun q b hb => q3.disj q b (hF'H b hb), fun n cs ad hn ha hb => q3.sep n cs ad hn ha (hF'H _ hb), fun b hb => q3.free b (hF'H b hb)⟩
      have hrel : RelL (cx fc s' a w { g with F := F }) false (flat (chunk i.size cs len)) arr.toList F' := by rw [c1]; exact h4'
      obtain ⟨g', n1, n2, n3, _, _⟩ := q1.newRow (es := i.size) (xs := chunk i.size cs len) (cap := len) (rest := []) e c2 hrel hhand (by rw [List.length_nil, h4.length, hcl]; rfl) (by rw [chunk_length]; exact Nat.le_refl _)
      rw [chunk_length] at n2
      simp only [List.append_nil] at n1 n2
      have hrun : (execOp a.eval o).run P w = .ok (.value (.slice (some ⟨w.heap.size, 0, none⟩) len len)) (w.alloc (.cells arr.toList.toArray e)) := by
        have h3' : Instr.fill (fun k => some (k * i.size, i.size)) tmpl.toArray (parts.map fun p => (p.1, a.eval p.2)).toList = some arr := by
          rw [Array.toList_map]; exact h3
        have hns : ¬ (2 ^ 24 < len * i.size) := by omega
        unfold execOp
        rw [hop]
        simp only [Sem.run_bind, Instr.buildSlice, run_underlying ht, Result.andThen_ok, run_sizeOf' hi, gt_iff_lt, if_neg hns]
        by_cases h0 : len * i.size = 0
        · rw [if_pos h0]
          simp only [Sem.run_bind, Sem.run_pure, Result.andThen_ok, hzero #[] (.inl h0), h3']
          rfl
        · rw [if_neg h0]
          have hzv : (zeroValue e).run P w = .ok z w := by simp [zeroValue, run_typeInfo hi, hz]
          simp only [Sem.run_bind, Sem.run_pure, Result.andThen_ok, hzv, hzero z.cells (.inr rfl), h3']
          rfl
      exact wp_value hrun (by rw [ho]; exact After.fin n1 hd n2 n3 hK)
    · cases hv
  · cases hv
theorem slice_src {t : Bool} {fl : Fl} {es : Nat} {ys : List AV} {c : Value} {F : List Nat} (h : Rel (cx fc s a w g) t (.sl fl es ys) c F) :
    ∃ us F', RelL (cx fc s a w g) false (flat ys) us F' ∧ (∀ b, b ∈ F' → b ∈ F) ∧ Src P w es ys.length c us ∧ ∀ y, y ∈ ys → (cellsOf y).length = es := by
  cases h with
  | nil _ _ _ A => exact ⟨[], [], .nil _, fun b hb => hb, .none, by simp⟩
  | own _ _ b o cap _ arr e fr vs F hh hfr hs hn hu hr hc hb hbd hzf =>
    refine ⟨vs, F, hc, fun b hb => List.mem_cons_of_mem _ hb, .slice (by rw [hc.length, flat_length hu]) fun k u hk => ?_, hu⟩
    rw [Addr.add_spot rfl]
    simp only [cx] at hh
    simp only [World.cell?, hh]
    simpa using hr k u hk
  | imm _ _ _ ad cap _ vs hfl hn hu hr hc => exact ⟨vs, [], hc, fun b hb => hb, .slice (by rw [hc.length, flat_length hu]) fun k u hk => (hr k u hk).1, hu⟩
theorem op_app (h : SR fc s a w g) (hok : fc.Ok gl) (hd : dstOk fc dst) (ho : o.dst = dst.map (·.1)) {tx ty : Option TypeId} {sT xT e : TypeId} {i : TypeInfo} {z : Value} {du : TypeDesc} {x y : Operand} {x' y' : Od} (hop : o.op = .call { callee := .builtin .append, args := #[x, y], argTypes := #[sT, xT] })
    (ht : P.underlying sT = some (.slice e)) (hu' : P.underlying xT = some du) (hdu : ∀ k, du ≠ .int k) (hi : P.info? e = some i) (hz : i.zero = some z) (hzs : z.cells.size = i.size) (hb0 : 0 < i.bytes)
    (hcx : compOd P gl fc.pers tx x = some x') (hcy : compOd P gl fc.pers ty y = some y') (hv : vc C dst (.app i.size i.bytes x' y') s K) : o.wp P a w (After fc K) Q := by
  simp only [vc] at hv
  have fin' : ∀ {s2 : St} {g2 : Gh} {xs ys : List AV} {us : List Value} {H1 H2 : List Nat}, SR fc s2 a w g2 → Rel (cx fc s2 a w g2) true (.sl .own i.size xs) (a.eval x) H1 → Hand fc s2 g2 H1 → RelL (cx fc s2 a w g2) false (flat ys) us H2 → (∀ y, y ∈ ys → (cellsOf y).length = i.size) →
      Hand fc s2 g2 H2 → Disj H1 H2 → Src P w i.size ys.length (a.eval y) us → (xs.length + ys.length) * i.bytes ≤ 140737488355328 → K (fin dst (s2.kl viaDeep false) (.sl .own i.size (xs ++ ys))) → o.wp P a w (After fc K) Q := by
    intro s2 g2 xs ys us H1 H2 p1 p2 p3 p4 p5 p6 p7 p8 p9 p10
    obtain ⟨v', w', g', H', q1, q2, q3, q4⟩ := p1.append (ty := o.type) ht hu' hdu hi hz hzs hb0 p2 p3 p4 p5 p6 p7 p8 p9
    have hrun : (execOp a.eval o).run P w = .ok (.value v') w' := by
      simp [execOp, hop, resolve, invoke, builtin, q1]
    exact wp_value hrun (by rw [ho]; exact After.fin q2 hd q3 q4 p10)
  split at hv
  · rename_i es xs s1 hg
    obtain ⟨rfl, hv⟩ := hv
    obtain ⟨F1, H1, q1, q2, q3, q4⟩ := od_grab' P h hok hcx hg
    split at hv
    · -- a place's slice
      rename_i r hr
      split at hv
      · rename_i fl es2 ys hgh
        obtain ⟨rfl, hb, hK⟩ := hv
        obtain ⟨F, h2, _⟩ := od_val P q1 hok hcy
        rw [hr] at h2
        obtain ⟨h4, h5, _⟩ := h2.bor_inv
        obtain ⟨t', G, q, h6, h7⟩ := getH_rel q1 hgh h4
        obtain ⟨us, F', h8, h9, h10, h11⟩ := slice_src (P := P) h6
        have hro := h8.ro fun b hb i => q1.noBox (h7 b (h9 b hb)) i
        rw [roL_eq, ← flat_roD] at hro
        exact fin' q1 q2 q3 hro (fun y hy => by obtain ⟨z, hz, rfl⟩ := List.mem_map.1 hy; rw [cellsOf_roD, List.length_map]; exact h11 z hz) (.nil _ _ _) (fun b _ hb => (List.not_mem_nil hb).elim) (by rw [List.length_map]; exact h10) (by rw [List.length_map]; exact hb) hK
      · cases hv
    · -- a string
      rename_i b s2 hgy hnb
      obtain ⟨hes, hb, hK⟩ := hv
      obtain ⟨F2, H2, r1, r2, r3, r4⟩ := od_grab' P q1 hok hcy hgy
      have b2 := od_grab_bx hgy g.ba
      obtain ⟨q5, q6⟩ := q3.grabbed b2.2 r4
      have hcx2 : cx fc s2 a w { g with F := F2 } = cx fc s1 a w { g with F := F1 } := by simp only [cx]; rw [b2.1]
      have ey := r2.lit_inv.1
      have hsrc : Src P w i.size (b.data.toList.map fun c => AV.lit (.int .u8 c.toNat)).length (a.eval y) (b.data.toList.map fun c => .int .u8 c.toNat) := by
        rw [ey, hes, List.length_map]; exact Src.string b
      have hflat : flat (b.data.toList.map fun c => AV.lit (.int .u8 c.toNat)) = b.data.toList.map fun c => AV.lit (.int .u8 c.toNat) := by
        induction b.data.toList with
        | nil => rfl
        | cons c l ih => simp only [List.map_cons, flat_cons, ih]; rfl
      refine fin' r1 (by rw [hcx2]; exact q2) q5 (us := b.data.toList.map fun c => .int .u8 c.toNat) (H2 := []) ?_ ?_ (.nil _ _ _) (fun b _ hb => (List.not_mem_nil hb).elim) hsrc ?_ hK
      · rw [hflat]
        refine .ofGet (by simp) fun k x v h1 h2 => ?_
        simp only [List.getElem?_map, Option.map_eq_some_iff] at h1 h2
        obtain ⟨c, h3, rfl⟩ := h1
        obtain ⟨c', h4, rfl⟩ := h2
        rw [h3] at h4; injection h4 with h4; subst h4
        exact ⟨.lit _ _ rfl, rfl⟩
      · intro y hy; obtain ⟨c, _, rfl⟩ := List.mem_map.1 hy; simp [cellsOf, hes]
      · rw [List.length_map]; exact hb
    · -- a slice
      rename_i fl es2 ys s2 hgy hnb
      obtain ⟨rfl, hb, hK⟩ := hv
      obtain ⟨F2, H2, r1, r2, r3, r4⟩ := od_grab' P q1 hok hcy hgy
      have b2 := od_grab_bx hgy g.ba
      obtain ⟨q5, q6⟩ := q3.grabbed b2.2 r4
      have hcx2 : cx fc s2 a w { g with F := F2 } = cx fc s1 a w { g with F := F1 } := by simp only [cx]; rw [b2.1]
      obtain ⟨us, F', h8, h9, h10, h11⟩ := slice_src (P := P) r2
      exact fin' r1 (by rw [hcx2]; exact q2) q5 h8 h11 ⟨fun q b hb => r3.disj q b (h9 b hb), fun n cs ad hn ha hb => r3.sep n cs ad hn ha (h9 _ hb), fun b hb => r3.free b (h9 b hb)⟩ (fun b hb hb' => q6 b hb (h9 b hb')) h10 hb hK
    · cases hv
  · cases hv
end
end Go.Ev
namespace Go.Ev
set_option linter.unusedVariables false
inductive All2 {α β : Type} (R : α → β → Prop) : List α → List β → Prop
  | nil : All2 R [] []
  | cons {x : α} {y : β} {xs : List α} {ys : List β} (h : R x y) (hs : All2 R xs ys) : All2 R (x :: xs) (y :: ys)
def X0 (w : World) (zf : Nat → Nat → Prop) : Cx :=
  { w := w, b0 := w.heap.size, bd := fun _ => none, bxc := fun _ _ => True, zf := zf, res := fun _ => none, hold := fun _ => none }
structure TabsAt (gl : Tabs) (w : World) (zf : Nat → Nat → Prop) : Prop where
  lit : ∀ g vs, gl g = some vs → ∀ v, v ∈ vs → scalar v = true ∧ isCell v = true
  cell : ∀ g vs, gl g = some vs → ∀ k v, vs[k]? = some v → w.cell? ⟨g, k, none⟩ = some v ∧ zf g k
  size : Sized gl w
  errs : ∀ g, gl g = some [] → ∃ ev, w.cell? ⟨g, 0, none⟩ = some ev ∧ zf g 0 ∧ isErr ev
def Back (w : World) (zf : Nat → Nat → Prop) (res : AV) (v : Value) (w' : World) : Prop :=
  Keep (fun _ _ => False) w w' ∧ ∃ X F, X.w = w' ∧ X.b0 = w.heap.size ∧ X.zf = zf ∧ (∀ b, b < w.heap.size → X.bd b = none) ∧ Rel X false res v F ∧ ∀ b, b ∈ F → w.heap.size ≤ b
def Snd (P : Program) (gl : Tabs) (f : FuncId) (args : List AV) (res : AV) : Prop :=
  ∀ (w : World) (vals : Array Value) (zf : Nat → Nat → Prop), (∀ b i, zf b i → b < w.heap.size) → TabsAt gl w zf → RelT (X0 w zf) false args vals.toList [] →
    Calls P f vals w fun e w' => ∃ v, e = .returned v ∧ Back w zf res v w'
def lk {α : Type} (d : α) : List (Nat × α) → Nat → α
  | [], _ => d
  | (k, v) :: r, t => if t = k then v else lk d r t
def argL : Nat → List AV → List (Nat × AV)
  | _, [] => []
  | k, x :: xs => (k, x) :: argL (k + 1) xs
theorem argL_lk : ∀ (args : List AV) (k t : Nat) (d : AV), lk d (argL k args) (k + t) = (args[t]?).getD d := by
  intro args
  induction args with
  | nil => intro k t d; simp [argL, lk]
  | cons x xs ih =>
    intro k t d
    cases t with
    | zero => simp [argL, lk]
    | succ t =>
      simp only [argL, lk]
      rw [if_neg (by omega), show k + (t + 1) = k + 1 + t by omega, ih]
      simp
def bxL (bxs : List (List AV)) (n : Nat) : Option (List AV) := if 10000 ≤ n then bxs[n - 10000]? else none
def entryG (args : List AV) (bxs : List (List AV)) : St := { env := lk (.lit undef) (argL 0 args), bx := bxL bxs }
theorem entryG_env (args : List AV) (bxs : List (List AV)) (t : Nat) : (entryG args bxs).env t = (args[t]?).getD (.lit undef) := by
  have := argL_lk args 0 t (.lit undef)
  rw [Nat.zero_add] at this; exact this
def SndG (P : Program) (gl : Tabs) (f : FuncId) (args : List AV) (bxs : List (List AV)) (res : AV) (bxs' : List (List AV)) : Prop :=
  ∀ (fc : Fc) (vals : Array Value) (w : World) (g : Gh), fc.w0 = w → fc.Ok gl → fc.pers = (fun _ => false) → fc.n = vals.size → fc.hb = g.ba → vals.size = args.length → SR fc (entryG args bxs) ⟨vals, []⟩ w g →
    Calls P f vals w fun e w' => ∃ v, e = .returned v ∧ ∃ g', SR { fc with n := 1 } (entryG [res] bxs') ⟨#[v], []⟩ w' g'
structure Kn.Ok (P : Program) (gl : Tabs) (C : Kn) : Prop where
  s : ∀ f args res, C.s f args res → Snd P gl f args res
  g : ∀ f args bxs res bxs', C.g f args bxs res bxs' → SndG P gl f args bxs res bxs'
  v : ∀ f, C.v f → ∃ fn, P.funcs[f]? = some fn ∧ fn.body.isSome = true ∧ fn.name ≠ "runtime.NumGoroutine"
theorem Keep.trans {T : Nat → Nat → Prop} {w0 w w' : World} (h : Keep T w0 w) (h' : Keep (fun _ _ => False) w w') : Keep T w0 w' := by
  have hb : ∀ b, b < w.heap.size → w'.heap[b]? = w.heap[b]? := fun b hb => h'.block b hb (fun _ => id)
  refine ⟨h'.os.trans h.os, h'.tape.trans h.tape, h'.output.trans h.output, Nat.le_trans h.size h'.size, fun b hb0 hT => ?_, fun b hb0 arr e fr hh => ?_⟩
  · rw [hb b (by have := h.size; omega)]; exact h.block b hb0 hT
  · rw [hb b (by have := h.size; omega)]; exact h.cells b hb0 arr e fr hh
theorem cell_later {w w' : World} (h : Keep (fun _ _ => False) w w') {a : Addr} {v : Value} (hc : w.cell? a = some v) : w'.cell? a = some v := by
  have hb := cell_lt hc
  rw [← hc]; unfold World.cell?; rw [h.block _ hb (fun _ => id)]
section
variable {P : Program} {fc : Fc} {s : St} {a : Act} {w : World} {g : Gh} {gl : Tabs} {o : Oper} {Q : Exit → Act → World → Prop} {K : St → Prop} {dst : Option (Nat × Bool)} {C : Kn}
theorem frnL_eq (xs : List AV) : frnL xs = xs.map frnD := by
  induction xs with
  | nil => rfl
  | cons x xs ih => simp [frnL, ih]
theorem resL_eq (xs : List AV) : resL xs = xs.map resD := by
  induction xs with
  | nil => rfl
  | cons x xs ih => simp [resL, ih]
theorem cellsOf_frnD (x : AV) : cellsOf (frnD x) = (cellsOf x).map frnD := by cases x <;> simp [frnD, cellsOf, frnL_eq]
theorem cellsOf_resD (x : AV) : cellsOf (resD x) = (cellsOf x).map resD := by cases x <;> simp [resD, cellsOf, resL_eq]
theorem flat_frnD (xs : List AV) : flat (xs.map frnD) = (flat xs).map frnD := by
  induction xs with
  | nil => rfl
  | cons x xs ih => rw [List.map_cons, flat_cons, flat_cons, ih, cellsOf_frnD, List.map_append]
theorem flat_resD (xs : List AV) : flat (xs.map resD) = (flat xs).map resD := by
  induction xs with
  | nil => rfl
  | cons x xs ih => rw [List.map_cons, flat_cons, flat_cons, ih, cellsOf_resD, List.map_append]
mutual
theorem Rel.frn {X X' : Cx} (hw : X'.w = X.w) (hst : ∀ b i v, X.st b i → X.w.cell? ⟨b, i, none⟩ = some v → X'.zf b i) (hzf : ∀ b i v, X.zf b i → X.w.cell? ⟨b, i, none⟩ = some v → X'.zf b i) {t' : Bool} :
    ∀ {t : Bool} {x : AV} {v : Value} {F : List Nat}, Rel X t x v F → (∀ b, b ∈ F → ∀ i, ¬ X.bxc b i) → Rel X' t' (frnD x) v []
  | _, _, _, _, .junk t v, _ => .junk _ v
  | _, _, _, _, .lit t v h, _ => .lit _ v h
  | _, _, _, _, .nil t fl es A, _ => .nil _ _ es A
  | _, _, _, _, .own t xs b o cap es arr e fr vs F hh hfr hs hn hu hr hc hb hbd hzf0, hP => by
    have hc' := RelL.frn hw hst hzf (t' := false) hc fun c hc => hP c (List.mem_cons_of_mem _ hc)
    have hl := hc.length
    rw [flat_length hu] at hl
    simp only [frnD]
    have hlen : (frnL xs).length = xs.length := by rw [frnL_eq, List.length_map]
    have := Rel.imm (X := X') t' .frn (frnL xs) ⟨b, o, none⟩ cap es vs (by decide) (by rw [hlen]; exact hn)
      (by intro x hx; rw [frnL_eq] at hx; obtain ⟨y, hy, rfl⟩ := List.mem_map.1 hx; rw [cellsOf_frnD, List.length_map]; exact hu y hy)
      (by
        intro k v hk
        have hkl : k < vs.length := (List.getElem?_eq_some_iff.1 hk).1
        have hcell : X.w.cell? ⟨b, o + k, none⟩ = some v := by simp only [World.cell?, hh]; simpa using hr k v hk
        refine ⟨by rw [hw, Addr.add_spot rfl]; exact hcell, ?_⟩
        simp only [Cx.sees, if_true]
        exact hst b (o + k) v ⟨fun m hm => by rw [hbd] at hm; injection hm with hm; omega, hP b (List.mem_cons_self ..) _, .inr (.inr (by rw [hbd]; rfl))⟩ hcell)
      (by rw [frnL_eq, flat_frnD, ← frnL_eq]; exact hc')
    rwa [hlen] at this
  | _, _, _, _, .imm t fl xs ad cap es vs hfl hn hu hr hc, hP => by
    have hc' := RelL.frn hw hst hzf (t' := false) hc hP
    simp only [frnD]
    have hlen : (frnL xs).length = xs.length := by rw [frnL_eq, List.length_map]
    have := Rel.imm (X := X') t' .frn (frnL xs) ad cap es vs (by decide) (by rw [hlen]; exact hn)
      (by intro x hx; rw [frnL_eq] at hx; obtain ⟨y, hy, rfl⟩ := List.mem_map.1 hx; rw [cellsOf_frnD, List.length_map]; exact hu y hy)
      (by
        intro k v hk
        obtain ⟨h1, h2⟩ := hr k v hk
        have hsp := Addr.spot_of_cell h1
        refine ⟨by rw [hw]; exact h1, ?_⟩
        rw [Addr.eta hsp, Addr.add_block, Addr.add_off] at h1
        simp only [Cx.sees, if_true] at h2 ⊢
        split at h2
        · exact hzf _ _ v h2 h1
        · exact hst _ _ v h2 h1)
      (by rw [frnL_eq, flat_frnD, ← frnL_eq]; exact hc')
    rwa [hlen] at this
  | _, _, _, _, .agg t cs vs F hc, hP => by simp only [frnD]; exact .agg _ _ vs [] (RelL.frn hw hst hzf hc hP)
  | _, _, _, _, .tup t cs vs F hc, hP => by simp only [frnD]; exact .junk _ _
  | _, _, _, _, .ptr r a h, _ => by simp only [frnD]; exact .junk _ _
  | _, _, _, _, .bor r v h hc hs, _ => by simp only [frnD]; exact .junk _ _
  | _, _, _, _, .cell fl cs o ad a vs hfl ha hr hc, _ => by simp only [frnD]; exact .junk _ _
  | _, _, _, _, .clo f cs vs hc, _ => by simp only [frnD]; exact .junk _ _
theorem RelL.frn {X X' : Cx} (hw : X'.w = X.w) (hst : ∀ b i v, X.st b i → X.w.cell? ⟨b, i, none⟩ = some v → X'.zf b i) (hzf : ∀ b i v, X.zf b i → X.w.cell? ⟨b, i, none⟩ = some v → X'.zf b i) {t' : Bool} :
    ∀ {t : Bool} {x : List AV} {v : List Value} {F : List Nat}, RelL X t x v F → (∀ b, b ∈ F → ∀ i, ¬ X.bxc b i) → RelL X' t' (frnL x) v []
  | _, _, _, _, .nil t, _ => .nil _
  | _, _, _, _, .cons t x v F xs vs G hv h hs hd, hP => by
    simp only [frnL]
    exact .cons _ _ v [] _ vs [] hv (Rel.frn hw hst hzf h fun b hb => hP b (List.mem_append_left _ hb)) (RelL.frn hw hst hzf hs fun b hb => hP b (List.mem_append_right _ hb)) fun b hb => (List.not_mem_nil hb).elim
end
mutual
theorem Rel.res {X X' : Cx} (hw : X'.w = X.w) (hst : ∀ b i v, X.st b i ∨ X.zf b i → X.w.cell? ⟨b, i, none⟩ = some v → X'.st b i) {P : Nat → Prop} (hown : ∀ b, P b → X'.bd b = X.bd b ∧ ∀ i, ¬ X'.zf b i) {t' : Bool} :
    ∀ {t : Bool} {x : AV} {v : Value} {F : List Nat}, Rel X t x v F → (∀ b, b ∈ F → P b) → Rel X' t' (resD x) v F
  | _, _, _, _, .junk t v, _ => .junk _ v
  | _, _, _, _, .lit t v h, _ => .lit _ v h
  | _, _, _, _, .nil t fl es A, _ => .nil _ _ es A
  | _, _, _, _, .own t xs b o cap es arr e fr vs F hh hfr hs hn hu hr hc hb hbd hzf0, hP => by
    have hc' := RelL.res hw hst hown (t' := false) hc fun c hc => hP c (List.mem_cons_of_mem _ hc)
    have hlen : (resL xs).length = xs.length := by rw [resL_eq, List.length_map]
    obtain ⟨h1, h2⟩ := hown b (hP b (List.mem_cons_self ..))
    simp only [resD, if_true]
    have := Rel.own (X := X') t' (resL xs) b o cap es arr e fr vs F (by rw [hw]; exact hh) hfr hs (by rw [hlen]; exact hn)
      (by intro x hx; rw [resL_eq] at hx; obtain ⟨y, hy, rfl⟩ := List.mem_map.1 hx; rw [cellsOf_resD, List.length_map]; exact hu y hy) hr
      (by rw [resL_eq, flat_resD, ← resL_eq]; exact hc') hb (by rw [hlen, h1]; exact hbd) h2
    rwa [hlen] at this
  | _, _, _, _, .imm t fl xs ad cap es vs hfl hn hu hr hc, hP => by
    have hc' := RelL.res hw hst hown (t' := false) hc hP
    simp only [resD, if_neg hfl]
    have hlen : (resL xs).length = xs.length := by rw [resL_eq, List.length_map]
    have := Rel.imm (X := X') t' .ro (resL xs) ad cap es vs (by decide) (by rw [hlen]; exact hn)
      (by intro x hx; rw [resL_eq] at hx; obtain ⟨y, hy, rfl⟩ := List.mem_map.1 hx; rw [cellsOf_resD, List.length_map]; exact hu y hy)
      (by
        intro k v hk
        obtain ⟨h1, h2⟩ := hr k v hk
        have hsp := Addr.spot_of_cell h1
        refine ⟨by rw [hw]; exact h1, ?_⟩
        rw [Addr.eta hsp, Addr.add_block, Addr.add_off] at h1
        simp only [Cx.sees] at h2 ⊢
        rw [if_neg (by decide)]
        split at h2
        · exact hst _ _ v (.inr h2) h1
        · exact hst _ _ v (.inl h2) h1)
      (by rw [resL_eq, flat_resD, ← resL_eq]; exact hc')
    rwa [hlen] at this
  | _, _, _, _, .agg t cs vs F hc, hP => by simp only [resD]; exact .agg _ _ vs F (RelL.res hw hst hown hc hP)
  | _, _, _, _, .tup t cs vs F hc, hP => by simp only [resD]; exact .tup _ _ vs F (RelT.res hw hst hown hc hP)
  | _, _, _, _, .ptr r a h, _ => by simp only [resD]; exact .junk _ _
  | _, _, _, _, .bor r v h hc hs, _ => by simp only [resD]; exact .junk _ _
  | _, _, _, _, .cell fl cs o ad a vs hfl ha hr hc, _ => by simp only [resD]; exact .junk _ _
  | _, _, _, _, .clo f cs vs hc, _ => by simp only [resD]; exact .junk _ _
theorem RelL.res {X X' : Cx} (hw : X'.w = X.w) (hst : ∀ b i v, X.st b i ∨ X.zf b i → X.w.cell? ⟨b, i, none⟩ = some v → X'.st b i) {P : Nat → Prop} (hown : ∀ b, P b → X'.bd b = X.bd b ∧ ∀ i, ¬ X'.zf b i) {t' : Bool} :
    ∀ {t : Bool} {x : List AV} {v : List Value} {F : List Nat}, RelL X t x v F → (∀ b, b ∈ F → P b) → RelL X' t' (resL x) v F
  | _, _, _, _, .nil t, _ => .nil _
  | _, _, _, _, .cons t x v F xs vs G hv h hs hd, hP => by
    simp only [resL]
    exact .cons _ _ v F _ vs G hv (Rel.res hw hst hown h fun b hb => hP b (List.mem_append_left _ hb)) (RelL.res hw hst hown hs fun b hb => hP b (List.mem_append_right _ hb)) hd
theorem RelT.res {X X' : Cx} (hw : X'.w = X.w) (hst : ∀ b i v, X.st b i ∨ X.zf b i → X.w.cell? ⟨b, i, none⟩ = some v → X'.st b i) {P : Nat → Prop} (hown : ∀ b, P b → X'.bd b = X.bd b ∧ ∀ i, ¬ X'.zf b i) {t' : Bool} :
    ∀ {t : Bool} {x : List AV} {v : List Value} {F : List Nat}, RelT X t x v F → (∀ b, b ∈ F → P b) → RelT X' t' (resL x) v F
  | _, _, _, _, .nil t, _ => .nil _
  | _, _, _, _, .cons t x v F xs vs G h hs hd, hP => by
    simp only [resL]
    exact .cons _ _ v F _ vs G (Rel.res hw hst hown h fun b hb => hP b (List.mem_append_left _ hb)) (RelT.res hw hst hown hs fun b hb => hP b (List.mem_append_right _ hb)) hd
end
theorem SR.later (h : SR fc s a w g) {w' : World} (hk : Keep (fun _ _ => False) w w') (bd' : Nat → Option Nat) (hbd : ∀ b, b < w.heap.size → bd' b = g.bd b) : SR fc s a w' { g with bd := bd' } := by
  have hsl : SlKept w w' := fun ad b n c hcl => cell_later hk hcl
  have hb : ∀ b, b < w.heap.size → w'.heap[b]? = w.heap[b]? := fun b hb => hk.block b hb (fun _ => id)
  have hkk : (cx fc s a w g).Keeps (cx fc s a w' { g with bd := bd' }) (fun b => b < w.heap.size) := by
    refine ⟨resOf_kept hsl (fun _ _ => rfl) (fun _ _ h => h), ?_, fun b i v h1 h2 => ⟨h1, cell_later hk h2⟩, fun b i v h1 h2 => ⟨?_, cell_later hk h2⟩, fun b hbb => ⟨hb b hbb, hbd b hbb, fun i h => h⟩⟩
    · rintro ⟨root, path⟩ v hv
      have key : ∀ r, (resOf fc.pers (tmOf a) g.ba w r).bind w.cell? = some v → (resOf fc.pers (tmOf a) g.ba w' r).bind w'.cell? = some v := by
        intro r hr
        simp only [Option.bind_eq_some_iff] at hr ⊢
        obtain ⟨ad, h1, h2⟩ := hr
        exact ⟨ad, resOf_kept hsl (fun _ _ => rfl) (fun _ _ h => h) _ _ h1, cell_later hk h2⟩
      cases root with
      | slot t => cases path with
        | nil => exact hv
        | cons c p => exact key _ hv
      | box n k => exact key _ hv
    · have hlt := cell_lt h2
      simp only [Cx.st, cx] at h1 ⊢
      rw [hbd b hlt]; exact h1
  refine ⟨fun u => (h.slots u).mono hkk (fun b hb => h.F_lt hb), fun n cs hn => ?_, h.nobox, h.disj, h.sep, h.apart, h.zfb, h.zfo, h.touchF, h.touchB, h.keep.trans hk, h.defers, h.size, h.nob, fun b i hz => ?_, fun b hb0 hT => ?_, h.hbo⟩
  · obtain ⟨ad, vs, h2, h3, h5⟩ := h.boxes n cs hn
    have hlt := h3.lt
    obtain ⟨h4, h6⟩ := h3
    exact ⟨ad, vs, h2, ⟨h4, by rw [hb _ hlt]; exact h6⟩, h5.mono hkk (fun b hb => h.F_lt hb)⟩
  · have := h.zfo b i hz; have := h.keep.size
    simp only; rw [hbd b (by omega)]; exact h.zfd b i hz
  · have := h.keep.size
    simp only; rw [hbd b (by omega)]; exact h.bdo b hb0 hT
theorem X0_frn (h : SR fc s a w g) {t : Bool} {x : AV} {v : Value} {F : List Nat} (hr : Rel (cx fc s a w g) t x v F) (hF : ∀ b, b ∈ F → ∃ q, b ∈ g.F q) :
    Rel (X0 w fun b i => b < w.heap.size ∧ (cx fc s a w g).st b i) false (frnD x) v [] := by
  refine Rel.frn (X := cx fc s a w g) (X' := X0 w fun b i => b < w.heap.size ∧ (cx fc s a w g).st b i) rfl (fun b i v h1 h2 => ⟨cell_lt h2, h1⟩) (fun b i v h1 h2 => ⟨cell_lt h2, ?_⟩) hr (fun b hb i => by obtain ⟨q, hq⟩ := hF b hb; exact h.noBox hq i)
  exact ⟨fun m hm => (by have := h.zfd b i h1; simp only [cx] at hm; rw [this] at hm; cases hm), h.zfb b i h1, .inr (.inl h1)⟩
theorem passA_rel (h : SR fc s a w g) {x : AV} {v : Value} {F : List Nat} (hr : Rel (cx fc s a w g) true x v F) (hF : ∀ b, b ∈ F → ∃ q, b ∈ g.F q) :
    Rel (X0 w fun b i => b < w.heap.size ∧ (cx fc s a w g).st b i) false (passA s x) v [] := by
  unfold passA
  split
  · rename_i r
    split
    · rename_i y hy
      obtain ⟨t', G, q, h1, h2⟩ := getH_rel h hy hr.bor_inv.1
      exact X0_frn h h1 fun b hb => ⟨q, h2 b hb⟩
    · exact .junk _ _
  · exact X0_frn h hr hF
theorem op_call (h : SR fc s a w g) (hok : fc.Ok gl) (hd : dstOk fc dst) (ho : o.dst = dst.map (·.1)) {f : FuncId} {fn : Func} {args : Array Operand} {args' : List Od} {ts : Array TypeId}
    (hop : o.op = .call { callee := .value (.func f), args := args, argTypes := ts }) (hf : P.funcs[f]? = some fn) {c : Code} (hb : fn.body = some c) (hnm : fn.name ≠ "runtime.NumGoroutine")
    (hargs : All2 (fun x x' => ∃ ty, compOd P gl fc.pers ty x = some x') args.toList args') (hC : Kn.Ok P gl C) (hv : vc C dst (.call f args') s K) : o.wp P a w (After fc K) Q := by
  simp only [vc] at hv
  obtain ⟨res, hc, hK⟩ := hv
  have hsnd := hC.s _ _ _ hc
  have hrun : (execOp a.eval o).run P w = .ok (.enter f (args.map a.eval)) w := by
    simp [execOp, hop, resolve, Act.eval, Deferred.ofValue, invoke, callFunc, program, Sem.run, hf, hnm, hb]
  have hrel : RelT (X0 w fun b i => b < w.heap.size ∧ (cx fc s a w g).st b i) false (args'.map fun x => passA s (x.val s)) (args.map a.eval).toList [] := by
    rw [Array.toList_map]
    generalize args.toList = as at hargs
    clear hc hK hsnd hrun hop
    induction hargs with
    | nil => exact .nil _
    | cons hx _ ih =>
      obtain ⟨ty, hx⟩ := hx
      obtain ⟨F, h1, h2⟩ := od_val P h hok hx
      exact .cons _ _ _ [] _ _ [] (passA_rel h h1 h2) ih (fun b hb => (List.not_mem_nil hb).elim)
  have htabs : TabsAt gl w fun b i => b < w.heap.size ∧ (cx fc s a w g).st b i := by
    have key : ∀ n k v, fc.w0.cell? ⟨n, k, none⟩ = some v → fc.zf n k → w.cell? ⟨n, k, none⟩ = some v ∧ n < w.heap.size ∧ (cx fc s a w g).st n k := fun n k v h1 h2 => by
      have hcell := h.keep.cell (hok.zfT _ _ h2) h1
      refine ⟨hcell, cell_lt hcell, fun m hm => ?_, h.zfb _ _ h2, .inr (.inl h2)⟩
      have := h.zfd _ _ h2; simp only [cx] at hm; rw [this] at hm; cases hm
    refine ⟨fun n vs hg => (hok.glob n vs hg).1, fun n vs hg k v hk => ?_, hok.size.keep h.keep, fun n hg => ?_⟩
    · obtain ⟨h1, h2⟩ := (hok.glob n vs hg).2 k v hk
      exact key n k v h1 h2
    · obtain ⟨ev, h1, h2, h3⟩ := hok.errs n hg
      obtain ⟨k1, k2⟩ := key n 0 ev h1 h2
      exact ⟨ev, k1, k2, h3⟩
  have hcall := hsnd w (args.map a.eval) _ (fun b i hz => hz.1) htabs hrel
  unfold Oper.wp
  rw [hrun]
  refine Calls.mono hcall fun e w' he => ?_
  obtain ⟨v, rfl, hkeep, X, F, hX1, hX2, hX3, hX4, hX5, hX6⟩ := he
  show After fc K (a.put o.dst v) w'
  rw [ho]
  let bd' : Nat → Option Nat := fun b => if b < w.heap.size then g.bd b else X.bd b
  have hl := h.later hkeep bd' (fun b hb => if_pos hb)
  have hwc : ∀ b i, bxcOf s.bx g.ba b i → b < w.heap.size := fun b i hb => h.bxc_lt hb
  refine After.fin hl hd (v := resD res) (H := F) ?_ ⟨fun q b hb hb' => ?_, fun n cs ad hn ha hb => ?_, fun b hb => .inl (Nat.le_trans h.keep.size (hX6 b hb))⟩ hK
  · refine hX5.res (X' := cx fc s a w' { g with bd := bd' }) hX1.symm (fun b i u h1 h2 => ?_) (P := fun b => w.heap.size ≤ b) (fun b hb => ⟨?_, fun i hz => ?_⟩) hX6
    · by_cases hb : b < w.heap.size
      · have hz : (cx fc s a w g).st b i := by
          have : X.zf b i := by
            rcases h1 with h1 | h1
            · rcases h1.2.2 with h3 | h3 | h3
              · rw [hX2] at h3; omega
              · exact h3
              · rw [hX4 b hb] at h3; cases h3
            · exact h1
          rw [hX3] at this; exact this.2
        simp only [Cx.st, cx] at hz ⊢
        have hbb : bd' b = g.bd b := if_pos hb
        rw [hbb]; exact hz
      · refine ⟨fun m hm => ?_, fun hx => hb (hwc b i hx), .inl ?_⟩
        · have hbb : bd' b = X.bd b := if_neg hb
          simp only [cx] at hm
          rw [hbb] at hm
          rcases h1 with h1 | h1
          · exact h1.1 m hm
          · rw [hX3] at h1; exact absurd h1.1 hb
        · simp only [cx]; have := h.keep.size; omega
    · simp only [cx]; exact if_neg (by omega)
    · simp only [cx] at hz; have := h.zfo b i hz; have := h.keep.size; omega
  · have := h.F_lt hb'; have := hX6 b hb; omega
  · obtain ⟨ad', vs, h2, h3, _⟩ := h.boxes n cs hn
    rw [ha] at h2; injection h2 with h2; subst h2
    have := h3.lt; have := hX6 _ hb; omega
end
end Go.Ev
namespace Go.Ev
set_option linter.unusedVariables false
structure Cx.Tr (X X' : Cx) (ρ : Nat → Option Nat) (rf : Bool) (P : Nat → Prop) : Prop where
  res : ∀ n m k a, ρ n = some m → X.res ⟨.box n k, []⟩ = some a → X'.res ⟨.box m k, []⟩ = some a
  zf : ∀ b i v, X.zf b i → X.w.cell? ⟨b, i, none⟩ = some v → (if rf then X'.st b i else X'.zf b i) ∧ X'.w.cell? ⟨b, i, none⟩ = some v
  st : ∀ b i v, X.st b i → X.w.cell? ⟨b, i, none⟩ = some v → X'.st b i ∧ X'.w.cell? ⟨b, i, none⟩ = some v
  own : ∀ b, P b → X'.w.heap[b]? = X.w.heap[b]? ∧ X'.bd b = X.bd b ∧ ∀ i, ¬ X'.zf b i
theorem trL_eq (ρ : Nat → Option Nat) (rf : Bool) (xs : List AV) : trL ρ rf xs = xs.map (tr ρ rf) := by
  induction xs with
  | nil => rfl
  | cons x xs ih => simp [trL, ih]
theorem passL_eq (xs : List AV) : passL xs = xs.map passD := by
  induction xs with
  | nil => rfl
  | cons x xs ih => simp [passL, ih]
theorem cellsOf_tr (ρ : Nat → Option Nat) (rf : Bool) (x : AV) : cellsOf (tr ρ rf x) = (cellsOf x).map (tr ρ rf) := by
  cases x with
  | ptr r =>
    obtain ⟨root, path⟩ := r
    cases root with
    | slot t => simp [tr, cellsOf]
    | box n k => cases path <;> simp only [tr, cellsOf, List.map_cons, List.map_nil] <;> cases ρ n <;> rfl
  | _ => simp [tr, cellsOf, trL_eq]
theorem flat_tr (ρ : Nat → Option Nat) (rf : Bool) (xs : List AV) : flat (xs.map (tr ρ rf)) = (flat xs).map (tr ρ rf) := by
  induction xs with
  | nil => rfl
  | cons x xs ih => rw [List.map_cons, flat_cons, flat_cons, ih, cellsOf_tr ρ rf x, List.map_append]
theorem cellsOf_passD (x : AV) : cellsOf (passD x) = (cellsOf x).map passD := by
  cases x with
  | sl fl es xs => by_cases h : fl = .ro <;> simp [passD, h, cellsOf]
  | _ => simp [passD, cellsOf, passL_eq]
theorem flat_passD (xs : List AV) : flat (xs.map passD) = (flat xs).map passD := by
  induction xs with
  | nil => rfl
  | cons x xs ih => rw [List.map_cons, flat_cons, flat_cons, ih, cellsOf_passD, List.map_append]
theorem Cx.Tr.reads {X X' : Cx} {ρ : Nat → Option Nat} {rf : Bool} {P : Nat → Prop} (h : X.Tr X' ρ rf P) {fl : Fl} (hfl : fl ≠ .own) {ad : Addr} {vs : List Value}
    (hr : ∀ k v, vs[k]? = some v → X.w.cell? (ad.add k) = some v ∧ X.sees fl ad.block (ad.off + k)) :
    ∀ k v, vs[k]? = some v → X'.w.cell? (ad.add k) = some v ∧ X'.sees (if rf then .ro else fl) ad.block (ad.off + k) := by
  intro k v hk
  obtain ⟨hc, hs⟩ := hr k v hk
  have hsp := Addr.spot_of_cell hc
  rw [Addr.eta hsp, Addr.add_block, Addr.add_off] at hc ⊢
  unfold Cx.sees at hs ⊢
  by_cases hf : fl = .frn
  · rw [if_pos hf] at hs
    obtain ⟨h1, h2⟩ := h.zf _ _ _ hs hc
    refine ⟨h2, ?_⟩
    cases rf with
    | true => simpa using h1
    | false => simp only [Bool.false_eq_true, if_false] at h1 ⊢; rw [if_pos hf]; exact h1
  · rw [if_neg hf] at hs
    obtain ⟨h1, h2⟩ := h.st _ _ _ hs hc
    refine ⟨h2, ?_⟩
    cases rf with
    | true => simpa using h1
    | false => simp only [Bool.false_eq_true, if_false]; rw [if_neg hf]; exact h1
mutual
theorem Rel.tr {X X' : Cx} {ρ : Nat → Option Nat} {rf : Bool} {P : Nat → Prop} (k : X.Tr X' ρ rf P) : ∀ {t : Bool} {x : AV} {v : Value} {F : List Nat}, Rel X t x v F → (∀ b, b ∈ F → P b) → Rel X' t (tr ρ rf x) v F
  | _, _, _, _, .junk t v, _ => by simp only [Ev.tr]; exact .junk t v
  | _, _, _, _, .lit t v h, _ => by simp only [Ev.tr]; exact .lit t v h
  | _, _, _, _, .nil t fl es A, _ => by simp only [Ev.tr, trL]; exact .nil t _ es A
  | _, _, _, _, .own t xs b o cap es arr e fr vs F hh hfr hs hn hu hr hc hb hbd hzf, hP => by
    obtain ⟨h1, h2, h3⟩ := k.own b (hP b (List.mem_cons_self ..))
    have hc' := RelL.tr k hc fun c hc => hP c (List.mem_cons_of_mem _ hc)
    have hlen : (trL ρ rf xs).length = xs.length := by rw [trL_eq, List.length_map]
    simp only [Ev.tr, if_true]
    have := Rel.own (X := X') t (trL ρ rf xs) b o cap es arr e fr vs F (h1.trans hh) hfr hs (by rw [hlen]; exact hn)
      (by intro x hx; rw [trL_eq] at hx; obtain ⟨y, hy, rfl⟩ := List.mem_map.1 hx; rw [cellsOf_tr ρ rf y, List.length_map]; exact hu y hy) hr
      (by rw [trL_eq, flat_tr, ← trL_eq]; exact hc') hb (by rw [hlen]; exact h2.trans hbd) h3
    rwa [hlen] at this
  | _, _, _, _, .imm t fl xs ad cap es vs hfl hn hu hr hc, hP => by
    have hc' := RelL.tr k hc hP
    have hlen : (trL ρ rf xs).length = xs.length := by rw [trL_eq, List.length_map]
    simp only [Ev.tr, if_neg hfl]
    have := Rel.imm (X := X') t (if rf then .ro else fl) (trL ρ rf xs) ad cap es vs (by cases rf <;> simp [hfl]) (by rw [hlen]; exact hn)
      (by intro x hx; rw [trL_eq] at hx; obtain ⟨y, hy, rfl⟩ := List.mem_map.1 hx; rw [cellsOf_tr ρ rf y, List.length_map]; exact hu y hy)
      (k.reads hfl hr) (by rw [trL_eq, flat_tr, ← trL_eq]; exact hc')
    rwa [hlen] at this
  | _, _, _, _, .agg t cs vs F hc, hP => by simp only [Ev.tr]; exact .agg t _ vs F (RelL.tr k hc hP)
  | _, _, _, _, .tup t cs vs F hc, hP => by simp only [Ev.tr]; exact .tup t _ vs F (RelT.tr k hc hP)
  | _, _, _, _, .ptr r a h, _ => by
    simp only [Ev.tr]
    split
    · rename_i n o
      split
      · rename_i m hm; exact .ptr _ a (k.res n m o a hm h)
      · exact .junk _ _
    · exact .junk _ _
  | _, _, _, _, .bor r v h hc hs, _ => by simp only [Ev.tr]; exact .junk _ _
  | _, _, _, _, .cell fl cs o ad a vs hfl ha hr hc, hP => by simp only [Ev.tr]; exact .junk _ _
  | _, _, _, _, .clo f cs vs hc, hP => by simp only [Ev.tr]; exact .junk _ _
theorem RelL.tr {X X' : Cx} {ρ : Nat → Option Nat} {rf : Bool} {P : Nat → Prop} (k : X.Tr X' ρ rf P) : ∀ {t : Bool} {x : List AV} {v : List Value} {F : List Nat}, RelL X t x v F → (∀ b, b ∈ F → P b) → RelL X' t (trL ρ rf x) v F
  | _, _, _, _, .nil t, _ => .nil t
  | _, _, _, _, .cons t x v F xs vs G hv h hs hd, hP => by
    simp only [trL]
    exact .cons t _ v F _ vs G hv (Rel.tr k h fun b hb => hP b (List.mem_append_left _ hb)) (RelL.tr k hs fun b hb => hP b (List.mem_append_right _ hb)) hd
theorem RelT.tr {X X' : Cx} {ρ : Nat → Option Nat} {rf : Bool} {P : Nat → Prop} (k : X.Tr X' ρ rf P) : ∀ {t : Bool} {x : List AV} {v : List Value} {F : List Nat}, RelT X t x v F → (∀ b, b ∈ F → P b) → RelT X' t (trL ρ rf x) v F
  | _, _, _, _, .nil t, _ => .nil t
  | _, _, _, _, .cons t x v F xs vs G h hs hd, hP => by
    simp only [trL]
    exact .cons t _ v F _ vs G (Rel.tr k h fun b hb => hP b (List.mem_append_left _ hb)) (RelT.tr k hs fun b hb => hP b (List.mem_append_right _ hb)) hd
end
mutual
theorem Rel.bdd {X : Cx} : ∀ {t : Bool} {x : AV} {v : Value} {F : List Nat}, Rel X t x v F → ∀ b, b ∈ F → (X.bd b).isSome = true
  | _, _, _, _, .junk _ _, b, hb => (List.not_mem_nil hb).elim
  | _, _, _, _, .lit _ _ _, b, hb => (List.not_mem_nil hb).elim
  | _, _, _, _, .nil _ _ _ _, b, hb => (List.not_mem_nil hb).elim
  | _, _, _, _, .own _ xs b₀ o cap es arr e fr vs F hh hfr hs hn hu hr hc hb₀ hbd hzf, b, hb => by
    rcases List.mem_cons.1 hb with rfl | hb
    · rw [hbd]; rfl
    · exact RelL.bdd hc b hb
  | _, _, _, _, .imm _ _ _ _ _ _ _ _ _ _ _ _, b, hb => (List.not_mem_nil hb).elim
  | _, _, _, _, .agg _ _ _ _ hc, b, hb => RelL.bdd hc b hb
  | _, _, _, _, .tup _ _ _ _ hc, b, hb => RelT.bdd hc b hb
  | _, _, _, _, .ptr _ _ _, b, hb => (List.not_mem_nil hb).elim
  | _, _, _, _, .bor _ _ _ _ _, b, hb => (List.not_mem_nil hb).elim
  | _, _, _, _, .cell _ _ _ _ _ _ _ _ _ _, b, hb => (List.not_mem_nil hb).elim
  | _, _, _, _, .clo _ _ _ _, b, hb => (List.not_mem_nil hb).elim
theorem RelL.bdd {X : Cx} : ∀ {t : Bool} {x : List AV} {v : List Value} {F : List Nat}, RelL X t x v F → ∀ b, b ∈ F → (X.bd b).isSome = true
  | _, _, _, _, .nil _, b, hb => (List.not_mem_nil hb).elim
  | _, _, _, _, .cons _ _ _ _ _ _ _ _ h hs _, b, hb => by
    rcases List.mem_append.1 hb with hb | hb
    · exact Rel.bdd h b hb
    · exact RelL.bdd hs b hb
theorem RelT.bdd {X : Cx} : ∀ {t : Bool} {x : List AV} {v : List Value} {F : List Nat}, RelT X t x v F → ∀ b, b ∈ F → (X.bd b).isSome = true
  | _, _, _, _, .nil _, b, hb => (List.not_mem_nil hb).elim
  | _, _, _, _, .cons _ _ _ _ _ _ _ h hs _, b, hb => by
    rcases List.mem_append.1 hb with hb | hb
    · exact Rel.bdd h b hb
    · exact RelT.bdd hs b hb
end
mutual
theorem Rel.pass {X X' : Cx} {P : Nat → Prop} (hw : X'.w = X.w) (hst : ∀ b i v, P b → X.st b i → X.w.cell? ⟨b, i, none⟩ = some v → X'.zf b i) (hzf : ∀ b i v, X.zf b i → X.w.cell? ⟨b, i, none⟩ = some v → X'.zf b i) {t' : Bool} :
    ∀ {t : Bool} {x : AV} {v : Value} {F : List Nat}, Rel X t x v F → (∀ b, b ∈ F → P b ∧ ∀ i, ¬ X.bxc b i) → Rel X' t' (passD x) v []
  | _, _, _, _, .junk t v, _ => by simp only [passD]; exact .junk _ v
  | _, _, _, _, .lit t v h, _ => by simp only [passD]; exact .lit _ v h
  | _, _, _, _, .nil t fl es A, _ => by simp only [passD, passL]; split; exact .junk _ _; exact .nil _ _ es A
  | _, _, _, _, .own t xs b o cap es arr e fr vs F hh hfr hs hn hu hr hc hb hbd hzf0, hP => by
    have hc' := RelL.pass hw hst hzf (t' := false) hc fun c hc => hP c (List.mem_cons_of_mem _ hc)
    have hl := hc.length
    rw [flat_length hu] at hl
    simp only [passD]
    rw [if_neg (by decide)]
    have hlen : (passL xs).length = xs.length := by rw [passL_eq, List.length_map]
    have := Rel.imm (X := X') t' .frn (passL xs) ⟨b, o, none⟩ cap es vs (by decide) (by rw [hlen]; exact hn)
      (by intro x hx; rw [passL_eq] at hx; obtain ⟨y, hy, rfl⟩ := List.mem_map.1 hx; rw [cellsOf_passD, List.length_map]; exact hu y hy)
      (by
        intro k v hk
        have hkl : k < vs.length := (List.getElem?_eq_some_iff.1 hk).1
        have hcell : X.w.cell? ⟨b, o + k, none⟩ = some v := by simp only [World.cell?, hh]; simpa using hr k v hk
        refine ⟨by rw [hw, Addr.add_spot rfl]; exact hcell, ?_⟩
        simp only [Cx.sees, if_true]
        exact hst b (o + k) v (hP b (List.mem_cons_self ..)).1 ⟨fun m hm => by rw [hbd] at hm; injection hm with hm; omega, (hP b (List.mem_cons_self ..)).2 _, .inr (.inr (by rw [hbd]; rfl))⟩ hcell)
      (by rw [passL_eq, flat_passD, ← passL_eq]; exact hc')
    rwa [hlen] at this
  | _, _, _, _, .imm t fl xs ad cap es vs hfl hn hu hr hc, hP => by
    simp only [passD]
    split
    · exact .junk _ _
    · rename_i hro
      have hf : fl = .frn := by cases fl <;> simp_all
      have hc' := RelL.pass hw hst hzf (t' := false) hc hP
      have hlen : (passL xs).length = xs.length := by rw [passL_eq, List.length_map]
      have := Rel.imm (X := X') t' .frn (passL xs) ad cap es vs (by decide) (by rw [hlen]; exact hn)
        (by intro x hx; rw [passL_eq] at hx; obtain ⟨y, hy, rfl⟩ := List.mem_map.1 hx; rw [cellsOf_passD, List.length_map]; exact hu y hy)
        (by
          intro k v hk
          obtain ⟨h1, h2⟩ := hr k v hk
          have hsp := Addr.spot_of_cell h1
          refine ⟨by rw [hw]; exact h1, ?_⟩
          rw [Addr.eta hsp, Addr.add_block, Addr.add_off] at h1
          simp only [Cx.sees, hf, if_true] at h2 ⊢
          exact hzf _ _ v h2 h1)
        (by rw [passL_eq, flat_passD, ← passL_eq]; exact hc')
      rwa [hlen] at this
  | _, _, _, _, .agg t cs vs F hc, hP => by simp only [passD]; exact .agg _ _ vs [] (RelL.pass hw hst hzf hc hP)
  | _, _, _, _, .tup t cs vs F hc, hP => by simp only [passD]; exact .junk _ _
  | _, _, _, _, .ptr r a h, _ => by simp only [passD]; exact .junk _ _
  | _, _, _, _, .bor r v h hc hs, _ => by simp only [passD]; exact .junk _ _
  | _, _, _, _, .cell fl cs o ad a vs hfl ha hr hc, _ => by simp only [passD]; exact .junk _ _
  | _, _, _, _, .clo f cs vs hc, _ => by simp only [passD]; exact .junk _ _
theorem RelL.pass {X X' : Cx} {P : Nat → Prop} (hw : X'.w = X.w) (hst : ∀ b i v, P b → X.st b i → X.w.cell? ⟨b, i, none⟩ = some v → X'.zf b i) (hzf : ∀ b i v, X.zf b i → X.w.cell? ⟨b, i, none⟩ = some v → X'.zf b i) {t' : Bool} :
    ∀ {t : Bool} {x : List AV} {v : List Value} {F : List Nat}, RelL X t x v F → (∀ b, b ∈ F → P b ∧ ∀ i, ¬ X.bxc b i) → RelL X' t' (passL x) v []
  | _, _, _, _, .nil t, _ => .nil _
  | _, _, _, _, .cons t x v F xs vs G hv h hs hd, hP => by
    simp only [passL]
    exact .cons _ _ v [] _ vs [] hv (Rel.pass hw hst hzf h fun b hb => hP b (List.mem_append_left _ hb)) (RelL.pass hw hst hzf hs fun b hb => hP b (List.mem_append_right _ hb)) fun b hb => (List.not_mem_nil hb).elim
end
end Go.Ev
namespace Go.Ev
set_option linter.unusedVariables false
def posR (r : Ref) : Pos := match r.root with | .slot t => .slot t | .box n _ => .box n
section
variable {P : Program} {fc : Fc} {s : St} {a : Act} {w : World} {g : Gh} {gl : Tabs}
theorem getR_pos (h : SR fc s a w g) {r : Ref} {cs : List AV} (hp : ∀ t, r.root = .slot t → fc.pers t = true)
    (hg : getR s r = some cs) (hne : cs ≠ []) : ∃ ad, (cx fc s a w g).res r = some ad ∧ CellsAt (cx fc s a w g) (g.F (posR r)) ad cs := by
  obtain ⟨root, path⟩ := r
  cases root with
  | slot t =>
    obtain ⟨ad, h1, h2⟩ := getW_rel path (h.slots t) (by simpa [getR] using hg) hne
    exact ⟨ad, by simp only [cx, resOf]; rw [if_pos (hp t rfl)]; exact h1, h2⟩
  | box n k =>
    cases path with
    | nil =>
      simp only [getR, Option.map_eq_some_iff] at hg
      obtain ⟨cs', h1, rfl⟩ := hg
      obtain ⟨ad, vs, h2, h3, h4⟩ := h.boxes n cs' h1
      refine ⟨ad.add k, by simp [cx, resOf, h2], ?_⟩
      intro j y hy
      rw [List.getElem?_drop] at hy
      obtain ⟨u, G, h5, h6, h7, h8⟩ := h4.get hy
      exact ⟨true, u, G, by rw [Addr.add_add]; exact h3.cell h5, h6, h7, h8⟩
    | cons c p =>
      simp only [getR, Option.bind_eq_some_iff] at hg
      obtain ⟨x, ⟨cs', h1, h2⟩, h3⟩ := hg
      obtain ⟨ad, vs, h4, h5, h6⟩ := h.boxes n cs' h1
      obtain ⟨u, G, h7, h8, h9, h12⟩ := h6.get h2
      obtain ⟨ad', h10, h11⟩ := getW_rel _ h8 h3 hne
      refine ⟨ad', ?_, fun k y hk => ?_⟩
      rotate_left
      · obtain ⟨t', u', G2, q1, q2, q3, q4⟩ := h11 k y hk
        exact ⟨t', u', G2, q1, q2, q3, fun b hb => h12 b (q4 b hb)⟩
      simp only [cx, resOf, Option.bind_eq_some_iff]
      exact ⟨ad, h4, u, h5.cell h7, h10⟩
theorem getH_pos (h : SR fc s a w g) {r : Ref} {y : AV} {v : Value} (hg : getH s r = some y) (hv : (cx fc s a w g).hold r = some v) : ∃ t G, Rel (cx fc s a w g) t y v G ∧ ∀ b, b ∈ G → b ∈ g.F (posR r) := by
  obtain ⟨root, path⟩ := r
  have key : ∀ r : Ref, (getR s r).bind (·[0]?) = some y → (∀ t, r.root = .slot t → fc.pers t = true) → (resOf fc.pers (tmOf a) g.ba w r).bind w.cell? = some v → ∃ t G, Rel (cx fc s a w g) t y v G ∧ ∀ b, b ∈ G → b ∈ g.F (posR r) := by
    intro r hr hp hv
    simp only [Option.bind_eq_some_iff] at hr hv
    obtain ⟨cs, h1, h2⟩ := hr
    obtain ⟨ad, h3, h4⟩ := hv
    obtain ⟨ad', h5, h6⟩ := getR_pos h hp h1 (by rintro rfl; simp at h2)
    simp only [cx] at h5
    rw [h5] at h3; injection h3 with h3; subst h3
    obtain ⟨t, u, G, h7, h8, _, h9⟩ := h6 0 y h2
    have : u = v := by
      have h7' : w.cell? (ad'.add 0) = some u := h7
      have : ad'.add 0 = ad' := by simp [Addr.add]
      rw [this, h4] at h7'; injection h7' with h7'; exact h7'.symm
    subst this
    exact ⟨t, G, h8, h9⟩
  cases root with
  | slot t =>
    have hp : fc.pers t = true := by
      cases path with
      | nil => simp only [cx, holdOf] at hv; by_cases hp : fc.pers t = true; exact hp; rw [if_neg hp] at hv; cases hv
      | cons c p => simp only [cx, holdOf, resOf] at hv; by_cases hp : fc.pers t = true; exact hp; rw [if_neg hp] at hv; cases hv
    cases path with
    | nil =>
      rw [hold_slot h hp] at hv
      simp only [getH, Option.some.injEq] at hg hv
      subst hg; subst hv
      exact ⟨true, _, h.slots t, fun b hb => hb⟩
    | cons c p => exact key _ hg (fun t' ht => by injection ht with ht; subst ht; exact hp) hv
  | box n k => exact key _ (by simpa [getH] using hg) (fun t' ht => by cases ht) (by simpa [cx, holdOf] using hv)
def PassOk (X : Cx) (g : Gh) (s : St) (ns : List Nat) (x : AV) (v : Value) : Prop :=
  passG s ns x = .junk ∨ ∃ y t F q, passG s ns x = passD y ∧ Rel X t y v F ∧ (∀ b, b ∈ F → b ∈ g.F q) ∧ ∀ n, n ∈ ns → q ≠ .box n
inductive PRel (X : Cx) (g : Gh) (s : St) (ns : List Nat) : List PA → List Value → List (List Nat) → Prop
  | nil : PRel X g s ns [] [] []
  | pass (x : AV) (v : Value) (ps : List PA) (vs : List Value) (Fs : List (List Nat)) (h : PassOk X g s ns x v) (hs : PRel X g s ns ps vs Fs) : PRel X g s ns (.pass x :: ps) (v :: vs) ([] :: Fs)
  | give (y : AV) (v : Value) (F : List Nat) (ps : List PA) (vs : List Value) (Fs : List (List Nat)) (h : Rel X true y v F) (hs : PRel X g s ns ps vs Fs) (hd : ∀ G, G ∈ Fs → Disj F G) : PRel X g s ns (.give y :: ps) (v :: vs) (F :: Fs)
  | box (n : Nat) (ad : Addr) (ps : List PA) (vs : List Value) (Fs : List (List Nat)) (h : g.ba n = some ad) (hn : n ∈ ns) (hs : PRel X g s ns ps vs Fs) : PRel X g s ns (.box n :: ps) (.pointer (some ad) :: vs) ([] :: Fs)
theorem pass_od (h : SR fc s a w g) (hok : fc.Ok gl) {ty : Option TypeId} {x : Operand} {y : Od} (hc : compOd P gl fc.pers ty x = some y) (ns : List Nat) : PassOk (cx fc s a w g) g s ns (y.val s) (a.eval x) := by
  have hown : ∃ F t, Rel (cx fc s a w g) true (y.val s) (a.eval x) F ∧ ∀ b, b ∈ F → b ∈ g.F (.slot t) := by
    cases x with
    | tmp t => simp only [compOd, Option.some.injEq] at hc; subst hc; exact ⟨_, t, h.slots t, fun b hb => hb⟩
    | const v =>
      simp only [compOd] at hc
      split at hc
      · rename_i hf
        simp only [Option.map_eq_some_iff] at hc
        obtain ⟨x, h1, rfl⟩ := hc
        exact ⟨[], 0, avOf_rel hf h1, fun b hb => (List.not_mem_nil hb).elim⟩
      · cases hc
    | func f => simp only [compOd, Option.some.injEq] at hc; subst hc; exact ⟨[], 0, .lit _ _ rfl, fun b hb => (List.not_mem_nil hb).elim⟩
    | global n =>
      simp only [compOd, Option.map_eq_some_iff] at hc
      obtain ⟨vs, h1, rfl⟩ := hc
      exact ⟨[], 0, glb_rel h hok h1, fun b hb => (List.not_mem_nil hb).elim⟩
  obtain ⟨F, t, h1, h2⟩ := hown
  have other : passG s ns (y.val s) = passD (y.val s) → PassOk (cx fc s a w g) g s ns (y.val s) (a.eval x) :=
    fun e => .inr ⟨_, _, F, .slot t, e, h1, h2, fun n _ hh => by cases hh⟩
  cases hy : y.val s with
  | bor r =>
    rw [hy] at h1
    obtain ⟨h3, _⟩ := h1.bor_inv
    have gen : (∀ n, n ∈ ns → posR r ≠ .box n) → passG s ns (.bor r) = (match getH s r with | some y => passD y | none => .junk) → PassOk (cx fc s a w g) g s ns (.bor r) (a.eval x) := by
      intro hne e
      cases hg : getH s r with
      | none => rw [hg] at e; exact .inl e
      | some z =>
        rw [hg] at e
        obtain ⟨t', G, q1, q2⟩ := getH_pos h hg h3
        exact .inr ⟨z, t', G, posR r, e, q1, q2, hne⟩
    obtain ⟨root, path⟩ := r
    cases root with
    | slot u => exact gen (fun n _ hh => by simp [posR] at hh) rfl
    | box n k =>
      by_cases hn : n ∈ ns
      · left; simp [passG, hn]
      · exact gen (fun m hm hh => by simp only [posR] at hh; injection hh with hh; subst hh; exact hn hm) (by simp only [passG]; rw [if_neg (by simpa using hn)]; first | done | (cases getH s ⟨.box n k, path⟩ <;> rfl))
  | _ => rw [← hy]; exact other (by rw [hy]; rfl)
theorem idxIn_spec : ∀ {ns : List Nat} {n j i : Nat}, idxIn ns n j = some i → j ≤ i ∧ ns[i - j]? = some n := by
  intro ns
  induction ns with
  | nil => intro n j i h; simp [idxIn] at h
  | cons m ms ih =>
    intro n j i h
    simp only [idxIn] at h
    split at h
    · rename_i e; injection h with h; subst h; subst e; simp
    · obtain ⟨h1, h2⟩ := ih h
      refine ⟨by omega, ?_⟩
      rw [show i - j = (i - (j + 1)) + 1 by omega]; simpa using h2
theorem idxIn_mem : ∀ {ns : List Nat} {n : Nat} (j : Nat), n ∈ ns → ∃ i, idxIn ns n j = some i := by
  intro ns
  induction ns with
  | nil => intro n j h; exact (List.not_mem_nil h).elim
  | cons m ms ih =>
    intro n j h
    simp only [idxIn]
    by_cases e : n = m
    · exact ⟨j, if_pos e⟩
    · rw [if_neg e]; exact ih (j + 1) ((List.mem_cons.1 h).resolve_left e)
theorem noDup_get : ∀ {ns : List Nat}, noDup ns = true → ∀ {i j n : Nat}, ns[i]? = some n → ns[j]? = some n → i = j := by
  intro ns
  induction ns with
  | nil => intro _ i j n h; simp at h
  | cons m ms ih =>
    intro hd i j n hi hj
    simp only [noDup, Bool.and_eq_true, Bool.not_eq_true', List.contains_eq_mem, decide_eq_false_iff_not] at hd
    cases i with
    | zero =>
      cases j with
      | zero => rfl
      | succ j => simp at hi hj; subst hi; exact absurd (List.mem_of_getElem? hj) hd.1
    | succ i =>
      cases j with
      | zero => simp at hi hj; subst hj; exact absurd (List.mem_of_getElem? hi) hd.1
      | succ j => simp at hi hj; rw [ih hd.2 hi hj]
theorem boxesAt_spec : ∀ {ns : List Nat} {bxs : List (List AV)}, boxesAt s ns = some bxs → bxs.length = ns.length ∧ ∀ {i n : Nat}, ns[i]? = some n → ∃ cs, s.bx n = some cs ∧ bxs[i]? = some cs := by
  intro ns
  induction ns with
  | nil => intro bxs h; simp only [boxesAt, Option.some.injEq] at h; subst h; exact ⟨rfl, fun h => by simp at h⟩
  | cons m ms ih =>
    intro bxs h
    simp only [boxesAt] at h
    split at h
    · rename_i cs css h1 h2
      injection h with h; subst h
      obtain ⟨q1, q2⟩ := ih h2
      refine ⟨by simp [q1], fun {i n} hi => ?_⟩
      cases i with
      | zero => simp at hi; subst hi; exact ⟨cs, h1, rfl⟩
      | succ i => simpa using q2 (by simpa using hi)
    · cases h
theorem PRel.get {X : Cx} {ns : List Nat} : ∀ {ps : List PA} {vs : List Value} {Fs : List (List Nat)}, PRel X g s ns ps vs Fs → vs.length = ps.length ∧ Fs.length = ps.length ∧
    ∀ {t : Nat} {p : PA}, ps[t]? = some p → ∃ v F, vs[t]? = some v ∧ Fs[t]? = some F ∧
      (match p with | .pass x => F = [] ∧ PassOk X g s ns x v | .give y => Rel X true y v F | .box n => F = [] ∧ n ∈ ns ∧ ∃ ad, g.ba n = some ad ∧ v = .pointer (some ad)) := by
  intro ps
  induction ps with
  | nil => intro vs Fs h; cases h; exact ⟨rfl, rfl, fun h => by simp at h⟩
  | cons p ps ih =>
    intro vs Fs h
    cases h with
    | pass x v _ vs Fs h hs =>
      obtain ⟨q1, q2, q3⟩ := ih hs
      refine ⟨by simp [q1], by simp [q2], fun {t p} ht => ?_⟩
      cases t with
      | zero => simp at ht; subst ht; exact ⟨v, [], by simp, by simp, rfl, h⟩
      | succ t => simpa using q3 (by simpa using ht)
    | give y v F _ vs Fs h hs hd =>
      obtain ⟨q1, q2, q3⟩ := ih hs
      refine ⟨by simp [q1], by simp [q2], fun {t p} ht => ?_⟩
      cases t with
      | zero => simp at ht; subst ht; exact ⟨v, F, by simp, by simp, h⟩
      | succ t => simpa using q3 (by simpa using ht)
    | box n ad _ vs Fs h hn hs =>
      obtain ⟨q1, q2, q3⟩ := ih hs
      refine ⟨by simp [q1], by simp [q2], fun {t p} ht => ?_⟩
      cases t with
      | zero => simp at ht; subst ht; exact ⟨_, [], by simp, by simp, rfl, hn, ad, h, rfl⟩
      | succ t => simpa using q3 (by simpa using ht)
theorem PRel.disj {X : Cx} {ns : List Nat} : ∀ {ps : List PA} {vs : List Value} {Fs : List (List Nat)}, PRel X g s ns ps vs Fs → ∀ {i j : Nat}, i ≠ j → Disj (Fs.getD i []) (Fs.getD j []) := by
  intro ps
  have mem : ∀ {Fs : List (List Nat)} {j b : Nat}, b ∈ Fs.getD j [] → Fs.getD j [] ∈ Fs := by
    intro Fs j b hb
    rw [List.getD_eq_getElem?_getD] at hb ⊢
    cases h : Fs[j]? with
    | none => rw [h] at hb; exact (List.not_mem_nil hb).elim
    | some F => exact List.mem_of_getElem? h
  induction ps with
  | nil => intro vs Fs h; cases h; intro i j _ b hb; simp at hb
  | cons p ps ih =>
    intro vs Fs h i j hij
    have step : ∀ {F : List Nat} {Fs : List (List Nat)}, (∀ {i j : Nat}, i ≠ j → Disj (Fs.getD i []) (Fs.getD j [])) → (∀ G, G ∈ Fs → Disj F G) → Disj ((F :: Fs).getD i []) ((F :: Fs).getD j []) := by
      intro F Fs h1 h2
      cases i with
      | zero =>
        cases j with
        | zero => exact absurd rfl hij
        | succ j => intro b hb hb'; simp only [List.getD_cons_zero, List.getD_cons_succ] at hb hb'; exact h2 _ (mem hb') b hb hb'
      | succ i =>
        cases j with
        | zero => intro b hb hb'; simp only [List.getD_cons_zero, List.getD_cons_succ] at hb hb'; exact h2 _ (mem hb) b hb' hb
        | succ j => simp only [List.getD_cons_succ]; exact h1 (by omega)
    cases h with
    | pass x v _ vs Fs h hs => exact step (ih hs) fun G _ b hb => (List.not_mem_nil hb).elim
    | give y v F _ vs Fs h hs hd => exact step (ih hs) hd
    | box n ad _ vs Fs h hn hs => exact step (ih hs) fun G _ b hb => (List.not_mem_nil hb).elim
theorem PRel.nozf {X : Cx} {ns : List Nat} : ∀ {ps : List PA} {vs : List Value} {Fs : List (List Nat)}, PRel X g s ns ps vs Fs → ∀ b, b ∈ Fs.flatten → ∀ i, ¬ X.zf b i := by
  intro ps
  induction ps with
  | nil => intro vs Fs h b hb; cases h; simp at hb
  | cons p ps ih =>
    intro vs Fs h b hb
    cases h with
    | pass x v _ vs Fs h hs => exact ih hs b (by simpa using hb)
    | give y v F _ vs Fs h hs hd =>
      rw [List.flatten_cons] at hb
      rcases List.mem_append.1 hb with hb | hb
      · exact h.nozf b hb
      · exact ih hs b hb
    | box n ad _ vs Fs h hn hs => exact ih hs b (by simpa using hb)
theorem getD_flatten {Fs : List (List Nat)} {t b : Nat} (h : b ∈ Fs.getD t []) : b ∈ Fs.flatten := by
  rw [List.getD_eq_getElem?_getD] at h
  cases hf : Fs[t]? with
  | none => rw [hf] at h; exact (List.not_mem_nil h).elim
  | some F => rw [hf] at h; exact List.mem_flatten.2 ⟨F, List.mem_of_getElem? hf, h⟩
end
end Go.Ev
namespace Go.Ev
set_option linter.unusedVariables false
theorem Keep.trans2 {T0 T : Nat → Nat → Prop} {w0 w w' : World} (h : Keep T0 w0 w) (h' : Keep T w w') (hT : ∀ b i, b < w0.heap.size → T b i → T0 b i) : Keep T0 w0 w' := by
  refine ⟨h'.os.trans h.os, h'.tape.trans h.tape, h'.output.trans h.output, Nat.le_trans h.size h'.size, fun b hb hn => ?_, fun b hb arr e fr hh => ?_⟩
  · rw [h'.block b (by have := h.size; omega) (fun i hi => hn i (hT b i hb hi))]; exact h.block b hb hn
  · obtain ⟨arr1, h1, h2, h3⟩ := h.cells b hb arr e fr hh
    obtain ⟨arr2, h4, h5, h6⟩ := h'.cells b (by have := h.size; omega) arr1 e fr h1
    exact ⟨arr2, h4, h5.trans h2, fun i hi => (h6 i fun hh => hi (hT b i hb hh)).trans (h3 i hi)⟩
theorem resOf_viaMem {pers : Nat → Bool} {tm : Nat → Value} {ba : Nat → Option Addr} {w w' : World} : ∀ (r : Ref) (x : Addr), viaMem false r = false → resOf pers tm ba w r = some x → resOf pers tm ba w' r = some x := by
  rintro ⟨root, path⟩ x hp hx
  match root, path, hp with
  | .slot t, [], _ =>
    simp only [resOf] at hx
    split at hx
    · cases hv : tm t <;> simp [hv, walk] at hx
    · cases hx
  | .slot t, [c], _ =>
    simp only [resOf] at hx ⊢
    split at hx
    · rename_i h
      rw [if_pos h]
      revert hx
      cases tm t with
      | slice ad n c' => cases ad <;> exact id
      | _ => exact id
    · cases hx
  | .slot t, c :: d :: p, hp => simp [viaMem] at hp
  | .box n k, [], _ => exact hx
  | .box n k, c :: p, hp => simp [viaMem] at hp
theorem holdOf_viaMem {pers : Nat → Bool} {tm : Nat → Value} {ba : Nat → Option Addr} {w w' : World} : ∀ (r : Ref) (v : Value), viaMem true r = false → holdOf pers tm ba w r = some v → holdOf pers tm ba w' r = some v := by
  rintro ⟨root, path⟩ v hp hv
  match root, path, hp with
  | .slot t, [], _ => exact hv
  | .slot t, c :: p, hp => simp [viaMem] at hp
  | .box n k, p, hp => simp [viaMem] at hp
section
variable {P : Program} {fc : Fc} {s : St} {a : Act} {w : World} {g : Gh} {gl : Tabs}
theorem callG_core (h : SR fc s a w g) (hok : fc.Ok gl) {f : FuncId} {pas : List PA} {vals : Array Value} {Fs : List (List Nat)} {bxs bxs' : List (List AV)} {res : AV}
    (hp : PRel (cx fc s a w g) g s (nsOf pas) pas vals.toList Fs) (hH : Hand fc s g Fs.flatten) (hnd : noDup (nsOf pas) = true) (hbx : boxesAt s (nsOf pas) = some bxs)
    (hs : SndG P gl f (pas.map (argG s (nsOf pas))) (bxs.map (trL (rhoIn (nsOf pas)) false)) res bxs') (hlen : bxs'.map (·.length) = bxs.map (·.length)) :
    Calls P f vals w fun e w' => ∃ v, e = .returned v ∧ ∃ g' H', SR fc (backG s (nsOf pas) bxs') a w' g' ∧ Rel (cx fc (backG s (nsOf pas) bxs') a w' g') true (tr (rhoOut (nsOf pas)) true res) v H' ∧ Hand fc (backG s (nsOf pas) bxs') g' H' := by
  generalize hns : nsOf pas = ns at *
  obtain ⟨hbl, hbg⟩ := boxesAt_spec hbx
  obtain ⟨hvl, hFl, hget⟩ := hp.get
  have hdis : ∀ {i j : Nat}, i ≠ j → Disj (Fs.getD i []) (Fs.getD j []) := fun e => hp.disj e
  let G : List Nat := Fs.flatten ++ ns.flatMap fun n => g.F (.box n)
  let HC : Nat → Nat → Prop := fun b i => ∃ n cs ad, n ∈ ns ∧ s.bx n = some cs ∧ g.ba n = some ad ∧ b = ad.block ∧ ad.off ≤ i ∧ i < ad.off + cs.length
  let T : Nat → Nat → Prop := fun b i => HC b i ∨ b ∈ G
  let zfC : Nat → Nat → Prop := fun b i => b < w.heap.size ∧ (cx fc s a w g).st b i ∧ ¬ T b i
  have hGbox : ∀ {n b : Nat}, n ∈ ns → b ∈ g.F (.box n) → b ∈ G := fun hn hb => List.mem_append_right _ (List.mem_flatMap.2 ⟨_, hn, hb⟩)
  have hG : ∀ b, b ∈ G → b ∈ Fs.flatten ∨ ∃ n, n ∈ ns ∧ b ∈ g.F (.box n) := by
    intro b hb
    rcases List.mem_append.1 hb with hb | hb
    · exact .inl hb
    · obtain ⟨n, h1, h2⟩ := List.mem_flatMap.1 hb; exact .inr ⟨n, h1, h2⟩
  have hGfree : ∀ b, b ∈ G → fc.free b := fun b hb => (hG b hb).elim (hH.free b) fun ⟨n, _, h2⟩ => h.touchF _ b h2
  have hGbxc : ∀ b, b ∈ G → ∀ i, ¬ bxcOf s.bx g.ba b i := fun b hb i => (hG b hb).elim (fun h1 => hH.noBox h1 i) fun ⟨n, _, h2⟩ => h.noBox h2 i
  have hGlt : ∀ b, b ∈ G → b < w.heap.size := by
    intro b hb
    rcases hG b hb with h1 | ⟨n, _, h2⟩
    · obtain ⟨F, hF, hb'⟩ := List.mem_flatten.1 h1
      obtain ⟨t, ht⟩ := List.mem_iff_getElem?.1 hF
      have htl : t < pas.length := by rw [← hFl]; exact (List.getElem?_eq_some_iff.1 ht).1
      obtain ⟨v, F', q1, q2, q3⟩ := hget (List.getElem?_eq_getElem htl)
      rw [ht] at q2; injection q2 with q2; subst q2
      revert q3
      cases pas[t] with
      | pass x => intro q3; rw [q3.1] at hb'; exact (List.not_mem_nil hb').elim
      | give y => intro q3; exact q3.lt b hb'
      | box n => intro q3; rw [q3.1] at hb'; exact (List.not_mem_nil hb').elim
    · exact h.F_lt h2
  have hGzf : ∀ b, b ∈ G → ∀ i, ¬ fc.zf b i := by
    intro b hb i
    rcases hG b hb with h1 | ⟨n, _, h2⟩
    · exact hp.nozf b h1 i
    · cases hbn : s.bx n with
      | none => rw [h.nobox n hbn] at h2; exact (List.not_mem_nil h2).elim
      | some cs =>
        obtain ⟨ad, vs, _, _, q⟩ := h.boxes n cs hbn
        exact q.nozf b h2 i
  have hHC : ∀ b i, HC b i → bxcOf s.bx g.ba b i := fun b i ⟨n, cs, ad, _, h2, h3, h4, h5, h6⟩ => ⟨n, cs, ad, h2, h3, h4, h5, h6⟩
  have hTzf : ∀ b i, fc.zf b i → ¬ T b i := fun b i hz hT => hT.elim (fun h1 => h.zfb b i hz (hHC b i h1)) fun h1 => hGzf b h1 i hz
  have hTfin : ∀ b, (∀ i, T b i) → b ∈ G := by
    intro b hb
    -- the variables' cells are few
    apply Classical.byContradiction
    intro hn
    have hall : ∀ i, HC b i := fun i => (hb i).resolve_right hn
    have hbd : ∀ i, HC b i → ∃ arr e fr, w.heap[b]? = some (.cells arr e fr) ∧ i < arr.size := by
      rintro i ⟨n, cs, ad, _, h2, h3, rfl, h5, h6⟩
      obtain ⟨ad', vs, q1, ⟨hsp, arr, e, fr, q2, q3, q4⟩, q5⟩ := h.boxes n cs h2
      rw [h3] at q1; injection q1 with q1; subst q1
      refine ⟨arr, e, fr, q2, ?_⟩
      have hl := q5.length
      have hk : i - ad.off < vs.length := by omega
      have := q4 (i - ad.off) _ (List.getElem?_eq_getElem hk)
      have := (Array.getElem?_eq_some_iff.1 this).1
      omega
    obtain ⟨arr, e, fr, q1, _⟩ := hbd 0 (hall 0)
    obtain ⟨arr', e', fr', q2, q3⟩ := hbd arr.size (hall arr.size)
    rw [q1] at q2; injection q2 with q2; injection q2 with q2; subst q2; omega
  have hzst : ∀ b i, fc.zf b i → (cx fc s a w g).st b i := fun b i h1 => ⟨fun m hm => (by have := h.zfd b i h1; simp only [cx] at hm; rw [this] at hm; cases hm), h.zfb b i h1, .inr (.inl h1)⟩
  let fcC : Fc := { w0 := w, T := T, zf := zfC, pers := fun _ => false, n := vals.size, hb := fun id => if 10000 ≤ id then (ns[id - 10000]?).bind g.ba else none }
  let baC : Nat → Option Addr := fun id => if 10000 ≤ id then (ns[id - 10000]?).bind g.ba else none
  let FC : Pos → List Nat := fun p => match p with | .slot t => Fs.getD t [] | .box id => if 10000 ≤ id then (match ns[id - 10000]? with | some n => g.F (.box n) | none => []) else []
  let bdC : Nat → Option Nat := fun b => if b ∈ G then g.bd b else none
  let gC : Gh := { bd := bdC, ba := baC, F := FC }
  have hFC : ∀ p b, b ∈ FC p → b ∈ G := by
    intro p b hb
    cases p with
    | slot t => exact List.mem_append_left _ (getD_flatten hb)
    | box id =>
      simp only [FC] at hb
      split at hb
      · split at hb
        · rename_i n hn; exact hGbox (List.mem_of_getElem? hn) hb
        · exact (List.not_mem_nil hb).elim
      · exact (List.not_mem_nil hb).elim
  let args := pas.map (argG s ns)
  let bxsC := bxs.map (trL (rhoIn ns) false)
  have hbxC : ∀ id cs, bxL bxsC id = some cs → 10000 ≤ id ∧ ∃ n cs0, ns[id - 10000]? = some n ∧ s.bx n = some cs0 ∧ cs = trL (rhoIn ns) false cs0 := by
    intro id cs hc
    simp only [bxL] at hc
    split at hc
    · rename_i hid
      simp only [bxsC, List.getElem?_map, Option.map_eq_some_iff] at hc
      obtain ⟨cs0, h1, rfl⟩ := hc
      have hlt : id - 10000 < ns.length := by rw [← hbl]; exact (List.getElem?_eq_some_iff.1 h1).1
      obtain ⟨cs1, q1, q2⟩ := hbg (List.getElem?_eq_getElem hlt)
      rw [h1] at q2; injection q2 with q2; subst q2
      exact ⟨hid, _, cs0, List.getElem?_eq_getElem hlt, q1, rfl⟩
    · cases hc
  have hbaC : ∀ id n, 10000 ≤ id → ns[id - 10000]? = some n → baC id = g.ba n := by
    intro id n h1 h2; simp only [baC]; rw [if_pos h1, h2]; rfl
  have hFCb : ∀ id n, 10000 ≤ id → ns[id - 10000]? = some n → FC (.box id) = g.F (.box n) := by
    intro id n h1 h2; simp only [FC]; rw [if_pos h1, h2]
  have hbxcC : ∀ b i, bxcOf (bxL bxsC) baC b i → HC b i := by
    rintro b i ⟨id, cs, ad, h1, h2, h3, h4, h5⟩
    obtain ⟨q1, n, cs0, q2, q3, rfl⟩ := hbxC id cs h1
    rw [hbaC id n q1 q2] at h2
    rw [trL_eq, List.length_map] at h5
    exact ⟨n, cs0, ad, List.mem_of_getElem? q2, q3, h2, h3, h4, h5⟩
  have hcxC : cx fcC (entryG args bxsC) ⟨vals, []⟩ w gC = { w := w, b0 := w.heap.size, bd := bdC, bxc := bxcOf (bxL bxsC) baC, zf := zfC, res := resOf (fun _ => false) (tmOf ⟨vals, []⟩) baC w, hold := holdOf (fun _ => false) (tmOf ⟨vals, []⟩) baC w } := rfl
  have htr : (cx fc s a w g).Tr (cx fcC (entryG args bxsC) ⟨vals, []⟩ w gC) (rhoIn ns) false (· ∈ G) := by
    refine ⟨fun n m k ad hr hres => ?_, fun b i v h1 h2 => ⟨?_, h2⟩, fun b i v h1 h2 => ⟨⟨fun m hm => ?_, fun hx => ?_, ?_⟩, h2⟩, fun b hb => ⟨rfl, ?_, fun i hz => hz.2.2 (.inr hb)⟩⟩
    · obtain ⟨q1, q2⟩ := idxIn_spec hr
      simp only [cx, resOf, gC] at hres ⊢
      rw [hbaC m n q1 q2]; exact hres
    · exact ⟨cell_lt h2, hzst b i h1, hTzf b i h1⟩
    · simp only [cx, gC, bdC] at hm
      split at hm
      · exact h1.1 m hm
      · cases hm
    · exact h1.2.1 (hHC b i (hbxcC b i hx))
    · by_cases hb : b ∈ G
      · right; right
        simp only [cx, gC, bdC]; rw [if_pos hb]
        rcases h1.2.2 with h3 | h3 | h3
        · -- a block of the call's own making that is in hand is bounded
          rcases hG b hb with h4 | ⟨n, _, h4⟩
          · obtain ⟨F, hF, hb'⟩ := List.mem_flatten.1 h4
            obtain ⟨t, ht⟩ := List.mem_iff_getElem?.1 hF
            have htl : t < pas.length := by rw [← hFl]; exact (List.getElem?_eq_some_iff.1 ht).1
            obtain ⟨v', F', q1, q2, q3⟩ := hget (List.getElem?_eq_getElem htl)
            rw [ht] at q2; injection q2 with q2; subst q2
            revert q3
            cases pas[t] with
            | pass x => intro q3; rw [q3.1] at hb'; exact (List.not_mem_nil hb').elim
            | give y => intro q3; exact q3.bdd b hb'
            | box n => intro q3; rw [q3.1] at hb'; exact (List.not_mem_nil hb').elim
          · cases hbn : s.bx n with
            | none => rw [h.nobox n hbn] at h4; exact (List.not_mem_nil h4).elim
            | some cs =>
              obtain ⟨ad, vs, _, _, q⟩ := h.boxes n cs hbn
              exact q.bdd b h4
        · exact absurd h3 (hGzf b hb i)
        · exact h3
      · right; left
        refine ⟨cell_lt h2, h1, fun hT => ?_⟩
        rcases hT with hT | hT
        · exact h1.2.1 (hHC b i hT)
        · exact hb hT
    · simp only [cx, gC, bdC]; exact if_pos hb
  have hSRC : SR fcC (entryG args bxsC) ⟨vals, []⟩ w gC := by
    refine ⟨fun t => ?_, fun id cs hc => ?_, fun id hc => ?_, fun p q hpq b hb hb' => ?_, fun id cs ad hc ha p hb => ?_, fun id jd cs cs' ad ad' hne hc hc' ha ha' => ?_, fun b i hz hx => hz.2.2 (.inl (hbxcC b i hx)), fun b i hz => hz.1, fun p b hb => .inr fun i => .inr (hFC p b hb), fun b i hx => .inr (.inl (hbxcC b i hx)), .refl _ _, rfl, rfl, fun id hc => ?_, fun b i hz => ?_, fun b hb hT => ?_, fun id _ _ => rfl⟩
    · rw [entryG_env]
      by_cases ht : t < pas.length
      · obtain ⟨v, F, q1, q2, q3⟩ := hget (List.getElem?_eq_getElem ht)
        have hv : tmOf ⟨vals, []⟩ t = v := by
          have : vals[t]? = some v := by simpa using q1
          simp [tmOf, Array.getD_eq_getD_getElem?, this]
        have hF : gC.F (.slot t) = F := by simp only [gC, FC]; rw [List.getD_eq_getElem?_getD, q2]; rfl
        have ha : args[t]? = some (argG s ns pas[t]) := by simp [args, List.getElem?_map, List.getElem?_eq_getElem ht]
        rw [hv, hF, ha, Option.getD_some]
        revert q3
        cases hpt : pas[t] with
        | pass x =>
          rintro ⟨rfl, q3⟩
          simp only [argG]
          rcases q3 with q3 | ⟨y, t', F', q, e, q3, q4, q5⟩
          · rw [q3]; exact .junk _ _
          · rw [e]
            refine q3.pass (X := cx fc s a w g) (X' := cx fcC (entryG args bxsC) ⟨vals, []⟩ w gC) (P := fun b => b ∉ G) rfl (fun b i u h1 h2 h3 => ⟨cell_lt h3, h2, fun hT => hT.elim (fun h4 => h2.2.1 (hHC b i h4)) h1⟩) (fun b i u h1 h2 => ⟨cell_lt h2, hzst b i h1, hTzf b i h1⟩) (fun b hb => ⟨fun hg => ?_, fun i => h.noBox (q4 b hb) i⟩)
            rcases hG b hg with h1 | ⟨n, h1, h2⟩
            · exact hH.disj q b h1 (q4 b hb)
            · exact h.disj q (.box n) (q5 n h1) b (q4 b hb) h2
        | give y =>
          intro q3
          exact q3.tr htr fun b hb => List.mem_append_left _ (List.mem_flatten.2 ⟨F, List.mem_of_getElem? q2, hb⟩)
        | box n =>
          rintro ⟨rfl, hn, ad, q3, rfl⟩
          simp only [argG]
          obtain ⟨i, hi⟩ := idxIn_mem 10000 hn
          obtain ⟨h1, h2⟩ := idxIn_spec hi
          have : rhoIn ns n = some i := hi
          rw [this, Option.getD_some]
          refine .ptr _ _ ?_
          simp only [cx, resOf, gC]
          rw [hbaC i n h1 h2, q3]; simp [Addr.add]
      · have hv : tmOf ⟨vals, []⟩ t = undef := by
          have : vals[t]? = none := by
            have : vals.toList[t]? = none := List.getElem?_eq_none (by omega)
            simpa using this
          simp [tmOf, Array.getD_eq_getD_getElem?, this]
        have hF : gC.F (.slot t) = [] := by simp only [gC, FC]; rw [List.getD_eq_getElem?_getD, List.getElem?_eq_none (by omega)]; rfl
        have ha : args[t]? = none := List.getElem?_eq_none (by simp [args]; omega)
        rw [hv, hF, ha]
        exact .lit _ _ rfl
    · obtain ⟨q1, n, cs0, q2, q3, rfl⟩ := hbxC id cs hc
      obtain ⟨ad, vs, r1, r2, r3⟩ := h.boxes n cs0 q3
      refine ⟨ad, vs, by simp only [gC]; rw [hbaC id n q1 q2]; exact r1, r2, ?_⟩
      simp only [gC]
      rw [hFCb id n q1 q2]
      exact r3.tr htr fun b hb => hGbox (List.mem_of_getElem? q2) hb
    · simp only [gC, FC]
      split
      · rename_i hid
        split
        · rename_i n hn
          obtain ⟨cs, q1, q2⟩ := hbg hn
          have : bxL bxsC id = some (trL (rhoIn ns) false cs) := by simp only [bxL]; rw [if_pos hid]; simp [bxsC, List.getElem?_map, q2]
          have hc' : bxL bxsC id = none := hc
          rw [this] at hc'; cases hc'
        · rfl
      · rfl
    · cases p with
      | slot t =>
        cases q with
        | slot u => exact hdis (by rintro rfl; exact hpq rfl) b hb hb'
        | box id =>
          simp only [gC, FC] at hb hb'
          split at hb'
          · split at hb'
            · exact hH.disj _ b (getD_flatten hb) hb'
            · exact (List.not_mem_nil hb').elim
          · exact (List.not_mem_nil hb').elim
      | box id =>
        have hb2 := hb
        simp only [gC, FC] at hb
        split at hb
        · rename_i hid
          split at hb
          · rename_i n hn
            cases q with
            | slot u => simp only [gC, FC] at hb'; exact hH.disj _ b (getD_flatten hb') hb
            | box jd =>
              simp only [gC, FC] at hb'
              split at hb'
              · rename_i hjd
                split at hb'
                · rename_i m hm
                  refine h.disj (.box n) (.box m) (fun e => ?_) b hb hb'
                  injection e with e; subst e
                  have := noDup_get hnd hn hm
                  have e2 : id = jd := by omega
                  subst e2
                  exact hpq rfl
                · exact (List.not_mem_nil hb').elim
              · exact (List.not_mem_nil hb').elim
          · exact (List.not_mem_nil hb).elim
        · exact (List.not_mem_nil hb).elim
    · obtain ⟨q1, n, cs0, q2, q3, rfl⟩ := hbxC id cs hc
      simp only [gC] at ha
      rw [hbaC id n q1 q2] at ha
      rcases hG _ (hFC p _ hb) with h1 | ⟨m, _, h2⟩
      · exact hH.sep n cs0 ad q3 ha h1
      · exact h.sep n cs0 ad q3 ha _ h2
    · obtain ⟨q1, n, cs0, q2, q3, rfl⟩ := hbxC id cs hc
      obtain ⟨r1, m, cs1, r2, r3, rfl⟩ := hbxC jd cs' hc'
      simp only [gC] at ha ha'
      rw [hbaC id n q1 q2] at ha
      rw [hbaC jd m r1 r2] at ha'
      rw [trL_eq, trL_eq, List.length_map, List.length_map]
      refine h.apart n m cs0 cs1 ad ad' ?_ q3 r3 ha ha'
      rintro rfl
      have := noDup_get hnd q2 r2
      omega
    · simp only [gC, baC]
      split
      · rename_i hid
        cases hn : ns[id - 10000]? with
        | none => rfl
        | some n =>
          obtain ⟨cs, q1, q2⟩ := hbg hn
          have : bxL bxsC id = some (trL (rhoIn ns) false cs) := by simp only [bxL]; rw [if_pos hid]; simp [bxsC, List.getElem?_map, q2]
          have hc' : bxL bxsC id = none := hc
          rw [this] at hc'; cases hc'
      · rfl
    · simp only [gC, bdC]; exact if_neg fun hg => hz.2.2 (.inr hg)
    · simp only [gC, bdC]
      refine if_neg fun hg => hT fun i => .inr hg
  have hokC : fcC.Ok gl := by
    refine ⟨fun b i hz => hz.2.2, fun n vs hg => ⟨(hok.glob n vs hg).1, fun k v hk => ?_⟩, hok.size.keep h.keep, fun n hg => ?_⟩
    · obtain ⟨h1, h2⟩ := (hok.glob n vs hg).2 k v hk
      have hcell := h.keep.cell (hok.zfT _ _ h2) h1
      exact ⟨hcell, cell_lt hcell, hzst _ _ h2, hTzf _ _ h2⟩
    · obtain ⟨ev, h1, h2, h3⟩ := hok.errs n hg
      have hcell := h.keep.cell (hok.zfT _ _ h2) h1
      exact ⟨ev, hcell, ⟨cell_lt hcell, hzst _ _ h2, hTzf _ _ h2⟩, h3⟩
  have hvs : vals.size = pas.length := by simpa using hvl
  refine (hs fcC vals w gC rfl hokC rfl rfl rfl (by simp [hvs]) hSRC).mono ?_
  rintro e w' ⟨v, rfl, g1, hR⟩
  refine ⟨v, rfl, ?_⟩
  -- back
  have hlen' : ∀ {j : Nat} {cs : List AV}, bxs[j]? = some cs → ∃ cs1, bxs'[j]? = some cs1 ∧ cs1.length = cs.length := by
    intro j cs hj
    have h1 : (bxs.map (·.length))[j]? = some cs.length := by simp [List.getElem?_map, hj]
    rw [← hlen, List.getElem?_map, Option.map_eq_some_iff] at h1
    exact h1
  have hkeep : Keep T w w' := hR.keep
  let fc1 : Fc := { fcC with n := 1 }
  let s1 : St := entryG [res] bxs'
  let s2 : St := backG s ns bxs'
  let bd2 : Nat → Option Nat := fun b => if b ∈ G ∨ w.heap.size ≤ b then g1.bd b else g.bd b
  let F2 : Pos → List Nat := fun p => match p with | .slot t => g.F (.slot t) | .box n => (match idxIn ns n 0 with | some j => g1.F (.box (10000 + j)) | none => g.F (.box n))
  let g2 : Gh := { bd := bd2, ba := g.ba, F := F2 }
  have hfree1 : ∀ p b, b ∈ g1.F p → w.heap.size ≤ b ∨ b ∈ G := fun p b hb => (hR.touchF p b hb).imp id (hTfin b)
  -- the variables behind the call
  have hbx2 : ∀ n cs, s2.bx n = some cs → (∃ j cs0 cs1, idxIn ns n 0 = some j ∧ ns[j]? = some n ∧ s.bx n = some cs0 ∧ bxs'[j]? = some cs1 ∧ cs1.length = cs0.length ∧ cs = trL (rhoOut ns) true cs1) ∨
      (idxIn ns n 0 = none ∧ n ∉ ns ∧ ∃ cs0, s.bx n = some cs0 ∧ cs = klL viaMem true cs0) := by
    intro n cs hn
    simp only [s2, backG] at hn
    cases hi : idxIn ns n 0 with
    | none =>
      rw [hi] at hn
      simp only [Option.map_eq_some_iff] at hn
      obtain ⟨cs0, q1, rfl⟩ := hn
      refine .inr ⟨rfl, fun hm => ?_, cs0, q1, rfl⟩
      obtain ⟨i, hi'⟩ := idxIn_mem 0 hm
      rw [hi] at hi'; cases hi'
    | some j =>
      rw [hi] at hn
      simp only [Option.some.injEq] at hn
      obtain ⟨_, hj⟩ := idxIn_spec hi
      simp only [Nat.sub_zero] at hj
      obtain ⟨cs0, q1, q2⟩ := hbg hj
      obtain ⟨cs1, q3, q4⟩ := hlen' q2
      refine .inl ⟨j, cs0, cs1, rfl, hj, q1, q3, q4, ?_⟩
      rw [← hn, List.getD_eq_getElem?_getD, q3]; rfl
  have hbx2n : ∀ n, s2.bx n = none → idxIn ns n 0 = none ∧ s.bx n = none := by
    intro n hn
    simp only [s2, backG] at hn
    cases hi : idxIn ns n 0 with
    | none => rw [hi] at hn; exact ⟨rfl, by simpa using hn⟩
    | some j => rw [hi] at hn; cases hn
  have hold2 : ∀ n cs, s2.bx n = some cs → ∃ cs0, s.bx n = some cs0 ∧ cs.length = cs0.length := by
    intro n cs hn
    rcases hbx2 n cs hn with ⟨j, cs0, cs1, _, _, q3, _, q5, rfl⟩ | ⟨_, _, cs0, q3, rfl⟩
    · exact ⟨cs0, q3, by rw [trL_eq, List.length_map, q5]⟩
    · exact ⟨cs0, q3, by rw [klL_eq, List.length_map]⟩
  have hbxc2 : ∀ b i, bxcOf s2.bx g.ba b i → bxcOf s.bx g.ba b i := by
    rintro b i ⟨n, cs, ad, h1, h2, h3, h4, h5⟩
    obtain ⟨cs0, q1, q2⟩ := hold2 n cs h1
    exact ⟨n, cs0, ad, q1, h2, h3, h4, by omega⟩
  have hw0 : fc.w0.heap.size ≤ w.heap.size := h.keep.size
  have hzst2 : ∀ b i, zfC b i → (cx fc s2 a w' g2).st b i := by
    intro b i hz
    have hb : bd2 b = g.bd b := if_neg (by rintro (hg | hg); exact hz.2.2 (.inr hg); have := hz.1; omega)
    obtain ⟨q1, q2, q3⟩ := hz.2.1
    refine ⟨fun m hm => q1 m ?_, fun hx => q2 (hbxc2 b i hx), ?_⟩
    · simp only [cx, g2] at hm ⊢; rw [hb] at hm; exact hm
    · simp only [cx, g2] at q3 ⊢; rw [hb]; exact q3
  have htr2 : (cx fc1 s1 ⟨#[v], []⟩ w' g1).Tr (cx fc s2 a w' g2) (rhoOut ns) true (fun b => w.heap.size ≤ b ∨ b ∈ G) := by
    refine ⟨fun m n k ad hr hres => ?_, fun b i u h1 h2 => ⟨?_, h2⟩, fun b i u h1 h2 => ⟨?_, h2⟩, fun b hb => ⟨rfl, ?_, fun i hz => ?_⟩⟩
    · simp only [rhoOut] at hr
      split at hr
      · rename_i hm
        simp only [cx, resOf] at hres ⊢
        have hne : s1.bx m ≠ none := by
          intro hn
          have := hR.nob m hn
          rw [this] at hres; cases hres
        rw [hR.hbo m (by show 1 ≤ m; omega) hne] at hres
        have e2 : fcC.hb m = g.ba n := hbaC m n hm hr
        rw [show ({ fcC with n := 1 } : Fc).hb m = g.ba n from e2] at hres
        exact hres
      · cases hr
    · simp only [if_true]; exact hzst2 b i h1
    · by_cases hlt : w.heap.size ≤ b
      · have hb : bd2 b = g1.bd b := if_pos (.inr hlt)
        refine ⟨fun m hm => h1.1 m ?_, fun hx => ?_, .inl ?_⟩
        · simp only [cx, g2] at hm ⊢; rw [hb] at hm; exact hm
        · have := h.bxc_lt (hbxc2 b i hx); omega
        · simp only [cx]; omega
      · rcases h1.2.2 with h3 | h3 | h3
        · exact absurd h3 hlt
        · exact hzst2 b i h3
        · have hg : b ∈ G := by
            apply Classical.byContradiction
            intro hn
            have := hR.bdo b (by simp only [fcC]; omega) (fun hT => hn (hTfin b hT))
            simp only [cx] at h3
            rw [this] at h3; cases h3
          have hb : bd2 b = g1.bd b := if_pos (.inl hg)
          refine ⟨fun m hm => h1.1 m ?_, fun hx => hGbxc b hg i (hbxc2 b i hx), .inr (.inr ?_)⟩
          · simp only [cx, g2] at hm ⊢; rw [hb] at hm; exact hm
          · simp only [cx, g2] at h3 ⊢; rw [hb]; exact h3
    · exact if_pos hb.symm
    · simp only [cx] at hz
      rcases hb with hb | hb
      · have := h.zfo b i hz; omega
      · exact hGzf b hb i hz
  have hkk : (cx fc s a w g).KeepsK (cx fc s2 a w' g2) viaMem true (fun b => b < w.heap.size ∧ b ∉ G ∧ ∀ i, ¬ T b i) := by
    refine ⟨fun r x hp hx => resOf_viaMem r x hp hx, fun r u hp hx _ _ => holdOf_viaMem r u hp hx, fun b i u h1 h2 => ⟨h1, hkeep.cell (hTzf b i h1) h2⟩, (fun hh => by cases hh), fun b hb => ⟨hkeep.block b hb.1 hb.2.2, ?_, fun i hz => hz⟩⟩
    exact if_neg (by rintro (hg | hg); exact hb.2.1 hg; have := hb.1; omega)
  have hGslot : ∀ t b, b ∈ g.F (.slot t) → b ∉ G := fun t b hb hg => (hG b hg).elim (fun h1 => hH.disj _ b h1 hb) fun ⟨n, _, h2⟩ => h.disj (.slot t) (.box n) (by intro hh; cases hh) b hb h2
  have hGother : ∀ n b, n ∉ ns → b ∈ g.F (.box n) → b ∉ G := fun n b hn hb hg => (hG b hg).elim (fun h1 => hH.disj _ b h1 hb) fun ⟨m, hm, h2⟩ => h.disj (.box n) (.box m) (by intro hh; injection hh with hh; subst hh; exact hn hm) b hb h2
  have hP : ∀ p b, b ∈ g.F p → b ∉ G → b < w.heap.size ∧ b ∉ G ∧ ∀ i, ¬ T b i := fun p b hb hg => ⟨h.F_lt hb, hg, fun i hT => hT.elim (fun h1 => h.noBox hb i (hHC b i h1)) hg⟩
  have hF2 : ∀ p, (∃ j n, p = .box n ∧ ns[j]? = some n ∧ F2 p = g1.F (.box (10000 + j))) ∨ (F2 p = g.F p ∧ ∀ b, b ∈ g.F p → b ∉ G) := by
    intro p
    cases p with
    | slot t => exact .inr ⟨rfl, hGslot t⟩
    | box n =>
      cases hi : idxIn ns n 0 with
      | none =>
        refine .inr ⟨by simp only [F2]; rw [hi], fun b => hGother n b fun hm => ?_⟩
        obtain ⟨i, hi'⟩ := idxIn_mem 0 hm
        rw [hi] at hi'; cases hi'
      | some j =>
        obtain ⟨_, hj⟩ := idxIn_spec hi
        exact .inl ⟨j, n, rfl, by simpa using hj, by simp only [F2]; rw [hi]⟩
  have hadG : ∀ n cs ad, s.bx n = some cs → g.ba n = some ad → ad.block ∉ G := fun n cs ad hn ha hg => (hG _ hg).elim (hH.sep n cs ad hn ha) fun ⟨m, _, h2⟩ => h.sep n cs ad hn ha _ h2
  have hadlt : ∀ n cs ad, s.bx n = some cs → g.ba n = some ad → ad.block < w.heap.size := by
    intro n cs ad hn ha
    obtain ⟨ad', vs, q1, q2, q3⟩ := h.boxes n cs hn
    rw [ha] at q1; injection q1 with q1; subst q1
    exact q2.lt
  have hnew : ∀ q b, b ∈ g1.F q → ∀ p, (F2 p = g.F p ∧ ∀ b, b ∈ g.F p → b ∉ G) → b ∉ F2 p := by
    rintro q b hb p ⟨e, hg⟩ hb'
    rw [e] at hb'
    rcases hfree1 q b hb with h1 | h1
    · have := h.F_lt hb'; omega
    · exact hg b hb' h1
  have hsep2 : ∀ n cs0 ad q, s.bx n = some cs0 → g.ba n = some ad → ad.block ∉ g1.F q := by
    intro n cs0 ad q hn ha hb
    rcases hfree1 q _ hb with h1 | h1
    · have := hadlt n cs0 ad hn ha; omega
    · exact hadG n cs0 ad hn ha h1
  have hfr2 : ∀ q b, b ∈ g1.F q → fc.free b := fun q b hb => (hfree1 q b hb).elim (fun h1 => .inl (Nat.le_trans hw0 h1)) (hGfree b)
  refine ⟨g2, g1.F (.slot 0), ⟨fun t => ?_, fun n cs hn => ?_, fun n hn => ?_, fun p q hpq b hb hb' => ?_, fun n cs ad hn ha p hb => ?_, fun n m cs cs' ad ad' hnm hn hm ha ha' => ?_, fun b i hz hx => h.zfb b i hz (hbxc2 b i hx), h.zfo, fun p b hb => ?_, fun b i hx => h.touchB b i (hbxc2 b i hx), h.keep.trans2 hkeep fun b i hb hT => ?_, h.defers, h.size, fun n hn => h.nob n (hbx2n n hn).2, fun b i hz => ?_, fun b hb hT => ?_, fun n h1 h2 => ?_⟩, ?_, ⟨fun q b hb hb' => ?_, fun n cs ad hn ha hb => ?_, fun b hb => hfr2 _ b hb⟩⟩
  · exact (h.slots t).kl hkk fun b hb => hP _ b hb (hGslot t b hb)
  · rcases hbx2 n cs hn with ⟨j, cs0, cs1, q1, q2, q3, q4, q5, rfl⟩ | ⟨q1, q2, cs0, q3, rfl⟩
    · have hb1 : s1.bx (10000 + j) = some cs1 := by
        show bxL bxs' (10000 + j) = some cs1
        simp only [bxL]
        rw [if_pos (by omega), show 10000 + j - 10000 = j by omega, q4]
      obtain ⟨ad, vs, r1, r2, r3⟩ := hR.boxes (10000 + j) cs1 hb1
      have e2 : fcC.hb (10000 + j) = g.ba n := hbaC (10000 + j) n (by omega) (by rw [show 10000 + j - 10000 = j by omega]; exact q2)
      rw [hR.hbo (10000 + j) (by show 1 ≤ 10000 + j; omega) (by intro hn; have hn' : s1.bx (10000 + j) = none := hn; rw [hb1] at hn'; cases hn'), show ({ fcC with n := 1 } : Fc).hb (10000 + j) = g.ba n from e2] at r1
      refine ⟨ad, vs, r1, r2, ?_⟩
      have : F2 (.box n) = g1.F (.box (10000 + j)) := by simp only [F2]; rw [q1]
      simp only [g2]
      rw [this]
      exact r3.tr htr2 fun b hb => hfree1 _ b hb
    · obtain ⟨ad, vs, r1, ⟨hsp, arr, e, fr, hh, hfr, hrd⟩, r3⟩ := h.boxes n cs0 q3
      have hl := r3.length
      obtain ⟨arr', k1, k2, k3⟩ := hkeep.cells ad.block (hadlt n cs0 ad q3 r1) arr e fr hh
      refine ⟨ad, vs, r1, ⟨hsp, arr', e, fr, k1, fun i hi => hfr i (by omega), fun k u hk => ?_⟩, ?_⟩
      · have hkl := (List.getElem?_eq_some_iff.1 hk).1
        rw [k3 (ad.off + k) ?_]
        · exact hrd k u hk
        · rintro (⟨m, cs', ad', m1, m2, m3, m4, m5, m6⟩ | hg)
          · have hne : n ≠ m := by rintro rfl; exact q2 m1
            have := h.apart n m cs0 cs' ad ad' hne q3 m2 r1 m3
            omega
          · exact hadG n cs0 ad q3 r1 hg
      · have : F2 (.box n) = g.F (.box n) := by simp only [F2]; rw [q1]
        simp only [g2]
        rw [this]
        exact r3.kl hkk fun b hb => hP _ b hb (hGother n b q2 hb)
  · obtain ⟨q1, q2⟩ := hbx2n n hn
    simp only [g2, F2]; rw [q1]; exact h.nobox n q2
  · rcases hF2 p with ⟨j, n, e1, e2, e3⟩ | e1
    · simp only [g2] at hb hb'
      rw [e3] at hb
      rcases hF2 q with ⟨j', n', e1', e2', e3'⟩ | e1'
      · rw [e3'] at hb'
        refine hR.disj _ _ (fun hh => ?_) b hb hb'
        injection hh with hh
        have hjj : j = j' := by omega
        subst hjj
        rw [e2] at e2'; injection e2' with e2'; subst e2'
        exact hpq (e1.trans e1'.symm)
      · exact hnew _ b hb q e1' hb'
    · simp only [g2] at hb hb'
      rcases hF2 q with ⟨j', n', e1', e2', e3'⟩ | e1'
      · rw [e3'] at hb'
        exact hnew _ b hb' p e1 hb
      · rw [e1.1] at hb; rw [e1'.1] at hb'; exact h.disj p q hpq b hb hb'
  · obtain ⟨cs0, q1, q2⟩ := hold2 n cs hn
    simp only [g2] at hb ha
    rcases hF2 p with ⟨j, m, e1, e2, e3⟩ | e1
    · rw [e3] at hb; exact hsep2 n cs0 ad _ q1 ha hb
    · rw [e1.1] at hb; exact h.sep n cs0 ad q1 ha p hb
  · obtain ⟨c1, q1, q2⟩ := hold2 n cs hn
    obtain ⟨c2, q3, q4⟩ := hold2 m cs' hm
    rw [q2, q4]
    exact h.apart n m c1 c2 ad ad' hnm q1 q3 ha ha'
  · simp only [g2] at hb
    rcases hF2 p with ⟨j, m, e1, e2, e3⟩ | e1
    · rw [e3] at hb; exact hfr2 _ b hb
    · rw [e1.1] at hb; exact h.touchF p b hb
  · rcases hT with hT | hT
    · exact (h.touchB b i (hHC b i hT)).resolve_left (by omega)
    · exact (hGfree b hT).resolve_left (by omega) i
  · have := h.zfo b i hz
    have hb : bd2 b = g.bd b := if_neg (by rintro (hg | hg); exact hGzf b hg i hz; omega)
    simp only [g2]; rw [hb]; exact h.zfd b i hz
  · have hb' : bd2 b = g.bd b := if_neg (by rintro (hg | hg); exact hT ((hGfree b hg).resolve_left (by omega)); omega)
    simp only [g2]; rw [hb']; exact h.bdo b hb hT
  · refine h.hbo n h1 fun hn => h2 ?_
    cases hi : idxIn ns n 0 with
    | none =>
      show (match idxIn ns n 0 with | some j => some (trL (rhoOut ns) true (bxs'.getD j [])) | none => (s.bx n).map (klL viaMem true)) = none
      rw [hi, hn]; rfl
    | some j =>
      obtain ⟨_, hj⟩ := idxIn_spec hi
      obtain ⟨cs0, q1, _⟩ := hbg (i := j) (n := n) (by simpa using hj)
      rw [hn] at q1; cases q1
  · have h0 := hR.slots 0
    have he : s1.env 0 = res := by simp [s1, entryG, argL, lk]
    have hv : tmOf ⟨#[v], []⟩ 0 = v := by simp [tmOf]
    have h0' : Rel (cx fc1 s1 ⟨#[v], []⟩ w' g1) true (s1.env 0) (tmOf ⟨#[v], []⟩ 0) (g1.F (.slot 0)) := h0
    rw [he, hv] at h0'
    exact h0'.tr htr2 fun b hb => hfree1 _ b hb
  · simp only [g2] at hb'
    rcases hF2 q with ⟨j', n', e1', e2', e3'⟩ | e1'
    · rw [e3'] at hb'
      exact hR.disj _ _ (by intro hh; cases hh) b hb hb'
    · exact hnew _ b hb q e1' hb'
  · obtain ⟨cs0, q1, q2⟩ := hold2 n cs hn
    exact hsep2 n cs0 ad _ q1 ha hb
end
end Go.Ev
namespace Go.Ev
set_option linter.unusedVariables false
section
variable {P : Program} {fc : Fc} {s : St} {a : Act} {w : World} {g : Gh} {gl : Tabs} {o : Oper} {Q : Exit → Act → World → Prop} {K : St → Prop} {dst : Option (Nat × Bool)} {C : Kn}
theorem gives_rel (hok : fc.Ok gl) : ∀ {xs : List Operand} {xs' : List (Od × AM)} {s s1 : St} {g : Gh} {ys : List (Option AV)}, All2 (fun x x' => ∃ ty, compOd P gl fc.pers ty x = some x'.1) xs xs' → SR fc s a w g → gives s xs' = some (ys, s1) →
    ∃ F Fs, SR fc s1 a w { g with F := F } ∧ Hand fc s1 { g with F := F } (List.flatten Fs) ∧ Sub g F Fs.flatten ∧ (bxcOf s1.bx g.ba = bxcOf s.bx g.ba ∧ ∀ n, (s1.bx n = none ↔ s.bx n = none)) ∧ ys.length = xs.length ∧ Fs.length = xs.length ∧
      Fs.Pairwise Disj ∧ ∀ (k : Nat) (y : Option AV), ys[k]? = some y → ∃ F x, Fs[k]? = some F ∧ xs[k]? = some x ∧ (match y with | some z => Rel (cx fc s1 a w g) true z (a.eval x) F | none => F = []) := by
  intro xs
  induction xs with
  | nil =>
    intro xs' s s1 g ys hx h hg
    cases hx
    simp only [gives, Option.some.injEq, Prod.mk.injEq] at hg
    obtain ⟨rfl, rfl⟩ := hg
    exact ⟨g.F, [], h, .nil _ _ _, ⟨fun q b hb => hb, fun b hb => by simp at hb⟩, ⟨rfl, fun _ => Iff.rfl⟩, rfl, rfl, .nil, fun k y hk => by simp at hk⟩
  | cons x xs ih =>
    intro xs' s s1 g ys hx h hg
    cases hx with
    | cons hx hxs =>
      rename_i x' xs'
      obtain ⟨x', m⟩ := x'
      obtain ⟨ty, hx⟩ := hx
      simp only [gives] at hg
      split at hg
      · split at hg
        · rename_i y s2 hgr
          split at hg
          · rename_i ys2 s3 hgs
            simp only [Option.some.injEq, Prod.mk.injEq] at hg
            obtain ⟨rfl, rfl⟩ := hg
            obtain ⟨F1, H1, q1, q2, q3, q4⟩ := od_grab' P h hok hx hgr
            have b1 := od_grab_bx hgr g.ba
            obtain ⟨F2, Fs, r1, r2, r3, b2, r4, r5, r6, r7⟩ := ih hxs q1 hgs
            obtain ⟨q5, q6⟩ := q3.grabbed b2.2 r3
            have hcx : cx fc s3 a w g = cx fc s2 a w { g with F := F1 } := by simp only [cx]; rw [b2.1]
            refine ⟨F2, H1 :: Fs, r1, ?_, ⟨fun q b hb => q4.1 q b (r3.1 q b hb), fun b hb => ?_⟩, ⟨b2.1.trans b1.1, fun n => (b2.2 n).trans (b1.2 n)⟩, by simp [r4], by simp [r5], .cons (fun G hG b hb hb' => q6 b hb (List.mem_flatten.2 ⟨G, hG, hb'⟩)) r6, fun k y' hk => ?_⟩
            · rw [List.flatten_cons]
              exact ⟨fun q b hb => (List.mem_append.1 hb).elim (q5.disj q b) (r2.disj q b), fun n cs ad hn ha hb => (List.mem_append.1 hb).elim (q5.sep n cs ad hn ha) (r2.sep n cs ad hn ha), fun b hb => (List.mem_append.1 hb).elim (q5.free b) (r2.free b)⟩
            · rw [List.flatten_cons] at hb
              rcases List.mem_append.1 hb with hb | hb
              · exact q4.2 b hb
              · obtain ⟨q, hq⟩ := r3.2 b hb
                exact ⟨q, q4.1 q b hq⟩
            · cases k with
              | zero => simp at hk; subst hk; exact ⟨H1, x, rfl, rfl, by simp only; rw [hcx]; exact q2⟩
              | succ k => exact r7 k y' hk
          · cases hg
        · cases hg
      · split at hg
        · rename_i ys2 s3 hgs
          simp only [Option.some.injEq, Prod.mk.injEq] at hg
          obtain ⟨rfl, rfl⟩ := hg
          obtain ⟨F2, Fs, r1, r2, r3, b2, r4, r5, r6, r7⟩ := ih hxs h hgs
          refine ⟨F2, [] :: Fs, r1, by simpa using r2, ⟨r3.1, fun b hb => r3.2 b (by simpa using hb)⟩, b2, by simp [r4], by simp [r5], .cons (fun G hG b hb => (List.not_mem_nil hb).elim) r6, fun k y' hk => ?_⟩
          cases k with
          | zero => simp at hk; subst hk; exact ⟨[], x, rfl, rfl, rfl⟩
          | succ k => simpa using r7 k y' (by simpa using hk)
        · cases hg
theorem boxPA_inv {x : AV} {p : PA} (h : boxPA x = some p) : ∃ n, x = .ptr ⟨.box n 0, []⟩ ∧ p = .box n := by
  unfold boxPA at h
  split at h
  · injection h with h; exact ⟨_, rfl, h.symm⟩
  · cases h
theorem box_val {X : Cx} {n : Nat} {v : Value} {F : List Nat} (h : Rel (cx fc s a w g) true (.ptr ⟨.box n 0, []⟩) v F) : ∃ ad, g.ba n = some ad ∧ v = .pointer (some ad) := by
  obtain ⟨ad, e, h3, _⟩ := ptr_inv h
  simp only [cx, resOf, Option.map_eq_some_iff] at h3
  obtain ⟨ad', h4, rfl⟩ := h3
  exact ⟨ad', h4, by rw [e]; simp [Addr.add]⟩
theorem pasOf_rel (h : SR fc s a w g) (hok : fc.Ok gl) (ns : List Nat) : ∀ {xs : List Operand} {xs' : List (Od × AM)} {ys : List (Option AV)} {pas : List PA} {Fs : List (List Nat)}, All2 (fun x x' => ∃ ty, compOd P gl fc.pers ty x = some x'.1) xs xs' → Fs.length = xs.length → Fs.Pairwise Disj →
    (∀ (k : Nat) (y : Option AV), ys[k]? = some y → ∃ F x, Fs[k]? = some F ∧ xs[k]? = some x ∧ (match y with | some z => Rel (cx fc s a w g) true z (a.eval x) F | none => F = [])) → pasOf s xs' ys = some pas → (∀ n, n ∈ nsOf pas → n ∈ ns) →
    PRel (cx fc s a w g) g s ns pas (xs.map a.eval) Fs := by
  intro xs
  induction xs with
  | nil =>
    intro xs' ys pas Fs hx hl hd hy hp hn
    cases hx
    cases ys with
    | nil => simp only [pasOf, Option.some.injEq] at hp; subst hp; have : Fs = [] := List.eq_nil_of_length_eq_zero (by simpa using hl); subst this; exact .nil
    | cons y ys => simp [pasOf] at hp
  | cons x xs ih =>
    intro xs' ys pas Fs hx hl hd hy hp hn
    cases hx with
    | cons hx hxs =>
      rename_i x' xs'
      obtain ⟨x', m⟩ := x'
      obtain ⟨ty, hx⟩ := hx
      cases ys with
      | nil => simp [pasOf] at hp
      | cons y ys =>
        cases Fs with
        | nil => simp at hl
        | cons F Fs =>
          obtain ⟨F', x2, h1, h2, h3⟩ := hy 0 y rfl
          simp only [List.getElem?_cons_zero, Option.some.injEq] at h1 h2
          subst h1; subst h2
          obtain ⟨hd1, hd2⟩ := List.pairwise_cons.1 hd
          simp only [pasOf] at hp
          split at hp
          · rename_i p ps hp1 hps
            injection hp with hp; subst hp
            have rest : (∀ n, n ∈ nsOf ps → n ∈ ns) → PRel (cx fc s a w g) g s ns ps (xs.map a.eval) Fs :=
              fun hn' => ih hxs (by simpa using hl) hd2 (fun k y' hk => by simpa using hy (k + 1) y' (by simpa using hk)) hps hn'
            simp only [List.map_cons]
            cases y with
            | some z =>
              simp only [Option.some.injEq] at hp1; subst hp1
              exact .give z _ F ps _ Fs h3 (rest fun n hn' => hn n (by simpa [nsOf] using hn')) hd1
            | none =>
              simp only at h3 hp1; subst h3
              split at hp1
              · injection hp1 with hp1; subst hp1
                exact .pass _ _ ps _ Fs (pass_od h hok hx ns) (rest fun n hn' => hn n (by simpa [nsOf] using hn'))
              · obtain ⟨n, e1, rfl⟩ := boxPA_inv hp1
                obtain ⟨G, h4, _⟩ := od_val P h hok hx
                rw [e1] at h4
                obtain ⟨ad, h5, h6⟩ := box_val (X := cx fc s a w g) h4
                rw [h6]
                exact .box n ad ps _ Fs h5 (hn n (by simp [nsOf])) (rest fun n' hn' => hn n' (by simp [nsOf, hn']))
          · cases hp
theorem core_wp (h : SR fc s a w g) (hok : fc.Ok gl) (hd : dstOk fc dst) (ho : o.dst = dst.map (·.1)) (hC : Kn.Ok P gl C) {f : FuncId} {pas : List PA} {vals : Array Value} {Fs : List (List Nat)}
    (hrun : (execOp a.eval o).run P w = .ok (.enter f vals) w) (hp : PRel (cx fc s a w g) g s (nsOf pas) pas vals.toList Fs) (hH : Hand fc s g Fs.flatten) (hv : coreG C f pas s dst K) : o.wp P a w (After fc K) Q := by
  obtain ⟨hnd, hv⟩ := hv
  split at hv
  · rename_i bxs hbx
    obtain ⟨res, bxs', hc, hlen, hK⟩ := hv
    have hcall := callG_core h hok hp hH hnd hbx (hC.g _ _ _ _ _ hc) hlen
    unfold Oper.wp
    rw [hrun]
    refine Calls.mono hcall fun e w' he => ?_
    obtain ⟨v, rfl, g', H', q1, q2, q3⟩ := he
    show After fc K (a.put o.dst v) w'
    rw [ho]
    exact After.fin q1 hd q2 q3 hK
  · cases hv
theorem op_callG (h : SR fc s a w g) (hok : fc.Ok gl) (hd : dstOk fc dst) (ho : o.dst = dst.map (·.1)) {f : FuncId} {fn : Func} {args : Array Operand} {args' : List (Od × AM)} {ts : Array TypeId}
    (hop : o.op = .call { callee := .value (.func f), args := args, argTypes := ts }) (hf : P.funcs[f]? = some fn) {c : Code} (hb : fn.body = some c) (hnm : fn.name ≠ "runtime.NumGoroutine")
    (hargs : All2 (fun x x' => ∃ ty, compOd P gl fc.pers ty x = some x'.1) args.toList args') (hC : Kn.Ok P gl C) (hv : vc C dst (.callG f args') s K) : o.wp P a w (After fc K) Q := by
  simp only [vc] at hv
  split at hv
  · rename_i ys s1 hg
    split at hv
    · rename_i pas hpas
      obtain ⟨F, Fs, q1, q2, q3, b, q4, q5, q6, q7⟩ := gives_rel hok hargs h hg
      have hrun : (execOp a.eval o).run P w = .ok (.enter f (args.map a.eval)) w := by
        simp [execOp, hop, resolve, Act.eval, Deferred.ofValue, invoke, callFunc, program, Sem.run, hf, hnm, hb]
      refine core_wp q1 hok hd ho hC hrun (Fs := Fs) ?_ q2 hv
      rw [Array.toList_map]
      exact pasOf_rel q1 hok _ hargs q5 q6 (fun k y hk => q7 k y hk) hpas fun n hn => hn
    · cases hv
  · cases hv
theorem op_mkF (h : SR fc s a w g) (hok : fc.Ok gl) (hd : dstOk fc dst) (ho : o.dst = dst.map (·.1)) {f : FuncId} {caps : Array Operand} {caps' : List Od}
    (hop : o.op = .makeFunc (.func f) #[] caps) (hargs : All2 (fun x x' => ∃ ty, compOd P gl fc.pers ty x = some x') caps.toList caps') (hv : vc C dst (.mkF f caps') s K) : o.wp P a w (After fc K) Q := by
  simp only [vc] at hv
  obtain ⟨hcl', hv⟩ := hv
  have hcl : ∀ x', x' ∈ caps' → ∃ r, x'.val s = .ptr r := by
    intro x' hx'
    have := List.all_eq_true.1 hcl' x' hx'
    revert this
    cases x'.val s with
    | ptr r => intro _; exact ⟨r, rfl⟩
    | _ => intro h; cases h
  clear hcl'
  have hrun : (execOp a.eval o).run P w = .ok (.value (.func (.func f) #[] (caps.map a.eval))) w := by simp [execOp, hop, Instr.makeFunc]
  have hrel : RelL (cx fc s a w g) true (caps'.map fun x => x.val s) (caps.toList.map a.eval) [] := by
    revert hcl
    clear hrun hop hv
    generalize caps.toList = cs at hargs
    induction hargs with
    | nil => intro _; exact .nil _
    | cons hx _ ih =>
      rename_i x x' xs xs' _
      intro hcl
      obtain ⟨ty, hx⟩ := hx
      obtain ⟨F, h1, _⟩ := od_val P h hok hx
      obtain ⟨r, hr⟩ := hcl x' (List.mem_cons_self ..)
      have h1' := h1
      rw [hr] at h1'
      obtain ⟨ad, e, _, rfl⟩ := ptr_inv h1'
      exact .cons _ _ _ [] _ _ [] (by rw [e]; rfl) h1 (ih fun y hy => hcl y (List.mem_cons_of_mem _ hy)) (fun b hb => (List.not_mem_nil hb).elim)
  refine done h hd ho hrun ?_ hv
  split
  · rename_i e
    subst e
    cases hca : caps.toList with
    | nil =>
      have : caps = #[] := by cases caps; simp_all
      subst this
      have e : (#[] : Array Operand).map a.eval = #[] := by simp
      rw [e]
      exact .lit _ _ rfl
    | cons x xs => rw [hca] at hargs; cases hargs
  · have : (caps.map a.eval) = (caps.toList.map a.eval).toArray := by apply Array.ext'; rw [Array.toList_map]
    rw [this]
    exact .clo f _ _ hrel
theorem capsPA_rel {X : Cx} (ns : List Nat) : ∀ {caps : List AV} {ps : List PA} {vs : List Value} {G : List Nat}, capsPA caps = some ps → RelL (cx fc s a w g) true caps vs G → (∀ n, n ∈ nsOf ps → n ∈ ns) → ∃ Fs, PRel (cx fc s a w g) g s ns ps vs Fs ∧ Fs.flatten = [] := by
  intro caps
  induction caps with
  | nil => intro ps vs G hp hr _; simp only [capsPA, Option.some.injEq] at hp; subst hp; cases hr; exact ⟨[], .nil, rfl⟩
  | cons x xs ih =>
    intro ps vs G hp hr hn
    simp only [capsPA] at hp
    split at hp
    · rename_i p ps' h1 h2
      injection hp with hp; subst hp
      obtain ⟨n, rfl, rfl⟩ := boxPA_inv h1
      cases hr with
      | cons _ _ v F _ vs G hv hx hs hd =>
        obtain ⟨ad, h5, rfl⟩ := box_val (X := X) hx
        obtain ⟨Fs, q1, q2⟩ := ih h2 hs fun n' hn' => hn n' (by simp [nsOf, hn'])
        exact ⟨[] :: Fs, .box n ad ps' vs Fs h5 (hn n (by simp [nsOf])) q1, by simpa using q2⟩
    · cases hp
theorem PRel.passes (h : SR fc s a w g) (hok : fc.Ok gl) (ns : List Nat) {ps : List PA} {vs : List Value} {Fs : List (List Nat)} (hps : PRel (cx fc s a w g) g s ns ps vs Fs) (hFs : Fs.flatten = []) :
    ∀ {xs : List Operand} {xs' : List Od}, All2 (fun x x' => ∃ ty, compOd P gl fc.pers ty x = some x') xs xs' → ∃ Fs', PRel (cx fc s a w g) g s ns (xs'.map (fun x => PA.pass (x.val s)) ++ ps) (xs.map a.eval ++ vs) Fs' ∧ Fs'.flatten = [] := by
  intro xs xs' hx
  induction hx with
  | nil => exact ⟨Fs, hps, hFs⟩
  | cons hx _ ih =>
    obtain ⟨ty, hx⟩ := hx
    obtain ⟨Fs', q1, q2⟩ := ih
    exact ⟨[] :: Fs', .pass _ _ _ _ _ (pass_od h hok hx ns) q1, by simpa using q2⟩
theorem op_callV (h : SR fc s a w g) (hok : fc.Ok gl) (hd : dstOk fc dst) (ho : o.dst = dst.map (·.1)) {tx : Option TypeId} {x : Operand} {x' : Od} {args : Array Operand} {args' : List Od} {ts : Array TypeId}
    (hop : o.op = .call { callee := .value x, args := args, argTypes := ts }) (hcx : compOd P gl fc.pers tx x = some x')
    (hargs : All2 (fun x x' => ∃ ty, compOd P gl fc.pers ty x = some x') args.toList args') (hC : Kn.Ok P gl C) (hv : vc C dst (.callV x' args') s K) : o.wp P a w (After fc K) Q := by
  obtain ⟨F, h2, _⟩ := od_val P h hok hcx
  simp only [vc] at hv
  split at hv
  · rename_i f q1 q2 hu
    obtain ⟨hcv, res, hc, hK⟩ := hv
    obtain ⟨fn, hf, hb, hnm⟩ := hC.v f hcv
    obtain ⟨c, hb⟩ := Option.isSome_iff_exists.1 hb
    rw [hu] at h2
    have e2 := h2.lit_inv.1
    have hsc := h2.lit_inv.2.1
    have hq : q1 = #[] ∧ q2 = #[] := by
      rcases q1 with ⟨l1⟩; rcases q2 with ⟨l2⟩
      cases l1 with
      | cons x l =>
        have : scalar (.func (.func f) ⟨x :: l⟩ ⟨l2⟩) = false := rfl
        rw [this] at hsc; cases hsc
      | nil =>
        cases l2 with
        | cons x l =>
          have : scalar (.func (.func f) ⟨[]⟩ ⟨x :: l⟩) = false := rfl
          rw [this] at hsc; cases hsc
        | nil => exact ⟨rfl, rfl⟩
    obtain ⟨rfl, rfl⟩ := hq
    -- as a call of the function
    let o' : Oper := { o with op := .call { callee := .value (.func f), args := args, argTypes := ts } }
    have hsame : (execOp a.eval o).run P w = (execOp a.eval o').run P w := by
      simp only [execOp, hop, o', resolve, e2]
      rfl
    have := op_call (o := o') (Q := Q) h hok hd ho rfl hf hb hnm hargs hC (K := K) (C := C) (by simp only [vc]; exact ⟨res, hc, hK⟩)
    unfold Oper.wp at this ⊢
    rw [hsame]
    exact this
  · rename_i f caps hu
    obtain ⟨hcv, hv⟩ := hv
    obtain ⟨fn, hf, hb, hnm⟩ := hC.v f hcv
    obtain ⟨c, hb⟩ := Option.isSome_iff_exists.1 hb
    split at hv
    · rename_i ps hps
      rw [hu] at h2
      generalize hcv : a.eval x = cv at h2
      cases h2 with
      | clo _ _ vs hcl =>
        have hrun : (execOp a.eval o).run P w = .ok (.enter f (args.map a.eval ++ vs.toArray)) w := by
          simp [execOp, hop, resolve, hcv, Deferred.ofValue, invoke, callFunc, program, Sem.run, hf, hnm, hb]
        obtain ⟨Fs, p1, p2⟩ := capsPA_rel (X := cx fc s a w g) (nsOf (args'.map (fun x => PA.pass (x.val s)) ++ ps)) hps hcl (fun n hn => by
          have : ∀ l : List Od, nsOf (l.map (fun x => PA.pass (x.val s)) ++ ps) = nsOf ps := by
            intro l; induction l with
            | nil => rfl
            | cons y l ih => simpa [nsOf] using ih
          rw [this]; exact hn)
        obtain ⟨Fs', p3, p4⟩ := PRel.passes h hok _ p1 p2 hargs
        refine core_wp h hok hd ho hC hrun (Fs := Fs') ?_ (by rw [p4]; exact .nil _ _ _) hv
        rw [Array.toList_append, Array.toList_map]
        exact p3
    · cases hv
  · cases hv
end
end Go.Ev
namespace Go.Ev
set_option linter.unusedVariables false
section
variable {P : Program} {fc : Fc} {s : St} {a : Act} {w : World} {g : Gh} {gl : Tabs} {o : Oper} {Q : Exit → Act → World → Prop} {K : St → Prop} {dst : Option (Nat × Bool)} {C : Kn}
theorem zf_st (h : SR fc s a w g) {b i : Nat} (h1 : fc.zf b i) : (cx fc s a w g).st b i :=
  ⟨fun m hm => (by have := h.zfd b i h1; simp only [cx] at hm; rw [this] at hm; cases hm), h.zfb b i h1, .inr (.inl h1)⟩
theorem slice_look (h : SR fc s a w g) {t : Bool} {fl : Fl} {es : Nat} {xs : List AV} {c : Value} {F : List Nat} (hr : Rel (cx fc s a w g) t (.sl fl es xs) c F) (hF : ∀ b, b ∈ F → ∀ i, ¬ (cx fc s a w g).bxc b i) :
    (xs = [] ∧ ∃ A, c = .slice A 0 0) ∨ ∃ ad cap vs, c = .slice (some ad) xs.length cap ∧ xs.length ≤ cap ∧ (∀ x, x ∈ xs → (cellsOf x).length = es) ∧
      (∀ k v, vs[k]? = some v → w.cell? (ad.add k) = some v ∧ (cx fc s a w g).sees .ro ad.block (ad.off + k) ∧ (fl = .frn → (cx fc s a w g).sees .frn ad.block (ad.off + k))) ∧
      RelL (cx fc s a w g) false (flat (xs.map roD)) vs [] ∧ (fl = .frn → RelL (cx fc s a w g) false (flat xs) vs []) := by
  cases hr with
  | nil _ _ _ A => exact .inl ⟨rfl, A, rfl⟩
  | own _ _ b o cap _ arr e fr vs F hh hfr hs hn hu hr hc hb hbd hzf =>
    refine .inr ⟨⟨b, o, none⟩, cap, vs, rfl, hn, hu, fun k v hk => ?_, ?_, fun e => by cases e⟩
    · have hl := hc.length
      rw [flat_length hu] at hl
      have hkl := (List.getElem?_eq_some_iff.1 hk).1
      refine ⟨?_, ?_, fun e => by cases e⟩
      · rw [Addr.add_spot rfl]; simp only [cx] at hh; simp only [World.cell?, hh]; simpa using hr k v hk
      · simp only [Cx.sees]
        rw [if_neg (by decide)]
        exact ⟨fun m hm => by rw [hbd] at hm; injection hm with hm; omega, hF b (List.mem_cons_self ..) _, .inr (.inr (by rw [hbd]; rfl))⟩
    · rw [flat_roD, ← roL_eq]; exact hc.ro fun c hc => hF c (List.mem_cons_of_mem _ hc)
  | imm _ _ _ ad cap _ vs hfl hn hu hr hc =>
    refine .inr ⟨ad, cap, vs, rfl, hn, hu, fun k v hk => ?_, ?_, fun _ => hc⟩
    · obtain ⟨h1, h2⟩ := hr k v hk
      refine ⟨h1, ?_, fun e => by subst e; exact h2⟩
      simp only [Cx.sees] at h2 ⊢
      rw [if_neg (by decide)]
      split at h2
      · exact zf_st h h2
      · exact h2
    · rw [flat_roD, ← roL_eq]; exact hc.ro fun b hb => (List.not_mem_nil hb).elim
theorem flat_sub {xs : List AV} {es l h : Nat} {X : Cx} {vs : List Value} (hu : ∀ x, x ∈ xs → (cellsOf x).length = es) (hl : l ≤ h) (hh : h ≤ xs.length) (hr : RelL X false (flat xs) vs []) :
    RelL X false (flat ((xs.take h).drop l)) ((vs.take (h * es)).drop (l * es)) [] := by
  have e : xs = xs.take l ++ ((xs.take h).drop l ++ xs.drop h) := by
    have h1 : xs = xs.take h ++ xs.drop h := (List.take_append_drop ..).symm
    have h2 : xs.take h = (xs.take h).take l ++ (xs.take h).drop l := (List.take_append_drop ..).symm
    rw [← List.append_assoc]
    rw [show xs.take l = (xs.take h).take l by rw [List.take_take, Nat.min_eq_left hl], List.take_append_drop, List.take_append_drop]
  have hr0 := hr
  rw [e, flat_append, flat_append] at hr
  obtain ⟨v1, v', F1, F', hv, hFF, r1, r', _⟩ := hr.split
  obtain ⟨v2, v3, F2, F3, hv', hFF', r2, r3, _⟩ := r'.split
  obtain ⟨_, e2⟩ := List.append_eq_nil_iff.1 hFF.symm
  rw [e2] at hFF'
  obtain ⟨e3, _⟩ := List.append_eq_nil_iff.1 hFF'.symm
  subst e3
  have l1 := r1.length; have l2 := r2.length
  rw [flat_length (fun z hz => hu z (List.mem_of_mem_take hz)), List.length_take, Nat.min_eq_left (by omega)] at l1
  rw [flat_length (fun z hz => hu z (List.mem_of_mem_take (List.mem_of_mem_drop hz))), List.length_drop, List.length_take, Nat.min_eq_left hh] at l2
  have hmul : l * es + (h - l) * es = h * es := by rw [← Nat.add_mul, Nat.add_sub_cancel' hl]
  have : (vs.take (h * es)).drop (l * es) = v2 := by
    rw [hv, hv', ← List.append_assoc, List.take_append_of_le_length (by rw [List.length_append]; omega), List.take_of_length_le (by rw [List.length_append]; omega), List.drop_append, List.drop_of_length_le (by omega), List.nil_append, show l * es - v1.length = 0 by omega, List.drop_zero]
  rw [this]; exact r2
theorem op_slcT (h : SR fc s a w g) (hok : fc.Ok gl) (hd : dstOk fc dst) (ho : o.dst = dst.map (·.1)) {tx tz : Option TypeId} {x z : Operand} {x' z' : Od} {t e : TypeId} {i : TypeInfo} {C : Kn} (hop : o.op = .slice t x none (some z) none)
    (ht : P.underlying t = some (.slice e)) (hinf : P.info? e = some i) (hcx : compOd P gl fc.pers tx x = some x') (hcz : compOd P gl fc.pers tz z = some z')
    (hv : vc C dst (.slcT i.size x' z') s K) : o.wp P a w (After fc K) Q := by
  simp only [vc] at hv
  split at hv
  · rename_i kk n es' xs s1 hz' hg
    obtain ⟨rfl, h0, h1, hK⟩ := hv
    obtain ⟨_, hzr, _⟩ := od_val P h hok hcz
    rw [hz'] at hzr
    have hze := hzr.lit_inv.1
    obtain ⟨F, H, q1, q2, q3⟩ := od_grab P h hok hcx hg
    obtain ⟨nn, rfl⟩ : ∃ nn : Nat, n = nn := ⟨n.toNat, by omega⟩
    have h1 : nn ≤ xs.length := by omega
    simp only [Int.toNat_natCast] at hK
    have hrun : ∀ A cap, a.eval x = .slice A xs.length cap → xs.length ≤ cap → (execOp a.eval o).run P w = .ok (.value (.slice (if cap = 0 then A else A.map (·.add 0)) nn cap)) w := by
      intro A cap hA hcap
      have h7 : (0 : Int) ≤ ((nn : Nat) : Int) := by omega
      have h8 : ((nn : Nat) : Int) ≤ ((cap : Nat) : Int) := by omega
      simp [execOp, hop, hA, hze, Instr.sliceAt, Instr.slice, Instr.sliceBounds, run_underlying ht, run_sliceBound _ h7 h8, run_sizeOf' hinf]
    generalize hcv : a.eval x = cv at q2
    cases q2 with
    | nil _ _ _ A =>
      have hn0 : nn = 0 := by simpa using h1
      subst hn0
      have := hrun A 0 hcv (Nat.le_refl _)
      simp only [if_true] at this
      have q1' := q1.kill viaDeep true
      exact wp_value this (by rw [ho]; exact After.fin q1' hd (v := .sl .own i.size (klL viaDeep true (([] : List AV).take 0))) (.nil _ _ _ A) (.nil _ _ _) hK)
    | own _ _ b oo cap _ arr ee fr vs F1 hh hfr hs hn hu hr hc hb hbd hzf =>
      have hrun := hrun (some ⟨b, oo, none⟩) cap hcv hn
      have hA : (if cap = 0 then some (⟨b, oo, none⟩ : Addr) else (some (⟨b, oo, none⟩ : Addr)).map (·.add 0)) = some ⟨b, oo, none⟩ := by
        split
        · rfl
        · simp [Addr.add]
      rw [hA] at hrun
      obtain ⟨r1, r2⟩ := q1.shrink (m1 := oo + nn * i.size) q3 (List.mem_cons_self ..) hzf hbd
      have hfl : flat (xs.take nn) = (flat xs).take (nn * i.size) := by
        have h2 := flat_append (xs.take nn) (xs.drop nn)
        rw [List.take_append_drop] at h2
        have h3 : (flat (xs.take nn)).length = nn * i.size := by rw [flat_length (fun y hy => hu y (List.mem_of_mem_take hy)), List.length_take, Nat.min_eq_left h1]
        rw [h2, List.take_append_of_le_length (by omega), List.take_of_length_le (l := flat (xs.take nn)) (by omega)]
      obtain ⟨_, H1, _, m2, _, m4, _⟩ := RelL.mix 0 (nn * i.size) (fun c hc' j => q3.noBox (List.mem_cons_of_mem _ hc') j) hc
      rw [List.drop_zero, List.drop_zero, ← hfl] at m2
      have hnb : b ∉ H1 := fun hc' => hb (m4 b hc')
      have m3 := m2.kl r2 (fun c hc' hcb => hnb (hcb ▸ hc'))
      have hkl : ∀ c, c ∈ H1 → c ∈ b :: F1 := fun c hc' => List.mem_cons_of_mem _ (m4 c hc')
      have hH : Hand fc (s1.kl viaDeep true) { g with F := F, bd := upd g.bd b (some (oo + nn * i.size)) } (b :: H1) := by
        have hk := q3.kl viaDeep true
        refine ⟨fun q c hc' => hk.disj q c ?_, fun n' cs ad hn' ha hc' => hk.sep n' cs ad hn' ha ?_, fun c hc' => hk.free c ?_⟩
        all_goals (rcases List.mem_cons.1 hc' with rfl | hc'; exact List.mem_cons_self ..; exact hkl _ hc')
      have hl' : (klL viaDeep true (xs.take nn)).length = nn := by rw [klL_eq, List.length_map, List.length_take, Nat.min_eq_left h1]
      have hu' : ∀ y, y ∈ klL viaDeep true (xs.take nn) → (cellsOf y).length = i.size := by
        intro y hy
        rw [klL_eq] at hy
        obtain ⟨y0, hy0, rfl⟩ := List.mem_map.1 hy
        rw [cellsOf_kl, List.length_map]; exact hu y0 (List.mem_of_mem_take hy0)
      have hfk : flat (klL viaDeep true (xs.take nn)) = klL viaDeep true (flat (xs.take nn)) := by rw [klL_eq, klL_eq, flat_kl]
      have hfin := Rel.own (X := cx fc (s1.kl viaDeep true) a w { g with F := F, bd := upd g.bd b (some (oo + nn * i.size)) }) true (klL viaDeep true (xs.take nn)) b oo cap i.size arr ee fr (vs.take (nn * i.size)) H1 hh hfr hs (by omega) hu'
        (fun k v hk => by
          rw [List.getElem?_take] at hk
          split at hk
          · exact hr k v hk
          · cases hk) (by rw [hfk]; exact m3) hnb (by rw [hl']; simp only [cx, upd_same]) hzf
      rw [hl'] at hfin
      exact wp_value hrun (by rw [ho]; exact After.fin r1 hd (v := .sl .own i.size (klL viaDeep true (xs.take nn))) hfin hH hK)
    | imm _ _ _ ad cap _ vs hfl => exact absurd rfl hfl
  · cases hv
theorem op_slc (h : SR fc s a w g) (hok : fc.Ok gl) (hd : dstOk fc dst) (ho : o.dst = dst.map (·.1)) {tx ty tz : Option TypeId} {x : Operand} {lo hi : Option Operand} {x' : Od} {lo' hi' : Option Od} {t e : TypeId} {i : TypeInfo} (hop : o.op = .slice t x lo hi none)
    (ht : P.underlying t = some (.slice e)) (hinf : P.info? e = some i) (hcx : compOd P gl fc.pers tx x = some x') (hlo : lo.map (compOd P gl fc.pers ty) = lo'.map some) (hhi : hi.map (compOd P gl fc.pers tz) = hi'.map some)
    (hv : vc C dst (.slc i.size x' lo' hi') s K) : o.wp P a w (After fc K) Q := by
  obtain ⟨F, h2, hFq⟩ := od_val P h hok hcx
  simp only [vc] at hv
  have hlov : ∀ v : Value, (lo'.map (·.val s)).getD (.lit (.int .i64 0)) = .lit v → (∃ lv, lo = some lv ∧ a.eval lv = v) ∨ (lo = none ∧ v = .int .i64 0) := by
    intro v hv
    cases lo' with
    | none =>
      cases lo with
      | none => simp at hv; exact .inr ⟨rfl, hv.symm⟩
      | some lv => simp at hlo
    | some l' =>
      cases lo with
      | none => simp at hlo
      | some lv =>
        simp only [Option.map_some, Option.some.injEq] at hlo
        obtain ⟨_, h3, _⟩ := od_val P h hok hlo
        simp at hv
        rw [hv] at h3
        exact .inl ⟨lv, rfl, h3.lit_inv.1⟩
  -- the slice, and its part from l to hh
  have main : ∀ (es : Nat) (xs : List AV) (k : IntKind) (l : Int) (hh : Nat), content s (x'.val s) = some (es, xs) → es = i.size → (lo'.map (·.val s)).getD (.lit (.int .i64 0)) = .lit (.int k l) → 0 ≤ l → l ≤ hh → hh ≤ xs.length →
      ((hi = none ∧ hh = xs.length) ∨ ∃ z kk, hi = some z ∧ a.eval z = .int kk hh) →
      K (fin dst s (.sl (match x'.val s with | .sl .frn _ _ => .frn | _ => .ro) es (match x'.val s with | .sl .frn _ _ => (xs.take hh).drop l.toNat | _ => ((xs.take hh).drop l.toNat).map roD))) → o.wp P a w (After fc K) Q := by
    intro es xs k l hh hcn hese hl h0 h1 h3 hhi' hK
    obtain ⟨t', fl, F', h4, h5⟩ := content_rel h h2 hcn
    have hbx : ∀ b, b ∈ F' → ∀ i, ¬ (cx fc s a w g).bxc b i := by
      intro b hb i
      rcases h5 with ⟨q, hq⟩ | rfl
      · exact h.noBox (hq b hb) i
      · obtain ⟨q, hq⟩ := hFq b hb; exact h.noBox hq i
    have hrun : ∀ A cap, a.eval x = .slice A xs.length cap → xs.length ≤ cap →
        (execOp a.eval o).run P w = .ok (.value (.slice (if cap = l.toNat then A else A.map (·.add (l.toNat * i.size))) (hh - l.toNat) (cap - l.toNat))) w := by
      intro A cap hA hcap
      have h6 : l ≤ ((hh : Nat) : Int) := h1
      rcases hlov _ hl with ⟨lv, e3, e4⟩ | ⟨e3, e4⟩
      · rcases hhi' with ⟨rfl, rfl⟩ | ⟨z, kk, rfl, e6⟩
        · simp [execOp, hop, hA, e3, e4, Instr.sliceAt, Instr.slice, Instr.sliceBounds, run_underlying ht, run_sliceBound _ h0 h6, run_sizeOf' hinf]
        · have h7 : (0 : Int) ≤ ((hh : Nat) : Int) := by omega
          have h8 : ((hh : Nat) : Int) ≤ ((cap : Nat) : Int) := by omega
          simp [execOp, hop, hA, e3, e4, e6, Instr.sliceAt, Instr.slice, Instr.sliceBounds, run_underlying ht, run_sliceBound _ h0 h6, run_sliceBound _ h7 h8, run_sizeOf' hinf]
      · injection e4 with _ e4; subst e4
        rcases hhi' with ⟨rfl, rfl⟩ | ⟨z, kk, rfl, e6⟩
        · simp [execOp, hop, hA, e3, Instr.sliceAt, Instr.slice, Instr.sliceBounds, run_underlying ht, run_sizeOf' hinf]
        · have h7 : (0 : Int) ≤ ((hh : Nat) : Int) := by omega
          have h8 : ((hh : Nat) : Int) ≤ ((cap : Nat) : Int) := by omega
          simp [execOp, hop, hA, e3, e6, Instr.sliceAt, Instr.slice, Instr.sliceBounds, run_underlying ht, run_sliceBound _ h7 h8, run_sizeOf' hinf]
    rcases slice_look h h4 hbx with ⟨rfl, A, hA⟩ | ⟨ad, cap, vs, hA, hcap, hu, hrd, hro, hfrn⟩
    · have hl0 : l.toNat = 0 := by simp at h3; omega
      have hh0 : hh = 0 := by simp at h3; omega
      subst hh0
      have := hrun A 0 hA (by simp)
      rw [hl0] at this hK
      simp only [if_true] at this
      refine done h hd ho this ?_ hK
      have : (match x'.val s with | .sl .frn _ _ => (([] : List AV).take 0).drop 0 | _ => ((([] : List AV).take 0).drop 0).map roD) = [] := by split <;> rfl
      rw [this]
      exact .nil _ _ _ _
    · have hvl := hro.length
      rw [flat_length (es := es) (by intro z hz; obtain ⟨y, hy, rfl⟩ := List.mem_map.1 hz; rw [cellsOf_roD, List.length_map]; exact hu y hy), List.length_map] at hvl
      have hln : l.toNat ≤ hh := by omega
      have hlenout : ∀ ys : List AV, ys.length = xs.length → ((ys.take hh).drop l.toNat).length = hh - l.toNat := by intro ys hy; rw [List.length_drop, List.length_take, hy, Nat.min_eq_left h3]
      -- where it stands
      have hrd' : ∀ (fl2 : Fl), (∀ k v, vs[k]? = some v → (cx fc s a w g).sees fl2 ad.block (ad.off + k)) → ∀ k v, ((vs.take (hh * es)).drop (l.toNat * es))[k]? = some v →
          w.cell? ((ad.add (l.toNat * es)).add k) = some v ∧ (cx fc s a w g).sees fl2 (ad.add (l.toNat * es)).block ((ad.add (l.toNat * es)).off + k) := by
        intro fl2 hs k v hk
        rw [List.getElem?_drop, List.getElem?_take] at hk
        split at hk
        · rw [Addr.add_add, Addr.add_block, Addr.add_off, Nat.add_assoc]
          exact ⟨(hrd _ v hk).1, hs _ v hk⟩
        · cases hk
      have fin2 : ∀ (fl2 : Fl) (ys : List AV), fl2 ≠ .own → ys.length = xs.length → (∀ z, z ∈ ys → (cellsOf z).length = es) → RelL (cx fc s a w g) false (flat ys) vs [] → (∀ k v, vs[k]? = some v → (cx fc s a w g).sees fl2 ad.block (ad.off + k)) →
          Rel (cx fc s a w g) true (.sl fl2 es ((ys.take hh).drop l.toNat)) (.slice (if cap = l.toNat then some ad else (some ad).map (·.add (l.toNat * i.size))) (hh - l.toNat) (cap - l.toNat)) [] := by
        intro fl2 ys hfl2 hyl hyu hyr hs
        rw [← hese]
        have hsub := flat_sub hyu hln (by omega) hyr
        have hol := hlenout ys hyl
        by_cases hc : cap = l.toNat
        · rw [if_pos hc]
          have hz : (ys.take hh).drop l.toNat = [] := List.eq_nil_of_length_eq_zero (by omega)
          rw [hz, show hh - l.toNat = ([] : List AV).length by simp; omega]
          exact .imm true fl2 [] ad _ es [] hfl2 (by simp) (by simp) (by simp) (.nil _)
        · rw [if_neg hc, ← hol]
          exact .imm true fl2 _ (ad.add (l.toNat * es)) _ es _ hfl2 (by omega) (fun z hz => hyu z (List.mem_of_mem_take (List.mem_of_mem_drop hz))) (hrd' fl2 hs) hsub
      refine done h hd ho (hrun (some ad) cap hA hcap) ?_ hK
      have roCase : Rel (cx fc s a w g) true (.sl .ro es (((xs.take hh).drop l.toNat).map roD)) (.slice (if cap = l.toNat then some ad else (some ad).map (·.add (l.toNat * i.size))) (hh - l.toNat) (cap - l.toNat)) [] := by
        rw [List.map_drop, List.map_take]
        exact fin2 .ro (xs.map roD) (by decide) (by simp) (by intro z hz; obtain ⟨y, hy, rfl⟩ := List.mem_map.1 hz; rw [cellsOf_roD, List.length_map]; exact hu y hy) hro (fun k v hk => (hrd k v hk).2.1)
      split
      · rename_i es0 xs0 hx0
        rw [hx0] at hcn
        simp only [content, Option.some.injEq, Prod.mk.injEq] at hcn
        obtain ⟨rfl, rfl⟩ := hcn
        -- frozen: as it is
        rw [hx0] at h2
        rcases slice_look h h2 (fun b hb i => by obtain ⟨q, hq⟩ := hFq b hb; exact h.noBox hq i) with ⟨rfl, A, hA2⟩ | ⟨ad2, cap2, vs2, hA2, hcap2, hu2, hrd2, hro2, hfrn2⟩
        · rw [hA] at hA2; injection hA2 with q1 q2 q3
          have hl0 : l.toNat = 0 := by simp at h3; omega
          have hh0 : hh = 0 := by simp at h3; omega
          subst hh0
          rw [hl0, q3]
          simp only [if_true]
          rw [q1]
          exact .nil _ _ _ _
        · rw [hA] at hA2; injection hA2 with q1 q2 q3
          injection q1 with q1
          subst q1; subst q3
          have hfr := hfrn2 rfl
          have hsub := flat_sub hu2 hln h3 hfr
          have hol := hlenout xs0 rfl
          rw [← hese]
          by_cases hc : cap = l.toNat
          · rw [if_pos hc]
            have hz : (xs0.take hh).drop l.toNat = [] := List.eq_nil_of_length_eq_zero (by omega)
            rw [hz, show hh - l.toNat = ([] : List AV).length by simp; omega]
            exact .imm true .frn [] ad _ es0 [] (by decide) (by simp) (by simp) (by simp) (.nil _)
          · rw [if_neg hc, ← hol]
            refine .imm true .frn _ (ad.add (l.toNat * es0)) _ es0 _ (by decide) (by omega) (fun z hz => hu2 z (List.mem_of_mem_take (List.mem_of_mem_drop hz))) (fun k v hk => ?_) hsub
            rw [List.getElem?_drop, List.getElem?_take] at hk
            split at hk
            · rw [Addr.add_add, Addr.add_block, Addr.add_off, Nat.add_assoc]
              exact ⟨(hrd2 _ v hk).1, (hrd2 _ v hk).2.2 rfl⟩
            · cases hk
      · exact roCase
  split at hv
  · rename_i es xs k l hcn hl hh
    obtain ⟨hese, h3, h4, hK⟩ := hv
    have hhn : hi = none := by
      cases hi' with
      | none => cases hi with | none => rfl | some z => simp at hhi
      | some z => simp at hh
    refine main es xs k l xs.length hcn hese hl h3 h4 (Nat.le_refl _) (.inl ⟨hhn, rfl⟩) ?_
    simp only [List.take_length]
    exact hK
  · rename_i es xs k l k' l' hcn hl hh
    obtain ⟨hese, h3, h4, h5, hK⟩ := hv
    have hhn : ∃ z, hi = some z ∧ a.eval z = .int k' l' := by
      cases hi' with
      | none => simp at hh
      | some z' =>
        cases hi with
        | none => simp at hhi
        | some z =>
          simp only [Option.map_some, Option.some.injEq] at hhi hh
          obtain ⟨_, h3, _⟩ := od_val P h hok hhi
          rw [hh] at h3
          exact ⟨z, rfl, h3.lit_inv.1⟩
    obtain ⟨z, e5, e6⟩ := hhn
    have hnn : ((l'.toNat : Nat) : Int) = l' := by omega
    exact main es xs k l l'.toNat hcn hese hl h3 (by omega) (by omega) (.inr ⟨z, k', e5, by rw [hnn]; exact e6⟩) hK
  · cases hv
end
end Go.Ev
namespace Go.Ev
set_option linter.unusedVariables false
theorem relL_lits {X : Cx} {t : Bool} : ∀ {us vs : List Value} {F : List Nat}, RelL X t (us.map .lit) vs F → vs = us := by
  intro us
  induction us with
  | nil => intro vs F h; cases h; rfl
  | cons u us ih =>
    intro vs F h
    simp only [List.map_cons] at h
    cases h with
    | cons _ _ v F1 _ vs F2 hv h hs hd => rw [ih hs, h.lit_inv.1]
theorem flat_lits (us : List Value) : flat (us.map .lit) = us.map .lit := by
  induction us with
  | nil => rfl
  | cons u us ih => simp only [List.map_cons, flat_cons, ih]; rfl
theorem roD_lits (us : List Value) : (us.map AV.lit).map roD = us.map .lit := by
  induction us with
  | nil => rfl
  | cons u us ih => simp only [List.map_cons, ih]; rfl
section
variable {P : Program} {fc : Fc} {s : St} {a : Act} {w : World} {g : Gh} {gl : Tabs} {o : Oper} {Q : Exit → Act → World → Prop} {K : St → Prop} {dst : Option (Nat × Bool)} {C : Kn}
theorem op_b2s (h : SR fc s a w g) (hok : fc.Ok gl) (hd : dstOk fc dst) (ho : o.dst = dst.map (·.1)) {tx : Option TypeId} {x : Operand} {x' : Od} {t t' e : TypeId} (hop : o.op = .convert t t' x)
    (ht : P.underlying t = some (.slice e)) (he : P.underlying e = some (.int .u8)) (ht' : P.underlying t' = some .string) (hcx : compOd P gl fc.pers tx x = some x') (hv : vc C dst (.b2s x') s K) : o.wp P a w (After fc K) Q := by
  obtain ⟨F, h2, hFq⟩ := od_val P h hok hcx
  simp only [vc] at hv
  split at hv
  · rename_i es xs hcn
    obtain ⟨rfl, b, rfl, hK⟩ := hv
    obtain ⟨tb, fl, F', h4, h5⟩ := content_rel h h2 hcn
    have hbx : ∀ b, b ∈ F' → ∀ i, ¬ (cx fc s a w g).bxc b i := by
      intro b hb i
      rcases h5 with ⟨q, hq⟩ | rfl
      · exact h.noBox (hq b hb) i
      · obtain ⟨q, hq⟩ := hFq b hb; exact h.noBox hq i
    refine done h hd ho (c := .string b) ?_ (.lit _ _ rfl) hK
    have em : (b.data.toList.map fun c => AV.lit (.int .u8 c.toNat)) = (b.data.toList.map fun c => Value.int .u8 c.toNat).map .lit := by simp
    rw [em] at h4
    have hrun : (convert t t' (a.eval x)).run P w = .ok (.string b) w := by
      rcases slice_look h h4 hbx with ⟨hnil, A, hA⟩ | ⟨ad, cap, vs, hA, hcap, hu, hrd, hro, _⟩
      · have hb0 : b = ⟨#[]⟩ := by
          cases b with | mk data => congr 1; apply Array.ext'; simpa using hnil
        subst hb0
        rw [hA]
        cases A with
        | none => exact run_convert_bytes_nil w t e ht he _ _ _ ht'
        | some ad =>
          have := run_convert_bytes_back w t t' e ad 0 [] ht he ht' (fun j hj => by simp at hj)
          simpa using this
      · rw [roD_lits, flat_lits] at hro
        have := relL_lits hro
        subst this
        rw [hA]
        have := run_convert_bytes_back w t t' e ad cap b.data.toList ht he ht' (fun j hj => (hrd j _ (by simp [List.getElem?_map, List.getElem?_eq_getElem hj])).1)
        simpa using this
    simp [execOp, hop, hrun]
  · cases hv
theorem SR.newRowF (h : SR fc s a w g) {es : Nat} {xs : List AV} {vs rest : List Value} {F : List Nat} {cap : Nat} (e : TypeId) (fr : Nat × Nat) (hfr : ∀ i, i < vs.length + rest.length → (fr.1 ≤ i && i < fr.2) = false) (hu : ∀ x, x ∈ xs → (cellsOf x).length = es)
    (hc : RelL (cx fc s a w g) false (flat xs) vs F) (hF : Hand fc s g F) (hl : vs.length + rest.length = cap * es) (hn : xs.length ≤ cap) :
    ∃ g', SR fc s a (w.alloc (.cells (vs ++ rest).toArray e fr)) g' ∧ Rel (cx fc s a (w.alloc (.cells (vs ++ rest).toArray e fr)) g') true (.sl .own es xs) (.slice (some ⟨w.heap.size, 0, none⟩) xs.length cap) (w.heap.size :: F) ∧
      Hand fc s g' (w.heap.size :: F) ∧ g'.F = g.F ∧ g'.ba = g.ba := by
  obtain ⟨n1, n2, n3, n4⟩ := h.next
  refine ⟨_, h.alloc (vs ++ rest).toArray e fr (some (0 + xs.length * es)), ?_, ⟨fun q b hb hb' => ?_, fun n cs ad hn ha hb => ?_, fun b hb => ?_⟩, rfl, rfl⟩
  · refine .own true xs w.heap.size 0 cap es (vs ++ rest).toArray e fr vs F (by simp only [cx]; rw [heap_alloc, if_pos rfl]) (fun i hi => hfr i (by simpa using hi)) (by simp; omega) hn hu (fun k v hk => ?_) (hc.alloc h _ e fr _) (fun hb => ?_) (by simp [cx, upd_same]) n3
    · have hkl := (List.getElem?_eq_some_iff.1 hk).1
      simp only [Nat.zero_add, List.getElem?_toArray, List.getElem?_append_left hkl]; exact hk
    · have := hc.lt _ hb; simp [cx] at this
  · rcases List.mem_cons.1 hb with rfl | hb
    · exact n1 q hb'
    · exact hF.disj q b hb hb'
  · rcases List.mem_cons.1 hb with hb | hb
    · exact n2 ad.off (by
        obtain ⟨ad', vs', h2, h3, h4⟩ := h.boxes n cs hn
        rw [ha] at h2; injection h2 with h2; subst h2
        have := h3.lt; omega)
    · exact hF.sep n cs ad hn ha hb
  · rcases List.mem_cons.1 hb with rfl | hb
    · exact n4
    · exact hF.free b hb
theorem op_s2b (h : SR fc s a w g) (hok : fc.Ok gl) (hd : dstOk fc dst) (ho : o.dst = dst.map (·.1)) {tx : Option TypeId} {x : Operand} {x' : Od} {t t' e : TypeId} (hop : o.op = .convert t t' x)
    (ht : P.underlying t = some .string) (ht' : P.underlying t' = some (.slice e)) (he : P.underlying e = some (.int .u8)) (hcx : compOd P gl fc.pers tx x = some x') (hv : vc C dst (.s2b x') s K) : o.wp P a w (After fc K) Q := by
  obtain ⟨F, h2, hFq⟩ := od_val P h hok hcx
  simp only [vc] at hv
  split at hv
  · rename_i b hb
    rw [hb] at h2
    have e2 := h2.lit_inv.1
    have hrun : (execOp a.eval o).run P w = .ok (.value (.slice (some ⟨w.heap.size, 0, none⟩) b.size (grownCap w b.size 0 e))) (w.drew.alloc (.cells (bytesRow b (grownCap w b.size 0 e)) e ((bytesRow b (grownCap w b.size 0 e)).size, (bytesRow b (grownCap w b.size 0 e)).size + 1))) := by
      simp [execOp, hop, e2, run_bytes_of_string w t t' e b ht ht' he]
    have hge := grownCap_ge w b.size 0 e
    have h' : SR fc s a w.drew g := h.heap rfl rfl rfl rfl
    let us := b.data.toList.map fun c => Value.int .u8 c.toNat
    have hus : us.length = b.size := by simp only [us, List.length_map]; exact Array.length_toList
    have hx : (b.data.toList.map fun c => AV.lit (.int .u8 c.toNat)) = us.map .lit := by simp [us]
    have hrel : RelL (cx fc s a w.drew g) false (flat (us.map .lit)) us [] := by
      rw [flat_lits]
      exact lits_rel us fun v hv => by simp only [us, List.mem_map] at hv; obtain ⟨c, _, rfl⟩ := hv; exact ⟨rfl, rfl⟩
    let rest := List.replicate (grownCap w b.size 0 e - b.size) (Value.int .u8 0)
    have hrow : bytesRow b (grownCap w b.size 0 e) = (us ++ rest).toArray := by
      apply Array.ext'
      simp [bytesRow, us, rest]
    have hsz : (bytesRow b (grownCap w b.size 0 e)).size = us.length + rest.length := by rw [hrow]; simp
    obtain ⟨g', n1, n2, n3, _, _⟩ := h'.newRowF (es := 1) (xs := us.map .lit) (vs := us) (rest := rest) (cap := grownCap w b.size 0 e) e ((bytesRow b (grownCap w b.size 0 e)).size, (bytesRow b (grownCap w b.size 0 e)).size + 1)
      (fun i hi => by rw [hsz]; generalize us.length + rest.length = N at hi; have : ¬ N ≤ i := by omega
                      simp [this]) (by intro z hz; obtain ⟨v, _, rfl⟩ := List.mem_map.1 hz; rfl) hrel (.nil _ _ _) (by rw [hus]; simp [rest]; omega) (by rw [List.length_map, hus]; exact hge)
    rw [← hrow, List.length_map, hus] at n2
    rw [← hrow] at n1
    refine wp_value hrun ?_
    rw [ho]
    rw [hx] at hv
    exact After.fin n1 hd n2 n3 hv
  · cases hv
theorem madeCells_eq (z : Array Value) (n : Nat) : (madeCells z (n * z.size)).toList = (List.replicate n z.toList).flatten := by
  simp only [madeCells, Array.toList_map, Array.toList_range]
  induction n with
  | zero => simp
  | succ n ih =>
    rw [List.replicate_succ', List.flatten_append, ← ih, Nat.add_mul, Nat.one_mul, List.range_add, List.map_append]
    congr 1
    simp only [List.flatten_cons, List.flatten_nil, List.append_nil, List.map_map]
    apply List.ext_getElem
    · simp
    · intro k h1 h2
      simp only [List.getElem_map, List.getElem_range, Function.comp, Array.getElem_toList]
      have hk : k < z.size := by simpa using h2
      rw [Nat.mul_comm, Nat.mul_add_mod, Nat.mod_eq_of_lt hk]
      simp [hk]
theorem elt_cells {X : Cx} {t : Bool} {es : Nat} {cs : List AV} {vs : List Value} {F : List Nat} (hr : RelL X t cs vs F) (hl : cs.length = es) : cellsOf (elt es cs) = cs := by
  unfold elt
  by_cases he : es = 1
  · rw [if_pos he]
    subst he
    cases cs with
    | nil => simp at hl
    | cons c cs =>
      have : cs = [] := List.eq_nil_of_length_eq_zero (by simpa using hl)
      subst this
      cases hr with
      | cons _ _ v F₁ _ vs F₂ hv hr hs hd => simpa using hr.one hv
  · rw [if_neg he]
    simp only [cellsOf]
    rw [List.take_of_length_le (by omega)]
theorem RelL.repl {X : Cx} {t : Bool} {cs : List AV} {vs : List Value} (h : RelL X t cs vs []) : ∀ n, RelL X t (List.replicate n cs).flatten (List.replicate n vs).flatten [] := by
  intro n
  induction n with
  | zero => exact .nil _
  | succ n ih => simp only [List.replicate_succ, List.flatten_cons]; exact h.append ih (fun b hb => (List.not_mem_nil hb).elim)
theorem flat_repl {y : AV} (n : Nat) : flat (List.replicate n y) = (List.replicate n (cellsOf y)).flatten := by
  induction n with
  | zero => rfl
  | succ n ih => simp only [List.replicate_succ, flat_cons, List.flatten_cons, ih]
theorem op_mkS (h : SR fc s a w g) (hok : fc.Ok gl) (hd : dstOk fc dst) (ho : o.dst = dst.map (·.1)) {tx ty : Option TypeId} {x y : Operand} {x' y' : Od} {t e : TypeId} {i : TypeInfo} {z : Value} {zx : AV} (hop : o.op = .makeSlice t x y)
    (ht : P.underlying t = some (.slice e)) (hi : P.info? e = some i) (hz : i.zero = some z) (hzs : z.cells.size = i.size) (hf : flatV z = true) (hx : avOf P (some e) z = some zx) (hokx : okCells zx = true) (hpl : (cellsOf zx).all plainC = true)
    (hcx : compOd P gl fc.pers tx x = some x') (hcy : compOd P gl fc.pers ty y = some y') (hv : vc C dst (.mkS i.size i.bytes (cellsOf zx) x' y') s K) : o.wp P a w (After fc K) Q := by
  obtain ⟨_, h2, _⟩ := od_val P h hok hcx
  obtain ⟨_, h3, _⟩ := od_val P h hok hcy
  simp only [vc] at hv
  split at hv
  · rename_i kl l kc c hu hu'
    rw [hu] at h2; rw [hu'] at h3
    have e2 := h2.lit_inv.1
    have e3 := h3.lit_inv.1
    obtain ⟨h0, hlc, hb, hc63, hK⟩ := hv
    have hrun0 := run_make w t e i z ht hi hz kl kc l c h0 hlc (by omega) (by omega)
    have hrun : (execOp a.eval o).run P w = .ok (.value (.slice (some ⟨w.heap.size, 0, none⟩) l.toNat c.toNat)) (w.alloc (.cells (madeCells z.cells (c.toNat * i.size)) e)) := by
      simp [execOp, hop, e2, e3, hrun0]
    have hzr : RelL (cx fc s a w g) true (cellsOf zx) z.cells.toList [] := cells_rel hokx (avOf_rel hf hx)
    have hzl := hzr.length
    rw [Array.length_toList, hzs] at hzl
    have hzp := hzr.plain hpl
    have hel := elt_cells hzr hzl.symm
    have hrel : RelL (cx fc s a w g) false (flat (List.replicate l.toNat (elt i.size (cellsOf zx)))) (List.replicate l.toNat z.cells.toList).flatten [] := by
      rw [flat_repl, hel]; exact hzp.repl _
    have hlen : ∀ n, (List.replicate n z.cells.toList).flatten.length = n * i.size := by
      intro n
      rw [List.length_flatten, List.map_replicate, List.sum_replicate_nat, Array.length_toList, hzs]
    have hln : l.toNat + (c.toNat - l.toNat) = c.toNat := by omega
    have hrow : madeCells z.cells (c.toNat * i.size) = ((List.replicate l.toNat z.cells.toList).flatten ++ (List.replicate (c.toNat - l.toNat) z.cells.toList).flatten).toArray := by
      apply Array.ext'
      rw [← hzs, madeCells_eq, ← List.flatten_append, List.replicate_append_replicate, hln]
    obtain ⟨g', n1, n2, n3, _, _⟩ := h.newRow (es := i.size) (xs := List.replicate l.toNat (elt i.size (cellsOf zx))) (cap := c.toNat) (rest := (List.replicate (c.toNat - l.toNat) z.cells.toList).flatten) e
      (by intro y hy; rw [List.eq_of_mem_replicate hy, hel]; exact hzl.symm) hrel (.nil _ _ _) (by rw [hlen, hlen, ← Nat.add_mul, hln]) (by rw [List.length_replicate]; omega)
    rw [List.length_replicate] at n2
    rw [← hrow] at n1 n2
    exact wp_value hrun (by rw [ho]; exact After.fin n1 hd n2 n3 hK)
  · cases hv
theorem op_idxA (h : SR fc s a w g) (hok : fc.Ok gl) (hd : dstOk fc dst) (ho : o.dst = dst.map (·.1)) {tx ty : Option TypeId} {x y : Operand} {x' y' : Od} {t e : TypeId} {n : Nat} {i : TypeInfo} {d : TypeDesc} (hop : o.op = .index t x y)
    (ht : P.underlying t = some (.array n e)) (hi : P.info? e = some i) (hdd : P.underlying e = some d) (hcx : compOd P gl fc.pers tx x = some x') (hcy : compOd P gl fc.pers ty y = some y')
    (hv : vc C dst (.idxA x' y' n i.size (aggB d)) s K) : o.wp P a w (After fc K) Q := by
  obtain ⟨F, h2, hF⟩ := od_val P h hok hcx
  obtain ⟨_, h3, _⟩ := od_val P h hok hcy
  simp only [vc] at hv
  split at hv
  · rename_i cs k m hu hu'
    rw [hu] at h2; rw [hu'] at h3
    have e3 := h3.lit_inv.1
    obtain ⟨h0, hmn, hfit, hv⟩ := hv
    generalize hcv : a.eval x = cv at h2
    cases h2 with
    | agg _ _ vs _ hc =>
      have hl := hc.length
      have hbx : ∀ b, b ∈ F → ∀ i, ¬ (cx fc s a w g).bxc b i := fun b hb i => by obtain ⟨q, hq⟩ := hF b hb; exact h.noBox hq i
      have hmn' : m < (n : Int) := hmn
      split at hv
      · rename_i hagg
        have hrun : (execOp a.eval o).run P w = .ok (.value (.agg (vs.toArray.extract (m.toNat * i.size) (m.toNat * i.size + i.size)))) w := by
          simp [execOp, hop, hcv, e3, Instr.index, asIntOf, run_underlying ht, h0, hmn', part, run_isAgg' hdd, hagg, run_sizeOf' hi]
        refine done h hd ho hrun ?_ hv
        generalize m.toNat * i.size = off at *
        have hcs : cs = cs.take off ++ ((cs.drop off).take i.size ++ cs.drop (off + i.size)) := by
          rw [← List.drop_drop, List.take_append_drop, List.take_append_drop]
        rw [hcs] at hc
        obtain ⟨v1, v', F1, F', rfl, rfl, r1, r', _⟩ := hc.split
        obtain ⟨v2, v3, F2, F3, rfl, rfl, r2, r3, _⟩ := r'.split
        have l1 := r1.length; have l2 := r2.length
        simp only [List.length_take, List.length_drop] at l1 l2
        have hro := r2.ro fun b hb i => hbx b (by simp [hb]) i
        rw [roL_eq] at hro
        have := Rel.agg true _ v2 [] hro
        have hex : (v1 ++ (v2 ++ v3)).toArray.extract off (off + i.size) = v2.toArray := by
          apply Array.ext'
          rw [Array.toList_extract, List.extract_eq_take_drop, List.drop_append_of_le_length (by omega)]
          simp only [List.drop_of_length_le (show v1.length ≤ off by omega), List.nil_append]
          rw [List.take_append_of_le_length (by omega), List.take_of_length_le (by omega)]
        rw [hex]; exact this
      · rename_i hagg
        obtain ⟨y', hy, hK⟩ := hv
        obtain ⟨u, G, q3, q4, _, q5⟩ := hc.get hy
        have hrun : (execOp a.eval o).run P w = .ok (.value u) w := by
          simp [execOp, hop, hcv, e3, Instr.index, asIntOf, run_underlying ht, h0, hmn', part, run_isAgg' hdd, hagg, run_sizeOf' hi, q3]
        exact done h hd ho hrun (q4.ro fun b hb i => hbx b (q5 b hb) i) hK
  · cases hv
theorem peeks_rel (hok : fc.Ok gl) (h : SR fc s a w g) {pl : Nat → Option (Nat × Nat)} : ∀ {xs : List (Nat × Operand)} {xs' : List (Nat × Nat × Od)} {ys : List (Nat × Nat × AV)}, PC P gl fc.pers pl xs xs' → peeks s xs' = some ys →
    PR (cx fc s a w g) pl ys (xs.map fun p => (p.1, a.eval p.2)) [] := by
  intro xs
  induction xs with
  | nil => intro xs' ys hp hg; cases hp; simp only [peeks, Option.some.injEq] at hg; subst hg; exact .nil
  | cons p xs ih =>
    intro xs' ys hp hg
    cases hp with
    | cons i off n x x' ty _ xs' hpl hc hs =>
      simp only [peeks] at hg
      split at hg
      · rename_i hoc
        split at hg
        · cases hg
        · rename_i ys2 hgs
          injection hg with hg; subst hg
          have := PR.cons (pl := pl) i off n _ _ [] ys2 _ [] hpl hoc (od_peek P h hok hc) (ih hs hgs) (fun b hb => (List.not_mem_nil hb).elim)
          exact this
      · cases hg
theorem op_buildP (h : SR fc s a w g) (hok : fc.Ok gl) (hd : dstOk fc dst) (ho : o.dst = dst.map (·.1)) {t : TypeId} {i : TypeInfo} {z : Value} {x : AV} {fs : Array Field} {parts : Array (Nat × Operand)} {parts' : List (Nat × Nat × Od)} (hop : o.op = .build t parts)
    (hi : P.info? t = some i) (hz : i.zero = some z) (hf : flatV z = true) (hx : avOf P (some t) z = some x) (hokx : okCells x = true) (ht : P.underlying t = some (.struct fs)) (hfs : ∀ f, f ∈ fs.toList → ∃ i, P.info? f.type = some i)
    (hp : PC P gl fc.pers ((fs.map fun f => (f.offset, P.cellsOf f.type))[·]?) parts.toList parts') (hv : vc C dst (.buildP (cellsOf x) parts') s K) : o.wp P a w (After fc K) Q := by
  simp only [vc] at hv
  split at hv
  · rename_i ys hg
    have q2 := peeks_rel hok h hp hg
    split at hv
    · rename_i cs hpl
      have hzr : RelL (cx fc s a w g) true (cellsOf x) z.cells.toList [] := cells_rel hokx (avOf_rel hf hx)
      obtain ⟨arr, F', h3, h4, h5⟩ := fill_rel q2 hzr (fun b hb => (List.not_mem_nil hb).elim) hpl
      have hF' : F' = [] := by cases F' with | nil => rfl | cons b _ => rcases h5 b (List.mem_cons_self ..) with hb | hb <;> exact (List.not_mem_nil hb).elim
      subst hF'
      have hpm := run_places (P := P) (w := w) (fs := fs.toList) hfs
      have hrun : (execOp a.eval o).run P w = .ok (.value (.agg arr)) w := by
        have h3' : Instr.fill ((fs.map fun f => (f.offset, P.cellsOf f.type))[·]?) z.cells (parts.map fun p => (p.1, a.eval p.2)).toList = some arr := by
          rw [Array.toList_map]; simpa using h3
        have hm : (fs.mapM fun (f : Field) => do pure (f.offset, ← sizeOf f.type)).run P w = .ok (fs.map fun (f : Field) => (f.offset, P.cellsOf f.type)) w := by
          rw [Array.mapM_eq_mapM_toList, Sem.run_map, hpm]
          simp only [Result.andThen_ok]
          congr 1; apply Array.ext'; simp
        unfold execOp
        rw [hop]
        simp only [Sem.run_bind, Instr.build, zeroValue, run_typeInfo hi, Result.andThen_ok, hz, Sem.run_pure, run_underlying ht, hm]
        simp only [h3', Sem.run_pure, Result.andThen_ok]
      refine done h hd ho hrun ?_ hv
      have := Rel.agg true cs arr.toList [] h4
      exact (by simpa using this : Rel (cx fc s a w g) true (.agg cs) (.agg arr) [])
    · cases hv
  · cases hv
theorem op_buildA (h : SR fc s a w g) (hok : fc.Ok gl) (hd : dstOk fc dst) (ho : o.dst = dst.map (·.1)) {t e : TypeId} {m : Nat} {i ie : TypeInfo} {z : Value} {x : AV} {parts : Array (Nat × Operand)} {parts' : List (Nat × Nat × Od)} (hop : o.op = .build t parts)
    (hi : P.info? t = some i) (hz : i.zero = some z) (hf : flatV z = true) (hx : avOf P (some t) z = some x) (hokx : okCells x = true) (ht : P.underlying t = some (.array m e)) (he : P.info? e = some ie)
    (hp : PC P gl fc.pers (fun k => some (k * ie.size, ie.size)) parts.toList parts') (hv : vc C dst (.buildP (cellsOf x) parts') s K) : o.wp P a w (After fc K) Q := by
  simp only [vc] at hv
  split at hv
  · rename_i ys hg
    have q2 := peeks_rel hok h hp hg
    split at hv
    · rename_i cs hpl
      have hzr : RelL (cx fc s a w g) true (cellsOf x) z.cells.toList [] := cells_rel hokx (avOf_rel hf hx)
      obtain ⟨arr, F', h3, h4, h5⟩ := fill_rel q2 hzr (fun b hb => (List.not_mem_nil hb).elim) hpl
      have hF' : F' = [] := by cases F' with | nil => rfl | cons b _ => rcases h5 b (List.mem_cons_self ..) with hb | hb <;> exact (List.not_mem_nil hb).elim
      subst hF'
      have hrun : (execOp a.eval o).run P w = .ok (.value (.agg arr)) w := by
        have h3' : Instr.fill (fun k => some (k * ie.size, ie.size)) z.cells (parts.map fun p => (p.1, a.eval p.2)).toList = some arr := by
          rw [Array.toList_map]; simpa using h3
        unfold execOp
        rw [hop]
        simp only [Sem.run_bind, Instr.build, zeroValue, run_typeInfo hi, Result.andThen_ok, hz, Sem.run_pure, run_underlying ht, run_sizeOf' he]
        simp only [h3', Sem.run_pure, Result.andThen_ok]
      refine done h hd ho hrun ?_ hv
      have := Rel.agg true cs arr.toList [] h4
      exact (by simpa using this : Rel (cx fc s a w g) true (.agg cs) (.agg arr) [])
    · cases hv
  · cases hv
end
end Go.Ev

