import Derived.Test.YtccbffefdaloiaaDoorEvC
import Derived.Test.YtccbffefdaloiaaDoorProg
import Derived.KernelRfl
import Derived.Lib.ItoaNum
/- Whole numbers of 32 bits. -/
namespace Go.Ev
open Go
set_option linter.unusedVariables false
set_option linter.unusedSimpArgs false

abbrev W (x : UInt32) : AV := .lit (.int .u32 x.toNat)
def ws (l : List UInt32) : List AV := l.map W
theorem wrap_u32 (n : Int) : IntKind.u32.wrap n = n % 4294967296 := by
  unfold IntKind.wrap; simp [IntKind.bits, IntKind.signed]
theorem wrap_u8' (n : Int) : IntKind.u8.wrap n = n % 256 := by
  unfold IntKind.wrap; simp [IntKind.bits, IntKind.signed]
theorem wrap_u64' (n : Int) : IntKind.u64.wrap n = n % 18446744073709551616 := by
  unfold IntKind.wrap; simp [IntKind.bits, IntKind.signed]
theorem bits_u32 : IntKind.u32.bits = 32 := rfl
theorem bits_u64 : IntKind.u64.bits = 64 := rfl
theorem w_add (a b : UInt32) : IntKind.u32.wrap ((a.toNat : Int) + (b.toNat : Int)) = ((a + b).toNat : Int) := by
  rw [wrap_u32, UInt32.toNat_add]; omega
theorem ofInt_nat (n : Nat) (k : Nat) : BitVec.ofInt k (n : Int) = BitVec.ofNat k n := by simp
theorem bv_u32 (a : UInt32) : BitVec.ofInt 32 (a.toNat : Int) = a.toBitVec := by
  rw [ofInt_nat]; apply BitVec.eq_of_toNat_eq; rw [BitVec.toNat_ofNat]
  have := a.toNat_lt
  exact Nat.mod_eq_of_lt this
theorem w_wrap (a : UInt32) : IntKind.u32.wrap (a.toNat : Int) = (a.toNat : Int) := by
  rw [wrap_u32]; have := a.toNat_lt; omega
theorem w_xor (a b : UInt32) : IntKind.u32.wrap ((BitVec.ofInt 32 (a.toNat : Int) ^^^ BitVec.ofInt 32 (b.toNat : Int)).toNat : Int) = ((a ^^^ b).toNat : Int) := by
  rw [bv_u32, bv_u32]; exact w_wrap (a ^^^ b)
theorem w_and (a b : UInt32) : IntKind.u32.wrap ((BitVec.ofInt 32 (a.toNat : Int) &&& BitVec.ofInt 32 (b.toNat : Int)).toNat : Int) = ((a &&& b).toNat : Int) := by
  rw [bv_u32, bv_u32]; exact w_wrap (a &&& b)
theorem w_or (a b : UInt32) : IntKind.u32.wrap ((BitVec.ofInt 32 (a.toNat : Int) ||| BitVec.ofInt 32 (b.toNat : Int)).toNat : Int) = ((a ||| b).toNat : Int) := by
  rw [bv_u32, bv_u32]; exact w_wrap (a ||| b)
theorem w_andNot (a b : UInt32) : IntKind.u32.wrap ((BitVec.ofInt 32 (a.toNat : Int) &&& ~~~(BitVec.ofInt 32 (b.toNat : Int))).toNat : Int) = ((a &&& ~~~b).toNat : Int) := by
  rw [bv_u32, bv_u32]; exact w_wrap (a &&& ~~~b)
theorem w_not (a : UInt32) : IntKind.u32.wrap ((BitVec.ofInt 32 (if IntKind.u32.signed = true then -1 else IntKind.u32.max) ^^^ BitVec.ofInt 32 (a.toNat : Int)).toNat : Int) = ((~~~a).toNat : Int) := by
  rw [bv_u32]
  have : (BitVec.ofInt 32 (if IntKind.u32.signed = true then -1 else IntKind.u32.max)) = BitVec.allOnes 32 := by decide
  rw [this, BitVec.allOnes_xor]
  exact w_wrap (~~~a)
/-- shifts by a fixed number -/
theorem w_shl (a : UInt32) {k : Int} (n : Nat) (hk : k.toNat = n) (hn : n < 32) : IntKind.u32.wrap ((a.toNat : Int) * 2 ^ (min k.toNat 32)) = ((a <<< UInt32.ofNat n).toNat : Int) := by
  rw [wrap_u32, hk, Nat.min_eq_left (by omega), UInt32.toNat_shiftLeft]
  have : (UInt32.ofNat n).toNat = n := by simp; omega
  rw [this, Nat.mod_eq_of_lt hn, Nat.shiftLeft_eq]
  have h : ((a.toNat * 2 ^ n : Nat) : Int) = (a.toNat : Int) * 2 ^ n := by rw [Int.natCast_mul, Int.natCast_pow]; rfl
  rw [← h]
  exact (Int.natCast_emod _ _).symm
theorem fdiv_nat (a b : Nat) : (a : Int).fdiv (b : Int) = ((a / b : Nat) : Int) := by
  rw [Int.fdiv_eq_ediv_of_nonneg _ (Int.natCast_nonneg b)]; rfl
theorem w_shr (a : UInt32) {k : Int} (n : Nat) (hk : k.toNat = n) (hn : n < 32) : (a.toNat : Int).fdiv (2 ^ (min k.toNat 32)) = ((a >>> UInt32.ofNat n).toNat : Int) := by
  rw [hk, Nat.min_eq_left (by omega), UInt32.toNat_shiftRight]
  have : (UInt32.ofNat n).toNat = n := by simp; omega
  rw [this, Nat.mod_eq_of_lt hn, Nat.shiftRight_eq_div_pow]
  have h : ((2 ^ n : Nat) : Int) = (2 : Int) ^ n := by rw [Int.natCast_pow]; rfl
  rw [← h]
  exact fdiv_nat a.toNat (2 ^ n)
theorem w_u8 (c : UInt8) : IntKind.u32.wrap (c.toNat : Int) = (c.toUInt32.toNat : Int) := by
  rw [wrap_u32, UInt8.toNat_toUInt32]; have := c.toNat_lt; omega
theorem w_byte (a : UInt32) : IntKind.u8.wrap (a.toNat : Int) = (a.toUInt8.toNat : Int) := by
  rw [wrap_u8', UInt32.toNat_toUInt8]; rfl
/-! ### the operations, as equations -/
theorem bn_add (a : Int) (k : IntKind) (b : Int) : binVal .add (.int .i64 a) (.int k b) = .int .i64 (IntKind.i64.wrap (a + b)) := rfl
theorem bn_sub (a : Int) (k : IntKind) (b : Int) : binVal .sub (.int .i64 a) (.int k b) = .int .i64 (IntKind.i64.wrap (a - b)) := rfl
theorem bn_mul (a : Int) (k : IntKind) (b : Int) : binVal .mul (.int .i64 a) (.int k b) = .int .i64 (IntKind.i64.wrap (a * b)) := rfl
theorem bn_quo (a : Int) (k : IntKind) (b : Int) : binVal .quo (.int .i64 a) (.int k b) = .int .i64 (IntKind.i64.wrap (a.tdiv b)) := rfl
theorem bn_rem (a : Int) (k : IntKind) (b : Int) : binVal .rem (.int .i64 a) (.int k b) = .int .i64 (a.tmod b) := rfl
theorem bn_eql (q k : IntKind) (a b : Int) : binVal .eql (.int q a) (.int k b) = .bool (a == b) := rfl
theorem bn_neq (q k : IntKind) (a b : Int) : binVal .neq (.int q a) (.int k b) = .bool (a != b) := rfl
theorem bn_lss (q k : IntKind) (a b : Int) : binVal .lss (.int q a) (.int k b) = .bool (decide (a < b)) := rfl
theorem bn_leq (q k : IntKind) (a b : Int) : binVal .leq (.int q a) (.int k b) = .bool (decide (a ≤ b)) := rfl
theorem bn_gtr (q k : IntKind) (a b : Int) : binVal .gtr (.int q a) (.int k b) = .bool (decide (a > b)) := rfl
theorem bn_geq (q k : IntKind) (a b : Int) : binVal .geq (.int q a) (.int k b) = .bool (decide (a ≥ b)) := rfl
theorem bn_cat (x y : ByteArray) : binVal .add (.string x) (.string y) = .string (x ++ y) := rfl
theorem bn_same (x y : ByteArray) : binVal .eql (.string x) (.string y) = .bool (x.toList == y.toList) := rfl
theorem bw_add (a b : UInt32) : binVal .add (.int .u32 (a.toNat : Int)) (.int .u32 (b.toNat : Int)) = .int .u32 ((a + b).toNat : Int) := by
  show Value.int .u32 (IntKind.u32.wrap _) = _; rw [w_add]
theorem bw_xor (a b : UInt32) : binVal .xor (.int .u32 (a.toNat : Int)) (.int .u32 (b.toNat : Int)) = .int .u32 ((a ^^^ b).toNat : Int) := congrArg (Value.int .u32) (w_xor a b)
theorem bw_and (a b : UInt32) : binVal .and (.int .u32 (a.toNat : Int)) (.int .u32 (b.toNat : Int)) = .int .u32 ((a &&& b).toNat : Int) := congrArg (Value.int .u32) (w_and a b)
theorem bw_or (a b : UInt32) : binVal .or (.int .u32 (a.toNat : Int)) (.int .u32 (b.toNat : Int)) = .int .u32 ((a ||| b).toNat : Int) := congrArg (Value.int .u32) (w_or a b)
theorem bw_andNot (a b : UInt32) : binVal .andNot (.int .u32 (a.toNat : Int)) (.int .u32 (b.toNat : Int)) = .int .u32 ((a &&& ~~~b).toNat : Int) := congrArg (Value.int .u32) (w_andNot a b)
theorem bw_shl24 (a : UInt32) (k : IntKind) : binVal .shl (.int .u32 (a.toNat : Int)) (.int k 24) = .int .u32 ((a <<< 24).toNat : Int) := congrArg (Value.int .u32) (w_shl a 24 rfl (by decide))
theorem bw_shl16 (a : UInt32) (k : IntKind) : binVal .shl (.int .u32 (a.toNat : Int)) (.int k 16) = .int .u32 ((a <<< 16).toNat : Int) := congrArg (Value.int .u32) (w_shl a 16 rfl (by decide))
theorem bw_shl8 (a : UInt32) (k : IntKind) : binVal .shl (.int .u32 (a.toNat : Int)) (.int k 8) = .int .u32 ((a <<< 8).toNat : Int) := congrArg (Value.int .u32) (w_shl a 8 rfl (by decide))
theorem bw_shr24 (a : UInt32) (k : IntKind) : binVal .shr (.int .u32 (a.toNat : Int)) (.int k 24) = .int .u32 ((a >>> 24).toNat : Int) := congrArg (Value.int .u32) (w_shr a 24 rfl (by decide))
theorem bw_shr16 (a : UInt32) (k : IntKind) : binVal .shr (.int .u32 (a.toNat : Int)) (.int k 16) = .int .u32 ((a >>> 16).toNat : Int) := congrArg (Value.int .u32) (w_shr a 16 rfl (by decide))
theorem bw_shr8 (a : UInt32) (k : IntKind) : binVal .shr (.int .u32 (a.toNat : Int)) (.int k 8) = .int .u32 ((a >>> 8).toNat : Int) := congrArg (Value.int .u32) (w_shr a 8 rfl (by decide))
theorem bw_shr10 (a : UInt32) (k : IntKind) : binVal .shr (.int .u32 (a.toNat : Int)) (.int k 10) = .int .u32 ((a >>> 10).toNat : Int) := congrArg (Value.int .u32) (w_shr a 10 rfl (by decide))
theorem bw_shr3 (a : UInt32) (k : IntKind) : binVal .shr (.int .u32 (a.toNat : Int)) (.int k 3) = .int .u32 ((a >>> 3).toNat : Int) := congrArg (Value.int .u32) (w_shr a 3 rfl (by decide))
theorem bw_shl (a : UInt32) (k : IntKind) {n : Nat} (h : n < 32) : binVal .shl (.int .u32 (a.toNat : Int)) (.int k (n : Int)) = .int .u32 ((a <<< UInt32.ofNat n).toNat : Int) := congrArg (Value.int .u32) (w_shl a n (by simp) h)
theorem bw_shr (a : UInt32) (k : IntKind) {n : Nat} (h : n < 32) : binVal .shr (.int .u32 (a.toNat : Int)) (.int k (n : Int)) = .int .u32 ((a >>> UInt32.ofNat n).toNat : Int) := congrArg (Value.int .u32) (w_shr a n (by simp) h)
theorem uw_not (a : UInt32) : unVal .xor (.int .u32 (a.toNat : Int)) = some (.int .u32 ((~~~a).toNat : Int)) := congrArg (fun z => some (Value.int .u32 z)) (w_not a)
theorem un_not (b : Bool) : unVal .not (.bool b) = some (.bool !b) := rfl
theorem un_neg (k : IntKind) (n : Int) : unVal .neg (.int k n) = some (.int k (k.wrap (0 - n))) := rfl
theorem ws_length (l : List UInt32) : (ws l).length = l.length := by simp [ws]
theorem ws_get (l : List UInt32) {i : Nat} (h : i < l.length) : (ws l)[i]? = some (W l[i]) := by simp [ws, h]
theorem ws_append (a b : List UInt32) : ws a ++ ws b = ws (a ++ b) := by simp [ws]
theorem ws_snoc (a : List UInt32) (x : UInt32) : ws a ++ [W x] = ws (a ++ [x]) := by simp [ws]
theorem ws_take (l : List UInt32) (n : Nat) : (ws l).take n = ws (l.take n) := by simp [ws]
theorem ws_drop (l : List UInt32) (n : Nat) : (ws l).drop n = ws (l.drop n) := by simp [ws]
theorem ws_set (l : List UInt32) (n : Nat) (x : UInt32) : (ws l).set n (W x) = ws (l.set n x) := by simp [ws]
theorem frnL_ws (l : List UInt32) : frnL (ws l) = ws l := frnL_lits (fun x : UInt32 => Value.int .u32 x.toNat) l
theorem resL_ws (l : List UInt32) : resL (ws l) = ws l := resL_lits (fun x : UInt32 => Value.int .u32 x.toNat) l
theorem roL_ws (l : List UInt32) : roL (ws l) = ws l := roL_lits (fun x : UInt32 => Value.int .u32 x.toNat) l
theorem passL_ws (l : List UInt32) : passL (ws l) = ws l := passL_lits (fun x : UInt32 => Value.int .u32 x.toNat) l
theorem trL_ws (ρ : Nat → Option Nat) (rf : Bool) (l : List UInt32) : trL ρ rf (ws l) = ws l := trL_lits ρ rf (fun x : UInt32 => Value.int .u32 x.toNat) l
theorem klL_ws (p : Bool → Ref → Bool) (ro : Bool) (l : List UInt32) : klL p ro (ws l) = ws l := klL_lits p ro (fun x : UInt32 => Value.int .u32 x.toNat) l
theorem map_roD_ws (l : List UInt32) : (ws l).map roD = ws l := by rw [← roL_eq, roL_ws]
theorem ws_cons (x : UInt32) (l : List UInt32) : ws (x :: l) = W x :: ws l := rfl
theorem ws_nil : ws [] = [] := rfl
end Go.Ev

/- The digest, in plain lists of words. -/
namespace Go.Sh
open Go.Ev (Bs)
set_option linter.unusedVariables false

def K : List UInt32 := [0x428a2f98, 0x71374491, 0xb5c0fbcf, 0xe9b5dba5, 0x3956c25b, 0x59f111f1, 0x923f82a4, 0xab1c5ed5, 0xd807aa98, 0x12835b01, 0x243185be, 0x550c7dc3, 0x72be5d74, 0x80deb1fe, 0x9bdc06a7, 0xc19bf174, 0xe49b69c1, 0xefbe4786, 0x0fc19dc6, 0x240ca1cc, 0x2de92c6f, 0x4a7484aa, 0x5cb0a9dc, 0x76f988da, 0x983e5152, 0xa831c66d, 0xb00327c8, 0xbf597fc7, 0xc6e00bf3, 0xd5a79147, 0x06ca6351, 0x14292967, 0x27b70a85, 0x2e1b2138, 0x4d2c6dfc, 0x53380d13, 0x650a7354, 0x766a0abb, 0x81c2c92e, 0x92722c85, 0xa2bfe8a1, 0xa81a664b, 0xc24b8b70, 0xc76c51a3, 0xd192e819, 0xd6990624, 0xf40e3585, 0x106aa070, 0x19a4c116, 0x1e376c08, 0x2748774c, 0x34b0bcb5, 0x391c0cb3, 0x4ed8aa4a, 0x5b9cca4f, 0x682e6ff3, 0x748f82ee, 0x78a5636f, 0x84c87814, 0x8cc70208, 0x90befffa, 0xa4506ceb, 0xbef9a3f7, 0xc67178f2]
def H0 : List UInt32 := [0x6a09e667, 0xbb67ae85, 0x3c6ef372, 0xa54ff53a, 0x510e527f, 0x9b05688c, 0x1f83d9ab, 0x5be0cd19]
/-- turned to the right -/
def rotr (x : UInt32) (n : Nat) : UInt32 := (x <<< UInt32.ofNat (32 - n)) ||| (x >>> UInt32.ofNat n)
def at0 (w : List UInt32) (i : Nat) : UInt32 := w.getD i 0
def byteAt (b : Bs) (i : Nat) : UInt32 := (b.getD i 0).toUInt32
/-- four bytes as a word -/
def word (b : Bs) (i : Nat) : UInt32 := (byteAt b (4 * i) <<< 24) ||| (byteAt b (4 * i + 1) <<< 16) ||| (byteAt b (4 * i + 2) <<< 8) ||| byteAt b (4 * i + 3)
def s0 (x : UInt32) : UInt32 := (rotr x 7 ^^^ rotr x 18) ^^^ (x >>> 3)
def s1 (x : UInt32) : UInt32 := (rotr x 17 ^^^ rotr x 19) ^^^ (x >>> 10)
/-- the next word -/
def nextW (w : List UInt32) (t : Nat) : UInt32 := ((s1 (at0 w (t - 2)) + at0 w (t - 7)) + s0 (at0 w (t - 15))) + at0 w (t - 16)
def first16 (b : Bs) : List UInt32 := (List.range 16).map (word b)
def ext : Nat → List UInt32 → List UInt32
  | 0, w => w
  | n + 1, w => ext n (w ++ [nextW w w.length])
def words (b : Bs) : List UInt32 := ext 48 (first16 b)
def S0 (a : UInt32) : UInt32 := (rotr a 2 ^^^ rotr a 13) ^^^ rotr a 22
def S1 (e : UInt32) : UInt32 := (rotr e 6 ^^^ rotr e 11) ^^^ rotr e 25
structure St where
  a : UInt32
  b : UInt32
  c : UInt32
  d : UInt32
  e : UInt32
  f : UInt32
  g : UInt32
  h : UInt32
def St.list (s : St) : List UInt32 := [s.a, s.b, s.c, s.d, s.e, s.f, s.g, s.h]
def St.of (l : List UInt32) : St := ⟨at0 l 0, at0 l 1, at0 l 2, at0 l 3, at0 l 4, at0 l 5, at0 l 6, at0 l 7⟩
def round (s : St) (k w : UInt32) : St :=
  let x := (((s.h + S1 s.e) + ((s.f &&& s.e) ^^^ (s.g &&& ~~~s.e))) + k) + w
  let y := S0 s.a + (((s.a &&& s.b) ^^^ (s.a &&& s.c)) ^^^ (s.b &&& s.c))
  ⟨x + y, s.a, s.b, s.c, s.d + x, s.e, s.f, s.g⟩
/-- the rounds up to t -/
def rounds (w : List UInt32) (s : St) : Nat → St
  | 0 => s
  | t + 1 => round (rounds w s t) (at0 K t) (at0 w t)
def plus (h : List UInt32) (s : St) : List UInt32 := [at0 h 0 + s.a, at0 h 1 + s.b, at0 h 2 + s.c, at0 h 3 + s.d, at0 h 4 + s.e, at0 h 5 + s.f, at0 h 6 + s.g, at0 h 7 + s.h]
/-- 64 bytes more -/
def block (h : List UInt32) (b : Bs) : List UInt32 := plus h (rounds (words b) (St.of h) 64)
/-- so many blocks -/
def blocks (p : Bs) (h : List UInt32) : Nat → List UInt32
  | 0 => h
  | n + 1 => block (blocks p h n) ((p.drop (64 * n)).take 64)
def be64 (n : Nat) : Bs := [UInt8.ofNat (n / 2 ^ 56), UInt8.ofNat (n / 2 ^ 48), UInt8.ofNat (n / 2 ^ 40), UInt8.ofNat (n / 2 ^ 32), UInt8.ofNat (n / 2 ^ 24), UInt8.ofNat (n / 2 ^ 16), UInt8.ofNat (n / 2 ^ 8), UInt8.ofNat n]
/-- how many noughts come behind the mark -/
def gap (n : Nat) : Nat := (119 - n % 64) % 64
def padded (s : Bs) : Bs := s ++ (128 :: List.replicate (gap s.length) 0) ++ be64 (8 * s.length)
def be32 (x : UInt32) : Bs := [(x >>> 24).toUInt8, (x >>> 16).toUInt8, (x >>> 8).toUInt8, x.toUInt8]
def digest (s : Bs) : Bs := (blocks (padded s) H0 ((padded s).length / 64)).flatMap be32
def digit (n : UInt8) : UInt8 := [48, 49, 50, 51, 52, 53, 54, 55, 56, 57, 97, 98, 99, 100, 101, 102].getD n.toNat 0
def hex (s : Bs) : Bs := List.flatMap (fun (c : UInt8) => [digit (c >>> (4 : UInt8)), digit (c &&& (15 : UInt8))]) s
/-- the id of bytes -/
def sha (s : Bs) : Bs := hex ((digest s).take 20)

theorem ext_len : ∀ (n : Nat) (w : List UInt32), (ext n w).length = w.length + n := by
  intro n
  induction n with
  | zero => intro w; rfl
  | succ n ih => intro w; rw [ext, ih]; simp; omega
theorem words_len (b : Bs) : (words b).length = 64 := by rw [words, ext_len]; simp [first16]
theorem first16_at (b : Bs) {i : Nat} (h : i < 16) : at0 (first16 b) i = word b i := by simp [at0, first16, List.getD, h]
theorem ext_old : ∀ (n : Nat) (w : List UInt32) {i : Nat}, i < w.length → at0 (ext n w) i = at0 w i := by
  intro n
  induction n with
  | zero => intro w i h; rfl
  | succ n ih =>
    intro w i h
    rw [ext, ih _ (by simp; omega)]
    simp [at0, List.getD, List.getElem?_append_left h]
theorem nextW_cong {v w : List UInt32} {t : Nat} (ht : 16 ≤ t) (h : ∀ i, i < t → at0 v i = at0 w i) : nextW v t = nextW w t := by
  simp only [nextW, h (t - 2) (by omega), h (t - 7) (by omega), h (t - 15) (by omega), h (t - 16) (by omega)]
theorem ext_new : ∀ (n : Nat) (w : List UInt32) {i : Nat}, 16 ≤ w.length → w.length ≤ i → i < w.length + n → at0 (ext n w) i = nextW (ext n w) i := by
  intro n
  induction n with
  | zero => intro w i h0 h1 h2; omega
  | succ n ih =>
    intro w i h0 h1 h2
    by_cases h : i = w.length
    · subst h
      rw [ext, ext_old n (w ++ [nextW w w.length]) (i := w.length) (by simp)]
      have e : at0 (w ++ [nextW w w.length]) w.length = nextW w w.length := by simp [at0, List.getD]
      rw [e]
      refine nextW_cong h0 fun i hi => ?_
      rw [ext_old n (w ++ [nextW w w.length]) (i := i) (by simp; omega)]
      simp [at0, List.getD, List.getElem?_append_left hi]
    · rw [ext]
      exact ih (w ++ [nextW w w.length]) (by simp; omega) (by simp; omega) (by simp; omega)
/-- the words, one by one -/
theorem words_first (b : Bs) {i : Nat} (h : i < 16) : at0 (words b) i = word b i := by
  rw [words, ext_old 48 (first16 b) (by simp [first16, h])]; exact first16_at b h
theorem words_next (b : Bs) {i : Nat} (h : 16 ≤ i) (h2 : i < 64) : at0 (words b) i = nextW (words b) i := by
  rw [words]; exact ext_new 48 (first16 b) (by simp [first16]) (by simp [first16]; omega) (by simp [first16]; omega)
theorem list_eq {v w : List UInt32} (hl : v.length = w.length) (h : ∀ i, i < v.length → at0 v i = at0 w i) : v = w := by
  refine List.ext_getElem hl fun i h1 h2 => ?_
  have := h i h1
  simpa [at0, List.getD, h1, h2] using this
theorem at0_set {w : List UInt32} {k : Nat} (hk : k < w.length) (x : UInt32) (i : Nat) : at0 (w.set k x) i = if i = k then x else at0 w i := by
  simp only [at0, List.getD, List.getElem?_set]
  by_cases h : k = i
  · subst h; simp [hk]
  · have : ¬ i = k := fun e => h e.symm
    simp [h, this]
theorem at0_get {w : List UInt32} {i : Nat} (h : i < w.length) : at0 w i = w[i] := by simp [at0, List.getD, h]
theorem block_len (h : List UInt32) (b : Bs) : (block h b).length = 8 := rfl
theorem blocks_len (p : Bs) {h : List UInt32} (hh : h.length = 8) : ∀ n, (blocks p h n).length = 8 := by
  intro n; cases n with
  | zero => exact hh
  | succ n => rfl
theorem padded_len (s : Bs) : (padded s).length % 64 = 0 := by
  simp only [padded, List.length_append, List.length_cons, List.length_replicate, be64, List.length_nil, gap]; omega
end Go.Sh

/- Seat a: the beginning; turns of words. -/
namespace Go.Aw
open Go Go.Ev Go.Proofs
open Go.Sh (at0 rotr)
set_option linter.unusedVariables false
set_option linter.unusedSimpArgs false

attribute [local go_sem] eqs implies_true List.map_cons List.map_nil kl klL roD roL Option.map_some Option.map_none Option.getD_some Option.getD_none binObl unVal if_true if_false eq_self passA frnD resD content getH getR getW viaNot viaSlot viaBox viaDeep viaMem List.contains_cons List.contains_nil grabs peeks okCells isCell place cellsOf chunk elt List.headD_cons List.length_cons List.length_nil List.take_succ_cons List.take_zero List.drop_succ_cons List.drop_zero List.nil_append List.cons_append List.append_nil List.all_cons List.all_nil plainC takeR setW over reCell List.getElem?_cons_zero List.getElem?_cons_succ List.set_cons_zero List.take_length outV resG plainV pack outVG outBx List.set_cons_succ Ref.idx Ref.addOff beq_self_eq_true bxL Option.bind_some writeR isLit viaBoxes capsPA boxPA nsOf noDup boxesAt argG passG passD rhoIn rhoOut idxIn tr trL List.getD_cons_zero gives pasOf isPtr Ins.d List.getD_cons_succ resL frnL bn_add bn_sub bn_mul bn_quo bn_rem bn_eql bn_neq bn_lss bn_leq bn_gtr bn_geq bn_cat bn_same bw_add bw_xor bw_and bw_or bw_andNot bw_shl24 bw_shl16 bw_shl8 bw_shr24 bw_shr16 bw_shr8 bw_shr10 bw_shr3
def shaK : List Value := Sh.K.map fun x => .int .u32 x.toNat
def tab0 : List Value := shaK
theorem tab0_ws : List.map AV.lit tab0 = ws Sh.K := by simp only [tab0, shaK, List.map_map]; rfl
theorem shaK_eq : shaK = [.int .u32 1116352408, .int .u32 1899447441, .int .u32 3049323471, .int .u32 3921009573, .int .u32 961987163, .int .u32 1508970993, .int .u32 2453635748, .int .u32 2870763221, .int .u32 3624381080, .int .u32 310598401, .int .u32 607225278, .int .u32 1426881987, .int .u32 1925078388, .int .u32 2162078206, .int .u32 2614888103, .int .u32 3248222580, .int .u32 3835390401, .int .u32 4022224774, .int .u32 264347078, .int .u32 604807628, .int .u32 770255983, .int .u32 1249150122, .int .u32 1555081692, .int .u32 1996064986, .int .u32 2554220882, .int .u32 2821834349, .int .u32 2952996808, .int .u32 3210313671, .int .u32 3336571891, .int .u32 3584528711, .int .u32 113926993, .int .u32 338241895, .int .u32 666307205, .int .u32 773529912, .int .u32 1294757372, .int .u32 1396182291, .int .u32 1695183700, .int .u32 1986661051, .int .u32 2177026350, .int .u32 2456956037, .int .u32 2730485921, .int .u32 2820302411, .int .u32 3259730800, .int .u32 3345764771, .int .u32 3516065817, .int .u32 3600352804, .int .u32 4094571909, .int .u32 275423344, .int .u32 430227734, .int .u32 506948616, .int .u32 659060556, .int .u32 883997877, .int .u32 958139571, .int .u32 1322822218, .int .u32 1537002063, .int .u32 1747873779, .int .u32 1955562222, .int .u32 2024104815, .int .u32 2227730452, .int .u32 2361852424, .int .u32 2428436474, .int .u32 2756734187, .int .u32 3204031479, .int .u32 3329325298] := by rfl
def gl (m : Int) : Tabs := ⟨fun g => if g = 0 then some shaK else if g = 1 then some [.int .i64 m] else if g = 2 then some (Lib.pow10Tab.map (Value.int .u64)) else none, fun f => if f = 118 then some [.ptr, .pass] else none⟩
def kn (m : Int) : Kn := ⟨Snd Tryd.prog (gl m), SndG Tryd.prog (gl m), fun f => ∃ fn, Tryd.prog.funcs[f]? = some fn ∧ fn.body.isSome = true ∧ fn.name ≠ "runtime.NumGoroutine"⟩
theorem kn_ok (m : Int) : Kn.Ok Tryd.prog (gl m) (kn m) := ⟨fun _ _ _ h => h, fun _ _ _ _ _ h => h, fun _ h => h⟩
theorem mixed : Tryd.prog.follows .mixedOrders = true := by kernel_rfl
variable {m : Int}

def rotl : AF := ⟨.seq (.reg (.seq [⟨(some (4, true)), none, .mov (.cst (.int .u32 0) (.lit (.int .u32 0))) .asg⟩])) [0, 1] []
  (.seq (.reg (.seq [⟨(some (6, false)), none, .mov (.tmp 1 true) .peek⟩,
      ⟨(some (7, false)), none, .cvt .u64 (.tmp 6 false)⟩,
      ⟨(some (8, false)), none, .bin .and (.tmp 7 false) (.cst (.int .u64 31) (.lit (.int .u64 31)))⟩,
      ⟨(some (5, true)), none, .mov (.tmp 8 false) .asg⟩])) [0, 5] []
  (.seq (.reg (.seq [⟨(some (9, false)), none, .mov (.tmp 0 true) .peek⟩,
      ⟨(some (10, false)), none, .mov (.tmp 5 true) .peek⟩,
      ⟨(some (11, false)), none, .bin .shl (.tmp 9 false) (.tmp 10 false)⟩,
      ⟨(some (12, false)), none, .mov (.tmp 0 true) .peek⟩,
      ⟨(some (13, false)), none, .mov (.tmp 5 true) .peek⟩,
      ⟨(some (14, false)), none, .bin .sub (.cst (.int .u64 32) (.lit (.int .u64 32))) (.tmp 13 false)⟩,
      ⟨(some (15, false)), none, .bin .shr (.tmp 12 false) (.tmp 14 false)⟩,
      ⟨(some (16, false)), none, .bin .or (.tmp 11 false) (.tmp 15 false)⟩,
      ⟨(some (4, true)), none, .mov (.tmp 16 false) .asg⟩])) [4] []
  (.ret))),
  [.tmp 4]⟩
theorem rotl_comp (m : Int) : compF Tryd.prog (gl m) [] Tryd.f152 = some rotl := by kernel_rfl
def pturn : AF := ⟨.seq (.reg (.seq [⟨(some (4, true)), none, .mov (.cst (.int .u32 0) (.lit (.int .u32 0))) .asg⟩])) [0, 1] []
  (.seq (.reg (.seq [⟨(some (5, false)), none, .mov (.tmp 0 true) .peek⟩,
      ⟨(some (6, false)), none, .mov (.tmp 1 true) .peek⟩,
      ⟨(some (7, false)), none, .un .neg (.tmp 6 false)⟩,
      ⟨(some (8, false)), none, .call 152 [(.tmp 5 false), (.tmp 7 false)]⟩,
      ⟨(some (4, true)), none, .mov (.tmp 8 false) .asg⟩])) [4] []
  (.ret)),
  [.tmp 4]⟩
theorem pturn_comp (m : Int) : compF Tryd.prog (gl m) [] Tryd.f137 = some pturn := by kernel_rfl
def rturn : AF := ⟨.seq (.reg (.seq [⟨(some (4, true)), none, .mov (.cst (.int .u32 0) (.lit (.int .u32 0))) .asg⟩])) [0, 1] []
  (.seq (.reg (.draw [⟨(some (5, false)), none, .mov (.tmp 0 true) .peek⟩,
      ⟨(some (6, false)), none, .mov (.tmp 1 true) .peek⟩,
      ⟨(some (7, false)), none, .bin .shr (.tmp 5 false) (.tmp 6 false)⟩,
      ⟨(some (8, false)), none, .mov (.tmp 0 true) .peek⟩,
      ⟨(some (9, false)), none, .mov (.tmp 1 true) .peek⟩,
      ⟨(some (10, false)), none, .bin .sub (.cst (.int .i64 32) (.lit (.int .i64 32))) (.tmp 9 false)⟩,
      ⟨(some (11, false)), none, .bin .shl (.tmp 8 false) (.tmp 10 false)⟩,
      ⟨(some (12, false)), none, .bin .or (.tmp 7 false) (.tmp 11 false)⟩] (.alt ⟨(some (4, true)), none, .mov (.tmp 12 false) .asg⟩ []
      .done .no))) [4] []
  (.ret)),
  [.tmp 4]⟩
theorem rturn_comp (m : Int) : compF Tryd.prog (gl m) [] Tryd.f138 = some rturn := by kernel_rfl
theorem rot_key0 : ∀ n : Fin 32, 0 < n.val → IntKind.u64.wrap ((BitVec.ofInt IntKind.u64.bits (IntKind.u64.wrap (-(n.val : Int))) &&& BitVec.ofInt IntKind.u64.bits 31).toNat : Int) = ((32 - n.val : Nat) : Int) := by decide +kernel
theorem rot_key (n : Fin 32) (h : 0 < n.val) : binVal .and (.int .u64 (IntKind.u64.wrap (-(n.val : Int)))) (.int .u64 31) = .int .u64 ((32 - n.val : Nat) : Int) := congrArg (Value.int .u64) (rot_key0 n h)
theorem rotl_snd (x : UInt32) (n : Nat) (h0 : 0 < n) (h1 : n < 32) : Snd Tryd.prog (gl m) 152 [W x, I (-(n : Int))] (W (rotr x n)) := by
  refine snd_of (fn := Tryd.f152) (af := rotl) Tryd.func152 (rotl_comp m) mixed (kn_ok m) (Nat.le_of_ble_eq_true rfl) ?_
  have e1 := rot_key ⟨n, h1⟩ h0
  simp only at e1
  have e2 : binVal .sub (.int .u64 32) (.int .u64 ((32 - n : Nat) : Int)) = .int .u64 (n : Int) := congrArg (Value.int .u64) (by rw [wrap_u64']; omega)
  have e3 := bw_shl x .u64 (n := 32 - n) (by omega)
  have e4 := bw_shr x .u64 (n := n) h1
  simp only [rotl, e1, e2, e3, e4, go_sem, reduceCtorEq, Nat.reduceEqDiff, reduceIte, Nat.reduceAdd, Nat.reduceSub, Nat.reduceLeDiff, Int.reduceToNat, Nat.reduceBEq]
  exact ⟨by omega, by omega, rfl⟩
theorem pturn_snd (x : UInt32) (n : Nat) (h0 : 0 < n) (h1 : n < 32) : Snd Tryd.prog (gl m) 137 [W x, N n] (W (rotr x n)) := by
  refine snd_of (fn := Tryd.f137) (af := pturn) Tryd.func137 (pturn_comp m) mixed (kn_ok m) (Nat.le_of_ble_eq_true rfl) ?_
  have e : IntKind.i64.wrap (0 - (n : Int)) = -(n : Int) := by rw [IntKind.wrap_i64]; omega
  simp only [pturn, unVal, e, go_sem, reduceCtorEq, Nat.reduceEqDiff, reduceIte, Nat.reduceAdd, Nat.reduceSub, Nat.reduceLeDiff, Int.reduceToNat, Nat.reduceBEq]
  refine of_call (rotl_snd x n h0 h1) ?_
  simp only [go_sem, reduceCtorEq, Nat.reduceEqDiff, reduceIte, Nat.reduceAdd, Nat.reduceSub, Nat.reduceLeDiff, Int.reduceToNat, Nat.reduceBEq]
theorem rturn_snd (x : UInt32) (n : Nat) (h0 : 0 < n) (h1 : n < 32) : Snd Tryd.prog (gl m) 138 [W x, N n] (W (rotr x n)) := by
  refine snd_of (fn := Tryd.f138) (af := rturn) Tryd.func138 (rturn_comp m) mixed (kn_ok m) (Nat.le_of_ble_eq_true rfl) ?_
  have e2 : binVal .sub (.int .i64 32) (.int .i64 (n : Int)) = .int .i64 ((32 - n : Nat) : Int) := congrArg (Value.int .i64) (by rw [IntKind.wrap_i64]; omega)
  have e3 := bw_shl x .i64 (n := 32 - n) (by omega)
  have e4 := bw_shr x .i64 (n := n) h1
  simp only [rturn, e2, e3, e4, go_sem, reduceCtorEq, Nat.reduceEqDiff, reduceIte, Nat.reduceAdd, Nat.reduceSub, Nat.reduceLeDiff, Int.reduceToNat, Nat.reduceBEq]
  refine ⟨by omega, by omega, ?_⟩
  rw [rotr, UInt32.or_comm]
end Go.Aw

/- The digest: words and rounds, as the reference reckons. -/
namespace Go.Aw
open Go Go.Ev Go.Proofs
open Go.Sh (at0 rotr word byteAt words first16 nextW)
set_option linter.unusedVariables false
set_option linter.unusedSimpArgs false
attribute [local go_sem] eqs implies_true List.map_cons List.map_nil kl klL roD roL Option.map_some Option.map_none Option.getD_some Option.getD_none binObl if_true if_false eq_self passA frnD resD content getH getR getW viaNot viaSlot viaBox viaDeep viaMem List.contains_cons List.contains_nil grabs peeks okCells isCell place cellsOf chunk elt List.headD_cons List.length_cons List.length_nil List.take_succ_cons List.take_zero List.drop_succ_cons List.drop_zero List.nil_append List.cons_append List.append_nil List.all_cons List.all_nil plainC takeR setW over reCell List.getElem?_cons_zero List.getElem?_cons_succ List.set_cons_zero List.take_length outV resG plainV pack outVG outBx List.set_cons_succ Ref.idx Ref.addOff beq_self_eq_true bxL Option.bind_some writeR isLit viaBoxes capsPA boxPA nsOf noDup boxesAt argG passG passD rhoIn rhoOut idxIn tr trL List.getD_cons_zero gives pasOf isPtr Ins.d List.getD_cons_succ resL frnL un_not un_neg uw_not bn_add bn_sub bn_mul bn_quo bn_rem bn_eql bn_neq bn_lss bn_leq bn_gtr bn_geq bn_cat bn_same bw_add bw_xor bw_and bw_or bw_andNot bw_shl24 bw_shl16 bw_shl8 bw_shr24 bw_shr16 bw_shr8 bw_shr10 bw_shr3 frnL_ws resL_ws roL_ws klL_ws map_roD_ws passL_ws trL_ws ws_length ws_append ws_snoc ws_take ws_drop w_u8
variable {m : Int}

theorem or_add (x y z v : UInt8) : ((x.toUInt32 <<< 24) + (y.toUInt32 <<< 16) + (z.toUInt32 <<< 8)) + v.toUInt32 = ((x.toUInt32 <<< 24) ||| (y.toUInt32 <<< 16) ||| (z.toUInt32 <<< 8)) ||| v.toUInt32 := by
  have hx := x.toNat_lt; have hy := y.toNat_lt; have hz := z.toNat_lt; have hv := v.toNat_lt
  apply UInt32.toNat_inj.1
  simp only [UInt32.toNat_add, UInt32.toNat_or, UInt32.toNat_shiftLeft, UInt8.toNat_toUInt32]
  have e24 : (24 : UInt32).toNat % 32 = 24 := rfl
  have e16 : (16 : UInt32).toNat % 32 = 16 := rfl
  have e8 : (8 : UInt32).toNat % 32 = 8 := rfl
  rw [e24, e16, e8]
  have s1 : x.toNat <<< 24 = x.toNat * 16777216 := Nat.shiftLeft_eq _ _
  have s2 : y.toNat <<< 16 = y.toNat * 65536 := Nat.shiftLeft_eq _ _
  have s3 : z.toNat <<< 8 = z.toNat * 256 := Nat.shiftLeft_eq _ _
  have m1 : x.toNat <<< 24 % 2 ^ 32 = x.toNat <<< 24 := Nat.mod_eq_of_lt (by omega)
  have m2 : y.toNat <<< 16 % 2 ^ 32 = y.toNat <<< 16 := Nat.mod_eq_of_lt (by omega)
  have m3 : z.toNat <<< 8 % 2 ^ 32 = z.toNat <<< 8 := Nat.mod_eq_of_lt (by omega)
  have o1 : x.toNat <<< 24 ||| y.toNat <<< 16 = (x.toNat * 256 + y.toNat) <<< 16 := by
    rw [← Nat.shiftLeft_add_eq_or_of_lt (by omega : y.toNat <<< 16 < 2 ^ 24), Nat.shiftLeft_eq (x.toNat * 256 + y.toNat)]; omega
  have o2 : (x.toNat * 256 + y.toNat) <<< 16 ||| z.toNat <<< 8 = ((x.toNat * 256 + y.toNat) * 256 + z.toNat) <<< 8 := by
    rw [← Nat.shiftLeft_add_eq_or_of_lt (by omega : z.toNat <<< 8 < 2 ^ 16), Nat.shiftLeft_eq (x.toNat * 256 + y.toNat), Nat.shiftLeft_eq ((x.toNat * 256 + y.toNat) * 256 + z.toNat)]; omega
  have o3 : ((x.toNat * 256 + y.toNat) * 256 + z.toNat) <<< 8 ||| v.toNat = ((x.toNat * 256 + y.toNat) * 256 + z.toNat) * 256 + v.toNat := by
    rw [← Nat.shiftLeft_add_eq_or_of_lt (by omega : v.toNat < 2 ^ 8), Nat.shiftLeft_eq]
  rw [m1, m2, m3, o1, o2, o3, s1, s2, s3]
  omega
/-- the bytes of a block of a text -/
theorem byteAt_cut (p : Bs) {a j : Nat} (h : a + 64 ≤ p.length) (hj : j < 64) : byteAt ((p.drop a).take 64) j = (p[a + j]'(by omega)).toUInt32 := by
  rw [byteAt, List.getD_eq_getElem?_getD, List.getElem?_take_of_lt hj, List.getElem?_drop, List.getElem?_eq_getElem (by omega)]; rfl
theorem word_cut (p : Bs) {a i : Nat} (h : a + 64 ≤ p.length) (hi : i < 16) : word ((p.drop a).take 64) i =
    (((p[a + 4 * i]'(by omega)).toUInt32 <<< 24) + ((p[a + 4 * i + 1]'(by omega)).toUInt32 <<< 16) + ((p[a + 4 * i + 2]'(by omega)).toUInt32 <<< 8)) + (p[a + 4 * i + 3]'(by omega)).toUInt32 := by
  rw [or_add]
  simp only [word, byteAt_cut p h (show 4 * i < 64 by omega), byteAt_cut p h (show 4 * i + 1 < 64 by omega), byteAt_cut p h (show 4 * i + 2 < 64 by omega), byteAt_cut p h (show 4 * i + 3 < 64 by omega), Nat.add_assoc]

def rwords_l0' : AC := .seq (.seq (.reg (.seq [⟨(some (14, false)), none, .mov (.tmp 6 true) .peek⟩,
      ⟨(some (15, false)), none, .bin .lss (.tmp 14 false) (.cst (.int .i64 16) (.lit (.int .i64 16)))⟩])) [0, 1, 5, 6, 15] []
  (.cond (.tmp 15 false)
    (.skip)
    (.exit 0))) [0, 1, 5, 6] []
  (.seq (.block 1 (.seq (.reg (.seq [⟨(some (18, false)), none, .mov (.tmp 1 true) .peek⟩,
      ⟨(some (19, false)), none, .mov (.tmp 6 true) .peek⟩,
      ⟨(some (20, false)), none, .bin .mul (.cst (.int .i64 4) (.lit (.int .i64 4))) (.tmp 19 false)⟩,
      ⟨(some (21, false)), none, .bin .add (.tmp 18 false) (.tmp 20 false)⟩,
      ⟨(some (7, true)), none, .mov (.tmp 21 false) .asg⟩])) [0, 1, 5, 6, 7] []
    (.reg (.draw [⟨(some (22, false)), none, .mov (.tmp 5 true) .peek⟩,
      ⟨(some (23, false)), none, .mov (.tmp 0 true) .peek⟩,
      ⟨(some (24, false)), none, .mov (.tmp 7 true) .peek⟩,
      ⟨(some (25, false)), none, .idx (.tmp 23 false) (.tmp 24 false)⟩,
      ⟨(some (26, false)), none, .cvt .u32 (.tmp 25 false)⟩,
      ⟨(some (27, false)), none, .bin .shl (.tmp 26 false) (.cst (.int .u64 24) (.lit (.int .u64 24)))⟩,
      ⟨(some (28, false)), none, .mov (.tmp 0 true) .peek⟩,
      ⟨(some (29, false)), none, .mov (.tmp 7 true) .peek⟩,
      ⟨(some (30, false)), none, .bin .add (.tmp 29 false) (.cst (.int .i64 1) (.lit (.int .i64 1)))⟩,
      ⟨(some (31, false)), none, .idx (.tmp 28 false) (.tmp 30 false)⟩,
      ⟨(some (32, false)), none, .cvt .u32 (.tmp 31 false)⟩,
      ⟨(some (33, false)), none, .bin .shl (.tmp 32 false) (.cst (.int .u64 16) (.lit (.int .u64 16)))⟩,
      ⟨(some (34, false)), none, .bin .add (.tmp 27 false) (.tmp 33 false)⟩,
      ⟨(some (35, false)), none, .mov (.tmp 0 true) .peek⟩,
      ⟨(some (36, false)), none, .mov (.tmp 7 true) .peek⟩,
      ⟨(some (37, false)), none, .bin .add (.tmp 36 false) (.cst (.int .i64 2) (.lit (.int .i64 2)))⟩,
      ⟨(some (38, false)), none, .idx (.tmp 35 false) (.tmp 37 false)⟩,
      ⟨(some (39, false)), none, .cvt .u32 (.tmp 38 false)⟩,
      ⟨(some (40, false)), none, .bin .shl (.tmp 39 false) (.cst (.int .u64 8) (.lit (.int .u64 8)))⟩,
      ⟨(some (41, false)), none, .bin .add (.tmp 34 false) (.tmp 40 false)⟩,
      ⟨(some (42, false)), none, .mov (.tmp 0 true) .peek⟩,
      ⟨(some (43, false)), none, .mov (.tmp 7 true) .peek⟩,
      ⟨(some (44, false)), none, .bin .add (.tmp 43 false) (.cst (.int .i64 3) (.lit (.int .i64 3)))⟩,
      ⟨(some (45, false)), none, .idx (.tmp 42 false) (.tmp 44 false)⟩,
      ⟨(some (46, false)), none, .cvt .u32 (.tmp 45 false)⟩,
      ⟨(some (47, false)), none, .bin .add (.tmp 41 false) (.tmp 46 false)⟩] (.alt ⟨(some (48, false)), none, .buildS 1 1 [(.lit (.int .u32 0))] [(0, 1, (.tmp 47 false))]⟩ [⟨(some (22, false)), none, .mov (.tmp 5 true) .peek⟩]
      (.alt ⟨(some (49, false)), none, .app 1 4 (.tmp 22 false) (.tmp 48 false)⟩ []
      (.alt ⟨(some (5, true)), none, .mov (.tmp 49 false) .asg⟩ []
      .done .no) .no) .no))))) [0, 1, 5, 6] []
  (.reg (.seq [⟨(some (16, false)), none, .mov (.tmp 6 true) .peek⟩,
      ⟨(some (17, false)), none, .bin .add (.tmp 16 false) (.cst (.int .i64 1) (.lit (.int .i64 1)))⟩,
      ⟨(some (6, true)), none, .mov (.tmp 17 false) .asg⟩])))
def rwords_l0 : AC := rwords_l0'
theorem rwords_l0_w (C : Kn) (K : Ex → St → Prop) (s : St) : vcC C rwords_l0 K s = vcC C rwords_l0' K s := nr rfl
def rwords_l1' : AC := .seq (.seq (.reg (.seq [⟨(some (50, false)), none, .mov (.tmp 8 true) .peek⟩,
      ⟨(some (51, false)), none, .bin .lss (.tmp 50 false) (.cst (.int .i64 64) (.lit (.int .i64 64)))⟩])) [5, 8, 51] []
  (.cond (.tmp 51 false)
    (.skip)
    (.exit 2))) [5, 8] []
  (.seq (.block 3 (.seq (.reg (.draw [⟨(some (54, false)), none, .mov (.tmp 5 true) .peek⟩,
      ⟨(some (55, false)), none, .mov (.tmp 8 true) .peek⟩,
      ⟨(some (56, false)), none, .bin .sub (.tmp 55 false) (.cst (.int .i64 15) (.lit (.int .i64 15)))⟩,
      ⟨(some (57, false)), none, .iad (.tmp 54 false) (.tmp 56 false) 1⟩,
      ⟨(some (58, false)), none, .load (.tmp 57 false) 1 false false⟩,
      ⟨(some (59, false)), none, .mov (.tmp 5 true) .peek⟩,
      ⟨(some (60, false)), none, .mov (.tmp 8 true) .peek⟩,
      ⟨(some (61, false)), none, .bin .sub (.tmp 60 false) (.cst (.int .i64 2) (.lit (.int .i64 2)))⟩,
      ⟨(some (62, false)), none, .iad (.tmp 59 false) (.tmp 61 false) 1⟩,
      ⟨(some (63, false)), none, .load (.tmp 62 false) 1 false false⟩] (.alt ⟨(some (9, true)), none, .mov (.tmp 58 false) .asg⟩ [⟨(some (59, false)), none, .mov (.tmp 5 true) .peek⟩,
      ⟨(some (60, false)), none, .mov (.tmp 8 true) .peek⟩,
      ⟨(some (61, false)), none, .bin .sub (.tmp 60 false) (.cst (.int .i64 2) (.lit (.int .i64 2)))⟩,
      ⟨(some (62, false)), none, .iad (.tmp 59 false) (.tmp 61 false) 1⟩,
      ⟨(some (63, false)), none, .load (.tmp 62 false) 1 false false⟩]
      (.alt ⟨(some (10, true)), none, .mov (.tmp 63 false) .asg⟩ []
      .done .no) .no))) [5, 8, 9, 10] []
    (.seq (.reg (.seq [⟨(some (64, false)), none, .mov (.tmp 9 true) .peek⟩,
      ⟨(some (65, false)), none, .call 138 [(.tmp 64 false), (.cst (.int .i64 7) (.lit (.int .i64 7)))]⟩,
      ⟨(some (66, false)), none, .mov (.tmp 9 true) .peek⟩,
      ⟨(some (67, false)), none, .call 138 [(.tmp 66 false), (.cst (.int .i64 18) (.lit (.int .i64 18)))]⟩,
      ⟨(some (68, false)), none, .bin .xor (.tmp 65 false) (.tmp 67 false)⟩,
      ⟨(some (69, false)), none, .mov (.tmp 9 true) .peek⟩,
      ⟨(some (70, false)), none, .bin .shr (.tmp 69 false) (.cst (.int .u64 3) (.lit (.int .u64 3)))⟩,
      ⟨(some (71, false)), none, .bin .xor (.tmp 68 false) (.tmp 70 false)⟩,
      ⟨(some (11, true)), none, .mov (.tmp 71 false) .asg⟩])) [5, 8, 10, 11] []
    (.seq (.reg (.seq [⟨(some (72, false)), none, .mov (.tmp 10 true) .peek⟩,
      ⟨(some (73, false)), none, .call 138 [(.tmp 72 false), (.cst (.int .i64 17) (.lit (.int .i64 17)))]⟩,
      ⟨(some (74, false)), none, .mov (.tmp 10 true) .peek⟩,
      ⟨(some (75, false)), none, .call 138 [(.tmp 74 false), (.cst (.int .i64 19) (.lit (.int .i64 19)))]⟩,
      ⟨(some (76, false)), none, .bin .xor (.tmp 73 false) (.tmp 75 false)⟩,
      ⟨(some (77, false)), none, .mov (.tmp 10 true) .peek⟩,
      ⟨(some (78, false)), none, .bin .shr (.tmp 77 false) (.cst (.int .u64 10) (.lit (.int .u64 10)))⟩,
      ⟨(some (79, false)), none, .bin .xor (.tmp 76 false) (.tmp 78 false)⟩,
      ⟨(some (12, true)), none, .mov (.tmp 79 false) .asg⟩])) [5, 8, 11, 12] []
    (.reg (.draw [⟨(some (80, false)), none, .mov (.tmp 5 true) .peek⟩,
      ⟨(some (81, false)), none, .mov (.tmp 12 true) .peek⟩,
      ⟨(some (82, false)), none, .mov (.tmp 5 true) .peek⟩,
      ⟨(some (83, false)), none, .mov (.tmp 8 true) .peek⟩,
      ⟨(some (84, false)), none, .bin .sub (.tmp 83 false) (.cst (.int .i64 7) (.lit (.int .i64 7)))⟩,
      ⟨(some (85, false)), none, .iad (.tmp 82 false) (.tmp 84 false) 1⟩,
      ⟨(some (86, false)), none, .load (.tmp 85 false) 1 false false⟩,
      ⟨(some (87, false)), none, .bin .add (.tmp 81 false) (.tmp 86 false)⟩,
      ⟨(some (88, false)), none, .mov (.tmp 11 true) .peek⟩,
      ⟨(some (89, false)), none, .bin .add (.tmp 87 false) (.tmp 88 false)⟩,
      ⟨(some (90, false)), none, .mov (.tmp 5 true) .peek⟩,
      ⟨(some (91, false)), none, .mov (.tmp 8 true) .peek⟩,
      ⟨(some (92, false)), none, .bin .sub (.tmp 91 false) (.cst (.int .i64 16) (.lit (.int .i64 16)))⟩,
      ⟨(some (93, false)), none, .iad (.tmp 90 false) (.tmp 92 false) 1⟩,
      ⟨(some (94, false)), none, .load (.tmp 93 false) 1 false false⟩,
      ⟨(some (95, false)), none, .bin .add (.tmp 89 false) (.tmp 94 false)⟩] (.alt ⟨(some (96, false)), none, .buildS 1 1 [(.lit (.int .u32 0))] [(0, 1, (.tmp 95 false))]⟩ [⟨(some (80, false)), none, .mov (.tmp 5 true) .peek⟩]
      (.alt ⟨(some (97, false)), none, .app 1 4 (.tmp 80 false) (.tmp 96 false)⟩ []
      (.alt ⟨(some (5, true)), none, .mov (.tmp 97 false) .asg⟩ []
      .done .no) .no) .no))))))) [5, 8] []
  (.reg (.seq [⟨(some (52, false)), none, .mov (.tmp 8 true) .peek⟩,
      ⟨(some (53, false)), none, .bin .add (.tmp 52 false) (.cst (.int .i64 1) (.lit (.int .i64 1)))⟩,
      ⟨(some (8, true)), none, .mov (.tmp 53 false) .asg⟩])))
def rwords_l1 : AC := rwords_l1'
theorem rwords_l1_w (C : Kn) (K : Ex → St → Prop) (s : St) : vcC C rwords_l1 K s = vcC C rwords_l1' K s := nr rfl
def rwords_k2' : AC := .seq (.reg (.seq [⟨(some (98, false)), none, .mov (.tmp 5 true) .take⟩,
      ⟨(some (4, true)), none, .mov (.tmp 98 false) .asg⟩])) [4, 5] []
  (.ret)
def rwords_k2 : AC := rwords_k2'
theorem rwords_k2_w (C : Kn) (K : Ex → St → Prop) (s : St) : vcC C rwords_k2 K s = vcC C rwords_k2' K s := nr rfl
def rwords_k3' : AC := .seq (.seq (.reg (.seq [⟨(some (8, true)), none, .mov (.cst (.int .i64 16) (.lit (.int .i64 16))) .asg⟩])) [5, 8] []
  (.block 2 (.loop [5, 8] [] rwords_l1))) [5] [] rwords_k2
def rwords_k3 : AC := rwords_k3'
theorem rwords_k3_w (C : Kn) (K : Ex → St → Prop) (s : St) : vcC C rwords_k3 K s = vcC C rwords_k3' K s := nr rfl
def rwords : AF := ⟨.seq (.reg (.seq [⟨(some (4, true)), none, .mov (.cst (.slice none 0 0) (.sl .own 1 [])) .asg⟩])) [0, 1] []
  (.seq (.reg (.seq [⟨(some (13, false)), none, .buildS 1 0 [] []⟩,
      ⟨(some (5, true)), none, .mov (.tmp 13 false) .asg⟩])) [0, 1, 5] []
  (.seq (.seq (.reg (.seq [⟨(some (6, true)), none, .mov (.cst (.int .i64 0) (.lit (.int .i64 0))) .asg⟩])) [0, 1, 5, 6] []
  (.block 0 (.loop [0, 1, 5, 6] [] rwords_l0))) [5] [] rwords_k3)),
  [.tmp 4]⟩
theorem rwords_comp (m : Int) : compF Tryd.prog (gl m) [] Tryd.f122 = some rwords := by kernel_rfl
def rblock_k0' : AC := .seq (.reg (.seq [⟨(some (95, false)), none, .mov (.tmp 13 true) .take⟩,
      ⟨(some (14, true)), none, .mov (.tmp 95 false) .asg⟩])) [0, 1, 2, 7, 8, 9, 10, 11, 12, 14, 15, 16, 17] []
    (.seq (.reg (.seq [⟨(some (96, false)), none, .mov (.tmp 12 true) .take⟩,
      ⟨(some (13, true)), none, .mov (.tmp 96 false) .asg⟩])) [0, 1, 2, 7, 8, 9, 10, 11, 13, 14, 15, 16, 17] []
    (.seq (.reg (.seq [⟨(some (97, false)), none, .mov (.tmp 11 true) .take⟩,
      ⟨(some (12, true)), none, .mov (.tmp 97 false) .asg⟩])) [0, 1, 2, 7, 8, 9, 10, 12, 13, 14, 15, 16, 17] []
    (.seq (.reg (.seq [⟨(some (98, false)), none, .mov (.tmp 10 true) .peek⟩,
      ⟨(some (99, false)), none, .mov (.tmp 16 true) .peek⟩,
      ⟨(some (100, false)), none, .bin .add (.tmp 98 false) (.tmp 99 false)⟩,
      ⟨(some (11, true)), none, .mov (.tmp 100 false) .asg⟩])) [0, 1, 2, 7, 8, 9, 11, 12, 13, 14, 15, 16, 17] []
    (.seq (.reg (.seq [⟨(some (101, false)), none, .mov (.tmp 9 true) .take⟩,
      ⟨(some (10, true)), none, .mov (.tmp 101 false) .asg⟩])) [0, 1, 2, 7, 8, 10, 11, 12, 13, 14, 15, 16, 17] []
    (.seq (.reg (.seq [⟨(some (102, false)), none, .mov (.tmp 8 true) .take⟩,
      ⟨(some (9, true)), none, .mov (.tmp 102 false) .asg⟩])) [0, 1, 2, 7, 9, 10, 11, 12, 13, 14, 15, 16, 17] []
    (.seq (.reg (.seq [⟨(some (103, false)), none, .mov (.tmp 7 true) .take⟩,
      ⟨(some (8, true)), none, .mov (.tmp 103 false) .asg⟩])) [0, 1, 2, 8, 9, 10, 11, 12, 13, 14, 15, 16, 17] []
    (.reg (.seq [⟨(some (104, false)), none, .mov (.tmp 16 true) .peek⟩,
      ⟨(some (105, false)), none, .mov (.tmp 17 true) .peek⟩,
      ⟨(some (106, false)), none, .bin .add (.tmp 104 false) (.tmp 105 false)⟩,
      ⟨(some (7, true)), none, .mov (.tmp 106 false) .asg⟩]))))))))
def rblock_k0 : AC := rblock_k0'
theorem rblock_k0_w (C : Kn) (K : Ex → St → Prop) (s : St) : vcC C rblock_k0 K s = vcC C rblock_k0' K s := nr rfl
def rblock_k1' : AC := .seq (.reg (.seq [⟨(some (75, false)), none, .mov (.tmp 7 true) .peek⟩,
      ⟨(some (76, false)), none, .call 138 [(.tmp 75 false), (.cst (.int .i64 2) (.lit (.int .i64 2)))]⟩,
      ⟨(some (77, false)), none, .mov (.tmp 7 true) .peek⟩,
      ⟨(some (78, false)), none, .call 138 [(.tmp 77 false), (.cst (.int .i64 13) (.lit (.int .i64 13)))]⟩,
      ⟨(some (79, false)), none, .bin .xor (.tmp 76 false) (.tmp 78 false)⟩,
      ⟨(some (80, false)), none, .mov (.tmp 7 true) .peek⟩,
      ⟨(some (81, false)), none, .call 138 [(.tmp 80 false), (.cst (.int .i64 22) (.lit (.int .i64 22)))]⟩,
      ⟨(some (82, false)), none, .bin .xor (.tmp 79 false) (.tmp 81 false)⟩,
      ⟨(some (83, false)), none, .mov (.tmp 7 true) .peek⟩,
      ⟨(some (84, false)), none, .mov (.tmp 8 true) .peek⟩,
      ⟨(some (85, false)), none, .bin .and (.tmp 83 false) (.tmp 84 false)⟩,
      ⟨(some (86, false)), none, .mov (.tmp 7 true) .peek⟩,
      ⟨(some (87, false)), none, .mov (.tmp 9 true) .peek⟩,
      ⟨(some (88, false)), none, .bin .and (.tmp 86 false) (.tmp 87 false)⟩,
      ⟨(some (89, false)), none, .bin .xor (.tmp 85 false) (.tmp 88 false)⟩,
      ⟨(some (90, false)), none, .mov (.tmp 8 true) .peek⟩,
      ⟨(some (91, false)), none, .mov (.tmp 9 true) .peek⟩,
      ⟨(some (92, false)), none, .bin .and (.tmp 90 false) (.tmp 91 false)⟩,
      ⟨(some (93, false)), none, .bin .xor (.tmp 89 false) (.tmp 92 false)⟩,
      ⟨(some (94, false)), none, .bin .add (.tmp 82 false) (.tmp 93 false)⟩,
      ⟨(some (17, true)), none, .mov (.tmp 94 false) .asg⟩])) [0, 1, 2, 7, 8, 9, 10, 11, 12, 13, 15, 16, 17] [] rblock_k0
def rblock_k1 : AC := rblock_k1'
theorem rblock_k1_w (C : Kn) (K : Ex → St → Prop) (s : St) : vcC C rblock_k1 K s = vcC C rblock_k1' K s := nr rfl
def rblock_l2' : AC := .seq (.seq (.reg (.seq [⟨(some (42, false)), none, .mov (.tmp 15 true) .peek⟩,
      ⟨(some (43, false)), none, .bin .lss (.tmp 42 false) (.cst (.int .i64 64) (.lit (.int .i64 64)))⟩])) [0, 1, 2, 7, 8, 9, 10, 11, 12, 13, 14, 15, 43] []
  (.cond (.tmp 43 false)
    (.skip)
    (.exit 0))) [0, 1, 2, 7, 8, 9, 10, 11, 12, 13, 14, 15] []
  (.seq (.block 1 (.seq (.reg (.draw [⟨(some (46, false)), none, .mov (.tmp 14 true) .peek⟩,
      ⟨(some (47, false)), none, .mov (.tmp 11 true) .peek⟩,
      ⟨(some (48, false)), none, .call 138 [(.tmp 47 false), (.cst (.int .i64 6) (.lit (.int .i64 6)))]⟩,
      ⟨(some (49, false)), none, .mov (.tmp 11 true) .peek⟩,
      ⟨(some (50, false)), none, .call 138 [(.tmp 49 false), (.cst (.int .i64 11) (.lit (.int .i64 11)))]⟩,
      ⟨(some (51, false)), none, .bin .xor (.tmp 48 false) (.tmp 50 false)⟩,
      ⟨(some (52, false)), none, .mov (.tmp 11 true) .peek⟩,
      ⟨(some (53, false)), none, .call 138 [(.tmp 52 false), (.cst (.int .i64 25) (.lit (.int .i64 25)))]⟩,
      ⟨(some (54, false)), none, .bin .xor (.tmp 51 false) (.tmp 53 false)⟩,
      ⟨(some (55, false)), none, .bin .add (.tmp 46 false) (.tmp 54 false)⟩,
      ⟨(some (56, false)), none, .mov (.tmp 11 true) .peek⟩,
      ⟨(some (57, false)), none, .mov (.tmp 12 true) .peek⟩,
      ⟨(some (58, false)), none, .bin .and (.tmp 56 false) (.tmp 57 false)⟩,
      ⟨(some (59, false)), none, .mov (.tmp 11 true) .peek⟩,
      ⟨(some (60, false)), none, .un .xor (.tmp 59 false)⟩,
      ⟨(some (61, false)), none, .mov (.tmp 13 true) .peek⟩,
      ⟨(some (62, false)), none, .bin .and (.tmp 60 false) (.tmp 61 false)⟩,
      ⟨(some (63, false)), none, .bin .xor (.tmp 58 false) (.tmp 62 false)⟩,
      ⟨(some (64, false)), none, .bin .add (.tmp 55 false) (.tmp 63 false)⟩,
      ⟨(some (65, false)), none, .mov (.tmp 2 true) .peek⟩,
      ⟨(some (66, false)), none, .mov (.tmp 15 true) .peek⟩,
      ⟨(some (67, false)), none, .iad (.tmp 65 false) (.tmp 66 false) 1⟩,
      ⟨(some (68, false)), none, .load (.tmp 67 false) 1 false false⟩,
      ⟨(some (69, false)), none, .bin .add (.tmp 64 false) (.tmp 68 false)⟩,
      ⟨(some (70, false)), none, .mov (.tmp 1 true) .peek⟩,
      ⟨(some (71, false)), none, .mov (.tmp 15 true) .peek⟩,
      ⟨(some (72, false)), none, .iad (.tmp 70 false) (.tmp 71 false) 1⟩,
      ⟨(some (73, false)), none, .load (.tmp 72 false) 1 false false⟩,
      ⟨(some (74, false)), none, .bin .add (.tmp 69 false) (.tmp 73 false)⟩] (.alt ⟨(some (16, true)), none, .mov (.tmp 74 false) .asg⟩ []
      .done .no))) [0, 1, 2, 7, 8, 9, 10, 11, 12, 13, 15, 16] [] rblock_k1)) [0, 1, 2, 7, 8, 9, 10, 11, 12, 13, 14, 15] []
  (.reg (.seq [⟨(some (44, false)), none, .mov (.tmp 15 true) .peek⟩,
      ⟨(some (45, false)), none, .bin .add (.tmp 44 false) (.cst (.int .i64 1) (.lit (.int .i64 1)))⟩,
      ⟨(some (15, true)), none, .mov (.tmp 45 false) .asg⟩])))
def rblock_l2 : AC := rblock_l2'
theorem rblock_l2_w (C : Kn) (K : Ex → St → Prop) (s : St) : vcC C rblock_l2 K s = vcC C rblock_l2' K s := nr rfl
def rblock_k3' : AC := .ret
def rblock_k3 : AC := rblock_k3'
theorem rblock_k3_w (C : Kn) (K : Ex → St → Prop) (s : St) : vcC C rblock_k3 K s = vcC C rblock_k3' K s := nr rfl
def rblock_k4' : AC := .seq (.reg (.draw [⟨(some (107, false)), none, .mov (.tmp 0 true) .peek⟩,
      ⟨(some (108, false)), none, .iad (.tmp 107 false) (.cst (.int .i64 0) (.lit (.int .i64 0))) 1⟩,
      ⟨(some (109, false)), none, .load (.tmp 108 false) 1 false false⟩,
      ⟨(some (110, false)), none, .mov (.tmp 7 true) .peek⟩,
      ⟨(some (111, false)), none, .bin .add (.tmp 109 false) (.tmp 110 false)⟩,
      ⟨(some (112, false)), none, .mov (.tmp 0 true) .peek⟩,
      ⟨(some (113, false)), none, .iad (.tmp 112 false) (.cst (.int .i64 1) (.lit (.int .i64 1))) 1⟩,
      ⟨(some (114, false)), none, .load (.tmp 113 false) 1 false false⟩,
      ⟨(some (115, false)), none, .mov (.tmp 8 true) .peek⟩,
      ⟨(some (116, false)), none, .bin .add (.tmp 114 false) (.tmp 115 false)⟩,
      ⟨(some (117, false)), none, .mov (.tmp 0 true) .peek⟩,
      ⟨(some (118, false)), none, .iad (.tmp 117 false) (.cst (.int .i64 2) (.lit (.int .i64 2))) 1⟩,
      ⟨(some (119, false)), none, .load (.tmp 118 false) 1 false false⟩,
      ⟨(some (120, false)), none, .mov (.tmp 9 true) .peek⟩,
      ⟨(some (121, false)), none, .bin .add (.tmp 119 false) (.tmp 120 false)⟩,
      ⟨(some (122, false)), none, .mov (.tmp 0 true) .peek⟩,
      ⟨(some (123, false)), none, .iad (.tmp 122 false) (.cst (.int .i64 3) (.lit (.int .i64 3))) 1⟩,
      ⟨(some (124, false)), none, .load (.tmp 123 false) 1 false false⟩,
      ⟨(some (125, false)), none, .mov (.tmp 10 true) .peek⟩,
      ⟨(some (126, false)), none, .bin .add (.tmp 124 false) (.tmp 125 false)⟩,
      ⟨(some (127, false)), none, .mov (.tmp 0 true) .peek⟩,
      ⟨(some (128, false)), none, .iad (.tmp 127 false) (.cst (.int .i64 4) (.lit (.int .i64 4))) 1⟩,
      ⟨(some (129, false)), none, .load (.tmp 128 false) 1 false false⟩,
      ⟨(some (130, false)), none, .mov (.tmp 11 true) .peek⟩,
      ⟨(some (131, false)), none, .bin .add (.tmp 129 false) (.tmp 130 false)⟩,
      ⟨(some (132, false)), none, .mov (.tmp 0 true) .peek⟩,
      ⟨(some (133, false)), none, .iad (.tmp 132 false) (.cst (.int .i64 5) (.lit (.int .i64 5))) 1⟩,
      ⟨(some (134, false)), none, .load (.tmp 133 false) 1 false false⟩,
      ⟨(some (135, false)), none, .mov (.tmp 12 true) .peek⟩,
      ⟨(some (136, false)), none, .bin .add (.tmp 134 false) (.tmp 135 false)⟩,
      ⟨(some (137, false)), none, .mov (.tmp 0 true) .peek⟩,
      ⟨(some (138, false)), none, .iad (.tmp 137 false) (.cst (.int .i64 6) (.lit (.int .i64 6))) 1⟩,
      ⟨(some (139, false)), none, .load (.tmp 138 false) 1 false false⟩,
      ⟨(some (140, false)), none, .mov (.tmp 13 true) .peek⟩,
      ⟨(some (141, false)), none, .bin .add (.tmp 139 false) (.tmp 140 false)⟩,
      ⟨(some (142, false)), none, .mov (.tmp 0 true) .peek⟩,
      ⟨(some (143, false)), none, .iad (.tmp 142 false) (.cst (.int .i64 7) (.lit (.int .i64 7))) 1⟩,
      ⟨(some (144, false)), none, .load (.tmp 143 false) 1 false false⟩,
      ⟨(some (145, false)), none, .mov (.tmp 14 true) .peek⟩,
      ⟨(some (146, false)), none, .bin .add (.tmp 144 false) (.tmp 145 false)⟩] (.alt ⟨(some (147, false)), none, .buildS 1 8 [(.lit (.int .u32 0)), (.lit (.int .u32 0)), (.lit (.int .u32 0)), (.lit (.int .u32 0)), (.lit (.int .u32 0)), (.lit (.int .u32 0)), (.lit (.int .u32 0)), (.lit (.int .u32 0))] [(0, 1, (.tmp 111 false)), (1, 1, (.tmp 116 false)), (2, 1, (.tmp 121 false)), (3, 1, (.tmp 126 false)), (4, 1, (.tmp 131 false)), (5, 1, (.tmp 136 false)), (6, 1, (.tmp 141 false)), (7, 1, (.tmp 146 false))]⟩ []
      (.alt ⟨(some (6, true)), none, .mov (.tmp 147 false) .asg⟩ []
      .done .no) .no))) [6] [] rblock_k3
def rblock_k4 : AC := rblock_k4'
theorem rblock_k4_w (C : Kn) (K : Ex → St → Prop) (s : St) : vcC C rblock_k4 K s = vcC C rblock_k4' K s := nr rfl
def rblock_k5' : AC := .seq (.seq (.reg (.seq [⟨(some (15, true)), none, .mov (.cst (.int .i64 0) (.lit (.int .i64 0))) .asg⟩])) [0, 1, 2, 7, 8, 9, 10, 11, 12, 13, 14, 15] []
  (.block 0 (.loop [0, 1, 2, 7, 8, 9, 10, 11, 12, 13, 14, 15] [] rblock_l2))) [0, 7, 8, 9, 10, 11, 12, 13, 14] [] rblock_k4
def rblock_k5 : AC := rblock_k5'
theorem rblock_k5_w (C : Kn) (K : Ex → St → Prop) (s : St) : vcC C rblock_k5 K s = vcC C rblock_k5' K s := nr rfl
def rblock_k6' : AC := .seq (.reg (.draw [⟨(some (30, false)), none, .mov (.tmp 0 true) .peek⟩,
      ⟨(some (31, false)), none, .iad (.tmp 30 false) (.cst (.int .i64 4) (.lit (.int .i64 4))) 1⟩,
      ⟨(some (32, false)), none, .load (.tmp 31 false) 1 false false⟩,
      ⟨(some (33, false)), none, .mov (.tmp 0 true) .peek⟩,
      ⟨(some (34, false)), none, .iad (.tmp 33 false) (.cst (.int .i64 5) (.lit (.int .i64 5))) 1⟩,
      ⟨(some (35, false)), none, .load (.tmp 34 false) 1 false false⟩,
      ⟨(some (36, false)), none, .mov (.tmp 0 true) .peek⟩,
      ⟨(some (37, false)), none, .iad (.tmp 36 false) (.cst (.int .i64 6) (.lit (.int .i64 6))) 1⟩,
      ⟨(some (38, false)), none, .load (.tmp 37 false) 1 false false⟩,
      ⟨(some (39, false)), none, .mov (.tmp 0 true) .peek⟩,
      ⟨(some (40, false)), none, .iad (.tmp 39 false) (.cst (.int .i64 7) (.lit (.int .i64 7))) 1⟩,
      ⟨(some (41, false)), none, .load (.tmp 40 false) 1 false false⟩] (.alt ⟨(some (11, true)), none, .mov (.tmp 32 false) .asg⟩ [⟨(some (33, false)), none, .mov (.tmp 0 true) .peek⟩,
      ⟨(some (34, false)), none, .iad (.tmp 33 false) (.cst (.int .i64 5) (.lit (.int .i64 5))) 1⟩,
      ⟨(some (35, false)), none, .load (.tmp 34 false) 1 false false⟩,
      ⟨(some (36, false)), none, .mov (.tmp 0 true) .peek⟩,
      ⟨(some (37, false)), none, .iad (.tmp 36 false) (.cst (.int .i64 6) (.lit (.int .i64 6))) 1⟩,
      ⟨(some (38, false)), none, .load (.tmp 37 false) 1 false false⟩,
      ⟨(some (39, false)), none, .mov (.tmp 0 true) .peek⟩,
      ⟨(some (40, false)), none, .iad (.tmp 39 false) (.cst (.int .i64 7) (.lit (.int .i64 7))) 1⟩,
      ⟨(some (41, false)), none, .load (.tmp 40 false) 1 false false⟩]
      (.alt ⟨(some (12, true)), none, .mov (.tmp 35 false) .asg⟩ [⟨(some (36, false)), none, .mov (.tmp 0 true) .peek⟩,
      ⟨(some (37, false)), none, .iad (.tmp 36 false) (.cst (.int .i64 6) (.lit (.int .i64 6))) 1⟩,
      ⟨(some (38, false)), none, .load (.tmp 37 false) 1 false false⟩,
      ⟨(some (39, false)), none, .mov (.tmp 0 true) .peek⟩,
      ⟨(some (40, false)), none, .iad (.tmp 39 false) (.cst (.int .i64 7) (.lit (.int .i64 7))) 1⟩,
      ⟨(some (41, false)), none, .load (.tmp 40 false) 1 false false⟩]
      (.alt ⟨(some (13, true)), none, .mov (.tmp 38 false) .asg⟩ [⟨(some (39, false)), none, .mov (.tmp 0 true) .peek⟩,
      ⟨(some (40, false)), none, .iad (.tmp 39 false) (.cst (.int .i64 7) (.lit (.int .i64 7))) 1⟩,
      ⟨(some (41, false)), none, .load (.tmp 40 false) 1 false false⟩]
      (.alt ⟨(some (14, true)), none, .mov (.tmp 41 false) .asg⟩ []
      .done .no) .no) .no) .no))) [0, 1, 2, 7, 8, 9, 10, 11, 12, 13, 14] [] rblock_k5
def rblock_k6 : AC := rblock_k6'
theorem rblock_k6_w (C : Kn) (K : Ex → St → Prop) (s : St) : vcC C rblock_k6 K s = vcC C rblock_k6' K s := nr rfl
def rblock : AF := ⟨.seq (.reg (.seq [⟨(some (6, true)), none, .mov (.cst (.slice none 0 0) (.sl .own 1 [])) .asg⟩])) [0, 1, 2] []
  (.seq (.reg (.draw [⟨(some (18, false)), none, .mov (.tmp 0 true) .peek⟩,
      ⟨(some (19, false)), none, .iad (.tmp 18 false) (.cst (.int .i64 0) (.lit (.int .i64 0))) 1⟩,
      ⟨(some (20, false)), none, .load (.tmp 19 false) 1 false false⟩,
      ⟨(some (21, false)), none, .mov (.tmp 0 true) .peek⟩,
      ⟨(some (22, false)), none, .iad (.tmp 21 false) (.cst (.int .i64 1) (.lit (.int .i64 1))) 1⟩,
      ⟨(some (23, false)), none, .load (.tmp 22 false) 1 false false⟩,
      ⟨(some (24, false)), none, .mov (.tmp 0 true) .peek⟩,
      ⟨(some (25, false)), none, .iad (.tmp 24 false) (.cst (.int .i64 2) (.lit (.int .i64 2))) 1⟩,
      ⟨(some (26, false)), none, .load (.tmp 25 false) 1 false false⟩,
      ⟨(some (27, false)), none, .mov (.tmp 0 true) .peek⟩,
      ⟨(some (28, false)), none, .iad (.tmp 27 false) (.cst (.int .i64 3) (.lit (.int .i64 3))) 1⟩,
      ⟨(some (29, false)), none, .load (.tmp 28 false) 1 false false⟩] (.alt ⟨(some (7, true)), none, .mov (.tmp 20 false) .asg⟩ [⟨(some (21, false)), none, .mov (.tmp 0 true) .peek⟩,
      ⟨(some (22, false)), none, .iad (.tmp 21 false) (.cst (.int .i64 1) (.lit (.int .i64 1))) 1⟩,
      ⟨(some (23, false)), none, .load (.tmp 22 false) 1 false false⟩,
      ⟨(some (24, false)), none, .mov (.tmp 0 true) .peek⟩,
      ⟨(some (25, false)), none, .iad (.tmp 24 false) (.cst (.int .i64 2) (.lit (.int .i64 2))) 1⟩,
      ⟨(some (26, false)), none, .load (.tmp 25 false) 1 false false⟩,
      ⟨(some (27, false)), none, .mov (.tmp 0 true) .peek⟩,
      ⟨(some (28, false)), none, .iad (.tmp 27 false) (.cst (.int .i64 3) (.lit (.int .i64 3))) 1⟩,
      ⟨(some (29, false)), none, .load (.tmp 28 false) 1 false false⟩]
      (.alt ⟨(some (8, true)), none, .mov (.tmp 23 false) .asg⟩ [⟨(some (24, false)), none, .mov (.tmp 0 true) .peek⟩,
      ⟨(some (25, false)), none, .iad (.tmp 24 false) (.cst (.int .i64 2) (.lit (.int .i64 2))) 1⟩,
      ⟨(some (26, false)), none, .load (.tmp 25 false) 1 false false⟩,
      ⟨(some (27, false)), none, .mov (.tmp 0 true) .peek⟩,
      ⟨(some (28, false)), none, .iad (.tmp 27 false) (.cst (.int .i64 3) (.lit (.int .i64 3))) 1⟩,
      ⟨(some (29, false)), none, .load (.tmp 28 false) 1 false false⟩]
      (.alt ⟨(some (9, true)), none, .mov (.tmp 26 false) .asg⟩ [⟨(some (27, false)), none, .mov (.tmp 0 true) .peek⟩,
      ⟨(some (28, false)), none, .iad (.tmp 27 false) (.cst (.int .i64 3) (.lit (.int .i64 3))) 1⟩,
      ⟨(some (29, false)), none, .load (.tmp 28 false) 1 false false⟩]
      (.alt ⟨(some (10, true)), none, .mov (.tmp 29 false) .asg⟩ []
      .done .no) .no) .no) .no))) [0, 1, 2, 7, 8, 9, 10] [] rblock_k6),
  [.tmp 6]⟩
theorem rblock_comp (m : Int) : compF Tryd.prog (gl m) [] Tryd.f121 = some rblock := by kernel_rfl
theorem range_succ_map {α : Type} (f : Nat → α) (i : Nat) : (List.range (i + 1)).map f = (List.range i).map f ++ [f i] := by rw [List.range_succ, List.map_append]; rfl
theorem ext_eq (i : Nat) (b : Bs) : ∀ {w : List UInt32}, 16 ≤ w.length → w.length + i = 64 → (∀ j, j < w.length → at0 w j = at0 (words b) j) → Sh.ext i w = words b := by
  intro w hw hi h
  refine Sh.list_eq (by rw [Sh.ext_len, Sh.words_len]; omega) ?_
  intro j
  induction j using Nat.strongRecOn with
  | _ j ih =>
    intro hj
    rw [Sh.ext_len] at hj
    by_cases h1 : j < w.length
    · rw [Sh.ext_old _ _ h1]; exact h j h1
    · rw [Sh.ext_new i w hw (by omega) (by omega), Sh.words_next b (by omega) (by omega)]
      exact Sh.nextW_cong (by omega) fun q hq => ih q hq (by rw [Sh.ext_len]; omega)
theorem rwords_loop1 (b : Bs) (n : Nat) : ∀ (w : List UInt32) (hn : 64 - w.length = n) (h16 : 16 ≤ w.length) (hi : w.length ≤ 64) (hw : ∀ j, j < w.length → at0 w j = at0 (words b) j),
    vcL (kn m) [5, 8] [] rwords_l1 (blockK 2 (seqK (kn m) [5] [] rwords_k2 (outOk [.tmp 4] (.sl .own 1 (ws (words b)))))) (mkS [(5, .sl .own 1 (ws w)), (8, N w.length)] []) := by
  induction n with
  | zero =>
    intro w hn h16 hi hw
    apply round
    simp only [rwords_l1_w, rwords_l1', go_sem, reduceCtorEq, Nat.reduceEqDiff, reduceIte, Nat.reduceAdd, Nat.reduceSub, Nat.reduceLeDiff, Int.reduceToNat, Nat.reduceBEq]
    rw [ilt_f (by omega)]
    simp only [rwords_k2_w, rwords_k2', go_sem, reduceCtorEq, Nat.reduceEqDiff, reduceIte, Nat.reduceAdd, Nat.reduceSub, Nat.reduceLeDiff, Int.reduceToNat, Nat.reduceBEq]
    have := ext_eq 0 b h16 (by omega) hw
    rw [Sh.ext] at this
    rw [this]
  | succ n ih =>
    intro w hn h16 hi hw
    have i15 : IntKind.i64.wrap ((w.length : Int) - 15) = ((w.length - 15 : Nat) : Int) := by rw [IntKind.wrap_i64]; omega
    have i2 : IntKind.i64.wrap ((w.length : Int) - 2) = ((w.length - 2 : Nat) : Int) := by rw [IntKind.wrap_i64]; omega
    have i7 : IntKind.i64.wrap ((w.length : Int) - 7) = ((w.length - 7 : Nat) : Int) := by rw [IntKind.wrap_i64]; omega
    have i16 : IntKind.i64.wrap ((w.length : Int) - 16) = ((w.length - 16 : Nat) : Int) := by rw [IntKind.wrap_i64]; omega
    have i1 : IntKind.i64.wrap ((w.length : Int) + 1) = ((w.length + 1 : Nat) : Int) := by rw [IntKind.wrap_i64]; omega
    have g15 := ws_get w (i := w.length - 15) (by omega)
    have g2 := ws_get w (i := w.length - 2) (by omega)
    have g7 := ws_get w (i := w.length - 7) (by omega)
    have g16 := ws_get w (i := w.length - 16) (by omega)
    apply round
    simp only [rwords_l1_w, rwords_l1', go_sem, reduceCtorEq, Nat.reduceEqDiff, reduceIte, Nat.reduceAdd, Nat.reduceSub, Nat.reduceLeDiff, Int.reduceToNat, Nat.reduceBEq]
    rw [ilt_t (by omega)]
    simp only [i15, i2, g15, g2, go_sem, reduceCtorEq, Nat.reduceEqDiff, reduceIte, Nat.reduceAdd, Nat.reduceSub, Nat.reduceLeDiff, Int.reduceToNat, Nat.reduceBEq]
    repeat (refine ⟨by (try simp only [List.length_append, List.length_cons, List.length_nil, List.length_drop, List.length_take]); omega, ?_⟩)
    refine of_call (rturn_snd _ 7 (by decide) (by decide)) ?_
    simp only [i7, i16, i1, g7, g16, go_sem, reduceCtorEq, Nat.reduceEqDiff, reduceIte, Nat.reduceAdd, Nat.reduceSub, Nat.reduceLeDiff, Int.reduceToNat, Nat.reduceBEq]
    repeat (refine ⟨by (try simp only [List.length_append, List.length_cons, List.length_nil, List.length_drop, List.length_take]); omega, ?_⟩)
    refine of_call (rturn_snd _ 18 (by decide) (by decide)) ?_
    simp only [i7, i16, i1, g7, g16, go_sem, reduceCtorEq, Nat.reduceEqDiff, reduceIte, Nat.reduceAdd, Nat.reduceSub, Nat.reduceLeDiff, Int.reduceToNat, Nat.reduceBEq]
    repeat (refine ⟨by (try simp only [List.length_append, List.length_cons, List.length_nil, List.length_drop, List.length_take]); omega, ?_⟩)
    refine of_call (rturn_snd _ 17 (by decide) (by decide)) ?_
    simp only [i7, i16, i1, g7, g16, go_sem, reduceCtorEq, Nat.reduceEqDiff, reduceIte, Nat.reduceAdd, Nat.reduceSub, Nat.reduceLeDiff, Int.reduceToNat, Nat.reduceBEq]
    repeat (refine ⟨by (try simp only [List.length_append, List.length_cons, List.length_nil, List.length_drop, List.length_take]); omega, ?_⟩)
    refine of_call (rturn_snd _ 19 (by decide) (by decide)) ?_
    simp only [i7, i16, i1, g7, g16, go_sem, reduceCtorEq, Nat.reduceEqDiff, reduceIte, Nat.reduceAdd, Nat.reduceSub, Nat.reduceLeDiff, Int.reduceToNat, Nat.reduceBEq]
    repeat (refine ⟨by (try simp only [List.length_append, List.length_cons, List.length_nil, List.length_drop, List.length_take]); omega, ?_⟩)
    have e : Sh.s1 w[w.length - 2] + w[w.length - 7] + Sh.s0 w[w.length - 15] + w[w.length - 16] = at0 (words b) w.length := by
      rw [Sh.words_next b h16 (by omega), nextW, ← hw (w.length - 2) (by omega), ← hw (w.length - 7) (by omega), ← hw (w.length - 15) (by omega), ← hw (w.length - 16) (by omega),
        Sh.at0_get (by omega : w.length - 2 < w.length), Sh.at0_get (by omega : w.length - 7 < w.length), Sh.at0_get (by omega : w.length - 15 < w.length), Sh.at0_get (by omega : w.length - 16 < w.length)]
    simp only [Sh.s1, Sh.s0] at e
    have := ih (w ++ [at0 (words b) w.length]) (by simp; omega) (by simp; omega) (by simp; omega) (fun j hj => by
      by_cases h : j < w.length
      · rw [← hw j h]; simp [at0, List.getD, List.getElem?_append_left h]
      · have hj2 : j = w.length := by simp at hj; omega
        subst hj2; simp [at0, List.getD])
    rw [List.length_append] at this
    simp only [e]
    exact this
theorem rwords_loop0 (p : Bs) (a : Nat) (ha : a + 64 ≤ p.length) (hp : p.length ≤ 4294967296) (n : Nat) : ∀ (i : Nat) (hn : 16 - i = n) (hi : i ≤ 16),
    vcL (kn m) [0, 1, 5, 6] [] rwords_l0 (blockK 0 (seqK (kn m) [5] [] rwords_k3 (outOk [.tmp 4] (.sl .own 1 (ws (words ((p.drop a).take 64))))))) (mkS [(0, S p), (1, N a), (5, .sl .own 1 (ws ((List.range i).map (word ((p.drop a).take 64))))), (6, N i)] []) := by
  induction n with
  | zero =>
    intro i hn hi
    obtain rfl : i = 16 := by omega
    apply round
    simp only [rwords_l0_w, rwords_l0', go_sem, reduceCtorEq, Nat.reduceEqDiff, reduceIte, Nat.reduceAdd, Nat.reduceSub, Nat.reduceLeDiff, Int.reduceToNat, Nat.reduceBEq]
    rw [ilt_f (by omega)]
    simp only [rwords_k3_w, rwords_k3', go_sem, reduceCtorEq, Nat.reduceEqDiff, reduceIte, Nat.reduceAdd, Nat.reduceSub, Nat.reduceLeDiff, Int.reduceToNat, Nat.reduceBEq]
    have := rwords_loop1 (m := m) ((p.drop a).take 64) _ (first16 ((p.drop a).take 64)) rfl (by simp [first16]) (by simp [first16]) (fun j hj => by
      rw [Sh.first16_at _ (by simpa [first16] using hj), Sh.words_first _ (by simpa [first16] using hj)])
    have hl : (first16 ((p.drop a).take 64)).length = 16 := by simp [first16]
    rw [hl] at this
    exact this
  | succ n ih =>
    intro i hn hi
    have q0 : IntKind.i64.wrap (4 * (i : Int)) = ((4 * i : Nat) : Int) := by rw [IntKind.wrap_i64]; omega
    have q1 : IntKind.i64.wrap ((a : Int) + ((4 * i : Nat) : Int)) = ((a + 4 * i : Nat) : Int) := by rw [IntKind.wrap_i64]; omega
    have q2 : IntKind.i64.wrap (((a + 4 * i : Nat) : Int) + 1) = ((a + 4 * i + 1 : Nat) : Int) := by rw [IntKind.wrap_i64]; omega
    have q3 : IntKind.i64.wrap (((a + 4 * i : Nat) : Int) + 2) = ((a + 4 * i + 2 : Nat) : Int) := by rw [IntKind.wrap_i64]; omega
    have q4 : IntKind.i64.wrap (((a + 4 * i : Nat) : Int) + 3) = ((a + 4 * i + 3 : Nat) : Int) := by rw [IntKind.wrap_i64]; omega
    have q5 : IntKind.i64.wrap ((i : Int) + 1) = ((i + 1 : Nat) : Int) := by rw [IntKind.wrap_i64]; omega
    have g0 := getE (l := p) (i := a + 4 * i) (by omega)
    have g1 := getE (l := p) (i := a + 4 * i + 1) (by omega)
    have g2 := getE (l := p) (i := a + 4 * i + 2) (by omega)
    have g3 := getE (l := p) (i := a + 4 * i + 3) (by omega)
    have hw := word_cut p ha (by omega : i < 16)
    apply round
    simp only [rwords_l0_w, rwords_l0', go_sem, reduceCtorEq, Nat.reduceEqDiff, reduceIte, Nat.reduceAdd, Nat.reduceSub, Nat.reduceLeDiff, Int.reduceToNat, Nat.reduceBEq]
    rw [ilt_t (by omega)]
    simp only [q0, q1, q2, q3, q4, q5, g0, g1, g2, g3, go_sem, reduceCtorEq, Nat.reduceEqDiff, reduceIte, Nat.reduceAdd, Nat.reduceSub, Nat.reduceLeDiff, Int.reduceToNat, Nat.reduceBEq]
    repeat (refine ⟨by (try simp only [List.length_append, List.length_cons, List.length_nil, List.length_drop, List.length_take]); omega, ?_⟩)
    refine ⟨by simp; omega, ?_⟩
    rw [← hw, ← range_succ_map]
    exact ih (i + 1) (by omega) (by omega)
theorem rwords_snd (p : Bs) (a : Nat) (ha : a + 64 ≤ p.length) (hp : p.length ≤ 4294967296) : Snd Tryd.prog (gl m) 122 [S p, N a] (.sl .own 1 (ws (words ((p.drop a).take 64)))) := by
  refine snd_of (fn := Tryd.f122) (af := rwords) Tryd.func122 (rwords_comp m) mixed (kn_ok m) (Nat.le_of_ble_eq_true rfl) ?_
  simp only [rwords, go_sem, reduceCtorEq, Nat.reduceEqDiff, reduceIte, Nat.reduceAdd, Nat.reduceSub, Nat.reduceLeDiff, Int.reduceToNat, Nat.reduceBEq]
  exact rwords_loop0 p a ha hp _ 0 rfl (by omega)

def rst (h w : List UInt32) (s : Sh.St) (t : Nat) : Ev.St := mkS [(0, .sl .frn 1 (ws h)), (1, .sl .frn 1 (ws w)), (2, .sl .frn 1 (ws Sh.K)), (7, W s.a), (8, W s.b), (9, W s.c), (10, W s.d), (11, W s.e), (12, W s.f), (13, W s.g), (14, W s.h), (15, N t)] []
theorem K_len : Sh.K.length = 64 := by rfl
set_option maxRecDepth 100000 in
theorem rblock_loop (h : List UInt32) (hh : h.length = 8) (w : List UInt32) (hl : w.length = 64) (s0 : Sh.St) (F : Sh.St) (hF : Sh.rounds w s0 64 = F) (n : Nat) : ∀ (t : Nat) (hn : 64 - t = n) (ht : t ≤ 64),
    vcL (kn m) [0, 1, 2, 7, 8, 9, 10, 11, 12, 13, 14, 15] [] rblock_l2 (blockK 0 (seqK (kn m) [0, 7, 8, 9, 10, 11, 12, 13, 14] [] rblock_k4 (outOk [.tmp 6] (.sl .own 1 (ws (Sh.plus h F)))))) (rst h w (Sh.rounds w s0 t) t) := by
  induction n with
  | zero =>
    intro t hn ht
    obtain rfl : t = 64 := by omega
    rw [hF]
    have g0 := ws_get h (i := 0) (by omega); have g1 := ws_get h (i := 1) (by omega); have g2 := ws_get h (i := 2) (by omega); have g3 := ws_get h (i := 3) (by omega)
    have g4 := ws_get h (i := 4) (by omega); have g5 := ws_get h (i := 5) (by omega); have g6 := ws_get h (i := 6) (by omega); have g7 := ws_get h (i := 7) (by omega)
    apply round
    simp only [rst, rblock_l2_w, rblock_l2', go_sem, reduceCtorEq, Nat.reduceEqDiff, reduceIte, Nat.reduceAdd, Nat.reduceSub, Nat.reduceLeDiff, Int.reduceToNat, Nat.reduceBEq]
    rw [ilt_f (by omega)]
    simp only [rblock_k4_w, rblock_k4', rblock_k3_w, rblock_k3', g0, g1, g2, g3, g4, g5, g6, g7, go_sem, reduceCtorEq, Nat.reduceEqDiff, reduceIte, Nat.reduceAdd, Nat.reduceSub, Nat.reduceLeDiff, Int.reduceToNat, Nat.reduceBEq]
    simp only [Sh.plus, ws_cons, ws_nil, Sh.at0_get (show 0 < h.length by omega), Sh.at0_get (show 1 < h.length by omega), Sh.at0_get (show 2 < h.length by omega), Sh.at0_get (show 3 < h.length by omega), Sh.at0_get (show 4 < h.length by omega), Sh.at0_get (show 5 < h.length by omega), Sh.at0_get (show 6 < h.length by omega), Sh.at0_get (show 7 < h.length by omega)]
    decide
  | succ n ih =>
    intro t hn ht
    have this := ih (t + 1) (by omega) (by omega)
    rw [Sh.rounds] at this
    clear ih
    generalize Sh.rounds w s0 t = s at this ⊢
    have gk := ws_get Sh.K (i := t) (by rw [K_len]; omega)
    have gw := ws_get w (i := t) (by omega)
    have q1 : IntKind.i64.wrap ((t : Int) + 1) = ((t + 1 : Nat) : Int) := by rw [IntKind.wrap_i64]; omega
    apply round
    simp only [rst, rblock_l2_w, rblock_l2', go_sem, reduceCtorEq, Nat.reduceEqDiff, reduceIte, Nat.reduceAdd, Nat.reduceSub, Nat.reduceLeDiff, Int.reduceToNat, Nat.reduceBEq]
    rw [ilt_t (by omega)]
    simp only [go_sem, reduceCtorEq, Nat.reduceEqDiff, reduceIte, Nat.reduceAdd, Nat.reduceSub, Nat.reduceLeDiff, Int.reduceToNat, Nat.reduceBEq]
    repeat (refine ⟨by (try simp only [List.length_append, List.length_cons, List.length_nil, List.length_drop, List.length_take]); omega, ?_⟩)
    refine of_call (rturn_snd _ 6 (by decide) (by decide)) ?_
    simp only [gk, gw, q1, go_sem, reduceCtorEq, Nat.reduceEqDiff, reduceIte, Nat.reduceAdd, Nat.reduceSub, Nat.reduceLeDiff, Int.reduceToNat, Nat.reduceBEq]
    repeat (refine ⟨by (try simp only [List.length_append, List.length_cons, List.length_nil, List.length_drop, List.length_take]); omega, ?_⟩)
    refine of_call (rturn_snd _ 11 (by decide) (by decide)) ?_
    simp only [gk, gw, q1, go_sem, reduceCtorEq, Nat.reduceEqDiff, reduceIte, Nat.reduceAdd, Nat.reduceSub, Nat.reduceLeDiff, Int.reduceToNat, Nat.reduceBEq]
    repeat (refine ⟨by (try simp only [List.length_append, List.length_cons, List.length_nil, List.length_drop, List.length_take]); omega, ?_⟩)
    refine of_call (rturn_snd _ 25 (by decide) (by decide)) ?_
    simp only [gk, gw, q1, go_sem, reduceCtorEq, Nat.reduceEqDiff, reduceIte, Nat.reduceAdd, Nat.reduceSub, Nat.reduceLeDiff, Int.reduceToNat, Nat.reduceBEq]
    repeat (refine ⟨by (try simp only [List.length_append, List.length_cons, List.length_nil, List.length_drop, List.length_take]); omega, ?_⟩)
    simp only [rblock_k1_w, rblock_k1', go_sem, reduceCtorEq, Nat.reduceEqDiff, reduceIte, Nat.reduceAdd, Nat.reduceSub, Nat.reduceLeDiff, Int.reduceToNat, Nat.reduceBEq]
    refine of_call (rturn_snd _ 2 (by decide) (by decide)) ?_
    simp only [gk, gw, q1, go_sem, reduceCtorEq, Nat.reduceEqDiff, reduceIte, Nat.reduceAdd, Nat.reduceSub, Nat.reduceLeDiff, Int.reduceToNat, Nat.reduceBEq]
    repeat (refine ⟨by (try simp only [List.length_append, List.length_cons, List.length_nil, List.length_drop, List.length_take]); omega, ?_⟩)
    refine of_call (rturn_snd _ 13 (by decide) (by decide)) ?_
    simp only [gk, gw, q1, go_sem, reduceCtorEq, Nat.reduceEqDiff, reduceIte, Nat.reduceAdd, Nat.reduceSub, Nat.reduceLeDiff, Int.reduceToNat, Nat.reduceBEq]
    repeat (refine ⟨by (try simp only [List.length_append, List.length_cons, List.length_nil, List.length_drop, List.length_take]); omega, ?_⟩)
    refine of_call (rturn_snd _ 22 (by decide) (by decide)) ?_
    simp only [q1, go_sem, reduceCtorEq, Nat.reduceEqDiff, reduceIte, Nat.reduceAdd, Nat.reduceSub, Nat.reduceLeDiff, Int.reduceToNat, Nat.reduceBEq]
    simp only [rblock_k0_w, rblock_k0', q1, go_sem, reduceCtorEq, Nat.reduceEqDiff, reduceIte, Nat.reduceAdd, Nat.reduceSub, Nat.reduceLeDiff, Int.reduceToNat, Nat.reduceBEq]
    repeat (refine ⟨by (try simp only [List.length_append, List.length_cons, List.length_nil, List.length_drop, List.length_take]); omega, ?_⟩)
    have hch : ∀ e f g : UInt32, (e &&& f) ^^^ (~~~e &&& g) = (f &&& e) ^^^ (g &&& ~~~e) := fun e f g => by rw [UInt32.and_comm e f, UInt32.and_comm (~~~e) g]
    simp only [rst, Sh.round, Sh.S0, Sh.S1, Sh.at0_get (show t < Sh.K.length by rw [K_len]; omega), Sh.at0_get (show t < w.length by omega)] at this
    simp only [hch]
    exact this
set_option maxHeartbeats 4000000 in
set_option maxRecDepth 100000 in
theorem rblock_snd' (h : List UInt32) (hh : h.length = 8) (w : List UInt32) (hl : w.length = 64) (F : Sh.St) (hF : Sh.rounds w (Sh.St.of h) 64 = F) (B : List UInt32) (hB : Sh.plus h F = B) : Snd Tryd.prog (gl m) 121 [.sl .frn 1 (ws h), .sl .frn 1 (ws w), .sl .frn 1 (ws Sh.K)] (.sl .own 1 (ws B)) := by
  refine snd_of (fn := Tryd.f121) (af := rblock) Tryd.func121 (rblock_comp m) mixed (kn_ok m) (Nat.le_of_ble_eq_true rfl) ?_
  have g0 := ws_get h (i := 0) (by omega); have g1 := ws_get h (i := 1) (by omega); have g2 := ws_get h (i := 2) (by omega); have g3 := ws_get h (i := 3) (by omega)
  have g4 := ws_get h (i := 4) (by omega); have g5 := ws_get h (i := 5) (by omega); have g6 := ws_get h (i := 6) (by omega); have g7 := ws_get h (i := 7) (by omega)
  have := rblock_loop (m := m) h hh w hl (Sh.St.of h) F hF _ 0 rfl (by omega)
  rw [Sh.rounds, hB] at this
  simp only [rst, Sh.St.of, Sh.at0_get (show 0 < h.length by omega), Sh.at0_get (show 1 < h.length by omega), Sh.at0_get (show 2 < h.length by omega), Sh.at0_get (show 3 < h.length by omega), Sh.at0_get (show 4 < h.length by omega), Sh.at0_get (show 5 < h.length by omega), Sh.at0_get (show 6 < h.length by omega), Sh.at0_get (show 7 < h.length by omega)] at this
  simp only [rblock, g0, g1, g2, g3, go_sem, reduceCtorEq, Nat.reduceEqDiff, reduceIte, Nat.reduceAdd, Nat.reduceSub, Nat.reduceLeDiff, Int.reduceToNat, Nat.reduceBEq]
  repeat (refine ⟨by (try simp only [List.length_append, List.length_cons, List.length_nil, List.length_drop, List.length_take]); omega, ?_⟩)
  simp only [rblock_k6_w, rblock_k6', g4, g5, g6, g7, go_sem, reduceCtorEq, Nat.reduceEqDiff, reduceIte, Nat.reduceAdd, Nat.reduceSub, Nat.reduceLeDiff, Int.reduceToNat, Nat.reduceBEq]
  repeat (refine ⟨by (try simp only [List.length_append, List.length_cons, List.length_nil, List.length_drop, List.length_take]); omega, ?_⟩)
  simp only [rblock_k5_w, rblock_k5', go_sem, reduceCtorEq, Nat.reduceEqDiff, reduceIte, Nat.reduceAdd, Nat.reduceSub, Nat.reduceLeDiff, Int.reduceToNat, Nat.reduceBEq]
  exact this
theorem rblock_snd (h : List UInt32) (hh : h.length = 8) (b : Bs) : Snd Tryd.prog (gl m) 121 [.sl .frn 1 (ws h), .sl .frn 1 (ws (words b)), .sl .frn 1 (ws Sh.K)] (.sl .own 1 (ws (Sh.block h b))) :=
  rblock_snd' h hh (words b) (Sh.words_len b) _ rfl _ (by rw [Sh.block])
end Go.Aw

