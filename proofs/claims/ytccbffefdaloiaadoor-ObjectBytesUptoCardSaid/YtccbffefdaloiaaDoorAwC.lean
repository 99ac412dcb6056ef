import Derived.Test.YtccbffefdaloiaaDoorAwB
/- The digest, as the reference reckons. -/
namespace Go.Aw
open Go Go.Ev Go.Proofs
open Go.Sh (at0 rotr word byteAt words first16 nextW)
set_option linter.unusedVariables false
set_option linter.unusedSimpArgs false
attribute [local go_sem] eqs implies_true List.map_cons List.map_nil kl klL roD roL Option.map_some Option.map_none Option.getD_some Option.getD_none binObl if_true if_false eq_self passA frnD resD content getH getR getW viaNot viaSlot viaBox viaDeep viaMem List.contains_cons List.contains_nil grabs peeks okCells isCell place cellsOf chunk elt List.headD_cons List.length_cons List.length_nil List.take_succ_cons List.take_zero List.drop_succ_cons List.drop_zero List.nil_append List.cons_append List.append_nil List.all_cons List.all_nil plainC takeR setW over reCell List.getElem?_cons_zero List.getElem?_cons_succ List.set_cons_zero List.take_length outV resG plainV pack outVG outBx List.set_cons_succ Ref.idx Ref.addOff beq_self_eq_true bxL Option.bind_some writeR isLit viaBoxes capsPA boxPA nsOf noDup boxesAt argG passG passD rhoIn rhoOut idxIn tr trL List.getD_cons_zero gives pasOf isPtr Ins.d List.getD_cons_succ resL frnL un_not un_neg uw_not bn_add bn_sub bn_mul bn_quo bn_rem bn_eql bn_neq bn_lss bn_leq bn_gtr bn_geq bn_cat bn_same bw_add bw_xor bw_and bw_or bw_andNot bw_shl24 bw_shl16 bw_shl8 bw_shr24 bw_shr16 bw_shr8 bw_shr10 bw_shr3 frnL_ws resL_ws roL_ws klL_ws map_roD_ws passL_ws trL_ws ws_length ws_append ws_snoc ws_take ws_drop w_u8 List.getLast?_nil Nat.mul_one tab0_ws
variable {m : Int}
theorem w_ofNat (n : Nat) : IntKind.u8.wrap (n : Int) = ((UInt8.ofNat n).toNat : Int) := by
  rw [wrap_u8']; simp
theorem rem_nat (a b : Nat) : (a : Int).tmod (b : Int) = ((a % b : Nat) : Int) := (Int.ofNat_tmod a b).symm
theorem bl_shr (n k : Nat) (hk : k ≤ 64) (q : IntKind) : binVal .shr (.int .u64 (n : Int)) (.int q (k : Int)) = .int .u64 ((n / 2 ^ k : Nat) : Int) := by
  simp only [binVal, bits_u64, Int.toNat_natCast, Nat.min_eq_left hk]
  rw [show ((2 : Int) ^ k) = ((2 ^ k : Nat) : Int) by simp, fdiv_nat]
theorem bl_mul (a b : Nat) (q : IntKind) (h : a * b < 18446744073709551616) : binVal .mul (.int .u64 (a : Int)) (.int q (b : Int)) = .int .u64 ((a * b : Nat) : Int) := by
  have e : ((a : Int) * (b : Int)) = ((a * b : Nat) : Int) := by simp
  simp only [binVal, e]
  generalize a * b = x at h ⊢
  exact congrArg (Value.int .u64) (by rw [wrap_u64']; omega)
theorem bs_one (l : Bs) (c : UInt8) (n : Int) (h : (c.toNat : Int) = n) : bs l ++ [.lit (.int .u8 n)] = bs (l ++ [c]) := bs_lit l h
theorem bs_two (l : Bs) (a b : UInt8) : bs l ++ [U8 a, U8 b] = bs (l ++ [a, b]) := by simp [bs]
theorem bs_four (l : Bs) (a b c d : UInt8) : bs l ++ [U8 a, U8 b, U8 c, U8 d] = bs (l ++ [a, b, c, d]) := by simp [bs]
theorem be64_len (n : Nat) : (Sh.be64 n).length = 8 := rfl
theorem be64_take (L : Nat) {i : Nat} (h : i < 8) : (Sh.be64 L).take (8 - (i + 1)) ++ [UInt8.ofNat (L / 2 ^ (8 * i))] = (Sh.be64 L).take (8 - i) := by
  match i, h with
  | 0, _ => simp [Sh.be64]
  | 1, _ | 2, _ | 3, _ | 4, _ | 5, _ | 6, _ | 7, _ => rfl
theorem digit_hi (c : UInt8) : c >>> (4 : UInt8) = UInt8.ofNat (c.toNat / 16) := by
  have := UInt8.toNat_lt c
  apply UInt8.toNat_inj.1; simp [UInt8.toNat_shiftRight, Nat.shiftRight_eq_div_pow]; omega
theorem digit_lo (c : UInt8) : c &&& (15 : UInt8) = UInt8.ofNat (c.toNat % 16) := by
  apply UInt8.toNat_inj.1; simp [UInt8.toNat_and]; rw [show (15:Nat) = 2^4 - 1 by rfl, Nat.and_two_pow_sub_one_eq_mod]; omega
theorem digits_get {k : Nat} (h : k < 16) : ([48, 49, 50, 51, 52, 53, 54, 55, 56, 57, 97, 98, 99, 100, 101, 102] : Bs)[k]? = some (Sh.digit (UInt8.ofNat k)) := by
  revert k; decide
theorem flatMap_snoc {α β : Type} (f : α → List β) (l : List α) (x : α) : (l ++ [x]).flatMap f = l.flatMap f ++ f x := by simp
def rfirst : AF := ⟨.seq (.reg (.seq [⟨(some (0, true)), none, .mov (.cst (.slice none 0 0) (.sl .own 1 [])) .asg⟩])) [] []
  (.seq (.reg (.seq [⟨(some (1, false)), none, .buildS 1 8 [(.lit (.int .u32 0)), (.lit (.int .u32 0)), (.lit (.int .u32 0)), (.lit (.int .u32 0)), (.lit (.int .u32 0)), (.lit (.int .u32 0)), (.lit (.int .u32 0)), (.lit (.int .u32 0))] [(0, 1, (.cst (.int .u32 1779033703) (.lit (.int .u32 1779033703)))), (1, 1, (.cst (.int .u32 3144134277) (.lit (.int .u32 3144134277)))), (2, 1, (.cst (.int .u32 1013904242) (.lit (.int .u32 1013904242)))), (3, 1, (.cst (.int .u32 2773480762) (.lit (.int .u32 2773480762)))), (4, 1, (.cst (.int .u32 1359893119) (.lit (.int .u32 1359893119)))), (5, 1, (.cst (.int .u32 2600822924) (.lit (.int .u32 2600822924)))), (6, 1, (.cst (.int .u32 528734635) (.lit (.int .u32 528734635)))), (7, 1, (.cst (.int .u32 1541459225) (.lit (.int .u32 1541459225))))]⟩,
      ⟨(some (0, true)), none, .mov (.tmp 1 false) .asg⟩])) [0] []
  (.ret)),
  [.tmp 0]⟩
theorem rfirst_comp (m : Int) : compF Tryd.prog (gl m) [] Tryd.f119 = some rfirst := by kernel_rfl
def rkeys : AF := ⟨.seq (.reg (.seq [⟨(some (0, true)), none, .mov (.cst (.slice none 0 0) (.sl .own 1 [])) .asg⟩])) [] []
  (.seq (.reg (.seq [⟨(some (1, false)), none, .buildS 1 64 [(.lit (.int .u32 0)), (.lit (.int .u32 0)), (.lit (.int .u32 0)), (.lit (.int .u32 0)), (.lit (.int .u32 0)), (.lit (.int .u32 0)), (.lit (.int .u32 0)), (.lit (.int .u32 0)), (.lit (.int .u32 0)), (.lit (.int .u32 0)), (.lit (.int .u32 0)), (.lit (.int .u32 0)), (.lit (.int .u32 0)), (.lit (.int .u32 0)), (.lit (.int .u32 0)), (.lit (.int .u32 0)), (.lit (.int .u32 0)), (.lit (.int .u32 0)), (.lit (.int .u32 0)), (.lit (.int .u32 0)), (.lit (.int .u32 0)), (.lit (.int .u32 0)), (.lit (.int .u32 0)), (.lit (.int .u32 0)), (.lit (.int .u32 0)), (.lit (.int .u32 0)), (.lit (.int .u32 0)), (.lit (.int .u32 0)), (.lit (.int .u32 0)), (.lit (.int .u32 0)), (.lit (.int .u32 0)), (.lit (.int .u32 0)), (.lit (.int .u32 0)), (.lit (.int .u32 0)), (.lit (.int .u32 0)), (.lit (.int .u32 0)), (.lit (.int .u32 0)), (.lit (.int .u32 0)), (.lit (.int .u32 0)), (.lit (.int .u32 0)), (.lit (.int .u32 0)), (.lit (.int .u32 0)), (.lit (.int .u32 0)), (.lit (.int .u32 0)), (.lit (.int .u32 0)), (.lit (.int .u32 0)), (.lit (.int .u32 0)), (.lit (.int .u32 0)), (.lit (.int .u32 0)), (.lit (.int .u32 0)), (.lit (.int .u32 0)), (.lit (.int .u32 0)), (.lit (.int .u32 0)), (.lit (.int .u32 0)), (.lit (.int .u32 0)), (.lit (.int .u32 0)), (.lit (.int .u32 0)), (.lit (.int .u32 0)), (.lit (.int .u32 0)), (.lit (.int .u32 0)), (.lit (.int .u32 0)), (.lit (.int .u32 0)), (.lit (.int .u32 0)), (.lit (.int .u32 0))] [(0, 1, (.cst (.int .u32 1116352408) (.lit (.int .u32 1116352408)))), (1, 1, (.cst (.int .u32 1899447441) (.lit (.int .u32 1899447441)))), (2, 1, (.cst (.int .u32 3049323471) (.lit (.int .u32 3049323471)))), (3, 1, (.cst (.int .u32 3921009573) (.lit (.int .u32 3921009573)))), (4, 1, (.cst (.int .u32 961987163) (.lit (.int .u32 961987163)))), (5, 1, (.cst (.int .u32 1508970993) (.lit (.int .u32 1508970993)))), (6, 1, (.cst (.int .u32 2453635748) (.lit (.int .u32 2453635748)))), (7, 1, (.cst (.int .u32 2870763221) (.lit (.int .u32 2870763221)))), (8, 1, (.cst (.int .u32 3624381080) (.lit (.int .u32 3624381080)))), (9, 1, (.cst (.int .u32 310598401) (.lit (.int .u32 310598401)))), (10, 1, (.cst (.int .u32 607225278) (.lit (.int .u32 607225278)))), (11, 1, (.cst (.int .u32 1426881987) (.lit (.int .u32 1426881987)))), (12, 1, (.cst (.int .u32 1925078388) (.lit (.int .u32 1925078388)))), (13, 1, (.cst (.int .u32 2162078206) (.lit (.int .u32 2162078206)))), (14, 1, (.cst (.int .u32 2614888103) (.lit (.int .u32 2614888103)))), (15, 1, (.cst (.int .u32 3248222580) (.lit (.int .u32 3248222580)))), (16, 1, (.cst (.int .u32 3835390401) (.lit (.int .u32 3835390401)))), (17, 1, (.cst (.int .u32 4022224774) (.lit (.int .u32 4022224774)))), (18, 1, (.cst (.int .u32 264347078) (.lit (.int .u32 264347078)))), (19, 1, (.cst (.int .u32 604807628) (.lit (.int .u32 604807628)))), (20, 1, (.cst (.int .u32 770255983) (.lit (.int .u32 770255983)))), (21, 1, (.cst (.int .u32 1249150122) (.lit (.int .u32 1249150122)))), (22, 1, (.cst (.int .u32 1555081692) (.lit (.int .u32 1555081692)))), (23, 1, (.cst (.int .u32 1996064986) (.lit (.int .u32 1996064986)))), (24, 1, (.cst (.int .u32 2554220882) (.lit (.int .u32 2554220882)))), (25, 1, (.cst (.int .u32 2821834349) (.lit (.int .u32 2821834349)))), (26, 1, (.cst (.int .u32 2952996808) (.lit (.int .u32 2952996808)))), (27, 1, (.cst (.int .u32 3210313671) (.lit (.int .u32 3210313671)))), (28, 1, (.cst (.int .u32 3336571891) (.lit (.int .u32 3336571891)))), (29, 1, (.cst (.int .u32 3584528711) (.lit (.int .u32 3584528711)))), (30, 1, (.cst (.int .u32 113926993) (.lit (.int .u32 113926993)))), (31, 1, (.cst (.int .u32 338241895) (.lit (.int .u32 338241895)))), (32, 1, (.cst (.int .u32 666307205) (.lit (.int .u32 666307205)))), (33, 1, (.cst (.int .u32 773529912) (.lit (.int .u32 773529912)))), (34, 1, (.cst (.int .u32 1294757372) (.lit (.int .u32 1294757372)))), (35, 1, (.cst (.int .u32 1396182291) (.lit (.int .u32 1396182291)))), (36, 1, (.cst (.int .u32 1695183700) (.lit (.int .u32 1695183700)))), (37, 1, (.cst (.int .u32 1986661051) (.lit (.int .u32 1986661051)))), (38, 1, (.cst (.int .u32 2177026350) (.lit (.int .u32 2177026350)))), (39, 1, (.cst (.int .u32 2456956037) (.lit (.int .u32 2456956037)))), (40, 1, (.cst (.int .u32 2730485921) (.lit (.int .u32 2730485921)))), (41, 1, (.cst (.int .u32 2820302411) (.lit (.int .u32 2820302411)))), (42, 1, (.cst (.int .u32 3259730800) (.lit (.int .u32 3259730800)))), (43, 1, (.cst (.int .u32 3345764771) (.lit (.int .u32 3345764771)))), (44, 1, (.cst (.int .u32 3516065817) (.lit (.int .u32 3516065817)))), (45, 1, (.cst (.int .u32 3600352804) (.lit (.int .u32 3600352804)))), (46, 1, (.cst (.int .u32 4094571909) (.lit (.int .u32 4094571909)))), (47, 1, (.cst (.int .u32 275423344) (.lit (.int .u32 275423344)))), (48, 1, (.cst (.int .u32 430227734) (.lit (.int .u32 430227734)))), (49, 1, (.cst (.int .u32 506948616) (.lit (.int .u32 506948616)))), (50, 1, (.cst (.int .u32 659060556) (.lit (.int .u32 659060556)))), (51, 1, (.cst (.int .u32 883997877) (.lit (.int .u32 883997877)))), (52, 1, (.cst (.int .u32 958139571) (.lit (.int .u32 958139571)))), (53, 1, (.cst (.int .u32 1322822218) (.lit (.int .u32 1322822218)))), (54, 1, (.cst (.int .u32 1537002063) (.lit (.int .u32 1537002063)))), (55, 1, (.cst (.int .u32 1747873779) (.lit (.int .u32 1747873779)))), (56, 1, (.cst (.int .u32 1955562222) (.lit (.int .u32 1955562222)))), (57, 1, (.cst (.int .u32 2024104815) (.lit (.int .u32 2024104815)))), (58, 1, (.cst (.int .u32 2227730452) (.lit (.int .u32 2227730452)))), (59, 1, (.cst (.int .u32 2361852424) (.lit (.int .u32 2361852424)))), (60, 1, (.cst (.int .u32 2428436474) (.lit (.int .u32 2428436474)))), (61, 1, (.cst (.int .u32 2756734187) (.lit (.int .u32 2756734187)))), (62, 1, (.cst (.int .u32 3204031479) (.lit (.int .u32 3204031479)))), (63, 1, (.cst (.int .u32 3329325298) (.lit (.int .u32 3329325298))))]⟩,
      ⟨(some (0, true)), none, .mov (.tmp 1 false) .asg⟩])) [0] []
  (.ret)),
  [.tmp 0]⟩
theorem rkeys_comp (m : Int) : compF Tryd.prog (gl m) [] Tryd.f120 = some rkeys := by kernel_rfl
def rdigest_l0' : AC := .seq (.seq (.reg (.seq [⟨(some (17, false)), none, .mov (.tmp 0 true) .peek⟩,
      ⟨(some (18, false)), none, .len (.tmp 17 false)⟩,
      ⟨(some (19, false)), none, .mov (.tmp 4 true) .peek⟩,
      ⟨(some (20, false)), none, .lenL (.tmp 19 false)⟩,
      ⟨(some (21, false)), none, .bin .add (.tmp 18 false) (.tmp 20 false)⟩,
      ⟨(some (22, false)), none, .bin .rem (.tmp 21 false) (.cst (.int .i64 64) (.lit (.int .i64 64)))⟩,
      ⟨(some (23, false)), none, .bin .neq (.tmp 22 false) (.cst (.int .i64 56) (.lit (.int .i64 56)))⟩])) [0, 3, 4, 23] []
  (.cond (.tmp 23 false)
    (.skip)
    (.exit 0))) [0, 3, 4] []
  (.block 1 (.reg (.seq [⟨(some (24, false)), none, .mov (.tmp 4 true) .take⟩,
      ⟨(some (25, false)), none, .buildS 1 1 [(.lit (.int .u8 0))] [(0, 1, (.cst (.int .u8 0) (.lit (.int .u8 0))))]⟩,
      ⟨(some (26, false)), none, .app 1 1 (.tmp 24 false) (.tmp 25 false)⟩,
      ⟨(some (4, true)), none, .mov (.tmp 26 false) .asg⟩])))
def rdigest_l0 : AC := rdigest_l0'
theorem rdigest_l0_w (C : Kn) (K : Ex → St → Prop) (s : St) : vcC C rdigest_l0 K s = vcC C rdigest_l0' K s := nr rfl
def rdigest_l1' : AC := .seq (.seq (.reg (.seq [⟨(some (27, false)), none, .mov (.tmp 5 true) .peek⟩,
      ⟨(some (28, false)), none, .bin .geq (.tmp 27 false) (.cst (.int .i64 0) (.lit (.int .i64 0)))⟩])) [0, 3, 4, 5, 28] []
  (.cond (.tmp 28 false)
    (.skip)
    (.exit 2))) [0, 3, 4, 5] []
  (.seq (.block 3 (.reg (.seq [⟨(some (31, false)), none, .mov (.tmp 4 true) .take⟩,
      ⟨(some (32, false)), none, .mov (.tmp 3 true) .peek⟩,
      ⟨(some (33, false)), none, .mov (.tmp 5 true) .peek⟩,
      ⟨(some (34, false)), none, .bin .mul (.cst (.int .i64 8) (.lit (.int .i64 8))) (.tmp 33 false)⟩,
      ⟨(some (35, false)), none, .bin .shr (.tmp 32 false) (.tmp 34 false)⟩,
      ⟨(some (36, false)), none, .cvt .u8 (.tmp 35 false)⟩,
      ⟨(some (37, false)), none, .buildS 1 1 [(.lit (.int .u8 0))] [(0, 1, (.tmp 36 false))]⟩,
      ⟨(some (38, false)), none, .app 1 1 (.tmp 31 false) (.tmp 37 false)⟩,
      ⟨(some (4, true)), none, .mov (.tmp 38 false) .asg⟩]))) [0, 3, 4, 5] []
  (.reg (.seq [⟨(some (29, false)), none, .mov (.tmp 5 true) .peek⟩,
      ⟨(some (30, false)), none, .bin .sub (.tmp 29 false) (.cst (.int .i64 1) (.lit (.int .i64 1)))⟩,
      ⟨(some (5, true)), none, .mov (.tmp 30 false) .asg⟩])))
def rdigest_l1 : AC := rdigest_l1'
theorem rdigest_l1_w (C : Kn) (K : Ex → St → Prop) (s : St) : vcC C rdigest_l1 K s = vcC C rdigest_l1' K s := nr rfl
def rdigest_l2' : AC := .seq (.seq (.reg (.seq [⟨(some (45, false)), none, .mov (.tmp 9 true) .peek⟩,
      ⟨(some (46, false)), none, .mov (.tmp 6 true) .peek⟩,
      ⟨(some (47, false)), none, .len (.tmp 46 false)⟩,
      ⟨(some (48, false)), none, .bin .lss (.tmp 45 false) (.tmp 47 false)⟩])) [6, 7, 8, 9, 48] []
  (.cond (.tmp 48 false)
    (.skip)
    (.exit 4))) [6, 7, 8, 9] []
  (.seq (.block 5 (.reg (.seq [⟨(some (51, false)), none, .mov (.tmp 7 true) .peek⟩,
      ⟨(some (52, false)), none, .mov (.tmp 6 true) .peek⟩,
      ⟨(some (53, false)), none, .mov (.tmp 9 true) .peek⟩,
      ⟨(some (54, false)), none, .call 122 [(.tmp 52 false), (.tmp 53 false)]⟩,
      ⟨(some (55, false)), none, .mov (.tmp 8 true) .peek⟩,
      ⟨(some (56, false)), none, .call 121 [(.tmp 51 false), (.tmp 54 false), (.tmp 55 false)]⟩,
      ⟨(some (7, true)), none, .mov (.tmp 56 false) .asg⟩]))) [6, 7, 8, 9] []
  (.reg (.seq [⟨(some (49, false)), none, .mov (.tmp 9 true) .peek⟩,
      ⟨(some (50, false)), none, .bin .add (.tmp 49 false) (.cst (.int .i64 64) (.lit (.int .i64 64)))⟩,
      ⟨(some (9, true)), none, .mov (.tmp 50 false) .asg⟩])))
def rdigest_l2 : AC := rdigest_l2'
theorem rdigest_l2_w (C : Kn) (K : Ex → St → Prop) (s : St) : vcC C rdigest_l2 K s = vcC C rdigest_l2' K s := nr rfl
def rdigest_l3' : AC := .seq (.seq (.reg (.seq [⟨(some (58, false)), none, .mov (.tmp 11 true) .peek⟩,
      ⟨(some (59, false)), none, .bin .lss (.tmp 58 false) (.cst (.int .i64 8) (.lit (.int .i64 8)))⟩])) [7, 10, 11, 59] []
  (.cond (.tmp 59 false)
    (.skip)
    (.exit 6))) [7, 10, 11] []
  (.seq (.block 7 (.reg (.draw [⟨(some (62, false)), none, .mov (.tmp 10 true) .peek⟩,
      ⟨(some (63, false)), none, .mov (.tmp 7 true) .peek⟩,
      ⟨(some (64, false)), none, .mov (.tmp 11 true) .peek⟩,
      ⟨(some (65, false)), none, .iad (.tmp 63 false) (.tmp 64 false) 1⟩,
      ⟨(some (66, false)), none, .load (.tmp 65 false) 1 false false⟩,
      ⟨(some (67, false)), none, .bin .shr (.tmp 66 false) (.cst (.int .u64 24) (.lit (.int .u64 24)))⟩,
      ⟨(some (68, false)), none, .cvt .u8 (.tmp 67 false)⟩,
      ⟨(some (69, false)), none, .mov (.tmp 7 true) .peek⟩,
      ⟨(some (70, false)), none, .mov (.tmp 11 true) .peek⟩,
      ⟨(some (71, false)), none, .iad (.tmp 69 false) (.tmp 70 false) 1⟩,
      ⟨(some (72, false)), none, .load (.tmp 71 false) 1 false false⟩,
      ⟨(some (73, false)), none, .bin .shr (.tmp 72 false) (.cst (.int .u64 16) (.lit (.int .u64 16)))⟩,
      ⟨(some (74, false)), none, .cvt .u8 (.tmp 73 false)⟩,
      ⟨(some (75, false)), none, .mov (.tmp 7 true) .peek⟩,
      ⟨(some (76, false)), none, .mov (.tmp 11 true) .peek⟩,
      ⟨(some (77, false)), none, .iad (.tmp 75 false) (.tmp 76 false) 1⟩,
      ⟨(some (78, false)), none, .load (.tmp 77 false) 1 false false⟩,
      ⟨(some (79, false)), none, .bin .shr (.tmp 78 false) (.cst (.int .u64 8) (.lit (.int .u64 8)))⟩,
      ⟨(some (80, false)), none, .cvt .u8 (.tmp 79 false)⟩,
      ⟨(some (81, false)), none, .mov (.tmp 7 true) .peek⟩,
      ⟨(some (82, false)), none, .mov (.tmp 11 true) .peek⟩,
      ⟨(some (83, false)), none, .iad (.tmp 81 false) (.tmp 82 false) 1⟩,
      ⟨(some (84, false)), none, .load (.tmp 83 false) 1 false false⟩,
      ⟨(some (85, false)), none, .cvt .u8 (.tmp 84 false)⟩] (.alt ⟨(some (86, false)), none, .buildS 1 4 [(.lit (.int .u8 0)), (.lit (.int .u8 0)), (.lit (.int .u8 0)), (.lit (.int .u8 0))] [(0, 1, (.tmp 68 false)), (1, 1, (.tmp 74 false)), (2, 1, (.tmp 80 false)), (3, 1, (.tmp 85 false))]⟩ [⟨(some (62, false)), none, .mov (.tmp 10 true) .peek⟩]
      (.alt ⟨(some (87, false)), none, .app 1 1 (.tmp 62 false) (.tmp 86 false)⟩ []
      (.alt ⟨(some (10, true)), none, .mov (.tmp 87 false) .asg⟩ []
      .done .no) .no) .no)))) [7, 10, 11] []
  (.reg (.seq [⟨(some (60, false)), none, .mov (.tmp 11 true) .peek⟩,
      ⟨(some (61, false)), none, .bin .add (.tmp 60 false) (.cst (.int .i64 1) (.lit (.int .i64 1)))⟩,
      ⟨(some (11, true)), none, .mov (.tmp 61 false) .asg⟩])))
def rdigest_l3 : AC := rdigest_l3'
theorem rdigest_l3_w (C : Kn) (K : Ex → St → Prop) (s : St) : vcC C rdigest_l3 K s = vcC C rdigest_l3' K s := nr rfl
def rdigest_k4' : AC := .seq (.reg (.seq [⟨(some (88, false)), none, .mov (.tmp 10 true) .peek⟩,
      ⟨(some (89, false)), none, .b2s (.tmp 88 false)⟩,
      ⟨(some (2, true)), none, .mov (.tmp 89 false) .asg⟩])) [2] []
  (.ret)
def rdigest_k4 : AC := rdigest_k4'
theorem rdigest_k4_w (C : Kn) (K : Ex → St → Prop) (s : St) : vcC C rdigest_k4 K s = vcC C rdigest_k4' K s := nr rfl
def rdigest_k5' : AC := .seq (.reg (.seq [⟨(some (57, false)), none, .buildS 1 0 [] []⟩,
      ⟨(some (10, true)), none, .mov (.tmp 57 false) .asg⟩])) [7, 10] []
  (.seq (.seq (.reg (.seq [⟨(some (11, true)), none, .mov (.cst (.int .i64 0) (.lit (.int .i64 0))) .asg⟩])) [7, 10, 11] []
  (.block 6 (.loop [7, 10, 11] [] rdigest_l3))) [10] [] rdigest_k4)
def rdigest_k5 : AC := rdigest_k5'
theorem rdigest_k5_w (C : Kn) (K : Ex → St → Prop) (s : St) : vcC C rdigest_k5 K s = vcC C rdigest_k5' K s := nr rfl
def rdigest_k6' : AC := .seq (.reg (.seq [⟨(some (39, false)), none, .mov (.tmp 0 true) .peek⟩,
      ⟨(some (40, false)), none, .mov (.tmp 4 true) .peek⟩,
      ⟨(some (41, false)), none, .b2s (.tmp 40 false)⟩,
      ⟨(some (42, false)), none, .bin .add (.tmp 39 false) (.tmp 41 false)⟩,
      ⟨(some (6, true)), none, .mov (.tmp 42 false) .asg⟩])) [6] []
  (.seq (.reg (.seq [⟨(some (43, false)), none, .call 119 []⟩,
      ⟨(some (7, true)), none, .mov (.tmp 43 false) .asg⟩])) [6, 7] []
  (.seq (.reg (.seq [⟨(some (44, false)), none, .call 120 []⟩,
      ⟨(some (8, true)), none, .mov (.tmp 44 false) .asg⟩])) [6, 7, 8] []
  (.seq (.seq (.reg (.seq [⟨(some (9, true)), none, .mov (.cst (.int .i64 0) (.lit (.int .i64 0))) .asg⟩])) [6, 7, 8, 9] []
  (.block 4 (.loop [6, 7, 8, 9] [] rdigest_l2))) [7] [] rdigest_k5)))
def rdigest_k6 : AC := rdigest_k6'
theorem rdigest_k6_w (C : Kn) (K : Ex → St → Prop) (s : St) : vcC C rdigest_k6 K s = vcC C rdigest_k6' K s := nr rfl
def rdigest_k7' : AC := .seq (.seq (.reg (.seq [⟨(some (5, true)), none, .mov (.cst (.int .i64 7) (.lit (.int .i64 7))) .asg⟩])) [0, 3, 4, 5] []
  (.block 2 (.loop [0, 3, 4, 5] [] rdigest_l1))) [0, 4] [] rdigest_k6
def rdigest_k7 : AC := rdigest_k7'
theorem rdigest_k7_w (C : Kn) (K : Ex → St → Prop) (s : St) : vcC C rdigest_k7 K s = vcC C rdigest_k7' K s := nr rfl
def rdigest : AF := ⟨.seq (.reg (.seq [⟨(some (2, true)), none, .mov (.cst (.string (str [])) (.lit (.string (str [])))) .asg⟩])) [0] []
  (.seq (.reg (.seq [⟨(some (12, false)), none, .mov (.tmp 0 true) .peek⟩,
      ⟨(some (13, false)), none, .len (.tmp 12 false)⟩,
      ⟨(some (14, false)), none, .cvt .u64 (.tmp 13 false)⟩,
      ⟨(some (15, false)), none, .bin .mul (.tmp 14 false) (.cst (.int .u64 8) (.lit (.int .u64 8)))⟩,
      ⟨(some (3, true)), none, .mov (.tmp 15 false) .asg⟩])) [0, 3] []
  (.seq (.reg (.seq [⟨(some (16, false)), none, .buildS 1 1 [(.lit (.int .u8 0))] [(0, 1, (.cst (.int .u8 128) (.lit (.int .u8 128))))]⟩,
      ⟨(some (4, true)), none, .mov (.tmp 16 false) .asg⟩])) [0, 3, 4] []
  (.seq (.block 0 (.loop [0, 3, 4] [] rdigest_l0)) [0, 3, 4] [] rdigest_k7))),
  [.tmp 2]⟩
theorem rdigest_comp (m : Int) : compF Tryd.prog (gl m) [] Tryd.f98 = some rdigest := by kernel_rfl
def rhex_l0' : AC := .seq (.seq (.reg (.seq [⟨(some (7, false)), none, .mov (.tmp 5 true) .peek⟩,
      ⟨(some (8, false)), none, .mov (.tmp 0 true) .peek⟩,
      ⟨(some (9, false)), none, .len (.tmp 8 false)⟩,
      ⟨(some (10, false)), none, .bin .lss (.tmp 7 false) (.tmp 9 false)⟩])) [0, 3, 4, 5, 10] []
  (.cond (.tmp 10 false)
    (.skip)
    (.exit 0))) [0, 3, 4, 5] []
  (.seq (.block 1 (.reg (.draw [⟨(some (13, false)), none, .mov (.tmp 4 true) .peek⟩,
      ⟨(some (14, false)), none, .mov (.tmp 3 true) .peek⟩,
      ⟨(some (15, false)), none, .mov (.tmp 0 true) .peek⟩,
      ⟨(some (16, false)), none, .mov (.tmp 5 true) .peek⟩,
      ⟨(some (17, false)), none, .idx (.tmp 15 false) (.tmp 16 false)⟩,
      ⟨(some (18, false)), none, .bin .quo (.tmp 17 false) (.cst (.int .u8 16) (.lit (.int .u8 16)))⟩,
      ⟨(some (19, false)), none, .idx (.tmp 14 false) (.tmp 18 false)⟩,
      ⟨(some (20, false)), none, .mov (.tmp 3 true) .peek⟩,
      ⟨(some (21, false)), none, .mov (.tmp 0 true) .peek⟩,
      ⟨(some (22, false)), none, .mov (.tmp 5 true) .peek⟩,
      ⟨(some (23, false)), none, .idx (.tmp 21 false) (.tmp 22 false)⟩,
      ⟨(some (24, false)), none, .bin .rem (.tmp 23 false) (.cst (.int .u8 16) (.lit (.int .u8 16)))⟩,
      ⟨(some (25, false)), none, .idx (.tmp 20 false) (.tmp 24 false)⟩] (.alt ⟨(some (26, false)), none, .buildS 1 2 [(.lit (.int .u8 0)), (.lit (.int .u8 0))] [(0, 1, (.tmp 19 false)), (1, 1, (.tmp 25 false))]⟩ [⟨(some (13, false)), none, .mov (.tmp 4 true) .peek⟩]
      (.alt ⟨(some (27, false)), none, .app 1 1 (.tmp 13 false) (.tmp 26 false)⟩ []
      (.alt ⟨(some (4, true)), none, .mov (.tmp 27 false) .asg⟩ []
      .done .no) .no) .no)))) [0, 3, 4, 5] []
  (.reg (.seq [⟨(some (11, false)), none, .mov (.tmp 5 true) .peek⟩,
      ⟨(some (12, false)), none, .bin .add (.tmp 11 false) (.cst (.int .i64 1) (.lit (.int .i64 1)))⟩,
      ⟨(some (5, true)), none, .mov (.tmp 12 false) .asg⟩])))
def rhex_l0 : AC := rhex_l0'
theorem rhex_l0_w (C : Kn) (K : Ex → St → Prop) (s : St) : vcC C rhex_l0 K s = vcC C rhex_l0' K s := nr rfl
def rhex_k1' : AC := .seq (.reg (.seq [⟨(some (28, false)), none, .mov (.tmp 4 true) .peek⟩,
      ⟨(some (29, false)), none, .b2s (.tmp 28 false)⟩,
      ⟨(some (2, true)), none, .mov (.tmp 29 false) .asg⟩])) [2] []
  (.ret)
def rhex_k1 : AC := rhex_k1'
theorem rhex_k1_w (C : Kn) (K : Ex → St → Prop) (s : St) : vcC C rhex_k1 K s = vcC C rhex_k1' K s := nr rfl
def rhex : AF := ⟨.seq (.reg (.seq [⟨(some (2, true)), none, .mov (.cst (.string (str [])) (.lit (.string (str [])))) .asg⟩])) [0] []
  (.seq (.reg (.seq [⟨(some (3, true)), none, .mov (.cst (.string (str [48, 49, 50, 51, 52, 53, 54, 55, 56, 57, 97, 98, 99, 100, 101, 102])) (.lit (.string (str [48, 49, 50, 51, 52, 53, 54, 55, 56, 57, 97, 98, 99, 100, 101, 102])))) .asg⟩])) [0, 3] []
  (.seq (.reg (.seq [⟨(some (6, false)), none, .buildS 1 0 [] []⟩,
      ⟨(some (4, true)), none, .mov (.tmp 6 false) .asg⟩])) [0, 3, 4] []
  (.seq (.seq (.reg (.seq [⟨(some (5, true)), none, .mov (.cst (.int .i64 0) (.lit (.int .i64 0))) .asg⟩])) [0, 3, 4, 5] []
  (.block 0 (.loop [0, 3, 4, 5] [] rhex_l0))) [4] [] rhex_k1))),
  [.tmp 2]⟩
theorem rhex_comp (m : Int) : compF Tryd.prog (gl m) [] Tryd.f97 = some rhex := by kernel_rfl
def rof : AF := ⟨.seq (.reg (.seq [⟨(some (2, true)), none, .mov (.cst (.string (str [])) (.lit (.string (str [])))) .asg⟩])) [0] []
  (.seq (.reg (.seq [⟨(some (3, false)), none, .mov (.tmp 0 true) .peek⟩,
      ⟨(some (4, false)), none, .call 98 [(.tmp 3 false)]⟩,
      ⟨(some (5, false)), none, .sub (.tmp 4 false) none (some (.cst (.int .i64 20) (.lit (.int .i64 20))))⟩,
      ⟨(some (6, false)), none, .call 97 [(.tmp 5 false)]⟩,
      ⟨(some (2, true)), none, .mov (.tmp 6 false) .asg⟩])) [2] []
  (.ret)),
  [.tmp 2]⟩
theorem rof_comp (m : Int) : compF Tryd.prog (gl m) [] Tryd.f65 = some rof := by kernel_rfl

theorem rfirst_snd : Snd Tryd.prog (gl m) 119 [] (.sl .own 1 (ws Sh.H0)) := by
  refine snd_of (fn := Tryd.f119) (af := rfirst) Tryd.func119 (rfirst_comp m) mixed (kn_ok m) (Nat.le_of_ble_eq_true rfl) ?_
  simp only [rfirst, go_sem, reduceCtorEq, Nat.reduceEqDiff, reduceIte, Nat.reduceAdd, Nat.reduceSub, Nat.reduceLeDiff, Int.reduceToNat, Nat.reduceBEq]
  rfl
theorem rkeys_snd : Snd Tryd.prog (gl m) 120 [] (.sl .own 1 (ws Sh.K)) := by
  refine snd_of (fn := Tryd.f120) (af := rkeys) Tryd.func120 (rkeys_comp m) mixed (kn_ok m) (Nat.le_of_ble_eq_true rfl) ?_
  simp only [rkeys, go_sem, reduceCtorEq, Nat.reduceEqDiff, reduceIte, Nat.reduceAdd, Nat.reduceSub, Nat.reduceLeDiff, Int.reduceToNat, Nat.reduceBEq]
  rfl
abbrev U64 (n : Nat) : AV := .lit (.int .u64 (n : Int))
theorem gap_stop (n : Nat) : (n + (1 + Sh.gap n)) % 64 = 56 := by simp only [Sh.gap]; omega
theorem gap_go (n : Nat) {j : Nat} (h : j < Sh.gap n) : (n + (1 + j)) % 64 ≠ 56 := by simp only [Sh.gap] at h; omega
theorem gap_le (n : Nat) : Sh.gap n < 64 := by simp only [Sh.gap]; omega
def marks (j : Nat) : Bs := 128 :: List.replicate j 0
theorem marks_len (j : Nat) : (marks j).length = j + 1 := by simp [marks]
theorem marks_snoc (j : Nat) : marks j ++ [0] = marks (j + 1) := by simp [marks, List.replicate_succ']
theorem rdigest_loop0 (s : Bs) (hs : s.length ≤ 4294967000) (L : Nat) (K : Ex → Ev.St → Prop) (hK : K (.exit 0) (mkS [(0, S s), (3, U64 L), (4, .sl .own 1 (bs (marks (Sh.gap s.length)))), (23, B false)] [])) (n : Nat) : ∀ (j : Nat) (hn : Sh.gap s.length - j = n) (hj : j ≤ Sh.gap s.length),
    vcL (kn m) [0, 3, 4] [] rdigest_l0 K (mkS [(0, S s), (3, U64 L), (4, .sl .own 1 (bs (marks j)))] []) := by
  have hg := gap_le s.length
  induction n with
  | zero =>
    intro j hn hj
    obtain rfl : j = Sh.gap s.length := by omega
    have q : IntKind.i64.wrap ((s.length : Int) + ((marks (Sh.gap s.length)).length : Int)) = ((s.length + (1 + Sh.gap s.length) : Nat) : Int) := by rw [marks_len, IntKind.wrap_i64]; omega
    apply round
    simp only [rdigest_l0_w, rdigest_l0', q, go_sem, reduceCtorEq, Nat.reduceEqDiff, reduceIte, Nat.reduceAdd, Nat.reduceSub, Nat.reduceLeDiff, Int.reduceToNat, Nat.reduceBEq]
    have e : (((s.length + (1 + Sh.gap s.length) : Nat) : Int).tmod 64 != 56) = false := ne_f (by rw [show (64 : Int) = ((64 : Nat) : Int) by rfl, rem_nat, gap_stop]; rfl)
    simp only [e, go_sem, reduceCtorEq, Nat.reduceEqDiff, reduceIte, Nat.reduceAdd, Nat.reduceSub, Nat.reduceLeDiff, Int.reduceToNat, Nat.reduceBEq]
    exact ⟨by omega, hK⟩
  | succ n ih =>
    intro j hn hj
    have q : IntKind.i64.wrap ((s.length : Int) + ((marks j).length : Int)) = ((s.length + (1 + j) : Nat) : Int) := by rw [marks_len, IntKind.wrap_i64]; omega
    apply round
    simp only [rdigest_l0_w, rdigest_l0', q, go_sem, reduceCtorEq, Nat.reduceEqDiff, reduceIte, Nat.reduceAdd, Nat.reduceSub, Nat.reduceLeDiff, Int.reduceToNat, Nat.reduceBEq]
    have e : (((s.length + (1 + j) : Nat) : Int).tmod 64 != 56) = true := ne_t (by rw [show (64 : Int) = ((64 : Nat) : Int) by rfl, rem_nat]; have := gap_go s.length (j := j) (by omega); omega)
    simp only [e, bs_one (marks j) 0 0 rfl, marks_snoc, marks_len, go_sem, reduceCtorEq, Nat.reduceEqDiff, reduceIte, Nat.reduceAdd, Nat.reduceSub, Nat.reduceLeDiff, Int.reduceToNat, Nat.reduceBEq]
    repeat (refine ⟨by (try simp only [List.length_append, List.length_cons, List.length_nil, List.length_drop, List.length_take]); omega, ?_⟩)
    exact ih (j + 1) (by omega) (by omega)
theorem rdigest_loop1 (s t : Bs) (ht : t.length ≤ 100) (L : Nat) (K : Ex → Ev.St → Prop) (hK : K (.exit 2) (mkS [(0, S s), (3, U64 L), (4, .sl .own 1 (bs (t ++ Sh.be64 L))), (5, I (-1)), (28, B false)] [])) (k : Nat) : ∀ (z : Int) (hz : z = (k : Int) - 1) (hk : k ≤ 8),
    vcL (kn m) [0, 3, 4, 5] [] rdigest_l1 K (mkS [(0, S s), (3, U64 L), (4, .sl .own 1 (bs (t ++ (Sh.be64 L).take (8 - k)))), (5, I z)] []) := by
  induction k with
  | zero =>
    intro z hz hk
    obtain rfl : z = -1 := by omega
    apply round
    simp only [rdigest_l1_w, rdigest_l1', go_sem, reduceCtorEq, Nat.reduceEqDiff, reduceIte, Nat.reduceAdd, Nat.reduceSub, Nat.reduceLeDiff, Int.reduceToNat, Nat.reduceBEq]
    rw [ige_f (by omega)]
    simp only [go_sem, reduceCtorEq, Nat.reduceEqDiff, reduceIte, Nat.reduceAdd, Nat.reduceSub, Nat.reduceLeDiff, Int.reduceToNat, Nat.reduceBEq]
    exact hK
  | succ k ih =>
    intro z hz hk
    obtain rfl : z = (k : Int) := by omega
    have this := ih ((k : Int) - 1) rfl (by omega)
    have q1 : IntKind.i64.wrap (8 * (k : Int)) = ((8 * k : Nat) : Int) := by rw [IntKind.wrap_i64]; omega
    have q2 : IntKind.i64.wrap ((k : Int) - 1) = (k : Int) - 1 := by rw [IntKind.wrap_i64]; omega
    apply round
    simp only [rdigest_l1_w, rdigest_l1', go_sem, reduceCtorEq, Nat.reduceEqDiff, reduceIte, Nat.reduceAdd, Nat.reduceSub, Nat.reduceLeDiff, Int.reduceToNat, Nat.reduceBEq]
    rw [ige_t (by omega)]
    simp only [q1, q2, bl_shr L (8 * k) (by omega), w_ofNat, List.append_assoc, be64_take L (show k < 8 by omega), go_sem, reduceCtorEq, Nat.reduceEqDiff, reduceIte, Nat.reduceAdd, Nat.reduceSub, Nat.reduceLeDiff, Int.reduceToNat, Nat.reduceBEq]
    refine ⟨by omega, by rw [List.length_append, List.length_take, be64_len]; omega, this⟩
theorem rdigest_loop2 (p : Bs) (q : Nat) (hq : p.length = 64 * q) (hp : p.length ≤ 4294967296) (K : Ex → Ev.St → Prop) (hK : K (.exit 4) (mkS [(6, S p), (7, .sl .own 1 (ws (Sh.blocks p Sh.H0 q))), (8, .sl .own 1 (ws Sh.K)), (9, N (64 * q)), (48, B false)] [])) (n : Nat) : ∀ (i : Nat) (hn : q - i = n) (hi : i ≤ q),
    vcL (kn m) [6, 7, 8, 9] [] rdigest_l2 K (mkS [(6, S p), (7, .sl .own 1 (ws (Sh.blocks p Sh.H0 i))), (8, .sl .own 1 (ws Sh.K)), (9, N (64 * i))] []) := by
  induction n with
  | zero =>
    intro i hn hi
    obtain rfl : i = q := by omega
    apply round
    simp only [rdigest_l2_w, rdigest_l2', go_sem, reduceCtorEq, Nat.reduceEqDiff, reduceIte, Nat.reduceAdd, Nat.reduceSub, Nat.reduceLeDiff, Int.reduceToNat, Nat.reduceBEq]
    rw [ilt_f (by omega)]
    simp only [go_sem, reduceCtorEq, Nat.reduceEqDiff, reduceIte, Nat.reduceAdd, Nat.reduceSub, Nat.reduceLeDiff, Int.reduceToNat, Nat.reduceBEq]
    exact hK
  | succ n ih =>
    intro i hn hi
    have this := ih (i + 1) (by omega) (by omega)
    have q1 : IntKind.i64.wrap (((64 * i : Nat) : Int) + 64) = ((64 * (i + 1) : Nat) : Int) := by rw [IntKind.wrap_i64]; omega
    apply round
    simp only [rdigest_l2_w, rdigest_l2', go_sem, reduceCtorEq, Nat.reduceEqDiff, reduceIte, Nat.reduceAdd, Nat.reduceSub, Nat.reduceLeDiff, Int.reduceToNat, Nat.reduceBEq]
    rw [ilt_t (by omega)]
    simp only [go_sem, reduceCtorEq, Nat.reduceEqDiff, reduceIte, Nat.reduceAdd, Nat.reduceSub, Nat.reduceLeDiff, Int.reduceToNat, Nat.reduceBEq]
    refine of_call (rwords_snd p (64 * i) (by omega) hp) ?_
    simp only [go_sem, reduceCtorEq, Nat.reduceEqDiff, reduceIte, Nat.reduceAdd, Nat.reduceSub, Nat.reduceLeDiff, Int.reduceToNat, Nat.reduceBEq]
    refine of_call (rblock_snd _ (Sh.blocks_len p (by rfl) i) _) ?_
    simp only [q1, go_sem, reduceCtorEq, Nat.reduceEqDiff, reduceIte, Nat.reduceAdd, Nat.reduceSub, Nat.reduceLeDiff, Int.reduceToNat, Nat.reduceBEq]
    exact this
theorem be32s_len (l : List UInt32) : (l.flatMap Sh.be32).length = 4 * l.length := by
  induction l with
  | nil => rfl
  | cons x l ih => simp only [List.flatMap_cons, List.length_append, ih, Sh.be32, List.length_cons, List.length_nil]; omega
theorem rdigest_loop3 (h : List UInt32) (hh : h.length = 8) (K : Ex → Ev.St → Prop) (hK : ∀ x, K (.exit 6) (mkS [(7, x), (10, .sl .own 1 (bs (h.flatMap Sh.be32))), (11, N 8), (59, B false)] [])) (n : Nat) : ∀ (i : Nat) (hn : 8 - i = n) (hi : i ≤ 8),
    vcL (kn m) [7, 10, 11] [] rdigest_l3 K (mkS [(7, .sl .own 1 (ws h)), (10, .sl .own 1 (bs ((h.take i).flatMap Sh.be32))), (11, N i)] []) := by
  induction n with
  | zero =>
    intro i hn hi
    obtain rfl : i = 8 := by omega
    apply round
    simp only [rdigest_l3_w, rdigest_l3', List.take_of_length_le (show h.length ≤ 8 by omega), go_sem, reduceCtorEq, Nat.reduceEqDiff, reduceIte, Nat.reduceAdd, Nat.reduceSub, Nat.reduceLeDiff, Int.reduceToNat, Nat.reduceBEq]
    rw [ilt_f (by omega)]
    simp only [go_sem, reduceCtorEq, Nat.reduceEqDiff, reduceIte, Nat.reduceAdd, Nat.reduceSub, Nat.reduceLeDiff, Int.reduceToNat, Nat.reduceBEq]
    exact hK _
  | succ n ih =>
    intro i hn hi
    have this := ih (i + 1) (by omega) (by omega)
    have gw := ws_get h (i := i) (by omega)
    have q1 : IntKind.i64.wrap ((i : Int) + 1) = ((i + 1 : Nat) : Int) := by rw [IntKind.wrap_i64]; omega
    have et : h.take (i + 1) = h.take i ++ [h[i]] := by rw [List.take_succ_eq_append_getElem]
    rw [et, flatMap_snoc, Sh.be32] at this
    apply round
    simp only [rdigest_l3_w, rdigest_l3', go_sem, reduceCtorEq, Nat.reduceEqDiff, reduceIte, Nat.reduceAdd, Nat.reduceSub, Nat.reduceLeDiff, Int.reduceToNat, Nat.reduceBEq]
    rw [ilt_t (by omega)]
    simp only [gw, q1, w_byte, bs_four, be32s_len, List.length_take, go_sem, reduceCtorEq, Nat.reduceEqDiff, reduceIte, Nat.reduceAdd, Nat.reduceSub, Nat.reduceLeDiff, Int.reduceToNat, Nat.reduceBEq]
    repeat (refine ⟨by (try simp only [List.length_append, List.length_cons, List.length_nil, List.length_drop, List.length_take]); omega, ?_⟩)
    exact this

theorem padded_eq (s : Bs) : s ++ (marks (Sh.gap s.length) ++ Sh.be64 (8 * s.length)) = Sh.padded s := by simp only [Sh.padded, marks, List.append_assoc]
theorem padded_length (s : Bs) : (Sh.padded s).length = s.length + (Sh.gap s.length + 1 + 8) := by simp [Sh.padded, Sh.be64]
theorem rdigest_snd (s : Bs) (hs : s.length ≤ 4294967000) : Snd Tryd.prog (gl m) 98 [S s] (S (Sh.digest s)) := by
  refine snd_of (fn := Tryd.f98) (af := rdigest) Tryd.func98 (rdigest_comp m) mixed (kn_ok m) (Nat.le_of_ble_eq_true rfl) ?_
  have hg := gap_le s.length
  have hpl := padded_length s
  have hpm := Sh.padded_len s
  generalize hq : (Sh.padded s).length / 64 = q
  have hq' : (Sh.padded s).length = 64 * q := by omega
  have hD : Sh.digest s = (Sh.blocks (Sh.padded s) Sh.H0 q).flatMap Sh.be32 := by rw [Sh.digest, hq]
  rw [hD]
  have hbl : (Sh.blocks (Sh.padded s) Sh.H0 q).length = 8 := Sh.blocks_len _ (by rfl) q
  have l3 := rdigest_loop3 (m := m) (Sh.blocks (Sh.padded s) Sh.H0 q) hbl (blockK 6 (seqK (kn m) [10] [] rdigest_k4 (outOk [.tmp 2] (S ((Sh.blocks (Sh.padded s) Sh.H0 q).flatMap Sh.be32))))) (fun x => by
    simp only [rdigest_k4_w, rdigest_k4', go_sem, reduceCtorEq, Nat.reduceEqDiff, reduceIte, Nat.reduceAdd, Nat.reduceSub, Nat.reduceLeDiff, Int.reduceToNat, Nat.reduceBEq]
    exact ⟨_, (bs_str _).symm, rfl⟩) _ 0 rfl (by omega)
  have l2 := rdigest_loop2 (m := m) (Sh.padded s) q hq' (by omega) (blockK 4 (seqK (kn m) [7] [] rdigest_k5 (outOk [.tmp 2] (S ((Sh.blocks (Sh.padded s) Sh.H0 q).flatMap Sh.be32))))) (by
    simp only [rdigest_k5_w, rdigest_k5', go_sem, reduceCtorEq, Nat.reduceEqDiff, reduceIte, Nat.reduceAdd, Nat.reduceSub, Nat.reduceLeDiff, Int.reduceToNat, Nat.reduceBEq]
    exact l3) _ 0 rfl (by omega)
  have l1 := rdigest_loop1 (m := m) s (marks (Sh.gap s.length)) (by rw [marks_len]; omega) (8 * s.length) (blockK 2 (seqK (kn m) [0, 4] [] rdigest_k6 (outOk [.tmp 2] (S ((Sh.blocks (Sh.padded s) Sh.H0 q).flatMap Sh.be32))))) (by
    simp only [rdigest_k6_w, rdigest_k6', go_sem, reduceCtorEq, Nat.reduceEqDiff, reduceIte, Nat.reduceAdd, Nat.reduceSub, Nat.reduceLeDiff, Int.reduceToNat, Nat.reduceBEq]
    refine ⟨_, (bs_str _).symm, ?_⟩
    simp only [padded_eq, go_sem, reduceCtorEq, Nat.reduceEqDiff, reduceIte, Nat.reduceAdd, Nat.reduceSub, Nat.reduceLeDiff, Int.reduceToNat, Nat.reduceBEq]
    refine ⟨by rw [List.length_append, marks_len, be64_len]; omega, ?_⟩
    refine of_call rfirst_snd ?_
    simp only [go_sem, reduceCtorEq, Nat.reduceEqDiff, reduceIte, Nat.reduceAdd, Nat.reduceSub, Nat.reduceLeDiff, Int.reduceToNat, Nat.reduceBEq]
    refine of_call rkeys_snd ?_
    simp only [go_sem, reduceCtorEq, Nat.reduceEqDiff, reduceIte, Nat.reduceAdd, Nat.reduceSub, Nat.reduceLeDiff, Int.reduceToNat, Nat.reduceBEq]
    exact l2) 8 7 rfl (by omega)
  have l0 := rdigest_loop0 (m := m) s hs (8 * s.length) (blockK 0 (seqK (kn m) [0, 3, 4] [] rdigest_k7 (outOk [.tmp 2] (S ((Sh.blocks (Sh.padded s) Sh.H0 q).flatMap Sh.be32))))) (by
    simp only [rdigest_k7_w, rdigest_k7', go_sem, reduceCtorEq, Nat.reduceEqDiff, reduceIte, Nat.reduceAdd, Nat.reduceSub, Nat.reduceLeDiff, Int.reduceToNat, Nat.reduceBEq]
    rw [Nat.sub_self, List.take_zero, List.append_nil] at l1
    exact l1) _ 0 rfl (by omega)
  have w0 : IntKind.u64.wrap (s.length : Int) = (s.length : Int) := by rw [wrap_u64']; omega
  have w1 := bl_mul s.length 8 .u64 (by omega)
  rw [Nat.mul_comm, show ((8 : Nat) : Int) = 8 by rfl] at w1
  simp only [rdigest, w0, w1, go_sem, reduceCtorEq, Nat.reduceEqDiff, reduceIte, Nat.reduceAdd, Nat.reduceSub, Nat.reduceLeDiff, Int.reduceToNat, Nat.reduceBEq]
  exact l0
theorem hex_snoc (s : Bs) (c : UInt8) : Sh.hex (s ++ [c]) = Sh.hex s ++ [Sh.digit (c >>> (4 : UInt8)), Sh.digit (c &&& (15 : UInt8))] := by simp [Sh.hex]
theorem hex_len (s : Bs) : (Sh.hex s).length = 2 * s.length := by
  induction s with
  | nil => rfl
  | cons x l ih => simp only [Sh.hex, List.flatMap_cons, List.length_append, List.length_cons, List.length_nil] at ih ⊢; omega
theorem rhex_loop (s : Bs) (hs : s.length ≤ 4294967000) (K : Ex → Ev.St → Prop) (hK : K (.exit 0) (mkS [(0, S s), (3, S [48, 49, 50, 51, 52, 53, 54, 55, 56, 57, 97, 98, 99, 100, 101, 102]), (4, .sl .own 1 (bs (Sh.hex s))), (5, N s.length), (10, B false)] [])) (n : Nat) : ∀ (i : Nat) (hn : s.length - i = n) (hi : i ≤ s.length),
    vcL (kn m) [0, 3, 4, 5] [] rhex_l0 K (mkS [(0, S s), (3, S [48, 49, 50, 51, 52, 53, 54, 55, 56, 57, 97, 98, 99, 100, 101, 102]), (4, .sl .own 1 (bs (Sh.hex (s.take i)))), (5, N i)] []) := by
  induction n with
  | zero =>
    intro i hn hi
    obtain rfl : i = s.length := by omega
    apply round
    simp only [rhex_l0_w, rhex_l0', go_sem, reduceCtorEq, Nat.reduceEqDiff, reduceIte, Nat.reduceAdd, Nat.reduceSub, Nat.reduceLeDiff, Int.reduceToNat, Nat.reduceBEq]
    rw [ilt_f (by omega)]
    simp only [List.take_length, go_sem, reduceCtorEq, Nat.reduceEqDiff, reduceIte, Nat.reduceAdd, Nat.reduceSub, Nat.reduceLeDiff, Int.reduceToNat, Nat.reduceBEq]
    exact hK
  | succ n ih =>
    intro i hn hi
    have this := ih (i + 1) (by omega) (by omega)
    have g := getE (l := s) (i := i) (by omega)
    have et : s.take (i + 1) = s.take i ++ [s[i]] := by rw [List.take_succ_eq_append_getElem]
    rw [et, hex_snoc, digit_hi, digit_lo] at this
    generalize s[i] = c at g this
    have hc : c.toNat < 256 := UInt8.toNat_lt c
    have q1 : IntKind.i64.wrap ((i : Int) + 1) = ((i + 1 : Nat) : Int) := by rw [IntKind.wrap_i64]; omega
    have d1 := digits_get (k := c.toNat / 16) (by omega)
    have d2 := digits_get (k := c.toNat % 16) (by omega)
    have b1 : binVal .quo (.int .u8 (c.toNat : Int)) (.int .u8 16) = .int .u8 ((c.toNat / 16 : Nat) : Int) := congrArg (Value.int .u8) (by rw [wrap_u8', show (16 : Int) = ((16 : Nat) : Int) by rfl, ← Int.ofNat_tdiv]; omega)
    have b2 : binVal .rem (.int .u8 (c.toNat : Int)) (.int .u8 16) = .int .u8 ((c.toNat % 16 : Nat) : Int) := congrArg (Value.int .u8) (by rw [show (16 : Int) = ((16 : Nat) : Int) by rfl, rem_nat])
    apply round
    simp only [rhex_l0_w, rhex_l0', go_sem, reduceCtorEq, Nat.reduceEqDiff, reduceIte, Nat.reduceAdd, Nat.reduceSub, Nat.reduceLeDiff, Int.reduceToNat, Nat.reduceBEq]
    rw [ilt_t (by omega)]
    simp only [g, q1, b1, b2, d1, d2, bs_two, hex_len, List.length_take, go_sem, reduceCtorEq, Nat.reduceEqDiff, reduceIte, Nat.reduceAdd, Nat.reduceSub, Nat.reduceLeDiff, Int.reduceToNat, Nat.reduceBEq]
    repeat (refine ⟨by (try simp only [List.length_append, List.length_cons, List.length_nil, List.length_drop, List.length_take]); omega, ?_⟩)
    exact this
theorem rhex_snd (s : Bs) (hs : s.length ≤ 4294967000) : Snd Tryd.prog (gl m) 97 [S s] (S (Sh.hex s)) := by
  refine snd_of (fn := Tryd.f97) (af := rhex) Tryd.func97 (rhex_comp m) mixed (kn_ok m) (Nat.le_of_ble_eq_true rfl) ?_
  have l := rhex_loop (m := m) s hs (blockK 0 (seqK (kn m) [4] [] rhex_k1 (outOk [.tmp 2] (S (Sh.hex s))))) (by
    simp only [rhex_k1_w, rhex_k1', go_sem, reduceCtorEq, Nat.reduceEqDiff, reduceIte, Nat.reduceAdd, Nat.reduceSub, Nat.reduceLeDiff, Int.reduceToNat, Nat.reduceBEq]
    exact ⟨_, (bs_str _).symm, rfl⟩) _ 0 rfl (by omega)
  simp only [rhex, go_sem, reduceCtorEq, Nat.reduceEqDiff, reduceIte, Nat.reduceAdd, Nat.reduceSub, Nat.reduceLeDiff, Int.reduceToNat, Nat.reduceBEq]
  exact l
theorem digest_len (s : Bs) : (Sh.digest s).length = 32 := by
  rw [Sh.digest, be32s_len, Sh.blocks_len _ (by rfl)]
theorem rof_snd (s : Bs) (hs : s.length ≤ 4294967000) : Snd Tryd.prog (gl m) 65 [S s] (S (Sh.sha s)) := by
  refine snd_of (fn := Tryd.f65) (af := rof) Tryd.func65 (rof_comp m) mixed (kn_ok m) (Nat.le_of_ble_eq_true rfl) ?_
  have hl := digest_len s
  simp only [rof, go_sem, reduceCtorEq, Nat.reduceEqDiff, reduceIte, Nat.reduceAdd, Nat.reduceSub, Nat.reduceLeDiff, Int.reduceToNat, Nat.reduceBEq]
  refine of_call (rdigest_snd s hs) ?_
  simp only [hl, go_sem, reduceCtorEq, Nat.reduceEqDiff, reduceIte, Nat.reduceAdd, Nat.reduceSub, Nat.reduceLeDiff, Int.reduceToNat, Nat.reduceBEq]
  repeat (refine ⟨by (try simp only [List.length_append, List.length_cons, List.length_nil, List.length_drop, List.length_take]); omega, ?_⟩)
  refine of_call (rhex_snd _ (by rw [List.length_take]; omega)) ?_
  simp only [go_sem, reduceCtorEq, Nat.reduceEqDiff, reduceIte, Nat.reduceAdd, Nat.reduceSub, Nat.reduceLeDiff, Int.reduceToNat, Nat.reduceBEq]
  rfl
end Go.Aw

/- The digest, as the program reckons. -/
namespace Go.Aw
open Go Go.Ev Go.Proofs
open Go.Sh (at0 rotr word byteAt words first16 nextW)
set_option linter.unusedVariables false
set_option linter.unusedSimpArgs false
attribute [local go_sem] eqs implies_true List.map_cons List.map_nil kl klL roD roL Option.map_some Option.map_none Option.getD_some Option.getD_none binObl if_true if_false eq_self passA frnD resD content getH getR getW viaNot viaSlot viaBox viaDeep viaMem List.contains_cons List.contains_nil grabs peeks okCells isCell place cellsOf chunk elt List.headD_cons List.length_cons List.length_nil List.take_succ_cons List.take_zero List.drop_succ_cons List.drop_zero List.nil_append List.cons_append List.append_nil List.all_cons List.all_nil plainC takeR setW over reCell List.getElem?_cons_zero List.getElem?_cons_succ List.set_cons_zero List.take_length outV resG plainV pack outVG outBx List.set_cons_succ Ref.idx Ref.addOff beq_self_eq_true bxL Option.bind_some writeR isLit viaBoxes capsPA boxPA nsOf noDup boxesAt argG passG passD rhoIn rhoOut idxIn tr trL List.getD_cons_zero gives pasOf isPtr Ins.d List.getD_cons_succ resL frnL un_not un_neg uw_not bn_add bn_sub bn_mul bn_quo bn_rem bn_eql bn_neq bn_lss bn_leq bn_gtr bn_geq bn_cat bn_same bw_add bw_xor bw_and bw_or bw_andNot bw_shl24 bw_shl16 bw_shl8 bw_shr24 bw_shr16 bw_shr8 bw_shr10 bw_shr3 frnL_ws resL_ws roL_ws klL_ws map_roD_ws passL_ws trL_ws ws_length ws_append ws_snoc ws_take ws_drop w_u8 List.getLast?_nil Nat.mul_one tab0_ws
variable {m : Int}
def pdigest_l0' : AC := .seq (.seq (.reg (.seq [⟨(some (21, false)), none, .mov (.tmp 5 true) .peek⟩,
      ⟨(some (22, false)), none, .mov (.tmp 4 true) .peek⟩,
      ⟨(some (23, false)), none, .bin .lss (.tmp 21 false) (.tmp 22 false)⟩])) [0, 3, 4, 5, 23] [3]
  (.cond (.tmp 23 false)
    (.skip)
    (.exit 0))) [0, 3, 4, 5] [3]
  (.seq (.block 1 (.reg (.seq [⟨(some (26, false)), none, .mov (.tmp 0 true) .peek⟩,
      ⟨(some (27, false)), none, .mov (.tmp 5 true) .peek⟩,
      ⟨(some (28, false)), none, .mov (.tmp 5 true) .peek⟩,
      ⟨(some (29, false)), none, .bin .add (.tmp 28 false) (.cst (.int .i64 64) (.lit (.int .i64 64)))⟩,
      ⟨(some (30, false)), none, .sub (.tmp 26 false) (some (.tmp 27 false)) (some (.tmp 29 false))⟩,
      ⟨(some (31, false)), none, .callG 118 [((.tmp 3 true), .ptr), ((.tmp 30 false), .pass)]⟩]))) [0, 3, 4, 5] [3]
  (.reg (.seq [⟨(some (24, false)), none, .mov (.tmp 5 true) .peek⟩,
      ⟨(some (25, false)), none, .bin .add (.tmp 24 false) (.cst (.int .i64 64) (.lit (.int .i64 64)))⟩,
      ⟨(some (5, true)), none, .mov (.tmp 25 false) .asg⟩])))
def pdigest_l0 : AC := pdigest_l0'
theorem pdigest_l0_w (C : Kn) (K : Ex → St → Prop) (s : St) : vcC C pdigest_l0 K s = vcC C pdigest_l0' K s := nr rfl
def pdigest_l1' : AC := .seq (.seq (.reg (.seq [⟨(some (39, false)), none, .mov (.tmp 6 true) .peek⟩,
      ⟨(some (40, false)), none, .lenL (.tmp 39 false)⟩,
      ⟨(some (41, false)), none, .bin .rem (.tmp 40 false) (.cst (.int .i64 64) (.lit (.int .i64 64)))⟩,
      ⟨(some (42, false)), none, .bin .neq (.tmp 41 false) (.cst (.int .i64 56) (.lit (.int .i64 56)))⟩])) [0, 3, 6, 42] [3]
  (.cond (.tmp 42 false)
    (.skip)
    (.exit 2))) [0, 3, 6] [3]
  (.block 3 (.reg (.seq [⟨(some (43, false)), none, .mov (.tmp 6 true) .take⟩,
      ⟨(some (44, false)), none, .buildS 1 1 [(.lit (.int .u8 0))] [(0, 1, (.cst (.int .u8 0) (.lit (.int .u8 0))))]⟩,
      ⟨(some (45, false)), none, .app 1 1 (.tmp 43 false) (.tmp 44 false)⟩,
      ⟨(some (6, true)), none, .mov (.tmp 45 false) .asg⟩])))
def pdigest_l1 : AC := pdigest_l1'
theorem pdigest_l1_w (C : Kn) (K : Ex → St → Prop) (s : St) : vcC C pdigest_l1 K s = vcC C pdigest_l1' K s := nr rfl
def pdigest_l2' : AC := .seq (.seq (.reg (.seq [⟨(some (50, false)), none, .mov (.tmp 8 true) .peek⟩,
      ⟨(some (51, false)), none, .bin .geq (.tmp 50 false) (.cst (.int .i64 0) (.lit (.int .i64 0)))⟩])) [3, 6, 7, 8, 51] [3]
  (.cond (.tmp 51 false)
    (.skip)
    (.exit 4))) [3, 6, 7, 8] [3]
  (.seq (.block 5 (.reg (.seq [⟨(some (54, false)), none, .mov (.tmp 6 true) .take⟩,
      ⟨(some (55, false)), none, .mov (.tmp 7 true) .peek⟩,
      ⟨(some (56, false)), none, .mov (.tmp 8 true) .peek⟩,
      ⟨(some (57, false)), none, .bin .shr (.tmp 55 false) (.tmp 56 false)⟩,
      ⟨(some (58, false)), none, .cvt .u8 (.tmp 57 false)⟩,
      ⟨(some (59, false)), none, .buildS 1 1 [(.lit (.int .u8 0))] [(0, 1, (.tmp 58 false))]⟩,
      ⟨(some (60, false)), none, .app 1 1 (.tmp 54 false) (.tmp 59 false)⟩,
      ⟨(some (6, true)), none, .mov (.tmp 60 false) .asg⟩]))) [3, 6, 7, 8] [3]
  (.reg (.seq [⟨(some (52, false)), none, .mov (.tmp 8 true) .peek⟩,
      ⟨(some (53, false)), none, .bin .sub (.tmp 52 false) (.cst (.int .i64 8) (.lit (.int .i64 8)))⟩,
      ⟨(some (8, true)), none, .mov (.tmp 53 false) .asg⟩])))
def pdigest_l2 : AC := pdigest_l2'
theorem pdigest_l2_w (C : Kn) (K : Ex → St → Prop) (s : St) : vcC C pdigest_l2 K s = vcC C pdigest_l2' K s := nr rfl
def pdigest_l3' : AC := .seq (.seq (.reg (.seq [⟨(some (61, false)), none, .mov (.tmp 9 true) .peek⟩,
      ⟨(some (62, false)), none, .mov (.tmp 6 true) .peek⟩,
      ⟨(some (63, false)), none, .lenL (.tmp 62 false)⟩,
      ⟨(some (64, false)), none, .bin .lss (.tmp 61 false) (.tmp 63 false)⟩])) [3, 6, 9, 64] [3]
  (.cond (.tmp 64 false)
    (.skip)
    (.exit 6))) [3, 6, 9] [3]
  (.seq (.block 7 (.reg (.seq [⟨(some (67, false)), none, .mov (.tmp 6 true) .peek⟩,
      ⟨(some (68, false)), none, .mov (.tmp 9 true) .peek⟩,
      ⟨(some (69, false)), none, .mov (.tmp 9 true) .peek⟩,
      ⟨(some (70, false)), none, .bin .add (.tmp 69 false) (.cst (.int .i64 64) (.lit (.int .i64 64)))⟩,
      ⟨(some (71, false)), none, .slc 1 (.tmp 67 false) (some (.tmp 68 false)) (some (.tmp 70 false))⟩,
      ⟨(some (72, false)), none, .b2s (.tmp 71 false)⟩,
      ⟨(some (73, false)), none, .callG 118 [((.tmp 3 true), .ptr), ((.tmp 72 false), .pass)]⟩]))) [3, 6, 9] [3]
  (.reg (.seq [⟨(some (65, false)), none, .mov (.tmp 9 true) .peek⟩,
      ⟨(some (66, false)), none, .bin .add (.tmp 65 false) (.cst (.int .i64 64) (.lit (.int .i64 64)))⟩,
      ⟨(some (9, true)), none, .mov (.tmp 66 false) .asg⟩])))
def pdigest_l3 : AC := pdigest_l3'
theorem pdigest_l3_w (C : Kn) (K : Ex → St → Prop) (s : St) : vcC C pdigest_l3 K s = vcC C pdigest_l3' K s := nr rfl
def pdigest_l4' : AC := .seq (.reg (.seq [⟨(some (78, false)), none, .bin .lss (.tmp 77 true) (.cst (.int .i64 8) (.lit (.int .i64 8)))⟩])) [10, 76, 77, 78] []
  (.seq (.cond (.tmp 78 false)
    (.skip)
    (.exit 8)) [10, 76, 77] []
  (.seq (.block 9 (.seq (.reg (.seq [⟨(some (79, false)), none, .idxA (.tmp 76 true) (.tmp 77 true) 8 1 false⟩,
      ⟨(some (12, true)), none, .mov (.tmp 79 false) .asg⟩])) [10, 12, 76, 77] []
    (.reg (.seq [⟨(some (80, false)), none, .mov (.tmp 10 true) .take⟩,
      ⟨(some (81, false)), none, .mov (.tmp 12 true) .peek⟩,
      ⟨(some (82, false)), none, .bin .shr (.tmp 81 false) (.cst (.int .u64 24) (.lit (.int .u64 24)))⟩,
      ⟨(some (83, false)), none, .cvt .u8 (.tmp 82 false)⟩,
      ⟨(some (84, false)), none, .mov (.tmp 12 true) .peek⟩,
      ⟨(some (85, false)), none, .bin .shr (.tmp 84 false) (.cst (.int .u64 16) (.lit (.int .u64 16)))⟩,
      ⟨(some (86, false)), none, .cvt .u8 (.tmp 85 false)⟩,
      ⟨(some (87, false)), none, .mov (.tmp 12 true) .peek⟩,
      ⟨(some (88, false)), none, .bin .shr (.tmp 87 false) (.cst (.int .u64 8) (.lit (.int .u64 8)))⟩,
      ⟨(some (89, false)), none, .cvt .u8 (.tmp 88 false)⟩,
      ⟨(some (90, false)), none, .mov (.tmp 12 true) .peek⟩,
      ⟨(some (91, false)), none, .cvt .u8 (.tmp 90 false)⟩,
      ⟨(some (92, false)), none, .buildS 1 4 [(.lit (.int .u8 0)), (.lit (.int .u8 0)), (.lit (.int .u8 0)), (.lit (.int .u8 0))] [(0, 1, (.tmp 83 false)), (1, 1, (.tmp 86 false)), (2, 1, (.tmp 89 false)), (3, 1, (.tmp 91 false))]⟩,
      ⟨(some (93, false)), none, .app 1 1 (.tmp 80 false) (.tmp 92 false)⟩,
      ⟨(some (10, true)), none, .mov (.tmp 93 false) .asg⟩])))) [10, 76, 77] []
  (.reg (.seq [⟨(some (94, false)), none, .bin .add (.tmp 77 true) (.cst (.int .i64 1) (.lit (.int .i64 1)))⟩,
      ⟨(some (77, true)), none, .mov (.tmp 94 false) .peek⟩]))))
def pdigest_l4 : AC := pdigest_l4'
theorem pdigest_l4_w (C : Kn) (K : Ex → St → Prop) (s : St) : vcC C pdigest_l4 K s = vcC C pdigest_l4' K s := nr rfl
def pdigest_k5' : AC := .seq (.reg (.seq [⟨(some (95, false)), none, .mov (.tmp 10 true) .peek⟩,
      ⟨(some (96, false)), none, .b2s (.tmp 95 false)⟩,
      ⟨(some (2, true)), none, .mov (.tmp 96 false) .asg⟩])) [2] []
  (.ret)
def pdigest_k5 : AC := pdigest_k5'
theorem pdigest_k5_w (C : Kn) (K : Ex → St → Prop) (s : St) : vcC C pdigest_k5 K s = vcC C pdigest_k5' K s := nr rfl
def pdigest_k6' : AC := .seq (.reg (.seq [⟨(some (74, false)), none, .mkS 1 1 [(.lit (.int .u8 0))] (.cst (.int .i64 0) (.lit (.int .i64 0))) (.cst (.int .i64 32) (.lit (.int .i64 32)))⟩,
      ⟨(some (10, true)), none, .mov (.tmp 74 false) .asg⟩])) [3, 10] [3]
  (.seq (.seq (.reg (.seq [⟨(some (75, false)), none, .fad (.tmp 3 true) 0⟩,
      ⟨(some (76, true)), none, .load (.tmp 75 false) 8 true false⟩,
      ⟨(some (77, true)), none, .mov (.cst (.int .i64 0) (.lit (.int .i64 0))) .peek⟩])) [10, 76, 77] []
  (.block 8 (.loop [10, 76, 77] [] pdigest_l4))) [10] [] pdigest_k5)
def pdigest_k6 : AC := pdigest_k6'
theorem pdigest_k6_w (C : Kn) (K : Ex → St → Prop) (s : St) : vcC C pdigest_k6 K s = vcC C pdigest_k6' K s := nr rfl
def pdigest_k7' : AC := .seq (.seq (.reg (.seq [⟨(some (9, true)), none, .mov (.cst (.int .i64 0) (.lit (.int .i64 0))) .asg⟩])) [3, 6, 9] [3]
  (.block 6 (.loop [3, 6, 9] [3] pdigest_l3))) [3] [3] pdigest_k6
def pdigest_k7 : AC := pdigest_k7'
theorem pdigest_k7_w (C : Kn) (K : Ex → St → Prop) (s : St) : vcC C pdigest_k7 K s = vcC C pdigest_k7' K s := nr rfl
def pdigest_k8' : AC := .seq (.reg (.seq [⟨(some (46, false)), none, .mov (.tmp 0 true) .peek⟩,
      ⟨(some (47, false)), none, .len (.tmp 46 false)⟩,
      ⟨(some (48, false)), none, .cvt .u64 (.tmp 47 false)⟩,
      ⟨(some (49, false)), none, .bin .mul (.tmp 48 false) (.cst (.int .u64 8) (.lit (.int .u64 8)))⟩,
      ⟨(some (7, true)), none, .mov (.tmp 49 false) .asg⟩])) [3, 6, 7] [3]
  (.seq (.seq (.reg (.seq [⟨(some (8, true)), none, .mov (.cst (.int .i64 56) (.lit (.int .i64 56))) .asg⟩])) [3, 6, 7, 8] [3]
  (.block 4 (.loop [3, 6, 7, 8] [3] pdigest_l2))) [3, 6] [3] pdigest_k7)
def pdigest_k8 : AC := pdigest_k8'
theorem pdigest_k8_w (C : Kn) (K : Ex → St → Prop) (s : St) : vcC C pdigest_k8 K s = vcC C pdigest_k8' K s := nr rfl
def pdigest_k9' : AC := .seq (.reg (.seq [⟨(some (32, false)), none, .mov (.tmp 0 true) .peek⟩,
      ⟨(some (33, false)), none, .mov (.tmp 4 true) .peek⟩,
      ⟨(some (34, false)), none, .sub (.tmp 32 false) (some (.tmp 33 false)) none⟩,
      ⟨(some (35, false)), none, .s2b (.tmp 34 false)⟩,
      ⟨(some (6, true)), none, .mov (.tmp 35 false) .asg⟩])) [0, 3, 6] [3]
  (.seq (.reg (.seq [⟨(some (36, false)), none, .mov (.tmp 6 true) .take⟩,
      ⟨(some (37, false)), none, .buildS 1 1 [(.lit (.int .u8 0))] [(0, 1, (.cst (.int .u8 128) (.lit (.int .u8 128))))]⟩,
      ⟨(some (38, false)), none, .app 1 1 (.tmp 36 false) (.tmp 37 false)⟩,
      ⟨(some (6, true)), none, .mov (.tmp 38 false) .asg⟩])) [0, 3, 6] [3]
  (.seq (.block 2 (.loop [0, 3, 6] [3] pdigest_l1)) [0, 3, 6] [3] pdigest_k8))
def pdigest_k9 : AC := pdigest_k9'
theorem pdigest_k9_w (C : Kn) (K : Ex → St → Prop) (s : St) : vcC C pdigest_k9 K s = vcC C pdigest_k9' K s := nr rfl
def pdigest : AF := ⟨.seq (.reg (.seq [⟨(some (2, true)), none, .mov (.cst (.string (str [])) (.lit (.string (str [])))) .asg⟩])) [0] []
  (.seq (.reg (.seq [⟨(some (13, false)), none, .buildP [(.lit (.int .u32 0)), (.lit (.int .u32 0)), (.lit (.int .u32 0)), (.lit (.int .u32 0)), (.lit (.int .u32 0)), (.lit (.int .u32 0)), (.lit (.int .u32 0)), (.lit (.int .u32 0))] [(0, 1, (.cst (.int .u32 1779033703) (.lit (.int .u32 1779033703)))), (1, 1, (.cst (.int .u32 3144134277) (.lit (.int .u32 3144134277)))), (2, 1, (.cst (.int .u32 1013904242) (.lit (.int .u32 1013904242)))), (3, 1, (.cst (.int .u32 2773480762) (.lit (.int .u32 2773480762)))), (4, 1, (.cst (.int .u32 1359893119) (.lit (.int .u32 1359893119)))), (5, 1, (.cst (.int .u32 2600822924) (.lit (.int .u32 2600822924)))), (6, 1, (.cst (.int .u32 528734635) (.lit (.int .u32 528734635)))), (7, 1, (.cst (.int .u32 1541459225) (.lit (.int .u32 1541459225))))]⟩,
      ⟨(some (14, false)), none, .build [(.lit (.int .u32 0)), (.lit (.int .u32 0)), (.lit (.int .u32 0)), (.lit (.int .u32 0)), (.lit (.int .u32 0)), (.lit (.int .u32 0)), (.lit (.int .u32 0)), (.lit (.int .u32 0)), (.lit (.int .u32 0)), (.lit (.int .u32 0)), (.lit (.int .u32 0)), (.lit (.int .u32 0)), (.lit (.int .u32 0)), (.lit (.int .u32 0)), (.lit (.int .u32 0)), (.lit (.int .u32 0)), (.lit (.int .u32 0)), (.lit (.int .u32 0)), (.lit (.int .u32 0)), (.lit (.int .u32 0)), (.lit (.int .u32 0)), (.lit (.int .u32 0)), (.lit (.int .u32 0)), (.lit (.int .u32 0)), (.lit (.int .u32 0)), (.lit (.int .u32 0)), (.lit (.int .u32 0)), (.lit (.int .u32 0)), (.lit (.int .u32 0)), (.lit (.int .u32 0)), (.lit (.int .u32 0)), (.lit (.int .u32 0)), (.lit (.int .u32 0)), (.lit (.int .u32 0)), (.lit (.int .u32 0)), (.lit (.int .u32 0)), (.lit (.int .u32 0)), (.lit (.int .u32 0)), (.lit (.int .u32 0)), (.lit (.int .u32 0)), (.lit (.int .u32 0)), (.lit (.int .u32 0)), (.lit (.int .u32 0)), (.lit (.int .u32 0)), (.lit (.int .u32 0)), (.lit (.int .u32 0)), (.lit (.int .u32 0)), (.lit (.int .u32 0)), (.lit (.int .u32 0)), (.lit (.int .u32 0)), (.lit (.int .u32 0)), (.lit (.int .u32 0)), (.lit (.int .u32 0)), (.lit (.int .u32 0)), (.lit (.int .u32 0)), (.lit (.int .u32 0)), (.lit (.int .u32 0)), (.lit (.int .u32 0)), (.lit (.int .u32 0)), (.lit (.int .u32 0)), (.lit (.int .u32 0)), (.lit (.int .u32 0)), (.lit (.int .u32 0)), (.lit (.int .u32 0)), (.lit (.int .u32 0)), (.lit (.int .u32 0)), (.lit (.int .u32 0)), (.lit (.int .u32 0)), (.lit (.int .u32 0)), (.lit (.int .u32 0)), (.lit (.int .u32 0)), (.lit (.int .u32 0))] [(0, 8, (.tmp 13 false))]⟩,
      ⟨(some (3, true)), none, .new [(.lit (.int .u32 0)), (.lit (.int .u32 0)), (.lit (.int .u32 0)), (.lit (.int .u32 0)), (.lit (.int .u32 0)), (.lit (.int .u32 0)), (.lit (.int .u32 0)), (.lit (.int .u32 0)), (.lit (.int .u32 0)), (.lit (.int .u32 0)), (.lit (.int .u32 0)), (.lit (.int .u32 0)), (.lit (.int .u32 0)), (.lit (.int .u32 0)), (.lit (.int .u32 0)), (.lit (.int .u32 0)), (.lit (.int .u32 0)), (.lit (.int .u32 0)), (.lit (.int .u32 0)), (.lit (.int .u32 0)), (.lit (.int .u32 0)), (.lit (.int .u32 0)), (.lit (.int .u32 0)), (.lit (.int .u32 0)), (.lit (.int .u32 0)), (.lit (.int .u32 0)), (.lit (.int .u32 0)), (.lit (.int .u32 0)), (.lit (.int .u32 0)), (.lit (.int .u32 0)), (.lit (.int .u32 0)), (.lit (.int .u32 0)), (.lit (.int .u32 0)), (.lit (.int .u32 0)), (.lit (.int .u32 0)), (.lit (.int .u32 0)), (.lit (.int .u32 0)), (.lit (.int .u32 0)), (.lit (.int .u32 0)), (.lit (.int .u32 0)), (.lit (.int .u32 0)), (.lit (.int .u32 0)), (.lit (.int .u32 0)), (.lit (.int .u32 0)), (.lit (.int .u32 0)), (.lit (.int .u32 0)), (.lit (.int .u32 0)), (.lit (.int .u32 0)), (.lit (.int .u32 0)), (.lit (.int .u32 0)), (.lit (.int .u32 0)), (.lit (.int .u32 0)), (.lit (.int .u32 0)), (.lit (.int .u32 0)), (.lit (.int .u32 0)), (.lit (.int .u32 0)), (.lit (.int .u32 0)), (.lit (.int .u32 0)), (.lit (.int .u32 0)), (.lit (.int .u32 0)), (.lit (.int .u32 0)), (.lit (.int .u32 0)), (.lit (.int .u32 0)), (.lit (.int .u32 0)), (.lit (.int .u32 0)), (.lit (.int .u32 0)), (.lit (.int .u32 0)), (.lit (.int .u32 0)), (.lit (.int .u32 0)), (.lit (.int .u32 0)), (.lit (.int .u32 0)), (.lit (.int .u32 0))]⟩,
      ⟨none, none, .store (.tmp 3 true) (.tmp 14 false) 72⟩])) [0, 3] [3]
  (.seq (.reg (.seq [⟨(some (15, false)), none, .mov (.tmp 0 true) .peek⟩,
      ⟨(some (16, false)), none, .len (.tmp 15 false)⟩,
      ⟨(some (17, false)), none, .mov (.tmp 0 true) .peek⟩,
      ⟨(some (18, false)), none, .len (.tmp 17 false)⟩,
      ⟨(some (19, false)), none, .bin .rem (.tmp 18 false) (.cst (.int .i64 64) (.lit (.int .i64 64)))⟩,
      ⟨(some (20, false)), none, .bin .sub (.tmp 16 false) (.tmp 19 false)⟩,
      ⟨(some (4, true)), none, .mov (.tmp 20 false) .asg⟩])) [0, 3, 4] [3]
  (.seq (.seq (.reg (.seq [⟨(some (5, true)), none, .mov (.cst (.int .i64 0) (.lit (.int .i64 0))) .asg⟩])) [0, 3, 4, 5] [3]
  (.block 0 (.loop [0, 3, 4, 5] [3] pdigest_l0))) [0, 3, 4] [3] pdigest_k9))),
  [.tmp 2]⟩
theorem pdigest_comp (m : Int) : compF Tryd.prog (gl m) [] Tryd.f96 = some pdigest := by kernel_rfl
def phex_l0' : AC := .seq (.reg (.seq [⟨(some (12, false)), none, .bin .lss (.tmp 11 true) (.tmp 10 true)⟩])) [0, 3, 10, 11, 12] []
  (.seq (.cond (.tmp 12 false)
    (.skip)
    (.exit 0)) [0, 3, 10, 11] []
  (.seq (.block 1 (.seq (.reg (.seq [⟨(some (13, false)), none, .mov (.tmp 11 true) .take⟩,
      ⟨(some (4, true)), none, .mov (.tmp 13 false) .asg⟩])) [0, 3, 4, 10, 11] []
    (.reg (.draw [⟨(some (14, false)), none, .mov (.tmp 3 true) .peek⟩,
      ⟨(some (15, false)), none, .mov (.tmp 0 true) .peek⟩,
      ⟨(some (16, false)), none, .mov (.tmp 4 true) .peek⟩,
      ⟨(some (17, false)), none, .idx (.tmp 15 false) (.tmp 16 false)⟩,
      ⟨(some (18, false)), none, .bin .shr (.tmp 17 false) (.cst (.int .u64 4) (.lit (.int .u64 4)))⟩,
      ⟨(some (19, false)), none, .idx (.cst (.string (str [48, 49, 50, 51, 52, 53, 54, 55, 56, 57, 97, 98, 99, 100, 101, 102])) (.lit (.string (str [48, 49, 50, 51, 52, 53, 54, 55, 56, 57, 97, 98, 99, 100, 101, 102])))) (.tmp 18 false)⟩,
      ⟨(some (20, false)), none, .mov (.tmp 0 true) .peek⟩,
      ⟨(some (21, false)), none, .mov (.tmp 4 true) .peek⟩,
      ⟨(some (22, false)), none, .idx (.tmp 20 false) (.tmp 21 false)⟩,
      ⟨(some (23, false)), none, .bin .and (.tmp 22 false) (.cst (.int .u8 15) (.lit (.int .u8 15)))⟩,
      ⟨(some (24, false)), none, .idx (.cst (.string (str [48, 49, 50, 51, 52, 53, 54, 55, 56, 57, 97, 98, 99, 100, 101, 102])) (.lit (.string (str [48, 49, 50, 51, 52, 53, 54, 55, 56, 57, 97, 98, 99, 100, 101, 102])))) (.tmp 23 false)⟩] (.alt ⟨(some (25, false)), none, .buildS 1 2 [(.lit (.int .u8 0)), (.lit (.int .u8 0))] [(0, 1, (.tmp 19 false)), (1, 1, (.tmp 24 false))]⟩ [⟨(some (14, false)), none, .mov (.tmp 3 true) .peek⟩]
      (.alt ⟨(some (26, false)), none, .app 1 1 (.tmp 14 false) (.tmp 25 false)⟩ []
      (.alt ⟨(some (3, true)), none, .mov (.tmp 26 false) .asg⟩ []
      .done .no) .no) .no))))) [0, 3, 10, 11] []
  (.reg (.seq [⟨(some (27, false)), none, .bin .add (.tmp 11 true) (.cst (.int .i64 1) (.lit (.int .i64 1)))⟩,
      ⟨(some (11, true)), none, .mov (.tmp 27 false) .peek⟩]))))
def phex_l0 : AC := phex_l0'
theorem phex_l0_w (C : Kn) (K : Ex → St → Prop) (s : St) : vcC C phex_l0 K s = vcC C phex_l0' K s := nr rfl
def phex_k1' : AC := .seq (.reg (.seq [⟨(some (28, false)), none, .mov (.tmp 3 true) .peek⟩,
      ⟨(some (29, false)), none, .b2s (.tmp 28 false)⟩,
      ⟨(some (2, true)), none, .mov (.tmp 29 false) .asg⟩])) [2] []
  (.ret)
def phex_k1 : AC := phex_k1'
theorem phex_k1_w (C : Kn) (K : Ex → St → Prop) (s : St) : vcC C phex_k1 K s = vcC C phex_k1' K s := nr rfl
def phex : AF := ⟨.seq (.reg (.seq [⟨(some (2, true)), none, .mov (.cst (.string (str [])) (.lit (.string (str [])))) .asg⟩])) [0] []
  (.seq (.reg (.seq [⟨(some (5, false)), none, .mov (.tmp 0 true) .peek⟩,
      ⟨(some (6, false)), none, .len (.tmp 5 false)⟩,
      ⟨(some (7, false)), none, .bin .mul (.cst (.int .i64 2) (.lit (.int .i64 2))) (.tmp 6 false)⟩,
      ⟨(some (8, false)), none, .mkS 1 1 [(.lit (.int .u8 0))] (.cst (.int .i64 0) (.lit (.int .i64 0))) (.tmp 7 false)⟩,
      ⟨(some (3, true)), none, .mov (.tmp 8 false) .asg⟩])) [0, 3] []
  (.seq (.seq (.reg (.seq [⟨(some (9, false)), none, .mov (.tmp 0 true) .peek⟩,
      ⟨(some (10, true)), none, .len (.tmp 9 false)⟩,
      ⟨(some (11, true)), none, .mov (.cst (.int .i64 0) (.lit (.int .i64 0))) .peek⟩])) [0, 3, 10, 11] []
  (.block 0 (.loop [0, 3, 10, 11] [] phex_l0))) [3] [] phex_k1)),
  [.tmp 2]⟩
theorem phex_comp (m : Int) : compF Tryd.prog (gl m) [] Tryd.f95 = some phex := by kernel_rfl
def pof : AF := ⟨.seq (.reg (.seq [⟨(some (2, true)), none, .mov (.cst (.string (str [])) (.lit (.string (str [])))) .asg⟩])) [0] []
  (.seq (.reg (.seq [⟨(some (3, false)), none, .mov (.tmp 0 true) .peek⟩,
      ⟨(some (4, false)), none, .call 96 [(.tmp 3 false)]⟩,
      ⟨(some (5, false)), none, .sub (.tmp 4 false) none (some (.cst (.int .i64 20) (.lit (.int .i64 20))))⟩,
      ⟨(some (6, false)), none, .call 95 [(.tmp 5 false)]⟩,
      ⟨(some (2, true)), none, .mov (.tmp 6 false) .asg⟩])) [2] []
  (.ret)),
  [.tmp 2]⟩
theorem pof_comp (m : Int) : compF Tryd.prog (gl m) [] Tryd.f64 = some pof := by kernel_rfl

def bst (env : List (Nat × AV)) (Z : List UInt32) : Ev.St := mkS env [(3, some (ws Z))]
abbrev P3 : AV := .ptr ⟨.box 3 0, []⟩
theorem chunk_of (s p : Bs) (n : Nat) (h : ∀ j, j < n → p[j]? = s[j]?) {i : Nat} (hi : i + 64 ≤ n) : (s.drop i).take 64 = (p.drop i).take 64 := by
  apply List.ext_getElem?
  intro j
  by_cases hj : j < 64
  · rw [List.getElem?_take_of_lt hj, List.getElem?_take_of_lt hj, List.getElem?_drop, List.getElem?_drop, h _ (by omega)]
  · rw [List.getElem?_eq_none (by simp; omega), List.getElem?_eq_none (by simp; omega)]
theorem blocks_succ (p : Bs) (h : List UInt32) (n : Nat) : Sh.blocks p h (n + 1) = Sh.block (Sh.blocks p h n) ((p.drop (64 * n)).take 64) := rfl
theorem pdigest_loop0 (s p : Bs) (q : Nat) (hq : 64 * q ≤ s.length) (hs : s.length ≤ 4294967000) (hc : ∀ i, i < q → (s.drop (64 * i)).take 64 = (p.drop (64 * i)).take 64) (K : Ex → Ev.St → Prop) (hK : ∀ g, g.length = 64 → K (.exit 0) (bst [(0, S s), (3, P3), (4, N (64 * q)), (5, N (64 * q)), (23, B false)] (Sh.blocks p Sh.H0 q ++ g))) (n : Nat) : ∀ (i : Nat) (g : List UInt32) (hn : q - i = n) (hi : i ≤ q) (hg : g.length = 64),
    vcL (kn m) [0, 3, 4, 5] [3] pdigest_l0 K (bst [(0, S s), (3, P3), (4, N (64 * q)), (5, N (64 * i))] (Sh.blocks p Sh.H0 i ++ g)) := by
  induction n with
  | zero =>
    intro i g hn hi hg
    obtain rfl : i = q := by omega
    apply round
    simp only [bst, pdigest_l0_w, pdigest_l0', go_sem, reduceCtorEq, Nat.reduceEqDiff, reduceIte, Nat.reduceAdd, Nat.reduceSub, Nat.reduceLeDiff, Int.reduceToNat, Nat.reduceBEq]
    rw [ilt_f (by omega)]
    simp only [go_sem, reduceCtorEq, Nat.reduceEqDiff, reduceIte, Nat.reduceAdd, Nat.reduceSub, Nat.reduceLeDiff, Int.reduceToNat, Nat.reduceBEq]
    exact hK g hg
  | succ n ih =>
    intro i g hn hi hg
    have hbl := Sh.blocks_len p (h := Sh.H0) (by rfl) i
    have q1 : IntKind.i64.wrap (((64 * i : Nat) : Int) + 64) = ((64 * (i + 1) : Nat) : Int) := by rw [IntKind.wrap_i64]; omega
    have this := ih (i + 1) (words ((p.drop (64 * i)).take 64)) (by omega) (by omega) (Sh.words_len _)
    have hcut : ((p.drop (64 * i)).take 64).length = 64 := by rw [← hc i (by omega), List.length_take, List.length_drop]; omega
    apply round
    simp only [bst, pdigest_l0_w, pdigest_l0', go_sem, reduceCtorEq, Nat.reduceEqDiff, reduceIte, Nat.reduceAdd, Nat.reduceSub, Nat.reduceLeDiff, Int.reduceToNat, Nat.reduceBEq]
    rw [ilt_t (by omega)]
    have hcs : (s.take (64 * (i + 1))).drop (64 * i) = (p.drop (64 * i)).take 64 := by rw [List.drop_take, ← hc i (by omega)]; congr 1; omega
    simp only [q1, hcs, go_sem, reduceCtorEq, Nat.reduceEqDiff, reduceIte, Nat.reduceAdd, Nat.reduceSub, Nat.reduceLeDiff, Int.reduceToNat, Nat.reduceBEq]
    repeat (refine ⟨by (try simp only [List.length_append, List.length_cons, List.length_nil, List.length_drop, List.length_take]); omega, ?_⟩)
    refine of_core (pblock_snd _ hbl g hg _ hcut) (by simp only [List.map_cons, List.map_nil, ws_length, List.length_append, Sh.block_len, Sh.words_len, hbl, hg]) ?_
    simp only [q1, go_sem, reduceCtorEq, Nat.reduceEqDiff, reduceIte, Nat.reduceAdd, Nat.reduceSub, Nat.reduceLeDiff, Int.reduceToNat, Nat.reduceBEq]
    exact this
theorem pdigest_loop1 (s t : Bs) (ht : t.length ≤ 100) (Z : List UInt32) (K : Ex → Ev.St → Prop) (hK : K (.exit 2) (bst [(0, S s), (3, P3), (6, .sl .own 1 (bs (t ++ marks (Sh.gap t.length)))), (42, B false)] Z)) (n : Nat) : ∀ (j : Nat) (hn : Sh.gap t.length - j = n) (hj : j ≤ Sh.gap t.length),
    vcL (kn m) [0, 3, 6] [3] pdigest_l1 K (bst [(0, S s), (3, P3), (6, .sl .own 1 (bs (t ++ marks j)))] Z) := by
  have hg := gap_le t.length
  induction n with
  | zero =>
    intro j hn hj
    obtain rfl : j = Sh.gap t.length := by omega
    have e : (((t ++ marks (Sh.gap t.length)).length : Int).tmod 64 != 56) = false := ne_f (by rw [show (64 : Int) = ((64 : Nat) : Int) by rfl, rem_nat, List.length_append, marks_len, Nat.add_comm (Sh.gap _) 1, gap_stop]; rfl)
    apply round
    simp only [bst, pdigest_l1_w, pdigest_l1', e, go_sem, reduceCtorEq, Nat.reduceEqDiff, reduceIte, Nat.reduceAdd, Nat.reduceSub, Nat.reduceLeDiff, Int.reduceToNat, Nat.reduceBEq]
    exact ⟨by omega, hK⟩
  | succ n ih =>
    intro j hn hj
    have this := ih (j + 1) (by omega) (by omega)
    have e : (((t ++ marks j).length : Int).tmod 64 != 56) = true := ne_t (by rw [show (64 : Int) = ((64 : Nat) : Int) by rfl, rem_nat, List.length_append, marks_len]; have := gap_go t.length (j := j) (by omega); omega)
    apply round
    simp only [bst, pdigest_l1_w, pdigest_l1', e, bs_one (t ++ marks j) 0 0 rfl, List.append_assoc, marks_snoc, go_sem, reduceCtorEq, Nat.reduceEqDiff, reduceIte, Nat.reduceAdd, Nat.reduceSub, Nat.reduceLeDiff, Int.reduceToNat, Nat.reduceBEq]
    rw [List.length_append, marks_len]
    repeat (refine ⟨by (try simp only [List.length_append, List.length_cons, List.length_nil, List.length_drop, List.length_take]); omega, ?_⟩)
    exact this
theorem pdigest_loop2 (t : Bs) (ht : t.length ≤ 200) (Z : List UInt32) (L : Nat) (K : Ex → Ev.St → Prop) (hK : K (.exit 4) (bst [(3, P3), (6, .sl .own 1 (bs (t ++ Sh.be64 L))), (7, U64 L), (8, I (-8)), (51, B false)] Z)) (k : Nat) : ∀ (z : Int) (hz : z = 8 * (k : Int) - 8) (hk : k ≤ 8),
    vcL (kn m) [3, 6, 7, 8] [3] pdigest_l2 K (bst [(3, P3), (6, .sl .own 1 (bs (t ++ (Sh.be64 L).take (8 - k)))), (7, U64 L), (8, I z)] Z) := by
  induction k with
  | zero =>
    intro z hz hk
    obtain rfl : z = -8 := by omega
    apply round
    simp only [bst, pdigest_l2_w, pdigest_l2', go_sem, reduceCtorEq, Nat.reduceEqDiff, reduceIte, Nat.reduceAdd, Nat.reduceSub, Nat.reduceLeDiff, Int.reduceToNat, Nat.reduceBEq]
    rw [ige_f (by omega)]
    simp only [go_sem, reduceCtorEq, Nat.reduceEqDiff, reduceIte, Nat.reduceAdd, Nat.reduceSub, Nat.reduceLeDiff, Int.reduceToNat, Nat.reduceBEq]
    exact hK
  | succ k ih =>
    intro z hz hk
    obtain rfl : z = ((8 * k : Nat) : Int) := by omega
    have this := ih (((8 * k : Nat) : Int) - 8) (by omega) (by omega)
    have q2 : IntKind.i64.wrap (((8 * k : Nat) : Int) - 8) = ((8 * k : Nat) : Int) - 8 := by rw [IntKind.wrap_i64]; omega
    apply round
    simp only [bst, pdigest_l2_w, pdigest_l2', go_sem, reduceCtorEq, Nat.reduceEqDiff, reduceIte, Nat.reduceAdd, Nat.reduceSub, Nat.reduceLeDiff, Int.reduceToNat, Nat.reduceBEq]
    rw [ige_t (by omega)]
    simp only [q2, bl_shr L (8 * k) (by omega), w_ofNat, List.append_assoc, be64_take L (show k < 8 by omega), go_sem, reduceCtorEq, Nat.reduceEqDiff, reduceIte, Nat.reduceAdd, Nat.reduceSub, Nat.reduceLeDiff, Int.reduceToNat, Nat.reduceBEq]
    refine ⟨by omega, by rw [List.length_append, List.length_take, be64_len]; omega, this⟩
theorem pdigest_loop3 (p R : Bs) (a q : Nat) (hR : R.length = 64 * q) (hs : R.length ≤ 4294967000) (hc : ∀ i, i < q → (R.drop (64 * i)).take 64 = (p.drop (64 * (a + i))).take 64) (K : Ex → Ev.St → Prop) (hK : ∀ x g, g.length = 64 → K (.exit 6) (bst [(3, P3), (6, x), (9, N (64 * q)), (64, B false)] (Sh.blocks p Sh.H0 (a + q) ++ g))) (n : Nat) : ∀ (i : Nat) (g : List UInt32) (hn : q - i = n) (hi : i ≤ q) (hg : g.length = 64),
    vcL (kn m) [3, 6, 9] [3] pdigest_l3 K (bst [(3, P3), (6, .sl .own 1 (bs R)), (9, N (64 * i))] (Sh.blocks p Sh.H0 (a + i) ++ g)) := by
  induction n with
  | zero =>
    intro i g hn hi hg
    obtain rfl : i = q := by omega
    apply round
    simp only [bst, pdigest_l3_w, pdigest_l3', go_sem, reduceCtorEq, Nat.reduceEqDiff, reduceIte, Nat.reduceAdd, Nat.reduceSub, Nat.reduceLeDiff, Int.reduceToNat, Nat.reduceBEq]
    rw [ilt_f (by omega)]
    simp only [go_sem, reduceCtorEq, Nat.reduceEqDiff, reduceIte, Nat.reduceAdd, Nat.reduceSub, Nat.reduceLeDiff, Int.reduceToNat, Nat.reduceBEq]
    exact hK _ g hg
  | succ n ih =>
    intro i g hn hi hg
    have hbl := Sh.blocks_len p (h := Sh.H0) (by rfl) (a + i)
    have q1 : IntKind.i64.wrap (((64 * i : Nat) : Int) + 64) = ((64 * (i + 1) : Nat) : Int) := by rw [IntKind.wrap_i64]; omega
    have this := ih (i + 1) (words ((p.drop (64 * (a + i))).take 64)) (by omega) (by omega) (Sh.words_len _)
    have hcut : ((p.drop (64 * (a + i))).take 64).length = 64 := by rw [← hc i (by omega), List.length_take, List.length_drop]; omega
    apply round
    simp only [bst, pdigest_l3_w, pdigest_l3', go_sem, reduceCtorEq, Nat.reduceEqDiff, reduceIte, Nat.reduceAdd, Nat.reduceSub, Nat.reduceLeDiff, Int.reduceToNat, Nat.reduceBEq]
    rw [ilt_t (by omega)]
    have hcs : (R.take (64 * (i + 1))).drop (64 * i) = (p.drop (64 * (a + i))).take 64 := by rw [List.drop_take, ← hc i (by omega)]; congr 1; omega
    simp only [q1, hcs, go_sem, reduceCtorEq, Nat.reduceEqDiff, reduceIte, Nat.reduceAdd, Nat.reduceSub, Nat.reduceLeDiff, Int.reduceToNat, Nat.reduceBEq]
    repeat (refine ⟨by (try simp only [List.length_append, List.length_cons, List.length_nil, List.length_drop, List.length_take]); omega, ?_⟩)
    refine ⟨_, (bs_str _).symm, ?_⟩
    refine of_core (pblock_snd _ hbl g hg _ hcut) (by simp only [List.map_cons, List.map_nil, ws_length, List.length_append, Sh.block_len, Sh.words_len, hbl, hg]) ?_
    simp only [q1, go_sem, reduceCtorEq, Nat.reduceEqDiff, reduceIte, Nat.reduceAdd, Nat.reduceSub, Nat.reduceLeDiff, Int.reduceToNat, Nat.reduceBEq]
    exact this
theorem phex_loop (s : Bs) (hs : s.length ≤ 4294967000) (K : Ex → Ev.St → Prop) (hK : K (.exit 0) (mkS [(0, S s), (3, .sl .own 1 (bs (Sh.hex s))), (10, N s.length), (11, N s.length), (12, B false)] [])) (n : Nat) : ∀ (i : Nat) (hn : s.length - i = n) (hi : i ≤ s.length),
    vcL (kn m) [0, 3, 10, 11] [] phex_l0 K (mkS [(0, S s), (3, .sl .own 1 (bs (Sh.hex (s.take i)))), (10, N s.length), (11, N i)] []) := by
  induction n with
  | zero =>
    intro i hn hi
    obtain rfl : i = s.length := by omega
    apply round
    simp only [phex_l0_w, phex_l0', go_sem, reduceCtorEq, Nat.reduceEqDiff, reduceIte, Nat.reduceAdd, Nat.reduceSub, Nat.reduceLeDiff, Int.reduceToNat, Nat.reduceBEq]
    rw [ilt_f (by omega)]
    simp only [List.take_length, go_sem, reduceCtorEq, Nat.reduceEqDiff, reduceIte, Nat.reduceAdd, Nat.reduceSub, Nat.reduceLeDiff, Int.reduceToNat, Nat.reduceBEq]
    exact hK
  | succ n ih =>
    intro i hn hi
    have this := ih (i + 1) (by omega) (by omega)
    have g := getE (l := s) (i := i) (by omega)
    have et : s.take (i + 1) = s.take i ++ [s[i]] := by rw [List.take_succ_eq_append_getElem]
    rw [et, hex_snoc, digit_hi, digit_lo] at this
    generalize s[i] = c at g this
    have hc : c.toNat < 256 := UInt8.toNat_lt c
    have q1 : IntKind.i64.wrap ((i : Int) + 1) = ((i + 1 : Nat) : Int) := by rw [IntKind.wrap_i64]; omega
    have d1 := digits_get (k := c.toNat / 16) (by omega)
    have d2 := digits_get (k := c.toNat % 16) (by omega)
    have b1 : binVal .shr (.int .u8 (c.toNat : Int)) (.int .u64 4) = .int .u8 ((c.toNat / 16 : Nat) : Int) := congrArg (Value.int .u8) (by rw [show ((2 : Int) ^ (min (4 : Int).toNat IntKind.u8.bits)) = ((16 : Nat) : Int) by rfl, fdiv_nat])
    have b2 : binVal .and (.int .u8 (c.toNat : Int)) (.int .u8 15) = .int .u8 ((c.toNat % 16 : Nat) : Int) := congrArg (Value.int .u8) ((by decide +kernel : ∀ d : Fin 256, IntKind.u8.wrap ((BitVec.ofInt IntKind.u8.bits (d.val : Int) &&& BitVec.ofInt IntKind.u8.bits 15).toNat : Int) = ((d.val % 16 : Nat) : Int)) ⟨c.toNat, hc⟩)
    apply round
    simp only [phex_l0_w, phex_l0', go_sem, reduceCtorEq, Nat.reduceEqDiff, reduceIte, Nat.reduceAdd, Nat.reduceSub, Nat.reduceLeDiff, Int.reduceToNat, Nat.reduceBEq]
    rw [ilt_t (by omega)]
    simp only [g, q1, b1, b2, d1, d2, bs_two, hex_len, List.length_take, go_sem, reduceCtorEq, Nat.reduceEqDiff, reduceIte, Nat.reduceAdd, Nat.reduceSub, Nat.reduceLeDiff, Int.reduceToNat, Nat.reduceBEq]
    repeat (refine ⟨by (try simp only [List.length_append, List.length_cons, List.length_nil, List.length_drop, List.length_take]); omega, ?_⟩)
    exact this
theorem phex_snd (s : Bs) (hs : s.length ≤ 4294967000) : Snd Tryd.prog (gl m) 95 [S s] (S (Sh.hex s)) := by
  refine snd_of (fn := Tryd.f95) (af := phex) Tryd.func95 (phex_comp m) mixed (kn_ok m) (Nat.le_of_ble_eq_true rfl) ?_
  have l := phex_loop (m := m) s hs (blockK 0 (seqK (kn m) [3] [] phex_k1 (outOk [.tmp 2] (S (Sh.hex s))))) (by
    simp only [phex_k1_w, phex_k1', go_sem, reduceCtorEq, Nat.reduceEqDiff, reduceIte, Nat.reduceAdd, Nat.reduceSub, Nat.reduceLeDiff, Int.reduceToNat, Nat.reduceBEq]
    exact ⟨_, (bs_str _).symm, rfl⟩) _ 0 rfl (by omega)
  have q1 : IntKind.i64.wrap (2 * (s.length : Int)) = ((2 * s.length : Nat) : Int) := by rw [IntKind.wrap_i64]; omega
  simp only [phex, q1, go_sem, reduceCtorEq, Nat.reduceEqDiff, reduceIte, Nat.reduceAdd, Nat.reduceSub, Nat.reduceLeDiff, Int.reduceToNat, Nat.reduceBEq]
  refine ⟨by omega, by omega, by omega, by omega, l⟩

theorem pdigest_loop4 (h : List UInt32) (hh : h.length = 8) (K : Ex → Ev.St → Prop) (hK : K (.exit 8) (mkS [(10, .sl .own 1 (bs (h.flatMap Sh.be32))), (76, .agg (ws h)), (77, N 8), (78, B false)] [])) (n : Nat) : ∀ (i : Nat) (hn : 8 - i = n) (hi : i ≤ 8),
    vcL (kn m) [10, 76, 77] [] pdigest_l4 K (mkS [(10, .sl .own 1 (bs ((h.take i).flatMap Sh.be32))), (76, .agg (ws h)), (77, N i)] []) := by
  induction n with
  | zero =>
    intro i hn hi
    obtain rfl : i = 8 := by omega
    apply round
    simp only [pdigest_l4_w, pdigest_l4', List.take_of_length_le (show h.length ≤ 8 by omega), go_sem, reduceCtorEq, Nat.reduceEqDiff, reduceIte, Nat.reduceAdd, Nat.reduceSub, Nat.reduceLeDiff, Int.reduceToNat, Nat.reduceBEq]
    rw [ilt_f (by omega)]
    simp only [go_sem, reduceCtorEq, Nat.reduceEqDiff, reduceIte, Nat.reduceAdd, Nat.reduceSub, Nat.reduceLeDiff, Int.reduceToNat, Nat.reduceBEq]
    exact hK
  | succ n ih =>
    intro i hn hi
    have this := ih (i + 1) (by omega) (by omega)
    have gw := ws_get h (i := i) (by omega)
    have q1 : IntKind.i64.wrap ((i : Int) + 1) = ((i + 1 : Nat) : Int) := by rw [IntKind.wrap_i64]; omega
    have et : h.take (i + 1) = h.take i ++ [h[i]] := by rw [List.take_succ_eq_append_getElem]
    rw [et, flatMap_snoc, Sh.be32] at this
    apply round
    simp only [pdigest_l4_w, pdigest_l4', go_sem, reduceCtorEq, Nat.reduceEqDiff, reduceIte, Nat.reduceAdd, Nat.reduceSub, Nat.reduceLeDiff, Int.reduceToNat, Nat.reduceBEq]
    rw [ilt_t (by omega)]
    simp only [gw, q1, w_byte, bs_four, be32s_len, List.length_take, go_sem, reduceCtorEq, Nat.reduceEqDiff, reduceIte, Nat.reduceAdd, Nat.reduceSub, Nat.reduceLeDiff, Int.reduceToNat, Nat.reduceBEq]
    repeat (refine ⟨by (try simp only [List.length_append, List.length_cons, List.length_nil, List.length_drop, List.length_take]); omega, ?_⟩)
    exact this
theorem gap_mod (n : Nat) : Sh.gap (n % 64) = Sh.gap n := by simp only [Sh.gap]; omega
set_option maxHeartbeats 2000000 in
set_option maxRecDepth 100000 in
theorem pdigest_snd (s : Bs) (hs : s.length ≤ 4294966000) : Snd Tryd.prog (gl m) 96 [S s] (S (Sh.digest s)) := by
  refine snd_of (fn := Tryd.f96) (af := pdigest) Tryd.func96 (pdigest_comp m) mixed (kn_ok m) (Nat.le_of_ble_eq_true rfl) ?_
  have hg := gap_le s.length
  have hpl := padded_length s
  have hpm := Sh.padded_len s
  generalize hq0 : s.length / 64 = q0
  generalize ht : s.drop (64 * q0) = t
  have htl : t.length = s.length % 64 := by rw [← ht, List.length_drop]; omega
  have hgt : Sh.gap t.length = Sh.gap s.length := by rw [htl, gap_mod]
  generalize hR : t ++ (marks (Sh.gap s.length) ++ Sh.be64 (8 * s.length)) = R
  have hRp : (Sh.padded s).drop (64 * q0) = R := by
    rw [← padded_eq, List.drop_append_of_le_length (by omega), ht, hR]
  have hRl : R.length = (Sh.padded s).length - 64 * q0 := by rw [← hRp, List.length_drop]
  obtain ⟨q1, hq1⟩ : ∃ q1, R.length = 64 * q1 := ⟨R.length / 64, by omega⟩
  have hD : Sh.digest s = (Sh.blocks (Sh.padded s) Sh.H0 (q0 + q1)).flatMap Sh.be32 := by rw [Sh.digest, show (Sh.padded s).length / 64 = q0 + q1 by omega]
  rw [hD]
  have hbl := Sh.blocks_len (Sh.padded s) (h := Sh.H0) (by rfl) (q0 + q1)
  have hc0 : ∀ i, i < q0 → (s.drop (64 * i)).take 64 = ((Sh.padded s).drop (64 * i)).take 64 := fun i hi =>
    chunk_of s (Sh.padded s) s.length (fun j hj => by rw [← padded_eq, List.getElem?_append_left hj]) (by omega)
  have hc1 : ∀ i, i < q1 → (R.drop (64 * i)).take 64 = ((Sh.padded s).drop (64 * (q0 + i))).take 64 := fun i hi => by
    rw [← hRp, List.drop_drop, Nat.mul_add]
  have l3 := fun (Z : List UInt32) (hZ : Z.length = 64) => pdigest_loop3 (m := m) (Sh.padded s) R q0 q1 hq1 (by omega) hc1 (blockK 6 (seqK (kn m) [3] [3] pdigest_k6 (outOk [.tmp 2] (S ((Sh.blocks (Sh.padded s) Sh.H0 (q0 + q1)).flatMap Sh.be32))))) (fun x g hg => by
    generalize Sh.blocks (Sh.padded s) Sh.H0 (q0 + q1) = h at hbl ⊢
    have hd : (h ++ g).take 8 = h := by rw [List.take_append_of_le_length (by omega), List.take_of_length_le (by omega)]
    simp only [bst, pdigest_k6_w, pdigest_k6', hd, go_sem, reduceCtorEq, Nat.reduceEqDiff, reduceIte, Nat.reduceAdd, Nat.reduceSub, Nat.reduceLeDiff, Int.reduceToNat, Nat.reduceBEq]
    refine ⟨by omega, by omega, by omega, by omega, by rw [List.length_append]; omega, by omega, ?_⟩
    exact pdigest_loop4 h hbl _ (by
      simp only [pdigest_k5_w, pdigest_k5', go_sem, reduceCtorEq, Nat.reduceEqDiff, reduceIte, Nat.reduceAdd, Nat.reduceSub, Nat.reduceLeDiff, Int.reduceToNat, Nat.reduceBEq]
      exact ⟨_, (bs_str _).symm, rfl⟩) _ 0 rfl (by omega)) _ 0 Z rfl (by omega) hZ
  have l2 := fun (Z : List UInt32) (hZ : Z.length = 64) => pdigest_loop2 (m := m) (t ++ marks (Sh.gap t.length)) (by rw [List.length_append, marks_len]; omega) (Sh.blocks (Sh.padded s) Sh.H0 q0 ++ Z) (8 * s.length) (blockK 4 (seqK (kn m) [3, 6] [3] pdigest_k7 (outOk [.tmp 2] (S ((Sh.blocks (Sh.padded s) Sh.H0 (q0 + q1)).flatMap Sh.be32))))) (by
    rw [hgt, List.append_assoc, hR]
    simp only [bst, pdigest_k7_w, pdigest_k7', go_sem, reduceCtorEq, Nat.reduceEqDiff, reduceIte, Nat.reduceAdd, Nat.reduceSub, Nat.reduceLeDiff, Int.reduceToNat, Nat.reduceBEq]
    exact l3 Z hZ) 8 56 (by omega) (by omega)
  have w0 : IntKind.u64.wrap (s.length : Int) = (s.length : Int) := by rw [wrap_u64']; omega
  have w1 := bl_mul s.length 8 .u64 (by omega)
  rw [Nat.mul_comm, show ((8 : Nat) : Int) = 8 by rfl] at w1
  have l1 := fun (Z : List UInt32) (hZ : Z.length = 64) => pdigest_loop1 (m := m) s t (by omega) (Sh.blocks (Sh.padded s) Sh.H0 q0 ++ Z) (blockK 2 (seqK (kn m) [0, 3, 6] [3] pdigest_k8 (outOk [.tmp 2] (S ((Sh.blocks (Sh.padded s) Sh.H0 (q0 + q1)).flatMap Sh.be32))))) (by
    simp only [bst, pdigest_k8_w, pdigest_k8', w0, w1, go_sem, reduceCtorEq, Nat.reduceEqDiff, reduceIte, Nat.reduceAdd, Nat.reduceSub, Nat.reduceLeDiff, Int.reduceToNat, Nat.reduceBEq]
    have := l2 Z hZ
    rw [Nat.sub_self, List.take_zero, List.append_nil] at this
    exact this) _ 0 rfl (by omega)
  have l0 := pdigest_loop0 (m := m) s (Sh.padded s) q0 (by omega) (by omega) hc0 (blockK 0 (seqK (kn m) [0, 3, 4] [3] pdigest_k9 (outOk [.tmp 2] (S ((Sh.blocks (Sh.padded s) Sh.H0 (q0 + q1)).flatMap Sh.be32))))) (fun Z hZ => by
    simp only [bst, pdigest_k9_w, pdigest_k9', ht, go_sem, reduceCtorEq, Nat.reduceEqDiff, reduceIte, Nat.reduceAdd, Nat.reduceSub, Nat.reduceLeDiff, Int.reduceToNat, Nat.reduceBEq]
    refine ⟨by omega, by omega, by omega, ?_⟩
    rw [bs_one t 128 128 rfl]
    exact l1 Z hZ) _ 0 (List.replicate 64 0) rfl (by omega) (by simp)
  have r0 : binVal .rem (.int .i64 (s.length : Int)) (.int .i64 64) = .int .i64 ((s.length % 64 : Nat) : Int) := congrArg (Value.int .i64) (by rw [show (64 : Int) = ((64 : Nat) : Int) by rfl, rem_nat])
  have r1 : IntKind.i64.wrap ((s.length : Int) - ((s.length % 64 : Nat) : Int)) = ((64 * q0 : Nat) : Int) := by rw [IntKind.wrap_i64]; omega
  simp only [pdigest, r0, r1, go_sem, reduceCtorEq, Nat.reduceEqDiff, reduceIte, Nat.reduceAdd, Nat.reduceSub, Nat.reduceLeDiff, Int.reduceToNat, Nat.reduceBEq]
  exact ⟨by omega, by omega, l0⟩
theorem pof_snd (s : Bs) (hs : s.length ≤ 4294966000) : Snd Tryd.prog (gl m) 64 [S s] (S (Sh.sha s)) := by
  refine snd_of (fn := Tryd.f64) (af := pof) Tryd.func64 (pof_comp m) mixed (kn_ok m) (Nat.le_of_ble_eq_true rfl) ?_
  have hl := digest_len s
  simp only [pof, go_sem, reduceCtorEq, Nat.reduceEqDiff, reduceIte, Nat.reduceAdd, Nat.reduceSub, Nat.reduceLeDiff, Int.reduceToNat, Nat.reduceBEq]
  refine of_call (pdigest_snd s hs) ?_
  simp only [hl, go_sem, reduceCtorEq, Nat.reduceEqDiff, reduceIte, Nat.reduceAdd, Nat.reduceSub, Nat.reduceLeDiff, Int.reduceToNat, Nat.reduceBEq]
  repeat (refine ⟨by (try simp only [List.length_append, List.length_cons, List.length_nil, List.length_drop, List.length_take]); omega, ?_⟩)
  refine of_call (phex_snd _ (by rw [List.length_take]; omega)) ?_
  simp only [go_sem, reduceCtorEq, Nat.reduceEqDiff, reduceIte, Nat.reduceAdd, Nat.reduceSub, Nat.reduceLeDiff, Int.reduceToNat, Nat.reduceBEq]
  rfl
end Go.Aw

