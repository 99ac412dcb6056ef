import Derived.Test.YtfkggoohajdabaaDoorEvC
import Derived.Test.YtfkggoohajdabaaDoorPA
import Derived.Test.YtfkggoohajdabaaDoorSh
import Derived.KernelRfl
set_option linter.unusedVariables false
set_option linter.unusedSimpArgs false
/- Rounds of a loop counted up; things fetched. -/
namespace Go.Ev
set_option linter.unusedVariables false
section
variable {C : Kn} {pl bl : List Nat} {c : AC} {K : Ex → St → Prop} {s : St}
theorem loop_inv (n : Nat) (st : Nat → St) (Inv : Nat → Prop) (hs : s = st 0) (h0 : Inv 0)
    (h : ∀ i, i ≤ n → Inv i → (i < n → Inv (i + 1) → vcL C pl bl c K (st (i + 1))) → vcC C c (loopK C pl bl c K) (st i)) : vcL C pl bl c K s := by
  subst hs
  have key : ∀ d i, i + d = n → Inv i → vcL C pl bl c K (st i) := by
    intro d
    induction d with
    | zero => intro i hi hI; exact round (h i (by omega) hI fun hl => by omega)
    | succ d ih => intro i hi hI; exact round (h i (by omega) hI fun _ hI' => ih (i + 1) (by omega) hI')
  exact key n 0 (by omega) h0
theorem loop_up (n : Nat) (st : Nat → St) (hs : s = st 0)
    (h : ∀ i, i ≤ n → (i < n → vcL C pl bl c K (st (i + 1))) → vcC C c (loopK C pl bl c K) (st i)) : vcL C pl bl c K s :=
  loop_inv n st (fun _ => True) hs trivial fun i hi _ ih => h i hi fun hl => ih hl trivial
theorem loop_wf {α : Type} (μ : α → Nat) (st : α → St) (Inv : α → Prop) (a : α) (hs : s = st a) (h0 : Inv a)
    (h : ∀ a, Inv a → (∀ b, μ b < μ a → Inv b → vcL C pl bl c K (st b)) → vcC C c (loopK C pl bl c K) (st a)) : vcL C pl bl c K s := by
  subst hs
  have key : ∀ n a, μ a < n → Inv a → vcL C pl bl c K (st a) := by
    intro n
    induction n with
    | zero => intro a ha; omega
    | succ n ih => intro a ha hI; exact round (h a hI fun b hb hIb => ih b (by omega) hIb)
  exact key _ a (Nat.lt_succ_self _) h0
end
section
variable {dst : Option (Nat × Bool)} {K : St → Prop} {s : St}
end
theorem take_snoc {α : Type} {l : List α} {i : Nat} (h : i < l.length) : l.take (i + 1) = l.take i ++ [l[i]] := by
  rw [List.take_add_one, List.getElem?_eq_getElem h]; rfl
def fe {α : Type} (f : α → List Value) (x : α) : AV := .agg ((f x).map .lit)
def fs {α : Type} (f : α → List Value) (l : List α) : List AV := l.map (fe f)
section
variable {α : Type} (f : α → List Value) (l : List α)
theorem map_lits (g : AV → AV) (hg : ∀ v, g (.lit v) = .lit v) (vs : List Value) : (vs.map AV.lit).map g = vs.map AV.lit := by
  rw [List.map_map]; exact List.map_congr_left fun v _ => hg v
theorem fs_map (g : AV → AV) (h : ∀ x, g (fe f x) = fe f x) : (fs f l).map g = fs f l := by
  rw [fs, List.map_map]; exact List.map_congr_left fun x _ => h x
theorem frnL_fs : frnL (fs f l) = fs f l := by rw [frnL_eq]; exact fs_map f l _ fun x => by rw [fe, frnD, frnL_eq, map_lits _ fun v => by rw [frnD]]
theorem roL_fs : roL (fs f l) = fs f l := by rw [roL_eq]; exact fs_map f l _ fun x => by rw [fe, roD, roL_eq, map_lits _ fun v => by rw [roD]; intro _ _ _ h; cases h; intro _ h; cases h; intro _ h; cases h]
theorem resL_fs : resL (fs f l) = fs f l := by rw [resL_eq]; exact fs_map f l _ fun x => by rw [fe, resD, resL_eq, map_lits _ fun v => by rw [resD]]
theorem passL_fs : passL (fs f l) = fs f l := by rw [passL_eq]; exact fs_map f l _ fun x => by rw [fe, passD, passL_eq, map_lits _ fun v => by rw [passD]]
theorem klL_fs (p : Bool → Ref → Bool) (ro : Bool) : klL p ro (fs f l) = fs f l := by rw [klL_eq]; exact fs_map f l _ fun x => by rw [fe, kl, klL_eq, map_lits _ fun v => by rw [kl]]
theorem trL_fs (ρ : Nat → Option Nat) (rf : Bool) : trL ρ rf (fs f l) = fs f l := by rw [trL_eq]; exact fs_map f l _ fun x => by rw [fe, tr, trL_eq, map_lits _ fun v => by rw [tr]]
theorem map_roD_fs : (fs f l).map roD = fs f l := by rw [← roL_eq, roL_fs]
theorem fs_length : (fs f l).length = l.length := by simp [fs]
theorem fs_get {i : Nat} (h : i < l.length) : (fs f l)[i]? = some (fe f l[i]) := by simp [fs, h]
theorem fs_snoc (x : α) : fs f l ++ [fe f x] = fs f (l ++ [x]) := by simp [fs]
theorem fs_take (n : Nat) : (fs f l).take n = fs f (l.take n) := by simp [fs]
end
end Go.Ev
namespace Go.Hk
open Go Go.Ev Go.Proofs
open Go.Ln (idx idx_eq)
set_option linter.unusedVariables false
set_option linter.unusedSimpArgs false
def gl (m : Int × Bool) : Tabs := ⟨fun g => if g = 0 then some [.int .i64 m.1] else if g = 1 then some (Lib.pow10Tab.map (Value.int .u64)) else if g = 2 ∧ m.2 = true then some [] else none, fun f => if f = 42 then some [.ptr, .pass, .pass] else if f = 62 then some [.ptr, .pass] else if f = 80 then some [.ptr] else if f = 82 then some [.ptr, .pass, .pass] else if f = 83 then some [.ptr, .pass] else if f = 95 then some [.ptr, .pass, .pass, .pass] else if f = 70 then some [.give, .pass, .pass] else if f = 45 then some [.give, .pass] else if f = 85 then some [.give, .pass] else if f = 86 then some [.give, .pass] else if f = 84 then some [.give] else if f = 64 then some [.give, .pass] else none⟩
def kn (m : Int × Bool) : Kn := ⟨Snd Tryd.prog (gl m), SndG Tryd.prog (gl m), fun f => ∃ fn, Tryd.prog.funcs[f]? = some fn ∧ fn.body.isSome = true ∧ fn.name ≠ "runtime.NumGoroutine"⟩
theorem kn_ok (m : Int × Bool) : Kn.Ok Tryd.prog (gl m) (kn m) := ⟨fun _ _ _ h => h, fun _ _ _ _ _ h => h, fun _ h => h⟩
theorem mixed : Tryd.prog.follows .mixedOrders = true := by kernel_rfl
variable {m : Int × Bool}
def fL (x : HL) : List Value := [.int .i64 x.1, .string (str x.2)]
def fE (e : Ed) : List Value := [.int .i64 e.1, .int .i64 e.2.1, .int .i64 e.2.2.1, .int .i64 e.2.2.2]
abbrev lineT (x : HL) : AV := .agg [I x.1, S x.2]
abbrev edT (e : Ed) : AV := .agg [I e.1, I e.2.1, I e.2.2.1, I e.2.2.2]
theorem fs_getL {l : List HL} {i : Nat} (h : i < l.length) : (fs fL l)[i]? = some (lineT l[i]) := fs_get fL l h
theorem fs_getE {l : List Ed} {i : Nat} (h : i < l.length) : (fs fE l)[i]? = some (edT l[i]) := fs_get fE l h
def kHk : Kd := .st (.pr (.int .i64) (.pr (.int .i64) (.sl (.st (.pr (.int .i64) .str)))))
abbrev hT (fl : Fl) (h : Hk) : AV := .agg [I h.1, I h.2.1, .sl fl 2 (fs fL h.2.2)]
def hS (fl : Fl) (l : List Hk) : List AV := l.map (hT fl)
theorem frnL_hS (fl : Fl) (l : List Hk) : frnL (hS fl l) = hS .frn l := frnL_ks fl kHk rfl rfl l
theorem roL_hS_own (l : List Hk) : roL (hS .own l) = hS .ro l := roL_ks_own kHk rfl rfl l
theorem roL_hS_frn (l : List Hk) : roL (hS .frn l) = hS .frn l := roL_ks_frn kHk rfl rfl l
theorem roL_hS_ro (l : List Hk) : roL (hS .ro l) = hS .ro l := roL_ks_ro kHk rfl rfl l
theorem resL_hS_own (l : List Hk) : resL (hS .own l) = hS .own l := resL_ks_own kHk rfl rfl l
theorem resL_hS_ro (l : List Hk) : resL (hS .ro l) = hS .ro l := resL_ks_ro kHk rfl rfl l
theorem klL_hS (fl : Fl) (p : Bool → Ref → Bool) (l : List Hk) : klL p false (hS fl l) = hS fl l := klL_ks fl kHk rfl rfl p l
theorem klL_hS_own (p : Bool → Ref → Bool) (l : List Hk) : klL p true (hS .own l) = hS .own l := klL_ks_own kHk rfl rfl p l
theorem klL_hS_frn (p : Bool → Ref → Bool) (l : List Hk) : klL p true (hS .frn l) = hS .frn l := klL_ks_frn kHk rfl rfl p l
theorem passL_hS_own (l : List Hk) : passL (hS .own l) = hS .frn l := passL_ks_own kHk rfl rfl l
theorem passL_hS_frn (l : List Hk) : passL (hS .frn l) = hS .frn l := passL_ks_frn kHk rfl rfl l
theorem trL_hS_own (ρ : Nat → Option Nat) (rf : Bool) (l : List Hk) : trL ρ rf (hS .own l) = hS .own l := trL_ks_own kHk rfl rfl ρ rf l
theorem trL_hS_frn (ρ : Nat → Option Nat) (l : List Hk) : trL ρ false (hS .frn l) = hS .frn l := trL_ks_frn kHk rfl rfl ρ l
theorem hS_length (fl : Fl) (l : List Hk) : (hS fl l).length = l.length := by simp [hS]
theorem hS_get {fl : Fl} {l : List Hk} {i : Nat} (h : i < l.length) : (hS fl l)[i]? = some (hT fl l[i]) := by simp [hS, h]
theorem hS_snoc (fl : Fl) (l : List Hk) (x : Hk) : hS fl l ++ [hT fl x] = hS fl (l ++ [x]) := by simp [hS]
theorem u8_10 (c : UInt8) : ((c.toNat : Int) == 10) = (c == 10) := by
  by_cases h : c = 10
  · subst h; rfl
  · rw [beq_false_of_ne h]
    have : c.toNat ≠ 10 := fun e => h (UInt8.toNat_inj.1 e)
    simp; omega
theorem u8n_10 (c : UInt8) : ((c.toNat : Int) != 10) = !(c == 10) := by rw [bne, u8_10]
theorem indexByte (s : Bs) (c : UInt8) : Snd Tryd.prog (gl m) 81 [S s, U8 c] (I (Lib.indexByte s c)) :=
  snd_same (us := [.string (str s), .int .u8 c.toNat]) rfl fun w zf h => by
    have := Tryd.strings_IndexByte (str s) (c.toNat : Int) w
    rw [str_dataL] at this
    simpa using this
end Go.Hk
namespace Go.Hk
open Go Go.Ev Go.Proofs
set_option linter.unusedVariables false
set_option linter.unusedSimpArgs false
set_option maxHeartbeats 2000000
attribute [local go_sem] eqs implies_true List.map_cons List.map_nil kl klL roD roL Option.map_some Option.map_none Option.getD_some Option.getD_none binVal binObl unVal if_true if_false eq_self passA frnD resD content getH getR getW viaNot viaSlot viaBox viaDeep viaMem List.contains_cons List.contains_nil grabs peeks okCells isCell place cellsOf chunk elt List.headD_cons List.length_cons List.length_nil List.take_succ_cons List.take_zero List.drop_succ_cons List.drop_zero List.nil_append List.cons_append List.append_nil List.all_cons List.all_nil plainC takeR setW over reCell List.getElem?_cons_zero List.getElem?_cons_succ List.set_cons_zero List.take_length outV resG plainV pack outVG outBx List.set_cons_succ Ref.idx Ref.addOff beq_self_eq_true bxL Option.bind_some writeR isLit viaBoxes capsPA boxPA nsOf noDup boxesAt argG passG passD rhoIn rhoOut idxIn tr trL List.getD_cons_zero gives pasOf isPtr Ins.d List.getD_cons_succ resL frnL partB_f partB_t partB_p partB_s St.setP mixR v_slcT List.getLast?_nil List.getLast?_singleton List.dropLast_singleton List.nil_append frnL_fs roL_fs resL_fs passL_fs klL_fs trL_fs map_roD_fs fs_length hS_length frnL_hS roL_hS_own roL_hS_frn roL_hS_ro resL_hS_own resL_hS_ro klL_hS klL_hS_own klL_hS_frn passL_hS_own passL_hS_frn trL_hS_own trL_hS_frn
variable {m : Int × Bool}
def psizes_k0' : AC := .seq (.reg (.seq [⟨some (18, false), none, .fad (.tmp 5 true) 0⟩,⟨some (19, false), none, .load (.tmp 18 false) 1 false false⟩,⟨some (20, false), none, .bin .neq (.tmp 19 false) (.cst (.int .i64 2) (.lit (.int .i64 2)))⟩])) [2, 3, 7, 8, 9, 20] []
    (.cond (.tmp 20 false)
      (.reg (.seq [⟨some (21, false), none, .mov (.tmp 3 true) .peek⟩,⟨some (22, false), none, .bin .add (.tmp 21 false) (.cst (.int .i64 1) (.lit (.int .i64 1)))⟩,⟨some (3, true), none, .mov (.tmp 22 false) .asg⟩]))
      (.skip))
def psizes_k0 : AC := psizes_k0'
theorem psizes_k0_w (C : Kn) (K : Ex → St → Prop) (s : St) : vcC C psizes_k0 K s = vcC C psizes_k0' K s := nr rfl
def psizes_k1' : AC := .reg (.seq [⟨some (23, false), none, .bin .add (.tmp 9 true) (.cst (.int .i64 1) (.lit (.int .i64 1)))⟩,⟨some (9, true), none, .mov (.tmp 23 false) .peek⟩])
def psizes_k1 : AC := psizes_k1'
theorem psizes_k1_w (C : Kn) (K : Ex → St → Prop) (s : St) : vcC C psizes_k1 K s = vcC C psizes_k1' K s := nr rfl
def psizes_k2' : AC := .seq (.block 1 (.seq (.reg (.seq [⟨some (11, false), none, .iad (.tmp 7 true) (.tmp 9 true) 2⟩,⟨some (12, false), none, .load (.tmp 11 false) 2 true false⟩,⟨some (5, true), none, .new [(.lit (.int .i64 0)), (.lit (.string (str [])))]⟩,⟨none, none, .store (.tmp 5 true) (.tmp 12 false) 2⟩])) [2, 3, 5, 7, 8, 9] [5]
    (.seq (.seq (.reg (.seq [⟨some (13, false), none, .fad (.tmp 5 true) 0⟩,⟨some (14, false), none, .load (.tmp 13 false) 1 false false⟩,⟨some (15, false), none, .bin .neq (.tmp 14 false) (.cst (.int .i64 3) (.lit (.int .i64 3)))⟩])) [2, 3, 5, 7, 8, 9, 15] [5]
    (.cond (.tmp 15 false)
      (.reg (.seq [⟨some (16, false), none, .mov (.tmp 2 true) .peek⟩,⟨some (17, false), none, .bin .add (.tmp 16 false) (.cst (.int .i64 1) (.lit (.int .i64 1)))⟩,⟨some (2, true), none, .mov (.tmp 17 false) .asg⟩]))
      (.skip))) [2, 3, 5, 7, 8, 9] [5] psizes_k0))) [2, 3, 7, 8, 9] [] psizes_k1
def psizes_k2 : AC := psizes_k2'
theorem psizes_k2_w (C : Kn) (K : Ex → St → Prop) (s : St) : vcC C psizes_k2 K s = vcC C psizes_k2' K s := nr rfl
def psizes_l3' : AC := .seq (.reg (.seq [⟨some (10, false), none, .bin .lss (.tmp 9 true) (.tmp 8 true)⟩])) [2, 3, 7, 8, 9, 10] []
  (.seq (.cond (.tmp 10 false)
    (.skip)
    (.exit 0)) [2, 3, 7, 8, 9] [] psizes_k2)
def psizes_l3 : AC := psizes_l3'
theorem psizes_l3_w (C : Kn) (K : Ex → St → Prop) (s : St) : vcC C psizes_l3 K s = vcC C psizes_l3' K s := nr rfl
def psizes_k4' : AC := .seq (.reg (.seq [⟨some (24, false), none, .mov (.tmp 2 true) .take⟩,⟨some (25, false), none, .mov (.tmp 3 true) .take⟩,⟨some (2, true), none, .mov (.tmp 24 false) .asg⟩,⟨some (3, true), none, .mov (.tmp 25 false) .asg⟩])) [2, 3] []
  (.ret)
def psizes_k4 : AC := psizes_k4'
theorem psizes_k4_w (C : Kn) (K : Ex → St → Prop) (s : St) : vcC C psizes_k4 K s = vcC C psizes_k4' K s := nr rfl
def psizes : AF := ⟨.seq (.reg (.seq [⟨some (1, true), none, .box (.tmp 0 true)⟩,⟨some (2, true), none, .mov (.cst (.int .i64 0) (.lit (.int .i64 0))) .asg⟩,⟨some (3, true), none, .mov (.cst (.int .i64 0) (.lit (.int .i64 0))) .asg⟩])) [1, 2, 3] [1]
  (.seq (.seq (.reg (.seq [⟨some (6, false), none, .fad (.tmp 1 true) 2⟩,⟨some (7, true), none, .load (.tmp 6 false) 1 false false⟩,⟨some (8, true), none, .lenL (.tmp 7 true)⟩,⟨some (9, true), none, .mov (.cst (.int .i64 0) (.lit (.int .i64 0))) .peek⟩])) [2, 3, 7, 8, 9] []
  (.block 0 (.loop [2, 3, 7, 8, 9] [] psizes_l3))) [2, 3] [] psizes_k4),
  [.tmp 2, .tmp 3]⟩
theorem psizes_comp (m : Int × Bool) : compF Tryd.prog (gl m) [] Tryd.f48 = some psizes := by kernel_rfl
def pgood : AF := ⟨.seq (.reg (.seq [⟨some (1, true), none, .box (.tmp 0 true)⟩,⟨some (2, true), none, .mov (.cst (.bool false) (.lit (.bool false))) .asg⟩])) [1] [1]
  (.seq (.reg (.seq [⟨some (4, false), none, .fad (.tmp 1 true) 1⟩,⟨some (5, false), none, .load (.tmp 4 false) 1 false false⟩,⟨some (6, false), none, .call 81 [.tmp 5 false, (.cst (.int .u8 10) (.lit (.int .u8 10)))]⟩,⟨some (3, true), none, .mov (.tmp 6 false) .asg⟩])) [1, 3] [1]
  (.seq (.reg (.seq [⟨some (7, false), none, .fad (.tmp 1 true) 0⟩,⟨some (8, false), none, .load (.tmp 7 false) 1 false false⟩,⟨some (9, false), none, .bin .geq (.tmp 8 false) (.cst (.int .i64 1) (.lit (.int .i64 1)))⟩,⟨some (10, false), none, .mov (.tmp 9 false) .peek⟩,⟨some (11, false), (some (10, true)), .fad (.tmp 1 true) 0⟩,⟨some (12, false), (some (10, true)), .load (.tmp 11 false) 1 false false⟩,⟨some (13, false), (some (10, true)), .bin .leq (.tmp 12 false) (.cst (.int .i64 3) (.lit (.int .i64 3)))⟩,⟨some (14, false), none, .pick (.tmp 10 false) (.tmp 13 false) (.cst (.bool false) (.lit (.bool false)))⟩,⟨some (15, false), none, .mov (.tmp 14 false) .peek⟩,⟨some (16, false), (some (15, true)), .fad (.tmp 1 true) 1⟩,⟨some (17, false), (some (15, true)), .load (.tmp 16 false) 1 false false⟩,⟨some (18, false), (some (15, true)), .bin .neq (.tmp 17 false) (.cst (.string (str [])) (.lit (.string (str []))))⟩,⟨some (19, false), none, .pick (.tmp 15 false) (.tmp 18 false) (.cst (.bool false) (.lit (.bool false)))⟩,⟨some (20, false), none, .mov (.tmp 19 false) .peek⟩,⟨some (21, false), (some (20, true)), .mov (.tmp 3 true) .peek⟩,⟨some (22, false), (some (20, true)), .bin .lss (.tmp 21 false) (.cst (.int .i64 0) (.lit (.int .i64 0)))⟩,⟨some (23, false), (some (20, true)), .mov (.tmp 22 false) .peek⟩,⟨some (24, false), (some (23, false)), .mov (.tmp 3 true) .peek⟩,⟨some (25, false), (some (23, false)), .fad (.tmp 1 true) 1⟩,⟨some (26, false), (some (23, false)), .load (.tmp 25 false) 1 false false⟩,⟨some (27, false), (some (23, false)), .len (.tmp 26 false)⟩,⟨some (28, false), (some (23, false)), .bin .sub (.tmp 27 false) (.cst (.int .i64 1) (.lit (.int .i64 1)))⟩,⟨some (29, false), (some (23, false)), .bin .eql (.tmp 24 false) (.tmp 28 false)⟩,⟨some (30, false), (some (20, true)), .pick (.tmp 23 false) (.cst (.bool true) (.lit (.bool true))) (.tmp 29 false)⟩,⟨some (31, false), none, .pick (.tmp 20 false) (.tmp 30 false) (.cst (.bool false) (.lit (.bool false)))⟩,⟨some (2, true), none, .mov (.tmp 31 false) .asg⟩])) [2] []
  (.ret))),
  [.tmp 2]⟩
theorem pgood_comp (m : Int × Bool) : compF Tryd.prog (gl m) [] Tryd.f71 = some pgood := by kernel_rfl
def popen : AF := ⟨.seq (.reg (.seq [⟨some (1, true), none, .box (.tmp 0 true)⟩,⟨some (2, true), none, .mov (.cst (.bool false) (.lit (.bool false))) .asg⟩])) [1] [1]
  (.seq (.reg (.seq [⟨some (3, false), none, .fad (.tmp 1 true) 1⟩,⟨some (4, false), none, .load (.tmp 3 false) 1 false false⟩,⟨some (5, false), none, .bin .neq (.tmp 4 false) (.cst (.string (str [])) (.lit (.string (str []))))⟩,⟨some (6, false), none, .mov (.tmp 5 false) .peek⟩,⟨some (7, false), (some (6, true)), .fad (.tmp 1 true) 1⟩,⟨some (8, false), (some (6, true)), .load (.tmp 7 false) 1 false false⟩,⟨some (9, false), (some (6, true)), .fad (.tmp 1 true) 1⟩,⟨some (10, false), (some (6, true)), .load (.tmp 9 false) 1 false false⟩,⟨some (11, false), (some (6, true)), .len (.tmp 10 false)⟩,⟨some (12, false), (some (6, true)), .bin .sub (.tmp 11 false) (.cst (.int .i64 1) (.lit (.int .i64 1)))⟩,⟨some (13, false), (some (6, true)), .idx (.tmp 8 false) (.tmp 12 false)⟩,⟨some (14, false), (some (6, true)), .bin .neq (.tmp 13 false) (.cst (.int .u8 10) (.lit (.int .u8 10)))⟩,⟨some (15, false), none, .pick (.tmp 6 false) (.tmp 14 false) (.cst (.bool false) (.lit (.bool false)))⟩,⟨some (2, true), none, .mov (.tmp 15 false) .asg⟩])) [2] []
  (.ret)),
  [.tmp 2]⟩
theorem popen_comp (m : Int × Bool) : compF Tryd.prog (gl m) [] Tryd.f55 = some popen := by kernel_rfl
theorem cntO_take {l : List HL} {i : Nat} (h : i < l.length) : cntO (l.take (i + 1)) = cntO (l.take i) + if l[i].1 = 3 then 0 else 1 := by rw [take_snoc h, cntO_snoc]
theorem cntN_take {l : List HL} {i : Nat} (h : i < l.length) : cntN (l.take (i + 1)) = cntN (l.take i) + if l[i].1 = 2 then 0 else 1 := by rw [take_snoc h, cntN_snoc]
theorem psizes_snd (h : Hk) (hl : h.2.2.length ≤ 1048576) : Snd Tryd.prog (gl m) 48 [hT .frn h] (.tup [N (cntO h.2.2), N (cntN h.2.2)]) := by
  refine snd_of (fn := Tryd.f48) (af := psizes) Tryd.func48 (psizes_comp m) mixed (kn_ok m) (Nat.le_of_ble_eq_true rfl) ?_
  simp only [psizes, go_sem, reduceCtorEq, Nat.reduceEqDiff, reduceIte, Nat.reduceAdd, Nat.reduceSub, Nat.reduceLeDiff, Int.reduceToNat, Nat.reduceBEq]
  obtain ⟨f, t, l⟩ := h
  dsimp only at hl ⊢
  repeat ((with_reducible apply And.intro); (case left => first | omega | (simp only [List.length_append, List.length_cons, List.length_nil, List.length_drop, List.length_take, List.length_tail, List.length_dropLast, fs_length, ss_length, bs_length, ns_length]; omega)))
  refine loop_up l.length (fun i => mkS [(2, N (cntO (l.take i))), (3, N (cntN (l.take i))), (7, .sl .frn 2 (fs fL l)), (8, N l.length), (9, N i)] []) rfl ?_
  intro i hi ih
  simp only [psizes_l3_w, psizes_l3', go_sem, reduceCtorEq, Nat.reduceEqDiff, reduceIte, Nat.reduceAdd, Nat.reduceSub, Nat.reduceLeDiff, Int.reduceToNat, Nat.reduceBEq]
  repeat ((with_reducible apply And.intro); (case left => first | omega | (simp only [List.length_append, List.length_cons, List.length_nil, List.length_drop, List.length_take, List.length_tail, List.length_dropLast, fs_length, ss_length, bs_length, ns_length]; omega)))
  by_cases h : i < l.length
  · have g := fs_getL h
    have q1 : IntKind.i64.wrap ((i : Int) + 1) = ((i + 1 : Nat) : Int) := wrapN _ (by omega) (by omega)
    have hO := cntO_le (l.take i)
    have hN := cntN_le (l.take i)
    rw [List.length_take] at hO hN
    rw [cntO_take h, cntN_take h] at ih
    generalize l[i] = x at g ih
    generalize cntO (l.take i) = a at ih hO ⊢
    generalize cntN (l.take i) = b at ih hN ⊢
    have q2 : IntKind.i64.wrap ((a : Int) + 1) = ((a + 1 : Nat) : Int) := wrapN _ (by omega) (by omega)
    have q3 : IntKind.i64.wrap ((b : Int) + 1) = ((b + 1 : Nat) : Int) := wrapN _ (by omega) (by omega)
    by_cases h3 : x.1 = 3 <;> by_cases h2 : x.1 = 2
    · omega
    · rw [if_pos h3, if_neg h2] at ih
      simp only [lt_t h, g, Int.toNat_natCast, ne_f h3, ne_t h2, q1, q2, q3, psizes_k0_w, psizes_k0', psizes_k1_w, psizes_k1', psizes_k2_w, psizes_k2', go_sem, reduceCtorEq, Nat.reduceEqDiff, reduceIte, Nat.reduceAdd, Nat.reduceSub, Nat.reduceLeDiff, Int.reduceToNat, Nat.reduceBEq]
      repeat ((with_reducible apply And.intro); (case left => first | omega | (simp only [List.length_append, List.length_cons, List.length_nil, List.length_drop, List.length_take, List.length_tail, List.length_dropLast, fs_length, ss_length, bs_length, ns_length]; omega)))
      exact ih h
    · rw [if_neg h3, if_pos h2] at ih
      simp only [lt_t h, g, Int.toNat_natCast, ne_t h3, ne_f h2, q1, q2, q3, psizes_k0_w, psizes_k0', psizes_k1_w, psizes_k1', psizes_k2_w, psizes_k2', go_sem, reduceCtorEq, Nat.reduceEqDiff, reduceIte, Nat.reduceAdd, Nat.reduceSub, Nat.reduceLeDiff, Int.reduceToNat, Nat.reduceBEq]
      repeat ((with_reducible apply And.intro); (case left => first | omega | (simp only [List.length_append, List.length_cons, List.length_nil, List.length_drop, List.length_take, List.length_tail, List.length_dropLast, fs_length, ss_length, bs_length, ns_length]; omega)))
      exact ih h
    · rw [if_neg h3, if_neg h2] at ih
      simp only [lt_t h, g, Int.toNat_natCast, ne_t h3, ne_t h2, q1, q2, q3, psizes_k0_w, psizes_k0', psizes_k1_w, psizes_k1', psizes_k2_w, psizes_k2', go_sem, reduceCtorEq, Nat.reduceEqDiff, reduceIte, Nat.reduceAdd, Nat.reduceSub, Nat.reduceLeDiff, Int.reduceToNat, Nat.reduceBEq]
      repeat ((with_reducible apply And.intro); (case left => first | omega | (simp only [List.length_append, List.length_cons, List.length_nil, List.length_drop, List.length_take, List.length_tail, List.length_dropLast, fs_length, ss_length, bs_length, ns_length]; omega)))
      exact ih h
  · obtain rfl : i = l.length := by omega
    rw [List.take_length]
    simp only [lt_f h, psizes_k4_w, psizes_k4', go_sem, reduceCtorEq, Nat.reduceEqDiff, reduceIte, Nat.reduceAdd, Nat.reduceSub, Nat.reduceLeDiff, Int.reduceToNat, Nat.reduceBEq]
theorem last_get {s : Bs} (h : s ≠ []) : ∃ c, s.getLast? = some c ∧ s[s.length - 1]? = some c := by
  refine ⟨s.getLast h, List.getLast?_eq_some_getLast h, ?_⟩
  rw [← List.getLast?_eq_getElem?]; exact List.getLast?_eq_some_getLast h
theorem ixb (s : Bs) (c : UInt8) : (∃ i : Nat, Lib.indexByte s c = (i : Int) ∧ i < s.length ∧ s[i]? = some c ∧ ∀ j, j < i → s[j]? ≠ some c) ∨ (Lib.indexByte s c = -1 ∧ ∀ j : Nat, s[j]? ≠ some c) := by
  induction s with
  | nil => exact .inr ⟨rfl, fun j => by simp⟩
  | cons b l ih =>
    by_cases hb : b = c
    · subst hb
      exact .inl ⟨0, by simp [Lib.indexByte], by simp, by simp, fun j hj => by omega⟩
    · rcases ih with ⟨i, h1, h2, h3, h4⟩ | ⟨h1, h2⟩
      · refine .inl ⟨i + 1, ?_, by simp; omega, by simpa using h3, fun j hj => ?_⟩
        · have : ¬ ((i : Int) = -1) := by omega
          simp [Lib.indexByte, hb, h1, this]
        · cases j with
          | zero => simpa using hb
          | succ j => simpa using h4 j (by omega)
      · refine .inr ⟨by simp [Lib.indexByte, hb, h1], fun j => ?_⟩
        cases j with
        | zero => simpa using hb
        | succ j => simpa using h2 j
theorem isLine_iff (s : Bs) : isLine s = true ↔ s ≠ [] ∧ ∀ j, j + 1 < s.length → s[j]? ≠ some 10 := by
  simp only [isLine, Bool.and_eq_true, Bool.not_eq_true', List.isEmpty_eq_false_iff]
  refine and_congr Iff.rfl ⟨fun h j hj he => ?_, fun h => ?_⟩
  · have : (10 : UInt8) ∈ s.dropLast := List.mem_iff_getElem?.2 ⟨j, by rw [List.getElem?_dropLast, if_pos (by omega)]; exact he⟩
    rw [List.contains_iff_mem.2 this] at h; cases h
  · rw [Bool.eq_false_iff]
    intro hc
    obtain ⟨j, hj⟩ := List.mem_iff_getElem?.1 (List.contains_iff_mem.1 hc)
    rw [List.getElem?_dropLast] at hj
    split at hj
    · exact h j (by omega) hj
    · cases hj
theorem pgood_snd (x : HL) (hl : x.2.length ≤ 1048576) : Snd Tryd.prog (gl m) 71 [lineT x] (B (okK x.1 && isLine x.2)) := by
  refine snd_of (fn := Tryd.f71) (af := pgood) Tryd.func71 (pgood_comp m) mixed (kn_ok m) (Nat.le_of_ble_eq_true rfl) ?_
  simp only [pgood, go_sem, reduceCtorEq, Nat.reduceEqDiff, reduceIte, Nat.reduceAdd, Nat.reduceSub, Nat.reduceLeDiff, Int.reduceToNat, Nat.reduceBEq]
  repeat ((with_reducible apply And.intro); (case left => first | omega | (simp only [List.length_append, List.length_cons, List.length_nil, List.length_drop, List.length_take, List.length_tail, List.length_dropLast, fs_length, ss_length, bs_length, ns_length]; omega)))
  refine of_call (indexByte x.2 10) ?_
  simp only [go_sem, reduceCtorEq, Nat.reduceEqDiff, reduceIte, Nat.reduceAdd, Nat.reduceSub, Nat.reduceLeDiff, Int.reduceToNat, Nat.reduceBEq]
  repeat ((with_reducible apply And.intro); (case left => first | omega | (simp only [List.length_append, List.length_cons, List.length_nil, List.length_drop, List.length_take, List.length_tail, List.length_dropLast, fs_length, ss_length, bs_length, ns_length]; omega)))
  obtain ⟨k, s⟩ := x
  dsimp only at hl ⊢
  by_cases h1 : 1 ≤ k
  · by_cases h3 : k ≤ 3
    · by_cases h0 : s = []
      · subst h0
        rw [show isLine [] = false from rfl, Bool.and_false]
        simp only [decide_eq_true (show k ≥ 1 from h1), decide_eq_true h3, sn_f (show ([] : Bs) = [] from rfl), go_sem, reduceCtorEq, Nat.reduceEqDiff, reduceIte, Nat.reduceAdd, Nat.reduceSub, Nat.reduceLeDiff, Int.reduceToNat, Nat.reduceBEq]
        omega
      · have q1 : IntKind.i64.wrap ((s.length : Int) - 1) = ((s.length - 1 : Nat) : Int) := by
          have := List.length_pos_iff.2 h0
          exact wrapN _ (by omega) (by omega)
        have hk : okK k = true := by rw [okK, decide_eq_true h1, decide_eq_true h3]; rfl
        rcases ixb s 10 with ⟨i, e1, e2, e3, e4⟩ | ⟨e1, e2⟩
        · by_cases hi : i = s.length - 1
          · have : isLine s = true := (isLine_iff s).2 ⟨h0, fun j hj => e4 j (by omega)⟩
            rw [hk, this, e1]
            simp only [decide_eq_true (show k ≥ 1 from h1), decide_eq_true h3, sn_t h0, ilt_f (show ¬ ((i : Nat) : Int) < 0 by omega), q1, eq_t (show ((i : Nat) : Int) = ((s.length - 1 : Nat) : Int) by omega), go_sem, reduceCtorEq, Nat.reduceEqDiff, reduceIte, Nat.reduceAdd, Nat.reduceSub, Nat.reduceLeDiff, Int.reduceToNat, Nat.reduceBEq]
            first | rfl | omega | trace_state
          · have : isLine s = false := by
              rw [Bool.eq_false_iff]; intro h; exact ((isLine_iff s).1 h).2 i (by omega) e3
            rw [hk, this, e1]
            simp only [decide_eq_true (show k ≥ 1 from h1), decide_eq_true h3, sn_t h0, ilt_f (show ¬ ((i : Nat) : Int) < 0 by omega), q1, eq_f (show ¬ ((i : Nat) : Int) = ((s.length - 1 : Nat) : Int) by omega), go_sem, reduceCtorEq, Nat.reduceEqDiff, reduceIte, Nat.reduceAdd, Nat.reduceSub, Nat.reduceLeDiff, Int.reduceToNat, Nat.reduceBEq]
            first | rfl | omega | trace_state
        · have : isLine s = true := (isLine_iff s).2 ⟨h0, fun j hj => e2 j⟩
          rw [hk, this, e1]
          simp only [decide_eq_true (show k ≥ 1 from h1), decide_eq_true h3, sn_t h0, ilt_t (show (-1 : Int) < 0 by omega), go_sem, reduceCtorEq, Nat.reduceEqDiff, reduceIte, Nat.reduceAdd, Nat.reduceSub, Nat.reduceLeDiff, Int.reduceToNat, Nat.reduceBEq]
          first | rfl | omega | trace_state
    · have hk : okK k = false := by rw [okK, decide_eq_false h3, Bool.and_false]
      rw [hk, Bool.false_and]
      simp only [decide_eq_true (show k ≥ 1 from h1), decide_eq_false h3, go_sem, reduceCtorEq, Nat.reduceEqDiff, reduceIte, Nat.reduceAdd, Nat.reduceSub, Nat.reduceLeDiff, Int.reduceToNat, Nat.reduceBEq]
      first | rfl | omega | trace_state
  · have hk : okK k = false := by rw [okK, decide_eq_false h1, Bool.false_and]
    rw [hk, Bool.false_and]
    simp only [decide_eq_false (show ¬ k ≥ 1 from h1), go_sem, reduceCtorEq, Nat.reduceEqDiff, reduceIte, Nat.reduceAdd, Nat.reduceSub, Nat.reduceLeDiff, Int.reduceToNat, Nat.reduceBEq]
    first | rfl | omega | trace_state
theorem popen_snd (x : HL) (hl : x.2.length ≤ 1048576) : Snd Tryd.prog (gl m) 55 [lineT x] (B (openL x.2)) := by
  refine snd_of (fn := Tryd.f55) (af := popen) Tryd.func55 (popen_comp m) mixed (kn_ok m) (Nat.le_of_ble_eq_true rfl) ?_
  simp only [popen, go_sem, reduceCtorEq, Nat.reduceEqDiff, reduceIte, Nat.reduceAdd, Nat.reduceSub, Nat.reduceLeDiff, Int.reduceToNat, Nat.reduceBEq]
  obtain ⟨k, s⟩ := x
  dsimp only at hl ⊢
  repeat ((with_reducible apply And.intro); (case left => first | omega | (simp only [List.length_append, List.length_cons, List.length_nil, List.length_drop, List.length_take, List.length_tail, List.length_dropLast, fs_length, ss_length, bs_length, ns_length]; omega)))
  by_cases h0 : s = []
  · subst h0
    simp only [sn_f (show ([] : Bs) = [] from rfl), go_sem, reduceCtorEq, Nat.reduceEqDiff, reduceIte, Nat.reduceAdd, Nat.reduceSub, Nat.reduceLeDiff, Int.reduceToNat, Nat.reduceBEq]
    first | rfl | omega | trace_state
  · obtain ⟨c, g1, g2⟩ := last_get h0
    have q1 : IntKind.i64.wrap ((s.length : Int) - 1) = ((s.length - 1 : Nat) : Int) := by
      have := List.length_pos_iff.2 h0
      exact wrapN _ (by omega) (by omega)
    have hop : openL s = !(c == 10) := by
      rw [openL, g1]
      cases s with
      | nil => exact absurd rfl h0
      | cons x s => by_cases hc : c = 10 <;> simp [hc]
    rw [hop]
    simp only [sn_t h0, q1, g2, Int.toNat_natCast, go_sem, reduceCtorEq, Nat.reduceEqDiff, reduceIte, Nat.reduceAdd, Nat.reduceSub, Nat.reduceLeDiff, Int.reduceToNat, Nat.reduceBEq]
    repeat ((with_reducible apply And.intro); (case left => first | omega | (simp only [List.length_append, List.length_cons, List.length_nil, List.length_drop, List.length_take, List.length_tail, List.length_dropLast, fs_length, ss_length, bs_length, ns_length]; omega)))
    by_cases hc : c = 10
    · subst hc; simp only [beq_self_eq_true, go_sem, reduceCtorEq, Nat.reduceEqDiff, reduceIte, Nat.reduceAdd, Nat.reduceSub, Nat.reduceLeDiff, Int.reduceToNat, Nat.reduceBEq]; rfl
    · rw [beq_false_of_ne hc, u8n_10, beq_false_of_ne hc]
end Go.Hk
namespace Go.Hk
open Go Go.Ev Go.Proofs
set_option linter.unusedVariables false
set_option linter.unusedSimpArgs false
set_option maxHeartbeats 4000000
attribute [local go_sem] eqs implies_true List.map_cons List.map_nil kl klL roD roL Option.map_some Option.map_none Option.getD_some Option.getD_none binVal binObl unVal if_true if_false eq_self passA frnD resD content getH getR getW viaNot viaSlot viaBox viaDeep viaMem List.contains_cons List.contains_nil grabs peeks okCells isCell place cellsOf chunk elt List.headD_cons List.length_cons List.length_nil List.take_succ_cons List.take_zero List.drop_succ_cons List.drop_zero List.nil_append List.cons_append List.append_nil List.all_cons List.all_nil plainC takeR setW over reCell List.getElem?_cons_zero List.getElem?_cons_succ List.set_cons_zero List.take_length outV resG plainV pack outVG outBx List.set_cons_succ Ref.idx Ref.addOff beq_self_eq_true bxL Option.bind_some writeR isLit viaBoxes capsPA boxPA nsOf noDup boxesAt argG passG passD rhoIn rhoOut idxIn tr trL List.getD_cons_zero gives pasOf isPtr Ins.d List.getD_cons_succ resL frnL partB_f partB_t partB_p partB_s St.setP mixR v_slcT List.getLast?_nil List.getLast?_singleton List.dropLast_singleton List.nil_append frnL_fs roL_fs resL_fs passL_fs klL_fs trL_fs map_roD_fs fs_length hS_length frnL_hS roL_hS_own roL_hS_frn roL_hS_ro resL_hS_own resL_hS_ro klL_hS klL_hS_own klL_hS_frn passL_hS_own passL_hS_frn trL_hS_own trL_hS_frn
variable {m : Int × Bool}
def pins_k0' : AC := .cond (.tmp 36 false)
      (.seq (.reg (.seq [⟨some (4, true), none, .mov (.cst (.bool false) (.lit (.bool false))) .asg⟩])) [4] []
      (.ret))
      (.skip)
def pins_k0 : AC := pins_k0'
theorem pins_k0_w (C : Kn) (K : Ex → St → Prop) (s : St) : vcC C pins_k0 K s = vcC C pins_k0' K s := nr rfl
def pins_k1' : AC := .cond (.tmp 53 false)
      (.seq (.reg (.seq [⟨some (4, true), none, .mov (.cst (.bool false) (.lit (.bool false))) .asg⟩])) [4] []
      (.ret))
      (.skip)
def pins_k1 : AC := pins_k1'
theorem pins_k1_w (C : Kn) (K : Ex → St → Prop) (s : St) : vcC C pins_k1 K s = vcC C pins_k1' K s := nr rfl
def pins_k2' : AC := .seq (.reg (.seq [⟨some (54, false), none, .mov (.tmp 5 true) .peek⟩,⟨some (55, false), none, .mov (.tmp 54 false) .peek⟩,⟨some (56, false), (some (55, false)), .fad (.tmp 9 true) 0⟩,⟨some (57, false), (some (55, false)), .load (.tmp 56 false) 1 false false⟩,⟨some (58, false), (some (55, false)), .bin .neq (.tmp 57 false) (.cst (.int .i64 1) (.lit (.int .i64 1)))⟩,⟨some (59, false), none, .pick (.tmp 55 false) (.cst (.bool true) (.lit (.bool true))) (.tmp 58 false)⟩,⟨some (5, true), none, .mov (.tmp 59 false) .asg⟩])) [1, 2, 5, 6, 7, 9, 11, 12, 13] [2, 9]
    (.seq (.reg (.seq [⟨some (60, false), none, .load (.tmp 9 true) 2 true false⟩,⟨some (61, false), none, .call 55 [.tmp 60 false]⟩])) [1, 2, 5, 6, 7, 9, 11, 12, 13, 61] [2, 9]
    (.cond (.tmp 61 false)
      (.seq (.reg (.seq [⟨some (62, false), none, .mov (.tmp 6 true) .peek⟩,⟨some (63, false), none, .mov (.tmp 62 false) .peek⟩,⟨some (64, false), (some (63, false)), .fad (.tmp 9 true) 0⟩,⟨some (65, false), (some (63, false)), .load (.tmp 64 false) 1 false false⟩,⟨some (66, false), (some (63, false)), .bin .neq (.tmp 65 false) (.cst (.int .i64 3) (.lit (.int .i64 3)))⟩,⟨some (67, false), none, .pick (.tmp 63 false) (.cst (.bool true) (.lit (.bool true))) (.tmp 66 false)⟩,⟨some (6, true), none, .mov (.tmp 67 false) .asg⟩])) [1, 2, 5, 6, 7, 9, 11, 12, 13] [2, 9]
      (.reg (.seq [⟨some (68, false), none, .mov (.tmp 7 true) .peek⟩,⟨some (69, false), none, .mov (.tmp 68 false) .peek⟩,⟨some (70, false), (some (69, false)), .fad (.tmp 9 true) 0⟩,⟨some (71, false), (some (69, false)), .load (.tmp 70 false) 1 false false⟩,⟨some (72, false), (some (69, false)), .bin .neq (.tmp 71 false) (.cst (.int .i64 2) (.lit (.int .i64 2)))⟩,⟨some (73, false), none, .pick (.tmp 69 false) (.cst (.bool true) (.lit (.bool true))) (.tmp 72 false)⟩,⟨some (7, true), none, .mov (.tmp 73 false) .asg⟩])))
      (.skip)))
def pins_k2 : AC := pins_k2'
theorem pins_k2_w (C : Kn) (K : Ex → St → Prop) (s : St) : vcC C pins_k2 K s = vcC C pins_k2' K s := nr rfl
def pins_k3' : AC := .seq (.seq (.reg (.seq [⟨some (37, false), none, .fad (.tmp 9 true) 0⟩,⟨some (38, false), none, .load (.tmp 37 false) 1 false false⟩,⟨some (39, false), none, .bin .eql (.tmp 38 false) (.cst (.int .i64 2) (.lit (.int .i64 2)))⟩,⟨some (40, false), none, .mov (.tmp 39 false) .peek⟩,⟨some (41, false), (some (40, true)), .mov (.tmp 8 true) .peek⟩,⟨some (42, false), (some (40, true)), .bin .gtr (.tmp 41 false) (.cst (.int .i64 0) (.lit (.int .i64 0)))⟩,⟨some (43, false), none, .pick (.tmp 40 false) (.tmp 42 false) (.cst (.bool false) (.lit (.bool false)))⟩,⟨some (44, false), none, .mov (.tmp 43 false) .peek⟩,⟨some (45, false), (some (44, true)), .fad (.tmp 2 true) 2⟩,⟨some (46, false), (some (44, true)), .load (.tmp 45 false) 1 false false⟩,⟨some (47, false), (some (44, true)), .mov (.tmp 8 true) .peek⟩,⟨some (48, false), (some (44, true)), .bin .sub (.tmp 47 false) (.cst (.int .i64 1) (.lit (.int .i64 1)))⟩,⟨some (49, false), (some (44, true)), .iad (.tmp 46 false) (.tmp 48 false) 2⟩,⟨some (50, false), (some (44, true)), .fad (.tmp 49 false) 0⟩,⟨some (51, false), (some (44, true)), .load (.tmp 50 false) 1 false false⟩,⟨some (52, false), (some (44, true)), .bin .eql (.tmp 51 false) (.cst (.int .i64 3) (.lit (.int .i64 3)))⟩,⟨some (53, false), none, .pick (.tmp 44 false) (.tmp 52 false) (.cst (.bool false) (.lit (.bool false)))⟩])) [1, 2, 5, 6, 7, 9, 11, 12, 13, 53] [2, 9] pins_k1) [1, 2, 5, 6, 7, 9, 11, 12, 13] [2, 9] pins_k2
def pins_k3 : AC := pins_k3'
theorem pins_k3_w (C : Kn) (K : Ex → St → Prop) (s : St) : vcC C pins_k3 K s = vcC C pins_k3' K s := nr rfl
def pins_k4' : AC := .reg (.seq [⟨some (74, false), none, .bin .add (.tmp 13 true) (.cst (.int .i64 1) (.lit (.int .i64 1)))⟩,⟨some (13, true), none, .mov (.tmp 74 false) .peek⟩])
def pins_k4 : AC := pins_k4'
theorem pins_k4_w (C : Kn) (K : Ex → St → Prop) (s : St) : vcC C pins_k4 K s = vcC C pins_k4' K s := nr rfl
def pins_k5' : AC := .seq (.block 1 (.seq (.reg (.seq [⟨some (15, false), none, .mov (.tmp 13 true) .take⟩,⟨some (16, false), none, .iad (.tmp 11 true) (.tmp 13 true) 2⟩,⟨some (17, false), none, .load (.tmp 16 false) 2 true false⟩,⟨some (9, true), none, .new [(.lit (.int .i64 0)), (.lit (.string (str [])))]⟩,⟨some (8, true), none, .mov (.tmp 15 false) .asg⟩,⟨none, none, .store (.tmp 9 true) (.tmp 17 false) 2⟩])) [1, 2, 5, 6, 7, 8, 9, 11, 12, 13] [2, 9]
    (.seq (.seq (.reg (.seq [⟨some (18, false), none, .load (.tmp 9 true) 2 true false⟩,⟨some (19, false), none, .call 71 [.tmp 18 false]⟩,⟨some (20, false), none, .un .not (.tmp 19 false)⟩,⟨some (21, false), none, .mov (.tmp 20 false) .peek⟩,⟨some (22, false), (some (21, false)), .fad (.tmp 9 true) 0⟩,⟨some (23, false), (some (21, false)), .load (.tmp 22 false) 1 false false⟩,⟨some (24, false), (some (21, false)), .bin .neq (.tmp 23 false) (.cst (.int .i64 3) (.lit (.int .i64 3)))⟩,⟨some (25, false), (some (21, false)), .mov (.tmp 24 false) .peek⟩,⟨some (26, false), (some (25, true)), .mov (.tmp 6 true) .peek⟩,⟨some (27, false), (some (21, false)), .pick (.tmp 25 false) (.tmp 26 false) (.cst (.bool false) (.lit (.bool false)))⟩,⟨some (28, false), none, .pick (.tmp 21 false) (.cst (.bool true) (.lit (.bool true))) (.tmp 27 false)⟩,⟨some (29, false), none, .mov (.tmp 28 false) .peek⟩,⟨some (30, false), (some (29, false)), .fad (.tmp 9 true) 0⟩,⟨some (31, false), (some (29, false)), .load (.tmp 30 false) 1 false false⟩,⟨some (32, false), (some (29, false)), .bin .neq (.tmp 31 false) (.cst (.int .i64 2) (.lit (.int .i64 2)))⟩,⟨some (33, false), (some (29, false)), .mov (.tmp 32 false) .peek⟩,⟨some (34, false), (some (33, true)), .mov (.tmp 7 true) .peek⟩,⟨some (35, false), (some (29, false)), .pick (.tmp 33 false) (.tmp 34 false) (.cst (.bool false) (.lit (.bool false)))⟩,⟨some (36, false), none, .pick (.tmp 29 false) (.cst (.bool true) (.lit (.bool true))) (.tmp 35 false)⟩])) [1, 2, 5, 6, 7, 8, 9, 11, 12, 13, 36] [2, 9] pins_k0) [1, 2, 5, 6, 7, 8, 9, 11, 12, 13] [2, 9] pins_k3))) [1, 2, 5, 6, 7, 11, 12, 13] [2] pins_k4
def pins_k5 : AC := pins_k5'
theorem pins_k5_w (C : Kn) (K : Ex → St → Prop) (s : St) : vcC C pins_k5 K s = vcC C pins_k5' K s := nr rfl
def pins_l6' : AC := .seq (.reg (.seq [⟨some (14, false), none, .bin .lss (.tmp 13 true) (.tmp 12 true)⟩])) [1, 2, 5, 6, 7, 11, 12, 13, 14] [2]
  (.seq (.cond (.tmp 14 false)
    (.skip)
    (.exit 0)) [1, 2, 5, 6, 7, 11, 12, 13] [2] pins_k5)
def pins_l6 : AC := pins_l6'
theorem pins_l6_w (C : Kn) (K : Ex → St → Prop) (s : St) : vcC C pins_l6 K s = vcC C pins_l6' K s := nr rfl
def pins_k7' : AC := .ret
def pins_k7 : AC := pins_k7'
theorem pins_k7_w (C : Kn) (K : Ex → St → Prop) (s : St) : vcC C pins_k7 K s = vcC C pins_k7' K s := nr rfl
def pins_k8' : AC := .seq (.reg (.seq [⟨some (75, false), none, .mov (.tmp 5 true) .peek⟩,⟨some (76, false), none, .mov (.tmp 75 false) .peek⟩,⟨some (77, false), (some (76, true)), .mov (.tmp 1 true) .peek⟩,⟨some (78, false), (some (76, true)), .mov (.tmp 77 false) .peek⟩,⟨some (79, false), (some (78, false)), .mov (.tmp 6 true) .peek⟩,⟨some (80, false), (some (78, false)), .un .not (.tmp 79 false)⟩,⟨some (81, false), (some (78, false)), .mov (.tmp 80 false) .peek⟩,⟨some (82, false), (some (81, true)), .mov (.tmp 7 true) .peek⟩,⟨some (83, false), (some (81, true)), .un .not (.tmp 82 false)⟩,⟨some (84, false), (some (78, false)), .pick (.tmp 81 false) (.tmp 83 false) (.cst (.bool false) (.lit (.bool false)))⟩,⟨some (85, false), (some (76, true)), .pick (.tmp 78 false) (.cst (.bool true) (.lit (.bool true))) (.tmp 84 false)⟩,⟨some (86, false), none, .pick (.tmp 76 false) (.tmp 85 false) (.cst (.bool false) (.lit (.bool false)))⟩,⟨some (4, true), none, .mov (.tmp 86 false) .asg⟩])) [4] [] pins_k7
def pins_k8 : AC := pins_k8'
theorem pins_k8_w (C : Kn) (K : Ex → St → Prop) (s : St) : vcC C pins_k8 K s = vcC C pins_k8' K s := nr rfl
def pins : AF := ⟨.seq (.reg (.seq [⟨some (2, true), none, .box (.tmp 0 true)⟩,⟨some (4, true), none, .mov (.cst (.bool false) (.lit (.bool false))) .asg⟩])) [1, 2] [2]
  (.seq (.reg (.seq [⟨some (5, true), none, .mov (.cst (.bool false) (.lit (.bool false))) .asg⟩,⟨some (6, true), none, .mov (.cst (.bool false) (.lit (.bool false))) .asg⟩,⟨some (7, true), none, .mov (.cst (.bool false) (.lit (.bool false))) .asg⟩])) [1, 2, 5, 6, 7] [2]
  (.seq (.seq (.reg (.seq [⟨some (10, false), none, .fad (.tmp 2 true) 2⟩,⟨some (11, true), none, .load (.tmp 10 false) 1 false false⟩,⟨some (12, true), none, .lenL (.tmp 11 true)⟩,⟨some (13, true), none, .mov (.cst (.int .i64 0) (.lit (.int .i64 0))) .peek⟩])) [1, 2, 5, 6, 7, 11, 12, 13] [2]
  (.block 0 (.loop [1, 2, 5, 6, 7, 11, 12, 13] [2] pins_l6))) [1, 5, 6, 7] [] pins_k8)),
  [.tmp 4]⟩
theorem pins_comp (m : Int × Bool) : compF Tryd.prog (gl m) [] Tryd.f49 = some pins := by kernel_rfl
theorem insF_take {l : List HL} {i : Nat} (h : i < l.length) {q : InsT} (hq : insF (l.take i) = some q) : insF (l.take (i + 1)) = if insOk q l[i] then some (insNx q l[i]) else none := by
  rw [take_snoc h, insF_snoc, hq, insStep]
theorem ins_fail {l : List HL} {i : Nat} (h : i < l.length) {q : InsT} (hq : insF (l.take i) = some q) (ho : insOk q l[i] = false) : insF l = none := by
  apply insF_none (i := i + 1)
  rw [insF_take h hq, ho]; rfl
def okL (l : List HL) : Prop := l.length ≤ 1048576 ∧ ∀ x, x ∈ l → x.2.length ≤ 1048576
theorem pins_snd (h : Hk) (last : Bool) (hl : okL h.2.2) : Snd Tryd.prog (gl m) 49 [hT .frn h, B last] (B (insideB h.2.2 last)) := by
  refine snd_of (fn := Tryd.f49) (af := pins) Tryd.func49 (pins_comp m) mixed (kn_ok m) (Nat.le_of_ble_eq_true rfl) ?_
  simp only [pins, go_sem, reduceCtorEq, Nat.reduceEqDiff, reduceIte, Nat.reduceAdd, Nat.reduceSub, Nat.reduceLeDiff, Int.reduceToNat, Nat.reduceBEq]
  obtain ⟨f, t, l⟩ := h
  obtain ⟨hll, hls⟩ := hl
  dsimp only at hll hls ⊢
  repeat ((with_reducible apply And.intro); (case left => first | omega | (simp only [List.length_append, List.length_cons, List.length_nil, List.length_drop, List.length_take, List.length_tail, List.length_dropLast, fs_length, ss_length, bs_length, ns_length]; omega)))
  refine loop_wf (fun x : Nat × InsT => l.length - x.1) (fun x => mkS [(1, B last), (2, .ptr ⟨.box 2 0, []⟩), (5, B x.2.2.1), (6, B x.2.2.2.1), (7, B x.2.2.2.2), (11, .sl .frn 2 (fs fL l)), (12, N l.length), (13, N x.1)] [(2, some [I f, I t, .sl .frn 2 (fs fL l)])])
    (fun x => x.1 ≤ l.length ∧ insF (l.take x.1) = some x.2 ∧ (∀ y, 0 < x.1 → l[x.1 - 1]? = some y → x.2.1 = y.1) ∧ (x.1 = 0 → x.2.1 = 0)) (0, (0, false, false, false)) rfl ⟨by omega, rfl, fun y h => by omega, fun _ => rfl⟩ ?_
  rintro ⟨i, q⟩ ⟨hi, hq, hpk, hp0⟩ ih
  dsimp only at hi hq hpk hp0 ih
  simp only [pins_l6_w, pins_l6', go_sem, reduceCtorEq, Nat.reduceEqDiff, reduceIte, Nat.reduceAdd, Nat.reduceSub, Nat.reduceLeDiff, Int.reduceToNat, Nat.reduceBEq]
  repeat ((with_reducible apply And.intro); (case left => first | omega | (simp only [List.length_append, List.length_cons, List.length_nil, List.length_drop, List.length_take, List.length_tail, List.length_dropLast, fs_length, ss_length, bs_length, ns_length]; omega)))
  by_cases h : i < l.length
  · have g := fs_getL h
    have q1 : IntKind.i64.wrap ((i : Int) + 1) = ((i + 1 : Nat) : Int) := wrapN _ (by omega) (by omega)
    have hxs := hls l[i] (List.getElem_mem h)
    have hnx := insF_take h hq
    have hfl := fun ho => ins_fail h hq ho
    have hix : ∀ y, l[i]? = some y → y = l[i] := fun y hy => by rw [List.getElem?_eq_getElem h, Option.some.injEq] at hy; exact hy.symm
    generalize l[i] = x at g hxs hnx hfl hix
    simp only [lt_t h, g, Int.toNat_natCast, go_sem, reduceCtorEq, Nat.reduceEqDiff, reduceIte, Nat.reduceAdd, Nat.reduceSub, Nat.reduceLeDiff, Int.reduceToNat, Nat.reduceBEq]
    simp only [pins_k0_w, pins_k0', pins_k1_w, pins_k1', pins_k2_w, pins_k2', pins_k3_w, pins_k3', pins_k4_w, pins_k4', pins_k5_w, pins_k5', g, Int.toNat_natCast, go_sem, reduceCtorEq, Nat.reduceEqDiff, reduceIte, Nat.reduceAdd, Nat.reduceSub, Nat.reduceLeDiff, Int.reduceToNat, Nat.reduceBEq]
    repeat ((with_reducible apply And.intro); (case left => first | omega | (simp only [List.length_append, List.length_cons, List.length_nil, List.length_drop, List.length_take, List.length_tail, List.length_dropLast, fs_length, ss_length, bs_length, ns_length]; omega)))
    repeat ((with_reducible apply And.intro); (case left => first | omega | (simp only [List.length_append, List.length_cons, List.length_nil, List.length_drop, List.length_take, List.length_tail, List.length_dropLast, fs_length, ss_length, bs_length, ns_length]; omega)))
    refine of_call (pgood_snd x hxs) ?_
    simp only [go_sem, reduceCtorEq, Nat.reduceEqDiff, reduceIte, Nat.reduceAdd, Nat.reduceSub, Nat.reduceLeDiff, Int.reduceToNat, Nat.reduceBEq]
    repeat ((with_reducible apply And.intro); (case left => first | omega | (simp only [List.length_append, List.length_cons, List.length_nil, List.length_drop, List.length_take, List.length_tail, List.length_dropLast, fs_length, ss_length, bs_length, ns_length]; omega)))
    have hleaf : ∀ r : InsT, insF (l.take (i + 1)) = some r → r.1 = x.1 → vcL (kn m) [1, 2, 5, 6, 7, 11, 12, 13] [2] pins_l6 (blockK 0 (seqK (kn m) [1, 5, 6, 7] [] pins_k8 (outOk [ROd.tmp 4] (B (insideB l last))))) (mkS [(1, B last), (2, .ptr ⟨.box 2 0, []⟩), (5, B r.2.1), (6, B r.2.2.1), (7, B r.2.2.2), (11, .sl .frn 2 (fs fL l)), (12, N l.length), (13, N (i + 1))] [(2, some [I f, I t, .sl .frn 2 (fs fL l)])]) := fun r hr hr1 =>
      ih (i + 1, r) (by dsimp only; omega) ⟨h, hr, fun y _ hy => by rw [hr1, hix y hy], fun h0 => by dsimp only at h0; omega⟩
    have hfalse : insOk q x = false → insideB l last = false := fun ho => by rw [insideB, hfl ho]
    obtain ⟨pk, c, o, n⟩ := q
    obtain ⟨k, s⟩ := x
    dsimp only at hxs hpk hp0 ⊢
    have w32 := ne_t (show (2 : Int) ≠ 3 by decide)
    have w31 := ne_t (show (1 : Int) ≠ 3 by decide)
    have w21 := ne_t (show (1 : Int) ≠ 2 by decide)
    have w23 := ne_t (show (3 : Int) ≠ 2 by decide)
    have w12 := ne_t (show (2 : Int) ≠ 1 by decide)
    have w13 := ne_t (show (3 : Int) ≠ 1 by decide)
    have w11 := ne_f (show (1 : Int) = 1 from rfl)
    have w22 := ne_f (show (2 : Int) = 2 from rfl)
    have w33 := ne_f (show (3 : Int) = 3 from rfl)
    have v12 := eq_f (show ¬ (1 : Int) = 2 by decide)
    have v32 := eq_f (show ¬ (3 : Int) = 2 by decide)
    have v22 := eq_t (show (2 : Int) = 2 from rfl)
    cases hg : (okK k && isLine s) with
    | false =>
      rw [hfalse (by simp only [insOk, hg]; rfl)]
      simp only [unVal, Bool.not_false, pins_k0_w, pins_k0', pins_k1_w, pins_k1', pins_k2_w, pins_k2', pins_k3_w, pins_k3', pins_k4_w, pins_k4', pins_k5_w, pins_k5', go_sem, reduceCtorEq, Nat.reduceEqDiff, reduceIte, Nat.reduceAdd, Nat.reduceSub, Nat.reduceLeDiff, Int.reduceToNat, Nat.reduceBEq]
      first | rfl | omega | trace_state
    | true =>
      have hk : k = 1 ∨ k = 2 ∨ k = 3 := by
        simp only [Bool.and_eq_true, okK, decide_eq_true_eq] at hg; omega
      simp only [insOk, hg, Bool.true_and] at hnx hfalse
      rcases hk with rfl | rfl | rfl
      · cases o with
        | true =>
          rw [hfalse rfl]
          simp only [unVal, Bool.not_true, w31, pins_k0_w, pins_k0', pins_k1_w, pins_k1', pins_k2_w, pins_k2', pins_k3_w, pins_k3', pins_k4_w, pins_k4', pins_k5_w, pins_k5', go_sem, reduceCtorEq, Nat.reduceEqDiff, reduceIte, Nat.reduceAdd, Nat.reduceSub, Nat.reduceLeDiff, Int.reduceToNat, Nat.reduceBEq]
          first | rfl | omega | trace_state
        | false =>
          cases n with
          | true =>
            rw [hfalse rfl]
            simp only [unVal, Bool.not_true, w31, w21, pins_k0_w, pins_k0', pins_k1_w, pins_k1', pins_k2_w, pins_k2', pins_k3_w, pins_k3', pins_k4_w, pins_k4', pins_k5_w, pins_k5', go_sem, reduceCtorEq, Nat.reduceEqDiff, reduceIte, Nat.reduceAdd, Nat.reduceSub, Nat.reduceLeDiff, Int.reduceToNat, Nat.reduceBEq]
            first | rfl | omega | trace_state
          | false =>
            have hnx : insF (l.take (i + 1)) = some (insNx (pk, c, false, false) (1, s)) := hnx
            cases c <;> simp only [unVal, Bool.not_true, w31, w21, w11, v12, pins_k0_w, pins_k0', pins_k1_w, pins_k1', pins_k2_w, pins_k2', pins_k3_w, pins_k3', pins_k4_w, pins_k4', pins_k5_w, pins_k5', go_sem, reduceCtorEq, Nat.reduceEqDiff, reduceIte, Nat.reduceAdd, Nat.reduceSub, Nat.reduceLeDiff, Int.reduceToNat, Nat.reduceBEq]
            all_goals ((repeat ((with_reducible apply And.intro); (case left => first | omega | (simp only [List.length_append, List.length_cons, List.length_nil, List.length_drop, List.length_take, List.length_tail, List.length_dropLast, fs_length, ss_length, bs_length, ns_length]; omega)))); skip)
            all_goals refine of_call (popen_snd (1, s) hxs) ?_
            all_goals (dsimp only; cases hop : openL s)
            all_goals simp only [insNx, hop] at hnx
            all_goals simp only [w31, w21, q1, pins_k0_w, pins_k0', pins_k1_w, pins_k1', pins_k2_w, pins_k2', pins_k3_w, pins_k3', pins_k4_w, pins_k4', pins_k5_w, pins_k5', go_sem, reduceCtorEq, Nat.reduceEqDiff, reduceIte, Nat.reduceAdd, Nat.reduceSub, Nat.reduceLeDiff, Int.reduceToNat, Nat.reduceBEq]
            all_goals ((repeat ((with_reducible apply And.intro); (case left => first | omega | (simp only [List.length_append, List.length_cons, List.length_nil, List.length_drop, List.length_take, List.length_tail, List.length_dropLast, fs_length, ss_length, bs_length, ns_length]; omega)))); skip)
            all_goals exact hleaf _ hnx rfl
      · cases o with
        | true =>
          rw [hfalse rfl]
          simp only [unVal, Bool.not_true, w32, pins_k0_w, pins_k0', pins_k1_w, pins_k1', pins_k2_w, pins_k2', pins_k3_w, pins_k3', pins_k4_w, pins_k4', pins_k5_w, pins_k5', go_sem, reduceCtorEq, Nat.reduceEqDiff, reduceIte, Nat.reduceAdd, Nat.reduceSub, Nat.reduceLeDiff, Int.reduceToNat, Nat.reduceBEq]
          first | rfl | omega | trace_state
        | false =>
          simp only [unVal, Bool.not_true, w32, w22, v22, pins_k0_w, pins_k0', pins_k1_w, pins_k1', pins_k2_w, pins_k2', pins_k3_w, pins_k3', pins_k4_w, pins_k4', pins_k5_w, pins_k5', go_sem, reduceCtorEq, Nat.reduceEqDiff, reduceIte, Nat.reduceAdd, Nat.reduceSub, Nat.reduceLeDiff, Int.reduceToNat, Nat.reduceBEq]
          repeat ((with_reducible apply And.intro); (case left => first | omega | (simp only [List.length_append, List.length_cons, List.length_nil, List.length_drop, List.length_take, List.length_tail, List.length_dropLast, fs_length, ss_length, bs_length, ns_length]; omega)))
          have hbk : (pk = 3 ∧ insideB l last = false) ∨ (pk ≠ 3 ∧ insF (l.take (i + 1)) = some (insNx (pk, c, false, n) (2, s))) := by
            by_cases h3 : pk = 3
            · exact .inl ⟨h3, hfalse (by subst h3; cases n <;> rfl)⟩
            · refine .inr ⟨h3, ?_⟩
              rw [hnx, if_pos]
              have : (pk == 3) = false := by simpa using h3
              rw [this]; cases n <;> rfl
          by_cases hi0 : i = 0
          · subst hi0
            have hpk0 := hp0 rfl
            have hnx := (hbk.resolve_left (fun h => by have := h.1; omega)).2
            simp only [igt_f (show ¬ (0 : Int) < ((0 : Nat) : Int) by omega), go_sem, reduceCtorEq, Nat.reduceEqDiff, reduceIte, Nat.reduceAdd, Nat.reduceSub, Nat.reduceLeDiff, Int.reduceToNat, Nat.reduceBEq]
            cases c <;> simp only [w12, pins_k0_w, pins_k0', pins_k1_w, pins_k1', pins_k2_w, pins_k2', pins_k3_w, pins_k3', pins_k4_w, pins_k4', pins_k5_w, pins_k5', go_sem, reduceCtorEq, Nat.reduceEqDiff, reduceIte, Nat.reduceAdd, Nat.reduceSub, Nat.reduceLeDiff, Int.reduceToNat, Nat.reduceBEq]
            all_goals ((repeat ((with_reducible apply And.intro); (case left => first | omega | (simp only [List.length_append, List.length_cons, List.length_nil, List.length_drop, List.length_take, List.length_tail, List.length_dropLast, fs_length, ss_length, bs_length, ns_length]; omega)))); skip)
            all_goals refine of_call (popen_snd (2, s) hxs) ?_
            all_goals (dsimp only; cases hop : openL s <;> cases n)
            all_goals simp only [insNx, hop] at hnx
            all_goals simp only [w32, w22, q1, pins_k0_w, pins_k0', pins_k1_w, pins_k1', pins_k2_w, pins_k2', pins_k3_w, pins_k3', pins_k4_w, pins_k4', pins_k5_w, pins_k5', go_sem, reduceCtorEq, Nat.reduceEqDiff, reduceIte, Nat.reduceAdd, Nat.reduceSub, Nat.reduceLeDiff, Int.reduceToNat, Nat.reduceBEq]
            all_goals ((repeat ((with_reducible apply And.intro); (case left => first | omega | (simp only [List.length_append, List.length_cons, List.length_nil, List.length_drop, List.length_take, List.length_tail, List.length_dropLast, fs_length, ss_length, bs_length, ns_length]; omega)))); skip)
            all_goals exact hleaf _ hnx rfl
          · have g' := fs_getL (show i - 1 < l.length by omega)
            have hpk' := hpk l[i - 1] (by omega) (List.getElem?_eq_getElem (by omega))
            have q4 : IntKind.i64.wrap ((i : Int) - 1) = ((i - 1 : Nat) : Int) := wrapN _ (by omega) (by omega)
            generalize l[i - 1] = z at g' hpk'
            simp only [igt_t (show (0 : Int) < (i : Int) by omega), q4, g', Int.toNat_natCast, go_sem, reduceCtorEq, Nat.reduceEqDiff, reduceIte, Nat.reduceAdd, Nat.reduceSub, Nat.reduceLeDiff, Int.reduceToNat, Nat.reduceBEq]
            repeat ((with_reducible apply And.intro); (case left => first | omega | (simp only [List.length_append, List.length_cons, List.length_nil, List.length_drop, List.length_take, List.length_tail, List.length_dropLast, fs_length, ss_length, bs_length, ns_length]; omega)))
            rcases hbk with ⟨h3, hf⟩ | ⟨h3, hnx⟩
            · rw [hf]
              simp only [eq_t (show z.1 = 3 by omega), pins_k0_w, pins_k0', pins_k1_w, pins_k1', pins_k2_w, pins_k2', pins_k3_w, pins_k3', pins_k4_w, pins_k4', pins_k5_w, pins_k5', go_sem, reduceCtorEq, Nat.reduceEqDiff, reduceIte, Nat.reduceAdd, Nat.reduceSub, Nat.reduceLeDiff, Int.reduceToNat, Nat.reduceBEq]
              first | rfl | omega | trace_state
            · simp only [eq_f (show ¬ z.1 = 3 by omega), pins_k0_w, pins_k0', pins_k1_w, pins_k1', pins_k2_w, pins_k2', pins_k3_w, pins_k3', pins_k4_w, pins_k4', pins_k5_w, pins_k5', go_sem, reduceCtorEq, Nat.reduceEqDiff, reduceIte, Nat.reduceAdd, Nat.reduceSub, Nat.reduceLeDiff, Int.reduceToNat, Nat.reduceBEq]
              repeat ((with_reducible apply And.intro); (case left => first | omega | (simp only [List.length_append, List.length_cons, List.length_nil, List.length_drop, List.length_take, List.length_tail, List.length_dropLast, fs_length, ss_length, bs_length, ns_length]; omega)))
              cases c <;> simp only [w12, pins_k0_w, pins_k0', pins_k1_w, pins_k1', pins_k2_w, pins_k2', pins_k3_w, pins_k3', pins_k4_w, pins_k4', pins_k5_w, pins_k5', go_sem, reduceCtorEq, Nat.reduceEqDiff, reduceIte, Nat.reduceAdd, Nat.reduceSub, Nat.reduceLeDiff, Int.reduceToNat, Nat.reduceBEq]
              all_goals ((repeat ((with_reducible apply And.intro); (case left => first | omega | (simp only [List.length_append, List.length_cons, List.length_nil, List.length_drop, List.length_take, List.length_tail, List.length_dropLast, fs_length, ss_length, bs_length, ns_length]; omega)))); skip)
              all_goals refine of_call (popen_snd (2, s) hxs) ?_
              all_goals (dsimp only; cases hop : openL s <;> cases n)
              all_goals simp only [insNx, hop] at hnx
              all_goals simp only [w32, w22, q1, pins_k0_w, pins_k0', pins_k1_w, pins_k1', pins_k2_w, pins_k2', pins_k3_w, pins_k3', pins_k4_w, pins_k4', pins_k5_w, pins_k5', go_sem, reduceCtorEq, Nat.reduceEqDiff, reduceIte, Nat.reduceAdd, Nat.reduceSub, Nat.reduceLeDiff, Int.reduceToNat, Nat.reduceBEq]
              all_goals ((repeat ((with_reducible apply And.intro); (case left => first | omega | (simp only [List.length_append, List.length_cons, List.length_nil, List.length_drop, List.length_take, List.length_tail, List.length_dropLast, fs_length, ss_length, bs_length, ns_length]; omega)))); skip)
              all_goals exact hleaf _ hnx rfl
      · cases n with
        | true =>
          rw [hfalse (by cases o <;> rfl)]
          simp only [unVal, Bool.not_true, w33, w23, pins_k0_w, pins_k0', pins_k1_w, pins_k1', pins_k2_w, pins_k2', pins_k3_w, pins_k3', pins_k4_w, pins_k4', pins_k5_w, pins_k5', go_sem, reduceCtorEq, Nat.reduceEqDiff, reduceIte, Nat.reduceAdd, Nat.reduceSub, Nat.reduceLeDiff, Int.reduceToNat, Nat.reduceBEq]
          first | rfl | omega | trace_state
        | false =>
          have hnx : insF (l.take (i + 1)) = some (insNx (pk, c, o, false) (3, s)) := by rw [hnx, if_pos]; cases o <;> rfl
          cases c <;> simp only [unVal, Bool.not_true, w33, w23, w13, v32, pins_k0_w, pins_k0', pins_k1_w, pins_k1', pins_k2_w, pins_k2', pins_k3_w, pins_k3', pins_k4_w, pins_k4', pins_k5_w, pins_k5', go_sem, reduceCtorEq, Nat.reduceEqDiff, reduceIte, Nat.reduceAdd, Nat.reduceSub, Nat.reduceLeDiff, Int.reduceToNat, Nat.reduceBEq]
          all_goals ((repeat ((with_reducible apply And.intro); (case left => first | omega | (simp only [List.length_append, List.length_cons, List.length_nil, List.length_drop, List.length_take, List.length_tail, List.length_dropLast, fs_length, ss_length, bs_length, ns_length]; omega)))); skip)
          all_goals refine of_call (popen_snd (3, s) hxs) ?_
          all_goals (dsimp only; cases hop : openL s <;> cases o)
          all_goals simp only [insNx, hop] at hnx
          all_goals simp only [w33, w23, q1, pins_k0_w, pins_k0', pins_k1_w, pins_k1', pins_k2_w, pins_k2', pins_k3_w, pins_k3', pins_k4_w, pins_k4', pins_k5_w, pins_k5', go_sem, reduceCtorEq, Nat.reduceEqDiff, reduceIte, Nat.reduceAdd, Nat.reduceSub, Nat.reduceLeDiff, Int.reduceToNat, Nat.reduceBEq]
          all_goals ((repeat ((with_reducible apply And.intro); (case left => first | omega | (simp only [List.length_append, List.length_cons, List.length_nil, List.length_drop, List.length_take, List.length_tail, List.length_dropLast, fs_length, ss_length, bs_length, ns_length]; omega)))); skip)
          all_goals exact hleaf _ hnx rfl
  · obtain rfl : i = l.length := by omega
    rw [List.take_length] at hq
    obtain ⟨k, c, o, n⟩ := q
    rw [insideB, hq]
    dsimp only
    cases c <;> cases last <;> cases o <;> cases n
    all_goals simp only [lt_f h, unVal, Bool.not_true, Bool.not_false, pins_k7_w, pins_k7', pins_k8_w, pins_k8', go_sem, reduceCtorEq, Nat.reduceEqDiff, reduceIte, Nat.reduceAdd, Nat.reduceSub, Nat.reduceLeDiff, Int.reduceToNat, Nat.reduceBEq]
    all_goals first | rfl | omega | trace_state
end Go.Hk
namespace Go.Hk
open Go Go.Ev Go.Proofs
set_option linter.unusedVariables false
set_option linter.unusedSimpArgs false
set_option maxHeartbeats 4000000
attribute [local go_sem] eqs implies_true List.map_cons List.map_nil kl klL roD roL Option.map_some Option.map_none Option.getD_some Option.getD_none binVal binObl unVal if_true if_false eq_self passA frnD resD content getH getR getW viaNot viaSlot viaBox viaDeep viaMem List.contains_cons List.contains_nil grabs peeks okCells isCell place cellsOf chunk elt List.headD_cons List.length_cons List.length_nil List.take_succ_cons List.take_zero List.drop_succ_cons List.drop_zero List.nil_append List.cons_append List.append_nil List.all_cons List.all_nil plainC takeR setW over reCell List.getElem?_cons_zero List.getElem?_cons_succ List.set_cons_zero List.take_length outV resG plainV pack outVG outBx List.set_cons_succ Ref.idx Ref.addOff beq_self_eq_true bxL Option.bind_some writeR isLit viaBoxes capsPA boxPA nsOf noDup boxesAt argG passG passD rhoIn rhoOut idxIn tr trL List.getD_cons_zero gives pasOf isPtr Ins.d List.getD_cons_succ resL frnL partB_f partB_t partB_p partB_s St.setP mixR v_slcT List.getLast?_nil List.getLast?_singleton List.dropLast_singleton List.nil_append frnL_fs roL_fs resL_fs passL_fs klL_fs trL_fs map_roD_fs fs_length hS_length frnL_hS roL_hS_own roL_hS_frn roL_hS_ro resL_hS_own resL_hS_ro klL_hS klL_hS_own klL_hS_frn passL_hS_own passL_hS_frn trL_hS_own trL_hS_frn
variable {m : Int × Bool}
end Go.Hk

