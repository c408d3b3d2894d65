/- What the code of SpaceRises comes to; no condition. -/
import Derived.Test.YtpcbnpekdmobpaaGreatDoorChecked
import Derived.KernelRfl
import Derived.Test.YtpcbnpekdmobpaaGreatDoorEvB

namespace Go.Proofs.YtpcbnpekdmobpaaGreatDoor
open Go Go.Ev

def ren : Shelf.Ren := ⟨fun | 217 => 166 | 219 => 132 | 224 => 168 | 225 => 167 | 266 => 194 | 267 => 169 | 314 => 195 | n => n, fun | 46 => 26 | 51 => 170 | 146 => 221 | n => n, fun | 1 => 2 | n => n⟩
theorem lays : Lays.n219 Tryz.prog ren := {
  mixed := by kernel_rfl
  f217 := by kernel_rfl
  f219 := by kernel_rfl
  f224 := by kernel_rfl
  f225 := by kernel_rfl
  f266 := by kernel_rfl
  f267 := by kernel_rfl
  f314 := by kernel_rfl
  t3 := Tryz.underlying3
  a3 := Tryz.isAgg3
  z3 := Tryz.sizeOf3
  v3 := Tryz.zeroValue3
  t4 := Tryz.underlying4
  a4 := Tryz.isAgg4
  z4 := Tryz.sizeOf4
  v4 := Tryz.zeroValue4
  t5 := Tryz.underlying5
  a5 := Tryz.isAgg5
  z5 := Tryz.sizeOf5
  v5 := Tryz.zeroValue5
  t9 := Tryz.underlying9
  a9 := Tryz.isAgg9
  z9 := Tryz.sizeOf9
  v9 := Tryz.zeroValue9
  t46 := Tryz.underlying26
  a46 := Tryz.isAgg26
  z46 := Tryz.sizeOf26
  v46 := Tryz.zeroValue26
  t51 := Tryz.underlying170
  a51 := Tryz.isAgg170
  z51 := Tryz.sizeOf170
  v51 := Tryz.zeroValue170
  t146 := Tryz.underlying221
  a146 := Tryz.isAgg221
  z146 := Tryz.sizeOf221
  v146 := Tryz.zeroValue221
  g1 := by kernel_rfl }

theorem ext184 : IsExt Tryz.prog 184 Extern.AbiNoEscape.same := ⟨run_callFunc_extern Tryz.func184 (by kernel_rfl) (by kernel_rfl) (by kernel_rfl) (by kernel_rfl)⟩
theorem ext194 : IsExt Tryz.prog 194 Extern.BytealgIndexByte.indexByte := ⟨run_callFunc_extern Tryz.func194 (by kernel_rfl) (by kernel_rfl) (by kernel_rfl) (by kernel_rfl)⟩

def base : List (Nat × Ent) := [(132, kIndex 2), (184, kNoEsc), (194, kIdxByte)]
theorem base_ok : ∀ p ∈ base, EntryOk Tryz.prog p.1 p.2 := by
  intro p hp
  simp only [base, List.mem_cons, List.mem_nil_iff, or_false] at hp
  rcases hp with rfl | rfl | rfl
  · exact kIndex_ok lays rfl rfl (of_decide_eq_true (by kernel_rfl))
  · exact kNoEsc_ok ext184
  · exact kIdxByte_ok ext194
theorem count_ok : noCount Tryz.prog = true := by kernel_rfl

def tab24 (m : Int) : List Tab := [intTab 2 3 .i64 m]
theorem told24 (m : Int) : isTrue (evCall Tryz.prog (ovr base) 1000000 26 [] (tabs (tab24 m) .e) Tryz.prog.globals.size) = true := by kernel_rfl
theorem told24_ok (m : Int) : EntryOk Tryz.prog 26 (kTold (tab24 m)) := by
  obtain ⟨h', nx', hr⟩ := isTrue_ok (told24 m)
  refine kTold_ok (ovr_sound base_ok) count_ok ?_ ?_ hr
  · intro t ht
    obtain rfl := List.mem_singleton.1 ht
    rfl
  · intro t ht
    obtain rfl := List.mem_singleton.1 ht
    exact of_decide_eq_true (by kernel_rfl)
noncomputable def base24 (m : Int) : List (Nat × Ent) := (26, kTold (tab24 m)) :: base
theorem base24_ok (m : Int) : OvrSound Tryz.prog (ovr (base24 m)) := ovr_sound fun p hp => by
  rcases List.mem_cons.1 hp with rfl | hp
  · exact told24_ok m
  · exact base_ok p hp
end Go.Proofs.YtpcbnpekdmobpaaGreatDoor

open Go Go.Ev
namespace Go.Proofs.YtpcbnpekdmobpaaGreatDoor
variable (X : Ovr) (f : Nat) (h : H) (nx : Nat)
theorem bin_int {P : Program} {op : BinOp} {t : TypeId} {b c : Bool} {k : IntKind} {x y : Int} (h1 : op ≠ .shl) (h2 : op ≠ .shr) : binA P op t b c (.int k x) (.int k y) = binInt op k x y := by
  cases op <;> first | exact absurd rfl h1 | exact absurd rfl h2 | (cases k <;> rfl)
theorem rd_str {env : Env} {s : ByteArray} : rd env (.const (.string s)) = .str (ofBytes s) := Eq.trans rfl rfl
def blen (n : Nat) : Nat := if n = 0 then 0 else Nat.log2 n + 1

def tabOp (o : Oper) : List Nat := match o.op with
  | .index _ (.const (.string s)) _ => ofBytes s
  | _ => []
def tabOf : Code → List Nat
  | .seq a b => tabOf a ++ tabOf b
  | .region _ ops _ => (ops.toList.map tabOp).flatten
  | _ => []
theorem tab_ok : (List.range 256).all (fun i => nth (tabOf (Tryz.f129.body.getD .skip)) i == some (blen i)) = true := by kernel_rfl
theorem tab_at (n : Nat) (hn : n < 256) : nth (tabOf (Tryz.f129.body.getD .skip)) n = some (blen n) := by
  have := List.all_eq_true.1 tab_ok n (List.mem_range.2 hn)
  exact eq_of_beq this
theorem op_index_str {P : Program} {t : TypeId} {s : ByteArray} {y : Operand} {env : Env} {h : H} {i j c : Nat} {k : IntKind} (hu : P.underlying t = some .string) (hn : nth (ofBytes s) i = some c) (hy : rd env y = .int k (.ofNat i)) :
    opA P (.index t (.const (.string s)) y) env h j = .val (.int .u8 (.ofNat c)) := by
  simp only [opA, hy, indexV]
  have : rd env (.const (.string s)) = .str (ofBytes s) := Eq.trans rfl rfl
  rw [this]
  simp only [hu, hn]
theorem conv_int {P : Program} {a b : TypeId} {u : TypeDesc} {k k' : IntKind} {n : Int} {h : H} {i : Nat} (hb : P.underlying b = some (.int k)) (ha : P.underlying a = some u) : convA P a b (.int k' n) h i = .val (.int k (wr k n)) := by
  simp only [convA, hb, ha]
theorem shr8 {P : Program} {t : TypeId} {b c : Bool} {k : IntKind} {n : Nat} : binA P .shr t b c (.int .u64 (Int.ofNat n)) (.int k 8) = some (.int .u64 (Int.ofNat (n / 2 ^ 8))) := Eq.trans rfl rfl
theorem shr16 {P : Program} {t : TypeId} {b c : Bool} {k : IntKind} {n : Nat} : binA P .shr t b c (.int .u64 (Int.ofNat n)) (.int k 16) = some (.int .u64 (Int.ofNat (n / 2 ^ 16))) := Eq.trans rfl rfl
theorem wr64 {x : Int} (h0 : 0 ≤ x) (h1 : x < 9223372036854775808) : wr .i64 x = x := by rw [wr_eq]; exact Go.Ev.wrap_small h0 h1
theorem blen_div (n k : Nat) (h : 2 ^ k ≤ n) : blen n = blen (n / 2 ^ k) + k := by
  have h1 : 0 < 2 ^ k := Nat.two_pow_pos k
  have h2 : 0 < n / 2 ^ k := Nat.div_pos h h1
  have h3 : n / 2 ^ k ≠ 0 := by omega
  have h4 : n ≠ 0 := by omega
  unfold blen
  rw [if_neg h3, if_neg h4]
  have h5 := Nat.log2_self_le h3
  have h6 := Nat.lt_log2_self (n := n / 2 ^ k)
  have : Nat.log2 n = Nat.log2 (n / 2 ^ k) + k := by
    rw [Nat.log2_eq_iff h4]
    constructor
    · rw [Nat.pow_add]
      exact (Nat.le_div_iff_mul_le h1).1 h5
    · have := (Nat.div_lt_iff_lt_mul h1).1 h6
      have e : Nat.log2 (n / 2 ^ k) + k + 1 = Nat.log2 (n / 2 ^ k) + 1 + k := by omega
      rw [e, Nat.pow_add]
      exact this
  omega
theorem blen_lt (n k : Nat) (h : n < 2 ^ k) : blen n ≤ k := by
  unfold blen
  split
  · omega
  · rename_i h0
    have := (Nat.log2_lt h0).2 h
    omega

theorem last (a b : Nat) (ha : a < 1000) (hb : b < 1000) : wr .i64 (iadd (Int.ofNat a) (wr .i64 (Int.ofNat b))) = Int.ofNat (a + b) := by
  rw [iadd_eq, wr64 (x := Int.ofNat b) (by simp) (by simp; omega), wr64 (by simp; omega) (by simp; omega)]
  simp

set_option maxRecDepth 100000 in
theorem len64 (n : Nat) (hn : n < 2097152) (hX : X 129 = none) : evCall Tryz.prog X (f+12) 129 [.int .u64 (.ofNat n)] h nx = .ok (.int .i64 (.ofNat (blen n))) h nx := by
  rw [evCall_body hX Tryz.func129 rfl (by kernel_rfl)]
  generalize hfn : Tryz.f129 = fn
  have hr : fn.results = #[.tmp 2] := by rw [← hfn]; rfl
  have c1 : ilt (Int.ofNat n) 4294967296 = true := by rw [ilt_eq]; simp; omega
  by_cases c2 : n < 65536
  · have d2 : ilt (Int.ofNat n) 65536 = true := by rw [ilt_eq]; simp; omega
    by_cases c3 : n < 256
    · have d3 : ilt (Int.ofNat n) 256 = true := by rw [ilt_eq]; simp; omega
      simp only [evC_seq, evC_region, evC_cond, evC_skip, condA_f, evOps_cons, wantedA_none, wants_true, evOps_nil, goOn_val, RS.then_norm, putA_some, op_move, op_assign, rd_int, envOf_cons, envOf_nil, op_bin, op_conv, rd_same, ne_eq, not_false_eq_true, Nat.reduceEqDiff, rd_ne, binInt, bin_int, reduceCtorEq, optV_some, c1, d2, d3, Bool.not_true, conv_int Tryz.underlying5 Tryz.underlying119]
      rw [op_index_str (i := n % 256) (c := blen (n % 256)) (k := .u8) Tryz.underlying9]
      rotate_left
      · exact tab_at (n % 256) (Nat.mod_lt _ (by decide))
      · simp only [rd_same]; rfl
      simp only [evOps_cons, wantedA_none, wants_true, evOps_nil, goOn_val, RS.then_norm, evC_ret, putA_some, op_assign, op_bin, op_conv, rd_same, ne_eq, not_false_eq_true, Nat.reduceEqDiff, rd_ne, binInt, bin_int, reduceCtorEq, optV_some, fin_ret hr, conv_int Tryz.underlying3 Tryz.underlying5]
      have hb := blen_lt n 8 c3
      rw [Nat.mod_eq_of_lt c3]
      have := last 0 (blen n) (by omega) (by omega)
      simp only [Nat.zero_add] at this
      exact congrArg (fun x => CR.ok (.int .i64 x) h nx) this
    · have d3 : ilt (Int.ofNat n) 256 = false := by rw [ilt_eq]; simp; omega
      simp only [evC_seq, evC_region, evC_cond, evC_skip, condA_t, condA_f, evOps_cons, wantedA_none, wants_true, evOps_nil, goOn_val, RS.then_norm, putA_some, op_move, op_assign, rd_int, envOf_cons, envOf_nil, op_bin, op_conv, rd_same, ne_eq, not_false_eq_true, Nat.reduceEqDiff, rd_ne, binInt, bin_int, reduceCtorEq, optV_some, Bool.not_true, Bool.not_false, shr8, shr16, c1, d2, d3, conv_int Tryz.underlying5 Tryz.underlying119]
      rw [op_index_str (i := n / 2 ^ 8 % 256) (c := blen (n / 2 ^ 8 % 256)) (k := .u8) Tryz.underlying9]
      rotate_left
      · exact tab_at (n / 2 ^ 8 % 256) (Nat.mod_lt _ (by decide))
      · simp only [rd_same]; rfl
      simp only [evOps_cons, wantedA_none, wants_true, evOps_nil, goOn_val, RS.then_norm, evC_ret, putA_some, op_assign, op_bin, op_conv, rd_same, ne_eq, not_false_eq_true, Nat.reduceEqDiff, rd_ne, binInt, bin_int, reduceCtorEq, optV_some, fin_ret hr, conv_int Tryz.underlying3 Tryz.underlying5]
      have hb := blen_lt (n / 2 ^ 8) 8 (by omega)
      rw [Nat.mod_eq_of_lt (by omega : n / 2 ^ 8 < 256)]
      have h0 : wr .i64 (iadd 0 8) = Int.ofNat 8 := by decide
      rw [h0]
      have := last 8 (blen (n / 2 ^ 8)) (by omega) (by omega)
      rw [Nat.add_comm 8, ← blen_div n 8 (by omega)] at this
      exact congrArg (fun x => CR.ok (.int .i64 x) h nx) this
  · have d2 : ilt (Int.ofNat n) 65536 = false := by rw [ilt_eq]; simp; omega
    have d3 : ilt (Int.ofNat (n / 2 ^ 16)) 256 = true := by rw [ilt_eq]; simp; omega
    · skip
      simp only [evC_seq, evC_region, evC_cond, evC_skip, condA_t, condA_f, evOps_cons, wantedA_none, wants_true, evOps_nil, goOn_val, RS.then_norm, putA_some, op_move, op_assign, rd_int, envOf_cons, envOf_nil, op_bin, op_conv, rd_same, ne_eq, not_false_eq_true, Nat.reduceEqDiff, rd_ne, binInt, bin_int, reduceCtorEq, optV_some, Bool.not_true, Bool.not_false, shr8, shr16, c1, d2, d3, conv_int Tryz.underlying5 Tryz.underlying119]
      rw [op_index_str (i := n / 2 ^ 16 % 256) (c := blen (n / 2 ^ 16 % 256)) (k := .u8) Tryz.underlying9]
      rotate_left
      · exact tab_at (n / 2 ^ 16 % 256) (Nat.mod_lt _ (by decide))
      · simp only [rd_same]; rfl
      simp only [evOps_cons, wantedA_none, wants_true, evOps_nil, goOn_val, RS.then_norm, evC_ret, putA_some, op_assign, op_bin, op_conv, rd_same, ne_eq, not_false_eq_true, Nat.reduceEqDiff, rd_ne, binInt, bin_int, reduceCtorEq, optV_some, fin_ret hr, conv_int Tryz.underlying3 Tryz.underlying5]
      have hb := blen_lt (n / 2 ^ 16) 8 (by omega)
      rw [Nat.mod_eq_of_lt (by omega : n / 2 ^ 16 < 256)]
      have h0 : wr .i64 (iadd 0 16) = Int.ofNat 16 := by decide
      rw [h0]
      have := last 16 (blen (n / 2 ^ 16)) (by omega) (by omega)
      rw [Nat.add_comm 16, ← blen_div n 16 (by omega)] at this
      exact congrArg (fun x => CR.ok (.int .i64 x) h nx) this

theorem wrN {n : Nat} (h : n < 9223372036854775808) : wr .i64 (Int.ofNat n) = Int.ofNat n := wr64 (Int.natCast_nonneg n) (by simp only [Int.ofNat_eq_natCast]; omega)
theorem addN {a b : Nat} (hb : a + b < 9223372036854775808) : wr .i64 (iadd (Int.ofNat a) (Int.ofNat b)) = Int.ofNat (a + b) := by
  rw [iadd_eq, wr64 (by simp; omega) (by simp; omega)]
  simp
theorem mulN {a b : Nat} (hb : a * b < 9223372036854775808) : wr .i64 (Int.ofNat a * Int.ofNat b) = Int.ofNat (a * b) := by
  have : Int.ofNat a * Int.ofNat b = Int.ofNat (a * b) := by simp
  rw [this, wrN hb]
theorem subN {a b : Nat} (h : b ≤ a) (hb : a < 9223372036854775808) : wr .i64 (iadd (Int.ofNat a) (ineg (Int.ofNat b))) = Int.ofNat (a - b) := by
  rw [iadd_eq, ineg_eq]
  have : Int.ofNat a + -Int.ofNat b = Int.ofNat (a - b) := by simp; omega
  rw [this, wr64 (by simp) (by simp only [Int.ofNat_eq_natCast]; omega)]
theorem maxN {a b : Nat} : max (Int.ofNat a) (Int.ofNat b) = Int.ofNat (max a b) := by simp; omega
theorem wru {n : Nat} (hn : n < 18446744073709551616) : wr .u64 (Int.ofNat n) = Int.ofNat n := by
  show Int.ofNat (n % 18446744073709551616) = _
  rw [Nat.mod_eq_of_lt hn]
theorem k0 : (0 : Int) = Int.ofNat 0 := Eq.trans rfl rfl
theorem k1 : (1 : Int) = Int.ofNat 1 := Eq.trans rfl rfl
theorem k2 : (2 : Int) = Int.ofNat 2 := Eq.trans rfl rfl
theorem k40 : (40 : Int) = Int.ofNat 40 := Eq.trans rfl rfl
theorem k200 : (200 : Int) = Int.ofNat 200 := Eq.trans rfl rfl
theorem k400 : (400 : Int) = Int.ofNat 400 := Eq.trans rfl rfl

theorem width (n : Nat) (hn : n < 2097152) (hX : X 129 = none) (hX1 : X 96 = none) (hX2 : X 53 = none) : evCall Tryz.prog X (f+20) 53 [.int .i64 (.ofNat n)] h nx = .ok (.int .i64 (.ofNat (blen n))) h nx := by
  rw [evCall_body hX2 Tryz.func53 rfl (by kernel_rfl)]
  generalize hfn : Tryz.f53 = fn
  have hr : fn.results = #[.tmp 2] := by rw [← hfn]; rfl
  have h96 : ∀ h nx, evCall Tryz.prog X (f+19) 96 [.int .u64 (.ofNat n)] h nx = .ok (.int .i64 (.ofNat (blen n))) h nx := by
    intro h nx
    rw [evCall_body hX1 Tryz.func96 rfl (by kernel_rfl)]
    generalize hfn : Tryz.f96 = fn
    have hr : fn.results = #[.tmp 2] := by rw [← hfn]; rfl
    simp only [evC_seq, evC_region, evOps_cons, wantedA_none, wants_true, evOps_nil, goOn_val, RS.then_norm, evC_ret, putA_some, op_move, op_assign, rd_int, envOf_cons, envOf_nil, goOn_call, callK_ok, op_call, rd_same, ne_eq, not_false_eq_true, rd_ne, List.map_cons, List.map_nil, reduceCtorEq, fin_ret hr, len64 X (f+6) h nx n hn hX]
  simp only [evC_seq, evC_region, evOps_cons, wantedA_none, wants_true, evOps_nil, goOn_val, RS.then_norm, evC_ret, putA_some, op_move, op_assign, rd_int, envOf_cons, envOf_nil, goOn_call, callK_ok, op_call, op_conv, rd_same, ne_eq, not_false_eq_true, rd_ne, op_max rd_same rd_int, List.map_cons, List.map_nil, reduceCtorEq, fin_ret hr, conv_int Tryz.underlying119 Tryz.underlying3, k0, maxN, Nat.max_zero, wru (by omega : n < 18446744073709551616), h96]

theorem least (n s : Nat) (hn : n < 1000000) (h1 : 1 ≤ s) (hs : s < 1000001) (hX : X 129 = none) (hX1 : X 96 = none) (hX2 : X 53 = none) (hX3 : X 27 = none) : evCall Tryz.prog X (f+30) 27 [.int .i64 (.ofNat n), .int .i64 (.ofNat s)] h nx = .ok (.int .i64 (.ofNat (2 * n + n * blen (s - 1)))) h nx := by
  rw [evCall_body hX3 Tryz.func27 rfl (by kernel_rfl)]
  generalize hfn : Tryz.f27 = fn
  have hr : fn.results = #[.tmp 4] := by rw [← hfn]; rfl
  have hb := blen_lt (s - 1) 20 (by omega)
  have hm : n * blen (s - 1) ≤ 1000000 * 20 := Nat.mul_le_mul (by omega) hb
  have e1 : max s 1 = s := by omega
  simp only [evC_seq, evC_region, evOps_cons, wantedA_none, wants_true, evOps_nil, goOn_val, RS.then_norm, evC_ret, putA_some, op_move, op_assign, rd_int, envOf_cons, envOf_nil, goOn_call, callK_ok, op_call, op_bin, rd_same, ne_eq, not_false_eq_true, Nat.reduceEqDiff, rd_ne, op_max rd_same rd_int, List.map_cons, List.map_nil, binInt, bin_int, reduceCtorEq, optV_some, fin_ret hr, k0, k1, k2, maxN, Nat.max_zero, e1, subN h1 (by omega : s < 9223372036854775808), width X (f+9) _ _ (s - 1) (by omega) hX hX1 hX2, mulN (by omega : 2 * n < 9223372036854775808), mulN (by omega : n * blen (s - 1) < 9223372036854775808), addN (by omega : 2 * n + n * blen (s - 1) < 9223372036854775808)]

theorem quo2 {n : Nat} (h : n < 9223372036854775808) : (bif ieq (Int.ofNat 2) (Int.ofNat 0) then none else some (AV.int .i64 (wr .i64 ((Int.ofNat n).tdiv (Int.ofNat 2))))) = some (AV.int .i64 (Int.ofNat (n / 2))) := by
  have e : (Int.ofNat n).tdiv (Int.ofNat 2) = Int.ofNat (n / 2) := Eq.trans rfl rfl
  rw [e, wrN (by omega)]
  rfl
theorem quo20 {n : Nat} (h : n < 9223372036854775808) : (bif ieq (Int.ofNat 2) (.ofNat 0) then none else some (AV.int .i64 (wr .i64 ((Int.ofNat n).tdiv (Int.ofNat 2))))) = some (AV.int .i64 (Int.ofNat (n / 2))) := quo2 h
def leastN (n s : Nat) : Nat := 2 * n + n * blen (s - 1)
def mostN (n s : Nat) : Nat := leastN n s + leastN n s / 2 + 200 * blen (s - 1) + 400
def boundN (n s : Nat) : Nat := 40 * (blen (2 * n) + blen s + 2)
theorem leastN_lt {n s : Nat} (hn : n < 1000000) (hs : s < 1000001) : leastN n s ≤ 22000000 := by
  have hb := blen_lt (s - 1) 20 (by omega)
  have hm : n * blen (s - 1) ≤ 1000000 * 20 := Nat.mul_le_mul (by omega) hb
  unfold leastN
  omega
theorem most (n s : Nat) (hn : n < 1000000) (h1 : 1 ≤ s) (hs : s < 1000001) (hX : X 129 = none) (hX1 : X 96 = none) (hX2 : X 53 = none) (hX3 : X 27 = none) (hX4 : X 28 = none) : evCall Tryz.prog X (f+40) 28 [.int .i64 (.ofNat n), .int .i64 (.ofNat s)] h nx = .ok (.int .i64 (.ofNat (mostN n s))) h nx := by
  rw [evCall_body hX4 Tryz.func28 rfl (by kernel_rfl)]
  generalize hfn : Tryz.f28 = fn
  have hr : fn.results = #[.tmp 4] := by rw [← hfn]; rfl
  have hb := blen_lt (s - 1) 20 (by omega)
  have hl := leastN_lt hn hs
  have e1 : max s 1 = s := by omega
  have hle := fun h nx => least X (f+9) h nx n s hn h1 hs hX hX1 hX2 hX3
  have ed : 2 * n + n * blen (s - 1) = leastN n s := Eq.trans rfl rfl
  simp only [evC_seq, evC_region, evOps_cons, wantedA_none, wants_true, evOps_nil, goOn_val, RS.then_norm, evC_ret, putA_some, op_move, op_assign, rd_int, envOf_cons, envOf_nil, goOn_call, callK_ok, op_call, op_bin, rd_same, ne_eq, not_false_eq_true, Nat.reduceEqDiff, rd_ne, op_max rd_same rd_int, List.map_cons, List.map_nil, binInt, bin_int, reduceCtorEq, optV_some, fin_ret hr, hle, ed, k0, k1, k2, k200, k400, maxN, e1, subN h1 (by omega : s < 9223372036854775808), width X (f+19) _ _ (s - 1) (by omega) hX hX1 hX2, quo2 (by omega : leastN n s < 9223372036854775808), addN (by omega : leastN n s + leastN n s / 2 < 9223372036854775808), mulN (by omega : 200 * blen (s - 1) < 9223372036854775808), addN (by omega : leastN n s + leastN n s / 2 + 200 * blen (s - 1) < 9223372036854775808), addN (by omega : leastN n s + leastN n s / 2 + 200 * blen (s - 1) + 400 < 9223372036854775808)]
  rfl
theorem bound (n s : Nat) (hn : n < 1000000) (h1 : 1 ≤ s) (hs : s < 1000001) (hX : X 129 = none) (hX1 : X 96 = none) (hX2 : X 53 = none) (hX4 : X 29 = none) : evCall Tryz.prog X (f+40) 29 [.int .i64 (.ofNat n), .int .i64 (.ofNat s)] h nx = .ok (.int .i64 (.ofNat (boundN n s))) h nx := by
  rw [evCall_body hX4 Tryz.func29 rfl (by kernel_rfl)]
  generalize hfn : Tryz.f29 = fn
  have hr : fn.results = #[.tmp 4] := by rw [← hfn]; rfl
  have hb := blen_lt (2 * n) 21 (by omega)
  have hb' := blen_lt s 20 (by omega)
  have e1 : max s 1 = s := by omega
  simp only [evC_seq, evC_region, evOps_cons, wantedA_none, wants_true, evOps_nil, goOn_val, RS.then_norm, evC_ret, putA_some, op_move, op_assign, rd_int, envOf_cons, envOf_nil, goOn_call, callK_ok, op_call, op_bin, rd_same, ne_eq, not_false_eq_true, Nat.reduceEqDiff, rd_ne, op_max rd_same rd_int, List.map_cons, List.map_nil, binInt, bin_int, reduceCtorEq, optV_some, fin_ret hr, k0, k1, k2, k40, maxN, Nat.max_zero, e1, mulN (by omega : 2 * n < 9223372036854775808), width X (f+19) _ _ (2 * n) (by omega) hX hX1 hX2, width X (f+19) _ _ s (by omega) hX hX1 hX2, addN (by omega : blen (2 * n) + blen s < 9223372036854775808), addN (by omega : blen (2 * n) + blen s + 2 < 9223372036854775808), mulN (by omega : 40 * (blen (2 * n) + blen s + 2) < 9223372036854775808)]
  rfl
end Go.Proofs.YtpcbnpekdmobpaaGreatDoor

open Go Go.Ev Go.RowKit
namespace Go.Proofs.YtpcbnpekdmobpaaGreatDoor
variable (f : Nat) (h : H) (nx : Nat) (mx : Int)
theorem blen_mono {a b : Nat} (h : a ≤ b) : blen a ≤ blen b := by
  have hb : b < 2 ^ blen b := by
    unfold blen
    split
    · omega
    · exact Nat.lt_log2_self
  exact blen_lt a (blen b) (by omega)
theorem least_mono {x y p q : Nat} (h : x ≤ y) (h' : p ≤ q) : leastN x p ≤ leastN y q := by
  have := Nat.mul_le_mul h (blen_mono (Nat.sub_le_sub_right h' 1))
  unfold leastN
  omega
theorem most_mono {x y p q : Nat} (h : x ≤ y) (h' : p ≤ q) : mostN x p ≤ mostN y q := by
  have h1 := least_mono h h'
  have h2 := Nat.div_le_div_right (c := 2) h1
  have h3 := blen_mono (Nat.sub_le_sub_right h' 1)
  unfold mostN
  omega
theorem bound_mono {x y p q : Nat} (h : x ≤ y) (h' : p ≤ q) : boundN x p ≤ boundN y q := by
  have h1 := blen_mono (Nat.mul_le_mul_left 2 h)
  have h2 := blen_mono h'
  unfold boundN
  omega
theorem wu (n : Int) : ∃ u : Nat, wr .u64 n = Int.ofNat u := by
  cases n with
  | ofNat m => exact ⟨m % 18446744073709551616, rfl⟩
  | negSucc m => exact ⟨_, rfl⟩
theorem rem6 {u : Nat} : (bif ieq 1000000 (Int.ofNat 0) then none else some (AV.int .u64 ((Int.ofNat u).tmod 1000000))) = some (AV.int .u64 (Int.ofNat (u % 1000000))) := Eq.trans rfl rfl

noncomputable def X24 : Ovr := ovr (base24 mx)
theorem le_ok {a b : Nat} (h : a ≤ b) : (!decide (Int.ofNat b < Int.ofNat a)) = true := by simp; omega

def regs : Code → List (Array Oper)
  | .seq a b => regs a ++ regs b
  | .cond _ a b => regs a ++ regs b
  | .region _ o _ => [o]
  | _ => []
noncomputable def opsN (fn : Func) (i : Nat) : Array Oper := ((regs (fn.body.getD .skip))[i]?).getD #[]
theorem shape8 : Tryz.f8.body = some (.seq (.region 0 (opsN Tryz.f8 0) false) (.seq (.region 1 (opsN Tryz.f8 1) false) (.seq (.seq (.region 2 (opsN Tryz.f8 2) false) (.cond (.tmp 33) (.region 3 (opsN Tryz.f8 3) false) .skip)) (.seq (.seq (.region 4 (opsN Tryz.f8 4) false) (.cond (.tmp 38) (.region 5 (opsN Tryz.f8 5) false) .skip)) (.seq (.region 6 (opsN Tryz.f8 6) false) .ret))))) := by kernel_rfl

theorem tne {t a b : Nat} (h : t < a) (hab : a ≤ b) : t ≠ b := by omega
theorem zero (cal : CallF) (env : Env) : ∀ K : RS → Prop, (∀ env', (∀ t, t ≠ 8 → rd env' (.tmp t) = rd env (.tmp t)) → K (.norm env' h nx)) → K (evOps Tryz.prog cal (opsN Tryz.f8 0) (opsN Tryz.f8 0).toList env h nx) := by
  intro K hK
  simp only [opsN, Tryz.f8, Option.getD_some, regs, List.cons_append, List.nil_append, List.getElem?_cons_zero, List.toList_toArray, evOps_cons, wantedA_none, wants_true, evOps_nil, op_assign, goOn_val, putA_some]
  exact hK _ fun t ht => rd_ne ht
theorem one (cal : CallF) (env : Env) (n m a b : Int) (u v c d : Nat) (hu : wr .u64 n = Int.ofNat u) (hv : wr .u64 m = Int.ofNat v) (hc : wr .u64 a = Int.ofNat c) (hd : wr .u64 b = Int.ofNat d)
    (g0 : rd env (.tmp 0) = .int .i64 n) (g1 : rd env (.tmp 1) = .int .i64 m) (g2 : rd env (.tmp 2) = .int .i64 a) (g3 : rd env (.tmp 3) = .int .i64 b) :
    ∀ K : RS → Prop, (∀ env', rd env' (.tmp 9) = .int .i64 (.ofNat (u % 1000000)) → rd env' (.tmp 10) = .int .i64 (.ofNat (v % 1000000)) → rd env' (.tmp 11) = .int .i64 (.ofNat (1 + c % 1000000)) → rd env' (.tmp 12) = .int .i64 (.ofNat (1 + d % 1000000)) → K (.norm env' h nx)) →
      K (evOps Tryz.prog cal (opsN Tryz.f8 1) (opsN Tryz.f8 1).toList env h nx) := by
  intro K hK
  simp only [opsN, Tryz.f8, Option.getD_some, regs, List.cons_append, List.nil_append, List.getElem?_cons_zero, List.getElem?_cons_succ, List.toList_toArray, evOps_cons, wantedA_none, wants_true, evOps_nil, op_assign, op_move, op_conv, op_bin, goOn_val, putA_some, rd_same, rd_int, ne_eq, not_false_eq_true, Nat.reduceEqDiff, rd_ne, g0, g1, g2, g3, conv_int Tryz.underlying26 Tryz.underlying3, conv_int Tryz.underlying3 Tryz.underlying26, hu, hv, hc, hd, binInt, bin_int, reduceCtorEq, rem6, optV_some,
    wrN (show u % 1000000 < 9223372036854775808 by omega), wrN (show v % 1000000 < 9223372036854775808 by omega), wrN (show c % 1000000 < 9223372036854775808 by omega), wrN (show d % 1000000 < 9223372036854775808 by omega), k1, addN (show 1 + c % 1000000 < 9223372036854775808 by omega), addN (show 1 + d % 1000000 < 9223372036854775808 by omega)]
  refine hK _ ?_ ?_ ?_ ?_ <;> simp only [rd_same, ne_eq, not_false_eq_true, Nat.reduceEqDiff, rd_ne]
theorem two (cal : CallF) (env : Env) (x y : Nat) (g9 : rd env (.tmp 9) = .int .i64 (.ofNat x)) (g10 : rd env (.tmp 10) = .int .i64 (.ofNat y)) :
    ∀ K : RS → Prop, (∀ env', (∀ t, t < 13 → rd env' (.tmp t) = rd env (.tmp t)) → rd env' (.tmp 33) = .bool (decide (y < x)) → K (.norm env' h nx)) → K (evOps Tryz.prog cal (opsN Tryz.f8 2) (opsN Tryz.f8 2).toList env h nx) := by
  intro K hK
  have e : ilt (Int.ofNat y) (Int.ofNat x) = decide (y < x) := by rw [ilt_eq]; simp
  simp only [opsN, Tryz.f8, Option.getD_some, regs, List.cons_append, List.nil_append, List.getElem?_cons_zero, List.getElem?_cons_succ, List.toList_toArray, evOps_cons, wantedA_none, wants_true, evOps_nil, op_move, op_bin, goOn_val, putA_some, rd_same, ne_eq, not_false_eq_true, Nat.reduceEqDiff, rd_ne, g9, g10, binInt, bin_int, reduceCtorEq, optV_some, e]
  refine hK _ (fun t ht => ?_) ?_
  · exact (rd_ne (tne ht (by decide))).trans ((rd_ne (tne ht (by decide))).trans (rd_ne (tne ht (by decide))))
  · simp only [rd_same]
theorem four (cal : CallF) (env : Env) (x y : Nat) (g9 : rd env (.tmp 11) = .int .i64 (.ofNat x)) (g10 : rd env (.tmp 12) = .int .i64 (.ofNat y)) :
    ∀ K : RS → Prop, (∀ env', (∀ t, t < 13 → rd env' (.tmp t) = rd env (.tmp t)) → rd env' (.tmp 38) = .bool (decide (y < x)) → K (.norm env' h nx)) → K (evOps Tryz.prog cal (opsN Tryz.f8 4) (opsN Tryz.f8 4).toList env h nx) := by
  intro K hK
  have e : ilt (Int.ofNat y) (Int.ofNat x) = decide (y < x) := by rw [ilt_eq]; simp
  simp only [opsN, Tryz.f8, Option.getD_some, regs, List.cons_append, List.nil_append, List.getElem?_cons_zero, List.getElem?_cons_succ, List.toList_toArray, evOps_cons, wantedA_none, wants_true, evOps_nil, op_move, op_bin, goOn_val, putA_some, rd_same, ne_eq, not_false_eq_true, Nat.reduceEqDiff, rd_ne, g9, g10, binInt, bin_int, reduceCtorEq, optV_some, e]
  refine hK _ (fun t ht => ?_) ?_
  · exact (rd_ne (tne ht (by decide))).trans ((rd_ne (tne ht (by decide))).trans (rd_ne (tne ht (by decide))))
  · simp only [rd_same]
theorem three (cal : CallF) (env : Env) (x y : AV) (g9 : rd env (.tmp 9) = x) (g10 : rd env (.tmp 10) = y) :
    ∀ K : RS → Prop, (∀ env', (∀ t, t < 13 → t ≠ 9 → t ≠ 10 → rd env' (.tmp t) = rd env (.tmp t)) → rd env' (.tmp 9) = y → rd env' (.tmp 10) = x → K (.norm env' h nx)) → K (evOps Tryz.prog cal (opsN Tryz.f8 3) (opsN Tryz.f8 3).toList env h nx) := by
  intro K hK
  simp only [opsN, Tryz.f8, Option.getD_some, regs, List.cons_append, List.nil_append, List.getElem?_cons_zero, List.getElem?_cons_succ, List.toList_toArray, evOps_cons, wantedA_none, wants_true, evOps_nil, op_assign, op_move, goOn_val, putA_some, rd_same, ne_eq, not_false_eq_true, Nat.reduceEqDiff, rd_ne, g9, g10]
  refine hK _ (fun t ht h1 h2 => ?_) ?_ ?_
  · exact (rd_ne h2).trans ((rd_ne h1).trans ((rd_ne (tne ht (by decide))).trans (rd_ne (tne ht (by decide)))))
  · simp only [rd_same, ne_eq, not_false_eq_true, Nat.reduceEqDiff, rd_ne]
  · simp only [rd_same]
theorem five (cal : CallF) (env : Env) (x y : AV) (g9 : rd env (.tmp 11) = x) (g10 : rd env (.tmp 12) = y) :
    ∀ K : RS → Prop, (∀ env', (∀ t, t < 13 → t ≠ 11 → t ≠ 12 → rd env' (.tmp t) = rd env (.tmp t)) → rd env' (.tmp 11) = y → rd env' (.tmp 12) = x → K (.norm env' h nx)) → K (evOps Tryz.prog cal (opsN Tryz.f8 5) (opsN Tryz.f8 5).toList env h nx) := by
  intro K hK
  simp only [opsN, Tryz.f8, Option.getD_some, regs, List.cons_append, List.nil_append, List.getElem?_cons_zero, List.getElem?_cons_succ, List.toList_toArray, evOps_cons, wantedA_none, wants_true, evOps_nil, op_assign, op_move, goOn_val, putA_some, rd_same, ne_eq, not_false_eq_true, Nat.reduceEqDiff, rd_ne, g9, g10]
  refine hK _ (fun t ht h1 h2 => ?_) ?_ ?_
  · exact (rd_ne h2).trans ((rd_ne h1).trans ((rd_ne (tne ht (by decide))).trans (rd_ne (tne ht (by decide)))))
  · simp only [rd_same, ne_eq, not_false_eq_true, Nat.reduceEqDiff, rd_ne]
  · simp only [rd_same]
theorem six (env : Env) (x y p q : Nat) (hx : x < 1000000) (hy : y < 1000000) (hp1 : 1 ≤ p) (hp : p < 1000001) (hq : q < 1000001) (hxy : x ≤ y) (hpq : p ≤ q)
    (g9 : rd env (.tmp 9) = .int .i64 (.ofNat x)) (g10 : rd env (.tmp 10) = .int .i64 (.ofNat y)) (g11 : rd env (.tmp 11) = .int .i64 (.ofNat p)) (g12 : rd env (.tmp 12) = .int .i64 (.ofNat q))
    (ht : evCall Tryz.prog (X24 mx) (f+59) 26 [] h nx = .ok (.bool true) h nx) :
    ∀ K : RS → Prop, (∀ env', rd env' (.tmp 8) = .bool true → K (.norm env' h nx)) → K (evOps Tryz.prog (evCall Tryz.prog (X24 mx) (f+59)) (opsN Tryz.f8 6) (opsN Tryz.f8 6).toList env h nx) := by
  intro K hK
  have hle := fun (x p : Nat) (hx : x < 1000000) (hp1 : 1 ≤ p) (hp : p < 1000001) (h : H) (nx : Nat) => least (X24 mx) (f+29) h nx x p hx hp1 hp rfl rfl rfl rfl
  have hmo := fun (x p : Nat) (hx : x < 1000000) (hp1 : 1 ≤ p) (hp : p < 1000001) (h : H) (nx : Nat) => most (X24 mx) (f+19) h nx x p hx hp1 hp rfl rfl rfl rfl rfl
  have hbo := fun (x p : Nat) (hx : x < 1000000) (hp1 : 1 ≤ p) (hp : p < 1000001) (h : H) (nx : Nat) => bound (X24 mx) (f+19) h nx x p hx hp1 hp rfl rfl rfl rfl
  simp only [show ∀ n s, 2 * n + n * blen (s - 1) = leastN n s from fun _ _ => rfl] at hle
  have l1 := le_ok (least_mono hxy hpq)
  have l2 := le_ok (most_mono hxy hpq)
  have l3 := le_ok (bound_mono hxy hpq)
  have l4 : (!decide (Int.ofNat (mostN y q) < Int.ofNat (leastN y q + 400))) = true := le_ok (by unfold mostN; omega)
  have hl := leastN_lt (n := y) (s := q) hy hq
  have hq1 : 1 ≤ q := by omega
  simp only [opsN, Tryz.f8, Option.getD_some, regs, List.cons_append, List.nil_append, evOps_cons, wantedA_none, wantedA_some, wantD_some, wantB_bool, wants_true, evOps_nil, goOn_val, putA_some, op_move, op_assign, rd_int, rd_bool, List.toList_toArray, goOn_call, callK_ok, op_call, op_bin, rd_same, ne_eq, not_false_eq_true, Nat.reduceEqDiff, rd_ne, List.map_cons, List.map_nil, binInt, bin_int, reduceCtorEq, optV_some, List.getElem?_toArray, List.getElem?_cons_zero, List.getElem?_cons_succ, Option.bind_some, beq_self_eq_true, op_pickA, pickA_bool, cond_true, ilt_eq, k400, g9, g10, g11, g12, ht, hle x p hx hp1 hp, hle y q hy hq1 hq, hmo x p hx hp1 hp, hmo y q hy hq1 hq, hbo x p hx hp1 hp, hbo y q hy hq1 hq, l1, l2, l3, l4, addN (by omega : leastN y q + 400 < 9223372036854775808)]
  exact hK _ rd_same

theorem thenN {r : RS} {k _k' : Env → H → Nat → RS} (P : RS → Prop) (h : P (r.then k)) : P (r.then k) := h
set_option maxRecDepth 100000 in
theorem law (n m a b : Int) (ht : evCall Tryz.prog (X24 mx) (f+59) 26 [] h nx = .ok (.bool true) h nx) : evCall Tryz.prog (X24 mx) (f+60) 8 [.int .i64 n, .int .i64 m, .int .i64 a, .int .i64 b] h nx = .ok (.bool true) h nx := by
  rw [evCall_body (fn := Tryz.f8) rfl Tryz.func8 shape8 (by kernel_rfl)]
  obtain ⟨u, hu⟩ := wu n
  obtain ⟨v, hv⟩ := wu m
  obtain ⟨c, hc⟩ := wu a
  obtain ⟨d, hd⟩ := wu b
  simp only [evC_seq, evC_region]
  refine zero h nx _ _ (fun r => fin Tryz.prog Tryz.f8 (r.then _) = _) fun e0 k0 => ?_
  simp only [RS.then_norm, evC_seq, evC_region]
  refine one h nx _ e0 n m a b u v c d hu hv hc hd ?_ ?_ ?_ ?_ (fun r => fin Tryz.prog Tryz.f8 (r.then _) = _) fun e1 g9 g10 g11 g12 => ?_
  · exact (k0 0 (by decide)).trans rfl
  · exact (k0 1 (by decide)).trans rfl
  · exact (k0 2 (by decide)).trans rfl
  · exact (k0 3 (by decide)).trans rfl
  simp only [RS.then_norm, evC_seq, evC_region]
  refine two h nx _ e1 _ _ g9 g10 (fun r => fin Tryz.prog Tryz.f8 ((r.then _).then _) = _) fun e2 s2 c2 => ?_
  simp only [RS.then_norm, evC_region, evC_cond]
  have step : ∀ (x y : Nat) (e3 : Env), x < 1000000 → y < 1000000 → x ≤ y → rd e3 (.tmp 9) = .int .i64 (.ofNat x) → rd e3 (.tmp 10) = .int .i64 (.ofNat y) → rd e3 (.tmp 11) = .int .i64 (.ofNat (1 + c % 1000000)) → rd e3 (.tmp 12) = .int .i64 (.ofNat (1 + d % 1000000)) →
      fin Tryz.prog Tryz.f8 (evC Tryz.prog (evCall Tryz.prog (X24 mx) (f+59)) (f+57) (.seq (.seq (.region 4 (opsN Tryz.f8 4) false) (.cond (.tmp 38) (.region 5 (opsN Tryz.f8 5) false) .skip)) (.seq (.region 6 (opsN Tryz.f8 6) false) .ret)) e3 h nx) = .ok (.bool true) h nx := by
    intro x y e3 hx hy hxy g9 g10 g11 g12
    have last : ∀ (p q : Nat) (e5 : Env), 1 ≤ p → p < 1000001 → q < 1000001 → p ≤ q → rd e5 (.tmp 9) = .int .i64 (.ofNat x) → rd e5 (.tmp 10) = .int .i64 (.ofNat y) → rd e5 (.tmp 11) = .int .i64 (.ofNat p) → rd e5 (.tmp 12) = .int .i64 (.ofNat q) →
        fin Tryz.prog Tryz.f8 (evC Tryz.prog (evCall Tryz.prog (X24 mx) (f+59)) (f+56) (.seq (.region 6 (opsN Tryz.f8 6) false) .ret) e5 h nx) = .ok (.bool true) h nx := by
      intro p q e5 h1 h2 h3 h4 k1 k2 k3 k4
      simp only [evC_seq, evC_region]
      refine six f h nx mx e5 x y p q hx hy h1 h2 h3 hxy h4 k1 k2 k3 k4 ht (fun r => fin Tryz.prog Tryz.f8 (r.then _) = _) fun e6 k8 => ?_
      simp only [RS.then_norm, evC_ret]
      rw [fin_ret (show Tryz.f8.results = #[.tmp 8] from by kernel_rfl), k8]
    rw [evC_seq]
    simp only [evC_seq, evC_region]
    refine four h nx _ e3 _ _ g11 g12 (fun r => fin Tryz.prog Tryz.f8 ((r.then _).then _) = _) fun e4 s4 c4 => ?_
    simp only [RS.then_norm, evC_cond, evC_region, evC_skip]
    rw [c4]
    by_cases hq : 1 + d % 1000000 < 1 + c % 1000000
    · rw [decide_eq_true hq, condA_t]
      refine five h nx _ e4 _ _ ((s4 11 (by decide)).trans g11) ((s4 12 (by decide)).trans g12) (fun r => fin Tryz.prog Tryz.f8 (r.then _) = _) fun e5 s5 a1 a2 => ?_
      rw [RS.then_norm]
      exact last _ _ e5 (by omega) (by omega) (by omega) (by omega) ((s5 9 (by decide) (by decide) (by decide)).trans ((s4 9 (by decide)).trans g9)) ((s5 10 (by decide) (by decide) (by decide)).trans ((s4 10 (by decide)).trans g10)) a1 a2
    · rw [decide_eq_false hq, condA_f, RS.then_norm]
      exact last _ _ e4 (by omega) (by omega) (by omega) (by omega) ((s4 9 (by decide)).trans g9) ((s4 10 (by decide)).trans g10) ((s4 11 (by decide)).trans g11) ((s4 12 (by decide)).trans g12)
  rw [c2]
  by_cases hq : v % 1000000 < u % 1000000
  · rw [decide_eq_true hq, condA_t]
    refine three h nx _ e2 _ _ ((s2 9 (by decide)).trans g9) ((s2 10 (by decide)).trans g10) (fun r => fin Tryz.prog Tryz.f8 (r.then _) = _) fun e3 s3 a1 a2 => ?_
    rw [RS.then_norm]
    exact step _ _ e3 (by omega) (by omega) (by omega) a1 a2 ((s3 11 (by decide) (by decide) (by decide)).trans ((s2 11 (by decide)).trans g11)) ((s3 12 (by decide) (by decide) (by decide)).trans ((s2 12 (by decide)).trans g12))
  · rw [decide_eq_false hq, condA_f, evC_skip, RS.then_norm]
    exact step _ _ e2 (by omega) (by omega) (by omega) ((s2 9 (by decide)).trans g9) ((s2 10 (by decide)).trans g10) ((s2 11 (by decide)).trans g11) ((s2 12 (by decide)).trans g12)
theorem calls_spaceRises (W : World) (hsh : W.ShapedOpen Tryz.prog) {L : List (String × DataW Unit)} (_ : laidMetH Tryz.prog L W) (n m a b : Int) :
    Calls Tryz.prog 8 #[.int .i64 n, .int .i64 m, .int .i64 a, .int .i64 b] W fun e w' => e = .returned (.bool true) ∧ Below W.heap.size W w' := by
  have hlt : 2 < Tryz.prog.globals.size := of_decide_eq_true (by kernel_rfl)
  obtain ⟨x, hx⟩ := shape_int hsh (g := 2) (t := 3) (k := .i64) hlt (by kernel_rfl) (by kernel_rfl) Tryz.underlying3 (by kernel_rfl)
  have hs := shape_size hsh (g := 8) (t := 242) (n := 32) (by kernel_rfl) (by kernel_rfl)
  refine run_ok (base24_ok x) count_ok Tryz.func8 shape8 hs (L := tab24 x) (by simp [tab24]) ?_ (args := [.int .i64 n, .int .i64 m, .int .i64 a, .int .i64 b]) (vs := [.int .i64 n, .int .i64 m, .int .i64 a, .int .i64 b]) (fun σ => .cons _ _ _ _ (.int _ _) (.cons _ _ _ _ (.int _ _) (.cons _ _ _ _ (.int _ _) (.cons _ _ _ _ (.int _ _) .nil))))
    (law 0 (tabs (tab24 x) .e) Tryz.prog.globals.size x n m a b ?_)
  · intro t ht
    obtain rfl := List.mem_singleton.1 ht
    exact intTab_ok hlt hx
  · rw [show (0 + 59 : Nat) = 58 + 1 from rfl, evCall_ent (k := kTold (tab24 x)) rfl]
    exact kTold_run fun _ _ h => h
end Go.Proofs.YtpcbnpekdmobpaaGreatDoor

