/- TreeNexts is true for every list of numbers and every number, and what it rests on; no condition. -/
import Derived.Test.YtpcbnpekdmobpaaGreatDoorNxE
set_option linter.unusedSimpArgs false
set_option linter.unusedVariables false
set_option linter.constructorNameAsVariable false
set_option linter.unnecessarySimpa false
open Go Go.Ev Go.VL
namespace Go.Proofs.YtpcbnpekdmobpaaGreatDoor
structure Attr where
  p : List Nat
  l : List Nat
  u : List Nat
  v : List Nat
structure Nd where
  k : Int
  d : Int
  p : List Nat
  l : List Nat
  u : List Nat
  v : List Nat
  s : List Attr
def encA (a : Attr) : List V := [.str a.p, .str a.l, .str a.u, .str a.v]
def encN (n : Nd) : List V := [.int .i64 n.k, .int .i64 n.d, .str n.p, .str n.l, .str n.u, .str n.v, .sl 4 (n.s.map encA) none]
variable {X : Ovr} {G : Gt}
end Go.Proofs.YtpcbnpekdmobpaaGreatDoor
open Go Go.Ev Go.VL
namespace Go.Proofs.YtpcbnpekdmobpaaGreatDoor
attribute [local irreducible] fApp
variable {X : Ovr} {G : Gt}
theorem encA_len (a : Attr) : (encA a).length = 4 := rfl
abbrev Attrs := SlIn encA 4 T_api_Attr
def cand : List Attr := List.flatten [[S_u, S_v].map (fun v => (⟨S_xmlns, S_p, Shttp_58__47__47_www_46_w3_46__29_391792, v⟩ : Attr)), [S_u, [], S_w].map (fun v => (⟨[], S_xmlns, Shttp_58__47__47_www_46_w3_46__29_391792, v⟩ : Attr)), [S_1, S_32__10__9_, S_60__34__38__62_, S_13_].map (fun v => (⟨[], S_x, [], v⟩ : Attr)), [(⟨S_p, S_x, [], S_2⟩ : Attr)], [(⟨S_xml, S_id, [], S_i⟩ : Attr)], [(⟨S_xmlns, S_q, Shttp_58__47__47_www_46_w3_46__29_391792, S_u⟩ : Attr)]]
structure FewA (k : Nat) (xs : List Attr) : Prop where
  len : xs.length ≤ k
  mem : ∀ a ∈ xs, a ∈ cand
theorem FewA.app {k : Nat} {xs : List Attr} (h : FewA k xs) {a : Attr} (ha : a ∈ cand) : FewA (k + 1) (xs ++ [a]) := by
  refine ⟨?_, fun b hb => ?_⟩
  · have := h.len
    rw [List.length_append, List.length_singleton]
    omega
  · rcases List.mem_append.1 hb with h1 | h1
    · exact h.mem b h1
    · rw [List.mem_singleton.1 h1]; exact ha
theorem FewA.up {k j : Nat} {xs : List Attr} (h : FewA k xs) (hj : k ≤ j) : FewA j xs := ⟨Nat.le_trans h.len hj, h.mem⟩
theorem cand_at {ls : List (List Attr)} (hc : cand = ls.flatten) {l : List Attr} (hl : l ∈ ls) {a : Attr} (ha : a ∈ l) : a ∈ cand := by
  rw [hc]; exact List.mem_flatten.2 ⟨l, hl, ha⟩
theorem attrs_R12 (u : Int) (lo : Nat) (vh : VH) (nx : Nat) (v : V) (xs : List Attr) (A : Attrs lo vh nx v xs) (hlo : lo ≤ nx) (hlen : FewA 5 xs) (Q : FQ)
    (hQ : ∀ v' vh' nx' xs', Attrs lo vh' nx' v' xs' → FewA 6 xs' → nx ≤ nx' → (∀ c, c < lo → vh' c = vh c) → Q .ret [(2, v')] vh' nx') :
    FLoop Tryz.prog X G (.cut c_law16_attrs_R12) [(0, .int .u64 u), (3, v)] vh nx Q := by
  refine FLoop.cut ?_
  rcases id A with ⟨rfl | rfl, rfl⟩ | ⟨b, hb1, hb2, rfl, hb4⟩
  all_goals
    conv => whnf
    refine CondP.mk (fun h => ?_) (fun h => ?_)
    · conv => whnf
      refine SlIn.app encA_len (by decide) A hlo (⟨S_xmlns, S_q, Shttp_58__47__47_www_46_w3_46__29_391792, S_u⟩ : Attr) ⟨?_, ?_⟩ fun vh' A' hf => ?_
      · have := hlen.len; omega
      · have := hlen.len; show _ < 9223372036854775808; omega
      conv => whnf
      have hf' : ∀ c, c < lo → vh' c = vh c := fun c hc => hf c (by omega) (by first | exact fun h => h | exact fun (h : c = b) => by omega)
      exact hQ _ _ _ _ A' (hlen.app (cand_at rfl (.tail _ (.tail _ (.tail _ (.tail _ (.tail _ (.head _)))))) (.head _))) (by omega) hf'
    · conv => whnf
      exact hQ _ _ _ _ A (hlen.up (by decide)) (Nat.le_refl _) fun _ _ => rfl
theorem attrs_R10 (u : Int) (lo : Nat) (vh : VH) (nx : Nat) (v : V) (xs : List Attr) (A : Attrs lo vh nx v xs) (hlo : lo ≤ nx) (hlen : FewA 4 xs) (Q : FQ)
    (hQ : ∀ v' vh' nx' xs', Attrs lo vh' nx' v' xs' → FewA 6 xs' → nx ≤ nx' → (∀ c, c < lo → vh' c = vh c) → Q .ret [(2, v')] vh' nx') :
    FLoop Tryz.prog X G (.cut c_law16_attrs_R10) [(0, .int .u64 u), (3, v)] vh nx Q := by
  refine FLoop.cut ?_
  rcases id A with ⟨rfl | rfl, rfl⟩ | ⟨b, hb1, hb2, rfl, hb4⟩
  all_goals
    conv => whnf
    refine CondP.mk (fun h => ?_) (fun h => ?_)
    · conv => whnf
      refine SlIn.app encA_len (by decide) A hlo (⟨S_xml, S_id, [], S_i⟩ : Attr) ⟨?_, ?_⟩ fun vh' A' hf => ?_
      · have := hlen.len; omega
      · have := hlen.len; show _ < 9223372036854775808; omega
      conv => whnf
      have hf' : ∀ c, c < lo → vh' c = vh c := fun c hc => hf c (by omega) (by first | exact fun h => h | exact fun (h : c = b) => by omega)
      exact attrs_R12 u lo vh' _ _ _ A' (by omega) (hlen.app (cand_at rfl (.tail _ (.tail _ (.tail _ (.tail _ (.head _))))) (.head _))) Q fun v2 vh2 n2 x2 A2 l2 g2 f2 => hQ v2 vh2 n2 x2 A2 l2 (by omega) fun c hc => (f2 c hc).trans (hf' c hc)
    · conv => whnf
      exact attrs_R12 u lo vh _ _ _ A hlo (hlen.up (by decide)) Q hQ
theorem attrs_R8 (u : Int) (lo : Nat) (vh : VH) (nx : Nat) (v : V) (xs : List Attr) (A : Attrs lo vh nx v xs) (hlo : lo ≤ nx) (hlen : FewA 3 xs) (Q : FQ)
    (hQ : ∀ v' vh' nx' xs', Attrs lo vh' nx' v' xs' → FewA 6 xs' → nx ≤ nx' → (∀ c, c < lo → vh' c = vh c) → Q .ret [(2, v')] vh' nx') :
    FLoop Tryz.prog X G (.cut c_law16_attrs_R8) [(0, .int .u64 u), (3, v)] vh nx Q := by
  refine FLoop.cut ?_
  rcases id A with ⟨rfl | rfl, rfl⟩ | ⟨b, hb1, hb2, rfl, hb4⟩
  all_goals
    conv => whnf
    refine CondP.mk (fun h => ?_) (fun h => ?_)
    · conv => whnf
      refine SlIn.app encA_len (by decide) A hlo (⟨S_p, S_x, [], S_2⟩ : Attr) ⟨?_, ?_⟩ fun vh' A' hf => ?_
      · have := hlen.len; omega
      · have := hlen.len; show _ < 9223372036854775808; omega
      conv => whnf
      have hf' : ∀ c, c < lo → vh' c = vh c := fun c hc => hf c (by omega) (by first | exact fun h => h | exact fun (h : c = b) => by omega)
      exact attrs_R10 u lo vh' _ _ _ A' (by omega) (hlen.app (cand_at rfl (.tail _ (.tail _ (.tail _ (.head _)))) (.head _))) Q fun v2 vh2 n2 x2 A2 l2 g2 f2 => hQ v2 vh2 n2 x2 A2 l2 (by omega) fun c hc => (f2 c hc).trans (hf' c hc)
    · conv => whnf
      exact attrs_R10 u lo vh _ _ _ A hlo (hlen.up (by decide)) Q hQ
theorem attrs_R6 (u : Int) (lo : Nat) (vh : VH) (nx : Nat) (v : V) (xs : List Attr) (A : Attrs lo vh nx v xs) (hlo : lo ≤ nx) (hlen : FewA 2 xs) (Q : FQ)
    (hQ : ∀ v' vh' nx' xs', Attrs lo vh' nx' v' xs' → FewA 6 xs' → nx ≤ nx' → (∀ c, c < lo → vh' c = vh c) → Q .ret [(2, v')] vh' nx') :
    FLoop Tryz.prog X G (.cut c_law16_attrs_R6) [(0, .int .u64 u), (3, v)] vh nx Q := by
  refine FLoop.cut ?_
  rcases id A with ⟨rfl | rfl, rfl⟩ | ⟨b, hb1, hb2, rfl, hb4⟩
  all_goals
    conv => whnf
    refine CondP.mk (fun h => ?_) (fun h => ?_)
    · conv => whnf
      repeat (refine Owe.mk (by decide) ?_; conv => whnf)
      have hr := u_rem (x := wr .u64 (u.tdiv 32)) (m := 4) wru64_lt.1 (by decide)
      refine Get.lit (f := fun s => [V.str s]) (zs := [S_1, S_32__10__9_, S_60__34__38__62_, S_13_]) rfl hr.1 hr.2 fun hlt => ?_
      conv => whnf
      refine SlIn.app encA_len (by decide) A hlo (⟨[], S_x, [], [S_1, S_32__10__9_, S_60__34__38__62_, S_13_][((wr .u64 (u.tdiv 32)).tmod 4).toNat]⟩ : Attr) ⟨?_, ?_⟩ fun vh' A' hf => ?_
      · have := hlen.len; omega
      · have := hlen.len; show _ < 9223372036854775808; omega
      conv => whnf
      have hf' : ∀ c, c < lo → vh' c = vh c := fun c hc => hf c (by omega) (by first | exact fun h => h | exact fun (h : c = b) => by omega)
      exact attrs_R8 u lo vh' _ _ _ A' (by omega) (hlen.app (cand_at rfl (.tail _ (.tail _ (.head _))) (List.mem_map.2 ⟨_, List.getElem_mem _, rfl⟩))) Q fun v2 vh2 n2 x2 A2 l2 g2 f2 => hQ v2 vh2 n2 x2 A2 l2 (by omega) fun c hc => (f2 c hc).trans (hf' c hc)
    · conv => whnf
      exact attrs_R8 u lo vh _ _ _ A hlo (hlen.up (by decide)) Q hQ
theorem attrs_R4 (u : Int) (lo : Nat) (vh : VH) (nx : Nat) (v : V) (xs : List Attr) (A : Attrs lo vh nx v xs) (hlo : lo ≤ nx) (hlen : FewA 1 xs) (Q : FQ)
    (hQ : ∀ v' vh' nx' xs', Attrs lo vh' nx' v' xs' → FewA 6 xs' → nx ≤ nx' → (∀ c, c < lo → vh' c = vh c) → Q .ret [(2, v')] vh' nx') :
    FLoop Tryz.prog X G (.cut c_law16_attrs_R4) [(0, .int .u64 u), (3, v)] vh nx Q := by
  refine FLoop.cut ?_
  rcases id A with ⟨rfl | rfl, rfl⟩ | ⟨b, hb1, hb2, rfl, hb4⟩
  all_goals
    conv => whnf
    refine CondP.mk (fun h => ?_) (fun h => ?_)
    · conv => whnf
      repeat (refine Owe.mk (by decide) ?_; conv => whnf)
      have hr := u_rem (x := wr .u64 (u.tdiv 8)) (m := 3) wru64_lt.1 (by decide)
      refine Get.lit (f := fun s => [V.str s]) (zs := [S_u, [], S_w]) rfl hr.1 hr.2 fun hlt => ?_
      conv => whnf
      refine SlIn.app encA_len (by decide) A hlo (⟨[], S_xmlns, Shttp_58__47__47_www_46_w3_46__29_391792, [S_u, [], S_w][((wr .u64 (u.tdiv 8)).tmod 3).toNat]⟩ : Attr) ⟨?_, ?_⟩ fun vh' A' hf => ?_
      · have := hlen.len; omega
      · have := hlen.len; show _ < 9223372036854775808; omega
      conv => whnf
      have hf' : ∀ c, c < lo → vh' c = vh c := fun c hc => hf c (by omega) (by first | exact fun h => h | exact fun (h : c = b) => by omega)
      exact attrs_R6 u lo vh' _ _ _ A' (by omega) (hlen.app (cand_at rfl (.tail _ (.head _)) (List.mem_map.2 ⟨_, List.getElem_mem _, rfl⟩))) Q fun v2 vh2 n2 x2 A2 l2 g2 f2 => hQ v2 vh2 n2 x2 A2 l2 (by omega) fun c hc => (f2 c hc).trans (hf' c hc)
    · conv => whnf
      exact attrs_R6 u lo vh _ _ _ A hlo (hlen.up (by decide)) Q hQ
theorem attrs_R2 (u : Int) (lo : Nat) (vh : VH) (nx : Nat) (v : V) (xs : List Attr) (A : Attrs lo vh nx v xs) (hlo : lo ≤ nx) (hlen : FewA 0 xs) (Q : FQ)
    (hQ : ∀ v' vh' nx' xs', Attrs lo vh' nx' v' xs' → FewA 6 xs' → nx ≤ nx' → (∀ c, c < lo → vh' c = vh c) → Q .ret [(2, v')] vh' nx') :
    FLoop Tryz.prog X G (.cut c_law16_attrs_R2) [(0, .int .u64 u), (3, v)] vh nx Q := by
  refine FLoop.cut ?_
  rcases id A with ⟨rfl | rfl, rfl⟩ | ⟨b, hb1, hb2, rfl, hb4⟩
  all_goals
    conv => whnf
    refine CondP.mk (fun h => ?_) (fun h => ?_)
    · conv => whnf
      repeat (refine Owe.mk (by decide) ?_; conv => whnf)
      have hr := u_rem (x := wr .u64 (u.tdiv 2)) (m := 2) wru64_lt.1 (by decide)
      refine Get.lit (f := fun s => [V.str s]) (zs := [S_u, S_v]) rfl hr.1 hr.2 fun hlt => ?_
      conv => whnf
      refine SlIn.app encA_len (by decide) A hlo (⟨S_xmlns, S_p, Shttp_58__47__47_www_46_w3_46__29_391792, [S_u, S_v][((wr .u64 (u.tdiv 2)).tmod 2).toNat]⟩ : Attr) ⟨?_, ?_⟩ fun vh' A' hf => ?_
      · have := hlen.len; omega
      · have := hlen.len; show _ < 9223372036854775808; omega
      conv => whnf
      have hf' : ∀ c, c < lo → vh' c = vh c := fun c hc => hf c (by omega) (by first | exact fun h => h | exact fun (h : c = b) => by omega)
      exact attrs_R4 u lo vh' _ _ _ A' (by omega) (hlen.app (cand_at rfl (.head _) (List.mem_map.2 ⟨_, List.getElem_mem _, rfl⟩))) Q fun v2 vh2 n2 x2 A2 l2 g2 f2 => hQ v2 vh2 n2 x2 A2 l2 (by omega) fun c hc => (f2 c hc).trans (hf' c hc)
    · conv => whnf
      exact attrs_R4 u lo vh _ _ _ A hlo (hlen.up (by decide)) Q hQ
theorem attrs_ok (hX : X F_law16_attrs = none) (u : Int) (vh : VH) (vn : Nat) :
    WpCall Tryz.prog X G F_law16_attrs [.int .u64 u] vh vn fun v vh' vn' => vn ≤ vn' ∧ (∀ c, c < vn → vh' c = vh c) ∧ ∃ xs, FewA 6 xs ∧ Attrs vn vh' vn' v xs := by
  apply k_law16_attrs.run hX
  conv => whnf
  refine attrs_R2 u vn vh vn _ [] .nil (Nat.le_refl _) ⟨by decide, nofun⟩ _ fun v1 vh1 n1 x1 A1 l1 g1 f1 => ?_
  rcases id A1 with ⟨rfl | rfl, rfl⟩ | ⟨b, hb1, hb2, rfl, hb4⟩
  all_goals
    conv => whnf
    refine Get.mk vh1 (fun _ _ h => h) ⟨g1, f1, _, l1, A1⟩
end Go.Proofs.YtpcbnpekdmobpaaGreatDoor
open Go Go.Ev Go.VL
namespace Go.Proofs.YtpcbnpekdmobpaaGreatDoor
attribute [local irreducible] fApp
variable {X : Ovr} {G : Gt}
abbrev XMLNSURI : List Nat := Shttp_58__47__47_www_46_w3_46__29_391792
abbrev XMLURI : List Nat := Shttp_58__47__47_www_46_w3_46__36_910846
def declares (a : Attr) : List Nat × Bool :=
  if a.u = XMLNSURI then (if a.p = S_xmlns then (a.l, true) else ([], decide (a.p = []) && decide (a.l = S_xmlns))) else ([], false)
theorem declares_ok (hX : X F_ref10_Declares = none) (a : Attr) (vh : VH) (vn : Nat) :
    WpCall Tryz.prog X G F_ref10_Declares [.agg (encA a)] vh vn fun v vh' vn' => vh' = vh ∧ vn' = vn ∧ v = .tup [.str (declares a).1, .bool (declares a).2] := by
  apply k_ref10_Declares.run hX
  conv => whnf
  refine CondP.mk (fun h1 => ?_) (fun h1 => ?_)
  · conv => whnf
    refine Get.mk vh (fun _ _ h => h) ⟨rfl, rfl, ?_⟩
    simp at h1
    simp [declares, h1]
  · simp at h1
    conv => whnf
    refine CondP.mk (fun h2 => ?_) (fun h2 => ?_)
    · conv => whnf
      refine Get.mk vh (fun _ _ h => h) ⟨rfl, rfl, ?_⟩
      simp at h2
      simp [declares, h1, h2]
    · simp at h2
      conv => whnf
      refine CondP.mk (fun h3 => ?_) (fun h3 => ?_)
      · conv => whnf
        refine Get.mk vh (fun _ _ h => h) ⟨rfl, rfl, ?_⟩
        simp at h3
        simp [declares, h1, h2, h3, show S_xmlns ≠ [] from nofun]
      · conv => whnf
        refine Get.mk vh (fun _ _ h => h) ⟨rfl, rfl, ?_⟩
        simp at h3
        simp [declares, h1, h2, h3]
def encL (l : List Attr) : List V := [.sl 4 (l.map encA) none]
def Sc (vh : VH) (b : Nat) (lv : List (List Attr)) : Prop := ∃ ty, vh b = some (.cells [.sl 1 (lv.map encL) none] ty 0 false)
theorem Pop_ok (hX : X F_ref10_Scope_Pop = none) (b : Nat) (lv : List (List Attr)) (vh : VH) (vn : Nat) (hs : Sc vh b lv) (hl : lv.length < 2 ^ 40) :
    WpCall Tryz.prog X G F_ref10_Scope_Pop [.ptr b 0] vh vn fun v vh' vn' => vn' = vn ∧ (∀ c, c ≠ b → vh' c = vh c) ∧ Sc vh' b lv.dropLast ∧ ∃ t, v = .bool t := by
  obtain ⟨ty, hs⟩ := hs
  apply k_ref10_Scope_Pop.run hX
  conv => whnf
  refine Get.mk (_, _, _, _) hs ?_
  conv => whnf
  refine Get.mk _ rfl ?_
  conv => whnf
  refine CondP.mk (fun h1 => ?_) (fun h1 => ?_)
  · simp at h1
    subst h1
    conv => whnf
    exact Get.mk vh (fun _ _ h => h) ⟨rfl, fun _ _ => rfl, ⟨ty, hs⟩, _, rfl⟩
  · simp at h1
    have hp : 0 < lv.length := by cases lv with | nil => exact (h1 rfl).elim | cons _ _ => simp
    conv => whnf
    refine Get.mk (_, _, _, _) hs ?_
    conv => whnf
    refine Get.mk _ rfl ?_
    conv => whnf
    refine Get.mk (_, _, _, _) hs ?_
    conv => whnf
    refine Get.mk _ rfl ?_
    conv => whnf
    refine Get.mk (lv.length - 1) ?_ ?_
    · simp only [Int.ofNat_eq_natCast, List.length_map]
      rw [wr64] <;> omega
    conv => whnf
    refine ⟨⟨Nat.zero_le _, by simp⟩, ?_⟩
    conv => whnf
    refine Get.mk (_, _, _, _) hs ?_
    conv => whnf
    refine ⟨⟨Nat.le_refl _, Nat.le_refl _⟩, ?_⟩
    conv => whnf
    refine Get.mk _ (fun _ _ h => h) ⟨rfl, fun c hc => vset_ne hc, ⟨ty, ?_⟩, _, rfl⟩
    refine vset_same.trans ?_
    rw [List.dropLast_eq_take, List.map_take]
    rfl
end Go.Proofs.YtpcbnpekdmobpaaGreatDoor
open Go Go.Ev Go.VL
namespace Go.Proofs.YtpcbnpekdmobpaaGreatDoor
attribute [local irreducible] fApp
variable {X : Ovr} {G : Gt}
def uriL (p : List Nat) : List Attr → Option (List Nat)
  | [] => none
  | a :: l => if (declares a).1 = p then some a.v else uriL p l
def uriS (p : List Nat) (lv : List (List Attr)) : Nat → Option (List Nat)
  | 0 => none
  | j + 1 => match uriL p (lv[j]?.getD []) with | some u => some u | none => uriS p lv j
def uriP (lv : List (List Attr)) (p : List Nat) : List Nat × Bool :=
  if p = S_xml then (XMLURI, true) else match uriS p lv lv.length with | some u => (u, true) | none => ([], decide (p = []))
theorem URI_L1 (hX : X F_ref10_Declares = none) (b : Nat) (lv : List (List Attr)) (p : List Nat) (vh : VH) (vn : Nat) (hs : Sc vh b lv) (i : Nat) (hi : i < lv.length) (hb : ∀ l ∈ lv, l.length < 2 ^ 40) (Q : FQ) : ∀ (m k : Nat), lv[i].length - k = m → k ≤ lv[i].length →
    (match uriL p (lv[i].drop k) with
      | none => ∀ k' t, Q (.exit 2) [(0, .ptr b 0), (1, .str p), (6, .int .i64 (i : Int)), (7, .int .i64 k'), (31, .bool t)] vh vn
      | some u => Q .ret [(4, .str u), (5, .bool true)] vh vn) →
    FLoop Tryz.prog X G (.loop c_ref10_Scope_URI_L1) [(0, .ptr b 0), (1, .str p), (6, .int .i64 (i : Int)), (7, .int .i64 (k : Int))] vh vn Q
  | m, k, hm, hk, hQ => by
    have hs' := hs
    obtain ⟨ty, hs⟩ := hs
    have hlen : lv[i].length < 2 ^ 40 := hb _ (List.getElem_mem hi)
    refine FLoop.round ?_
    conv => whnf
    refine Get.mk (_, _, _, _) hs ?_
    conv => whnf
    refine Get.mk _ rfl ?_
    conv => whnf
    refine Get.mk (i, encL lv[i]) ⟨rfl, by simp [hi]⟩ ?_
    conv => whnf
    refine CondP.mk (fun h1 => ?_) (fun h1 => ?_)
    · have hlt : k < lv[i].length := by simpa using h1
      have hd : lv[i].drop k = lv[i][k] :: lv[i].drop (k + 1) := (List.getElem_cons_drop hlt).symm
      conv => whnf
      refine Get.mk (_, _, _, _) hs ?_
      conv => whnf
      refine Get.mk _ rfl ?_
      conv => whnf
      refine Get.mk (i, encL lv[i]) ⟨rfl, by simp [hi]⟩ ?_
      conv => whnf
      refine Get.mk (k, encA lv[i][k]) ⟨rfl, by simp [hlt]⟩ ?_
      conv => whnf
      refine (declares_ok hX lv[i][k] vh vn).mono fun v vh' vn' ⟨e1, e2, e3⟩ => ?_
      subst e1; subst e2; subst e3
      conv => whnf
      refine CondP.mk (fun h2 => ?_) (fun h2 => ?_)
      · have h2' : (declares lv[i][k]).1 = p := by simpa using h2
        simp only [hd, uriL, h2', if_true] at hQ
        conv => whnf
        refine Get.mk (_, _, _, _) hs ?_
        conv => whnf
        refine Get.mk _ rfl ?_
        conv => whnf
        refine Get.mk (i, encL lv[i]) ⟨rfl, by simp [hi]⟩ ?_
        conv => whnf
        refine Get.mk (k, encA lv[i][k]) ⟨rfl, by simp [hlt]⟩ ?_
        conv => whnf
        exact hQ
      · have h2' : ¬ (declares lv[i][k]).1 = p := by simpa using h2
        simp only [hd, uriL, h2', if_false] at hQ
        have e : wr .i64 ((k : Int) + 1) = ((k + 1 : Nat) : Int) := by rw [wr64] <;> omega
        conv => whnf
        rw [e]
        exact URI_L1 hX b lv p _ _ hs' i hi hb Q (m - 1) (k + 1) (by omega) (by omega) hQ
    · have hlt : k = lv[i].length := by simp at h1; omega
      rw [hlt, List.drop_length] at hQ
      conv => whnf
      exact hQ _ _
termination_by m => m
decreasing_by omega
theorem URI_L0 (hX : X F_ref10_Declares = none) (b : Nat) (lv : List (List Attr)) (p : List Nat) (vh : VH) (vn : Nat) (hs : Sc vh b lv) (hb : ∀ l ∈ lv, l.length < 2 ^ 40) (hlv : lv.length < 2 ^ 40) (Q : FQ) : ∀ (j : Nat), j ≤ lv.length →
    (match uriS p lv j with
      | none => ∀ i' t, Q (.exit 0) [(0, .ptr b 0), (1, .str p), (6, .int .i64 i'), (19, .bool t)] vh vn
      | some u => Q .ret [(4, .str u), (5, .bool true)] vh vn) →
    FLoop Tryz.prog X G (.loop c_ref10_Scope_URI_L0) [(0, .ptr b 0), (1, .str p), (6, .int .i64 ((j : Int) - 1))] vh vn Q
  | 0, hj, hQ => by
    refine FLoop.round ?_
    conv => whnf
    simp only [uriS] at hQ
    exact hQ _ _
  | j + 1, hj, hQ => by
    have hi : j < lv.length := by omega
    have e0 : ((j + 1 : Nat) : Int) - 1 = (j : Int) := by omega
    rw [e0]
    refine FLoop.round ?_
    conv => whnf
    refine URI_L1 hX b lv p vh vn hs j hi hb _ _ 0 rfl (Nat.zero_le _) ?_
    simp only [List.drop_zero]
    simp only [uriS, List.getElem?_eq_getElem hi, Option.getD_some] at hQ
    cases hu : uriL p lv[j] with
    | none =>
      rw [hu] at hQ
      intro k' t
      have e : wr .i64 ((j : Int) - 1) = ((j : Int) - 1) := by rw [wr64] <;> omega
      conv => whnf
      rw [e]
      exact URI_L0 hX b lv p vh vn hs hb hlv Q j (by omega) hQ
    | some u =>
      rw [hu] at hQ
      exact hQ
theorem URI_ok (hX : X F_ref10_Declares = none) (hX' : X F_ref10_Scope_URI = none) (b : Nat) (lv : List (List Attr)) (p : List Nat) (vh : VH) (vn : Nat) (hs : Sc vh b lv) (hb : ∀ l ∈ lv, l.length < 2 ^ 40) (hlv : lv.length < 2 ^ 40) :
    WpCall Tryz.prog X G F_ref10_Scope_URI [.ptr b 0, .str p] vh vn fun v vh' vn' => vh' = vh ∧ vn' = vn ∧ v = .tup [.str (uriP lv p).1, .bool (uriP lv p).2] := by
  have hs' := hs
  obtain ⟨ty, hs⟩ := hs
  apply k_ref10_Scope_URI.run hX'
  conv => whnf
  refine CondP.mk (fun h1 => ?_) (fun h1 => ?_)
  · simp at h1
    conv => whnf
    refine Get.mk vh (fun _ _ h => h) ⟨rfl, rfl, ?_⟩
    simp [uriP, h1]
  · simp at h1
    conv => whnf
    refine Get.mk (_, _, _, _) hs ?_
    conv => whnf
    refine Get.mk _ rfl ?_
    conv => whnf
    have e : wr .i64 (Int.ofNat (lv.map encL).length - 1) = ((lv.length : Int) - 1) := by
      simp only [Int.ofNat_eq_natCast, List.length_map]
      rw [wr64] <;> omega
    rw [e]
    refine URI_L0 hX b lv p vh vn hs' hb hlv _ lv.length (Nat.le_refl _) ?_
    cases hu : uriS p lv lv.length with
    | none =>
      intro i' t
      conv => whnf
      refine Get.mk vh (fun _ _ h => h) ⟨rfl, rfl, ?_⟩
      simp [uriP, h1, hu]
    | some u =>
      conv => whnf
      refine Get.mk vh (fun _ _ h => h) ⟨rfl, rfl, ?_⟩
      simp [uriP, h1, hu]
end Go.Proofs.YtpcbnpekdmobpaaGreatDoor
open Go Go.Ev Go.VL
namespace Go.Proofs.YtpcbnpekdmobpaaGreatDoor
attribute [local irreducible] fApp
variable {X : Ovr} {G : Gt}
def sameName (a b : Attr) : Bool := decide (a.p = b.p) && decide (a.l = b.l)
def badDecl (a : Attr) : Bool :=
  let p := (declares a).1
  let df := decide (a.p = [])
  (((decide (p = S_xmlns) && !df || decide (p = S_xml) && !df && !decide (a.v = XMLURI)) || (!decide (p = S_xml) || df) && decide (a.v = XMLURI)) || decide (a.v = XMLNSURI)) || !df && decide (a.v = [])
def pushP : List Attr → List Attr → Option (List Attr)
  | m, [] => some m
  | m, a :: l => if (declares a).2 = true then (if badDecl a = true then none else if m.any (fun b => sameName b a) = true then none else pushP (m ++ [a]) l) else pushP m l
theorem encA_0 {xs : List Attr} {i : Nat} (h : i < xs.length) : (xs.map encA).flatten[0 + i * 4 + 0]? = some (.str xs[i].p) := by rw [Nat.zero_add]; exact flat_get encA_len xs i 0 h (by decide)
theorem encA_1 {xs : List Attr} {i : Nat} (h : i < xs.length) : (xs.map encA).flatten[0 + i * 4 + 1]? = some (.str xs[i].l) := by rw [Nat.zero_add]; exact flat_get encA_len xs i 1 h (by decide)
theorem encA_2 {xs : List Attr} {i : Nat} (h : i < xs.length) : (xs.map encA).flatten[0 + i * 4 + 2]? = some (.str xs[i].u) := by rw [Nat.zero_add]; exact flat_get encA_len xs i 2 h (by decide)
theorem encA_3 {xs : List Attr} {i : Nat} (h : i < xs.length) : (xs.map encA).flatten[0 + i * 4 + 3]? = some (.str xs[i].v) := by rw [Nat.zero_add]; exact flat_get encA_len xs i 3 h (by decide)
theorem encA_all {xs : List Attr} {i : Nat} (h : i < xs.length) : ((xs.map encA).flatten.drop (0 + i * 4)).take 4 = encA xs[i] ∧ 0 + i * 4 + 4 ≤ (xs.map encA).flatten.length := by
  rw [Nat.zero_add]
  exact ⟨flat_take encA_len xs i h, flat_lt encA_len xs i h⟩
theorem Push_L1 (b : Nat) (mv : V) (bv : Nat) (tv : TypeId) (xs : List Attr) (vh : VH) (vn : Nat) (hvb : vh bv = some (.cells (xs.map encA).flatten tv 0 false)) (ms : List Attr) (lo : Nat) (A : Attrs lo vh vn mv ms) (hms : ms.length < 2 ^ 40) (i : Nat) (hi : i < xs.length) (Q : FQ) : ∀ (m k : Nat), ms.length - k = m → k ≤ ms.length →
    ((ms.drop k).any (fun b => sameName b xs[i]) = true → Q .ret [(4, .int .i64 2)] vh vn) →
    ((ms.drop k).any (fun b => sameName b xs[i]) = false → ∀ k' t, Q (.exit 2) [(0, .ptr b 0), (1, .msl bv 0 xs.length 4 none), (5, mv), (6, .int .i64 (i : Int)), (11, .int .i64 k'), (83, .bool t)] vh vn) →
    FLoop Tryz.prog X G (.loop c_ref10_Scope_Push_L1) [(0, .ptr b 0), (1, .msl bv 0 xs.length 4 none), (5, mv), (6, .int .i64 (i : Int)), (11, .int .i64 (k : Int))] vh vn Q
  | m, k, hm, hk, hR, hQ => by
    refine FLoop.round ?_
    rcases id A with ⟨rfl | rfl, rfl⟩ | ⟨bm, hb1, hb2, rfl, hb4⟩
    · conv => whnf
      exact hQ (by simp) _ _
    · conv => whnf
      exact hQ (by simp) _ _
    · conv => whnf
      refine CondP.mk (fun h1 => ?_) (fun h1 => ?_)
      · have hlt : k < ms.length := by simpa using h1
        have hd : ms.drop k = ms[k] :: ms.drop (k + 1) := (List.getElem_cons_drop hlt).symm
        rw [hd, List.any_cons] at hR hQ
        have e : wr .i64 ((k : Int) + 1) = ((k + 1 : Nat) : Int) := by rw [wr64] <;> omega
        conv => whnf
        refine Get.mk _ ⟨rfl, hlt⟩ ?_
        conv => whnf
        refine Get.mk (_, _, _, _) hb4 ?_
        conv => whnf
        refine Get.mk _ (encA_0 hlt) ?_
        conv => whnf
        refine Get.mk _ ⟨rfl, hi⟩ ?_
        conv => whnf
        refine Get.mk (_, _, _, _) hvb ?_
        conv => whnf
        refine Get.mk _ (encA_0 hi) ?_
        conv => whnf
        refine CondP.mk (fun h2 => ?_) (fun h2 => ?_)
        · simp at h2
          conv => whnf
          refine Get.mk _ ⟨rfl, hlt⟩ ?_
          conv => whnf
          refine Get.mk (_, _, _, _) hb4 ?_
          conv => whnf
          refine Get.mk _ (encA_1 hlt) ?_
          conv => whnf
          refine Get.mk _ ⟨rfl, hi⟩ ?_
          conv => whnf
          refine Get.mk (_, _, _, _) hvb ?_
          conv => whnf
          refine Get.mk _ (encA_1 hi) ?_
          conv => whnf
          refine CondP.mk (fun h3 => ?_) (fun h3 => ?_)
          · simp at h3
            have hs : sameName ms[k] xs[i] = true := by simp [sameName, h2, h3]
            conv => whnf
            exact hR (by rw [hs]; rfl)
          · simp at h3
            have hs : sameName ms[k] xs[i] = false := by simp [sameName, h3]
            rw [hs, Bool.false_or] at hR hQ
            conv => whnf
            rw [e]
            exact Push_L1 b _ bv tv xs vh vn hvb ms lo A hms i hi Q (m - 1) (k + 1) (by omega) (by omega) hR hQ
        · simp at h2
          have hs : sameName ms[k] xs[i] = false := by simp [sameName, h2]
          rw [hs, Bool.false_or] at hR hQ
          conv => whnf
          rw [e]
          exact Push_L1 b _ bv tv xs vh vn hvb ms lo A hms i hi Q (m - 1) (k + 1) (by omega) (by omega) hR hQ
      · have hlt : k = ms.length := by simp at h1; omega
        rw [hlt, List.drop_length] at hQ
        conv => whnf
        exact hQ rfl _ _
termination_by m => m
decreasing_by all_goals omega
theorem Push_R11 (b : Nat) (mv : V) (bv : Nat) (tv : TypeId) (xs : List Attr) (vh : VH) (vn : Nat) (hvb : vh bv = some (.cells (xs.map encA).flatten tv 0 false)) (ms : List Attr) (lo : Nat) (A : Attrs lo vh vn mv ms) (hlo : lo ≤ vn) (hms : ms.length < 2 ^ 30) (i : Nat) (hi : i < xs.length) (Q : FQ)
    (hR : ms.any (fun b => sameName b xs[i]) = true → Q .ret [(4, .int .i64 2)] vh vn)
    (hN : ms.any (fun b => sameName b xs[i]) = false → ∀ vh', Attrs lo vh' (vn + 1) (.msl vn 0 (ms.length + 1) 4 none) (ms ++ [xs[i]]) → (∀ c, c < lo → vh' c = vh c) → Q .norm [(0, .ptr b 0), (1, .msl bv 0 xs.length 4 none), (5, .msl vn 0 (ms.length + 1) 4 none), (6, .int .i64 (i : Int))] vh' (vn + 1)) :
    FLoop Tryz.prog X G (.cut c_ref10_Scope_Push_R11) [(0, .ptr b 0), (1, .msl bv 0 xs.length 4 none), (5, mv), (6, .int .i64 (i : Int))] vh vn Q := by
  refine FLoop.cut ?_
  rcases id A with ⟨rfl | rfl, rfl⟩ | ⟨bm, hb1, hb2, rfl, hb4⟩
  all_goals
    conv => whnf
    refine Push_L1 b _ bv tv xs vh vn hvb _ lo A (by omega) i hi _ _ 0 rfl (Nat.zero_le _) (fun h => ?_) (fun h k' t => ?_)
    · rw [List.drop_zero] at h; exact hR h
    · rw [List.drop_zero] at h
      conv => whnf
      refine Get.mk i ⟨rfl, hi⟩ ?_
      conv => whnf
      refine Get.mk (_, _, _, _) hvb ?_
      conv => whnf
      refine Get.mk _ (encA_all hi) ?_
      conv => whnf
      refine SlIn.app encA_len (by decide) A hlo xs[i] ⟨?_, ?_⟩ fun vh' A' hf => ?_
      · omega
      · show _ < 9223372036854775808; omega
      conv => whnf
      exact hN h _ A' fun c hc => hf c (by omega) (by first | exact fun h => h | exact fun (h : c = bm) => by omega)
end Go.Proofs.YtpcbnpekdmobpaaGreatDoor
open Go Go.Ev Go.VL
namespace Go.Proofs.YtpcbnpekdmobpaaGreatDoor
attribute [local irreducible] fApp
variable {X : Ovr} {G : Gt}
set_option maxHeartbeats 4000000 in
theorem Push_L0 (hX : X F_ref10_Declares = none) (b : Nat) (bv : Nat) (tv : TypeId) (xs : List Attr) (hxs : xs.length < 2 ^ 30) (lo : Nat) (hbv : bv < lo) (Q : FQ) : ∀ (m i : Nat), xs.length - i = m → i ≤ xs.length → ∀ (vh : VH) (vn : Nat) (mv : V) (ms : List Attr), vh bv = some (.cells (xs.map encA).flatten tv 0 false) → lo ≤ vn → Attrs lo vh vn mv ms → ms.length ≤ i →
    (pushP ms (xs.drop i) = none → ∀ vh' vn', vn ≤ vn' → (∀ c, c < lo → vh' c = vh c) → Q .ret [(4, .int .i64 2)] vh' vn') →
    (∀ ms', pushP ms (xs.drop i) = some ms' → ∀ mv' vh' vn' i' t, ms'.length ≤ xs.length → Attrs lo vh' vn' mv' ms' → vn ≤ vn' → (∀ c, c < lo → vh' c = vh c) → Q (.exit 0) [(0, .ptr b 0), (1, .msl bv 0 xs.length 4 none), (5, mv'), (6, .int .i64 i'), (15, .bool t)] vh' vn') →
    FLoop Tryz.prog X G (.loop c_ref10_Scope_Push_L0) [(0, .ptr b 0), (1, .msl bv 0 xs.length 4 none), (5, mv), (6, .int .i64 (i : Int))] vh vn Q
  | m, i, hm, hi, vh, vn, mv, ms, hvb, hlo, A, hms, hR, hQ => by
    refine FLoop.round ?_
    rcases id A with ⟨rfl | rfl, rfl⟩ | ⟨bm, hb1, hb2, rfl, hb4⟩
    all_goals
      conv => whnf
      refine CondP.mk (fun h1 => ?_) (fun h1 => ?_)
      · have hlt : i < xs.length := by simpa using h1
        have hd : xs.drop i = xs[i] :: xs.drop (i + 1) := (List.getElem_cons_drop hlt).symm
        rw [hd] at hR hQ
        simp only [pushP] at hR hQ
        have e : wr .i64 ((i : Int) + 1) = ((i + 1 : Nat) : Int) := by rw [wr64] <;> omega
        conv => whnf
        refine Get.mk i ⟨rfl, hlt⟩ ?_
        conv => whnf
        refine Get.mk (_, _, _, _) hvb ?_
        conv => whnf
        refine Get.mk _ (encA_all hlt) ?_
        conv => whnf
        refine (declares_ok hX xs[i] vh vn).mono fun v vh' vn' he => ?_
        obtain ⟨e1, e2, e3⟩ := he
        subst e1; subst e2; subst e3
        conv => whnf
        refine CondP.mk (fun h2 => ?_) (fun h2 => ?_)
        · have h2' : (declares xs[i]).2 = false := by simpa using h2
          simp only [h2', Bool.false_eq_true, if_false] at hR hQ
          conv => whnf
          rw [e]
          exact Push_L0 hX b bv tv xs hxs lo hbv Q (m - 1) (i + 1) (by omega) (by omega) _ _ _ _ hvb hlo A (by omega) hR hQ
        · have h2' : (declares xs[i]).2 = true := by simpa using h2
          simp only [h2', if_true] at hR hQ
          have hBad : badDecl xs[i] = true → Q .ret [(4, .int .i64 2)] vh' vn' := fun h => hR (by rw [if_pos h]) _ _ (Nat.le_refl _) fun _ _ => rfl
          conv => whnf
          refine Get.mk _ ⟨rfl, hlt⟩ ?_
          conv => whnf
          refine Get.mk (_, _, _, _) hvb ?_
          conv => whnf
          refine Get.mk _ (encA_3 hlt) ?_
          conv => whnf
          refine Get.mk _ ⟨rfl, hlt⟩ ?_
          conv => whnf
          refine Get.mk (_, _, _, _) hvb ?_
          conv => whnf
          refine Get.mk _ (encA_0 hlt) ?_
          conv => whnf
          repeat' ((first | refine CondP.mk (fun _ => ?_) (fun _ => ?_)); conv => whnf)
          all_goals first
            | exact hBad (by clear hBad hR hQ A hvb hd h1 hm; simp_all [badDecl])
            | skip
          all_goals
            have hnb : badDecl xs[i] = false := by clear hBad hR hQ A hvb hd h1 hm; simp_all [badDecl]
            refine Push_R11 b _ bv tv xs vh' vn' hvb _ lo A hlo (by omega) i hlt _ (fun h => ?_) (fun h vh2 A2 f2 => ?_)
            · exact hR (by rw [hnb, h]; rfl) _ _ (Nat.le_refl _) fun _ _ => rfl
            · conv => whnf
              rw [e]
              refine Push_L0 hX b bv tv xs hxs lo hbv Q (m - 1) (i + 1) (by omega) (by omega) _ _ _ _ ((f2 bv hbv).trans hvb) (by omega) A2 (by rw [List.length_append, List.length_singleton]; omega) (fun hp vh3 vn3 g3 f3 => ?_) (fun ms' hp mv3 vh3 vn3 i3 t3 l3 A3 g3 f3 => ?_)
              · exact hR (by rw [hnb, h]; exact hp) _ _ (by omega) fun c hc => (f3 c hc).trans (f2 c hc)
              · exact hQ ms' (by rw [hnb, h]; exact hp) _ _ _ _ _ l3 A3 (by omega) fun c hc => (f3 c hc).trans (f2 c hc)
      · have hlt : i = xs.length := by simp at h1; omega
        rw [hlt, List.drop_length] at hQ
        conv => whnf
        exact hQ _ rfl _ _ _ _ _ (by omega) A (Nat.le_refl _) fun _ _ => rfl
termination_by m => m
decreasing_by all_goals omega
end Go.Proofs.YtpcbnpekdmobpaaGreatDoor
open Go Go.Ev Go.VL
namespace Go.Proofs.YtpcbnpekdmobpaaGreatDoor
attribute [local irreducible] fApp
variable {X : Ovr} {G : Gt}
theorem encL_len (l : List Attr) : (encL l).length = 1 := rfl
theorem Push_R17 (b : Nat) (lv : List (List Attr)) (vh : VH) (vn : Nat) (hs : Sc vh b lv) (hlv : lv.length < 2 ^ 30) (lo : Nat) (hb : b < lo) (hlo : lo ≤ vn) (mv : V) (ms : List Attr) (A : Attrs lo vh vn mv ms) (v : V) (tl : VEnv) (Q : FQ)
    (hQ : ∀ vh' vn', vn ≤ vn' → Sc vh' b (lv ++ [ms]) → (∀ c, c < lo → c ≠ b → vh' c = vh c) → Q .ret [(4, .int .i64 0)] vh' vn') :
    FLoop Tryz.prog X G (.cut c_ref10_Scope_Push_R17) ((0, .ptr b 0) :: (1, v) :: (5, mv) :: tl) vh vn Q := by
  obtain ⟨ty, hs⟩ := hs
  refine FLoop.cut ?_
  rcases id A with ⟨rfl | rfl, rfl⟩ | ⟨bm, hb1, hb2, rfl, hb4⟩
  · conv => whnf
    refine Get.mk (_, _, _, _) hs ?_
    conv => whnf
    refine Get.mk _ rfl ?_
    conv => whnf
    refine SlIn.fresh (enc := encL) (xs := lv) (lo := lo) rfl hlo ⟨?_, ?_⟩ fun v1 vh1 n1 A1 g1 f1 => ?_
    · omega
    · show _ < 9223372036854775808; omega
    have hs1 : vh1 b = some (.cells [.sl 1 (lv.map encL) none] ty 0 false) := (f1 b (by omega)).trans hs
    rcases id A1 with ⟨rfl | rfl, rfl⟩ | ⟨bl, hl1, hl2, rfl, hl4⟩
    all_goals
      conv => whnf
      refine SlIn.app' encL_len (by decide) A1 (by omega) ([] : List Attr) ⟨?_, ?_⟩ fun vh2 hz f2 => ?_
      · omega
      · show _ < 9223372036854775808; omega
      conv => whnf
      refine Get.mk (_, _, _, _) hz ?_
      conv => whnf
      refine ⟨fz_owe encL_len (by decide), ?_⟩
      conv => whnf
      refine Get.mk _ (fz_pieces encL_len) ?_
      conv => whnf
      have f2' : ∀ c, c < lo → vh2 c = vh1 c := fun c hc => f2 c (by omega) (by first | exact fun h => h | exact fun (h : c = bl) => by omega)
      have hs3 : vdel vh2 n1 b = some (.cells [.sl 1 (_ : List (List V)) none] ty 0 false) := (vdel_ne (by omega)).trans ((f2' b hb).trans hs1)
      refine Get.mk (_, _, _, _) hs3 ?_
      conv => whnf
      refine ⟨⟨Nat.le_refl _, Nat.le_refl _⟩, ?_⟩
      conv => whnf
      exact hQ _ _ (by omega) ⟨ty, vset_same⟩ fun c hc hcb => (vset_ne hcb).trans ((vdel_ne (by omega)).trans ((f2' c hc).trans ((f1 c (by omega)).trans rfl)))
  · conv => whnf
    refine Get.mk (_, _, _, _) hs ?_
    conv => whnf
    refine Get.mk _ rfl ?_
    conv => whnf
    refine SlIn.fresh (enc := encL) (xs := lv) (lo := lo) rfl hlo ⟨?_, ?_⟩ fun v1 vh1 n1 A1 g1 f1 => ?_
    · omega
    · show _ < 9223372036854775808; omega
    have hs1 : vh1 b = some (.cells [.sl 1 (lv.map encL) none] ty 0 false) := (f1 b (by omega)).trans hs
    rcases id A1 with ⟨rfl | rfl, rfl⟩ | ⟨bl, hl1, hl2, rfl, hl4⟩
    all_goals
      conv => whnf
      refine SlIn.app' encL_len (by decide) A1 (by omega) ([] : List Attr) ⟨?_, ?_⟩ fun vh2 hz f2 => ?_
      · omega
      · show _ < 9223372036854775808; omega
      conv => whnf
      refine Get.mk (_, _, _, _) hz ?_
      conv => whnf
      refine ⟨fz_owe encL_len (by decide), ?_⟩
      conv => whnf
      refine Get.mk _ (fz_pieces encL_len) ?_
      conv => whnf
      have f2' : ∀ c, c < lo → vh2 c = vh1 c := fun c hc => f2 c (by omega) (by first | exact fun h => h | exact fun (h : c = bl) => by omega)
      have hs3 : vdel vh2 n1 b = some (.cells [.sl 1 (_ : List (List V)) none] ty 0 false) := (vdel_ne (by omega)).trans ((f2' b hb).trans hs1)
      refine Get.mk (_, _, _, _) hs3 ?_
      conv => whnf
      refine ⟨⟨Nat.le_refl _, Nat.le_refl _⟩, ?_⟩
      conv => whnf
      exact hQ _ _ (by omega) ⟨ty, vset_same⟩ fun c hc hcb => (vset_ne hcb).trans ((vdel_ne (by omega)).trans ((f2' c hc).trans ((f1 c (by omega)).trans rfl)))
  · conv => whnf
    refine Get.mk (_, _, _, _) hb4 ?_
    conv => whnf
    refine ⟨fz_owe encA_len (by decide), ?_⟩
    conv => whnf
    refine Get.mk _ (fz_pieces encA_len) ?_
    conv => whnf
    have hs2 : vdel vh bm b = some (.cells [.sl 1 (lv.map encL) none] ty 0 false) := (vdel_ne (by omega)).trans hs
    refine Get.mk (_, _, _, _) hs2 ?_
    conv => whnf
    refine Get.mk _ rfl ?_
    conv => whnf
    refine SlIn.fresh (enc := encL) (xs := lv) (lo := lo) rfl hlo ⟨?_, ?_⟩ fun v1 vh1 n1 A1 g1 f1 => ?_
    · omega
    · show _ < 9223372036854775808; omega
    have hs1 : vh1 b = some (.cells [.sl 1 (lv.map encL) none] ty 0 false) := (f1 b (by omega)).trans hs2
    rcases id A1 with ⟨rfl | rfl, rfl⟩ | ⟨bl, hl1, hl2, rfl, hl4⟩
    all_goals
      conv => whnf
      refine SlIn.app' encL_len (by decide) A1 (by omega) (ms : List Attr) ⟨?_, ?_⟩ fun vh2 hz f2 => ?_
      · omega
      · show _ < 9223372036854775808; omega
      conv => whnf
      refine Get.mk (_, _, _, _) hz ?_
      conv => whnf
      refine ⟨fz_owe encL_len (by decide), ?_⟩
      conv => whnf
      refine Get.mk _ (fz_pieces encL_len) ?_
      conv => whnf
      have f2' : ∀ c, c < lo → vh2 c = vh1 c := fun c hc => f2 c (by omega) (by first | exact fun h => h | exact fun (h : c = bl) => by omega)
      have hs3 : vdel vh2 n1 b = some (.cells [.sl 1 (_ : List (List V)) none] ty 0 false) := (vdel_ne (by omega)).trans ((f2' b hb).trans hs1)
      refine Get.mk (_, _, _, _) hs3 ?_
      conv => whnf
      refine ⟨⟨Nat.le_refl _, Nat.le_refl _⟩, ?_⟩
      conv => whnf
      exact hQ _ _ (by omega) ⟨ty, vset_same⟩ fun c hc hcb => (vset_ne hcb).trans ((vdel_ne (by omega)).trans ((f2' c hc).trans ((f1 c (by omega)).trans (vdel_ne (by omega)))))
theorem Push_ok (hX : X F_ref10_Declares = none) (hX' : X F_ref10_Scope_Push = none) (b : Nat) (lv : List (List Attr)) (v : V) (xs : List Attr) (vh : VH) (vn : Nat) (hs : Sc vh b lv) (hb : b < vn) (hlv : lv.length < 2 ^ 30) (hv : SlR encA 4 vh v xs) (hvb : ∀ c, blkOf v c → c < vn) (hxs : xs.length < 2 ^ 30) :
    WpCall Tryz.prog X G F_ref10_Scope_Push [.ptr b 0, v] vh vn fun r vh' vn' => vn ≤ vn' ∧ (∀ c, c < vn → c ≠ b → vh' c = vh c) ∧
      match pushP [] xs with
      | none => r = .int .i64 2 ∧ Sc vh' b lv
      | some ms => r = .int .i64 0 ∧ Sc vh' b (lv ++ [ms]) := by
  apply k_ref10_Scope_Push.run hX'
  rcases id hv with ⟨rfl, rfl⟩ | ⟨rfl, rfl⟩ | ⟨bv, tv, rfl, hv4⟩
  · conv => whnf
    refine FLoop.round ?_
    conv => whnf
    refine Push_R17 b lv vh vn hs hlv vn hb (Nat.le_refl _) _ [] .nil _ _ _ fun vh' vn' g1 g2 g3 => ?_
    conv => whnf
    exact Get.mk vh' (fun _ _ h => h) ⟨g1, g3, rfl, g2⟩
  · conv => whnf
    refine FLoop.round ?_
    conv => whnf
    refine Push_R17 b lv vh vn hs hlv vn hb (Nat.le_refl _) _ [] .nil _ _ _ fun vh' vn' g1 g2 g3 => ?_
    conv => whnf
    exact Get.mk vh' (fun _ _ h => h) ⟨g1, g3, rfl, g2⟩
  · have hbv : bv < vn := hvb bv rfl
    conv => whnf
    refine Push_L0 hX b bv tv xs hxs vn hbv _ xs.length 0 (by omega) (Nat.zero_le _) vh vn _ [] hv4 (Nat.le_refl _) .nil (Nat.le_refl _) (fun hp vh' vn' g1 f1 => ?_) fun ms hp mv' vh' vn' i' t l1 A1 g1 f1 => ?_
    · rw [List.drop_zero] at hp
      conv => whnf
      refine Get.mk vh' (fun _ _ h => h) ⟨g1, fun c hc _ => f1 c hc, ?_⟩
      obtain ⟨ty, hs⟩ := hs
      simp only [hp]
      exact ⟨trivial, ty, (f1 b hb).trans hs⟩
    · rw [List.drop_zero] at hp
      have hs1 : Sc vh' b lv := by obtain ⟨ty, hs⟩ := hs; exact ⟨ty, (f1 b hb).trans hs⟩
      rcases id A1 with ⟨rfl | rfl, rfl⟩ | ⟨bl, hl1, hl2, rfl, hl4⟩
      all_goals
        conv => whnf
        refine Push_R17 b lv vh' vn' hs1 hlv vn hb g1 _ _ A1 _ _ _ fun vh2 vn2 g2 s2 f2 => ?_
        conv => whnf
        refine Get.mk vh2 (fun _ _ h => h) ⟨Nat.le_trans g1 g2, fun c hc hcb => (f2 c hc hcb).trans (f1 c hc), ?_⟩
        simp only [hp]
        exact ⟨trivial, s2⟩
end Go.Proofs.YtpcbnpekdmobpaaGreatDoor
open Go Go.Ev Go.VL
namespace Go.Proofs.YtpcbnpekdmobpaaGreatDoor
attribute [local irreducible] fApp
variable {X : Ovr} {G : Gt}
def encNv (n : Nd) (av : V) : List V := [.int .i64 n.k, .int .i64 n.d, .str n.p, .str n.l, .str n.u, .str n.v, av]
def nsA (lv : List (List Attr)) (a : Attr) : Attr × Bool :=
  if a.u = XMLNSURI then (a, true) else if a.p = [] then ({ a with u := [] }, true) else ({ a with u := (uriP lv a.p).1 }, (uriP lv a.p).2)
def nsL (lv : List (List Attr)) : List Attr → List Attr × Bool
  | [] => ([], true)
  | a :: l => if (nsA lv a).2 = true then ((nsA lv a).1 :: (nsL lv l).1, (nsL lv l).2) else ((nsA lv a).1 :: l, false)
theorem flat_set (xs : List Attr) (i : Nat) (h : i < xs.length) (w : List Nat) : setSeg (xs.map encA).flatten (0 + i * 4 + 2) [.str w] = ((xs.set i { xs[i] with u := w }).map encA).flatten := by
  rw [Nat.zero_add]
  induction xs generalizing i with
  | nil => simp at h
  | cons a xs ih =>
    cases i with
    | zero => simp [encA, setSeg, app_eq, drp_eq, len_eq]
    | succ i =>
      have := ih i (by simpa using h)
      rw [show (i + 1) * 4 + 2 = (i * 4 + 2) + 1 + 1 + 1 + 1 by omega]
      simp only [List.map_cons, List.flatten_cons, encA, List.cons_append, List.nil_append, setSeg, this, List.set_cons_succ, List.getElem_cons_succ]
theorem take_at (xs : List Attr) (i : Nat) (h : i < xs.length) (r : List Attr) : xs.take (i + 1) ++ r = xs.take i ++ (xs[i] :: r) := by
  induction xs generalizing i with
  | nil => simp at h
  | cons a xs ih => cases i with
    | zero => simp
    | succ i => have := ih i (by simpa using h); simp only [List.take_succ_cons, List.cons_append, List.getElem_cons_succ, this]
theorem take_set (xs : List Attr) (i : Nat) (h : i < xs.length) (a : Attr) (r : List Attr) : (xs.set i a).take (i + 1) ++ r = xs.take i ++ (a :: r) := by
  induction xs generalizing i with
  | nil => simp at h
  | cons b xs ih => cases i with
    | zero => simp
    | succ i => have := ih i (by simpa using h); simp only [List.set_cons_succ, List.take_succ_cons, List.cons_append, this]
theorem drop_set (xs : List Attr) (i : Nat) (a : Attr) : (xs.set i a).drop (i + 1) = xs.drop (i + 1) := by
  rw [List.drop_set_of_lt]; omega
theorem Names_L0 (hX : X F_ref10_Declares = none) (hX' : X F_ref10_Scope_URI = none) (bs bn ba : Nat) (lv : List (List Attr)) (hb : ∀ l ∈ lv, l.length < 2 ^ 40) (hlv : lv.length < 2 ^ 40) (n : Nd) (N : Nat) (hN : N < 2 ^ 30) (vn : Nat) (d1 : bs ≠ bn) (d2 : ba ≠ bs) (d3 : ba ≠ bn) (ty ta : TypeId) (Q : FQ) : ∀ (m i : Nat), N - i = m → i ≤ N → ∀ (vh : VH) (xs : List Attr), xs.length = N → Sc vh bs lv → vh bn = some (.cells (encNv n (.msl ba 0 N 4 none)) ty 0 false) → vh ba = some (.cells (xs.map encA).flatten ta 0 false) →
    ((nsL lv (xs.drop i)).2 = false → ∀ vh', vh' ba = some (.cells ((xs.take i ++ (nsL lv (xs.drop i)).1).map encA).flatten ta 0 false) → (∀ c, c ≠ ba → vh' c = vh c) → Q .ret [(4, .bool false)] vh' vn) →
    ((nsL lv (xs.drop i)).2 = true → ∀ vh' i' t, vh' ba = some (.cells ((xs.take i ++ (nsL lv (xs.drop i)).1).map encA).flatten ta 0 false) → (∀ c, c ≠ ba → vh' c = vh c) → Q (.exit 0) [(0, .ptr bs 0), (1, .ptr bn 0), (6, .int .i64 i'), (36, .bool t)] vh' vn) →
    FLoop Tryz.prog X G (.loop c_ref15_Names_L0) [(0, .ptr bs 0), (1, .ptr bn 0), (6, .int .i64 (i : Int))] vh vn Q
  | m, i, hm, hi, vh, xs, hxs, hs, hn, ha, hR, hQ => by
    refine FLoop.round ?_
    conv => whnf
    refine Get.mk (_, _, _, _) hn ?_
    conv => whnf
    refine Get.mk _ rfl ?_
    conv => whnf
    refine CondP.mk (fun h1 => ?_) (fun h1 => ?_)
    · have hlt : i < xs.length := by have : i < N := by simpa using h1
                                     omega
      have hiN : i < N := by omega
      have hd : xs.drop i = xs[i] :: xs.drop (i + 1) := (List.getElem_cons_drop hlt).symm
      rw [hd] at hR hQ
      simp only [nsL] at hR hQ
      have e : wr .i64 ((i : Int) + 1) = ((i + 1 : Nat) : Int) := by rw [wr64] <;> omega
      conv => whnf
      refine Get.mk (_, _, _, _) hn ?_
      conv => whnf
      refine Get.mk _ rfl ?_
      conv => whnf
      refine Get.mk i ⟨rfl, hiN⟩ ?_
      conv => whnf
      refine Get.mk (_, _, _, _) ha ?_
      conv => whnf
      refine Get.mk _ (encA_2 hlt) ?_
      conv => whnf
      refine CondP.mk (fun h2 => ?_) (fun h2 => ?_)
      · have h2' : xs[i].u = XMLNSURI := by simpa using h2
        have ea : nsA lv xs[i] = (xs[i], true) := by simp only [nsA, h2', if_true]
        simp only [ea, if_true] at hR hQ
        conv => whnf
        rw [e]
        refine Names_L0 hX hX' bs bn ba lv hb hlv n N hN vn d1 d2 d3 ty ta Q (m - 1) (i + 1) (by omega) (by omega) vh xs hxs hs hn ha ?_ ?_
        · rw [take_at xs i hlt]; exact hR
        · rw [take_at xs i hlt]; exact hQ
      · have h2' : ¬ xs[i].u = XMLNSURI := by simpa using h2
        have hw : ∀ f, f < 4 → 0 + i * 4 + f + 1 ≤ (xs.map encA).flatten.length := fun f hf => by have := flat_lt encA_len xs i hlt; omega
        conv => whnf
        refine Get.mk (_, _, _, _) hn ?_
        conv => whnf
        refine Get.mk _ rfl ?_
        conv => whnf
        refine Get.mk i ⟨rfl, hiN⟩ ?_
        conv => whnf
        refine Get.mk (_, _, _, _) ha ?_
        conv => whnf
        refine ⟨⟨hw 2 (by decide), Nat.zero_le _⟩, ?_⟩
        have ha1 : vset vh ba (.cells (setSeg (xs.map encA).flatten (0 + i * 4 + 2) [.str []]) ta 0 false) ba = some (.cells ((xs.set i { xs[i] with u := [] }).map encA).flatten ta 0 false) := by rw [vset_same, flat_set _ _ hlt]
        have hf1 : ∀ c, c ≠ ba → vset vh ba (.cells (setSeg (xs.map encA).flatten (0 + i * 4 + 2) [.str []]) ta 0 false) c = vh c := fun c hc => vset_ne hc
        have hn1 := (hf1 bn (Ne.symm d3)).trans hn
        have hs1 : Sc (vset vh ba (.cells (setSeg (xs.map encA).flatten (0 + i * 4 + 2) [.str []]) ta 0 false)) bs lv := by obtain ⟨t, hs⟩ := hs; exact ⟨t, (hf1 bs (Ne.symm d2)).trans hs⟩
        conv => whnf
        generalize vset vh ba _ = vh1 at ha1 hf1 hn1 hs1
        have hl1 : (xs.set i { xs[i] with u := [] }).length = N := by rw [List.length_set]; exact hxs
        have hlt1 : i < (xs.set i { xs[i] with u := [] }).length := by omega
        have hg1 : (xs.set i { xs[i] with u := [] })[i] = { xs[i] with u := [] } := by simp
        refine Get.mk (_, _, _, _) hn1 ?_
        conv => whnf
        refine Get.mk _ rfl ?_
        conv => whnf
        refine Get.mk i ⟨rfl, hiN⟩ ?_
        conv => whnf
        refine Get.mk (_, _, _, _) ha1 ?_
        conv => whnf
        refine Get.mk _ (encA_0 hlt1) ?_
        conv => whnf
        refine CondP.mk (fun h3 => ?_) (fun h3 => ?_)
        · have h3' : xs[i].p = [] := by simpa [hg1] using h3
          have ea : nsA lv xs[i] = ({ xs[i] with u := [] }, true) := by simp only [nsA, h2', h3', if_false, if_true]
          simp only [ea, if_true] at hR hQ
          conv => whnf
          rw [e]
          refine Names_L0 hX hX' bs bn ba lv hb hlv n N hN vn d1 d2 d3 ty ta Q (m - 1) (i + 1) (by omega) (by omega) vh1 _ hl1 hs1 hn1 ha1 ?_ ?_
          · rw [take_set xs i hlt, drop_set]; exact fun h vh' h1 h2 => hR h vh' h1 fun c hc => (h2 c hc).trans (hf1 c hc)
          · rw [take_set xs i hlt, drop_set]; exact fun h vh' i' t h1 h2 => hQ h vh' i' t h1 fun c hc => (h2 c hc).trans (hf1 c hc)
        · have h3' : ¬ xs[i].p = [] := by simpa [hg1] using h3
          have ea : nsA lv xs[i] = ({ xs[i] with u := (uriP lv xs[i].p).1 }, (uriP lv xs[i].p).2) := by simp only [nsA, h2', h3', if_false]
          conv => whnf
          refine Get.mk (_, _, _, _) hn1 ?_
          conv => whnf
          refine Get.mk _ rfl ?_
          conv => whnf
          refine Get.mk (_, _, _, _) hn1 ?_
          conv => whnf
          refine Get.mk _ rfl ?_
          conv => whnf
          refine Get.mk i ⟨rfl, hiN⟩ ?_
          conv => whnf
          refine Get.mk (_, _, _, _) ha1 ?_
          conv => whnf
          refine Get.mk (.str xs[i].p) ((encA_0 hlt1).trans (by rw [hg1])) ?_
          conv => whnf
          clear hd h1 h2 h3
          refine (URI_ok hX hX' bs lv _ vh1 vn hs1 hb hlv).mono fun v vh' vn' he => ?_
          obtain ⟨e1, e2, e3⟩ := he
          subst e1; subst e2; subst e3
          conv => whnf
          refine ⟨⟨rfl, ?_⟩, ?_⟩
          · conv => whnf
            refine Get.mk (_, _, _, _) hn1 ?_
            conv => whnf
            refine Get.mk _ rfl ?_
            conv => whnf
          conv => whnf
          refine Get.mk i ⟨rfl, hiN⟩ ?_
          conv => whnf
          refine Get.mk (_, _, _, _) ha1 ?_
          conv => whnf
          have hw1 : 0 + i * 4 + 2 + 1 ≤ ((xs.set i { xs[i] with u := [] }).map encA).flatten.length := by have := flat_lt encA_len _ i hlt1; omega
          refine ⟨⟨hw1, Nat.zero_le _⟩, ?_⟩
          have ha2 : vset vh' ba (.cells (setSeg ((xs.set i { xs[i] with u := [] }).map encA).flatten (0 + i * 4 + 2) [.str (uriP lv xs[i].p).1]) ta 0 false) ba = some (.cells ((xs.set i { xs[i] with u := (uriP lv xs[i].p).1 }).map encA).flatten ta 0 false) := by
            rw [vset_same, flat_set _ _ hlt1, hg1, List.set_set]
          have hf2 : ∀ c, c ≠ ba → vset vh' ba (.cells (setSeg ((xs.set i { xs[i] with u := [] }).map encA).flatten (0 + i * 4 + 2) [.str (uriP lv xs[i].p).1]) ta 0 false) c = vh c := fun c hc => (vset_ne hc).trans (hf1 c hc)
          have hn2 := (hf2 bn (Ne.symm d3)).trans hn
          have hs2 : Sc (vset vh' ba (.cells (setSeg ((xs.set i { xs[i] with u := [] }).map encA).flatten (0 + i * 4 + 2) [.str (uriP lv xs[i].p).1]) ta 0 false)) bs lv := by obtain ⟨t, hs⟩ := hs; exact ⟨t, (hf2 bs (Ne.symm d2)).trans hs⟩
          have hl2 : (xs.set i { xs[i] with u := (uriP lv xs[i].p).1 }).length = N := by rw [List.length_set]; exact hxs
          conv => whnf
          generalize vset vh' ba _ = vh2 at ha2 hf2 hn2 hs2
          refine CondP.mk (fun h4 => ?_) (fun h4 => ?_)
          · have h4' : (uriP lv xs[i].p).2 = false := by simpa using h4
            rw [h4'] at ea
            simp only [ea, Bool.false_eq_true, if_false] at hR hQ
            conv => whnf
            refine hR trivial vh2 ?_ hf2
            rw [ha2, ← take_set xs i hlt, ← drop_set xs i { xs[i] with u := (uriP lv xs[i].p).1 }, List.take_append_drop]
          · have h4' : (uriP lv xs[i].p).2 = true := by simpa using h4
            rw [h4'] at ea
            simp only [ea, if_true] at hR hQ
            conv => whnf
            rw [e]
            refine Names_L0 hX hX' bs bn ba lv hb hlv n N hN _ d1 d2 d3 ty ta Q (m - 1) (i + 1) (by omega) (by omega) vh2 _ hl2 hs2 hn2 ha2 ?_ ?_
            · rw [take_set xs i hlt, drop_set]; exact fun h vh' h1 h2 => hR h vh' h1 fun c hc => (h2 c hc).trans (hf2 c hc)
            · rw [take_set xs i hlt, drop_set]; exact fun h vh' i' t h1 h2 => hQ h vh' i' t h1 fun c hc => (h2 c hc).trans (hf2 c hc)
    · have hlt : i = N := by simp at h1; omega
      have e1 : xs.drop i = [] := by rw [hlt, ← hxs, List.drop_length]
      have e2 : xs.take i = xs := by rw [hlt, ← hxs, List.take_length]
      rw [e1, e2] at hQ
      conv => whnf
      exact hQ rfl vh _ _ (by simpa [nsL] using ha) fun _ _ => rfl
termination_by m => m
decreasing_by all_goals omega
end Go.Proofs.YtpcbnpekdmobpaaGreatDoor
open Go Go.Ev Go.VL
namespace Go.Proofs.YtpcbnpekdmobpaaGreatDoor
attribute [local irreducible] fApp
variable {X : Ovr} {G : Gt}
def sameU (a b : Attr) : Bool := decide (a.u = b.u) && decide (a.l = b.l)
def twiceL : List Attr → List Attr → Bool
  | _, [] => false
  | pre, a :: l => pre.any (fun b => sameU b a) || twiceL (pre ++ [a]) l
theorem Names_L2 (bn ba : Nat) (n : Nd) (xs : List Attr) (hN : xs.length < 2 ^ 30) (vh : VH) (vn : Nat) (ty ta : TypeId) (hn : vh bn = some (.cells (encNv n (.msl ba 0 xs.length 4 none)) ty 0 false)) (ha : vh ba = some (.cells (xs.map encA).flatten ta 0 false)) (i : Nat) (hi : i < xs.length) (Q : FQ) : ∀ (m k : Nat), i - k = m → k ≤ i →
    (((xs.take i).drop k).any (fun b => sameU b xs[i]) = true → Q .ret [(4, .bool false)] vh vn) →
    (((xs.take i).drop k).any (fun b => sameU b xs[i]) = false → ∀ k' t, Q (.exit 4) [(1, .ptr bn 0), (7, .int .i64 (i : Int)), (8, .int .i64 k'), (97, .bool t)] vh vn) →
    FLoop Tryz.prog X G (.loop c_ref15_Names_L2) [(1, .ptr bn 0), (7, .int .i64 (i : Int)), (8, .int .i64 (k : Int))] vh vn Q
  | m, k, hm, hk, hR, hQ => by
    refine FLoop.round ?_
    conv => whnf
    refine CondP.mk (fun h1 => ?_) (fun h1 => ?_)
    · have hlt : k < i := by simpa using h1
      have hkx : k < xs.length := by omega
      have hd : (xs.take i).drop k = xs[k] :: (xs.take i).drop (k + 1) := by
        rw [← List.getElem_cons_drop (by simp; omega : k < (xs.take i).length), List.getElem_take]
      rw [hd, List.any_cons] at hR hQ
      have e : wr .i64 ((k : Int) + 1) = ((k + 1 : Nat) : Int) := by rw [wr64] <;> omega
      conv => whnf
      refine Get.mk (_, _, _, _) hn ?_
      conv => whnf
      refine Get.mk _ rfl ?_
      conv => whnf
      refine Get.mk _ ⟨rfl, hkx⟩ ?_
      conv => whnf
      refine Get.mk (_, _, _, _) ha ?_
      conv => whnf
      refine Get.mk _ (encA_2 hkx) ?_
      conv => whnf
      refine Get.mk (_, _, _, _) hn ?_
      conv => whnf
      refine Get.mk _ rfl ?_
      conv => whnf
      refine Get.mk _ ⟨rfl, hi⟩ ?_
      conv => whnf
      refine Get.mk (_, _, _, _) ha ?_
      conv => whnf
      refine Get.mk _ (encA_2 hi) ?_
      conv => whnf
      refine CondP.mk (fun h2 => ?_) (fun h2 => ?_)
      · simp at h2
        conv => whnf
        refine Get.mk (_, _, _, _) hn ?_
        conv => whnf
        refine Get.mk _ rfl ?_
        conv => whnf
        refine Get.mk _ ⟨rfl, hkx⟩ ?_
        conv => whnf
        refine Get.mk (_, _, _, _) ha ?_
        conv => whnf
        refine Get.mk _ (encA_1 hkx) ?_
        conv => whnf
        refine Get.mk (_, _, _, _) hn ?_
        conv => whnf
        refine Get.mk _ rfl ?_
        conv => whnf
        refine Get.mk _ ⟨rfl, hi⟩ ?_
        conv => whnf
        refine Get.mk (_, _, _, _) ha ?_
        conv => whnf
        refine Get.mk _ (encA_1 hi) ?_
        conv => whnf
        refine CondP.mk (fun h3 => ?_) (fun h3 => ?_)
        · simp at h3
          have hs : sameU xs[k] xs[i] = true := by simp [sameU, h2, h3]
          conv => whnf
          exact hR (by rw [hs]; rfl)
        · simp at h3
          have hs : sameU xs[k] xs[i] = false := by simp [sameU, h3]
          rw [hs, Bool.false_or] at hR hQ
          conv => whnf
          rw [e]
          exact Names_L2 bn ba n xs hN vh vn ty ta hn ha i hi Q (m - 1) (k + 1) (by omega) (by omega) hR hQ
      · simp at h2
        have hs : sameU xs[k] xs[i] = false := by simp [sameU, h2]
        rw [hs, Bool.false_or] at hR hQ
        conv => whnf
        rw [e]
        exact Names_L2 bn ba n xs hN vh vn ty ta hn ha i hi Q (m - 1) (k + 1) (by omega) (by omega) hR hQ
    · have hlt : k = i := by simp at h1; omega
      have e1 : (xs.take i).drop k = [] := List.drop_eq_nil_of_le (by simp; omega)
      rw [e1] at hQ
      conv => whnf
      exact hQ rfl _ _
termination_by m => m
decreasing_by all_goals omega
theorem Names_L1 (bn ba : Nat) (n : Nd) (xs : List Attr) (hN : xs.length < 2 ^ 30) (vh : VH) (vn : Nat) (ty ta : TypeId) (hn : vh bn = some (.cells (encNv n (.msl ba 0 xs.length 4 none)) ty 0 false)) (ha : vh ba = some (.cells (xs.map encA).flatten ta 0 false)) (Q : FQ) : ∀ (m i : Nat), xs.length - i = m → i ≤ xs.length →
    (twiceL (xs.take i) (xs.drop i) = true → Q .ret [(4, .bool false)] vh vn) →
    (twiceL (xs.take i) (xs.drop i) = false → ∀ i' t, Q (.exit 2) [(1, .ptr bn 0), (7, .int .i64 i'), (92, .bool t)] vh vn) →
    FLoop Tryz.prog X G (.loop c_ref15_Names_L1) [(1, .ptr bn 0), (7, .int .i64 (i : Int))] vh vn Q
  | m, i, hm, hi, hR, hQ => by
    refine FLoop.round ?_
    conv => whnf
    refine Get.mk (_, _, _, _) hn ?_
    conv => whnf
    refine Get.mk _ rfl ?_
    conv => whnf
    refine CondP.mk (fun h1 => ?_) (fun h1 => ?_)
    · have hlt : i < xs.length := by simpa using h1
      have hd : xs.drop i = xs[i] :: xs.drop (i + 1) := (List.getElem_cons_drop hlt).symm
      have ht : xs.take i ++ [xs[i]] = xs.take (i + 1) := by simp
      rw [hd] at hR hQ
      simp only [twiceL, ht] at hR hQ
      have e : wr .i64 ((i : Int) + 1) = ((i + 1 : Nat) : Int) := by rw [wr64] <;> omega
      conv => whnf
      refine Names_L2 bn ba n xs hN vh vn ty ta hn ha i hlt _ i 0 (by omega) (Nat.zero_le _) (fun h => ?_) (fun h k' t => ?_)
      · rw [List.drop_zero] at h
        exact hR (by rw [h]; rfl)
      · rw [List.drop_zero] at h
        rw [h, Bool.false_or] at hR hQ
        conv => whnf
        rw [e]
        exact Names_L1 bn ba n xs hN vh vn ty ta hn ha Q (m - 1) (i + 1) (by omega) (by omega) hR hQ
    · have hlt : i = xs.length := by simp at h1; omega
      rw [hlt, List.drop_length] at hQ
      conv => whnf
      exact hQ rfl _ _
termination_by m => m
decreasing_by all_goals omega
end Go.Proofs.YtpcbnpekdmobpaaGreatDoor
open Go Go.Ev Go.VL
namespace Go.Proofs.YtpcbnpekdmobpaaGreatDoor
attribute [local irreducible] fApp
variable {X : Ovr} {G : Gt}
def namesP (lv : List (List Attr)) (n : Nd) : Nd × Bool :=
  if (uriP lv n.p).2 = false ∨ n.p = S_xmlns then ({ n with u := (uriP lv n.p).1 }, false)
  else ({ n with u := (uriP lv n.p).1, s := (nsL lv n.s).1 }, (nsL lv n.s).2 && !twiceL [] (nsL lv n.s).1)
def NdAt (vh : VH) (b : Nat) (n : Nd) (av : V) : Prop := ∃ ty, vh b = some (.cells (encNv n av) ty 0 false)
theorem nsL_len (lv : List (List Attr)) : ∀ xs : List Attr, (nsL lv xs).1.length = xs.length
  | [] => rfl
  | a :: l => by
    simp only [nsL]
    split
    · simp [nsL_len lv l]
    · simp
theorem Names_ok (hX : X F_ref10_Declares = none) (hX' : X F_ref10_Scope_URI = none) (hX2 : X F_ref15_Names = none) (bs bn : Nat) (lv : List (List Attr)) (hb : ∀ l ∈ lv, l.length < 2 ^ 40) (hlv : lv.length < 2 ^ 40) (n : Nd) (av : V) (hN : n.s.length < 2 ^ 30) (vh : VH) (vn : Nat)
    (d1 : bs ≠ bn) (d2 : ¬ blkOf av bs) (d3 : ¬ blkOf av bn) (hs : Sc vh bs lv) (hn : NdAt vh bn n av) (ha : SlR encA 4 vh av n.s) :
    WpCall Tryz.prog X G F_ref15_Names [.ptr bs 0, .ptr bn 0] vh vn fun v vh' vn' => vn' = vn ∧ v = .bool (namesP lv n).2 ∧ NdAt vh' bn (namesP lv n).1 av ∧ SlR encA 4 vh' av (namesP lv n).1.s ∧ ∀ c, c ≠ bn → ¬ blkOf av c → vh' c = vh c := by
  obtain ⟨ty, hn⟩ := hn
  apply k_ref15_Names.run hX2
  conv => whnf
  refine Get.mk (_, _, _, _) hn ?_
  conv => whnf
  refine Get.mk _ rfl ?_
  conv => whnf
  refine (URI_ok hX hX' bs lv n.p vh vn hs hb hlv).mono fun v vh' vn' he => ?_
  obtain ⟨e1, e2, e3⟩ := he
  subst e1; subst e2; subst e3
  conv => whnf
  refine Get.mk (_, _, _, _) hn ?_
  conv => whnf
  refine ⟨⟨by simp [encNv], Nat.zero_le _⟩, ?_⟩
  conv => whnf
  generalize hv : vset vh' bn _ = vh1
  have hn1 : vh1 bn = some (.cells (encNv { n with u := (uriP lv n.p).1 } av) ty 0 false) := by rw [← hv]; exact vset_same
  have hf1 : ∀ c, c ≠ bn → vh1 c = vh' c := fun c hc => by rw [← hv]; exact vset_ne hc
  have hs1 : Sc vh1 bs lv := by obtain ⟨t, hs⟩ := hs; exact ⟨t, (hf1 bs d1).trans hs⟩
  clear hv
  have fail : ∀ (hc : (uriP lv n.p).2 = false ∨ n.p = S_xmlns), ∃ vh2, vh2 = vh1 ∧ (vn' = vn' ∧ V.bool false = V.bool (namesP lv n).2 ∧ NdAt vh2 bn (namesP lv n).1 av ∧ SlR encA 4 vh2 av (namesP lv n).1.s ∧ ∀ c, c ≠ bn → ¬ blkOf av c → vh2 c = vh' c) := fun hc => by
    refine ⟨vh1, rfl, rfl, by simp only [namesP, if_pos hc], ⟨ty, by simp only [namesP, if_pos hc]; exact hn1⟩, ?_, fun c hc _ => hf1 c hc⟩
    simp only [namesP, if_pos hc]
    rcases ha with h | h | ⟨ba, ta, rfl, h2⟩
    · exact .inl h
    · exact .inr (.inl h)
    · exact .inr (.inr ⟨ba, ta, rfl, (hf1 ba fun h => d3 h.symm).trans h2⟩)
  refine CondP.mk (fun h1 => ?_) (fun h1 => ?_)
  · have h1' : (uriP lv n.p).2 = false := by simpa using h1
    conv => whnf
    obtain ⟨_, rfl, hf⟩ := fail (.inl h1')
    exact Get.mk _ (fun _ _ h => h) hf
  · have h1' : (uriP lv n.p).2 = true := by simpa using h1
    conv => whnf
    refine Get.mk (_, _, _, _) hn1 ?_
    conv => whnf
    refine Get.mk _ rfl ?_
    conv => whnf
    refine CondP.mk (fun h2 => ?_) (fun h2 => ?_)
    · have h2' : n.p = S_xmlns := by simpa using h2
      conv => whnf
      obtain ⟨_, rfl, hf⟩ := fail (.inr h2')
      exact Get.mk _ (fun _ _ h => h) hf
    · have h2' : ¬ n.p = S_xmlns := by simpa using h2
      have hc : ¬ ((uriP lv n.p).2 = false ∨ n.p = S_xmlns) := by rw [h1']; simp [h2']
      clear fail
      conv => whnf
      rcases id ha with ⟨h0, rfl⟩ | ⟨h0, rfl⟩ | ⟨ba, ta, rfl, ha2⟩
      · refine FLoop.round ?_
        conv => whnf
        refine Get.mk (_, _, _, _) hn1 ?_
        conv => whnf
        refine Get.mk _ rfl ?_
        conv => whnf
        refine FLoop.round ?_
        conv => whnf
        refine Get.mk (_, _, _, _) hn1 ?_
        conv => whnf
        refine Get.mk _ rfl ?_
        conv => whnf
        refine Get.mk _ (fun _ _ h => h) ⟨rfl, ?_, ⟨ty, ?_⟩, ?_, fun c hc _ => hf1 c hc⟩
        · simp [namesP, hc, h0, nsL, twiceL]
        · simp only [namesP, if_neg hc]; exact hn1
        · simp only [namesP, if_neg hc, h0, nsL]; exact .inl ⟨rfl, rfl⟩
      · refine FLoop.round ?_
        conv => whnf
        refine Get.mk (_, _, _, _) hn1 ?_
        conv => whnf
        refine Get.mk _ rfl ?_
        conv => whnf
        refine FLoop.round ?_
        conv => whnf
        refine Get.mk (_, _, _, _) hn1 ?_
        conv => whnf
        refine Get.mk _ rfl ?_
        conv => whnf
        refine Get.mk _ (fun _ _ h => h) ⟨rfl, ?_, ⟨ty, ?_⟩, ?_, fun c hc _ => hf1 c hc⟩
        · simp [namesP, hc, h0, nsL, twiceL]
        · simp only [namesP, if_neg hc]; exact hn1
        · simp only [namesP, if_neg hc, h0, nsL]; exact .inr (.inl ⟨rfl, rfl⟩)
      · have e1 : ba ≠ bs := fun h => d2 h.symm
        have e2 : ba ≠ bn := fun h => d3 h.symm
        have ha3 : vh1 ba = some (.cells (n.s.map encA).flatten ta 0 false) := (hf1 ba e2).trans ha2
        refine Names_L0 hX hX' bs bn ba lv hb hlv _ n.s.length hN _ d1 e1 e2 ty ta _ n.s.length 0 rfl (Nat.zero_le _) vh1 n.s rfl hs1 hn1 ha3 (fun h vh2 a2 f2 => ?_) (fun h vh2 i' t a2 f2 => ?_)
        · rw [List.drop_zero] at h a2
          conv => whnf
          refine Get.mk _ (fun _ _ h => h) ⟨rfl, ?_, ⟨ty, ?_⟩, ?_, fun c hc hca => (f2 c hca).trans (hf1 c hc)⟩
          · simp [namesP, hc, h]
          · simp only [namesP, if_neg hc]; exact (f2 bn (Ne.symm e2)).trans hn1
          · simp only [namesP, if_neg hc]; exact .inr (.inr ⟨ba, ta, by rw [nsL_len], a2⟩)
        · rw [List.drop_zero] at h a2
          have a2' : vh2 ba = some (.cells ((nsL lv n.s).1.map encA).flatten ta 0 false) := a2
          have hn2 : vh2 bn = some (.cells (encNv { n with u := (uriP lv n.p).1 } (.msl ba 0 (nsL lv n.s).1.length 4 none)) ty 0 false) := by rw [nsL_len]; exact (f2 bn (Ne.symm e2)).trans hn1
          conv => whnf
          refine Names_L1 bn ba _ (nsL lv n.s).1 (by rw [nsL_len]; exact hN) vh2 _ ty ta hn2 a2' _ _ 0 rfl (Nat.zero_le _) (fun h3 => ?_) (fun h3 i2 t2 => ?_)
          · rw [List.drop_zero, List.take_zero] at h3
            conv => whnf
            refine Get.mk _ (fun _ _ h => h) ⟨rfl, ?_, ⟨ty, ?_⟩, ?_, fun c hc hca => (f2 c hca).trans (hf1 c hc)⟩
            · simp [namesP, hc, h, h3]
            · simp only [namesP, if_neg hc]; exact (f2 bn (Ne.symm e2)).trans hn1
            · simp only [namesP, if_neg hc]; exact .inr (.inr ⟨ba, ta, by rw [nsL_len], a2'⟩)
          · rw [List.drop_zero, List.take_zero] at h3
            conv => whnf
            refine Get.mk _ (fun _ _ h => h) ⟨rfl, ?_, ⟨ty, ?_⟩, ?_, fun c hc hca => (f2 c hca).trans (hf1 c hc)⟩
            · simp [namesP, hc, h, h3]
            · simp only [namesP, if_neg hc]; exact (f2 bn (Ne.symm e2)).trans hn1
            · simp only [namesP, if_neg hc]; exact .inr (.inr ⟨ba, ta, by rw [nsL_len], a2'⟩)
end Go.Proofs.YtpcbnpekdmobpaaGreatDoor
open Go Go.Ev Go.VL
namespace Go.Proofs.YtpcbnpekdmobpaaGreatDoor
attribute [local irreducible] fApp
variable {X : Ovr} {G : Gt}
def inR (r a b : Int) : Bool := decide (a ≤ r) && decide (r ≤ b)
theorem in_ok (hX : X F_ref1_in = none) (r a b : Int) (vh : VH) (vn : Nat) :
    WpCall Tryz.prog X G F_ref1_in [.int .i32 r, .int .i32 a, .int .i32 b] vh vn fun v vh' vn' => vh' = vh ∧ vn' = vn ∧ v = .bool (inR r a b) := by
  apply k_ref1_in.run hX
  conv => whnf
  refine CondP.mk (fun h1 => ?_) (fun h1 => ?_)
  · conv => whnf
    refine Get.mk vh (fun _ _ h => h) ⟨rfl, rfl, ?_⟩
    simp at h1
    simp [inR, h1]
  · conv => whnf
    refine Get.mk vh (fun _ _ h => h) ⟨rfl, rfl, ?_⟩
    simp at h1
    simp [inR]; omega
def spaceP (r : Int) : Bool := decide (r = 32) || decide (r = 9) || decide (r = 13) || decide (r = 10)
theorem Space_ok (hX : X F_ref1_Space = none) (r : Int) (vh : VH) (vn : Nat) :
    WpCall Tryz.prog X G F_ref1_Space [.int .i32 r] vh vn fun v vh' vn' => vh' = vh ∧ vn' = vn ∧ v = .bool (spaceP r) := by
  apply k_ref1_Space.run hX
  conv => whnf
  repeat' ((first | refine CondP.mk (fun _ => ?_) (fun _ => ?_)); conv => whnf)
  all_goals
    refine Get.mk vh (fun _ _ h => h) ⟨rfl, rfl, ?_⟩
    simp_all [spaceP]
def charP (r : Int) : Bool := decide (r = 9) || decide (r = 10) || decide (r = 13) || inR r 0x20 0xD7FF || inR r 0xE000 0xFFFD || inR r 0x10000 0x10FFFF
theorem Char_ok (hX : X F_ref1_in = none) (hX' : X F_ref1_Char = none) (r : Int) (vh : VH) (vn : Nat) :
    WpCall Tryz.prog X G F_ref1_Char [.int .i32 r] vh vn fun v vh' vn' => vh' = vh ∧ vn' = vn ∧ v = .bool (charP r) := by
  apply k_ref1_Char.run hX'
  conv => whnf
  repeat' ((first | refine CondP.mk (fun _ => ?_) (fun _ => ?_) | (refine (in_ok hX _ _ _ _ _).mono (fun v vh' vn' he => ?_); obtain ⟨e1, e2, e3⟩ := he; subst e1; subst e2; subst e3)); conv => whnf)
  all_goals
    refine Get.mk _ (fun _ _ h => h) ⟨rfl, rfl, ?_⟩
    simp_all [charP]
def startP (r : Int) : Bool := inR r 65 90 || inR r 97 122 || decide (r = 95) || decide (r = 58) || inR r 0xC0 0xD6 || inR r 0xD8 0xF6 || inR r 0xF8 0x2FF || inR r 0x370 0x37D || inR r 0x37F 0x1FFF || inR r 0x200C 0x200D || inR r 0x2070 0x218F || inR r 0x2C00 0x2FEF || inR r 0x3001 0xD7FF || inR r 0xF900 0xFDCF || inR r 0xFDF0 0xFFFD || inR r 0x10000 0xEFFFF
theorem Start_ok (hX : X F_ref1_in = none) (hX' : X F_ref1_Start = none) (r : Int) (vh : VH) (vn : Nat) :
    WpCall Tryz.prog X G F_ref1_Start [.int .i32 r] vh vn fun v vh' vn' => vh' = vh ∧ vn' = vn ∧ v = .bool (startP r) := by
  apply k_ref1_Start.run hX'
  conv => whnf
  repeat' ((first | refine CondP.mk (fun _ => ?_) (fun _ => ?_) | (refine (in_ok hX _ _ _ _ _).mono (fun v vh' vn' he => ?_); obtain ⟨e1, e2, e3⟩ := he; subst e1; subst e2; subst e3)); conv => whnf)
  all_goals
    refine Get.mk _ (fun _ _ h => h) ⟨rfl, rfl, ?_⟩
    simp_all [startP]
def partP (r : Int) : Bool := startP r || decide (r = 45) || decide (r = 46) || inR r 48 57 || decide (r = 0xB7) || inR r 0x300 0x36F || inR r 0x203F 0x2040
theorem Part_ok (hX : X F_ref1_in = none) (hX1 : X F_ref1_Start = none) (hX' : X F_ref1_Part = none) (r : Int) (vh : VH) (vn : Nat) :
    WpCall Tryz.prog X G F_ref1_Part [.int .i32 r] vh vn fun v vh' vn' => vh' = vh ∧ vn' = vn ∧ v = .bool (partP r) := by
  apply k_ref1_Part.run hX'
  conv => whnf
  repeat' ((first | refine CondP.mk (fun _ => ?_) (fun _ => ?_) | (refine (in_ok hX _ _ _ _ _).mono (fun v vh' vn' he => ?_); obtain ⟨e1, e2, e3⟩ := he; subst e1; subst e2; subst e3) | (refine (Start_ok hX hX1 _ _ _).mono (fun v vh' vn' he => ?_); obtain ⟨e1, e2, e3⟩ := he; subst e1; subst e2; subst e3)); conv => whnf)
  all_goals
    refine Get.mk _ (fun _ _ h => h) ⟨rfl, rfl, ?_⟩
    simp_all [partP]
end Go.Proofs.YtpcbnpekdmobpaaGreatDoor
open Go Go.Ev Go.VL
namespace Go.Proofs.YtpcbnpekdmobpaaGreatDoor
attribute [local irreducible] fApp
variable {X : Ovr} {G : Gt}
def andU (k : IntKind) (m n : Int) : Int := wr k (.ofNat (Nat.land (toU k m) (toU k n)))
def orU (k : IntKind) (m n : Int) : Int := wr k (.ofNat (Nat.lor (toU k m) (toU k n)))
def shl6 (r : Int) : Int := wr .i32 (r * .ofNat (Nat.pow 2 6))
def oneF : List Nat → Int → Option Int
  | [], r => some r
  | b :: l, r => if andU .u8 (.ofNat b) 192 = 128 then oneF l (orU .i32 (shl6 r) (wr .i32 (andU .u8 (.ofNat b) 63))) else none
def oneH (c : Int) : Option (Nat × Int × Int) :=
  if 192 ≤ c ∧ c < 224 then some (2, wr .i32 (andU .u8 c 31), 128)
  else if 224 ≤ c ∧ c < 240 then some (3, wr .i32 (andU .u8 c 15), 2048)
  else if 240 ≤ c ∧ c < 248 then some (4, wr .i32 (andU .u8 c 7), 65536)
  else none
def oneT (s : List Nat) (i n : Nat) (r least : Int) : Int × Nat :=
  if s.length < i + n then (0, 0) else match oneF ((s.drop (i + 1)).take (n - 1)) r with
    | none => (0, 0)
    | some q => if q < least ∨ 1114111 < q ∨ inR q 55296 57343 = true then (0, 0) else (q, n)
def oneP (s : List Nat) (i : Nat) : Int × Nat := match s[i]? with
  | none => (0, 0)
  | some c => if (c : Int) < 128 then (wr .i32 (.ofNat c), 1) else match oneH (.ofNat c) with
    | none => (0, 0)
    | some (n, r, least) => oneT s i n r least
theorem One_L0 (s : List Nat) (hs : s.length < 2 ^ 40) (i n : Nat) (hn : i + n ≤ s.length) (least : Int) (vh : VH) (vn : Nat) (Q : FQ) : ∀ (m k : Nat) (r : Int), n - k = m → k ≤ n →
    (oneF ((s.drop (i + k)).take (n - k)) r = none → Q .ret [(4, .int .i32 0), (5, .int .i64 0)] vh vn) →
    (∀ q, oneF ((s.drop (i + k)).take (n - k)) r = some q → ∀ k' t, Q (.exit 1) [(0, .str s), (1, .int .i64 (i : Int)), (7, .int .i64 (n : Int)), (8, .int .i32 q), (9, .int .i32 least), (10, .int .i64 k'), (61, .bool t)] vh vn) →
    FLoop Tryz.prog X G (.loop c_ref1_One_L0) [(0, .str s), (1, .int .i64 (i : Int)), (7, .int .i64 (n : Int)), (8, .int .i32 r), (9, .int .i32 least), (10, .int .i64 (k : Int))] vh vn Q
  | m, k, r, hm, hk, hR, hQ => by
    refine FLoop.round ?_
    conv => whnf
    refine CondP.mk (fun h1 => ?_) (fun h1 => ?_)
    · have hlt : k < n := by simpa using h1
      have hik : i + k < s.length := by omega
      have hd : (s.drop (i + k)).take (n - k) = s[i + k] :: (s.drop (i + (k + 1))).take (n - (k + 1)) := by
        rw [← List.getElem_cons_drop hik, show n - k = (n - (k + 1)) + 1 by omega, List.take_succ_cons, Nat.add_assoc]
      rw [hd] at hR hQ
      simp only [oneF] at hR hQ
      have e : wr .i64 ((k : Int) + 1) = ((k + 1 : Nat) : Int) := by rw [wr64] <;> omega
      have e2 : wr .i64 ((i : Int) + (k : Int)) = ((i + k : Nat) : Int) := by rw [wr64] <;> omega
      conv => whnf
      refine Get.mk (i + k, s[i + k]) ⟨e2, by simp [hik]⟩ ?_
      conv => whnf
      refine CondP.mk (fun h2 => ?_) (fun h2 => ?_)
      · have h2 : (!decide (andU .u8 (.ofNat s[i + k]) 192 = 128)) = true := h2
        have h2' : ¬ andU .u8 (.ofNat s[i + k]) 192 = 128 := by simpa using h2
        simp only [if_neg h2'] at hR
        conv => whnf
        exact hR trivial
      · have h2 : (!decide (andU .u8 (.ofNat s[i + k]) 192 = 128)) = false := h2
        have h2' : andU .u8 (.ofNat s[i + k]) 192 = 128 := by simpa using h2
        simp only [if_pos h2'] at hR hQ
        conv => whnf
        refine Get.mk 6 rfl ?_
        conv => whnf
        refine Get.mk (i + k, s[i + k]) ⟨e2, by simp [hik]⟩ ?_
        conv => whnf
        rw [e]
        exact One_L0 s hs i n hn least vh vn Q (m - 1) (k + 1) _ (by omega) (by omega) hR hQ
    · have hlt : k = n := by simp at h1; omega
      subst hlt
      rw [Nat.sub_self, List.take_zero] at hQ
      conv => whnf
      exact hQ _ rfl _ _
termination_by m => m
decreasing_by all_goals omega
theorem One_T (hX : X F_ref1_in = none) (s : List Nat) (hs : s.length < 2 ^ 40) (i n : Nat) (hi : i < s.length) (hn1 : 1 ≤ n) (hn : n ≤ 4) (r least : Int) (vh : VH) (vn : Nat) (Q : FQ)
    (hQ : Q .ret [(4, .int .i32 (oneT s i n r least).1), (5, .int .i64 ((oneT s i n r least).2 : Int))] vh vn) :
    FLoop Tryz.prog X G (.cut c_ref1_One_R14) [(0, .str s), (1, .int .i64 (i : Int)), (7, .int .i64 (n : Int)), (8, .int .i32 r), (9, .int .i32 least)] vh vn Q := by
  refine FLoop.cut ?_
  have e2 : wr .i64 ((i : Int) + (n : Int)) = ((i + n : Nat) : Int) := by rw [wr64] <;> omega
  conv => whnf
  refine CondP.mk (fun h1 => ?_) (fun h1 => ?_)
  · rw [e2] at h1
    have h1' : s.length < i + n := by have := of_decide_eq_true h1; simp only [Int.ofNat_eq_natCast] at this; omega
    simp only [oneT, if_pos h1'] at hQ
    conv => whnf
    exact hQ
  · rw [e2] at h1
    have h1' : ¬ s.length < i + n := by have := of_decide_eq_false h1; simp only [Int.ofNat_eq_natCast] at this; omega
    simp only [oneT, if_neg h1'] at hQ
    conv => whnf
    refine One_L0 s hs i n (by omega) least vh vn _ (n - 1) 1 r rfl hn1 (fun h => ?_) (fun q h k' t => ?_)
    · rw [h] at hQ
      conv => whnf
      exact hQ
    · rw [h] at hQ
      simp only at hQ
      conv => whnf
      repeat' ((first | refine CondP.mk (fun _ => ?_) (fun _ => ?_) | (refine (in_ok hX _ _ _ _ _).mono (fun v vh' vn' he => ?_); obtain ⟨e1, e2, e3⟩ := he; subst e1; subst e2; subst e3)) <;> (conv => whnf))
      all_goals first
        | (have hc : q < least ∨ 1114111 < q ∨ inR q 55296 57343 = true := by clear hQ h e2 h1; simp_all
           rw [if_pos hc] at hQ
           exact hQ)
        | (have hc : ¬ (q < least ∨ 1114111 < q ∨ inR q 55296 57343 = true) := by clear hQ h e2 h1; simp_all
           rw [if_neg hc] at hQ
           exact hQ)
set_option maxRecDepth 100000 in
theorem One_ok (hX : X F_ref1_in = none) (hX' : X F_ref1_One = none) (s : List Nat) (hs : s.length < 2 ^ 40) (i : Nat) (vh : VH) (vn : Nat) :
    WpCall Tryz.prog X G F_ref1_One [.str s, .int .i64 (i : Int)] vh vn fun v vh' vn' => vh' = vh ∧ vn' = vn ∧ v = .tup [.int .i32 (oneP s i).1, .int .i64 ((oneP s i).2 : Int)] := by
  apply k_ref1_One.run hX'
  conv => whnf
  refine CondP.mk (fun h1 => ?_) (fun h1 => ?_)
  · have h1' : s.length ≤ i := by have := of_decide_eq_true h1; simp only [Int.ofNat_eq_natCast] at this; omega
    have h0 : s[i]? = none := List.getElem?_eq_none h1'
    conv => whnf
    refine Get.mk _ (fun _ _ h => h) ⟨rfl, rfl, ?_⟩
    simp only [oneP, h0]; rfl
  · have h1' : i < s.length := by have := of_decide_eq_false h1; simp only [Int.ofNat_eq_natCast] at this; omega
    have h0 : s[i]? = some s[i] := List.getElem?_eq_getElem h1'
    have hp : ∀ n r least, oneH (.ofNat s[i]) = some (n, r, least) → ¬ (s[i] : Int) < 128 → oneP s i = oneT s i n r least := fun n r least h h2 => by simp only [oneP, h0, if_neg h2, h]
    conv => whnf
    refine Get.mk (i, s[i]) ⟨rfl, h0⟩ ?_
    conv => whnf
    refine CondP.mk (fun h2 => ?_) (fun h2 => ?_)
    · have h2' : (s[i] : Int) < 128 := by simpa using h2
      conv => whnf
      refine Get.mk _ (fun _ _ h => h) ⟨rfl, rfl, ?_⟩
      simp only [oneP, h0, if_pos h2']; rfl
    · have h2' : ¬ (s[i] : Int) < 128 := by simpa using h2
      conv => whnf
      repeat' ((first | refine CondP.mk (fun _ => ?_) (fun _ => ?_)) <;> (conv => whnf))
      all_goals first
        | (refine One_T hX s hs i 2 h1' (by decide) (by decide) _ 128 vh vn _ ?_
           have ho : oneH (.ofNat s[i]) = some (2, wr .i32 (andU .u8 (.ofNat s[i]) 31), 128) := by
             clear hp h0 h1 h2
             simp at *
             simp only [oneH]
             rw [if_pos (by constructor <;> omega)]
           refine Get.mk _ (fun _ _ h => h) ⟨rfl, rfl, ?_⟩
           rw [hp _ _ _ ho h2']
           rfl)
        | (refine One_T hX s hs i 3 h1' (by decide) (by decide) _ 2048 vh vn _ ?_
           have ho : oneH (.ofNat s[i]) = some (3, wr .i32 (andU .u8 (.ofNat s[i]) 15), 2048) := by
             clear hp h0 h1 h2
             simp at *
             simp only [oneH]
             rw [if_neg (by omega), if_pos (by constructor <;> omega)]
           refine Get.mk _ (fun _ _ h => h) ⟨rfl, rfl, ?_⟩
           rw [hp _ _ _ ho h2']
           rfl)
        | (refine One_T hX s hs i 4 h1' (by decide) (by decide) _ 65536 vh vn _ ?_
           have ho : oneH (.ofNat s[i]) = some (4, wr .i32 (andU .u8 (.ofNat s[i]) 7), 65536) := by
             clear hp h0 h1 h2
             simp at *
             simp only [oneH]
             rw [if_neg (by omega), if_neg (by omega), if_pos (by constructor <;> omega)]
           refine Get.mk _ (fun _ _ h => h) ⟨rfl, rfl, ?_⟩
           rw [hp _ _ _ ho h2']
           rfl)
        | (have ho : oneH (.ofNat s[i]) = none := by
             clear hp h0 h1 h2
             simp at *
             simp only [oneH]
             rw [if_neg (by omega), if_neg (by omega), if_neg (by omega)]
           refine Get.mk _ (fun _ _ h => h) ⟨rfl, rfl, ?_⟩
           simp only [oneP, h0, if_neg h2', ho]
           rfl)
end Go.Proofs.YtpcbnpekdmobpaaGreatDoor
open Go Go.Ev Go.VL
namespace Go.Proofs.YtpcbnpekdmobpaaGreatDoor
attribute [local irreducible] fApp
variable {X : Ovr} {G : Gt}
theorem one_le (s : List Nat) (i : Nat) : (oneP s i).2 = 0 ∨ i + (oneP s i).2 ≤ s.length := by
  unfold oneP
  cases h : s[i]? with
  | none => exact .inl rfl
  | some c =>
    have hi : i < s.length := (List.getElem?_eq_some_iff.1 h).1
    simp only
    split
    · exact .inr (by simp only; omega)
    · split
      · exact .inl rfl
      · unfold oneT
        split
        · exact .inl rfl
        · split
          · exact .inl rfl
          · split
            · exact .inl rfl
            · exact .inr (by simp only; omega)
def validF (s : List Nat) : Nat → Nat → Bool
  | 0, _ => true
  | f + 1, i => if s.length ≤ i then true else if (oneP s i).2 = 0 ∨ charP (oneP s i).1 = false then false else validF s f (i + (oneP s i).2)
def validP (s : List Nat) : Bool := validF s (s.length + 1) 0
theorem Valid_L0 (hX : X F_ref1_in = none) (hX1 : X F_ref1_One = none) (hX2 : X F_ref1_Char = none) (s : List Nat) (hs : s.length < 2 ^ 40) (vh : VH) (vn : Nat) (Q : FQ) : ∀ (f i : Nat), s.length - i < f → i ≤ s.length →
    (validF s f i = false → Q .ret [(2, .bool false)] vh vn) →
    (validF s f i = true → ∀ i' t, Q (.exit 0) [(0, .str s), (3, .int .i64 i'), (9, .bool t)] vh vn) →
    FLoop Tryz.prog X G (.loop c_ref1_Valid_L0) [(0, .str s), (3, .int .i64 (i : Int))] vh vn Q
  | 0, i, hf, _, _, _ => by omega
  | f + 1, i, hf, hi, hR, hQ => by
    refine FLoop.round ?_
    conv => whnf
    refine CondP.mk (fun h1 => ?_) (fun h1 => ?_)
    · have hlt : i < s.length := by simpa using h1
      simp only [validF, if_neg (by omega : ¬ s.length ≤ i)] at hR hQ
      conv => whnf
      refine (One_ok hX hX1 s hs i vh vn).mono fun v vh' vn' he => ?_
      obtain ⟨e1, e2, e3⟩ := he
      subst e1; subst e2; subst e3
      conv => whnf
      refine CondP.mk (fun h2 => ?_) (fun h2 => ?_)
      · have h2' : (oneP s i).2 = 0 := by simpa using h2
        conv => whnf
        exact hR (by rw [if_pos (.inl h2')])
      · have h2' : ¬ (oneP s i).2 = 0 := by simpa using h2
        conv => whnf
        refine (Char_ok hX hX2 _ _ _).mono fun v vh' vn' he => ?_
        obtain ⟨e1, e2, e3⟩ := he
        subst e1; subst e2; subst e3
        conv => whnf
        refine CondP.mk (fun h3 => ?_) (fun h3 => ?_)
        · have h3' : charP (oneP s i).1 = false := by simpa using h3
          conv => whnf
          exact hR (by rw [if_pos (.inr h3')])
        · have h3' : charP (oneP s i).1 = true := by simpa using h3
          have hc : ¬ ((oneP s i).2 = 0 ∨ charP (oneP s i).1 = false) := by rw [h3']; simp [h2']
          have hle := (one_le s i).resolve_left h2'
          have e : wr .i64 ((i : Int) + ((oneP s i).2 : Int)) = ((i + (oneP s i).2 : Nat) : Int) := by rw [wr64] <;> omega
          rw [if_neg hc] at hR hQ
          conv => whnf
          rw [e]
          exact Valid_L0 hX hX1 hX2 s hs _ _ Q f _ (by omega) hle hR hQ
    · have hlt : s.length ≤ i := by simpa using h1
      simp only [validF, if_pos hlt] at hQ
      conv => whnf
      exact hQ trivial _ _
theorem Valid_ok (hX : X F_ref1_in = none) (hX1 : X F_ref1_One = none) (hX2 : X F_ref1_Char = none) (hX3 : X F_ref1_Valid = none) (s : List Nat) (hs : s.length < 2 ^ 40) (vh : VH) (vn : Nat) :
    WpCall Tryz.prog X G F_ref1_Valid [.str s] vh vn fun v vh' vn' => vh' = vh ∧ vn' = vn ∧ v = .bool (validP s) := by
  apply k_ref1_Valid.run hX3
  conv => whnf
  refine Valid_L0 hX hX1 hX2 s hs vh vn _ (s.length + 1) 0 (by omega) (Nat.zero_le _) (fun h => ?_) (fun h i' t => ?_)
  · conv => whnf
    exact Get.mk _ (fun _ _ h => h) ⟨rfl, rfl, by rw [validP, h]⟩
  · conv => whnf
    exact Get.mk _ (fun _ _ h => h) ⟨rfl, rfl, by rw [validP, h]⟩
def runF (s : List Nat) (a : Nat) : Nat → Nat → Nat
  | 0, k => k
  | f + 1, k => if ((oneP s k).2 = 0 ∨ partP (oneP s k).1 = false) ∨ k = a ∧ startP (oneP s k).1 = false then k else runF s a f (k + (oneP s k).2)
theorem Run_L0 (hX : X F_ref1_in = none) (hX1 : X F_ref1_One = none) (hX2 : X F_ref1_Part = none) (hX4 : X F_ref1_Start = none) (s : List Nat) (hs : s.length < 2 ^ 40) (a : Nat) (vh : VH) (vn : Nat) (Q : FQ) : ∀ (f k : Nat), s.length - k < f → k ≤ s.length →
    Q .ret [(4, .int .i64 (runF s a f k : Int))] vh vn →
    FLoop Tryz.prog X G (.loop c_ref1_Run_L0) [(0, .str s), (1, .int .i64 (a : Int)), (5, .int .i64 (k : Int))] vh vn Q
  | 0, i, hf, _, _ => by omega
  | f + 1, k, hf, hk, hQ => by
    refine FLoop.round ?_
    simp only [runF] at hQ
    conv => whnf
    refine (One_ok hX hX1 s hs k vh vn).mono fun v vh' vn' he => ?_
    obtain ⟨e1, e2, e3⟩ := he
    subst e1; subst e2; subst e3
    conv => whnf
    refine CondP.mk (fun h2 => ?_) (fun h2 => ?_)
    · have h2' : (oneP s k).2 = 0 := by simpa using h2
      rw [if_pos (.inl (.inl h2'))] at hQ
      conv => whnf
      exact hQ
    · have h2' : ¬ (oneP s k).2 = 0 := by simpa using h2
      conv => whnf
      refine (Part_ok hX hX4 hX2 _ _ _).mono fun v vh' vn' he => ?_
      obtain ⟨e1, e2, e3⟩ := he
      subst e1; subst e2; subst e3
      conv => whnf
      refine CondP.mk (fun h3 => ?_) (fun h3 => ?_)
      · have h3' : partP (oneP s k).1 = false := by simpa using h3
        rw [if_pos (.inl (.inr h3'))] at hQ
        conv => whnf
        exact hQ
      · have h3' : partP (oneP s k).1 = true := by simpa using h3
        have hle := (one_le s k).resolve_left h2'
        have e : wr .i64 ((k : Int) + ((oneP s k).2 : Int)) = ((k + (oneP s k).2 : Nat) : Int) := by rw [wr64] <;> omega
        conv => whnf
        refine CondP.mk (fun h4 => ?_) (fun h4 => ?_)
        · have h4' : k = a := by have := of_decide_eq_true h4; omega
          conv => whnf
          refine (Start_ok hX hX4 _ _ _).mono fun v vh' vn' he => ?_
          obtain ⟨e1, e2, e3⟩ := he
          subst e1; subst e2; subst e3
          conv => whnf
          refine CondP.mk (fun h5 => ?_) (fun h5 => ?_)
          · have h5' : startP (oneP s k).1 = false := by simpa using h5
            rw [if_pos (.inr ⟨h4', h5'⟩)] at hQ
            conv => whnf
            exact hQ
          · have h5' : startP (oneP s k).1 = true := by simpa using h5
            rw [if_neg (by rw [h3', h5']; simp [h2'])] at hQ
            conv => whnf
            rw [e]
            exact Run_L0 hX hX1 hX2 hX4 s hs a _ _ Q f _ (by omega) hle hQ
        · have h4' : ¬ k = a := by have := of_decide_eq_false h4; omega
          rw [if_neg (by rw [h3']; simp [h2', h4'])] at hQ
          conv => whnf
          rw [e]
          exact Run_L0 hX hX1 hX2 hX4 s hs a _ _ Q f _ (by omega) hle hQ
end Go.Proofs.YtpcbnpekdmobpaaGreatDoor
open Go Go.Ev Go.VL
namespace Go.Proofs.YtpcbnpekdmobpaaGreatDoor
attribute [local irreducible] fApp
variable {X : Ovr} {G : Gt}
theorem Run_ok (hX : X F_ref1_in = none) (hX1 : X F_ref1_One = none) (hX2 : X F_ref1_Part = none) (hX4 : X F_ref1_Start = none) (hX5 : X F_ref1_Run = none) (s : List Nat) (hs : s.length < 2 ^ 40) (a : Nat) (ha : a ≤ s.length) (vh : VH) (vn : Nat) :
    WpCall Tryz.prog X G F_ref1_Run [.str s, .int .i64 (a : Int)] vh vn fun v vh' vn' => vh' = vh ∧ vn' = vn ∧ v = .int .i64 (runF s a (s.length + 1) a : Int) := by
  apply k_ref1_Run.run hX5
  conv => whnf
  refine Run_L0 hX hX1 hX2 hX4 s hs a vh vn _ (s.length + 1) a (by omega) ha ?_
  conv => whnf
  exact Get.mk _ (fun _ _ h => h) ⟨rfl, rfl, rfl⟩
def nameP (s : List Nat) : Bool := !decide (s = []) && decide (runF s 0 (s.length + 1) 0 = s.length)
theorem Name_ok (hX : X F_ref1_in = none) (hX1 : X F_ref1_One = none) (hX2 : X F_ref1_Part = none) (hX4 : X F_ref1_Start = none) (hX5 : X F_ref1_Run = none) (hX6 : X F_ref1_Name = none) (s : List Nat) (hs : s.length < 2 ^ 40) (vh : VH) (vn : Nat) :
    WpCall Tryz.prog X G F_ref1_Name [.str s] vh vn fun v vh' vn' => vh' = vh ∧ vn' = vn ∧ v = .bool (nameP s) := by
  apply k_ref1_Name.run hX6
  conv => whnf
  refine CondP.mk (fun h1 => ?_) (fun h1 => ?_)
  · have h1' : ¬ s = [] := by simpa using h1
    conv => whnf
    refine (Run_ok hX hX1 hX2 hX4 hX5 s hs 0 (Nat.zero_le _) vh vn).mono fun v vh' vn' he => ?_
    obtain ⟨e1, e2, e3⟩ := he
    subst e1; subst e2; subst e3
    conv => whnf
    refine Get.mk _ (fun _ _ h => h) ⟨rfl, rfl, ?_⟩
    simp only [nameP, h1', decide_false, Bool.not_false, Bool.true_and]
    show V.bool (decide ((runF s 0 (s.length + 1) 0 : Int) = Int.ofNat s.length)) = _
    congr 1
    simp only [Int.ofNat_eq_natCast, decide_eq_decide]
    omega
  · have h1' : s = [] := by simpa using h1
    conv => whnf
    refine Get.mk _ (fun _ _ h => h) ⟨rfl, rfl, ?_⟩
    simp [nameP, h1']
def colon : List Nat → Option Nat
  | [] => none
  | c :: l => if c = 58 then some 0 else (colon l).map (· + 1)
def ncP (s : List Nat) : Bool := decide (colon s = none) && nameP s
theorem NCName_L0 (s : List Nat) (hs : s.length < 2 ^ 40) (vh : VH) (vn : Nat) (Q : FQ) : ∀ (m i : Nat), s.length - i = m → i ≤ s.length →
    (colon (s.drop i) ≠ none → Q .ret [(2, .bool false)] vh vn) →
    (colon (s.drop i) = none → ∀ i' t, Q (.exit 0) [(0, .str s), (3, .int .i64 i'), (7, .bool t)] vh vn) →
    FLoop Tryz.prog X G (.loop c_ref1_NCName_L0) [(0, .str s), (3, .int .i64 (i : Int))] vh vn Q
  | m, i, hm, hi, hR, hQ => by
    refine FLoop.round ?_
    conv => whnf
    refine CondP.mk (fun h1 => ?_) (fun h1 => ?_)
    · have hlt : i < s.length := by simpa using h1
      have hd : s.drop i = s[i] :: s.drop (i + 1) := (List.getElem_cons_drop hlt).symm
      rw [hd] at hR hQ
      simp only [colon] at hR hQ
      have e : wr .i64 ((i : Int) + 1) = ((i + 1 : Nat) : Int) := by rw [wr64] <;> omega
      conv => whnf
      refine Get.mk (i, s[i]) ⟨rfl, by simp [hlt]⟩ ?_
      conv => whnf
      refine CondP.mk (fun h2 => ?_) (fun h2 => ?_)
      · have h2' : s[i] = 58 := by have := of_decide_eq_true h2; simp only [Int.ofNat_eq_natCast] at this; omega
        conv => whnf
        exact hR (by rw [if_pos h2']; exact nofun)
      · have h2' : ¬ s[i] = 58 := by have := of_decide_eq_false h2; simp only [Int.ofNat_eq_natCast] at this; omega
        rw [if_neg h2'] at hR hQ
        conv => whnf
        rw [e]
        refine NCName_L0 s hs vh vn Q (m - 1) (i + 1) (by omega) (by omega) (fun h => hR ?_) (fun h => hQ ?_)
        · cases hc : colon (s.drop (i + 1)) with
          | none => exact (h hc).elim
          | some x => exact nofun
        · rw [h]; rfl
    · have hlt : i = s.length := by simp at h1; omega
      rw [hlt, List.drop_length] at hQ
      conv => whnf
      exact hQ rfl _ _
termination_by m => m
decreasing_by all_goals omega
theorem NCName_ok (hX : X F_ref1_in = none) (hX1 : X F_ref1_One = none) (hX2 : X F_ref1_Part = none) (hX4 : X F_ref1_Start = none) (hX5 : X F_ref1_Run = none) (hX6 : X F_ref1_Name = none) (hX7 : X F_ref1_NCName = none) (s : List Nat) (hs : s.length < 2 ^ 40) (vh : VH) (vn : Nat) :
    WpCall Tryz.prog X G F_ref1_NCName [.str s] vh vn fun v vh' vn' => vh' = vh ∧ vn' = vn ∧ v = .bool (ncP s) := by
  apply k_ref1_NCName.run hX7
  conv => whnf
  refine NCName_L0 s hs vh vn _ s.length 0 rfl (Nat.zero_le _) (fun h => ?_) (fun h i' t => ?_)
  · rw [List.drop_zero] at h
    conv => whnf
    exact Get.mk _ (fun _ _ h => h) ⟨rfl, rfl, by simp [ncP, h]⟩
  · rw [List.drop_zero] at h
    conv => whnf
    refine (Name_ok hX hX1 hX2 hX4 hX5 hX6 s hs vh vn).mono fun v vh' vn' he => ?_
    obtain ⟨e1, e2, e3⟩ := he
    subst e1; subst e2; subst e3
    conv => whnf
    exact Get.mk _ (fun _ _ h => h) ⟨rfl, rfl, by simp [ncP, h]⟩
end Go.Proofs.YtpcbnpekdmobpaaGreatDoor
open Go Go.Ev Go.VL
namespace Go.Proofs.YtpcbnpekdmobpaaGreatDoor
attribute [local irreducible] fApp
variable {X : Ovr} {G : Gt}
def splitAt2 (s : List Nat) (i : Nat) : List Nat × List Nat × Bool := if ncP (s.take i) = true ∧ ncP (s.drop (i + 1)) = true then (s.take i, s.drop (i + 1), true) else ([], [], false)
def splitP (s : List Nat) : List Nat × List Nat × Bool := match colon s with
  | some i => splitAt2 s i
  | none => if ncP s = true then ([], s, true) else ([], [], false)
structure XN (X : Ovr) : Prop where
  hin : X F_ref1_in = none
  one : X F_ref1_One = none
  part : X F_ref1_Part = none
  start : X F_ref1_Start = none
  run : X F_ref1_Run = none
  name : X F_ref1_Name = none
  nc : X F_ref1_NCName = none
  split : X F_ref1_Split = none
theorem XN.nc_ok (H : XN X) (s : List Nat) (hs : s.length < 2 ^ 40) (vh : VH) (vn : Nat) :
    WpCall Tryz.prog X G F_ref1_NCName [.str s] vh vn fun v vh' vn' => vh' = vh ∧ vn' = vn ∧ v = .bool (ncP s) :=
  NCName_ok H.hin H.one H.part H.start H.run H.name H.nc s hs vh vn
theorem Split_L0 (H : XN X) (s : List Nat) (hs : s.length < 2 ^ 40) (vh : VH) (vn : Nat) (Q : FQ) : ∀ (m i : Nat), s.length - i = m → i ≤ s.length →
    (∀ j, colon (s.drop i) = some j → Q .ret [(2, .str (splitAt2 s (i + j)).1), (3, .str (splitAt2 s (i + j)).2.1), (4, .bool (splitAt2 s (i + j)).2.2)] vh vn) →
    (colon (s.drop i) = none → ∀ i' t, Q (.exit 0) [(0, .str s), (5, .int .i64 i'), (9, .bool t)] vh vn) →
    FLoop Tryz.prog X G (.loop c_ref1_Split_L0) [(0, .str s), (5, .int .i64 (i : Int))] vh vn Q
  | m, i, hm, hi, hR, hQ => by
    refine FLoop.round ?_
    conv => whnf
    refine CondP.mk (fun h1 => ?_) (fun h1 => ?_)
    · have hlt : i < s.length := by simpa using h1
      have hd : s.drop i = s[i] :: s.drop (i + 1) := (List.getElem_cons_drop hlt).symm
      rw [hd] at hR hQ
      simp only [colon] at hR hQ
      have e : wr .i64 ((i : Int) + 1) = ((i + 1 : Nat) : Int) := by rw [wr64] <;> omega
      have et : (s.drop 0).take (i - 0) = s.take i := rfl
      have ed : (s.drop (i + 1)).take (s.length - (i + 1)) = s.drop (i + 1) := List.take_of_length_le (by simp)
      have lt1 : (s.take i).length < 2 ^ 40 := by rw [List.length_take]; omega
      have lt2 : (s.drop (i + 1)).length < 2 ^ 40 := by rw [List.length_drop]; omega
      conv => whnf
      refine Get.mk (i, s[i]) ⟨rfl, by simp [hlt]⟩ ?_
      conv => whnf
      refine CondP.mk (fun h2 => ?_) (fun h2 => ?_)
      · have h2' : s[i] = 58 := by have := of_decide_eq_true h2; simp only [Int.ofNat_eq_natCast] at this; omega
        have hR' := hR 0 (by rw [if_pos h2'])
        rw [Nat.add_zero] at hR'
        conv => whnf
        refine Get.mk i rfl ?_
        conv => whnf
        refine ⟨⟨Nat.zero_le _, hi⟩, ?_⟩
        conv => whnf
        refine (H.nc_ok (s.take i) lt1 vh vn).mono fun v vh' vn' he => ?_
        obtain ⟨e1, e2, e3⟩ := he
        subst e1; subst e2; subst e3
        conv => whnf
        refine CondP.mk (fun h3 => ?_) (fun h3 => ?_)
        · conv => whnf
          refine Get.mk (i + 1) e ?_
          conv => whnf
          refine ⟨⟨hlt, Nat.le_refl _⟩, ?_⟩
          conv => whnf
          rw [ed]
          refine (H.nc_ok (s.drop (i + 1)) lt2 _ _).mono fun v vh' vn' he => ?_
          obtain ⟨e1, e2, e3⟩ := he
          subst e1; subst e2; subst e3
          conv => whnf
          refine CondP.mk (fun h4 => ?_) (fun h4 => ?_)
          · have hn : splitAt2 s i = (s.take i, s.drop (i + 1), true) := by rw [splitAt2, if_pos ⟨h3, h4⟩]
            rw [hn] at hR'
            conv => whnf
            refine Get.mk i rfl ?_
            conv => whnf
            refine ⟨⟨Nat.zero_le _, hi⟩, ?_⟩
            conv => whnf
            refine Get.mk (i + 1) e ?_
            conv => whnf
            refine ⟨⟨hlt, Nat.le_refl _⟩, ?_⟩
            conv => whnf
            rw [ed]
            exact hR'
          · have hn : splitAt2 s i = ([], [], false) := by rw [splitAt2, if_neg]; rintro ⟨_, h⟩; have h4 : ncP (s.drop (i + 1)) = false := h4; rw [h] at h4; cases h4
            rw [hn] at hR'
            conv => whnf
            exact hR'
        · have hn : splitAt2 s i = ([], [], false) := by rw [splitAt2, if_neg]; rintro ⟨h, _⟩; rw [h] at h3; cases h3
          rw [hn] at hR'
          conv => whnf
          exact hR'
      · have h2' : ¬ s[i] = 58 := by have := of_decide_eq_false h2; simp only [Int.ofNat_eq_natCast] at this; omega
        rw [if_neg h2'] at hR hQ
        conv => whnf
        rw [e]
        refine Split_L0 H s hs vh vn Q (m - 1) (i + 1) (by omega) (by omega) (fun j h => ?_) (fun h => hQ ?_)
        · have := hR (j + 1) (by rw [h]; rfl)
          rw [show i + (j + 1) = i + 1 + j by omega] at this
          exact this
        · rw [h]; rfl
    · have hlt : i = s.length := by simp at h1; omega
      rw [hlt, List.drop_length] at hQ
      conv => whnf
      exact hQ rfl _ _
termination_by m => m
decreasing_by all_goals omega
theorem Split_ok (H : XN X) (s : List Nat) (hs : s.length < 2 ^ 40) (vh : VH) (vn : Nat) :
    WpCall Tryz.prog X G F_ref1_Split [.str s] vh vn fun v vh' vn' => vh' = vh ∧ vn' = vn ∧ v = .tup [.str (splitP s).1, .str (splitP s).2.1, .bool (splitP s).2.2] := by
  apply k_ref1_Split.run H.split
  conv => whnf
  refine Split_L0 H s hs vh vn _ s.length 0 rfl (Nat.zero_le _) (fun j h => ?_) (fun h i' t => ?_)
  · rw [List.drop_zero] at h
    rw [Nat.zero_add]
    conv => whnf
    exact Get.mk _ (fun _ _ h => h) ⟨rfl, rfl, by simp only [splitP, h]⟩
  · rw [List.drop_zero] at h
    conv => whnf
    refine (H.nc_ok s hs vh vn).mono fun v vh' vn' he => ?_
    obtain ⟨e1, e2, e3⟩ := he
    subst e1; subst e2; subst e3
    conv => whnf
    refine CondP.mk (fun h1 => ?_) (fun h1 => ?_)
    · have h1' : ncP s = false := by simpa using h1
      conv => whnf
      exact Get.mk _ (fun _ _ h => h) ⟨rfl, rfl, by simp [splitP, h, h1']⟩
    · have h1' : ncP s = true := by simpa using h1
      conv => whnf
      exact Get.mk _ (fun _ _ h => h) ⟨rfl, rfl, by simp [splitP, h, h1']⟩
end Go.Proofs.YtpcbnpekdmobpaaGreatDoor
open Go Go.Ev Go.VL
namespace Go.Proofs.YtpcbnpekdmobpaaGreatDoor
attribute [local irreducible] fApp
variable {X : Ovr} {G : Gt}
def qnameP (p l : List Nat) : List Nat := if p = [] then l else (p ++ S_58_) ++ l
theorem qname_ok (hX : X F_ref15_qname = none) (p l : List Nat) (hp : p.length < 2 ^ 38) (hl : l.length < 2 ^ 38) (vh : VH) (vn : Nat) :
    WpCall Tryz.prog X G F_ref15_qname [.str p, .str l] vh vn fun v vh' vn' => vh' = vh ∧ vn' = vn ∧ v = .str (qnameP p l) := by
  apply k_ref15_qname.run hX
  have e58 : S_58_.length = 1 := rfl
  conv => whnf
  refine CondP.mk (fun h1 => ?_) (fun h1 => ?_)
  · have h1' : p = [] := by simpa using h1
    conv => whnf
    exact Get.mk _ (fun _ _ h => h) ⟨rfl, rfl, by rw [qnameP, if_pos h1']⟩
  · have h1' : ¬ p = [] := by simpa using h1
    conv => whnf
    refine ⟨by show _ < 9223372036854775808; omega, ?_⟩
    conv => whnf
    refine ⟨by show _ < 9223372036854775808; rw [List.length_append]; omega, ?_⟩
    conv => whnf
    exact Get.mk _ (fun _ _ h => h) ⟨rfl, rfl, by rw [qnameP, if_neg h1']⟩
def namedP (p l : List Nat) : Bool := ((splitP (qnameP p l)).2.2 && decide ((splitP (qnameP p l)).1 = p)) && decide ((splitP (qnameP p l)).2.1 = l)
theorem named_ok (H : XN X) (hX : X F_ref15_qname = none) (hX' : X F_ref15_named = none) (p l : List Nat) (hp : p.length < 2 ^ 38) (hl : l.length < 2 ^ 38) (vh : VH) (vn : Nat) :
    WpCall Tryz.prog X G F_ref15_named [.str p, .str l] vh vn fun v vh' vn' => vh' = vh ∧ vn' = vn ∧ v = .bool (namedP p l) := by
  apply k_ref15_named.run hX'
  have hq : (qnameP p l).length < 2 ^ 40 := by
    have e58 : S_58_.length = 1 := rfl
    unfold qnameP
    split
    · omega
    · simp only [List.length_append]; omega
  conv => whnf
  refine (qname_ok hX p l hp hl vh vn).mono fun v vh' vn' he => ?_
  obtain ⟨e1, e2, e3⟩ := he
  subst e1; subst e2; subst e3
  conv => whnf
  refine (Split_ok H _ hq _ _).mono fun v vh' vn' he => ?_
  obtain ⟨e1, e2, e3⟩ := he
  subst e1; subst e2; subst e3
  conv => whnf
  repeat' ((first | refine CondP.mk (fun _ => ?_) (fun _ => ?_)) <;> (conv => whnf))
  all_goals
    refine Get.mk _ (fun _ _ h => h) ⟨rfl, rfl, ?_⟩
    simp_all [namedP]
def holdsF (s w : List Nat) : Nat → Nat → Bool
  | 0, _ => false
  | f + 1, i => if i + w.length ≤ s.length then (if (s.drop i).take (i + w.length - i) = w then true else holdsF s w f (i + 1)) else false
def holdsP (s w : List Nat) : Bool := holdsF s w (s.length + 1) 0
theorem holds_L0 (s w : List Nat) (hs : s.length < 2 ^ 40) (hw : w.length < 2 ^ 40) (vh : VH) (vn : Nat) (Q : FQ) : ∀ (f i : Nat), s.length + 1 - i ≤ f → i ≤ s.length + 1 →
    (holdsF s w f i = true → Q .ret [(4, .bool true)] vh vn) →
    (holdsF s w f i = false → ∀ i' t, Q (.exit 0) [(0, .str s), (1, .str w), (5, .int .i64 i'), (12, .bool t)] vh vn) →
    FLoop Tryz.prog X G (.loop c_ref15_holds_L0) [(0, .str s), (1, .str w), (5, .int .i64 (i : Int))] vh vn Q
  | f, i, hf, hi, hR, hQ => by
    refine FLoop.round ?_
    have e2 : wr .i64 ((i : Int) + Int.ofNat w.length) = ((i + w.length : Nat) : Int) := by simp only [Int.ofNat_eq_natCast]; rw [wr64] <;> omega
    conv => whnf
    refine CondP.mk (fun h1 => ?_) (fun h1 => ?_)
    · rw [e2] at h1
      have h1' : i + w.length ≤ s.length := by have := of_decide_eq_true h1; simp only [Int.ofNat_eq_natCast] at this; omega
      have e : wr .i64 ((i : Int) + 1) = ((i + 1 : Nat) : Int) := by rw [wr64] <;> omega
      obtain ⟨f, rfl⟩ : ∃ k, f = k + 1 := ⟨f - 1, by omega⟩
      simp only [holdsF, if_pos h1'] at hR hQ
      conv => whnf
      refine Get.mk i rfl ?_
      conv => whnf
      refine Get.mk (i + w.length) e2 ?_
      conv => whnf
      refine ⟨⟨Nat.le_add_right _ _, h1'⟩, ?_⟩
      conv => whnf
      refine CondP.mk (fun h2 => ?_) (fun h2 => ?_)
      · have h2' := of_decide_eq_true h2
        rw [if_pos h2'] at hR
        conv => whnf
        exact hR rfl
      · have h2' := of_decide_eq_false h2
        rw [if_neg h2'] at hR hQ
        conv => whnf
        rw [e]
        exact holds_L0 s w hs hw vh vn Q f (i + 1) (by omega) (by omega) hR hQ
    · rw [e2] at h1
      have h1' : ¬ i + w.length ≤ s.length := by have := of_decide_eq_false h1; simp only [Int.ofNat_eq_natCast] at this; omega
      have hz : holdsF s w f i = false := by
        cases f with
        | zero => rfl
        | succ f => simp only [holdsF, if_neg h1']
      conv => whnf
      exact hQ hz _ _
termination_by f => f
decreasing_by all_goals omega
theorem holds_ok (hX : X F_ref15_holds = none) (s w : List Nat) (hs : s.length < 2 ^ 40) (hw : w.length < 2 ^ 40) (vh : VH) (vn : Nat) :
    WpCall Tryz.prog X G F_ref15_holds [.str s, .str w] vh vn fun v vh' vn' => vh' = vh ∧ vn' = vn ∧ v = .bool (holdsP s w) := by
  apply k_ref15_holds.run hX
  conv => whnf
  refine holds_L0 s w hs hw vh vn _ (s.length + 1) 0 (by omega) (by omega) (fun h => ?_) (fun h i' t => ?_)
  · conv => whnf
    exact Get.mk _ (fun _ _ h => h) ⟨rfl, rfl, by rw [holdsP, h]⟩
  · conv => whnf
    exact Get.mk _ (fun _ _ h => h) ⟨rfl, rfl, by rw [holdsP, h]⟩
end Go.Proofs.YtpcbnpekdmobpaaGreatDoor
open Go Go.Ev Go.VL
namespace Go.Proofs.YtpcbnpekdmobpaaGreatDoor
attribute [local irreducible] fApp
variable {X : Ovr} {G : Gt}
theorem attr_ext {a b : Attr} (h : decide ([a.p, a.l, a.u, a.v] = [b.p, b.l, b.u, b.v]) = true) : a = b := by
  cases a; cases b; simpa using h
theorem Same_L0 (ba : Nat) (ta : TypeId) (xs ys : List Attr) (hl : xs.length = ys.length) (hN : xs.length < 2 ^ 30) (vh : VH) (vn : Nat) (ha : vh ba = some (.cells (xs.map encA).flatten ta 0 false)) (Q : FQ) : ∀ (m i : Nat), xs.length - i = m → i ≤ xs.length →
    (¬ xs.drop i = ys.drop i → Q .ret [(4, .bool false)] vh vn) →
    (xs.drop i = ys.drop i → ∀ i' t, Q (.exit 0) [(0, .msl ba 0 xs.length 4 none), (1, .sl 4 (ys.map encA) none), (5, .int .i64 i'), (14, .bool t)] vh vn) →
    FLoop Tryz.prog X G (.loop c_ref10_SameAttrs_L0) [(0, .msl ba 0 xs.length 4 none), (1, .sl 4 (ys.map encA) none), (5, .int .i64 (i : Int))] vh vn Q
  | m, i, hm, hi, hR, hQ => by
    refine FLoop.round ?_
    conv => whnf
    refine CondP.mk (fun h1 => ?_) (fun h1 => ?_)
    · have hlt : i < xs.length := by simpa using h1
      have hly : i < ys.length := by omega
      have hd : xs.drop i = xs[i] :: xs.drop (i + 1) := (List.getElem_cons_drop hlt).symm
      have hd2 : ys.drop i = ys[i] :: ys.drop (i + 1) := (List.getElem_cons_drop hly).symm
      rw [hd, hd2] at hR hQ
      have e : wr .i64 ((i : Int) + 1) = ((i + 1 : Nat) : Int) := by rw [wr64] <;> omega
      conv => whnf
      refine Get.mk i ⟨rfl, hlt⟩ ?_
      conv => whnf
      refine Get.mk (_, _, _, _) ha ?_
      conv => whnf
      refine Get.mk _ (encA_all hlt) ?_
      conv => whnf
      refine Get.mk (i, encA ys[i]) ⟨rfl, by simp [hly]⟩ ?_
      conv => whnf
      refine CondP.mk (fun h2 => ?_) (fun h2 => ?_)
      · have h2 : (!decide ([xs[i].p, xs[i].l, xs[i].u, xs[i].v] = [ys[i].p, ys[i].l, ys[i].u, ys[i].v])) = true := h2
        conv => whnf
        refine hR fun h => ?_
        rw [(List.cons.inj h).1] at h2
        simp at h2
      · have h2 : (!decide ([xs[i].p, xs[i].l, xs[i].u, xs[i].v] = [ys[i].p, ys[i].l, ys[i].u, ys[i].v])) = false := h2
        have h2' : xs[i] = ys[i] := attr_ext (by simpa using h2)
        conv => whnf
        rw [e]
        refine Same_L0 ba ta xs ys hl hN vh vn ha Q (m - 1) (i + 1) (by omega) (by omega) (fun h => hR fun h3 => h (List.cons.inj h3).2) (fun h => hQ (by rw [h, h2']))
    · have hlt : i = xs.length := by simp at h1; omega
      have e1 : xs.drop i = ys.drop i := by rw [hlt, List.drop_length, hl, List.drop_length]
      conv => whnf
      exact hQ e1 _ _
termination_by m => m
decreasing_by all_goals omega
theorem Same_ok (hX : X F_ref10_SameAttrs = none) (v : V) (xs ys : List Attr) (hN : xs.length < 2 ^ 30) (vh : VH) (vn : Nat) (ha : SlR encA 4 vh v xs) :
    WpCall Tryz.prog X G F_ref10_SameAttrs [v, .sl 4 (ys.map encA) none] vh vn fun r vh' vn' => vh' = vh ∧ vn' = vn ∧ ∃ b, r = .bool b ∧ (b = true ↔ xs = ys) := by
  apply k_ref10_SameAttrs.run hX
  rcases id ha with ⟨rfl, rfl⟩ | ⟨rfl, rfl⟩ | ⟨ba, ta, rfl, h4⟩
  · conv => whnf
    refine CondP.mk (fun h1 => ?_) (fun h1 => ?_)
    · have hne : ys ≠ [] := fun h => by subst h; simp at h1
      conv => whnf
      exact Get.mk _ (fun _ _ h => h) ⟨rfl, rfl, _, rfl, by simp [hne.symm]⟩
    · have hy : ys = [] := List.eq_nil_of_length_eq_zero (by simp at h1; omega)
      subst hy
      conv => whnf
      refine FLoop.round ?_
      conv => whnf
      exact Get.mk _ (fun _ _ h => h) ⟨rfl, rfl, _, rfl, by simp⟩
  · conv => whnf
    refine CondP.mk (fun h1 => ?_) (fun h1 => ?_)
    · have hne : ys ≠ [] := fun h => by subst h; simp at h1
      conv => whnf
      exact Get.mk _ (fun _ _ h => h) ⟨rfl, rfl, _, rfl, by simp [hne.symm]⟩
    · have hy : ys = [] := List.eq_nil_of_length_eq_zero (by simp at h1; omega)
      subst hy
      conv => whnf
      refine FLoop.round ?_
      conv => whnf
      exact Get.mk _ (fun _ _ h => h) ⟨rfl, rfl, _, rfl, by simp⟩
  · conv => whnf
    refine CondP.mk (fun h1 => ?_) (fun h1 => ?_)
    · have hne : xs ≠ ys := fun h => by subst h; simp at h1
      conv => whnf
      exact Get.mk _ (fun _ _ h => h) ⟨rfl, rfl, _, rfl, by simp [hne]⟩
    · have hl : xs.length = ys.length := by simp at h1; omega
      conv => whnf
      refine Same_L0 ba ta xs ys hl hN vh vn h4 _ xs.length 0 rfl (Nat.zero_le _) (fun h => ?_) (fun h i' t => ?_)
      · rw [List.drop_zero, List.drop_zero] at h
        conv => whnf
        exact Get.mk _ (fun _ _ h => h) ⟨rfl, rfl, _, rfl, by simp [h]⟩
      · rw [List.drop_zero, List.drop_zero] at h
        conv => whnf
        exact Get.mk _ (fun _ _ h => h) ⟨rfl, rfl, _, rfl, by simp [h]⟩
end Go.Proofs.YtpcbnpekdmobpaaGreatDoor
open Go Go.Ev Go.VL
namespace Go.Proofs.YtpcbnpekdmobpaaGreatDoor
attribute [local irreducible] fApp
variable {X : Ovr} {G : Gt}
def lowB (c : Nat) : Nat := if 65 ≤ c ∧ c ≤ 90 then c + 32 else c
theorem low_wr (c : Nat) (h : c ≤ 90) : wr .u8 (Int.ofNat c + 32) = Int.ofNat (c + 32) := by
  rw [wr_eq]
  simp only [IntKind.wrap, IntKind.signed, IntKind.bits]
  simp
  omega
theorem byte_get {l : List Nat} {i : Nat} (h : i < l.length) : (l.map byteV)[0 + i * 1]? = some (byteV l[i]) := by
  rw [Nat.zero_add, Nat.mul_one, List.getElem?_map, List.getElem?_eq_getElem h]; rfl
theorem byte_set {l : List Nat} {i : Nat} (h : i < l.length) (c : Nat) : setSeg (l.map byteV) (0 + i * 1) [byteV c] = (l.set i c).map byteV := by
  rw [Nat.zero_add, Nat.mul_one]
  induction l generalizing i with
  | nil => simp at h
  | cons a l ih => cases i with
    | zero => simp [setSeg, app_eq, drp_eq, len_eq]
    | succ i => simp only [List.map_cons, setSeg, List.set_cons_succ, ih (by simpa using h)]
theorem take_setN {α : Type} (xs : List α) (i : Nat) (h : i < xs.length) (a : α) (r : List α) : (xs.set i a).take (i + 1) ++ r = xs.take i ++ (a :: r) := by
  induction xs generalizing i with
  | nil => simp at h
  | cons b xs ih => cases i with
    | zero => simp
    | succ i => have := ih i (by simpa using h); simp only [List.set_cons_succ, List.take_succ_cons, List.cons_append, this]
theorem drop_setN {α : Type} (xs : List α) (i : Nat) (a : α) : (xs.set i a).drop (i + 1) = xs.drop (i + 1) := by
  rw [List.drop_set_of_lt]; omega
theorem lower_L0 (b : Nat) (ty : TypeId) (n : Nat) (hn : n < 2 ^ 40) (vn : Nat) (Q : FQ) : ∀ (m i : Nat), n - i = m → i ≤ n → ∀ (vh : VH) (l : List Nat), l.length = n → vh b = some (.cells (l.map byteV) ty 0 true) →
    (∀ vh' i' t, vh' b = some (.cells ((l.take i ++ (l.drop i).map lowB).map byteV) ty 0 true) → (∀ c, c ≠ b → vh' c = vh c) → Q (.exit 0) [(3, .msl b 0 n 1 none), (4, .int .i64 i'), (10, .bool t)] vh' vn) →
    FLoop Tryz.prog X G (.loop c_ref10_lower_L0) [(3, .msl b 0 n 1 none), (4, .int .i64 (i : Int))] vh vn Q
  | m, i, hm, hi, vh, l, hl, hb, hQ => by
    refine FLoop.round ?_
    conv => whnf
    refine CondP.mk (fun h1 => ?_) (fun h1 => ?_)
    · have hin : i < n := by simpa using h1
      have hlt : i < l.length := by omega
      have hd : l.drop i = l[i] :: l.drop (i + 1) := (List.getElem_cons_drop hlt).symm
      have e : wr .i64 ((i : Int) + 1) = ((i + 1 : Nat) : Int) := by rw [wr64] <;> omega
      rw [hd] at hQ
      conv => whnf
      refine Get.mk i ⟨rfl, hin⟩ ?_
      conv => whnf
      refine Get.mk (_, _, _, _) hb ?_
      conv => whnf
      refine Get.mk _ (byte_get hlt) ?_
      conv => whnf
      have same : ¬ (65 ≤ l[i] ∧ l[i] ≤ 90) → FLoop Tryz.prog X G (.loop c_ref10_lower_L0) [(3, .msl b 0 n 1 none), (4, .int .i64 ((i + 1 : Nat) : Int))] vh vn Q := fun h => by
        refine lower_L0 b ty n hn vn Q (m - 1) (i + 1) (by omega) (by omega) vh l hl hb fun vh' i' t h1 h2 => hQ vh' i' t ?_ h2
        have := take_setN l i hlt l[i] ((l.drop (i + 1)).map lowB)
        rw [List.set_getElem_self] at this
        rw [this] at h1
        rw [List.map_cons, lowB, if_neg h]
        exact h1
      refine CondP.mk (fun h2 => ?_) (fun h2 => ?_)
      · have h2' : 65 ≤ l[i] := by have := of_decide_eq_true h2; simp only [Int.ofNat_eq_natCast] at this; omega
        conv => whnf
        refine Get.mk i ⟨rfl, hin⟩ ?_
        conv => whnf
        refine Get.mk (_, _, _, _) hb ?_
        conv => whnf
        refine Get.mk _ (byte_get hlt) ?_
        conv => whnf
        refine CondP.mk (fun h3 => ?_) (fun h3 => ?_)
        · have h3' : l[i] ≤ 90 := by have := of_decide_eq_true h3; simp only [Int.ofNat_eq_natCast] at this; omega
          conv => whnf
          refine Get.mk i ⟨rfl, hin⟩ ?_
          conv => whnf
          refine Get.mk (_, _, _, _) hb ?_
          conv => whnf
          refine Get.mk _ (byte_get hlt) ?_
          conv => whnf
          refine Get.mk i ⟨rfl, hin⟩ ?_
          conv => whnf
          refine Get.mk (_, _, _, _) hb ?_
          conv => whnf
          refine ⟨⟨by show _ ≤ (l.map byteV).length; rw [List.length_map]; omega, Nat.zero_le _⟩, ?_⟩
          conv => whnf
          generalize hv : vset vh b _ = vh1
          have hb1 : vh1 b = some (.cells ((l.set i (l[i] + 32)).map byteV) ty 0 true) := by
            rw [← hv]
            refine vset_same.trans ?_
            show some (VB.cells (setSeg (l.map byteV) (0 + i * 1) [.int .u8 (wr .u8 (Int.ofNat l[i] + 32))]) ty 0 true) = _
            rw [low_wr _ h3', ← byte_set hlt]; rfl
          have hf1 : ∀ c, c ≠ b → vh1 c = vh c := fun c hc => by rw [← hv]; exact vset_ne hc
          rw [e]
          refine lower_L0 b ty n hn vn Q (m - 1) (i + 1) (by omega) (by omega) vh1 _ (by rw [List.length_set]; exact hl) hb1 fun vh' i' t h1 h2 => hQ vh' i' t ?_ fun c hc => (h2 c hc).trans (hf1 c hc)
          rw [take_setN l i hlt, drop_setN] at h1
          rw [List.map_cons, lowB, if_pos ⟨h2', h3'⟩]
          exact h1
        · have h3' : ¬ l[i] ≤ 90 := by have := of_decide_eq_false h3; simp only [Int.ofNat_eq_natCast] at this; omega
          conv => whnf
          rw [e]
          exact same fun h => h3' h.2
      · have h2' : ¬ 65 ≤ l[i] := by have := of_decide_eq_false h2; simp only [Int.ofNat_eq_natCast] at this; omega
        conv => whnf
        rw [e]
        exact same fun h => h2' h.1
    · have hlt : i = l.length := by simp at h1; omega
      rw [hlt, List.drop_length, List.take_length] at hQ
      conv => whnf
      exact hQ vh _ _ (by simpa using hb) fun _ _ => rfl
termination_by m => m
decreasing_by all_goals omega
def lowP (s : List Nat) : List Nat := s.map lowB
theorem lower_ok (hX : X F_ref10_lower = none) (s : List Nat) (hs : s.length < 2 ^ 40) (hB : ∀ c ∈ s, c < 256) (vh : VH) (vn : Nat) :
    WpCall Tryz.prog X G F_ref10_lower [.str s] vh vn fun v vh' vn' => vn ≤ vn' ∧ (∀ c, c < vn → vh' c = vh c) ∧ v = .str (lowP s) := by
  apply k_ref10_lower.run hX
  conv => whnf
  refine lower_L0 vn T_uint8 s.length hs (vn + 1) _ s.length 0 rfl (Nat.zero_le _) _ s rfl vset_same fun vh' i' t h1 h2 => ?_
  rw [List.drop_zero, List.take_zero, List.nil_append] at h1
  conv => whnf
  refine Get.mk (_, _, _, _) h1 ?_
  conv => whnf
  refine Get.mk (lowP s) ⟨?_, ?_, ?_⟩ ?_
  · show ((((s.map lowB).map byteV).drop 0).take s.length) = _
    rw [List.drop_zero, List.take_of_length_le (by simp)]; rfl
  · show 0 + s.length ≤ ((s.map lowB).map byteV).length
    simp
  · intro c hc
    obtain ⟨d, hd, rfl⟩ := List.mem_map.1 hc
    have := hB d hd
    unfold lowB
    split <;> omega
  conv => whnf
  exact Get.mk _ (fun _ _ h => h) ⟨Nat.le_succ _, fun c hc => (h2 c (by omega)).trans (vset_ne (by omega)), rfl⟩
end Go.Proofs.YtpcbnpekdmobpaaGreatDoor
open Go Go.Ev Go.VL
namespace Go.Proofs.YtpcbnpekdmobpaaGreatDoor
attribute [local irreducible] fApp
variable {X : Ovr} {G : Gt}
def targetP (s : List Nat) : Bool := ncP s && !decide (lowP s = S_xml)
theorem Target_ok (H : XN X) (hX : X F_ref10_lower = none) (hX' : X F_ref10_Target = none) (s : List Nat) (hs : s.length < 2 ^ 40) (hB : ∀ c ∈ s, c < 256) (vh : VH) (vn : Nat) :
    WpCall Tryz.prog X G F_ref10_Target [.str s] vh vn fun v vh' vn' => vn ≤ vn' ∧ (∀ c, c < vn → vh' c = vh c) ∧ v = .bool (targetP s) := by
  apply k_ref10_Target.run hX'
  conv => whnf
  refine (H.nc_ok s hs vh vn).mono fun v vh' vn' he => ?_
  obtain ⟨e1, e2, e3⟩ := he
  subst e1; subst e2; subst e3
  conv => whnf
  refine CondP.mk (fun h1 => ?_) (fun h1 => ?_)
  · conv => whnf
    refine (lower_ok hX s hs hB _ _).mono fun v vh2 vn2 he => ?_
    obtain ⟨e1, e2, e3⟩ := he
    subst e3
    conv => whnf
    exact Get.mk _ (fun _ _ h => h) ⟨e1, e2, by simp [targetP, h1]⟩
  · conv => whnf
    exact Get.mk _ (fun _ _ h => h) ⟨Nat.le_refl _, fun _ _ => rfl, by simp [targetP, h1]⟩
end Go.Proofs.YtpcbnpekdmobpaaGreatDoor
open Go Go.Ev Go.VL
namespace Go.Proofs.YtpcbnpekdmobpaaGreatDoor
attribute [local irreducible] fApp
variable {X : Ovr} {G : Gt}
structure XP (X : Ovr) : Prop extends XN X where
  char : X F_ref1_Char = none
  valid : X F_ref1_Valid = none
  space : X F_ref1_Space = none
  holds : X F_ref15_holds = none
  lower : X F_ref10_lower = none
  target : X F_ref10_Target = none
  plain : X F_ref15_plain = none
def plainBad (n : Nd) : Bool := (((!decide (n.p = []) || !decide (n.u = [])) || decide (0 < n.s.length)) || (!decide (n.k = 5) && !decide (n.l = []))) || !validP n.v
def plainP (n : Nd) : Bool :=
  if plainBad n = true then false
  else if n.k = 3 then !decide (n.v = [])
  else if n.k = 4 then (!holdsP n.v S_13_ && !holdsP n.v S_45__45_) && (decide (n.v = []) || !decide ((n.v.getLastD 0 : Int) = 45))
  else if n.k = 5 then ((targetP n.l && !holdsP n.v S_13_) && !holdsP n.v S_63__62_) && (decide (n.v = []) || !spaceP (wr .i32 (.ofNat (n.v.headD 0))))
  else false
theorem get_last {l : List Nat} (hl : l.length < 2 ^ 40) (hne : ¬ l = []) {k : Nat × Nat → Prop} (hk : k (l.length - 1, l.getLastD 0)) : Get (fun p : Nat × Nat => wr .i64 (Int.ofNat l.length - 1) = (p.1 : Int) ∧ l[p.1]? = some p.2) k := by
  have hp : 0 < l.length := by cases l with | nil => exact (hne rfl).elim | cons _ _ => simp
  refine .mk _ ⟨?_, ?_⟩ hk
  · simp only [Int.ofNat_eq_natCast]
    rw [wr64] <;> omega
  · show l[l.length - 1]? = some (l.getLastD 0)
    rw [List.getLastD_eq_getLast?, ← List.getLast?_eq_getElem?]
    cases h : l.getLast? with
    | none => exact (hne (List.getLast?_eq_none_iff.1 h)).elim
    | some x => rfl
theorem get_head {l : List Nat} (hne : ¬ l = []) {k : Nat × Nat → Prop} (hk : k (0, l.headD 0)) : Get (fun p : Nat × Nat => (0 : Int) = (p.1 : Int) ∧ l[p.1]? = some p.2) k := by
  refine .mk _ ⟨rfl, ?_⟩ hk
  cases l with
  | nil => exact (hne rfl).elim
  | cons _ _ => rfl
theorem plain_ok (H : XP X) (n : Nd) (hv : n.v.length < 2 ^ 40) (hl : n.l.length < 2 ^ 40) (hB : ∀ c ∈ n.l, c < 256) (vh : VH) (vn : Nat) :
    WpCall Tryz.prog X G F_ref15_plain [.agg (encN n)] vh vn fun v vh' vn' => vn ≤ vn' ∧ (∀ c, c < vn → vh' c = vh c) ∧ v = .bool (plainP n) := by
  apply k_ref15_plain.run H.plain
  conv => whnf
  repeat' ((first | refine CondP.mk (fun _ => ?_) (fun _ => ?_) | (refine (Valid_ok H.hin H.one H.char H.valid n.v hv _ _).mono (fun v vh' vn' he => ?_); obtain ⟨e1, e2, e3⟩ := he; subst e1; subst e2; subst e3) | (refine (holds_ok H.holds n.v _ hv (by decide) _ _).mono (fun v vh' vn' he => ?_); obtain ⟨f1, f2, f3⟩ := he; rw [f1, f2, f3]) | (refine (Target_ok H.toXN H.lower H.target n.l hl hB _ _).mono (fun v vh' vn' he => ?_); obtain ⟨e1, e2, e3⟩ := he; subst e3) | (refine get_last hv (of_decide_eq_false (by assumption)) ?_) | (refine get_head (of_decide_eq_false (by assumption)) ?_) | (refine (Space_ok H.space (wr .i32 (Int.ofNat (n.v.headD 0))) _ _).mono (fun v vh' vn' he => ?_); obtain ⟨f1, f2, f3⟩ := he; rw [f1, f2, f3])) <;> (conv => whnf))
  all_goals first
    | (refine Get.mk _ (fun _ _ h => h) ⟨Nat.le_refl _, fun _ _ => rfl, ?_⟩
       clear hB H
       simp_all [plainP, plainBad]
       done)
    | (refine Get.mk _ (fun _ _ h => h) ⟨by omega, by intro c hc; simp_all, ?_⟩
       clear hB H
       simp_all [plainP, plainBad]
       done)
    | trace_state
end Go.Proofs.YtpcbnpekdmobpaaGreatDoor
open Go Go.Ev Go.VL
namespace Go.Proofs.YtpcbnpekdmobpaaGreatDoor
attribute [local irreducible] fApp
variable {X : Ovr} {G : Gt}
def nsInit (a : Attr) : Attr := { a with u := if a.p = S_xmlns ∨ a.p = [] ∧ a.l = S_xmlns then XMLNSURI else [] }
def attrsOk : List Attr → List Attr → Bool
  | _, [] => true
  | pre, a :: l => (namedP a.p a.l && validP a.v) && !pre.any (fun b => sameName b a) && attrsOk (pre ++ [nsInit a]) l
def attrL (a : Attr) : List (List Nat) := [a.p, a.l, a.u, a.v]
theorem attrL_inj {xs ys : List Attr} : xs.map attrL = ys.map attrL ↔ xs = ys := by
  refine ⟨fun h => ?_, fun h => by rw [h]⟩
  induction xs generalizing ys with
  | nil => cases ys with | nil => rfl | cons _ _ => cases h
  | cons a xs ih => cases ys with
    | nil => cases h
    | cons b ys =>
      simp only [List.map_cons, List.cons.injEq] at h
      rw [ih h.2]
      obtain ⟨p, l, u, v⟩ := a
      obtain ⟨p', l', u', v'⟩ := b
      have := h.1
      simp only [attrL, List.cons.injEq, and_true] at this
      obtain ⟨rfl, rfl, rfl, rfl⟩ := this
      rfl
def elementP (lv : List (List Attr)) (n : Nd) : Bool × List (List Attr) :=
  if namedP n.p n.l = false ∨ n.v ≠ [] then (false, lv)
  else if attrsOk [] n.s = false then (false, lv)
  else match pushP [] (n.s.map nsInit) with
    | none => (false, lv)
    | some ms => ((namesP (lv ++ [ms]) { n with s := n.s.map nsInit }).2 && decide ((namesP (lv ++ [ms]) { n with s := n.s.map nsInit }).1.u = n.u) && decide ((namesP (lv ++ [ms]) { n with s := n.s.map nsInit }).1.s.map attrL = n.s.map attrL), lv ++ [ms])
end Go.Proofs.YtpcbnpekdmobpaaGreatDoor
open Go Go.Ev Go.VL
namespace Go.Proofs.YtpcbnpekdmobpaaGreatDoor
attribute [local irreducible] fApp
variable {X : Ovr} {G : Gt}
structure XE (X : Ovr) : Prop extends XP X where
  declares : X F_ref10_Declares = none
  uri : X F_ref10_Scope_URI = none
  push : X F_ref10_Scope_Push = none
  pop : X F_ref10_Scope_Pop = none
  names : X F_ref15_Names = none
  same : X F_ref10_SameAttrs = none
  qname : X F_ref15_qname = none
  named : X F_ref15_named = none
  element : X F_ref15_element = none
structure AtSmall (a : Attr) : Prop where
  p : a.p.length < 2 ^ 38
  l : a.l.length < 2 ^ 38
  v : a.v.length < 2 ^ 40
structure NdSmall (n : Nd) : Prop where
  p : n.p.length < 2 ^ 38
  l : n.l.length < 2 ^ 38
  v : n.v.length < 2 ^ 40
  b : ∀ c ∈ n.l, c < 256
  s : n.s.length < 2 ^ 30
  a : ∀ a ∈ n.s, AtSmall a
theorem El_L1 (bs bm ba : Nat) (n nm : Nd) (a : Attr) (ys : List Attr) (hN : ys.length < 2 ^ 30) (vh : VH) (vn : Nat) (ty ta : TypeId) (hn : vh bm = some (.cells (encNv nm (.msl ba 0 ys.length 4 none)) ty 0 false)) (ha : vh ba = some (.cells (ys.map encA).flatten ta 0 false)) (i : Nat) (hi : i < ys.length) (Q : FQ) : ∀ (m k : Nat), i - k = m → k ≤ i →
    (((ys.take i).drop k).any (fun b => sameName b a) = true → Q .ret [(4, .bool false)] vh vn) →
    (((ys.take i).drop k).any (fun b => sameName b a) = false → ∀ k' t, Q (.exit 2) [(0, .ptr bs 0), (3, .bx (encN n)), (5, .ptr bm 0), (6, .int .i64 (i : Int)), (7, .bx (encA a)), (8, .int .i64 k'), (52, .bool t)] vh vn) →
    FLoop Tryz.prog X G (.loop c_ref15_element_L1) [(0, .ptr bs 0), (3, .bx (encN n)), (5, .ptr bm 0), (6, .int .i64 (i : Int)), (7, .bx (encA a)), (8, .int .i64 (k : Int))] vh vn Q
  | m, k, hm, hk, hR, hQ => by
    refine FLoop.round ?_
    conv => whnf
    refine CondP.mk (fun h1 => ?_) (fun h1 => ?_)
    · have hlt : k < i := by simpa using h1
      have hkx : k < ys.length := by omega
      have hd : (ys.take i).drop k = ys[k] :: (ys.take i).drop (k + 1) := by
        rw [← List.getElem_cons_drop (by simp; omega : k < (ys.take i).length), List.getElem_take]
      rw [hd, List.any_cons] at hR hQ
      have e : wr .i64 ((k : Int) + 1) = ((k + 1 : Nat) : Int) := by rw [wr64] <;> omega
      conv => whnf
      refine Get.mk (_, _, _, _) hn ?_
      conv => whnf
      refine Get.mk _ rfl ?_
      conv => whnf
      refine Get.mk _ ⟨rfl, hkx⟩ ?_
      conv => whnf
      refine Get.mk (_, _, _, _) ha ?_
      conv => whnf
      refine Get.mk _ (encA_0 hkx) ?_
      conv => whnf
      refine CondP.mk (fun h2 => ?_) (fun h2 => ?_)
      · simp at h2
        conv => whnf
        refine Get.mk (_, _, _, _) hn ?_
        conv => whnf
        refine Get.mk _ rfl ?_
        conv => whnf
        refine Get.mk _ ⟨rfl, hkx⟩ ?_
        conv => whnf
        refine Get.mk (_, _, _, _) ha ?_
        conv => whnf
        refine Get.mk _ (encA_1 hkx) ?_
        conv => whnf
        refine CondP.mk (fun h3 => ?_) (fun h3 => ?_)
        · simp at h3
          have hs : sameName ys[k] a = true := by simp [sameName, h2, h3]
          conv => whnf
          exact hR (by rw [hs]; rfl)
        · simp at h3
          have hs : sameName ys[k] a = false := by simp [sameName, h3]
          rw [hs, Bool.false_or] at hR hQ
          conv => whnf
          rw [e]
          exact El_L1 bs bm ba n nm a ys hN vh vn ty ta hn ha i hi Q (m - 1) (k + 1) (by omega) (by omega) hR hQ
      · simp at h2
        have hs : sameName ys[k] a = false := by simp [sameName, h2]
        rw [hs, Bool.false_or] at hR hQ
        conv => whnf
        rw [e]
        exact El_L1 bs bm ba n nm a ys hN vh vn ty ta hn ha i hi Q (m - 1) (k + 1) (by omega) (by omega) hR hQ
    · have hlt : k = i := by simp at h1; omega
      have e1 : (ys.take i).drop k = [] := List.drop_eq_nil_of_le (by simp; omega)
      rw [e1] at hQ
      conv => whnf
      exact hQ rfl _ _
termination_by m => m
decreasing_by all_goals omega
theorem small_set {ys : List Attr} (h : ∀ a ∈ ys, AtSmall a) {i : Nat} (hi : i < ys.length) (w : List Nat) : ∀ a ∈ ys.set i { ys[i] with u := w }, AtSmall a := by
  intro a ha
  rcases List.mem_or_eq_of_mem_set ha with h1 | rfl
  · exact h a h1
  · obtain ⟨h1, h2, h3⟩ := h _ (List.getElem_mem hi)
    exact ⟨h1, h2, h3⟩
theorem El_L0 (H : XE X) (bs bm ba : Nat) (n nm : Nd) (N : Nat) (hN : N < 2 ^ 30) (vn : Nat) (d3 : ba ≠ bm) (ty ta : TypeId) (Q : FQ) : ∀ (m i : Nat), N - i = m → i ≤ N → ∀ (vh : VH) (ys : List Attr), ys.length = N → (∀ a ∈ ys, AtSmall a) → vh bm = some (.cells (encNv nm (.msl ba 0 N 4 none)) ty 0 false) → vh ba = some (.cells (ys.map encA).flatten ta 0 false) →
    (attrsOk (ys.take i) (ys.drop i) = false → ∀ vh', (∀ c, c ≠ ba → vh' c = vh c) → Q .ret [(4, .bool false)] vh' vn) →
    (attrsOk (ys.take i) (ys.drop i) = true → ∀ vh' i' t, vh' ba = some (.cells ((ys.take i ++ (ys.drop i).map nsInit).map encA).flatten ta 0 false) → (∀ c, c ≠ ba → vh' c = vh c) → Q (.exit 0) [(0, .ptr bs 0), (3, .bx (encN n)), (5, .ptr bm 0), (6, .int .i64 i'), (30, .bool t)] vh' vn) →
    FLoop Tryz.prog X G (.loop c_ref15_element_L0) [(0, .ptr bs 0), (3, .bx (encN n)), (5, .ptr bm 0), (6, .int .i64 (i : Int))] vh vn Q
  | m, i, hm, hi, vh, ys, hys, hsm, hn, ha, hR, hQ => by
    refine FLoop.round ?_
    conv => whnf
    refine Get.mk (_, _, _, _) hn ?_
    conv => whnf
    refine Get.mk _ rfl ?_
    conv => whnf
    refine CondP.mk (fun h1 => ?_) (fun h1 => ?_)
    · have hlt : i < ys.length := by have : i < N := by simpa using h1
                                     omega
      have hiN : i < N := by omega
      have hd : ys.drop i = ys[i] :: ys.drop (i + 1) := (List.getElem_cons_drop hlt).symm
      rw [hd] at hR hQ
      simp only [attrsOk, List.map_cons] at hR hQ
      have e : wr .i64 ((i : Int) + 1) = ((i + 1 : Nat) : Int) := by rw [wr64] <;> omega
      have hw : ∀ zs : List Attr, zs.length = N → 0 + i * 4 + 2 + 1 ≤ (zs.map encA).flatten.length := fun zs hz => by have := flat_lt encA_len zs i (by omega); omega
      have sm := hsm ys[i] (List.getElem_mem hlt)
      have nxt : ∀ (w : List Nat) (vh2 : VH), nsInit ys[i] = { ys[i] with u := w } → namedP ys[i].p ys[i].l = true → validP ys[i].v = true → (ys.take i).any (fun b => sameName b ys[i]) = false → vh2 ba = some (.cells ((ys.set i { ys[i] with u := w }).map encA).flatten ta 0 false) → (∀ c, c ≠ ba → vh2 c = vh c) →
          FLoop Tryz.prog X G (.loop c_ref15_element_L0) [(0, .ptr bs 0), (3, .bx (encN n)), (5, .ptr bm 0), (6, .int .i64 ((i + 1 : Nat) : Int))] vh2 vn Q := fun w vh2 ew q1 q2 q3 a2 f2 => by
        rw [q1, q2, q3, ew] at hR hQ
        simp only [Bool.and_self, Bool.not_false, Bool.true_and] at hR hQ
        have hp : (ys.set i { ys[i] with u := w }).take (i + 1) = ys.take i ++ [{ ys[i] with u := w }] := by
          have := take_set ys i hlt { ys[i] with u := w } []
          simpa using this
        refine El_L0 H bs bm ba n nm N hN vn d3 ty ta Q (m - 1) (i + 1) (by omega) (by omega) vh2 _ (by rw [List.length_set]; exact hys) (small_set hsm hlt w) ((f2 bm (Ne.symm d3)).trans hn) a2 ?_ ?_
        · rw [hp, drop_set]
          exact fun h vh' h1 => hR h vh' fun c hc => (h1 c hc).trans (f2 c hc)
        · rw [hp, drop_set]
          refine fun h vh' i' t h1 h2 => hQ h vh' i' t ?_ fun c hc => (h2 c hc).trans (f2 c hc)
          rw [List.append_assoc] at h1
          exact h1
      conv => whnf
      refine Get.mk (_, _, _, _) hn ?_
      conv => whnf
      refine Get.mk _ rfl ?_
      conv => whnf
      refine Get.mk i ⟨rfl, hiN⟩ ?_
      conv => whnf
      refine Get.mk (_, _, _, _) ha ?_
      conv => whnf
      refine Get.mk _ (encA_all hlt) ?_
      conv => whnf
      refine (named_ok H.toXN H.qname H.named ys[i].p ys[i].l sm.p sm.l vh vn).mono fun v vh' vn' he => ?_
      obtain ⟨e1, e2, e3⟩ := he
      rw [e1, e2, e3]
      clear e1 e2 e3
      conv => whnf
      refine CondP.mk (fun h2 => ?_) (fun h2 => ?_)
      · have h2' : namedP ys[i].p ys[i].l = false := by simpa using h2
        conv => whnf
        exact hR (by rw [h2']; rfl) vh fun _ _ => rfl
      · have h2' : namedP ys[i].p ys[i].l = true := by simpa using h2
        conv => whnf
        refine (Valid_ok H.hin H.one H.char H.valid ys[i].v sm.v vh vn).mono fun v vh' vn' he => ?_
        obtain ⟨e1, e2, e3⟩ := he
        rw [e1, e2, e3]
        clear e1 e2 e3
        conv => whnf
        refine CondP.mk (fun h3 => ?_) (fun h3 => ?_)
        · have h3' : validP ys[i].v = false := by simpa using h3
          conv => whnf
          exact hR (by rw [h3', h2']; rfl) vh fun _ _ => rfl
        · have h3' : validP ys[i].v = true := by simpa using h3
          conv => whnf
          refine El_L1 bs bm ba n nm ys[i] ys (by omega) vh vn ty ta (by rw [hys]; exact hn) ha i hlt _ i 0 (by omega) (Nat.zero_le _) (fun h4 => ?_) (fun h4 k' t => ?_)
          · rw [List.drop_zero] at h4
            exact hR (by rw [h4, h3', h2']; rfl) vh fun _ _ => rfl
          · rw [List.drop_zero] at h4
            conv => whnf
            refine Get.mk (_, _, _, _) hn ?_
            conv => whnf
            refine Get.mk _ rfl ?_
            conv => whnf
            refine Get.mk i ⟨rfl, hiN⟩ ?_
            conv => whnf
            refine Get.mk (_, _, _, _) ha ?_
            conv => whnf
            refine ⟨⟨hw _ hys, Nat.zero_le _⟩, ?_⟩
            have ha1 : vset vh ba (.cells (setSeg (ys.map encA).flatten (0 + i * 4 + 2) [.str []]) ta 0 false) ba = some (.cells ((ys.set i { ys[i] with u := [] }).map encA).flatten ta 0 false) := by rw [vset_same, flat_set _ _ hlt]
            have hf1 : ∀ c, c ≠ ba → vset vh ba (.cells (setSeg (ys.map encA).flatten (0 + i * 4 + 2) [.str []]) ta 0 false) c = vh c := fun c hc => vset_ne hc
            conv => whnf
            generalize vset vh ba _ = vh1 at ha1 hf1
            have hn1 := (hf1 bm (Ne.symm d3)).trans hn
            have hlt1 : i < (ys.set i { ys[i] with u := [] }).length := by rw [List.length_set]; exact hlt
            have hg1 : (ys.set i { ys[i] with u := [] })[i] = { ys[i] with u := [] } := by simp
            have hw1 : 0 + i * 4 + 2 + 1 ≤ ((ys.set i { ys[i] with u := [] }).map encA).flatten.length := hw _ (by rw [List.length_set]; exact hys)
            have ha2 : vset vh1 ba (.cells (setSeg ((ys.set i { ys[i] with u := [] }).map encA).flatten (0 + i * 4 + 2) [.str XMLNSURI]) ta 0 false) ba = some (.cells ((ys.set i { ys[i] with u := XMLNSURI }).map encA).flatten ta 0 false) := by
              rw [vset_same, flat_set _ _ hlt1, hg1, List.set_set]
            have hf2 : ∀ c, c ≠ ba → vset vh1 ba (.cells (setSeg ((ys.set i { ys[i] with u := [] }).map encA).flatten (0 + i * 4 + 2) [.str XMLNSURI]) ta 0 false) c = vh c := fun c hc => (vset_ne hc).trans (hf1 c hc)
            refine CondP.mk (fun h5 => ?_) (fun h5 => ?_)
            · have h5' : ys[i].p = S_xmlns := by simpa using h5
              conv => whnf
              refine Get.mk (_, _, _, _) hn1 ?_
              conv => whnf
              refine Get.mk _ rfl ?_
              conv => whnf
              refine Get.mk i ⟨rfl, hiN⟩ ?_
              conv => whnf
              refine Get.mk (_, _, _, _) ha1 ?_
              conv => whnf
              refine ⟨⟨hw1, Nat.zero_le _⟩, ?_⟩
              conv => whnf
              rw [e]
              exact nxt XMLNSURI _ (by simp [nsInit, h5']) h2' h3' h4 ha2 hf2
            · have h5' : ¬ ys[i].p = S_xmlns := by simpa using h5
              conv => whnf
              refine CondP.mk (fun h6 => ?_) (fun h6 => ?_)
              · have h6' : ys[i].p = [] := by simpa using h6
                conv => whnf
                refine CondP.mk (fun h7 => ?_) (fun h7 => ?_)
                · have h7' : ys[i].l = S_xmlns := by simpa using h7
                  conv => whnf
                  refine Get.mk (_, _, _, _) hn1 ?_
                  conv => whnf
                  refine Get.mk _ rfl ?_
                  conv => whnf
                  refine Get.mk i ⟨rfl, hiN⟩ ?_
                  conv => whnf
                  refine Get.mk (_, _, _, _) ha1 ?_
                  conv => whnf
                  refine ⟨⟨hw1, Nat.zero_le _⟩, ?_⟩
                  conv => whnf
                  rw [e]
                  exact nxt XMLNSURI _ (by simp [nsInit, h6', h7']) h2' h3' h4 ha2 hf2
                · have h7' : ¬ ys[i].l = S_xmlns := by simpa using h7
                  conv => whnf
                  rw [e]
                  exact nxt [] _ (by simp [nsInit, h5', h7']) h2' h3' h4 ha1 hf1
              · have h6' : ¬ ys[i].p = [] := by simpa using h6
                conv => whnf
                rw [e]
                exact nxt [] _ (by simp [nsInit, h5', h6']) h2' h3' h4 ha1 hf1
    · have hlt : i = N := by simp at h1; omega
      have e1 : ys.drop i = [] := by rw [hlt, ← hys, List.drop_length]
      have e2 : ys.take i = ys := by rw [hlt, ← hys, List.take_length]
      rw [e1, e2] at hQ
      conv => whnf
      exact hQ rfl vh _ _ (by simpa using ha) fun _ _ => rfl
termination_by m => m
decreasing_by all_goals omega
end Go.Proofs.YtpcbnpekdmobpaaGreatDoor
open Go Go.Ev Go.VL
namespace Go.Proofs.YtpcbnpekdmobpaaGreatDoor
attribute [local irreducible] fApp
variable {X : Ovr} {G : Gt}
theorem El_loop (H : XE X) (bs bm : Nat) (n nm : Nd) (v : V) (xs : List Attr) (hN : xs.length < 2 ^ 30) (hsm : ∀ a ∈ xs, AtSmall a) (vh : VH) (vn : Nat) (ty : TypeId) (hn : vh bm = some (.cells (encNv nm v) ty 0 false)) (hv : SlR encA 4 vh v xs) (d : ¬ blkOf v bm) (Q : FQ)
    (hR : attrsOk [] xs = false → ∀ vh', (∀ c, ¬ blkOf v c → vh' c = vh c) → Q .ret [(4, .bool false)] vh' vn)
    (hQ : attrsOk [] xs = true → ∀ vh' i' t, SlR encA 4 vh' v (xs.map nsInit) → (∀ c, ¬ blkOf v c → vh' c = vh c) → Q (.exit 0) [(0, .ptr bs 0), (3, .bx (encN n)), (5, .ptr bm 0), (6, .int .i64 i'), (30, .bool t)] vh' vn) :
    FLoop Tryz.prog X G (.loop c_ref15_element_L0) [(0, .ptr bs 0), (3, .bx (encN n)), (5, .ptr bm 0), (6, .int .i64 0)] vh vn Q := by
  rcases id hv with ⟨rfl, rfl⟩ | ⟨rfl, rfl⟩ | ⟨ba, ta, rfl, h4⟩
  · refine FLoop.round ?_
    conv => whnf
    refine Get.mk (_, _, _, _) hn ?_
    conv => whnf
    refine Get.mk _ rfl ?_
    conv => whnf
    exact hQ rfl vh _ _ (.inl ⟨rfl, rfl⟩) fun _ _ => rfl
  · refine FLoop.round ?_
    conv => whnf
    refine Get.mk (_, _, _, _) hn ?_
    conv => whnf
    refine Get.mk _ rfl ?_
    conv => whnf
    exact hQ rfl vh _ _ (.inr (.inl ⟨rfl, rfl⟩)) fun _ _ => rfl
  · have dn : ba ≠ bm := fun h => d h.symm
    refine El_L0 H bs bm ba n nm xs.length hN vn dn ty ta Q xs.length 0 rfl (Nat.zero_le _) vh xs rfl hsm hn h4 (fun h vh' f => ?_) (fun h vh' i' t a f => ?_)
    · rw [List.drop_zero, List.take_zero] at h
      exact hR h vh' fun c hc => f c hc
    · rw [List.drop_zero, List.take_zero] at h
      rw [List.drop_zero, List.take_zero, List.nil_append] at a
      exact hQ h vh' i' t (.inr (.inr ⟨ba, ta, by rw [List.length_map], a⟩)) fun c hc => f c hc
theorem pushP_len : ∀ (xs m ms : List Attr), pushP m xs = some ms → ms.length ≤ m.length + xs.length
  | [], m, ms, h => by
    simp only [pushP, Option.some.injEq] at h
    subst h
    simp
  | a :: l, m, ms, h => by
    simp only [pushP] at h
    split at h
    · split at h
      · cases h
      · split at h
        · cases h
        · have := pushP_len l _ _ h
          simp only [List.length_append, List.length_cons, List.length_nil] at this ⊢
          omega
    · have := pushP_len l _ _ h
      simp only [List.length_cons]
      omega
theorem elementP_1 {lv : List (List Attr)} {n : Nd} (h : namedP n.p n.l = false ∨ n.v ≠ []) : elementP lv n = (false, lv) := by
  simp only [elementP, if_pos h]
theorem elementP_2 {lv : List (List Attr)} {n : Nd} (h : ¬ (namedP n.p n.l = false ∨ n.v ≠ [])) (h2 : attrsOk [] n.s = false) : elementP lv n = (false, lv) := by
  simp only [elementP, if_neg h, if_pos h2]
theorem elementP_3 {lv : List (List Attr)} {n : Nd} (h : ¬ (namedP n.p n.l = false ∨ n.v ≠ [])) (h2 : attrsOk [] n.s = true) (h3 : pushP [] (n.s.map nsInit) = none) : elementP lv n = (false, lv) := by
  simp only [elementP, if_neg h, h2, Bool.true_eq_false, if_false, h3]
theorem elementP_4 {lv : List (List Attr)} {n : Nd} (h : ¬ (namedP n.p n.l = false ∨ n.v ≠ [])) (h2 : attrsOk [] n.s = true) {ms : List Attr} (h3 : pushP [] (n.s.map nsInit) = some ms) : elementP lv n = ((namesP (lv ++ [ms]) { n with s := n.s.map nsInit }).2 && decide ((namesP (lv ++ [ms]) { n with s := n.s.map nsInit }).1.u = n.u) && decide ((namesP (lv ++ [ms]) { n with s := n.s.map nsInit }).1.s.map attrL = n.s.map attrL), lv ++ [ms]) := by
  simp only [elementP, if_neg h, h2, Bool.true_eq_false, if_false, h3]
theorem namesP_len (lv : List (List Attr)) (n : Nd) : (namesP lv n).1.s.length = n.s.length := by
  unfold namesP
  split
  · rfl
  · exact nsL_len _ _
theorem Sc_at {vh vh' : VH} {b : Nat} {lv : List (List Attr)} (h : Sc vh b lv) (e : vh' b = vh b) : Sc vh' b lv := by
  obtain ⟨ty, h⟩ := h
  exact ⟨ty, e.trans h⟩
theorem _root_.Go.VL.SlR.at {α : Type} {enc : α → List V} {es : Nat} {vh vh' : VH} {v : V} {xs : List α} (A : SlR enc es vh v xs) (h : ∀ c, blkOf v c → vh' c = vh c) : SlR enc es vh' v xs := by
  rcases A with h1 | h1 | ⟨b, ty, rfl, h4⟩
  · exact .inl h1
  · exact .inr (.inl h1)
  · exact .inr (.inr ⟨b, ty, rfl, (h b rfl).trans h4⟩)
set_option maxHeartbeats 4000000 in
theorem element_ok (H : XE X) (bs : Nat) (lv : List (List Attr)) (n : Nd) (sm : NdSmall n) (vh : VH) (vn : Nat) (hs : Sc vh bs lv) (hbs : bs < vn) (hlv : lv.length < 2 ^ 29) (hb : ∀ l ∈ lv, l.length < 2 ^ 40) :
    WpCall Tryz.prog X G F_ref15_element [.ptr bs 0, .agg (encN n)] vh vn fun r vh' vn' => vn ≤ vn' ∧ (∀ c, c < vn → c ≠ bs → vh' c = vh c) ∧ r = .bool (elementP lv n).1 ∧ Sc vh' bs (elementP lv n).2 := by
  apply k_ref15_element.run H.element
  conv => whnf
  refine (named_ok H.toXN H.qname H.named n.p n.l sm.p sm.l vh vn).mono fun v vh' vn' he => ?_
  obtain ⟨e1, e2, e3⟩ := he
  rw [e1, e2, e3]
  clear e1 e2 e3
  conv => whnf
  refine CondP.mk (fun h1 => ?_) (fun h1 => ?_)
  · have h1' : namedP n.p n.l = false := by simpa using h1
    conv => whnf
    refine Get.mk vh (fun _ _ h => h) ⟨Nat.le_refl _, fun _ _ _ => rfl, ?_⟩
    rw [elementP_1 (.inl h1')]
    exact ⟨rfl, hs⟩
  · have h1' : namedP n.p n.l = true := by simpa using h1
    conv => whnf
    refine CondP.mk (fun h2 => ?_) (fun h2 => ?_)
    · have h2' : n.v ≠ [] := by simpa using h2
      conv => whnf
      refine Get.mk vh (fun _ _ h => h) ⟨Nat.le_refl _, fun _ _ _ => rfl, ?_⟩
      rw [elementP_1 (.inr h2')]
      exact ⟨rfl, hs⟩
    · have h2' : ¬ (namedP n.p n.l = false ∨ n.v ≠ []) := by rw [h1']; simpa using h2
      conv => whnf
      refine Get.mk (_, _, _, _) vset_same ?_
      conv => whnf
      repeat (refine Owe.mk (by decide) ?_; conv => whnf)
      refine SlIn.fresh (enc := encA) (xs := n.s) (lo := vn + 1) rfl (Nat.le_refl _) ⟨?_, ?_⟩ fun v1 vh1 n1 A1 g1 f1 => ?_
      · have := sm.s; omega
      · have := sm.s; show _ < 9223372036854775808; omega
      have hm1 : vh1 vn = some (.cells (encNv n (.sl 4 (n.s.map encA) none)) T_api_Node 0 false) := (f1 vn (by omega)).trans vset_same
      have hf1 : ∀ c, c < vn → vh1 c = vh c := fun c hc => (f1 c (by omega)).trans ((vset_ne (by omega)).trans (vset_ne (by omega)))
      clear f1
      have hv1 : ∀ c, blkOf v1 c → vn < c ∧ c < n1 := fun c hc => by
        rcases A1 with ⟨rfl | rfl, _⟩ | ⟨b, hb1, hb2, rfl, _⟩
        · cases hc
        · cases hc
        · obtain rfl : c = b := hc
          exact ⟨by omega, hb2⟩
      obtain ⟨w, hw⟩ : ∃ w, w = v1 := ⟨_, rfl⟩
      rcases id A1 with ⟨rfl | rfl, hnil⟩ | ⟨ba, hb1, hb2, rfl, hb4⟩
      all_goals
        conv => whnf
        refine Get.mk (_, _, _, _) hm1 ?_
        conv => whnf
        refine ⟨⟨by simp [encNv], Nat.zero_le _⟩, ?_⟩
        conv => whnf
        generalize hvv : vset vh1 vn _ = vh2
        have f2 : ∀ c, c ≠ vn → vh2 c = vh1 c := fun c hc => by rw [← hvv]; exact vset_ne hc
        have A2 := A1.mono (vh' := vh2) (Nat.le_refl n1) (fun c h1 _ _ => f2 c (by omega))
        have dvn := fun h => Nat.lt_irrefl _ (hv1 vn h).1
        have dbs := fun h => Nat.lt_asymm hbs (hv1 bs h).1
        have hm2 : vh2 vn = some (.cells (encNv n w) T_api_Node 0 false) := by rw [hw, ← hvv]; exact vset_same
        rw [hw] at hm2
        refine El_loop H bs vn n n _ n.s sm.s sm.a vh2 n1 T_api_Node hm2 A2.r dvn _ (fun h3 vh3 f3 => ?_) (fun h3 vh3 i' t a3 f3 => ?_)
        · conv => whnf
          refine Get.mk vh3 (fun _ _ h => h) ⟨(by omega : vn ≤ n1), fun c hc hcb => (f3 c fun h => by have := hv1 c h; omega).trans ((f2 c (by omega)).trans (hf1 c hc)), ?_⟩
          rw [elementP_2 h2' h3]
          exact ⟨rfl, Sc_at hs ((f3 bs dbs).trans ((f2 bs (by omega)).trans (hf1 bs hbs)))⟩
        · have hm3 := (f3 vn dvn).trans hm2
          have s3 := Sc_at hs ((f3 bs dbs).trans ((f2 bs (by omega)).trans (hf1 bs hbs)))
          have hf3 : ∀ c, c < vn → vh3 c = vh c := fun c hc => (f3 c fun h => by have := hv1 c h; omega).trans ((f2 c (by omega)).trans (hf1 c hc))
          conv => whnf
          refine Get.mk (_, _, _, _) hm3 ?_
          conv => whnf
          refine Get.mk _ rfl ?_
          conv => whnf
          refine (Push_ok H.declares H.push bs lv _ (n.s.map nsInit) vh3 n1 s3 (by omega) (by omega) a3 (fun c hc => (hv1 c hc).2) (by rw [List.length_map]; exact sm.s)).mono fun r vh4 n4 he => ?_
          obtain ⟨g4, f4, he⟩ := he
          cases hp : pushP [] (n.s.map nsInit) with
          | none =>
            rw [hp] at he
            obtain ⟨rfl, s4⟩ := he
            conv => whnf
            refine Get.mk vh4 (fun _ _ h => h) ⟨(by omega : vn ≤ n4), fun c hc hcb => (f4 c (by omega) hcb).trans (hf3 c hc), ?_⟩
            rw [elementP_3 h2' h3 hp]
            exact ⟨rfl, s4⟩
          | some ms =>
            rw [hp] at he
            obtain ⟨rfl, s4⟩ := he
            have hlms : ms.length < 2 ^ 40 := by
              have := pushP_len _ _ _ hp
              have h1 := sm.s
              simp only [List.length_nil, List.length_map] at this
              omega
            have hm4 := (f4 vn (by omega) (by omega)).trans hm3
            have a4 := a3.at fun c hc => f4 c (hv1 c hc).2 (fun h => dbs (h ▸ hc))
            conv => whnf
            refine (Names_ok H.declares H.uri H.names bs vn (lv ++ [ms]) (by
              intro l hl
              rcases List.mem_append.1 hl with h | h
              · exact hb l h
              · rw [List.mem_singleton.1 h]; exact hlms) (by rw [List.length_append, List.length_singleton]; omega) { n with s := n.s.map nsInit } _ (by show (n.s.map nsInit).length < _; rw [List.length_map]; exact sm.s) vh4 n4 (by omega) dbs dvn s4 ⟨T_api_Node, hm4⟩ a4).mono fun r vh5 n5 he => ?_
            obtain ⟨e1, e2, ⟨ty5, hm5⟩, a5, f5⟩ := he
            rw [e1, e2]
            have hf5 : ∀ c, c < vn → c ≠ bs → vh5 c = vh c := fun c hc hcb => (f5 c (by omega) fun h => by have := hv1 c h; omega).trans ((f4 c (by omega) hcb).trans (hf3 c hc))
            have s5 : Sc vh5 bs (lv ++ [ms]) := Sc_at s4 (f5 bs (by omega) dbs)
            rw [elementP_4 h2' h3 hp]
            clear f5 f4 f3 s4 s3 a4 a3 hm4 hm3 hm2 A2
            conv => whnf
            refine CondP.mk (fun h6 => ?_) (fun h6 => ?_)
            · conv => whnf
              refine Get.mk (_, _, _, _) hm5 ?_
              conv => whnf
              refine Get.mk _ rfl ?_
              conv => whnf
              refine CondP.mk (fun h7 => ?_) (fun h7 => ?_)
              · conv => whnf
                refine Get.mk (_, _, _, _) hm5 ?_
                conv => whnf
                refine Get.mk _ rfl ?_
                conv => whnf
                refine (Same_ok H.same _ _ n.s ?_ vh5 _ a5).mono fun r vh6 n6 he => ?_
                · show (namesP (lv ++ [ms]) { n with s := n.s.map nsInit }).1.s.length < _
                  rw [namesP_len]
                  show (n.s.map nsInit).length < _
                  rw [List.length_map]
                  exact sm.s
                obtain ⟨e1, e2, b, e3, e4⟩ := he
                rw [e1, e2, e3]
                conv => whnf
                refine Get.mk vh5 (fun _ _ h => h) ⟨(by omega : vn ≤ n4), hf5, ?_, s5⟩
                have h7' := of_decide_eq_true h7
                have eb : b = decide ((namesP (lv ++ [ms]) { n with s := n.s.map nsInit }).1.s.map attrL = n.s.map attrL) := by
                  rw [Bool.eq_iff_iff, e4, decide_eq_true_iff, attrL_inj]
                rw [eb]
                simp [h6, h7']
              · have h7' := of_decide_eq_false h7
                conv => whnf
                refine Get.mk vh5 (fun _ _ h => h) ⟨(by omega : vn ≤ n4), hf5, ?_, s5⟩
                simp [h6, h7']
            · conv => whnf
              refine Get.mk vh5 (fun _ _ h => h) ⟨(by omega : vn ≤ n4), hf5, ?_, s5⟩
              simp [h6]
end Go.Proofs.YtpcbnpekdmobpaaGreatDoor
open Go Go.Ev Go.VL
namespace Go.Proofs.YtpcbnpekdmobpaaGreatDoor
attribute [local irreducible] fApp
variable {X : Ovr} {G : Gt}
def SlF {α : Type} (enc : α → List V) (es : Nat) (v : V) (xs : List α) : Prop := (xs = [] ∧ v = .nils) ∨ ∃ c, v = .sl es (xs.map enc) c
theorem SameF_L0 (c1 c2 : Option Nat) (xs ys : List Attr) (hl : xs.length = ys.length) (hN : xs.length < 2 ^ 30) (vh : VH) (vn : Nat) (Q : FQ) : ∀ (m i : Nat), xs.length - i = m → i ≤ xs.length →
    (¬ xs.drop i = ys.drop i → Q .ret [(4, .bool false)] vh vn) →
    (xs.drop i = ys.drop i → ∀ i' t, Q (.exit 0) [(0, .sl 4 (xs.map encA) c1), (1, .sl 4 (ys.map encA) c2), (5, .int .i64 i'), (14, .bool t)] vh vn) →
    FLoop Tryz.prog X G (.loop c_ref10_SameAttrs_L0) [(0, .sl 4 (xs.map encA) c1), (1, .sl 4 (ys.map encA) c2), (5, .int .i64 (i : Int))] vh vn Q
  | m, i, hm, hi, hR, hQ => by
    refine FLoop.round ?_
    conv => whnf
    refine CondP.mk (fun h1 => ?_) (fun h1 => ?_)
    · have hlt : i < xs.length := by simpa using h1
      have hly : i < ys.length := by omega
      have hd : xs.drop i = xs[i] :: xs.drop (i + 1) := (List.getElem_cons_drop hlt).symm
      have hd2 : ys.drop i = ys[i] :: ys.drop (i + 1) := (List.getElem_cons_drop hly).symm
      rw [hd, hd2] at hR hQ
      have e : wr .i64 ((i : Int) + 1) = ((i + 1 : Nat) : Int) := by rw [wr64] <;> omega
      conv => whnf
      refine Get.mk (i, encA xs[i]) ⟨rfl, by simp [hlt]⟩ ?_
      conv => whnf
      refine Get.mk (i, encA ys[i]) ⟨rfl, by simp [hly]⟩ ?_
      conv => whnf
      refine CondP.mk (fun h2 => ?_) (fun h2 => ?_)
      · have h2 : (!decide ([xs[i].p, xs[i].l, xs[i].u, xs[i].v] = [ys[i].p, ys[i].l, ys[i].u, ys[i].v])) = true := h2
        conv => whnf
        refine hR fun h => ?_
        rw [(List.cons.inj h).1] at h2
        simp at h2
      · have h2 : (!decide ([xs[i].p, xs[i].l, xs[i].u, xs[i].v] = [ys[i].p, ys[i].l, ys[i].u, ys[i].v])) = false := h2
        have h2' : xs[i] = ys[i] := attr_ext (by simpa using h2)
        conv => whnf
        rw [e]
        refine SameF_L0 c1 c2 xs ys hl hN vh vn Q (m - 1) (i + 1) (by omega) (by omega) (fun h => hR fun h3 => h (List.cons.inj h3).2) (fun h => hQ (by rw [h, h2']))
    · have hlt : i = xs.length := by simp at h1; omega
      have e1 : xs.drop i = ys.drop i := by rw [hlt, List.drop_length, hl, List.drop_length]
      conv => whnf
      exact hQ e1 _ _
termination_by m => m
decreasing_by all_goals omega
theorem SameF_ok (hX : X F_ref10_SameAttrs = none) (v1 v2 : V) (xs ys : List Attr) (hN : xs.length < 2 ^ 30) (h1 : SlF encA 4 v1 xs) (h2 : SlF encA 4 v2 ys) (vh : VH) (vn : Nat) :
    WpCall Tryz.prog X G F_ref10_SameAttrs [v1, v2] vh vn fun r vh' vn' => vh' = vh ∧ vn' = vn ∧ r = .bool (decide (xs.map attrL = ys.map attrL)) := by
  apply k_ref10_SameAttrs.run hX
  have tt : decide (([] : List Attr).map attrL = ([] : List Attr).map attrL) = true := rfl
  have n1 : ∀ zs : List Attr, zs ≠ [] → decide (([] : List Attr).map attrL = zs.map attrL) = false := fun zs hz => by cases zs with | nil => exact (hz rfl).elim | cons _ _ => simp
  have n2 : ∀ zs : List Attr, zs ≠ [] → decide (zs.map attrL = ([] : List Attr).map attrL) = false := fun zs hz => by cases zs with | nil => exact (hz rfl).elim | cons _ _ => simp
  rcases h1 with ⟨rfl, rfl⟩ | ⟨c1, rfl⟩
  · rcases h2 with ⟨rfl, rfl⟩ | ⟨c2, rfl⟩
    · conv => whnf
      refine FLoop.round ?_
      conv => whnf
      exact Get.mk _ (fun _ _ h => h) ⟨rfl, rfl, by rw [tt]⟩
    · conv => whnf
      refine CondP.mk (fun h1 => ?_) (fun h1 => ?_)
      · have hne : ys ≠ [] := fun h => by subst h; simp at h1
        conv => whnf
        exact Get.mk _ (fun _ _ h => h) ⟨rfl, rfl, by rw [n1 ys hne]⟩
      · have hy : ys = [] := by first | simpa using h1 | exact List.eq_nil_of_length_eq_zero (by simp at h1; omega)
        subst hy
        conv => whnf
        refine FLoop.round ?_
        conv => whnf
        exact Get.mk _ (fun _ _ h => h) ⟨rfl, rfl, by rw [tt]⟩
  · rcases h2 with ⟨rfl, rfl⟩ | ⟨c2, rfl⟩
    · conv => whnf
      refine CondP.mk (fun h1 => ?_) (fun h1 => ?_)
      · have hne : xs ≠ [] := fun h => by subst h; simp at h1
        conv => whnf
        exact Get.mk _ (fun _ _ h => h) ⟨rfl, rfl, by rw [n2 xs hne]⟩
      · have hy : xs = [] := by first | simpa using h1 | exact List.eq_nil_of_length_eq_zero (by simp at h1; omega)
        subst hy
        conv => whnf
        refine FLoop.round ?_
        conv => whnf
        exact Get.mk _ (fun _ _ h => h) ⟨rfl, rfl, by rw [tt]⟩
    · conv => whnf
      refine CondP.mk (fun h1 => ?_) (fun h1 => ?_)
      · have hne : ¬ xs.map attrL = ys.map attrL := fun h => by rw [attrL_inj] at h; subst h; simp at h1
        conv => whnf
        exact Get.mk _ (fun _ _ h => h) ⟨rfl, rfl, by simp only [hne, decide_false]⟩
      · have hl : xs.length = ys.length := by simp at h1; omega
        conv => whnf
        refine SameF_L0 c1 c2 xs ys hl hN vh vn _ xs.length 0 rfl (Nat.zero_le _) (fun h => ?_) (fun h i' t => ?_)
        · rw [List.drop_zero, List.drop_zero] at h
          conv => whnf
          exact Get.mk _ (fun _ _ h => h) ⟨rfl, rfl, by rw [decide_eq_false (fun h2 => h (attrL_inj.1 h2))]⟩
        · rw [List.drop_zero, List.drop_zero] at h
          conv => whnf
          exact Get.mk _ (fun _ _ h => h) ⟨rfl, rfl, by rw [decide_eq_true (attrL_inj.2 h)]⟩
def sameNd (a b : Nd) : Bool := (((((decide (a.k = b.k) && decide (a.d = b.d)) && decide (a.p = b.p)) && decide (a.l = b.l)) && decide (a.u = b.u)) && decide (a.v = b.v)) && decide (a.s.map attrL = b.s.map attrL)
theorem sameNd_iff {a b : Nd} : sameNd a b = true ↔ a = b := by
  obtain ⟨k, d, p, l, u, v, s⟩ := a
  obtain ⟨k', d', p', l', u', v', s'⟩ := b
  simp only [sameNd, Bool.and_eq_true, decide_eq_true_iff, attrL_inj, Nd.mk.injEq]
  simp only [and_assoc]
theorem SameNode_ok (hX : X F_ref10_SameAttrs = none) (hX' : X F_ref15_SameNode = none) (a b : Nd) (va vb : V) (ha : SlF encA 4 va a.s) (hb : SlF encA 4 vb b.s) (hN : a.s.length < 2 ^ 30) (vh : VH) (vn : Nat) :
    WpCall Tryz.prog X G F_ref15_SameNode [.agg (encNv a va), .agg (encNv b vb)] vh vn fun r vh' vn' => vh' = vh ∧ vn' = vn ∧ r = .bool (sameNd a b) := by
  apply k_ref15_SameNode.run hX'
  have key := fun vh vn => SameF_ok (G := G) hX va vb a.s b.s hN ha hb vh vn
  rcases ha with ⟨ha, rfl⟩ | ⟨c1, rfl⟩ <;> rcases hb with ⟨hb, rfl⟩ | ⟨c2, rfl⟩
  all_goals
    conv => whnf
    repeat' ((first | refine CondP.mk (fun _ => ?_) (fun _ => ?_) | (refine (key _ _).mono (fun v vh' vn' he => ?_); obtain ⟨e1, e2, e3⟩ := he; rw [e1, e2, e3])) <;> (conv => whnf))
    all_goals
      refine Get.mk _ (fun _ _ h => h) ⟨rfl, rfl, ?_⟩
      clear key
      simp_all [sameNd]
end Go.Proofs.YtpcbnpekdmobpaaGreatDoor
open Go Go.Ev Go.VL
namespace Go.Proofs.YtpcbnpekdmobpaaGreatDoor
attribute [local irreducible] fApp
variable {X : Ovr} {G : Gt}
structure XM (X : Ovr) : Prop extends XE X where
  samend : X F_ref15_SameNode = none
  may : X F_ref15_May = none
def badPlace (prev n : Nd) : Bool := ((decide (n.d < 1) || decide (201 < n.d)) || decide (prev.d + 1 < n.d)) || ((decide (prev.d < n.d) && !decide (prev.k = 1)) && !decide (prev.k = 2))
def stepP (prev n : Nd) (lv : List (List Attr)) (roots : Nat) : Option (List (List Attr) × Nat) :=
  if n.k = 2 then (if (elementP (lv.take (n.d.toNat - 1)) n).1 = true then some ((elementP (lv.take (n.d.toNat - 1)) n).2, if n.d = 1 then roots + 1 else roots) else none)
  else if plainP n = false then none
  else if n.k = 3 ∧ (n.d = 1 ∨ prev.k = 3 ∧ prev.d = n.d) then none
  else some (lv.take (n.d.toNat - 1), roots)
def mayR : Nd → List (List Attr) → Nat → List Nd → Option Nat
  | _, _, roots, [] => some roots
  | prev, lv, roots, n :: l => if badPlace prev n = true then none else match stepP prev n lv roots with
    | none => none
    | some s => mayR n s.1 s.2 l
def zeroDoc : Nd := ⟨1, 0, [], [], [], [], []⟩
def mayP (t : List Nd) : Bool := match t with
  | [] => false
  | n :: l => decide ((n :: l).length ≤ 1048576) && sameNd n zeroDoc && decide (mayR n [] 0 l = some 1)
theorem May_L1 (H : XM X) (bs : Nat) (ts : List Nd) (c : Option Nat) (r i : Int) (n : Nd) (hd : 1 ≤ n.d) (vn : Nat) (Q : FQ) : ∀ (m : Nat) (lv : List (List Attr)) (vh : VH), lv.length = m → lv.length < 2 ^ 40 → Sc vh bs lv →
    (∀ vh' b, Sc vh' bs (lv.take (n.d.toNat - 1)) → (∀ c, c ≠ bs → vh' c = vh c) → Q (.exit 2) [(0, .sl 7 (ts.map encN) c), (3, .ptr bs 0), (4, .int .i64 r), (5, .int .i64 i), (6, .bx (encN n)), (91, .bool b)] vh' vn) →
    FLoop Tryz.prog X G (.loop c_ref15_May_L1) [(0, .sl 7 (ts.map encN) c), (3, .ptr bs 0), (4, .int .i64 r), (5, .int .i64 i), (6, .bx (encN n))] vh vn Q
  | m, lv, vh, hm, hl, hs, hQ => by
    refine FLoop.round ?_
    obtain ⟨ty, hs4⟩ := id hs
    conv => whnf
    refine Get.mk (_, _, _, _) hs4 ?_
    conv => whnf
    refine Get.mk _ rfl ?_
    conv => whnf
    refine CondP.mk (fun h1 => ?_) (fun h1 => ?_)
    · have h1' : n.d ≤ (lv.length : Int) := by simpa using h1
      conv => whnf
      refine (Pop_ok H.pop bs lv vh vn hs hl).mono fun v vh' vn' he => ?_
      obtain ⟨e1, f1, s1, b1, e2⟩ := he
      rw [e1, e2]
      conv => whnf
      refine May_L1 H bs ts c r i n hd vn Q (m - 1) lv.dropLast vh' (by rw [List.length_dropLast]; omega) (by rw [List.length_dropLast]; omega) s1 fun vh2 b s2 f2 => hQ vh2 b ?_ fun c hc => (f2 c hc).trans (f1 c hc)
      have e : lv.dropLast.take (n.d.toNat - 1) = lv.take (n.d.toNat - 1) := by
        rw [List.dropLast_eq_take, List.take_take]
        congr 1
        omega
      rw [e] at s2
      exact s2
    · have h1' : ¬ n.d ≤ (lv.length : Int) := by simpa using h1
      have e : lv.take (n.d.toNat - 1) = lv := List.take_of_length_le (by omega)
      rw [e] at hQ
      conv => whnf
      exact hQ vh _ hs fun _ _ => rfl
termination_by m => m
decreasing_by all_goals omega
theorem May_R11 (H : XM X) (bs : Nat) (ts : List Nd) (c : Option Nat) (hts : ts.length < 2 ^ 30) (i : Nat) (h0 : 0 < i) (hi : i < ts.length) (r : Nat) (hr : r < 2 ^ 31) (n prev : Nd) (hp : ts[i - 1]? = some prev) (sm : NdSmall n) (hd : 1 ≤ n.d) (lv : List (List Attr)) (hlv : lv.length < 2 ^ 29) (hb : ∀ l ∈ lv, l.length < 2 ^ 40) (vh : VH) (vn : Nat) (hs : Sc vh bs lv) (hbs : bs < vn) (Q : FQ)
    (hR : stepP prev n lv r = none → ∀ vh' vn', vn ≤ vn' → (∀ c, c < vn → c ≠ bs → vh' c = vh c) → Q .ret [(2, .bool false)] vh' vn')
    (hQ : ∀ lv' r', stepP prev n lv r = some (lv', r') → ∀ vh' vn', vn ≤ vn' → (∀ c, c < vn → c ≠ bs → vh' c = vh c) → Sc vh' bs lv' → ∀ k, k = .exit 1 ∨ k = .norm → Q k [(0, .sl 7 (ts.map encN) c), (3, .ptr bs 0), (4, .int .i64 (r' : Int)), (5, .int .i64 (i : Int))] vh' vn') :
    FLoop Tryz.prog X G (.cut c_ref15_May_R11) [(0, .sl 7 (ts.map encN) c), (3, .ptr bs 0), (4, .int .i64 (r : Int)), (5, .int .i64 (i : Int)), (6, .bx (encN n))] vh vn Q := by
  refine FLoop.cut ?_
  conv => whnf
  refine May_L1 H bs ts c r i n hd vn _ lv.length lv vh rfl (by omega) hs fun vh1 b s1 f1 => ?_
  conv => whnf
  refine CondP.mk (fun h1 => ?_) (fun h1 => ?_)
  · have h1' : n.k = 2 := by simpa using h1
    conv => whnf
    refine (element_ok H.toXE bs (lv.take (n.d.toNat - 1)) n sm vh1 vn s1 hbs (by rw [List.length_take]; omega) (fun l hl => hb l (List.mem_of_mem_take hl))).mono fun v vh2 n2 he => ?_
    obtain ⟨g2, f2, e2, s2⟩ := he
    have fr : ∀ c, c < vn → c ≠ bs → vh2 c = vh c := fun c hc hcb => (f2 c hc hcb).trans (f1 c hcb)
    rw [e2]
    conv => whnf
    refine CondP.mk (fun h2 => ?_) (fun h2 => ?_)
    · have h2' : (elementP (lv.take (n.d.toNat - 1)) n).1 = false := by simpa using h2
      conv => whnf
      exact hR (by simp [stepP, h1', h2']) _ _ g2 fr
    · have h2' : (elementP (lv.take (n.d.toNat - 1)) n).1 = true := by simpa using h2
      conv => whnf
      refine CondP.mk (fun h3 => ?_) (fun h3 => ?_)
      · have h3' : n.d = 1 := by simpa using h3
        have e : wr .i64 ((r : Int) + 1) = ((r + 1 : Nat) : Int) := by rw [wr64] <;> omega
        conv => whnf
        rw [e]
        exact hQ _ _ (by simp only [stepP, h1', h2', if_true, if_pos h3']) _ _ g2 fr s2 _ (.inl rfl)
      · have h3' : ¬ n.d = 1 := by simpa using h3
        conv => whnf
        exact hQ _ _ (by simp only [stepP, h1', h2', if_true, if_neg h3']) _ _ g2 fr s2 _ (.inl rfl)
  · have h1' : ¬ n.k = 2 := by simpa using h1
    have hprev : wr .i64 ((i : Int) - 1) = ((i - 1 : Nat) : Int) ∧ (ts.map encN)[i - 1]? = some (encN prev) := ⟨by rw [wr64] <;> omega, by rw [List.getElem?_map, hp]; rfl⟩
    conv => whnf
    refine (plain_ok H.toXP n sm.v (Nat.lt_trans sm.l (by decide)) sm.b vh1 vn).mono fun v vh2 n2 he => ?_
    obtain ⟨g2, f2, e2⟩ := he
    have fr : ∀ c, c < vn → c ≠ bs → vh2 c = vh c := fun c hc hcb => (f2 c hc).trans (f1 c hcb)
    have s2 := Sc_at s1 (f2 bs hbs)
    rw [e2]
    conv => whnf
    repeat' ((first | refine CondP.mk (fun _ => ?_) (fun _ => ?_) | refine Get.mk (i - 1, encN prev) hprev ?_) <;> (conv => whnf))
    all_goals first
      | exact hR (by clear hR hQ fr f1 f2 s2 hs s1 hb sm hprev; simp_all [stepP]; done) _ _ g2 fr
      | exact hQ _ _ (by clear hR hQ fr f1 f2 s2 hs s1 hb sm hprev; simp_all [stepP]; done) _ _ g2 fr s2 _ (.inr rfl)
end Go.Proofs.YtpcbnpekdmobpaaGreatDoor
open Go Go.Ev Go.VL
namespace Go.Proofs.YtpcbnpekdmobpaaGreatDoor
attribute [local irreducible] fApp
variable {X : Ovr} {G : Gt}
theorem elementP_lv (lv : List (List Attr)) (n : Nd) : (elementP lv n).2 = lv ∨ ∃ ms, pushP [] (n.s.map nsInit) = some ms ∧ (elementP lv n).2 = lv ++ [ms] := by
  by_cases h : namedP n.p n.l = false ∨ n.v ≠ []
  · exact .inl (by rw [elementP_1 h])
  · by_cases h2 : attrsOk [] n.s = true
    · cases h3 : pushP [] (n.s.map nsInit) with
      | none => exact .inl (by rw [elementP_3 h h2 h3])
      | some ms => exact .inr ⟨ms, rfl, by rw [elementP_4 h h2 h3]⟩
    · exact .inl (by rw [elementP_2 h (by simpa using h2)])
theorem stepP_inv {prev n : Nd} {lv lv' : List (List Attr)} {r r' : Nat} (h : stepP prev n lv r = some (lv', r')) (hd : n.d ≤ 201) (sm : NdSmall n) (hb : ∀ l ∈ lv, l.length < 2 ^ 40) : lv'.length ≤ 201 ∧ (∀ l ∈ lv', l.length < 2 ^ 40) ∧ r' ≤ r + 1 := by
  have h1 : (lv.take (n.d.toNat - 1)).length ≤ 200 := by rw [List.length_take]; omega
  have h2 : ∀ l ∈ lv.take (n.d.toNat - 1), l.length < 2 ^ 40 := fun l hl => hb l (List.mem_of_mem_take hl)
  unfold stepP at h
  split at h
  · split at h
    · simp only [Option.some.injEq, Prod.mk.injEq] at h
      obtain ⟨rfl, rfl⟩ := h
      have h4 : (if n.d = 1 then r + 1 else r) ≤ r + 1 := by split <;> omega
      rcases elementP_lv (lv.take (n.d.toNat - 1)) n with e | ⟨ms, e1, e⟩
      · rw [e]
        exact ⟨by omega, h2, h4⟩
      · rw [e]
        refine ⟨by rw [List.length_append, List.length_singleton]; omega, fun l hl => ?_, h4⟩
        rcases List.mem_append.1 hl with h5 | h5
        · exact h2 l h5
        · rw [List.mem_singleton.1 h5]
          have := pushP_len _ _ _ e1
          have h6 := sm.s
          simp only [List.length_nil, List.length_map] at this
          omega
    · cases h
  · split at h
    · cases h
    · split at h
      · cases h
      · simp only [Option.some.injEq, Prod.mk.injEq] at h
        obtain ⟨rfl, rfl⟩ := h
        exact ⟨by omega, h2, by omega⟩
theorem May_L0 (H : XM X) (bs : Nat) (ts : List Nd) (c : Option Nat) (hts : ts.length < 2 ^ 30) (hsm : ∀ n ∈ ts, NdSmall n) (Q : FQ) : ∀ (m i : Nat), ts.length - i = m → 0 < i → i ≤ ts.length → ∀ (prev : Nd) (lv : List (List Attr)) (r : Nat) (vh : VH) (vn : Nat), ts[i - 1]? = some prev → -1 ≤ prev.d → prev.d ≤ 201 → lv.length ≤ 201 → (∀ l ∈ lv, l.length < 2 ^ 40) → r ≤ i → Sc vh bs lv → bs < vn →
    (mayR prev lv r (ts.drop i) = none → ∀ vh' vn', vn ≤ vn' → (∀ c, c < vn → c ≠ bs → vh' c = vh c) → Q .ret [(2, .bool false)] vh' vn') →
    (∀ k, mayR prev lv r (ts.drop i) = some k → ∀ vh' vn' i' b, vn ≤ vn' → (∀ c, c < vn → c ≠ bs → vh' c = vh c) → Q (.exit 0) [(0, .sl 7 (ts.map encN) c), (3, .ptr bs 0), (4, .int .i64 (k : Int)), (5, .int .i64 i'), (28, .bool b)] vh' vn') →
    FLoop Tryz.prog X G (.loop c_ref15_May_L0) [(0, .sl 7 (ts.map encN) c), (3, .ptr bs 0), (4, .int .i64 (r : Int)), (5, .int .i64 (i : Int))] vh vn Q
  | m, i, hm, h0, hi, prev, lv, r, vh, vn, hp, hd0, hd1, hlv, hb, hr, hs, hbs, hR, hQ => by
    refine FLoop.round ?_
    conv => whnf
    refine CondP.mk (fun h1 => ?_) (fun h1 => ?_)
    · have hlt : i < ts.length := by simpa using h1
      have hd : ts.drop i = ts[i] :: ts.drop (i + 1) := (List.getElem_cons_drop hlt).symm
      have hnx : ts[i + 1 - 1]? = some ts[i] := by simp [hlt]
      have sm : NdSmall ts[i] := hsm _ (List.getElem_mem hlt)
      rw [hd] at hR hQ
      simp only [mayR] at hR hQ
      have e : wr .i64 ((i : Int) + 1) = ((i + 1 : Nat) : Int) := by rw [wr64] <;> omega
      have ew : wr .i64 (prev.d + 1) = prev.d + 1 := by rw [wr64] <;> omega
      have hprev : wr .i64 ((i : Int) - 1) = ((i - 1 : Nat) : Int) ∧ (ts.map encN)[i - 1]? = some (encN prev) := ⟨by rw [wr64] <;> omega, by rw [List.getElem?_map, hp]; rfl⟩
      have hBad : badPlace prev ts[i] = true → Q .ret [(2, .bool false)] vh vn := fun h => hR (by rw [if_pos h]) vh vn (Nat.le_refl _) fun _ _ _ => rfl
      conv => whnf
      refine Get.mk (i, encN ts[i]) ⟨rfl, by simp [hlt]⟩ ?_
      conv => whnf
      repeat' ((first | refine CondP.mk (fun _ => ?_) (fun _ => ?_) | refine Get.mk (i - 1, encN prev) hprev ?_) <;> (conv => whnf))
      all_goals first
        | exact hBad (by clear hBad hR hQ hs hb hprev hsm sm hd hnx; simp_all [badPlace]; done)
        | skip
      all_goals
        have hg : badPlace prev ts[i] = false := by clear hBad hR hQ hs hb hprev hsm sm hd hnx; first | (simp_all [badPlace]; done) | (simp_all [badPlace]; intros; omega)
        rw [hg] at hR hQ
        simp only [Bool.false_eq_true, if_false] at hR hQ
        have hgd : 1 ≤ ts[i].d ∧ ts[i].d ≤ 201 := by clear hBad hR hQ hs hb hprev hsm sm hd hnx; simp [badPlace] at hg; omega
        refine May_R11 H bs ts c hts i h0 hlt r (by omega) ts[i] prev hp sm hgd.1 lv (by omega) hb vh vn hs hbs _ (fun h2 vh2 n2 g2 f2 => ?_) (fun lv' r' h2 vh2 n2 g2 f2 s2 k hk => ?_)
        · rw [h2] at hR
          exact hR rfl _ _ g2 f2
        · rw [h2] at hR hQ
          obtain ⟨q1, q2, q3⟩ := stepP_inv h2 hgd.2 sm hb
          have nxt := May_L0 H bs ts c hts hsm Q (m - 1) (i + 1) (by omega) (by omega) (by omega) ts[i] lv' r' vh2 n2 hnx (by omega) hgd.2 q1 q2 (by omega) s2 (by omega) (fun h vh3 n3 g3 f3 => hR h vh3 n3 (by omega) fun c hc hcb => (f3 c (by omega) hcb).trans (f2 c hc hcb)) (fun k h vh3 n3 i' b g3 f3 => hQ k h vh3 n3 i' b (by omega) fun c hc hcb => (f3 c (by omega) hcb).trans (f2 c hc hcb))
          rcases hk with rfl | rfl
          · conv => whnf
            rw [e]
            exact nxt
          · conv => whnf
            rw [e]
            exact nxt
    · have hlt : i = ts.length := by simp at h1; omega
      rw [hlt, List.drop_length] at hQ
      conv => whnf
      exact hQ r rfl vh vn _ _ (Nat.le_refl _) fun _ _ _ => rfl
termination_by m => m
decreasing_by all_goals omega
theorem May_ok (H : XM X) (ts : List Nd) (c : Option Nat) (hts : ts.length < 2 ^ 30) (hsm : ∀ n ∈ ts, NdSmall n) (vh : VH) (vn : Nat) :
    WpCall Tryz.prog X G F_ref15_May [.sl 7 (ts.map encN) c] vh vn fun v vh' vn' => vn ≤ vn' ∧ (∀ c, c < vn → vh' c = vh c) ∧ v = .bool (mayP ts) := by
  apply k_ref15_May.run H.may
  conv => whnf
  refine CondP.mk (fun h1 => ?_) (fun h1 => ?_)
  · have h1' : ts = [] := List.eq_nil_of_length_eq_zero (by simp at h1; omega)
    subst h1'
    conv => whnf
    exact Get.mk _ (fun _ _ h => h) ⟨Nat.le_refl _, fun _ _ => rfl, rfl⟩
  · obtain ⟨n, l, rfl⟩ : ∃ n l, ts = n :: l := by
      cases ts with
      | nil => simp at h1
      | cons n l => exact ⟨n, l, rfl⟩
    conv => whnf
    refine CondP.mk (fun h2 => ?_) (fun h2 => ?_)
    · have h2' : ¬ (n :: l).length ≤ 1048576 := by simp at h2 ⊢; omega
      conv => whnf
      refine Get.mk _ (fun _ _ h => h) ⟨Nat.le_refl _, fun _ _ => rfl, ?_⟩
      simp only [mayP, decide_eq_false h2', Bool.false_and]
    · have h2' : (n :: l).length ≤ 1048576 := by simp at h2 ⊢; omega
      conv => whnf
      refine Get.mk (0, encN n) ⟨rfl, rfl⟩ ?_
      conv => whnf
      refine (SameNode_ok H.same H.samend n zeroDoc (.sl 4 (n.s.map encA) none) .nils (.inr ⟨_, rfl⟩) (.inl ⟨rfl, rfl⟩) (hsm n (.head _)).s vh vn).mono fun v vh' vn' he => ?_
      obtain ⟨e1, e2, e3⟩ := he
      rw [e1, e2, e3]
      clear e1 e2 e3
      conv => whnf
      refine CondP.mk (fun h3 => ?_) (fun h3 => ?_)
      · have h3' : sameNd n zeroDoc = false := by simpa using h3
        conv => whnf
        refine Get.mk _ (fun _ _ h => h) ⟨Nat.le_refl _, fun _ _ => rfl, ?_⟩
        simp only [mayP, h3', Bool.and_false, Bool.false_and]
      · have h3' : sameNd n zeroDoc = true := by simpa using h3
        have hz := sameNd_iff.1 h3'
        have hd0 : n.d = 0 := by rw [hz]; rfl
        conv => whnf
        refine May_L0 H vn (n :: l) c hts hsm _ l.length 1 (by simp) (by decide) (by simp) n [] 0 _ (vn + 1) rfl (by omega) (by omega) (by decide) nofun (by decide) ⟨_, vset_same⟩ (by omega) (fun h4 vh4 n4 g4 f4 => ?_) (fun k h4 vh4 n4 i' b g4 f4 => ?_)
        · conv => whnf
          refine Get.mk _ (fun _ _ h => h) ⟨(by omega : vn ≤ n4), fun c hc => (f4 c (by omega) (by omega)).trans (vset_ne (by omega)), ?_⟩
          have h4' : mayR n [] 0 l = none := h4
          simp only [mayP, h4', h3', reduceCtorEq, decide_false, Bool.and_false]
        · have h4' : mayR n [] 0 l = some k := h4
          conv => whnf
          refine Get.mk _ (fun _ _ h => h) ⟨(by omega : vn ≤ n4), fun c hc => (f4 c (by omega) (by omega)).trans (vset_ne (by omega)), ?_⟩
          simp only [mayP, h4', h3', decide_eq_true h2', Bool.true_and, Option.some.injEq]
          congr 1
          simp
          omega
end Go.Proofs.YtpcbnpekdmobpaaGreatDoor
open Go Go.Ev Go.VL
namespace Go.Proofs.YtpcbnpekdmobpaaGreatDoor
attribute [local irreducible] fApp
variable {X : Ovr} {G : Gt}
theorem app_own {α : Type} {enc : α → List V} {es by' : Nat} {ty : TypeId} {vh : VH} {nx b n : Nat} {c : Option Nat} {xs : List α} (hl : ∀ a, (enc a).length = es) (h0 : 0 < es) (hb : vh b = some (.cells (xs.map enc).flatten ty 0 false)) (hn : n = xs.length) (hc : c = none ∨ c = some n) (a : α) (hroom : room by' (xs.length + 1)) {env : VEnv} {k : V → VEnv → VH → Nat → Prop}
    (hk : ∀ vh', vh' nx = some (.cells ((xs ++ [a]).map enc).flatten ty 0 false) → (∀ d, d ≠ nx → d ≠ b → vh' d = vh d) → k (.msl nx 0 (xs ++ [a]).length es none) env vh' (nx + 1)) : fApp es by' ty (.msl b 0 n es c) (enc a) 1 env vh nx k := by
  subst hn
  have hfl := flat_len hl xs
  have hle : Nat.ble (xs.length + 1) xs.length = false := by
    cases hb : Nat.ble (xs.length + 1) xs.length with
    | false => rfl
    | true => have := ble_iff.1 hb; omega
  simp only [fApp, beq_iff.2 (rfl : es = es), cond_true]
  conv => whnf
  refine ⟨((xs.map enc).flatten, ty, 0, false), hb, ?_⟩
  rcases hc with rfl | rfl
  · simp only
    have hdv : ((xs.map enc).flatten.length - 0) / es = xs.length := by rw [hfl, Nat.sub_zero, Nat.mul_div_cancel _ h0]
    rw [hdv, hle]
    conv => whnf
    refine ⟨⟨trivial, by rw [hfl]; exact Nat.le_refl _, Nat.zero_le _, trivial, hroom⟩, ?_⟩
    have := hk (vset (vdel vh b) nx (.cells (((xs.map enc).flatten).take (xs.length * es) ++ enc a) ty (Ev.fzOff 0 0) false)) ?_ ?_
    · rw [List.length_append, List.length_singleton] at this; exact this
    · rw [vset_same, List.take_of_length_le (by rw [hfl]; exact Nat.le_refl _)]
      simp [fzOff]
    · intro d h1 h2
      rw [vset_ne h1, vdel_ne h2]
  · simp only
    rw [hle]
    conv => whnf
    refine ⟨⟨by rw [hfl]; omega, hroom⟩, ?_⟩
    have := hk (vset vh nx (.cells (((xs.map enc).flatten.drop 0).take (xs.length * es) ++ enc a) ty 0 false)) ?_ ?_
    · rw [List.length_append, List.length_singleton] at this; exact this
    · rw [vset_same, List.drop_zero, List.take_of_length_le (by rw [hfl]; exact Nat.le_refl _)]
      simp
    · intro d h1 h2
      rw [vset_ne h1]
def litP : List (List Nat) := [[], S_p, S_q]
def litL : List (List Nat) := [[], S_a, S_b, S_c, S_r, S_pi, S_q]
def litV : List (List Nat) := [[], S_x, S_32_y_10_, S_60__38__62__34_, S_13__9_, S_195__169__93__93__62_, S_text, S_c, S_32__45__32_, S_60__38__62_, S_d, Sa_32__63__32__62_]
structure MadeNd (n : Nd) : Prop where
  p : n.p ∈ litP
  l : n.l ∈ litL
  v : n.v ∈ litV
  s : n.s.length ≤ 6
  a : ∀ a ∈ n.s, ∃ c ∈ cand, a.p = c.p ∧ a.l = c.l ∧ a.v = c.v
theorem litP_small : ∀ s ∈ litP, s.length < 2 ^ 38 := by decide
theorem litL_small : ∀ s ∈ litL, s.length < 2 ^ 38 ∧ ∀ c ∈ s, c < 256 := by decide
theorem litV_small : ∀ s ∈ litV, s.length < 2 ^ 40 := by decide
theorem cand_small : ∀ a ∈ cand, a.p.length < 2 ^ 38 ∧ a.l.length < 2 ^ 38 ∧ a.v.length < 2 ^ 40 := by decide
theorem MadeNd.small {n : Nd} (h : MadeNd n) : NdSmall n where
  p := litP_small _ h.p
  l := (litL_small _ h.l).1
  v := litV_small _ h.v
  b := (litL_small _ h.l).2
  s := by have := h.s; omega
  a := fun a ha => by
    obtain ⟨c, hc, e1, e2, e3⟩ := h.a a ha
    obtain ⟨h1, h2, h3⟩ := cand_small c hc
    exact ⟨by rw [e1]; exact h1, by rw [e2]; exact h2, by rw [e3]; exact h3⟩
theorem nsA_same (lv : List (List Attr)) (a : Attr) : (nsA lv a).1.p = a.p ∧ (nsA lv a).1.l = a.l ∧ (nsA lv a).1.v = a.v := by
  unfold nsA
  split
  · exact ⟨rfl, rfl, rfl⟩
  · split <;> exact ⟨rfl, rfl, rfl⟩
theorem nsL_mem (lv : List (List Attr)) : ∀ (xs : List Attr) (a : Attr), a ∈ (nsL lv xs).1 → ∃ b ∈ xs, a.p = b.p ∧ a.l = b.l ∧ a.v = b.v
  | [], a, h => by cases h
  | x :: xs, a, h => by
    simp only [nsL] at h
    split at h
    · rcases List.mem_cons.1 h with rfl | h1
      · exact ⟨x, .head _, nsA_same lv x⟩
      · obtain ⟨b, hb, e⟩ := nsL_mem lv xs a h1
        exact ⟨b, .tail _ hb, e⟩
    · rcases List.mem_cons.1 h with rfl | h1
      · exact ⟨x, .head _, nsA_same lv x⟩
      · exact ⟨a, .tail _ h1, rfl, rfl, rfl⟩
theorem namesP_made {lv : List (List Attr)} {n : Nd} (h : MadeNd n) : MadeNd (namesP lv n).1 := by
  unfold namesP
  split
  · exact ⟨h.p, h.l, h.v, h.s, h.a⟩
  · refine ⟨h.p, h.l, h.v, ?_, fun a ha => ?_⟩
    · show (nsL lv n.s).1.length ≤ 6
      rw [nsL_len]; exact h.s
    · obtain ⟨b, hb, e1, e2, e3⟩ := nsL_mem lv n.s a ha
      obtain ⟨c, hc, f1, f2, f3⟩ := h.a b hb
      exact ⟨c, hc, e1.trans f1, e2.trans f2, e3.trans f3⟩
theorem namesP_d (lv : List (List Attr)) (n : Nd) : (namesP lv n).1.d = n.d := by
  unfold namesP
  split <;> rfl
structure XK (X : Ovr) : Prop extends XM X where
  attrs : X F_law16_attrs = none
  make : X F_law16_Make = none
structure LvOk (m : Nat) (lv : List (List Attr)) : Prop where
  len : lv.length ≤ m
  mem : ∀ l ∈ lv, l.length < 2 ^ 30
theorem LvOk.up {m k : Nat} {lv : List (List Attr)} (h : LvOk m lv) (hk : m ≤ k) : LvOk k lv := ⟨Nat.le_trans h.len hk, h.mem⟩
theorem LvOk.push {m : Nat} {lv : List (List Attr)} (h : LvOk m lv) {l : List Attr} (hl : l.length < 2 ^ 30) : LvOk (m + 1) (lv ++ [l]) := by
  refine ⟨?_, fun x hx => ?_⟩
  · have := h.len
    rw [List.length_append, List.length_singleton]; omega
  · rcases List.mem_append.1 hx with h1 | h1
    · exact h.mem x h1
    · rw [List.mem_singleton.1 h1]; exact hl
end Go.Proofs.YtpcbnpekdmobpaaGreatDoor
open Go Go.Ev Go.VL
namespace Go.Proofs.YtpcbnpekdmobpaaGreatDoor
attribute [local irreducible] fApp
variable {X : Ovr} {G : Gt}
def encI (n : Int) : List V := [.int .i64 n]
abbrev mkE (ls : List Int) (bt bs tn : Nat) (c : Option Nat) (root : Bool) (i : Int) (tl : VEnv) : VEnv := (0, .sl 1 (ls.map encI) none) :: (3, .msl bt 0 tn 7 c) :: (4, .ptr bs 0) :: (5, .bool root) :: (6, .int .i64 i) :: tl
theorem cand_made {xs : List Attr} (F : FewA 6 xs) : ∀ a ∈ xs, ∃ c ∈ cand, a.p = c.p ∧ a.l = c.l ∧ a.v = c.v := fun a ha => ⟨a, F.mem a ha, rfl, rfl, rfl⟩
theorem LvOk.b {m : Nat} {lv : List (List Attr)} (h : LvOk m lv) : ∀ l ∈ lv, l.length < 2 ^ 40 := fun l hl => Nat.lt_trans (h.mem l hl) (by decide)
set_option maxHeartbeats 4000000 in
theorem Make_R24 (H : XK X) (ls : List Int) (bt bs bn tn : Nat) (c : Option Nat) (root : Bool) (i u d : Int) (lv : List (List Attr)) (m : Nat) (L : LvOk m lv) (hm : m < 2 ^ 20) (vh : VH) (vn : Nat) (ty : TypeId) (hs : Sc vh bs lv) (hbs : bs < bn) (hbn : bn < vn) (hn : vh bn = some (.cells (encNv ⟨0, d, [], [], [], [], []⟩ .nils) ty 0 false)) (Q : FQ)
    (hC : ∀ lv' vh' vn' tl, vn ≤ vn' → Sc vh' bs lv' → LvOk (m + 1) lv' → (∀ c, c < bn → c ≠ bs → vh' c = vh c) → Q (.exit 1) (mkE ls bt bs tn c root i tl) vh' vn')
    (hN : ∀ n' av lv' root' vh' vn', vn ≤ vn' → MadeNd n' → n'.d = d → NdAt vh' bn n' av → SlR encA 4 vh' av n'.s → (∀ c, blkOf av c → bn < c ∧ c < vn') → Sc vh' bs lv' → LvOk (m + 1) lv' → (∀ c, c < bn → c ≠ bs → vh' c = vh c) → Q .norm (mkE ls bt bs tn c root' i [(11, .ptr bn 0)]) vh' vn') :
    FLoop Tryz.prog X G (.cut c_law16_Make_R24) (mkE ls bt bs tn c root i [(7, .int .u64 u), (10, .int .i64 d), (11, .ptr bn 0)]) vh vn Q := by
  refine FLoop.cut ?_
  have hr1 := u_rem (x := wr .u64 (u.tdiv 8)) (m := 4) wru64_lt.1 (by decide)
  have hr2 := u_rem (x := wr .u64 (u.tdiv 256)) (m := 4) wru64_lt.1 (by decide)
  have dbn : bn ≠ bs := by omega
  have ln := L.len
  conv => whnf
  repeat (refine Owe.mk (by decide) ?_; conv => whnf)
  refine Get.lit (f := fun s => [V.str s]) (zs := [S_a, S_b, S_c, S_a]) rfl hr1.1 hr1.2 fun hlt1 => ?_
  have hz1 : ([S_a, S_b, S_c, S_a])[((wr .u64 (u.tdiv 8)).tmod 4).toNat] ∈ litL := (by decide : ∀ s ∈ [S_a, S_b, S_c, S_a], s ∈ litL) _ (List.getElem_mem hlt1)
  generalize ([S_a, S_b, S_c, S_a])[((wr .u64 (u.tdiv 8)).tmod 4).toNat] = z1 at hz1
  conv => whnf
  refine Get.mk (_, _, _, _) hn ?_
  conv => whnf
  refine ⟨⟨(by decide : 1 ≤ 7), Nat.zero_le _⟩, ?_⟩
  conv => whnf
  refine Get.mk (_, _, _, _) vset_same ?_
  conv => whnf
  refine ⟨⟨(by decide : 4 ≤ 7), Nat.zero_le _⟩, ?_⟩
  conv => whnf
  repeat (refine Owe.mk (by decide) ?_; conv => whnf)
  generalize hv1 : vset (vset vh bn _) bn _ = vh1
  have hn1 : vh1 bn = some (.cells (encNv ⟨2, d, [], z1, [], [], []⟩ .nils) ty 0 false) := by rw [← hv1]; exact vset_same
  have f1 : ∀ c, c ≠ bn → vh1 c = vh c := fun c hc => by rw [← hv1]; exact (vset_ne hc).trans (vset_ne hc)
  clear hv1
  refine (attrs_ok H.attrs (wr .u64 (u.tdiv 32)) vh1 vn).mono fun v2 vh2 n2 he => ?_
  obtain ⟨g2, f2, xs, F, A⟩ := he
  have hav : ∀ c, blkOf v2 c → vn ≤ c ∧ c < n2 := fun c hc => by
    rcases A with ⟨rfl | rfl, _⟩ | ⟨b, hb1, hb2, rfl, _⟩
    · cases hc
    · cases hc
    · obtain rfl : c = b := hc
      exact ⟨hb1, hb2⟩
  have hn2 := (f2 bn hbn).trans hn1
  have s2 : Sc vh2 bs lv := Sc_at hs ((f2 bs (by omega)).trans (f1 bs dbn.symm))
  have fr2 : ∀ c, c < bn → vh2 c = vh c := fun c hc => (f2 c (by omega)).trans (f1 c (by omega))
  clear f1 hn1 hn hs f2
  obtain ⟨w, hw⟩ : ∃ w, w = v2 := ⟨_, rfl⟩
  have xl := F.len
  rcases id A with ⟨rfl | rfl, hnil⟩ | ⟨ba, hb1, hb2, rfl, hb4⟩
  all_goals
    conv => whnf
    refine Get.mk (_, _, _, _) hn2 ?_
    conv => whnf
    refine ⟨⟨(by decide : 7 ≤ 7), Nat.zero_le _⟩, ?_⟩
    conv => whnf
    repeat (refine Owe.mk (by decide) ?_; conv => whnf)
    refine Get.lit (f := fun s => [V.str s]) (zs := [[], [], S_p, S_q]) rfl hr2.1 hr2.2 fun hlt2 => ?_
    have hz2 : ([[], [], S_p, S_q])[((wr .u64 (u.tdiv 256)).tmod 4).toNat] ∈ litP := (by decide : ∀ s ∈ [[], [], S_p, S_q], s ∈ litP) _ (List.getElem_mem hlt2)
    generalize ([[], [], S_p, S_q])[((wr .u64 (u.tdiv 256)).tmod 4).toNat] = z2 at hz2
    conv => whnf
    refine Get.mk (_, _, _, _) vset_same ?_
    conv => whnf
    refine ⟨⟨(by decide : 3 ≤ 7), Nat.zero_le _⟩, ?_⟩
    conv => whnf
    generalize hv4 : vset (vset vh2 bn _) bn _ = vh4
    have hn4 : vh4 bn = some (.cells (encNv ⟨2, d, z2, z1, [], [], xs⟩ w) ty 0 false) := by rw [hw, ← hv4]; exact vset_same
    rw [hw] at hn4
    have f4 : ∀ c, c ≠ bn → vh4 c = vh2 c := fun c hc => by rw [← hv4]; exact (vset_ne hc).trans (vset_ne hc)
    clear hv4
    have s4 := Sc_at s2 (f4 bs dbn.symm)
    have A4 := A.r.at (vh' := vh4) fun c hc => f4 c (by have := hav c hc; omega)
    have M4 : MadeNd ⟨2, d, z2, z1, [], [], xs⟩ := ⟨hz2, hz1, .head _, F.len, cand_made F⟩
    have fr4 : ∀ c, c < bn → vh4 c = vh c := fun c hc => (f4 c (by omega)).trans (fr2 c hc)
    refine Get.mk (_, _, _, _) hn4 ?_
    conv => whnf
    refine Get.mk _ rfl ?_
    conv => whnf
    refine (Push_ok H.declares H.push bs lv _ xs vh4 n2 s4 (by omega) (by omega) A4 (fun c hc => (hav c hc).2) (by omega)).mono fun r vh5 n5 he => ?_
    obtain ⟨g5, f5, he⟩ := he
    have fr5 : ∀ c, c < bn → c ≠ bs → vh5 c = vh c := fun c hc hcb => (f5 c (by omega) hcb).trans (fr4 c hc)
    cases hp : pushP [] xs with
    | none =>
      rw [hp] at he
      obtain ⟨rfl, s5⟩ := he
      conv => whnf
      exact hC lv vh5 n5 _ (by omega) s5 (L.up (by omega)) fr5
    | some ms =>
      rw [hp] at he
      obtain ⟨rfl, s5⟩ := he
      have hms : ms.length < 2 ^ 30 := by
        have := pushP_len _ _ _ hp
        simp only [List.length_nil] at this
        omega
      have L5 := L.push hms
      have hn5 := (f5 bn (by omega) dbn).trans hn4
      have A5 := A4.at (vh' := vh5) fun c hc => f5 c (hav c hc).2 (by have := hav c hc; omega)
      have dav1 := fun h => Nat.lt_irrefl _ (Nat.lt_of_lt_of_le hbn (hav bn h).1)
      have dav2 := fun h => Nat.lt_irrefl _ (Nat.lt_trans hbs (Nat.lt_of_lt_of_le hbn (hav bs h).1))
      conv => whnf
      refine (Names_ok H.declares H.uri H.names bs bn (lv ++ [ms]) L5.b (by have := L5.len; omega) ⟨2, d, z2, z1, [], [], xs⟩ _ (by show xs.length < _; omega) vh5 n5 dbn.symm dav2 dav1 s5 ⟨ty, hn5⟩ A5).mono fun r vh6 n6 he => ?_
      obtain ⟨e1, e2, ⟨ty6, hn6⟩, A6, f6⟩ := he
      rw [e1, e2]
      have s6 := Sc_at s5 (f6 bs dbn.symm dav2)
      have fr6 : ∀ c, c < bn → c ≠ bs → vh6 c = vh c := fun c hc hcb => (f6 c (by omega) fun h => by have := hav c h; omega).trans (fr5 c hc hcb)
      have M6 := namesP_made (lv := lv ++ [ms]) M4
      conv => whnf
      refine CondP.mk (fun h7 => ?_) (fun h7 => ?_)
      · conv => whnf
        refine (Pop_ok H.pop bs (lv ++ [ms]) vh6 n5 s6 (by have := L5.len; omega)).mono fun r vh7 n7 he => ?_
        obtain ⟨e1, f7, s7, b7, e2⟩ := he
        rw [e1, e2]
        rw [List.dropLast_concat] at s7
        have hn7 := (f7 bn dbn).trans hn6
        conv => whnf
        refine Get.mk (_, _, _, _) hn7 ?_
        conv => whnf
        refine ⟨⟨(by decide : 3 ≤ 7), Nat.zero_le _⟩, ?_⟩
        conv => whnf
        refine Get.mk (_, _, _, _) vset_same ?_
        conv => whnf
        refine ⟨⟨(by decide : 7 ≤ 7), Nat.zero_le _⟩, ?_⟩
        conv => whnf
        generalize hv8 : vset (vset vh7 bn _) bn _ = vh8
        have hn8 : vh8 bn = some (.cells (encNv { (namesP (lv ++ [ms]) ⟨2, d, z2, z1, [], [], xs⟩).1 with p := [], s := [] } .nils) ty6 0 false) := by rw [← hv8]; exact vset_same
        have f8 : ∀ c, c ≠ bn → vh8 c = vh7 c := fun c hc => by rw [← hv8]; exact (vset_ne hc).trans (vset_ne hc)
        clear hv8
        have s8 := Sc_at s7 (f8 bs dbn.symm)
        have fr8 : ∀ c, c < bn → c ≠ bs → vh8 c = vh c := fun c hc hcb => (f8 c (by omega)).trans ((f7 c hcb).trans (fr6 c hc hcb))
        have M8 : MadeNd { (namesP (lv ++ [ms]) ⟨2, d, z2, z1, [], [], xs⟩).1 with p := [], s := [] } := ⟨.head _, M6.l, M6.v, by show 0 ≤ 6; omega, nofun⟩
        have d8 : ({ (namesP (lv ++ [ms]) ⟨2, d, z2, z1, [], [], xs⟩).1 with p := [], s := [] } : Nd).d = d := namesP_d _ _
        have e8 : ({ (namesP (lv ++ [ms]) ⟨2, d, z2, z1, [], [], xs⟩).1 with p := [], s := [] } : Nd).s = [] := rfl
        generalize ({ (namesP (lv ++ [ms]) ⟨2, d, z2, z1, [], [], xs⟩).1 with p := [], s := [] } : Nd) = N8 at hn8 M8 d8 e8
        refine (Push_ok H.declares H.push bs lv .nils [] vh8 n5 s8 (by omega) (by omega) (.inl ⟨rfl, rfl⟩) (fun c hc => by cases hc) (by decide)).mono fun r vh9 n9 he => ?_
        obtain ⟨g9, f9, he⟩ := he
        have he : r = .int .i64 0 ∧ Sc vh9 bs (lv ++ [[]]) := he
        obtain ⟨rfl, s9⟩ := he
        have L9 := L.push (l := []) (by decide)
        have hn9 := (f9 bn (by omega) dbn).trans hn8
        have fr9 : ∀ c, c < bn → c ≠ bs → vh9 c = vh c := fun c hc hcb => (f9 c (by omega) hcb).trans (fr8 c hc hcb)
        conv => whnf
        refine (Names_ok H.declares H.uri H.names bs bn (lv ++ [[]]) L9.b (by have := L9.len; omega) N8 .nils (by rw [e8]; decide) vh9 n9 dbn.symm (fun h => h) (fun h => h) s9 ⟨ty6, hn9⟩ (.inl ⟨e8, rfl⟩)).mono fun r vh10 n10 he => ?_
        obtain ⟨e1, e2, N10, A10, f10⟩ := he
        rw [e1, e2]
        have s10 := Sc_at s9 (f10 bs dbn.symm fun h => h)
        have fr10 : ∀ c, c < bn → c ≠ bs → vh10 c = vh c := fun c hc hcb => (f10 c (by omega) fun h => h).trans (fr9 c hc hcb)
        conv => whnf
        refine CondP.mk (fun h8 => ?_) (fun h8 => ?_)
        · conv => whnf
          exact hC (lv ++ [[]]) vh10 n9 _ (by omega) s10 L9 fr10
        · conv => whnf
          refine CondP.mk (fun h9 => ?_) (fun h9 => ?_)
          · conv => whnf
            exact hN _ _ (lv ++ [[]]) _ vh10 n9 (by omega) (namesP_made M8) ((namesP_d _ _).trans d8) N10 A10 (fun c hc => by cases hc) s10 L9 fr10
          · conv => whnf
            exact hN _ _ (lv ++ [[]]) _ vh10 n9 (by omega) (namesP_made M8) ((namesP_d _ _).trans d8) N10 A10 (fun c hc => by cases hc) s10 L9 fr10
      · conv => whnf
        refine CondP.mk (fun h9 => ?_) (fun h9 => ?_)
        · conv => whnf
          exact hN _ _ (lv ++ [ms]) _ vh6 n5 (by omega) M6 (namesP_d _ _) ⟨ty6, hn6⟩ A6 (fun c hc => by have := hav c hc; omega) s6 L5 fr6
        · conv => whnf
          exact hN _ _ (lv ++ [ms]) _ vh6 n5 (by omega) M6 (namesP_d _ _) ⟨ty6, hn6⟩ A6 (fun c hc => by have := hav c hc; omega) s6 L5 fr6
end Go.Proofs.YtpcbnpekdmobpaaGreatDoor
open Go Go.Ev Go.VL
namespace Go.Proofs.YtpcbnpekdmobpaaGreatDoor
attribute [local irreducible] fApp
variable {X : Ovr} {G : Gt}
set_option maxHeartbeats 4000000 in
theorem Make_R22 (H : XK X) (ls : List Int) (bt bs bn tn : Nat) (c : Option Nat) (root : Bool) (i u d k : Int) (last : Nd) (lv : List (List Attr)) (m : Nat) (L : LvOk m lv) (hm : m < 2 ^ 20) (vh : VH) (vn : Nat) (ty : TypeId) (hs : Sc vh bs lv) (hbs : bs < bn) (hbn : bn < vn) (hn : vh bn = some (.cells (encNv ⟨0, d, [], [], [], [], []⟩ .nils) ty 0 false)) (Q : FQ)
    (hC : ∀ lv' vh' vn' tl, vn ≤ vn' → Sc vh' bs lv' → LvOk (m + 1) lv' → (∀ c, c < bn → c ≠ bs → vh' c = vh c) → Q (.exit 1) (mkE ls bt bs tn c root i tl) vh' vn')
    (hN : ∀ n' av lv' root' vh' vn', vn ≤ vn' → MadeNd n' → n'.d = d → NdAt vh' bn n' av → SlR encA 4 vh' av n'.s → (∀ c, blkOf av c → bn < c ∧ c < vn') → Sc vh' bs lv' → LvOk (m + 1) lv' → (∀ c, c < bn → c ≠ bs → vh' c = vh c) → Q .norm (mkE ls bt bs tn c root' i [(11, .ptr bn 0)]) vh' vn') :
    FLoop Tryz.prog X G (.cut c_law16_Make_R22) (mkE ls bt bs tn c root i [(7, .int .u64 u), (8, .bx (encN last)), (10, .int .i64 d), (11, .ptr bn 0), (12, .int .u64 k)]) vh vn Q := by
  refine FLoop.cut ?_
  have hr1 := u_rem (x := wr .u64 (u.tdiv 8)) (m := 6) wru64_lt.1 (by decide)
  have hr2 := u_rem (x := wr .u64 (u.tdiv 8)) (m := 4) wru64_lt.1 (by decide)
  have hr3 := u_rem (x := wr .u64 (u.tdiv 8)) (m := 2) wru64_lt.1 (by decide)
  have hr4 := u_rem (x := wr .u64 (u.tdiv 16)) (m := 3) wru64_lt.1 (by decide)
  have dbn : bn ≠ bs := by omega
  conv => whnf
  refine CondP.mk (fun h1 => ?_) (fun h1 => ?_)
  · conv => whnf
    refine CondP.mk (fun h2 => ?_) (fun h2 => ?_)
    · conv => whnf
      refine CondP.mk (fun h3 => ?_) (fun h3 => ?_)
      · conv => whnf
        exact hC lv vh vn _ (Nat.le_refl _) hs (L.up (by omega)) fun _ _ _ => rfl
      · conv => whnf
        exact Make_R24 H ls bt bs bn tn c root i u d lv m L hm vh vn ty hs hbs hbn hn _ hC hN
    · conv => whnf
      exact Make_R24 H ls bt bs bn tn c root i u d lv m L hm vh vn ty hs hbs hbn hn _ hC hN
  · conv => whnf
    refine CondP.mk (fun h2 => ?_) (fun h2 => ?_)
    · conv => whnf
      repeat (refine Owe.mk (by decide) ?_; conv => whnf)
      refine Get.lit (f := fun s => [V.str s]) (zs := [S_x, S_32_y_10_, S_60__38__62__34_, S_13__9_, S_195__169__93__93__62_, S_text]) rfl hr1.1 hr1.2 fun hlt => ?_
      have hz1 : ([S_x, S_32_y_10_, S_60__38__62__34_, S_13__9_, S_195__169__93__93__62_, S_text])[((wr .u64 (u.tdiv 8)).tmod 6).toNat] ∈ litV := (by decide : ∀ s ∈ [S_x, S_32_y_10_, S_60__38__62__34_, S_13__9_, S_195__169__93__93__62_, S_text], s ∈ litV) _ (List.getElem_mem hlt)
      generalize ([S_x, S_32_y_10_, S_60__38__62__34_, S_13__9_, S_195__169__93__93__62_, S_text])[((wr .u64 (u.tdiv 8)).tmod 6).toNat] = z1 at hz1
      conv => whnf
      refine Get.mk (_, _, _, _) hn ?_
      conv => whnf
      refine ⟨⟨(by decide : 1 ≤ 7), Nat.zero_le _⟩, ?_⟩
      conv => whnf
      refine Get.mk (_, _, _, _) vset_same ?_
      conv => whnf
      refine ⟨⟨(by decide : 6 ≤ 7), Nat.zero_le _⟩, ?_⟩
      conv => whnf
      generalize hv1 : vset (vset vh bn _) bn _ = vh1
      have hn1 : vh1 bn = some (.cells (encNv ⟨3, d, [], [], [], z1, []⟩ .nils) ty 0 false) := by rw [← hv1]; exact vset_same
      have f1 : ∀ c, c ≠ bn → vh1 c = vh c := fun c hc => by rw [← hv1]; exact (vset_ne hc).trans (vset_ne hc)
      have s1 := Sc_at hs (f1 bs dbn.symm)
      have fr1 : ∀ c, c < bn → c ≠ bs → vh1 c = vh c := fun c hc _ => f1 c (by omega)
      have M1 : MadeNd ⟨3, d, [], [], [], z1, []⟩ := ⟨.head _, .head _, hz1, by show 0 ≤ 6; omega, nofun⟩
      clear hv1
      repeat' ((first | refine CondP.mk (fun _ => ?_) (fun _ => ?_)) <;> (conv => whnf))
      all_goals first
        | exact hC lv vh1 vn _ (Nat.le_refl _) s1 (L.up (by omega)) fr1
        | exact hN _ _ lv _ vh1 vn (Nat.le_refl _) M1 rfl ⟨ty, hn1⟩ (.inl ⟨rfl, rfl⟩) (fun c hc => by cases hc) s1 (L.up (by omega)) fr1
    · conv => whnf
      refine CondP.mk (fun h3 => ?_) (fun h3 => ?_)
      · conv => whnf
        repeat (refine Owe.mk (by decide) ?_; conv => whnf)
        refine Get.lit (f := fun s => [V.str s]) (zs := [[], S_c, S_32__45__32_, S_60__38__62_]) rfl hr2.1 hr2.2 fun hlt => ?_
        have hz1 : ([[], S_c, S_32__45__32_, S_60__38__62_])[((wr .u64 (u.tdiv 8)).tmod 4).toNat] ∈ litV := (by decide : ∀ s ∈ [[], S_c, S_32__45__32_, S_60__38__62_], s ∈ litV) _ (List.getElem_mem hlt)
        generalize ([[], S_c, S_32__45__32_, S_60__38__62_])[((wr .u64 (u.tdiv 8)).tmod 4).toNat] = z1 at hz1
        conv => whnf
        refine Get.mk (_, _, _, _) hn ?_
        conv => whnf
        refine ⟨⟨(by decide : 1 ≤ 7), Nat.zero_le _⟩, ?_⟩
        conv => whnf
        refine Get.mk (_, _, _, _) vset_same ?_
        conv => whnf
        refine ⟨⟨(by decide : 6 ≤ 7), Nat.zero_le _⟩, ?_⟩
        conv => whnf
        exact hN ⟨4, d, [], [], [], z1, []⟩ .nils lv _ _ vn (Nat.le_refl _) ⟨.head _, .head _, hz1, by show 0 ≤ 6; omega, nofun⟩ rfl ⟨ty, vset_same⟩ (.inl ⟨rfl, rfl⟩) (fun c hc => by cases hc) (Sc_at hs ((vset_ne dbn.symm).trans (vset_ne dbn.symm))) (L.up (by omega)) fun c hc _ => (vset_ne (by omega)).trans (vset_ne (by omega))
      · conv => whnf
        repeat (refine Owe.mk (by decide) ?_; conv => whnf)
        refine Get.lit (f := fun s => [V.str s]) (zs := [S_pi, S_q]) rfl hr3.1 hr3.2 fun hlt => ?_
        have hz1 : ([S_pi, S_q])[((wr .u64 (u.tdiv 8)).tmod 2).toNat] ∈ litL := (by decide : ∀ s ∈ [S_pi, S_q], s ∈ litL) _ (List.getElem_mem hlt)
        generalize ([S_pi, S_q])[((wr .u64 (u.tdiv 8)).tmod 2).toNat] = z1 at hz1
        conv => whnf
        repeat (refine Owe.mk (by decide) ?_; conv => whnf)
        refine Get.lit (f := fun s => [V.str s]) (zs := [[], S_d, Sa_32__63__32__62_]) rfl hr4.1 hr4.2 fun hlt => ?_
        have hz2 : ([[], S_d, Sa_32__63__32__62_])[((wr .u64 (u.tdiv 16)).tmod 3).toNat] ∈ litV := (by decide : ∀ s ∈ [[], S_d, Sa_32__63__32__62_], s ∈ litV) _ (List.getElem_mem hlt)
        generalize ([[], S_d, Sa_32__63__32__62_])[((wr .u64 (u.tdiv 16)).tmod 3).toNat] = z2 at hz2
        conv => whnf
        refine Get.mk (_, _, _, _) hn ?_
        conv => whnf
        refine ⟨⟨(by decide : 1 ≤ 7), Nat.zero_le _⟩, ?_⟩
        conv => whnf
        refine Get.mk (_, _, _, _) vset_same ?_
        conv => whnf
        refine ⟨⟨(by decide : 4 ≤ 7), Nat.zero_le _⟩, ?_⟩
        conv => whnf
        refine Get.mk (_, _, _, _) vset_same ?_
        conv => whnf
        refine ⟨⟨(by decide : 6 ≤ 7), Nat.zero_le _⟩, ?_⟩
        conv => whnf
        exact hN ⟨5, d, [], z1, [], z2, []⟩ .nils lv _ _ vn (Nat.le_refl _) ⟨.head _, hz1, hz2, by show 0 ≤ 6; omega, nofun⟩ rfl ⟨ty, vset_same⟩ (.inl ⟨rfl, rfl⟩) (fun c hc => by cases hc) (Sc_at hs ((vset_ne dbn.symm).trans ((vset_ne dbn.symm).trans (vset_ne dbn.symm)))) (L.up (by omega)) fun c hc _ => (vset_ne (by omega)).trans ((vset_ne (by omega)).trans (vset_ne (by omega)))
theorem Make_L1 (H : XK X) (ls : List Int) (bt bs tn : Nat) (c : Option Nat) (root : Bool) (i u d : Int) (last : Nd) (hd : 1 ≤ d) (vn : Nat) (Q : FQ) : ∀ (m : Nat) (lv : List (List Attr)) (vh : VH), lv.length = m → lv.length < 2 ^ 40 → Sc vh bs lv →
    (∀ vh' b lv', lv'.length ≤ lv.length → (∀ l ∈ lv', l ∈ lv) → Sc vh' bs lv' → (∀ c, c ≠ bs → vh' c = vh c) → Q (.exit 2) (mkE ls bt bs tn c root i [(7, .int .u64 u), (8, .bx (encN last)), (10, .int .i64 d), (76, .bool b)]) vh' vn) →
    FLoop Tryz.prog X G (.loop c_law16_Make_L1) (mkE ls bt bs tn c root i [(7, .int .u64 u), (8, .bx (encN last)), (10, .int .i64 d)]) vh vn Q
  | m, lv, vh, hm, hl, hs, hQ => by
    refine FLoop.round ?_
    obtain ⟨ty, hs4⟩ := id hs
    conv => whnf
    refine Get.mk (_, _, _, _) hs4 ?_
    conv => whnf
    refine Get.mk _ rfl ?_
    conv => whnf
    refine CondP.mk (fun h1 => ?_) (fun h1 => ?_)
    · have h1' : d ≤ (lv.length : Int) := by simpa using h1
      conv => whnf
      refine (Pop_ok H.pop bs lv vh vn hs hl).mono fun v vh' vn' he => ?_
      obtain ⟨e1, f1, s1, b1, e2⟩ := he
      rw [e1, e2]
      conv => whnf
      refine Make_L1 H ls bt bs tn c root i u d last hd vn Q (m - 1) lv.dropLast vh' (by rw [List.length_dropLast]; omega) (by rw [List.length_dropLast]; omega) s1 fun vh2 b lv2 l2 m2 s2 f2 => hQ vh2 b lv2 ?_ (fun l hl => List.dropLast_subset _ (m2 l hl)) s2 fun c hc => (f2 c hc).trans (f1 c hc)
      rw [List.length_dropLast] at l2
      omega
    · conv => whnf
      exact hQ vh _ lv (Nat.le_refl _) (fun _ h => h) hs fun _ _ => rfl
termination_by m => m
decreasing_by all_goals omega
end Go.Proofs.YtpcbnpekdmobpaaGreatDoor
open Go Go.Ev Go.VL
namespace Go.Proofs.YtpcbnpekdmobpaaGreatDoor
attribute [local irreducible] fApp
variable {X : Ovr} {G : Gt}
theorem encN_len (n : Nd) : (encN n).length = 7 := rfl
set_option maxHeartbeats 4000000 in
theorem Make_R17 (H : XK X) (ls : List Int) (bt bs : Nat) (ts : List Nd) (c : Option Nat) (root : Bool) (i u d : Int) (last : Nd) (lv : List (List Attr)) (m : Nat) (L : LvOk m lv) (hm : m < 2 ^ 20) (vh : VH) (vn : Nat) (hs : Sc vh bs lv) (hbs : bs < vn) (hbt : bt < vn) (dbt : bt ≠ bs) (ht : vh bt = some (.cells (ts.map encN).flatten T_api_Node 0 false)) (hc : c = none ∨ c = some ts.length) (hts : ts.length < 2 ^ 20) (hd : 1 ≤ d) (Q : FQ)
    (hC : ∀ lv' vh' vn' tl, vn ≤ vn' → Sc vh' bs lv' → LvOk (m + 1) lv' → (∀ c, c < vn → c ≠ bs → vh' c = vh c) → Q (.exit 1) (mkE ls bt bs ts.length c root i tl) vh' vn')
    (hN : ∀ n' b' lv' root' vh' vn', vn ≤ b' → b' < vn' → MadeNd n' → n'.d = d → vh' b' = some (.cells ((ts ++ [n']).map encN).flatten T_api_Node 0 false) → Sc vh' bs lv' → LvOk (m + 1) lv' → (∀ c, c < vn → c ≠ bs → c ≠ bt → vh' c = vh c) → Q .norm (mkE ls b' bs (ts ++ [n']).length none root' i []) vh' vn') :
    FLoop Tryz.prog X G (.cut c_law16_Make_R17) (mkE ls bt bs ts.length c root i [(7, .int .u64 u), (8, .bx (encN last)), (10, .int .i64 d)]) vh vn Q := by
  refine FLoop.cut ?_
  conv => whnf
  refine Make_L1 H ls bt bs ts.length c root i u d last hd vn _ lv.length lv vh rfl (by have := L.len; omega) hs fun vh1 b lv1 l1 m1 s1 f1 => ?_
  have L1 : LvOk m lv1 := ⟨Nat.le_trans l1 L.len, fun l hl => L.mem l (m1 l hl)⟩
  conv => whnf
  refine Get.mk (_, _, _, _) vset_same ?_
  conv => whnf
  refine ⟨⟨(by decide : 7 ≤ 7), Nat.zero_le _⟩, ?_⟩
  conv => whnf
  repeat (refine Owe.mk (by decide) ?_; conv => whnf)
  generalize hv2 : vset (vset vh1 vn _) vn _ = vh2
  have hn2 : vh2 vn = some (.cells (encNv ⟨0, d, [], [], [], [], []⟩ .nils) T_api_Node 0 false) := by rw [← hv2]; exact vset_same
  have f2 : ∀ c, c ≠ vn → vh2 c = vh1 c := fun c hc => by rw [← hv2]; exact (vset_ne hc).trans (vset_ne hc)
  have s2 := Sc_at s1 (f2 bs (by omega))
  have fr2 : ∀ c, c < vn → c ≠ bs → vh2 c = vh c := fun c hc hcb => (f2 c (by omega)).trans (f1 c hcb)
  clear hv2
  refine Make_R22 H ls bt bs vn ts.length c root i u d _ last lv1 m L1 hm vh2 (vn + 1) T_api_Node s2 hbs (by omega) hn2 _ (fun lv3 vh3 n3 tl g3 s3 L3 f3 => ?_) (fun n3 av lv3 root3 vh3 nx3 g3 M3 d3 N3 A3 hav s3 L3 f3 => ?_)
  · exact hC lv3 vh3 n3 tl (by omega) s3 L3 fun c hc hcb => (f3 c hc hcb).trans (fr2 c hc hcb)
  · obtain ⟨k', d', p', l', u', v', s'⟩ := n3
    obtain ⟨ty3, N3⟩ := N3
    have ht3 := (f3 bt hbt dbt).trans ((fr2 bt hbt dbt).trans ht)
    have fr3 : ∀ c, c < vn → c ≠ bs → vh3 c = vh c := fun c hc hcb => (f3 c hc hcb).trans (fr2 c hc hcb)
    rcases id A3 with ⟨h3, rfl⟩ | ⟨h3, rfl⟩ | ⟨ba, ta, rfl, h4⟩
    · obtain rfl : s' = [] := h3
      conv => whnf
      refine Get.mk (_, _, _, _) N3 ?_
      conv => whnf
      refine Get.mk (encNv ⟨k', d', p', l', u', v', []⟩ .nils) ⟨rfl, (by decide : 7 ≤ 7)⟩ ?_
      conv => whnf
      refine app_own (a := (⟨k', d', p', l', u', v', []⟩ : Nd)) encN_len (by decide) ht3 rfl hc ⟨?_, ?_⟩ fun vh4 h4 f4 => ?_
      · omega
      · show _ < 9223372036854775808; omega
      conv => whnf
      exact hN _ nx3 lv3 root3 vh4 (nx3 + 1) (by omega) (by omega) M3 d3 h4 (Sc_at s3 (f4 bs (by omega) (Ne.symm dbt))) L3 fun c hc hcb hct => (f4 c (by omega) hct).trans (fr3 c hc hcb)
    · obtain rfl : s' = [] := h3
      conv => whnf
      refine Get.mk (_, _, _, _) N3 ?_
      conv => whnf
      refine Get.mk (encNv ⟨k', d', p', l', u', v', []⟩ (.sl 4 [] (some 0))) ⟨rfl, (by decide : 7 ≤ 7)⟩ ?_
      conv => whnf
      refine app_own (a := (⟨k', d', p', l', u', v', []⟩ : Nd)) encN_len (by decide) ht3 rfl hc ⟨?_, ?_⟩ fun vh4 h4 f4 => ?_
      · omega
      · show _ < 9223372036854775808; omega
      conv => whnf
      exact hN _ nx3 lv3 root3 vh4 (nx3 + 1) (by omega) (by omega) M3 d3 h4 (Sc_at s3 (f4 bs (by omega) (Ne.symm dbt))) L3 fun c hc hcb hct => (f4 c (by omega) hct).trans (fr3 c hc hcb)
    · conv => whnf
      refine Get.mk (_, _, _, _) N3 ?_
      conv => whnf
      refine Get.mk (encNv ⟨k', d', p', l', u', v', s'⟩ (.msl ba 0 s'.length 4 none)) ⟨rfl, (by decide : 7 ≤ 7)⟩ ?_
      conv => whnf
      refine Get.mk (_, _, _, _) h4 ?_
      conv => whnf
      refine ⟨fz_owe encA_len (by decide), ?_⟩
      conv => whnf
      refine Get.mk _ (fz_pieces encA_len) ?_
      conv => whnf
      have hba := hav ba rfl
      have f5 : ∀ c, c ≠ ba → vdel vh3 ba c = vh3 c := fun c hc => vdel_ne hc
      generalize vdel vh3 ba = vh5 at f5
      refine app_own (a := (⟨k', d', p', l', u', v', s'⟩ : Nd)) encN_len (by decide) ((f5 bt (by omega)).trans ht3) rfl hc ⟨?_, ?_⟩ fun vh4 h4 f4 => ?_
      · omega
      · show _ < 9223372036854775808; omega
      conv => whnf
      exact hN _ nx3 lv3 root3 vh4 (nx3 + 1) (by omega) (by omega) M3 d3 h4 (Sc_at s3 ((f4 bs (by omega) (Ne.symm dbt)).trans (f5 bs (by omega)))) L3 fun c hc hcb hct => ((f4 c (by omega) hct).trans (f5 c (by omega))).trans (fr3 c hc hcb)
set_option maxHeartbeats 4000000 in
theorem Make_R9 (H : XK X) (ls : List Int) (bt bs : Nat) (ts : List Nd) (c : Option Nat) (root : Bool) (i u : Int) (hu0 : 0 ≤ u) (hu1 : u < 18446744073709551616) (last : Nd) (hl0 : 0 ≤ last.d) (hl1 : last.d < 2 ^ 30) (hl2 : last.d = 0 → last.k = 1) (lv : List (List Attr)) (m : Nat) (L : LvOk m lv) (hm : m < 2 ^ 20) (vh : VH) (vn : Nat) (hs : Sc vh bs lv) (hbs : bs < vn) (hbt : bt < vn) (dbt : bt ≠ bs) (ht : vh bt = some (.cells (ts.map encN).flatten T_api_Node 0 false)) (hc : c = none ∨ c = some ts.length) (hts : ts.length < 2 ^ 20) (Q : FQ)
    (hC : ∀ lv' vh' vn' tl, vn ≤ vn' → Sc vh' bs lv' → LvOk (m + 1) lv' → (∀ c, c < vn → c ≠ bs → vh' c = vh c) → Q (.exit 1) (mkE ls bt bs ts.length c root i tl) vh' vn')
    (hN : ∀ n' b' lv' root' vh' vn', vn ≤ b' → b' < vn' → MadeNd n' → 1 ≤ n'.d → n'.d ≤ last.d + 1 → vh' b' = some (.cells ((ts ++ [n']).map encN).flatten T_api_Node 0 false) → Sc vh' bs lv' → LvOk (m + 1) lv' → (∀ c, c < vn → c ≠ bs → c ≠ bt → vh' c = vh c) → Q .norm (mkE ls b' bs (ts ++ [n']).length none root' i []) vh' vn') :
    FLoop Tryz.prog X G (.cut c_law16_Make_R9) (mkE ls bt bs ts.length c root i [(7, .int .u64 u), (8, .bx (encN last))]) vh vn Q := by
  refine FLoop.cut ?_
  have go : ∀ d, 1 ≤ d → d ≤ last.d + 1 → FLoop Tryz.prog X G (.cut c_law16_Make_R17) (mkE ls bt bs ts.length c root i [(7, .int .u64 u), (8, .bx (encN last)), (10, .int .i64 d)]) vh vn Q := fun d h1 h2 => Make_R17 H ls bt bs ts c root i u d last lv m L hm vh vn hs hbs hbt dbt ht hc hts h1 Q hC (fun a1 a2 a3 a4 a5 a6 a7 a8 a9 a10 a11 a12 a13 a14 => hN a1 a2 a3 a4 a5 a6 a7 a8 a9 (by omega) (by omega) a11 a12 a13 a14)
  have q0 : 0 ≤ u.tdiv 64 ∧ u.tdiv 64 < 2 ^ 60 := by rw [Int.tdiv_eq_ediv_of_nonneg hu0]; omega
  have q2 : wr .i64 (wr .u64 (u.tdiv 64)) = u.tdiv 64 := by rw [wru64 (by omega) (by omega), wr64 (by omega) (by omega)]
  have q1 := u_rem (x := u.tdiv 64) (m := 3) q0.1 (by decide)
  have e1 : wr .i64 (last.d + 1) = last.d + 1 := by rw [wr64] <;> omega
  have e2 : wr .i64 (last.d + 1 - (u.tdiv 64).tmod 3) = last.d + 1 - (u.tdiv 64).tmod 3 := by rw [wr64] <;> omega
  have e3 : wr .i64 (last.d - (u.tdiv 64).tmod 3) = last.d - (u.tdiv 64).tmod 3 := by rw [wr64] <;> omega
  clear hC hN L ht hs
  conv => whnf
  repeat' ((first | refine Owe.mk (by decide) ?_ | refine CondP.mk (fun _ => ?_) (fun _ => ?_)) <;> (conv => whnf))
  all_goals refine go _ ?_ ?_
  all_goals clear go
  all_goals
    simp only [q2, e1, e2, e3, decide_eq_true_eq, decide_eq_false_iff_not, cond_false, cond_true] at *
    omega
end Go.Proofs.YtpcbnpekdmobpaaGreatDoor
open Go Go.Ev Go.VL
namespace Go.Proofs.YtpcbnpekdmobpaaGreatDoor
attribute [local irreducible] fApp
variable {X : Ovr} {G : Gt}
theorem encN_all {xs : List Nd} {i : Nat} (h : i < xs.length) : ((xs.map encN).flatten.drop (0 + i * 7)).take 7 = encN xs[i] ∧ 0 + i * 7 + 7 ≤ (xs.map encN).flatten.length := by
  rw [Nat.zero_add]
  exact ⟨flat_take encN_len xs i h, flat_lt encN_len xs i h⟩
structure MadeT (ts : List Nd) : Prop where
  ne : 0 < ts.length
  nd : ∀ n ∈ ts, MadeNd n ∧ 0 ≤ n.d ∧ (n.d = 0 → n.k = 1) ∧ n.d < ts.length
theorem MadeT.app {ts : List Nd} (h : MadeT ts) {n : Nd} (hn : MadeNd n) (h1 : 1 ≤ n.d) (h2 : n.d ≤ ts.length) : MadeT (ts ++ [n]) := by
  refine ⟨by simp, fun a ha => ?_⟩
  rw [List.length_append, List.length_singleton]
  rcases List.mem_append.1 ha with h3 | h3
  · obtain ⟨q1, q2, q3, q4⟩ := h.nd a h3
    exact ⟨q1, q2, q3, by omega⟩
  · rw [List.mem_singleton.1 h3]
    exact ⟨hn, by omega, by omega, by omega⟩
structure MSt (lo bs bt : Nat) (ts : List Nd) (c : Option Nat) (lv : List (List Attr)) (m : Nat) (vh0 vh : VH) (vn : Nat) : Prop where
  sc : Sc vh bs lv
  L : LvOk m lv
  hbs : bs < vn
  hbt : bt < vn
  d : bt ≠ bs
  lo1 : lo ≤ bs
  lo2 : lo ≤ bt
  t : vh bt = some (.cells (ts.map encN).flatten T_api_Node 0 false)
  hc : c = none ∨ c = some ts.length
  made : MadeT ts
  len : ts.length ≤ m + 1
  fr : ∀ c, c < lo → vh c = vh0 c
theorem Make_L0 (H : XK X) (ls : List Int) (lo bs : Nat) (vh0 : VH) (Q : FQ) (hQ : ∀ bt' ts' c' root' lv' m' vh' vn' i' b, lo ≤ vn' → m' ≤ 30 → MSt lo bs bt' ts' c' lv' m' vh0 vh' vn' → Q (.exit 0) (mkE ls bt' bs ts'.length c' root' i' [(24, .bool b)]) vh' vn') : ∀ (m i : Nat), 30 - i = m → i ≤ 30 → ∀ (bt : Nat) (ts : List Nd) (c : Option Nat) (root : Bool) (lv : List (List Attr)) (vh : VH) (vn : Nat), lo ≤ vn → MSt lo bs bt ts c lv i vh0 vh vn →
    FLoop Tryz.prog X G (.loop c_law16_Make_L0) (mkE ls bt bs ts.length c root i []) vh vn Q
  | m, i, hm, hi, bt, ts, c, root, lv, vh, vn, hlo, S => by
    refine FLoop.round ?_
    have ne := S.made.ne
    have hlen := S.len
    conv => whnf
    refine CondP.mk (fun h1 => ?_) (fun h1 => ?_)
    · have h1' : i < ls.length := by simpa using h1
      conv => whnf
      refine CondP.mk (fun h2 => ?_) (fun h2 => ?_)
      · have h2' : i < 30 := by simp at h2; omega
        have e : wr .i64 ((i : Int) + 1) = ((i + 1 : Nat) : Int) := by rw [wr64] <;> omega
        have hj : ts.length - 1 < ts.length := by omega
        obtain ⟨q1, q2, q3, q4⟩ := S.made.nd ts[ts.length - 1] (List.getElem_mem hj)
        have hu := wru64_lt (x := ls[i])
        conv => whnf
        refine Get.mk (i, encI ls[i]) ⟨rfl, by simp [h1']⟩ ?_
        conv => whnf
        refine Get.mk (ts.length - 1) ⟨?_, hj⟩ ?_
        · simp only [Int.ofNat_eq_natCast]
          rw [wr64] <;> omega
        conv => whnf
        refine Get.mk (_, _, _, _) S.t ?_
        conv => whnf
        refine Get.mk _ (encN_all hj) ?_
        conv => whnf
        refine Make_R9 H ls bt bs ts c root i (wr .u64 ls[i]) hu.1 hu.2 ts[ts.length - 1] q2 (by omega) q3 lv i S.L (by omega) vh vn S.sc S.hbs S.hbt S.d S.t S.hc (by omega) _ (fun lv3 vh3 n3 tl g3 s3 L3 f3 => ?_) (fun n' b' lv3 root3 vh3 n3 g3 g4 M3 d3 d4 t3 s3 L3 f3 => ?_)
        · conv => whnf
          rw [e]
          exact Make_L0 H ls lo bs vh0 Q hQ (m - 1) (i + 1) (by omega) (by omega) bt ts c root lv3 vh3 n3 (by omega) ⟨s3, L3, by have := S.hbs; omega, by have := S.hbt; omega, S.d, S.lo1, S.lo2, (f3 bt S.hbt S.d).trans S.t, S.hc, S.made, by omega, fun c hc => (f3 c (by omega) (by have := S.lo1; omega)).trans (S.fr c hc)⟩
        · conv => whnf
          rw [e]
          exact Make_L0 H ls lo bs vh0 Q hQ (m - 1) (i + 1) (by omega) (by omega) b' (ts ++ [n']) none root3 lv3 vh3 n3 (by omega) ⟨s3, L3, by have := S.hbs; omega, g4, by have := S.hbs; omega, S.lo1, by omega, t3, .inl rfl, S.made.app M3 d3 (by omega), by rw [List.length_append, List.length_singleton]; omega, fun c hc => (f3 c (by omega) (by have := S.lo1; omega) (by have := S.lo2; omega)).trans (S.fr c hc)⟩
      · conv => whnf
        exact hQ bt ts c root lv i vh vn _ _ hlo hi S
    · conv => whnf
      exact hQ bt ts c root lv i vh vn _ _ hlo hi S
termination_by m => m
decreasing_by all_goals omega
theorem fz_owe_c {α : Type} {enc : α → List V} {es : Nat} {xs : List α} {c : Option Nat} (hl : ∀ a, (enc a).length = es) (h0 : 0 < es) (hc : c = none ∨ c = some xs.length) : 0 < es ∧ 0 + xs.length * es ≤ (xs.map enc).flatten.length ∧ ∀ x, c = some x → xs.length ≤ x := by
  refine ⟨h0, by rw [flat_len hl]; omega, fun x hx => ?_⟩
  rcases hc with rfl | rfl
  · cases hx
  · cases hx; exact Nat.le_refl _
def rootNd : Nd := ⟨2, 1, [], S_r, [], [], []⟩
structure Made (ts : List Nd) : Prop where
  may : mayP ts = true
  len : ts.length ≤ 32
  nd : ∀ n ∈ ts, MadeNd n ∧ 0 ≤ n.d ∧ n.d ≤ 32
theorem root_may : mayP [zeroDoc, rootNd] = true := by decide +kernel
theorem root_made : MadeNd rootNd := ⟨.head _, by decide, .head _, by decide, nofun⟩
theorem zero_made : MadeNd zeroDoc := ⟨.head _, .head _, .head _, by decide, nofun⟩
set_option maxHeartbeats 1000000 in
theorem Make_ok (H : XK X) (ls : List Int) (vh : VH) (vn : Nat) :
    WpCall Tryz.prog X G F_law16_Make [.sl 1 (ls.map encI) none] vh vn fun v vh' vn' => vn ≤ vn' ∧ (∀ c, c < vn → vh' c = vh c) ∧ ∃ ts, v = .sl 7 (ts.map encN) none ∧ Made ts := by
  apply k_law16_Make.run H.make
  conv => whnf
  refine Make_L0 H ls vn (vn + 1) vh _ (fun bt ts c root lv m vh1 n1 i b g1 hm S => ?_) 30 0 rfl (by decide) vn [zeroDoc] (some 1) false [] _ (vn + 2) (by omega) ⟨⟨_, vset_same⟩, ⟨Nat.le_refl _, nofun⟩, by omega, by omega, by omega, by omega, Nat.le_refl _, (vset_ne (by omega)).trans vset_same, .inr rfl, ⟨by decide, fun n hn => ?_⟩, by decide, fun c hc => (vset_ne (by omega)).trans (vset_ne (by omega))⟩
  · have hlen := S.len
    have hlo := S.lo2
    have fin : ∀ (ts : List Nd) (vh2 : VH) (n2 : Nat), n1 ≤ n2 → (∀ c, c < vn → vh2 c = vh c) → MadeT ts → ts.length ≤ 32 → WpCall Tryz.prog X G F_ref15_May [.sl 7 (ts.map encN) none] vh2 n2 fun v vh' vn' => vn ≤ vn' ∧ (∀ c, c < vn → vh' c = vh c) ∧ v = .bool (mayP ts) ∧ (mayP ts = true → Made ts) := fun ts vh2 n2 g2 f2 M h32 => by
      refine (May_ok H.toXM ts none (by omega) (fun n hn => (M.nd n hn).1.small) vh2 n2).mono fun v vh' vn' he => ?_
      obtain ⟨e1, e2, e3⟩ := he
      exact ⟨by omega, fun c hc => (e2 c (by omega)).trans (f2 c hc), e3, fun h => ⟨h, h32, fun n hn => by
        obtain ⟨q1, q2, q3, q4⟩ := M.nd n hn
        exact ⟨q1, q2, by omega⟩⟩⟩
    conv => whnf
    refine CondP.mk (fun h1 => ?_) (fun h1 => ?_)
    · conv => whnf
      refine app_own (a := rootNd) encN_len (by decide) S.t rfl S.hc ⟨?_, ?_⟩ fun vh2 t2 f2 => ?_
      · omega
      · show _ < 9223372036854775808; omega
      conv => whnf
      refine Get.mk (_, _, _, _) t2 ?_
      conv => whnf
      refine ⟨fz_owe encN_len (by decide), ?_⟩
      conv => whnf
      refine Get.mk _ (fz_pieces encN_len) ?_
      conv => whnf
      refine (fin (ts ++ [rootNd]) (vdel vh2 n1) (n1 + 1) (by omega) (fun c hc => (vdel_ne (by omega)).trans ((f2 c (by omega) (by omega)).trans (S.fr c hc))) (S.made.app root_made (by decide) (by have := S.made.ne; show (1 : Int) ≤ _; omega)) (by rw [List.length_append, List.length_singleton]; omega)).mono fun v vh3 n3 he => ?_
      obtain ⟨g3, f3, e3, M3⟩ := he
      rw [e3]
      conv => whnf
      refine CondP.mk (fun h2 => ?_) (fun h2 => ?_)
      · conv => whnf
        exact Get.mk _ (fun _ _ h => h) ⟨g3, f3, [zeroDoc, rootNd], rfl, root_may, by decide, fun n hn => by
          rcases List.mem_cons.1 hn with rfl | hn
          · exact ⟨zero_made, by decide, by decide⟩
          · rw [List.mem_singleton.1 hn]; exact ⟨root_made, by decide, by decide⟩⟩
      · conv => whnf
        exact Get.mk _ (fun _ _ h => h) ⟨g3, f3, _, rfl, M3 (by simpa using h2)⟩
    · conv => whnf
      refine Get.mk (_, _, _, _) S.t ?_
      conv => whnf
      refine ⟨fz_owe_c encN_len (by decide) S.hc, ?_⟩
      conv => whnf
      refine Get.mk _ (fz_pieces encN_len) ?_
      conv => whnf
      refine (fin ts (vdel vh1 bt) n1 (Nat.le_refl _) (fun c hc => (vdel_ne (by omega)).trans (S.fr c hc)) S.made (by omega)).mono fun v vh3 n3 he => ?_
      obtain ⟨g3, f3, e3, M3⟩ := he
      rw [e3]
      conv => whnf
      refine CondP.mk (fun h2 => ?_) (fun h2 => ?_)
      · conv => whnf
        exact Get.mk _ (fun _ _ h => h) ⟨g3, f3, [zeroDoc, rootNd], rfl, root_may, by decide, fun n hn => by
          rcases List.mem_cons.1 hn with rfl | hn
          · exact ⟨zero_made, by decide, by decide⟩
          · rw [List.mem_singleton.1 hn]; exact ⟨root_made, by decide, by decide⟩⟩
      · conv => whnf
        exact Get.mk _ (fun _ _ h => h) ⟨g3, f3, _, rfl, M3 (by simpa using h2)⟩
  · rw [List.mem_singleton.1 hn]
    exact ⟨zero_made, by decide, fun _ => rfl, by decide⟩
end Go.Proofs.YtpcbnpekdmobpaaGreatDoor
