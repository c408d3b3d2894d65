/- What functions of the program come to, for all inputs; no condition. -/
import Derived.Test.YtpcbnpekdmobpaaGreatDoorCode
set_option linter.unusedSimpArgs false
set_option linter.unusedVariables false
set_option linter.unnecessarySimpa false
set_option linter.constructorNameAsVariable false
open Go Go.Ev Go.VL
namespace Go.Proofs.YtpcbnpekdmobpaaGreatDoor
structure Attr where
  p : List Nat
  l : List Nat
  u : List Nat
  v : List Nat
structure Nd where
  k : Int
  d : Int
  p : List Nat
  l : List Nat
  u : List Nat
  v : List Nat
  s : List Attr
def encA (a : Attr) : List V := [.str a.p, .str a.l, .str a.u, .str a.v]
def encN (n : Nd) : List V := [.int .i64 n.k, .int .i64 n.d, .str n.p, .str n.l, .str n.u, .str n.v, .sl 4 (n.s.map encA) none]
def encT (t : List Nd) : V := .sl 7 (t.map encN) none
def zeroN : List V := [.int .i64 0, .int .i64 0, .str [], .str [], .str [], .str [], .nils]
variable {X : Ovr} {G : Gt}
theorem at_ok (hX : X F_tree_at = none) (t : List Nd) (k : Int) (vh : VH) (vn : Nat) :
    WpCall Tryz.prog X G F_tree_at [encT t, .int .i64 k] vh vn fun v vh' vn' => vh' = vh ∧ vn ≤ vn' ∧ ∃ n b, v = .tup [.agg n, .bool b] ∧
      if h : 0 ≤ k ∧ k.toNat < t.length then n = encN (t[k.toNat]'h.2) ∧ b = true else n = zeroN ∧ b = false := by
  apply k_tree_at.run hX
  refine CondP.mk (fun h1 => ?_) (fun h1 => ?_)
  · repeat first | refine CondP.tt ?_ | refine CondP.ff ?_ | refine Owe.mk (by decide) ?_
    conv => whnf
    repeat ((first | refine CondP.tt ?_ | refine CondP.ff ?_ | refine Owe.mk (by decide) ?_); conv => whnf)
    refine Get.mk vh (fun _ _ h => h) ⟨rfl, Nat.le_refl _, _, _, rfl, ?_⟩
    have : ¬ (0 ≤ k ∧ k.toNat < t.length) := by simp at h1; omega
    rw [dif_neg this]
    exact ⟨rfl, rfl⟩
  · repeat first | refine CondP.tt ?_ | refine CondP.ff ?_
    refine CondP.mk (fun h2 => ?_) (fun h2 => ?_)
    · repeat first | refine CondP.tt ?_ | refine CondP.ff ?_ | refine Owe.mk (by decide) ?_
      conv => whnf
      repeat ((first | refine CondP.tt ?_ | refine CondP.ff ?_ | refine Owe.mk (by decide) ?_); conv => whnf)
      refine Get.mk vh (fun _ _ h => h) ⟨rfl, Nat.le_refl _, _, _, rfl, ?_⟩
      have : ¬ (0 ≤ k ∧ k.toNat < t.length) := by simp at h1 h2; omega
      rw [dif_neg this]
      exact ⟨rfl, rfl⟩
    · have hk : 0 ≤ k ∧ k.toNat < t.length := by simp at h1 h2; omega
      repeat first | refine CondP.tt ?_ | refine CondP.ff ?_ | refine Owe.mk (by decide) ?_
      conv => whnf
      repeat ((first | refine CondP.tt ?_ | refine CondP.ff ?_ | refine Owe.mk (by decide) ?_); conv => whnf)
      refine Get.mk (k.toNat, encN (t[k.toNat]'hk.2)) ⟨by omega, by simp [hk.2]⟩ ?_
      repeat first | refine CondP.tt ?_ | refine CondP.ff ?_ | refine Owe.mk (by decide) ?_
      conv => whnf
      repeat ((first | refine CondP.tt ?_ | refine CondP.ff ?_ | refine Owe.mk (by decide) ?_); conv => whnf)
      refine Get.mk vh (fun _ _ h => h) ⟨rfl, Nat.le_refl _, _, _, rfl, ?_⟩
      rw [dif_pos hk]
      exact ⟨rfl, rfl⟩
end Go.Proofs.YtpcbnpekdmobpaaGreatDoor

open Go Go.Ev Go.VL
namespace Go.Proofs.YtpcbnpekdmobpaaGreatDoor
variable {X : Ovr} {G : Gt}

def endF (d : Int) : List Nd → Nat
  | [] => 0
  | n :: l => if d < n.d then endF d l + 1 else 0
theorem End_loop (t : List Nd) (ht : t.length < 2 ^ 40) (n : Nd) (vh : VH) (vn : Nat) (Q : FQ) : ∀ (m k : Nat), t.length - k = m → k ≤ t.length →
    (∀ b, Q (.exit 0) [(0, encT t), (1, .int .i64 ((k + endF n.d (t.drop k) : Nat) : Int)), (5, .bx (encN n)), (30, .bool b)] vh vn) →
    FLoop Tryz.prog X G (.loop c_tree_End_L0) [(0, encT t), (1, .int .i64 (k : Int)), (5, .bx (encN n))] vh vn Q
  | m, k, hm, hk, hQ => by
    refine FLoop.round ?_
    refine CondP.mk (fun h1 => ?_) (fun h1 => ?_)
    · have hlt : k < t.length := by simpa [List.length_map] using h1
      have hd : t.drop k = t[k] :: t.drop (k + 1) := (List.getElem_cons_drop hlt).symm
      rw [hd] at hQ
      repeat first | refine CondP.tt ?_ | refine CondP.ff ?_ | refine Owe.mk (by decide) ?_
      conv => whnf
      repeat ((first | refine CondP.tt ?_ | refine CondP.ff ?_ | refine Owe.mk (by decide) ?_); conv => whnf)
      refine Get.mk (k, encN t[k]) ⟨rfl, by simp [hlt]⟩ ?_
      repeat first | refine CondP.tt ?_ | refine CondP.ff ?_
      refine CondP.mk (fun h2 => ?_) (fun h2 => ?_)
      · have h2' : n.d < t[k].d := by simpa using h2
        have e : wr .i64 ((k : Int) + 1) = ((k + 1 : Nat) : Int) := by rw [wr64] <;> omega
        repeat first | refine CondP.tt ?_ | refine CondP.ff ?_ | refine Owe.mk (by decide) ?_
        conv => whnf
        repeat ((first | refine CondP.tt ?_ | refine CondP.ff ?_ | refine Owe.mk (by decide) ?_); conv => whnf)
        rw [e]
        refine End_loop t ht n vh vn Q (m - 1) (k + 1) (by omega) (by omega) fun b => ?_
        have := hQ b
        simp only [endF, h2', if_true] at this
        rw [show k + 1 + endF n.d (t.drop (k + 1)) = k + (endF n.d (t.drop (k + 1)) + 1) by omega]
        exact this
      · have h2' : ¬ n.d < t[k].d := by simpa using h2
        simp only [endF, h2', if_false, Nat.add_zero] at hQ
        repeat first | refine CondP.tt ?_ | refine CondP.ff ?_ | refine Owe.mk (by decide) ?_
        conv => whnf
        repeat ((first | refine CondP.tt ?_ | refine CondP.ff ?_ | refine Owe.mk (by decide) ?_); conv => whnf)
        exact hQ _
    · have hlt : k = t.length := by simp [List.length_map] at h1; omega
      rw [hlt, List.drop_length] at hQ
      subst hlt
      repeat first | refine CondP.tt ?_ | refine CondP.ff ?_ | refine Owe.mk (by decide) ?_
      conv => whnf
      repeat ((first | refine CondP.tt ?_ | refine CondP.ff ?_ | refine Owe.mk (by decide) ?_); conv => whnf)
      exact hQ _
termination_by m => m
decreasing_by omega
theorem End_ok (hX : X F_tree_at = none) (hX' : X F_tree_End = none) (t : List Nd) (ht : t.length < 2 ^ 40) (k : Int) (vh : VH) (vn : Nat) :
    WpCall Tryz.prog X G F_tree_End [encT t, .int .i64 k] vh vn fun v vh' vn' => vh' = vh ∧ vn ≤ vn' ∧ v = .int .i64 (if h : 0 ≤ k ∧ k.toNat < t.length then ((k.toNat + 1 + endF (t[k.toNat]'h.2).d (t.drop (k.toNat + 1)) : Nat) : Int) else -1) := by
  apply k_tree_End.run hX'
  repeat first | refine CondP.tt ?_ | refine CondP.ff ?_ | refine Owe.mk (by decide) ?_
  conv => whnf
  repeat ((first | refine CondP.tt ?_ | refine CondP.ff ?_ | refine Owe.mk (by decide) ?_); conv => whnf)
  refine (at_ok hX t k vh vn).mono fun v vh' vn' ⟨e1, e2, n, b, e3, e4⟩ => ?_
  subst e1; subst e3
  by_cases hk : 0 ≤ k ∧ k.toNat < t.length
  · rw [dif_pos hk] at e4 ⊢
    obtain ⟨rfl, rfl⟩ := e4
    repeat first | refine CondP.tt ?_ | refine CondP.ff ?_ | refine Owe.mk (by decide) ?_
    conv => whnf
    repeat ((first | refine CondP.tt ?_ | refine CondP.ff ?_ | refine Owe.mk (by decide) ?_); conv => whnf)
    have e : wr .i64 (k + 1) = ((k.toNat + 1 : Nat) : Int) := by rw [wr64] <;> omega
    rw [e]
    refine End_loop t ht (t[k.toNat]'hk.2) _ _ _ _ (k.toNat + 1) rfl (by omega) fun b => ?_
    repeat first | refine CondP.tt ?_ | refine CondP.ff ?_ | refine Owe.mk (by decide) ?_
    conv => whnf
    repeat ((first | refine CondP.tt ?_ | refine CondP.ff ?_ | refine Owe.mk (by decide) ?_); conv => whnf)
    exact Get.mk _ (fun _ _ h => h) ⟨rfl, e2, rfl⟩
  · rw [dif_neg hk] at e4 ⊢
    obtain ⟨rfl, rfl⟩ := e4
    repeat first | refine CondP.tt ?_ | refine CondP.ff ?_ | refine Owe.mk (by decide) ?_
    conv => whnf
    repeat ((first | refine CondP.tt ?_ | refine CondP.ff ?_ | refine Owe.mk (by decide) ?_); conv => whnf)
    exact Get.mk _ (fun _ _ h => h) ⟨rfl, e2, rfl⟩
end Go.Proofs.YtpcbnpekdmobpaaGreatDoor

open Go Go.Ev Go.VL
namespace Go.Proofs.YtpcbnpekdmobpaaGreatDoor
attribute [local irreducible] fApp
variable {X : Ovr} {G : Gt}
theorem encA_len (a : Attr) : (encA a).length = 4 := rfl
abbrev Attrs := SlIn encA 4 T_api_Attr

def cand : List Attr := List.flatten [[S_u, S_v].map (fun v => (⟨S_xmlns, S_p, Shttp_58__47__47_www_46_w3_46__29_391792, v⟩ : Attr)), [S_u, [], S_w].map (fun v => (⟨[], S_xmlns, Shttp_58__47__47_www_46_w3_46__29_391792, v⟩ : Attr)), [S_1, S_32__10__9_, S_60__34__38__62_, S_13_].map (fun v => (⟨[], S_x, [], v⟩ : Attr)), [(⟨S_p, S_x, [], S_2⟩ : Attr)], [(⟨S_xml, S_id, [], S_i⟩ : Attr)], [(⟨S_xmlns, S_q, Shttp_58__47__47_www_46_w3_46__29_391792, S_u⟩ : Attr)]]
structure FewA (k : Nat) (xs : List Attr) : Prop where
  len : xs.length ≤ k
  mem : ∀ a ∈ xs, a ∈ cand
theorem FewA.app {k : Nat} {xs : List Attr} (h : FewA k xs) {a : Attr} (ha : a ∈ cand) : FewA (k + 1) (xs ++ [a]) := by
  refine ⟨?_, fun b hb => ?_⟩
  · have := h.len
    rw [List.length_append, List.length_singleton]
    omega
  · rcases List.mem_append.1 hb with h1 | h1
    · exact h.mem b h1
    · rw [List.mem_singleton.1 h1]; exact ha
theorem FewA.up {k j : Nat} {xs : List Attr} (h : FewA k xs) (hj : k ≤ j) : FewA j xs := ⟨Nat.le_trans h.len hj, h.mem⟩
theorem cand_at {ls : List (List Attr)} (hc : cand = ls.flatten) {l : List Attr} (hl : l ∈ ls) {a : Attr} (ha : a ∈ l) : a ∈ cand := by
  rw [hc]; exact List.mem_flatten.2 ⟨l, hl, ha⟩
theorem attrs_R12 (u : Int) (lo : Nat) (vh : VH) (nx : Nat) (v : V) (xs : List Attr) (A : Attrs lo vh nx v xs) (hlo : lo ≤ nx) (hlen : FewA 5 xs) (Q : FQ)
    (hQ : ∀ v' vh' nx' xs', Attrs lo vh' nx' v' xs' → FewA 6 xs' → nx ≤ nx' → (∀ c, c < lo → vh' c = vh c) → Q .ret [(2, v')] vh' nx') :
    FLoop Tryz.prog X G (.cut c_law16_attrs_R12) [(0, .int .u64 u), (3, v)] vh nx Q := by
  refine FLoop.cut ?_
  rcases id A with ⟨rfl | rfl, rfl⟩ | ⟨b, hb1, hb2, rfl, hb4⟩
  all_goals
    repeat first | refine CondP.tt ?_ | refine CondP.ff ?_ | refine Owe.mk (by decide) ?_
    conv => whnf
    repeat ((first | refine CondP.tt ?_ | refine CondP.ff ?_ | refine Owe.mk (by decide) ?_); conv => whnf)
    refine CondP.mk (fun h => ?_) (fun h => ?_)
    · repeat first | refine CondP.tt ?_ | refine CondP.ff ?_ | refine Owe.mk (by decide) ?_
      conv => whnf
      repeat ((first | refine CondP.tt ?_ | refine CondP.ff ?_ | refine Owe.mk (by decide) ?_); conv => whnf)
      refine SlIn.app encA_len (by decide) A hlo (⟨S_xmlns, S_q, Shttp_58__47__47_www_46_w3_46__29_391792, S_u⟩ : Attr) ⟨?_, ?_⟩ fun vh' A' hf => ?_
      · have := hlen.len; omega
      · have := hlen.len; show _ < 9223372036854775808; omega
      repeat first | refine CondP.tt ?_ | refine CondP.ff ?_ | refine Owe.mk (by decide) ?_
      conv => whnf
      repeat ((first | refine CondP.tt ?_ | refine CondP.ff ?_ | refine Owe.mk (by decide) ?_); conv => whnf)
      have hf' : ∀ c, c < lo → vh' c = vh c := fun c hc => hf c (by omega) (by first | exact fun h => h | exact fun (h : c = b) => by omega)
      exact hQ _ _ _ _ A' (hlen.app (cand_at rfl (.tail _ (.tail _ (.tail _ (.tail _ (.tail _ (.head _)))))) (.head _))) (by omega) hf'
    · repeat first | refine CondP.tt ?_ | refine CondP.ff ?_ | refine Owe.mk (by decide) ?_
      conv => whnf
      repeat ((first | refine CondP.tt ?_ | refine CondP.ff ?_ | refine Owe.mk (by decide) ?_); conv => whnf)
      exact hQ _ _ _ _ A (hlen.up (by decide)) (Nat.le_refl _) fun _ _ => rfl
theorem attrs_R10 (u : Int) (lo : Nat) (vh : VH) (nx : Nat) (v : V) (xs : List Attr) (A : Attrs lo vh nx v xs) (hlo : lo ≤ nx) (hlen : FewA 4 xs) (Q : FQ)
    (hQ : ∀ v' vh' nx' xs', Attrs lo vh' nx' v' xs' → FewA 6 xs' → nx ≤ nx' → (∀ c, c < lo → vh' c = vh c) → Q .ret [(2, v')] vh' nx') :
    FLoop Tryz.prog X G (.cut c_law16_attrs_R10) [(0, .int .u64 u), (3, v)] vh nx Q := by
  refine FLoop.cut ?_
  rcases id A with ⟨rfl | rfl, rfl⟩ | ⟨b, hb1, hb2, rfl, hb4⟩
  all_goals
    repeat first | refine CondP.tt ?_ | refine CondP.ff ?_ | refine Owe.mk (by decide) ?_
    conv => whnf
    repeat ((first | refine CondP.tt ?_ | refine CondP.ff ?_ | refine Owe.mk (by decide) ?_); conv => whnf)
    refine CondP.mk (fun h => ?_) (fun h => ?_)
    · repeat first | refine CondP.tt ?_ | refine CondP.ff ?_ | refine Owe.mk (by decide) ?_
      conv => whnf
      repeat ((first | refine CondP.tt ?_ | refine CondP.ff ?_ | refine Owe.mk (by decide) ?_); conv => whnf)
      refine SlIn.app encA_len (by decide) A hlo (⟨S_xml, S_id, [], S_i⟩ : Attr) ⟨?_, ?_⟩ fun vh' A' hf => ?_
      · have := hlen.len; omega
      · have := hlen.len; show _ < 9223372036854775808; omega
      repeat first | refine CondP.tt ?_ | refine CondP.ff ?_ | refine Owe.mk (by decide) ?_
      conv => whnf
      repeat ((first | refine CondP.tt ?_ | refine CondP.ff ?_ | refine Owe.mk (by decide) ?_); conv => whnf)
      have hf' : ∀ c, c < lo → vh' c = vh c := fun c hc => hf c (by omega) (by first | exact fun h => h | exact fun (h : c = b) => by omega)
      exact attrs_R12 u lo vh' _ _ _ A' (by omega) (hlen.app (cand_at rfl (.tail _ (.tail _ (.tail _ (.tail _ (.head _))))) (.head _))) Q fun v2 vh2 n2 x2 A2 l2 g2 f2 => hQ v2 vh2 n2 x2 A2 l2 (by omega) fun c hc => (f2 c hc).trans (hf' c hc)
    · repeat first | refine CondP.tt ?_ | refine CondP.ff ?_ | refine Owe.mk (by decide) ?_
      conv => whnf
      repeat ((first | refine CondP.tt ?_ | refine CondP.ff ?_ | refine Owe.mk (by decide) ?_); conv => whnf)
      exact attrs_R12 u lo vh _ _ _ A hlo (hlen.up (by decide)) Q hQ
theorem attrs_R8 (u : Int) (lo : Nat) (vh : VH) (nx : Nat) (v : V) (xs : List Attr) (A : Attrs lo vh nx v xs) (hlo : lo ≤ nx) (hlen : FewA 3 xs) (Q : FQ)
    (hQ : ∀ v' vh' nx' xs', Attrs lo vh' nx' v' xs' → FewA 6 xs' → nx ≤ nx' → (∀ c, c < lo → vh' c = vh c) → Q .ret [(2, v')] vh' nx') :
    FLoop Tryz.prog X G (.cut c_law16_attrs_R8) [(0, .int .u64 u), (3, v)] vh nx Q := by
  refine FLoop.cut ?_
  rcases id A with ⟨rfl | rfl, rfl⟩ | ⟨b, hb1, hb2, rfl, hb4⟩
  all_goals
    repeat first | refine CondP.tt ?_ | refine CondP.ff ?_ | refine Owe.mk (by decide) ?_
    conv => whnf
    repeat ((first | refine CondP.tt ?_ | refine CondP.ff ?_ | refine Owe.mk (by decide) ?_); conv => whnf)
    refine CondP.mk (fun h => ?_) (fun h => ?_)
    · repeat first | refine CondP.tt ?_ | refine CondP.ff ?_ | refine Owe.mk (by decide) ?_
      conv => whnf
      repeat ((first | refine CondP.tt ?_ | refine CondP.ff ?_ | refine Owe.mk (by decide) ?_); conv => whnf)
      refine SlIn.app encA_len (by decide) A hlo (⟨S_p, S_x, [], S_2⟩ : Attr) ⟨?_, ?_⟩ fun vh' A' hf => ?_
      · have := hlen.len; omega
      · have := hlen.len; show _ < 9223372036854775808; omega
      repeat first | refine CondP.tt ?_ | refine CondP.ff ?_ | refine Owe.mk (by decide) ?_
      conv => whnf
      repeat ((first | refine CondP.tt ?_ | refine CondP.ff ?_ | refine Owe.mk (by decide) ?_); conv => whnf)
      have hf' : ∀ c, c < lo → vh' c = vh c := fun c hc => hf c (by omega) (by first | exact fun h => h | exact fun (h : c = b) => by omega)
      exact attrs_R10 u lo vh' _ _ _ A' (by omega) (hlen.app (cand_at rfl (.tail _ (.tail _ (.tail _ (.head _)))) (.head _))) Q fun v2 vh2 n2 x2 A2 l2 g2 f2 => hQ v2 vh2 n2 x2 A2 l2 (by omega) fun c hc => (f2 c hc).trans (hf' c hc)
    · repeat first | refine CondP.tt ?_ | refine CondP.ff ?_ | refine Owe.mk (by decide) ?_
      conv => whnf
      repeat ((first | refine CondP.tt ?_ | refine CondP.ff ?_ | refine Owe.mk (by decide) ?_); conv => whnf)
      exact attrs_R10 u lo vh _ _ _ A hlo (hlen.up (by decide)) Q hQ
theorem attrs_R6 (u : Int) (lo : Nat) (vh : VH) (nx : Nat) (v : V) (xs : List Attr) (A : Attrs lo vh nx v xs) (hlo : lo ≤ nx) (hlen : FewA 2 xs) (Q : FQ)
    (hQ : ∀ v' vh' nx' xs', Attrs lo vh' nx' v' xs' → FewA 6 xs' → nx ≤ nx' → (∀ c, c < lo → vh' c = vh c) → Q .ret [(2, v')] vh' nx') :
    FLoop Tryz.prog X G (.cut c_law16_attrs_R6) [(0, .int .u64 u), (3, v)] vh nx Q := by
  refine FLoop.cut ?_
  rcases id A with ⟨rfl | rfl, rfl⟩ | ⟨b, hb1, hb2, rfl, hb4⟩
  all_goals
    repeat first | refine CondP.tt ?_ | refine CondP.ff ?_ | refine Owe.mk (by decide) ?_
    conv => whnf
    repeat ((first | refine CondP.tt ?_ | refine CondP.ff ?_ | refine Owe.mk (by decide) ?_); conv => whnf)
    refine CondP.mk (fun h => ?_) (fun h => ?_)
    · repeat first | refine CondP.tt ?_ | refine CondP.ff ?_ | refine Owe.mk (by decide) ?_
      conv => whnf
      repeat ((first | refine CondP.tt ?_ | refine CondP.ff ?_ | refine Owe.mk (by decide) ?_); conv => whnf)
      have hr := u_rem (x := wr .u64 (u.tdiv 32)) (m := 4) wru64_lt.1 (by decide)
      refine Get.lit (f := fun s => [V.str s]) (zs := [S_1, S_32__10__9_, S_60__34__38__62_, S_13_]) rfl hr.1 hr.2 fun hlt => ?_
      repeat first | refine CondP.tt ?_ | refine CondP.ff ?_ | refine Owe.mk (by decide) ?_
      conv => whnf
      repeat ((first | refine CondP.tt ?_ | refine CondP.ff ?_ | refine Owe.mk (by decide) ?_); conv => whnf)
      refine SlIn.app encA_len (by decide) A hlo (⟨[], S_x, [], [S_1, S_32__10__9_, S_60__34__38__62_, S_13_][((wr .u64 (u.tdiv 32)).tmod 4).toNat]⟩ : Attr) ⟨?_, ?_⟩ fun vh' A' hf => ?_
      · have := hlen.len; omega
      · have := hlen.len; show _ < 9223372036854775808; omega
      repeat first | refine CondP.tt ?_ | refine CondP.ff ?_ | refine Owe.mk (by decide) ?_
      conv => whnf
      repeat ((first | refine CondP.tt ?_ | refine CondP.ff ?_ | refine Owe.mk (by decide) ?_); conv => whnf)
      have hf' : ∀ c, c < lo → vh' c = vh c := fun c hc => hf c (by omega) (by first | exact fun h => h | exact fun (h : c = b) => by omega)
      exact attrs_R8 u lo vh' _ _ _ A' (by omega) (hlen.app (cand_at rfl (.tail _ (.tail _ (.head _))) (List.mem_map.2 ⟨_, List.getElem_mem _, rfl⟩))) Q fun v2 vh2 n2 x2 A2 l2 g2 f2 => hQ v2 vh2 n2 x2 A2 l2 (by omega) fun c hc => (f2 c hc).trans (hf' c hc)
    · repeat first | refine CondP.tt ?_ | refine CondP.ff ?_ | refine Owe.mk (by decide) ?_
      conv => whnf
      repeat ((first | refine CondP.tt ?_ | refine CondP.ff ?_ | refine Owe.mk (by decide) ?_); conv => whnf)
      exact attrs_R8 u lo vh _ _ _ A hlo (hlen.up (by decide)) Q hQ
theorem attrs_R4 (u : Int) (lo : Nat) (vh : VH) (nx : Nat) (v : V) (xs : List Attr) (A : Attrs lo vh nx v xs) (hlo : lo ≤ nx) (hlen : FewA 1 xs) (Q : FQ)
    (hQ : ∀ v' vh' nx' xs', Attrs lo vh' nx' v' xs' → FewA 6 xs' → nx ≤ nx' → (∀ c, c < lo → vh' c = vh c) → Q .ret [(2, v')] vh' nx') :
    FLoop Tryz.prog X G (.cut c_law16_attrs_R4) [(0, .int .u64 u), (3, v)] vh nx Q := by
  refine FLoop.cut ?_
  rcases id A with ⟨rfl | rfl, rfl⟩ | ⟨b, hb1, hb2, rfl, hb4⟩
  all_goals
    repeat first | refine CondP.tt ?_ | refine CondP.ff ?_ | refine Owe.mk (by decide) ?_
    conv => whnf
    repeat ((first | refine CondP.tt ?_ | refine CondP.ff ?_ | refine Owe.mk (by decide) ?_); conv => whnf)
    refine CondP.mk (fun h => ?_) (fun h => ?_)
    · repeat first | refine CondP.tt ?_ | refine CondP.ff ?_ | refine Owe.mk (by decide) ?_
      conv => whnf
      repeat ((first | refine CondP.tt ?_ | refine CondP.ff ?_ | refine Owe.mk (by decide) ?_); conv => whnf)
      have hr := u_rem (x := wr .u64 (u.tdiv 8)) (m := 3) wru64_lt.1 (by decide)
      refine Get.lit (f := fun s => [V.str s]) (zs := [S_u, [], S_w]) rfl hr.1 hr.2 fun hlt => ?_
      repeat first | refine CondP.tt ?_ | refine CondP.ff ?_ | refine Owe.mk (by decide) ?_
      conv => whnf
      repeat ((first | refine CondP.tt ?_ | refine CondP.ff ?_ | refine Owe.mk (by decide) ?_); conv => whnf)
      refine SlIn.app encA_len (by decide) A hlo (⟨[], S_xmlns, Shttp_58__47__47_www_46_w3_46__29_391792, [S_u, [], S_w][((wr .u64 (u.tdiv 8)).tmod 3).toNat]⟩ : Attr) ⟨?_, ?_⟩ fun vh' A' hf => ?_
      · have := hlen.len; omega
      · have := hlen.len; show _ < 9223372036854775808; omega
      repeat first | refine CondP.tt ?_ | refine CondP.ff ?_ | refine Owe.mk (by decide) ?_
      conv => whnf
      repeat ((first | refine CondP.tt ?_ | refine CondP.ff ?_ | refine Owe.mk (by decide) ?_); conv => whnf)
      have hf' : ∀ c, c < lo → vh' c = vh c := fun c hc => hf c (by omega) (by first | exact fun h => h | exact fun (h : c = b) => by omega)
      exact attrs_R6 u lo vh' _ _ _ A' (by omega) (hlen.app (cand_at rfl (.tail _ (.head _)) (List.mem_map.2 ⟨_, List.getElem_mem _, rfl⟩))) Q fun v2 vh2 n2 x2 A2 l2 g2 f2 => hQ v2 vh2 n2 x2 A2 l2 (by omega) fun c hc => (f2 c hc).trans (hf' c hc)
    · repeat first | refine CondP.tt ?_ | refine CondP.ff ?_ | refine Owe.mk (by decide) ?_
      conv => whnf
      repeat ((first | refine CondP.tt ?_ | refine CondP.ff ?_ | refine Owe.mk (by decide) ?_); conv => whnf)
      exact attrs_R6 u lo vh _ _ _ A hlo (hlen.up (by decide)) Q hQ
theorem attrs_R2 (u : Int) (lo : Nat) (vh : VH) (nx : Nat) (v : V) (xs : List Attr) (A : Attrs lo vh nx v xs) (hlo : lo ≤ nx) (hlen : FewA 0 xs) (Q : FQ)
    (hQ : ∀ v' vh' nx' xs', Attrs lo vh' nx' v' xs' → FewA 6 xs' → nx ≤ nx' → (∀ c, c < lo → vh' c = vh c) → Q .ret [(2, v')] vh' nx') :
    FLoop Tryz.prog X G (.cut c_law16_attrs_R2) [(0, .int .u64 u), (3, v)] vh nx Q := by
  refine FLoop.cut ?_
  rcases id A with ⟨rfl | rfl, rfl⟩ | ⟨b, hb1, hb2, rfl, hb4⟩
  all_goals
    repeat first | refine CondP.tt ?_ | refine CondP.ff ?_ | refine Owe.mk (by decide) ?_
    conv => whnf
    repeat ((first | refine CondP.tt ?_ | refine CondP.ff ?_ | refine Owe.mk (by decide) ?_); conv => whnf)
    refine CondP.mk (fun h => ?_) (fun h => ?_)
    · repeat first | refine CondP.tt ?_ | refine CondP.ff ?_ | refine Owe.mk (by decide) ?_
      conv => whnf
      repeat ((first | refine CondP.tt ?_ | refine CondP.ff ?_ | refine Owe.mk (by decide) ?_); conv => whnf)
      have hr := u_rem (x := wr .u64 (u.tdiv 2)) (m := 2) wru64_lt.1 (by decide)
      refine Get.lit (f := fun s => [V.str s]) (zs := [S_u, S_v]) rfl hr.1 hr.2 fun hlt => ?_
      repeat first | refine CondP.tt ?_ | refine CondP.ff ?_ | refine Owe.mk (by decide) ?_
      conv => whnf
      repeat ((first | refine CondP.tt ?_ | refine CondP.ff ?_ | refine Owe.mk (by decide) ?_); conv => whnf)
      refine SlIn.app encA_len (by decide) A hlo (⟨S_xmlns, S_p, Shttp_58__47__47_www_46_w3_46__29_391792, [S_u, S_v][((wr .u64 (u.tdiv 2)).tmod 2).toNat]⟩ : Attr) ⟨?_, ?_⟩ fun vh' A' hf => ?_
      · have := hlen.len; omega
      · have := hlen.len; show _ < 9223372036854775808; omega
      repeat first | refine CondP.tt ?_ | refine CondP.ff ?_ | refine Owe.mk (by decide) ?_
      conv => whnf
      repeat ((first | refine CondP.tt ?_ | refine CondP.ff ?_ | refine Owe.mk (by decide) ?_); conv => whnf)
      have hf' : ∀ c, c < lo → vh' c = vh c := fun c hc => hf c (by omega) (by first | exact fun h => h | exact fun (h : c = b) => by omega)
      exact attrs_R4 u lo vh' _ _ _ A' (by omega) (hlen.app (cand_at rfl (.head _) (List.mem_map.2 ⟨_, List.getElem_mem _, rfl⟩))) Q fun v2 vh2 n2 x2 A2 l2 g2 f2 => hQ v2 vh2 n2 x2 A2 l2 (by omega) fun c hc => (f2 c hc).trans (hf' c hc)
    · repeat first | refine CondP.tt ?_ | refine CondP.ff ?_ | refine Owe.mk (by decide) ?_
      conv => whnf
      repeat ((first | refine CondP.tt ?_ | refine CondP.ff ?_ | refine Owe.mk (by decide) ?_); conv => whnf)
      exact attrs_R4 u lo vh _ _ _ A hlo (hlen.up (by decide)) Q hQ
theorem attrs_ok (hX : X F_law16_attrs = none) (u : Int) (vh : VH) (vn : Nat) :
    WpCall Tryz.prog X G F_law16_attrs [.int .u64 u] vh vn fun v vh' vn' => vn ≤ vn' ∧ (∀ c, c < vn → vh' c = vh c) ∧ ∃ xs, FewA 6 xs ∧ Attrs vn vh' vn' v xs := by
  apply k_law16_attrs.run hX
  repeat first | refine CondP.tt ?_ | refine CondP.ff ?_ | refine Owe.mk (by decide) ?_
  conv => whnf
  repeat ((first | refine CondP.tt ?_ | refine CondP.ff ?_ | refine Owe.mk (by decide) ?_); conv => whnf)
  refine attrs_R2 u vn vh vn _ [] .nil (Nat.le_refl _) ⟨by decide, nofun⟩ _ fun v1 vh1 n1 x1 A1 l1 g1 f1 => ?_
  rcases id A1 with ⟨rfl | rfl, rfl⟩ | ⟨b, hb1, hb2, rfl, hb4⟩
  all_goals
    repeat first | refine CondP.tt ?_ | refine CondP.ff ?_ | refine Owe.mk (by decide) ?_
    conv => whnf
    repeat ((first | refine CondP.tt ?_ | refine CondP.ff ?_ | refine Owe.mk (by decide) ?_); conv => whnf)
    refine Get.mk vh1 (fun _ _ h => h) ⟨g1, f1, _, l1, A1⟩
end Go.Proofs.YtpcbnpekdmobpaaGreatDoor

open Go Go.Ev Go.VL
namespace Go.Proofs.YtpcbnpekdmobpaaGreatDoor
attribute [local irreducible] fApp
variable {X : Ovr} {G : Gt}
abbrev XMLNSURI : List Nat := Shttp_58__47__47_www_46_w3_46__29_391792
abbrev XMLURI : List Nat := Shttp_58__47__47_www_46_w3_46__36_910846
def declares (a : Attr) : List Nat × Bool :=
  if a.u = XMLNSURI then (if a.p = S_xmlns then (a.l, true) else ([], decide (a.p = []) && decide (a.l = S_xmlns))) else ([], false)
theorem declares_ok (hX : X F_ref10_Declares = none) (a : Attr) (vh : VH) (vn : Nat) :
    WpCall Tryz.prog X G F_ref10_Declares [.agg (encA a)] vh vn fun v vh' vn' => vh' = vh ∧ vn' = vn ∧ v = .tup [.str (declares a).1, .bool (declares a).2] := by
  apply k_ref10_Declares.run hX
  repeat first | refine CondP.tt ?_ | refine CondP.ff ?_ | refine Owe.mk (by decide) ?_
  conv => whnf
  repeat ((first | refine CondP.tt ?_ | refine CondP.ff ?_ | refine Owe.mk (by decide) ?_); conv => whnf)
  refine CondP.mk (fun h1 => ?_) (fun h1 => ?_)
  · repeat first | refine CondP.tt ?_ | refine CondP.ff ?_ | refine Owe.mk (by decide) ?_
    conv => whnf
    repeat ((first | refine CondP.tt ?_ | refine CondP.ff ?_ | refine Owe.mk (by decide) ?_); conv => whnf)
    refine Get.mk vh (fun _ _ h => h) ⟨rfl, rfl, ?_⟩
    simp at h1
    simp [declares, h1]
  · simp at h1
    repeat first | refine CondP.tt ?_ | refine CondP.ff ?_ | refine Owe.mk (by decide) ?_
    conv => whnf
    repeat ((first | refine CondP.tt ?_ | refine CondP.ff ?_ | refine Owe.mk (by decide) ?_); conv => whnf)
    refine CondP.mk (fun h2 => ?_) (fun h2 => ?_)
    · repeat first | refine CondP.tt ?_ | refine CondP.ff ?_ | refine Owe.mk (by decide) ?_
      conv => whnf
      repeat ((first | refine CondP.tt ?_ | refine CondP.ff ?_ | refine Owe.mk (by decide) ?_); conv => whnf)
      refine Get.mk vh (fun _ _ h => h) ⟨rfl, rfl, ?_⟩
      simp at h2
      simp [declares, h1, h2]
    · simp at h2
      repeat first | refine CondP.tt ?_ | refine CondP.ff ?_ | refine Owe.mk (by decide) ?_
      conv => whnf
      repeat ((first | refine CondP.tt ?_ | refine CondP.ff ?_ | refine Owe.mk (by decide) ?_); conv => whnf)
      refine CondP.mk (fun h3 => ?_) (fun h3 => ?_)
      · repeat first | refine CondP.tt ?_ | refine CondP.ff ?_ | refine Owe.mk (by decide) ?_
        conv => whnf
        repeat ((first | refine CondP.tt ?_ | refine CondP.ff ?_ | refine Owe.mk (by decide) ?_); conv => whnf)
        refine Get.mk vh (fun _ _ h => h) ⟨rfl, rfl, ?_⟩
        simp at h3
        simp [declares, h1, h2, h3, show S_xmlns ≠ [] from nofun]
      · repeat first | refine CondP.tt ?_ | refine CondP.ff ?_ | refine Owe.mk (by decide) ?_
        conv => whnf
        repeat ((first | refine CondP.tt ?_ | refine CondP.ff ?_ | refine Owe.mk (by decide) ?_); conv => whnf)
        refine Get.mk vh (fun _ _ h => h) ⟨rfl, rfl, ?_⟩
        simp at h3
        simp [declares, h1, h2, h3]
def encL (l : List Attr) : List V := [.sl 4 (l.map encA) none]

def Sc (vh : VH) (b : Nat) (lv : List (List Attr)) : Prop := ∃ ty, vh b = some (.cells [.sl 1 (lv.map encL) none] ty 0 false)
theorem Pop_ok (hX : X F_ref10_Scope_Pop = none) (b : Nat) (lv : List (List Attr)) (vh : VH) (vn : Nat) (hs : Sc vh b lv) (hl : lv.length < 2 ^ 40) :
    WpCall Tryz.prog X G F_ref10_Scope_Pop [.ptr b 0] vh vn fun v vh' vn' => vn' = vn ∧ (∀ c, c ≠ b → vh' c = vh c) ∧ Sc vh' b lv.dropLast ∧ ∃ t, v = .bool t := by
  obtain ⟨ty, hs⟩ := hs
  apply k_ref10_Scope_Pop.run hX
  repeat first | refine CondP.tt ?_ | refine CondP.ff ?_ | refine Owe.mk (by decide) ?_
  conv => whnf
  repeat ((first | refine CondP.tt ?_ | refine CondP.ff ?_ | refine Owe.mk (by decide) ?_); conv => whnf)
  refine Get.mk (_, _, _, _) hs ?_
  conv => whnf
  refine Get.mk _ rfl ?_
  conv => whnf
  repeat ((first | refine CondP.tt ?_ | refine CondP.ff ?_ | refine Owe.mk (by decide) ?_); conv => whnf)
  refine CondP.mk (fun h1 => ?_) (fun h1 => ?_)
  · simp at h1
    subst h1
    repeat first | refine CondP.tt ?_ | refine CondP.ff ?_ | refine Owe.mk (by decide) ?_
    conv => whnf
    repeat ((first | refine CondP.tt ?_ | refine CondP.ff ?_ | refine Owe.mk (by decide) ?_); conv => whnf)
    exact Get.mk vh (fun _ _ h => h) ⟨rfl, fun _ _ => rfl, ⟨ty, hs⟩, _, rfl⟩
  · simp at h1
    have hp : 0 < lv.length := by cases lv with | nil => exact (h1 rfl).elim | cons _ _ => simp
    repeat first | refine CondP.tt ?_ | refine CondP.ff ?_ | refine Owe.mk (by decide) ?_
    conv => whnf
    repeat ((first | refine CondP.tt ?_ | refine CondP.ff ?_ | refine Owe.mk (by decide) ?_); conv => whnf)
    refine Get.mk (_, _, _, _) hs ?_
    conv => whnf
    refine Get.mk _ rfl ?_
    conv => whnf
    repeat ((first | refine CondP.tt ?_ | refine CondP.ff ?_ | refine Owe.mk (by decide) ?_); conv => whnf)
    refine Get.mk (_, _, _, _) hs ?_
    conv => whnf
    refine Get.mk _ rfl ?_
    conv => whnf
    repeat ((first | refine CondP.tt ?_ | refine CondP.ff ?_ | refine Owe.mk (by decide) ?_); conv => whnf)
    refine Get.mk (lv.length - 1) ?_ ?_
    · simp only [Int.ofNat_eq_natCast, List.length_map]
      rw [wr64] <;> omega
    repeat first | refine CondP.tt ?_ | refine CondP.ff ?_ | refine Owe.mk (by decide) ?_
    conv => whnf
    repeat ((first | refine CondP.tt ?_ | refine CondP.ff ?_ | refine Owe.mk (by decide) ?_); conv => whnf)
    refine ⟨⟨Nat.zero_le _, by simp⟩, ?_⟩
    repeat first | refine CondP.tt ?_ | refine CondP.ff ?_ | refine Owe.mk (by decide) ?_
    conv => whnf
    repeat ((first | refine CondP.tt ?_ | refine CondP.ff ?_ | refine Owe.mk (by decide) ?_); conv => whnf)
    refine Get.mk (_, _, _, _) hs ?_
    conv => whnf
    repeat ((first | refine CondP.tt ?_ | refine CondP.ff ?_ | refine Owe.mk (by decide) ?_); conv => whnf)
    refine ⟨⟨Nat.le_refl _, Nat.le_refl _⟩, ?_⟩
    repeat first | refine CondP.tt ?_ | refine CondP.ff ?_ | refine Owe.mk (by decide) ?_
    conv => whnf
    repeat ((first | refine CondP.tt ?_ | refine CondP.ff ?_ | refine Owe.mk (by decide) ?_); conv => whnf)
    refine Get.mk _ (fun _ _ h => h) ⟨rfl, fun c hc => vset_ne hc, ⟨ty, ?_⟩, _, rfl⟩
    refine vset_same.trans ?_
    rw [List.dropLast_eq_take, List.map_take]
    rfl
end Go.Proofs.YtpcbnpekdmobpaaGreatDoor

open Go Go.Ev Go.VL
namespace Go.Proofs.YtpcbnpekdmobpaaGreatDoor
attribute [local irreducible] fApp
variable {X : Ovr} {G : Gt}
def uriL (p : List Nat) : List Attr → Option (List Nat)
  | [] => none
  | a :: l => if (declares a).1 = p then some a.v else uriL p l
def uriS (p : List Nat) (lv : List (List Attr)) : Nat → Option (List Nat)
  | 0 => none
  | j + 1 => match uriL p (lv[j]?.getD []) with | some u => some u | none => uriS p lv j
def uriP (lv : List (List Attr)) (p : List Nat) : List Nat × Bool :=
  if p = S_xml then (XMLURI, true) else match uriS p lv lv.length with | some u => (u, true) | none => ([], decide (p = []))
theorem URI_L1 (hX : X F_ref10_Declares = none) (b : Nat) (lv : List (List Attr)) (p : List Nat) (vh : VH) (vn : Nat) (hs : Sc vh b lv) (i : Nat) (hi : i < lv.length) (hb : ∀ l ∈ lv, l.length < 2 ^ 40) (Q : FQ) : ∀ (m k : Nat), lv[i].length - k = m → k ≤ lv[i].length →
    (match uriL p (lv[i].drop k) with
      | none => ∀ k' t, Q (.exit 2) [(0, .ptr b 0), (1, .str p), (6, .int .i64 (i : Int)), (7, .int .i64 k'), (31, .bool t)] vh vn
      | some u => Q .ret [(4, .str u), (5, .bool true)] vh vn) →
    FLoop Tryz.prog X G (.loop c_ref10_Scope_URI_L1) [(0, .ptr b 0), (1, .str p), (6, .int .i64 (i : Int)), (7, .int .i64 (k : Int))] vh vn Q
  | m, k, hm, hk, hQ => by
    have hs' := hs
    obtain ⟨ty, hs⟩ := hs
    have hlen : lv[i].length < 2 ^ 40 := hb _ (List.getElem_mem hi)
    refine FLoop.round ?_
    repeat first | refine CondP.tt ?_ | refine CondP.ff ?_ | refine Owe.mk (by decide) ?_
    conv => whnf
    repeat ((first | refine CondP.tt ?_ | refine CondP.ff ?_ | refine Owe.mk (by decide) ?_); conv => whnf)
    refine Get.mk (_, _, _, _) hs ?_
    conv => whnf
    refine Get.mk _ rfl ?_
    conv => whnf
    repeat ((first | refine CondP.tt ?_ | refine CondP.ff ?_ | refine Owe.mk (by decide) ?_); conv => whnf)
    refine Get.mk (i, encL lv[i]) ⟨rfl, by simp [hi]⟩ ?_
    repeat first | refine CondP.tt ?_ | refine CondP.ff ?_ | refine Owe.mk (by decide) ?_
    conv => whnf
    repeat ((first | refine CondP.tt ?_ | refine CondP.ff ?_ | refine Owe.mk (by decide) ?_); conv => whnf)
    refine CondP.mk (fun h1 => ?_) (fun h1 => ?_)
    · have hlt : k < lv[i].length := by simpa using h1
      have hd : lv[i].drop k = lv[i][k] :: lv[i].drop (k + 1) := (List.getElem_cons_drop hlt).symm
      repeat first | refine CondP.tt ?_ | refine CondP.ff ?_ | refine Owe.mk (by decide) ?_
      conv => whnf
      repeat ((first | refine CondP.tt ?_ | refine CondP.ff ?_ | refine Owe.mk (by decide) ?_); conv => whnf)
      refine Get.mk (_, _, _, _) hs ?_
      conv => whnf
      refine Get.mk _ rfl ?_
      conv => whnf
      repeat ((first | refine CondP.tt ?_ | refine CondP.ff ?_ | refine Owe.mk (by decide) ?_); conv => whnf)
      refine Get.mk (i, encL lv[i]) ⟨rfl, by simp [hi]⟩ ?_
      repeat first | refine CondP.tt ?_ | refine CondP.ff ?_ | refine Owe.mk (by decide) ?_
      conv => whnf
      repeat ((first | refine CondP.tt ?_ | refine CondP.ff ?_ | refine Owe.mk (by decide) ?_); conv => whnf)
      refine Get.mk (k, encA lv[i][k]) ⟨rfl, by simp [hlt]⟩ ?_
      repeat first | refine CondP.tt ?_ | refine CondP.ff ?_ | refine Owe.mk (by decide) ?_
      conv => whnf
      repeat ((first | refine CondP.tt ?_ | refine CondP.ff ?_ | refine Owe.mk (by decide) ?_); conv => whnf)
      refine (declares_ok hX lv[i][k] vh vn).mono fun v vh' vn' ⟨e1, e2, e3⟩ => ?_
      subst e1; subst e2; subst e3
      repeat first | refine CondP.tt ?_ | refine CondP.ff ?_ | refine Owe.mk (by decide) ?_
      conv => whnf
      repeat ((first | refine CondP.tt ?_ | refine CondP.ff ?_ | refine Owe.mk (by decide) ?_); conv => whnf)
      refine CondP.mk (fun h2 => ?_) (fun h2 => ?_)
      · have h2' : (declares lv[i][k]).1 = p := by simpa using h2
        simp only [hd, uriL, h2', if_true] at hQ
        repeat first | refine CondP.tt ?_ | refine CondP.ff ?_ | refine Owe.mk (by decide) ?_
        conv => whnf
        repeat ((first | refine CondP.tt ?_ | refine CondP.ff ?_ | refine Owe.mk (by decide) ?_); conv => whnf)
        refine Get.mk (_, _, _, _) hs ?_
        conv => whnf
        refine Get.mk _ rfl ?_
        conv => whnf
        repeat ((first | refine CondP.tt ?_ | refine CondP.ff ?_ | refine Owe.mk (by decide) ?_); conv => whnf)
        refine Get.mk (i, encL lv[i]) ⟨rfl, by simp [hi]⟩ ?_
        repeat first | refine CondP.tt ?_ | refine CondP.ff ?_ | refine Owe.mk (by decide) ?_
        conv => whnf
        repeat ((first | refine CondP.tt ?_ | refine CondP.ff ?_ | refine Owe.mk (by decide) ?_); conv => whnf)
        refine Get.mk (k, encA lv[i][k]) ⟨rfl, by simp [hlt]⟩ ?_
        repeat first | refine CondP.tt ?_ | refine CondP.ff ?_ | refine Owe.mk (by decide) ?_
        conv => whnf
        repeat ((first | refine CondP.tt ?_ | refine CondP.ff ?_ | refine Owe.mk (by decide) ?_); conv => whnf)
        exact hQ
      · have h2' : ¬ (declares lv[i][k]).1 = p := by simpa using h2
        simp only [hd, uriL, h2', if_false] at hQ
        have e : wr .i64 ((k : Int) + 1) = ((k + 1 : Nat) : Int) := by rw [wr64] <;> omega
        repeat first | refine CondP.tt ?_ | refine CondP.ff ?_ | refine Owe.mk (by decide) ?_
        conv => whnf
        repeat ((first | refine CondP.tt ?_ | refine CondP.ff ?_ | refine Owe.mk (by decide) ?_); conv => whnf)
        rw [e]
        exact URI_L1 hX b lv p _ _ hs' i hi hb Q (m - 1) (k + 1) (by omega) (by omega) hQ
    · have hlt : k = lv[i].length := by simp at h1; omega
      rw [hlt, List.drop_length] at hQ
      repeat first | refine CondP.tt ?_ | refine CondP.ff ?_ | refine Owe.mk (by decide) ?_
      conv => whnf
      repeat ((first | refine CondP.tt ?_ | refine CondP.ff ?_ | refine Owe.mk (by decide) ?_); conv => whnf)
      exact hQ _ _
termination_by m => m
decreasing_by omega
theorem URI_L0 (hX : X F_ref10_Declares = none) (b : Nat) (lv : List (List Attr)) (p : List Nat) (vh : VH) (vn : Nat) (hs : Sc vh b lv) (hb : ∀ l ∈ lv, l.length < 2 ^ 40) (hlv : lv.length < 2 ^ 40) (Q : FQ) : ∀ (j : Nat), j ≤ lv.length →
    (match uriS p lv j with
      | none => ∀ i' t, Q (.exit 0) [(0, .ptr b 0), (1, .str p), (6, .int .i64 i'), (19, .bool t)] vh vn
      | some u => Q .ret [(4, .str u), (5, .bool true)] vh vn) →
    FLoop Tryz.prog X G (.loop c_ref10_Scope_URI_L0) [(0, .ptr b 0), (1, .str p), (6, .int .i64 ((j : Int) - 1))] vh vn Q
  | 0, hj, hQ => by
    refine FLoop.round ?_
    repeat first | refine CondP.tt ?_ | refine CondP.ff ?_ | refine Owe.mk (by decide) ?_
    conv => whnf
    repeat ((first | refine CondP.tt ?_ | refine CondP.ff ?_ | refine Owe.mk (by decide) ?_); conv => whnf)
    simp only [uriS] at hQ
    exact hQ _ _
  | j + 1, hj, hQ => by
    have hi : j < lv.length := by omega
    have e0 : ((j + 1 : Nat) : Int) - 1 = (j : Int) := by omega
    rw [e0]
    refine FLoop.round ?_
    repeat first | refine CondP.tt ?_ | refine CondP.ff ?_ | refine Owe.mk (by decide) ?_
    conv => whnf
    repeat ((first | refine CondP.tt ?_ | refine CondP.ff ?_ | refine Owe.mk (by decide) ?_); conv => whnf)
    refine URI_L1 hX b lv p vh vn hs j hi hb _ _ 0 rfl (Nat.zero_le _) ?_
    simp only [List.drop_zero]
    simp only [uriS, List.getElem?_eq_getElem hi, Option.getD_some] at hQ
    cases hu : uriL p lv[j] with
    | none =>
      rw [hu] at hQ
      intro k' t
      have e : wr .i64 ((j : Int) - 1) = ((j : Int) - 1) := by rw [wr64] <;> omega
      repeat first | refine CondP.tt ?_ | refine CondP.ff ?_ | refine Owe.mk (by decide) ?_
      conv => whnf
      repeat ((first | refine CondP.tt ?_ | refine CondP.ff ?_ | refine Owe.mk (by decide) ?_); conv => whnf)
      rw [e]
      exact URI_L0 hX b lv p vh vn hs hb hlv Q j (by omega) hQ
    | some u =>
      rw [hu] at hQ
      exact hQ
theorem URI_ok (hX : X F_ref10_Declares = none) (hX' : X F_ref10_Scope_URI = none) (b : Nat) (lv : List (List Attr)) (p : List Nat) (vh : VH) (vn : Nat) (hs : Sc vh b lv) (hb : ∀ l ∈ lv, l.length < 2 ^ 40) (hlv : lv.length < 2 ^ 40) :
    WpCall Tryz.prog X G F_ref10_Scope_URI [.ptr b 0, .str p] vh vn fun v vh' vn' => vh' = vh ∧ vn' = vn ∧ v = .tup [.str (uriP lv p).1, .bool (uriP lv p).2] := by
  have hs' := hs
  obtain ⟨ty, hs⟩ := hs
  apply k_ref10_Scope_URI.run hX'
  repeat first | refine CondP.tt ?_ | refine CondP.ff ?_ | refine Owe.mk (by decide) ?_
  conv => whnf
  repeat ((first | refine CondP.tt ?_ | refine CondP.ff ?_ | refine Owe.mk (by decide) ?_); conv => whnf)
  refine CondP.mk (fun h1 => ?_) (fun h1 => ?_)
  · simp at h1
    repeat first | refine CondP.tt ?_ | refine CondP.ff ?_ | refine Owe.mk (by decide) ?_
    conv => whnf
    repeat ((first | refine CondP.tt ?_ | refine CondP.ff ?_ | refine Owe.mk (by decide) ?_); conv => whnf)
    refine Get.mk vh (fun _ _ h => h) ⟨rfl, rfl, ?_⟩
    simp [uriP, h1]
  · simp at h1
    repeat first | refine CondP.tt ?_ | refine CondP.ff ?_ | refine Owe.mk (by decide) ?_
    conv => whnf
    repeat ((first | refine CondP.tt ?_ | refine CondP.ff ?_ | refine Owe.mk (by decide) ?_); conv => whnf)
    refine Get.mk (_, _, _, _) hs ?_
    conv => whnf
    refine Get.mk _ rfl ?_
    conv => whnf
    repeat ((first | refine CondP.tt ?_ | refine CondP.ff ?_ | refine Owe.mk (by decide) ?_); conv => whnf)
    have e : wr .i64 (Int.ofNat (lv.map encL).length - 1) = ((lv.length : Int) - 1) := by
      simp only [Int.ofNat_eq_natCast, List.length_map]
      rw [wr64] <;> omega
    rw [e]
    refine URI_L0 hX b lv p vh vn hs' hb hlv _ lv.length (Nat.le_refl _) ?_
    cases hu : uriS p lv lv.length with
    | none =>
      intro i' t
      repeat first | refine CondP.tt ?_ | refine CondP.ff ?_ | refine Owe.mk (by decide) ?_
      conv => whnf
      repeat ((first | refine CondP.tt ?_ | refine CondP.ff ?_ | refine Owe.mk (by decide) ?_); conv => whnf)
      refine Get.mk vh (fun _ _ h => h) ⟨rfl, rfl, ?_⟩
      simp [uriP, h1, hu]
    | some u =>
      repeat first | refine CondP.tt ?_ | refine CondP.ff ?_ | refine Owe.mk (by decide) ?_
      conv => whnf
      repeat ((first | refine CondP.tt ?_ | refine CondP.ff ?_ | refine Owe.mk (by decide) ?_); conv => whnf)
      refine Get.mk vh (fun _ _ h => h) ⟨rfl, rfl, ?_⟩
      simp [uriP, h1, hu]
end Go.Proofs.YtpcbnpekdmobpaaGreatDoor

open Go Go.Ev Go.VL
namespace Go.Proofs.YtpcbnpekdmobpaaGreatDoor
attribute [local irreducible] fApp
variable {X : Ovr} {G : Gt}
def sameName (a b : Attr) : Bool := decide (a.p = b.p) && decide (a.l = b.l)

def badDecl (a : Attr) : Bool :=
  let p := (declares a).1
  let df := decide (a.p = [])
  (((decide (p = S_xmlns) && !df || decide (p = S_xml) && !df && !decide (a.v = XMLURI)) || (!decide (p = S_xml) || df) && decide (a.v = XMLURI)) || decide (a.v = XMLNSURI)) || !df && decide (a.v = [])
def pushP : List Attr → List Attr → Option (List Attr)
  | m, [] => some m
  | m, a :: l => if (declares a).2 = true then (if badDecl a = true then none else if m.any (fun b => sameName b a) = true then none else pushP (m ++ [a]) l) else pushP m l
abbrev envP (b : Nat) (v m : V) (i : Nat) : VEnv := [(0, .ptr b 0), (1, v), (5, m), (6, .int .i64 (i : Int))]
theorem encA_0 {xs : List Attr} {i : Nat} (h : i < xs.length) : (xs.map encA).flatten[0 + i * 4 + 0]? = some (.str xs[i].p) := by rw [Nat.zero_add]; exact flat_get encA_len xs i 0 h (by decide)
theorem encA_1 {xs : List Attr} {i : Nat} (h : i < xs.length) : (xs.map encA).flatten[0 + i * 4 + 1]? = some (.str xs[i].l) := by rw [Nat.zero_add]; exact flat_get encA_len xs i 1 h (by decide)
theorem encA_2 {xs : List Attr} {i : Nat} (h : i < xs.length) : (xs.map encA).flatten[0 + i * 4 + 2]? = some (.str xs[i].u) := by rw [Nat.zero_add]; exact flat_get encA_len xs i 2 h (by decide)
theorem encA_3 {xs : List Attr} {i : Nat} (h : i < xs.length) : (xs.map encA).flatten[0 + i * 4 + 3]? = some (.str xs[i].v) := by rw [Nat.zero_add]; exact flat_get encA_len xs i 3 h (by decide)
theorem encA_all {xs : List Attr} {i : Nat} (h : i < xs.length) : ((xs.map encA).flatten.drop (0 + i * 4)).take 4 = encA xs[i] ∧ 0 + i * 4 + 4 ≤ (xs.map encA).flatten.length := by
  rw [Nat.zero_add]
  exact ⟨flat_take encA_len xs i h, flat_lt encA_len xs i h⟩
theorem Push_L1 (b : Nat) (mv : V) (bv : Nat) (tv : TypeId) (xs : List Attr) (vh : VH) (vn : Nat) (hvb : vh bv = some (.cells (xs.map encA).flatten tv 0 false)) (ms : List Attr) (lo : Nat) (A : Attrs lo vh vn mv ms) (hms : ms.length < 2 ^ 40) (i : Nat) (hi : i < xs.length) (Q : FQ) : ∀ (m k : Nat), ms.length - k = m → k ≤ ms.length →
    ((ms.drop k).any (fun b => sameName b xs[i]) = true → Q .ret [(4, .int .i64 2)] vh vn) →
    ((ms.drop k).any (fun b => sameName b xs[i]) = false → ∀ k' t, Q (.exit 2) [(0, .ptr b 0), (1, .msl bv 0 xs.length 4 none), (5, mv), (6, .int .i64 (i : Int)), (11, .int .i64 k'), (83, .bool t)] vh vn) →
    FLoop Tryz.prog X G (.loop c_ref10_Scope_Push_L1) [(0, .ptr b 0), (1, .msl bv 0 xs.length 4 none), (5, mv), (6, .int .i64 (i : Int)), (11, .int .i64 (k : Int))] vh vn Q
  | m, k, hm, hk, hR, hQ => by
    refine FLoop.round ?_
    rcases id A with ⟨rfl | rfl, rfl⟩ | ⟨bm, hb1, hb2, rfl, hb4⟩
    · repeat first | refine CondP.tt ?_ | refine CondP.ff ?_ | refine Owe.mk (by decide) ?_
      conv => whnf
      repeat ((first | refine CondP.tt ?_ | refine CondP.ff ?_ | refine Owe.mk (by decide) ?_); conv => whnf)
      exact hQ (by simp) _ _
    · repeat first | refine CondP.tt ?_ | refine CondP.ff ?_ | refine Owe.mk (by decide) ?_
      conv => whnf
      repeat ((first | refine CondP.tt ?_ | refine CondP.ff ?_ | refine Owe.mk (by decide) ?_); conv => whnf)
      exact hQ (by simp) _ _
    · repeat first | refine CondP.tt ?_ | refine CondP.ff ?_ | refine Owe.mk (by decide) ?_
      conv => whnf
      repeat ((first | refine CondP.tt ?_ | refine CondP.ff ?_ | refine Owe.mk (by decide) ?_); conv => whnf)
      refine CondP.mk (fun h1 => ?_) (fun h1 => ?_)
      · have hlt : k < ms.length := by simpa using h1
        have hd : ms.drop k = ms[k] :: ms.drop (k + 1) := (List.getElem_cons_drop hlt).symm
        rw [hd, List.any_cons] at hR hQ
        have e : wr .i64 ((k : Int) + 1) = ((k + 1 : Nat) : Int) := by rw [wr64] <;> omega
        repeat first | refine CondP.tt ?_ | refine CondP.ff ?_ | refine Owe.mk (by decide) ?_
        conv => whnf
        repeat ((first | refine CondP.tt ?_ | refine CondP.ff ?_ | refine Owe.mk (by decide) ?_); conv => whnf)
        refine Get.mk _ ⟨rfl, hlt⟩ ?_
        conv => whnf
        repeat ((first | refine CondP.tt ?_ | refine CondP.ff ?_ | refine Owe.mk (by decide) ?_); conv => whnf)
        refine Get.mk (_, _, _, _) hb4 ?_
        conv => whnf
        refine Get.mk _ (encA_0 hlt) ?_
        conv => whnf
        repeat ((first | refine CondP.tt ?_ | refine CondP.ff ?_ | refine Owe.mk (by decide) ?_); conv => whnf)
        refine Get.mk _ ⟨rfl, hi⟩ ?_
        conv => whnf
        repeat ((first | refine CondP.tt ?_ | refine CondP.ff ?_ | refine Owe.mk (by decide) ?_); conv => whnf)
        refine Get.mk (_, _, _, _) hvb ?_
        conv => whnf
        refine Get.mk _ (encA_0 hi) ?_
        conv => whnf
        repeat ((first | refine CondP.tt ?_ | refine CondP.ff ?_ | refine Owe.mk (by decide) ?_); conv => whnf)
        refine CondP.mk (fun h2 => ?_) (fun h2 => ?_)
        · simp at h2
          repeat first | refine CondP.tt ?_ | refine CondP.ff ?_ | refine Owe.mk (by decide) ?_
          conv => whnf
          repeat ((first | refine CondP.tt ?_ | refine CondP.ff ?_ | refine Owe.mk (by decide) ?_); conv => whnf)
          refine Get.mk _ ⟨rfl, hlt⟩ ?_
          conv => whnf
          repeat ((first | refine CondP.tt ?_ | refine CondP.ff ?_ | refine Owe.mk (by decide) ?_); conv => whnf)
          refine Get.mk (_, _, _, _) hb4 ?_
          conv => whnf
          refine Get.mk _ (encA_1 hlt) ?_
          conv => whnf
          repeat ((first | refine CondP.tt ?_ | refine CondP.ff ?_ | refine Owe.mk (by decide) ?_); conv => whnf)
          refine Get.mk _ ⟨rfl, hi⟩ ?_
          conv => whnf
          repeat ((first | refine CondP.tt ?_ | refine CondP.ff ?_ | refine Owe.mk (by decide) ?_); conv => whnf)
          refine Get.mk (_, _, _, _) hvb ?_
          conv => whnf
          refine Get.mk _ (encA_1 hi) ?_
          conv => whnf
          repeat ((first | refine CondP.tt ?_ | refine CondP.ff ?_ | refine Owe.mk (by decide) ?_); conv => whnf)
          refine CondP.mk (fun h3 => ?_) (fun h3 => ?_)
          · simp at h3
            have hs : sameName ms[k] xs[i] = true := by simp [sameName, h2, h3]
            repeat first | refine CondP.tt ?_ | refine CondP.ff ?_ | refine Owe.mk (by decide) ?_
            conv => whnf
            repeat ((first | refine CondP.tt ?_ | refine CondP.ff ?_ | refine Owe.mk (by decide) ?_); conv => whnf)
            exact hR (by rw [hs]; rfl)
          · simp at h3
            have hs : sameName ms[k] xs[i] = false := by simp [sameName, h3]
            rw [hs, Bool.false_or] at hR hQ
            repeat first | refine CondP.tt ?_ | refine CondP.ff ?_ | refine Owe.mk (by decide) ?_
            conv => whnf
            repeat ((first | refine CondP.tt ?_ | refine CondP.ff ?_ | refine Owe.mk (by decide) ?_); conv => whnf)
            rw [e]
            exact Push_L1 b _ bv tv xs vh vn hvb ms lo A hms i hi Q (m - 1) (k + 1) (by omega) (by omega) hR hQ
        · simp at h2
          have hs : sameName ms[k] xs[i] = false := by simp [sameName, h2]
          rw [hs, Bool.false_or] at hR hQ
          repeat first | refine CondP.tt ?_ | refine CondP.ff ?_ | refine Owe.mk (by decide) ?_
          conv => whnf
          repeat ((first | refine CondP.tt ?_ | refine CondP.ff ?_ | refine Owe.mk (by decide) ?_); conv => whnf)
          rw [e]
          exact Push_L1 b _ bv tv xs vh vn hvb ms lo A hms i hi Q (m - 1) (k + 1) (by omega) (by omega) hR hQ
      · have hlt : k = ms.length := by simp at h1; omega
        rw [hlt, List.drop_length] at hQ
        repeat first | refine CondP.tt ?_ | refine CondP.ff ?_ | refine Owe.mk (by decide) ?_
        conv => whnf
        repeat ((first | refine CondP.tt ?_ | refine CondP.ff ?_ | refine Owe.mk (by decide) ?_); conv => whnf)
        exact hQ rfl _ _
termination_by m => m
decreasing_by all_goals omega
theorem Push_R11 (b : Nat) (mv : V) (bv : Nat) (tv : TypeId) (xs : List Attr) (vh : VH) (vn : Nat) (hvb : vh bv = some (.cells (xs.map encA).flatten tv 0 false)) (ms : List Attr) (lo : Nat) (A : Attrs lo vh vn mv ms) (hlo : lo ≤ vn) (hms : ms.length < 2 ^ 30) (i : Nat) (hi : i < xs.length) (Q : FQ)
    (hR : ms.any (fun b => sameName b xs[i]) = true → Q .ret [(4, .int .i64 2)] vh vn)
    (hN : ms.any (fun b => sameName b xs[i]) = false → ∀ vh', Attrs lo vh' (vn + 1) (.msl vn 0 (ms.length + 1) 4 none) (ms ++ [xs[i]]) → (∀ c, c < lo → vh' c = vh c) → Q .norm [(0, .ptr b 0), (1, .msl bv 0 xs.length 4 none), (5, .msl vn 0 (ms.length + 1) 4 none), (6, .int .i64 (i : Int))] vh' (vn + 1)) :
    FLoop Tryz.prog X G (.cut c_ref10_Scope_Push_R11) [(0, .ptr b 0), (1, .msl bv 0 xs.length 4 none), (5, mv), (6, .int .i64 (i : Int))] vh vn Q := by
  refine FLoop.cut ?_
  rcases id A with ⟨rfl | rfl, rfl⟩ | ⟨bm, hb1, hb2, rfl, hb4⟩
  all_goals
    repeat first | refine CondP.tt ?_ | refine CondP.ff ?_ | refine Owe.mk (by decide) ?_
    conv => whnf
    repeat ((first | refine CondP.tt ?_ | refine CondP.ff ?_ | refine Owe.mk (by decide) ?_); conv => whnf)
    refine Push_L1 b _ bv tv xs vh vn hvb _ lo A (by omega) i hi _ _ 0 rfl (Nat.zero_le _) (fun h => ?_) (fun h k' t => ?_)
    · rw [List.drop_zero] at h; exact hR h
    · rw [List.drop_zero] at h
      repeat first | refine CondP.tt ?_ | refine CondP.ff ?_ | refine Owe.mk (by decide) ?_
      conv => whnf
      repeat ((first | refine CondP.tt ?_ | refine CondP.ff ?_ | refine Owe.mk (by decide) ?_); conv => whnf)
      refine Get.mk i ⟨rfl, hi⟩ ?_
      repeat first | refine CondP.tt ?_ | refine CondP.ff ?_ | refine Owe.mk (by decide) ?_
      conv => whnf
      repeat ((first | refine CondP.tt ?_ | refine CondP.ff ?_ | refine Owe.mk (by decide) ?_); conv => whnf)
      refine Get.mk (_, _, _, _) hvb ?_
      conv => whnf
      repeat ((first | refine CondP.tt ?_ | refine CondP.ff ?_ | refine Owe.mk (by decide) ?_); conv => whnf)
      refine Get.mk _ (encA_all hi) ?_
      repeat first | refine CondP.tt ?_ | refine CondP.ff ?_ | refine Owe.mk (by decide) ?_
      conv => whnf
      repeat ((first | refine CondP.tt ?_ | refine CondP.ff ?_ | refine Owe.mk (by decide) ?_); conv => whnf)
      refine SlIn.app encA_len (by decide) A hlo xs[i] ⟨?_, ?_⟩ fun vh' A' hf => ?_
      · omega
      · show _ < 9223372036854775808; omega
      repeat first | refine CondP.tt ?_ | refine CondP.ff ?_ | refine Owe.mk (by decide) ?_
      conv => whnf
      repeat ((first | refine CondP.tt ?_ | refine CondP.ff ?_ | refine Owe.mk (by decide) ?_); conv => whnf)
      exact hN h _ A' fun c hc => hf c (by omega) (by first | exact fun h => h | exact fun (h : c = bm) => by omega)
end Go.Proofs.YtpcbnpekdmobpaaGreatDoor

open Go Go.Ev Go.VL
namespace Go.Proofs.YtpcbnpekdmobpaaGreatDoor
attribute [local irreducible] fApp
variable {X : Ovr} {G : Gt}
set_option maxHeartbeats 4000000 in
theorem Push_L0 (hX : X F_ref10_Declares = none) (b : Nat) (bv : Nat) (tv : TypeId) (xs : List Attr) (hxs : xs.length < 2 ^ 30) (lo : Nat) (hbv : bv < lo) (Q : FQ) : ∀ (m i : Nat), xs.length - i = m → i ≤ xs.length → ∀ (vh : VH) (vn : Nat) (mv : V) (ms : List Attr), vh bv = some (.cells (xs.map encA).flatten tv 0 false) → lo ≤ vn → Attrs lo vh vn mv ms → ms.length ≤ i →
    (pushP ms (xs.drop i) = none → ∀ vh' vn', vn ≤ vn' → (∀ c, c < lo → vh' c = vh c) → Q .ret [(4, .int .i64 2)] vh' vn') →
    (∀ ms', pushP ms (xs.drop i) = some ms' → ∀ mv' vh' vn' i' t, ms'.length ≤ xs.length → Attrs lo vh' vn' mv' ms' → vn ≤ vn' → (∀ c, c < lo → vh' c = vh c) → Q (.exit 0) [(0, .ptr b 0), (1, .msl bv 0 xs.length 4 none), (5, mv'), (6, .int .i64 i'), (15, .bool t)] vh' vn') →
    FLoop Tryz.prog X G (.loop c_ref10_Scope_Push_L0) [(0, .ptr b 0), (1, .msl bv 0 xs.length 4 none), (5, mv), (6, .int .i64 (i : Int))] vh vn Q
  | m, i, hm, hi, vh, vn, mv, ms, hvb, hlo, A, hms, hR, hQ => by
    refine FLoop.round ?_
    rcases id A with ⟨rfl | rfl, rfl⟩ | ⟨bm, hb1, hb2, rfl, hb4⟩
    all_goals
      repeat first | refine CondP.tt ?_ | refine CondP.ff ?_ | refine Owe.mk (by decide) ?_
      conv => whnf
      repeat ((first | refine CondP.tt ?_ | refine CondP.ff ?_ | refine Owe.mk (by decide) ?_); conv => whnf)
      refine CondP.mk (fun h1 => ?_) (fun h1 => ?_)
      · have hlt : i < xs.length := by simpa using h1
        have hd : xs.drop i = xs[i] :: xs.drop (i + 1) := (List.getElem_cons_drop hlt).symm
        rw [hd] at hR hQ
        simp only [pushP] at hR hQ
        have e : wr .i64 ((i : Int) + 1) = ((i + 1 : Nat) : Int) := by rw [wr64] <;> omega
        repeat first | refine CondP.tt ?_ | refine CondP.ff ?_ | refine Owe.mk (by decide) ?_
        conv => whnf
        repeat ((first | refine CondP.tt ?_ | refine CondP.ff ?_ | refine Owe.mk (by decide) ?_); conv => whnf)
        refine Get.mk i ⟨rfl, hlt⟩ ?_
        repeat first | refine CondP.tt ?_ | refine CondP.ff ?_ | refine Owe.mk (by decide) ?_
        conv => whnf
        repeat ((first | refine CondP.tt ?_ | refine CondP.ff ?_ | refine Owe.mk (by decide) ?_); conv => whnf)
        refine Get.mk (_, _, _, _) hvb ?_
        conv => whnf
        repeat ((first | refine CondP.tt ?_ | refine CondP.ff ?_ | refine Owe.mk (by decide) ?_); conv => whnf)
        refine Get.mk _ (encA_all hlt) ?_
        repeat first | refine CondP.tt ?_ | refine CondP.ff ?_ | refine Owe.mk (by decide) ?_
        conv => whnf
        repeat ((first | refine CondP.tt ?_ | refine CondP.ff ?_ | refine Owe.mk (by decide) ?_); conv => whnf)
        refine (declares_ok hX xs[i] vh vn).mono fun v vh' vn' he => ?_
        obtain ⟨e1, e2, e3⟩ := he
        subst e1; subst e2; subst e3
        repeat first | refine CondP.tt ?_ | refine CondP.ff ?_ | refine Owe.mk (by decide) ?_
        conv => whnf
        repeat ((first | refine CondP.tt ?_ | refine CondP.ff ?_ | refine Owe.mk (by decide) ?_); conv => whnf)
        refine CondP.mk (fun h2 => ?_) (fun h2 => ?_)
        · have h2' : (declares xs[i]).2 = false := by simpa using h2
          simp only [h2', Bool.false_eq_true, if_false] at hR hQ
          repeat first | refine CondP.tt ?_ | refine CondP.ff ?_ | refine Owe.mk (by decide) ?_
          conv => whnf
          repeat ((first | refine CondP.tt ?_ | refine CondP.ff ?_ | refine Owe.mk (by decide) ?_); conv => whnf)
          rw [e]
          exact Push_L0 hX b bv tv xs hxs lo hbv Q (m - 1) (i + 1) (by omega) (by omega) _ _ _ _ hvb hlo A (by omega) hR hQ
        · have h2' : (declares xs[i]).2 = true := by simpa using h2
          simp only [h2', if_true] at hR hQ
          have hBad : badDecl xs[i] = true → Q .ret [(4, .int .i64 2)] vh' vn' := fun h => hR (by rw [if_pos h]) _ _ (Nat.le_refl _) fun _ _ => rfl
          repeat first | refine CondP.tt ?_ | refine CondP.ff ?_ | refine Owe.mk (by decide) ?_
          conv => whnf
          repeat ((first | refine CondP.tt ?_ | refine CondP.ff ?_ | refine Owe.mk (by decide) ?_); conv => whnf)
          refine Get.mk _ ⟨rfl, hlt⟩ ?_
          conv => whnf
          repeat ((first | refine CondP.tt ?_ | refine CondP.ff ?_ | refine Owe.mk (by decide) ?_); conv => whnf)
          refine Get.mk (_, _, _, _) hvb ?_
          conv => whnf
          refine Get.mk _ (encA_3 hlt) ?_
          conv => whnf
          repeat ((first | refine CondP.tt ?_ | refine CondP.ff ?_ | refine Owe.mk (by decide) ?_); conv => whnf)
          refine Get.mk _ ⟨rfl, hlt⟩ ?_
          conv => whnf
          repeat ((first | refine CondP.tt ?_ | refine CondP.ff ?_ | refine Owe.mk (by decide) ?_); conv => whnf)
          refine Get.mk (_, _, _, _) hvb ?_
          conv => whnf
          refine Get.mk _ (encA_0 hlt) ?_
          conv => whnf
          repeat ((first | refine CondP.tt ?_ | refine CondP.ff ?_ | refine Owe.mk (by decide) ?_); conv => whnf)
          repeat' ((first | refine CondP.tt ?_ | refine CondP.ff ?_ | refine CondP.mk (fun _ => ?_) (fun _ => ?_)); conv => whnf)
          all_goals first
            | exact hBad (by clear hBad hR hQ A hvb hd h1 hm; simp_all [badDecl])
            | skip
          all_goals
            have hnb : badDecl xs[i] = false := by clear hBad hR hQ A hvb hd h1 hm; simp_all [badDecl]
            refine Push_R11 b _ bv tv xs vh' vn' hvb _ lo A hlo (by omega) i hlt _ (fun h => ?_) (fun h vh2 A2 f2 => ?_)
            · exact hR (by rw [hnb, h]; rfl) _ _ (Nat.le_refl _) fun _ _ => rfl
            · repeat first | refine CondP.tt ?_ | refine CondP.ff ?_ | refine Owe.mk (by decide) ?_
              conv => whnf
              repeat ((first | refine CondP.tt ?_ | refine CondP.ff ?_ | refine Owe.mk (by decide) ?_); conv => whnf)
              rw [e]
              refine Push_L0 hX b bv tv xs hxs lo hbv Q (m - 1) (i + 1) (by omega) (by omega) _ _ _ _ ((f2 bv hbv).trans hvb) (by omega) A2 (by rw [List.length_append, List.length_singleton]; omega) (fun hp vh3 vn3 g3 f3 => ?_) (fun ms' hp mv3 vh3 vn3 i3 t3 l3 A3 g3 f3 => ?_)
              · exact hR (by rw [hnb, h]; exact hp) _ _ (by omega) fun c hc => (f3 c hc).trans (f2 c hc)
              · exact hQ ms' (by rw [hnb, h]; exact hp) _ _ _ _ _ l3 A3 (by omega) fun c hc => (f3 c hc).trans (f2 c hc)
      · have hlt : i = xs.length := by simp at h1; omega
        rw [hlt, List.drop_length] at hQ
        repeat first | refine CondP.tt ?_ | refine CondP.ff ?_ | refine Owe.mk (by decide) ?_
        conv => whnf
        repeat ((first | refine CondP.tt ?_ | refine CondP.ff ?_ | refine Owe.mk (by decide) ?_); conv => whnf)
        exact hQ _ rfl _ _ _ _ _ (by omega) A (Nat.le_refl _) fun _ _ => rfl
termination_by m => m
decreasing_by all_goals omega
end Go.Proofs.YtpcbnpekdmobpaaGreatDoor

open Go Go.Ev Go.VL
namespace Go.Proofs.YtpcbnpekdmobpaaGreatDoor
attribute [local irreducible] fApp
variable {X : Ovr} {G : Gt}
theorem encL_len (l : List Attr) : (encL l).length = 1 := rfl
abbrev Levels := SlIn encL 1 T_Lapi_Attr
theorem Push_R17 (b : Nat) (lv : List (List Attr)) (vh : VH) (vn : Nat) (hs : Sc vh b lv) (hlv : lv.length < 2 ^ 30) (lo : Nat) (hb : b < lo) (hlo : lo ≤ vn) (mv : V) (ms : List Attr) (A : Attrs lo vh vn mv ms) (v : V) (tl : VEnv) (Q : FQ)
    (hQ : ∀ vh' vn', vn ≤ vn' → Sc vh' b (lv ++ [ms]) → (∀ c, c < lo → c ≠ b → vh' c = vh c) → Q .ret [(4, .int .i64 0)] vh' vn') :
    FLoop Tryz.prog X G (.cut c_ref10_Scope_Push_R17) ((0, .ptr b 0) :: (1, v) :: (5, mv) :: tl) vh vn Q := by
  obtain ⟨ty, hs⟩ := hs
  refine FLoop.cut ?_
  rcases id A with ⟨rfl | rfl, rfl⟩ | ⟨bm, hb1, hb2, rfl, hb4⟩
  · repeat first | refine CondP.tt ?_ | refine CondP.ff ?_ | refine Owe.mk (by decide) ?_
    conv => whnf
    repeat ((first | refine CondP.tt ?_ | refine CondP.ff ?_ | refine Owe.mk (by decide) ?_); conv => whnf)
    refine Get.mk (_, _, _, _) hs ?_
    conv => whnf
    refine Get.mk _ rfl ?_
    conv => whnf
    repeat ((first | refine CondP.tt ?_ | refine CondP.ff ?_ | refine Owe.mk (by decide) ?_); conv => whnf)
    refine SlIn.fresh (enc := encL) (xs := lv) (lo := lo) rfl hlo ⟨?_, ?_⟩ fun v1 vh1 n1 A1 g1 f1 => ?_
    · omega
    · show _ < 9223372036854775808; omega
    have hs1 : vh1 b = some (.cells [.sl 1 (lv.map encL) none] ty 0 false) := (f1 b (by omega)).trans hs
    rcases id A1 with ⟨rfl | rfl, rfl⟩ | ⟨bl, hl1, hl2, rfl, hl4⟩
    all_goals
      repeat first | refine CondP.tt ?_ | refine CondP.ff ?_ | refine Owe.mk (by decide) ?_
      conv => whnf
      repeat ((first | refine CondP.tt ?_ | refine CondP.ff ?_ | refine Owe.mk (by decide) ?_); conv => whnf)
      refine SlIn.app' encL_len (by decide) A1 (by omega) ([] : List Attr) ⟨?_, ?_⟩ fun vh2 hz f2 => ?_
      · omega
      · show _ < 9223372036854775808; omega
      repeat first | refine CondP.tt ?_ | refine CondP.ff ?_ | refine Owe.mk (by decide) ?_
      conv => whnf
      repeat ((first | refine CondP.tt ?_ | refine CondP.ff ?_ | refine Owe.mk (by decide) ?_); conv => whnf)
      refine Get.mk (_, _, _, _) hz ?_
      conv => whnf
      refine ⟨fz_owe encL_len (by decide), ?_⟩
      conv => whnf
      refine Get.mk _ (fz_pieces encL_len) ?_
      conv => whnf
      repeat ((first | refine CondP.tt ?_ | refine CondP.ff ?_ | refine Owe.mk (by decide) ?_); conv => whnf)
      have f2' : ∀ c, c < lo → vh2 c = vh1 c := fun c hc => f2 c (by omega) (by first | exact fun h => h | exact fun (h : c = bl) => by omega)
      have hs3 : vdel vh2 n1 b = some (.cells [.sl 1 (_ : List (List V)) none] ty 0 false) := (vdel_ne (by omega)).trans ((f2' b hb).trans hs1)
      refine Get.mk (_, _, _, _) hs3 ?_
      conv => whnf
      repeat ((first | refine CondP.tt ?_ | refine CondP.ff ?_ | refine Owe.mk (by decide) ?_); conv => whnf)
      refine ⟨⟨Nat.le_refl _, Nat.le_refl _⟩, ?_⟩
      repeat first | refine CondP.tt ?_ | refine CondP.ff ?_ | refine Owe.mk (by decide) ?_
      conv => whnf
      repeat ((first | refine CondP.tt ?_ | refine CondP.ff ?_ | refine Owe.mk (by decide) ?_); conv => whnf)
      exact hQ _ _ (by omega) ⟨ty, vset_same⟩ fun c hc hcb => (vset_ne hcb).trans ((vdel_ne (by omega)).trans ((f2' c hc).trans ((f1 c (by omega)).trans rfl)))
  · repeat first | refine CondP.tt ?_ | refine CondP.ff ?_ | refine Owe.mk (by decide) ?_
    conv => whnf
    repeat ((first | refine CondP.tt ?_ | refine CondP.ff ?_ | refine Owe.mk (by decide) ?_); conv => whnf)
    refine Get.mk (_, _, _, _) hs ?_
    conv => whnf
    refine Get.mk _ rfl ?_
    conv => whnf
    repeat ((first | refine CondP.tt ?_ | refine CondP.ff ?_ | refine Owe.mk (by decide) ?_); conv => whnf)
    refine SlIn.fresh (enc := encL) (xs := lv) (lo := lo) rfl hlo ⟨?_, ?_⟩ fun v1 vh1 n1 A1 g1 f1 => ?_
    · omega
    · show _ < 9223372036854775808; omega
    have hs1 : vh1 b = some (.cells [.sl 1 (lv.map encL) none] ty 0 false) := (f1 b (by omega)).trans hs
    rcases id A1 with ⟨rfl | rfl, rfl⟩ | ⟨bl, hl1, hl2, rfl, hl4⟩
    all_goals
      repeat first | refine CondP.tt ?_ | refine CondP.ff ?_ | refine Owe.mk (by decide) ?_
      conv => whnf
      repeat ((first | refine CondP.tt ?_ | refine CondP.ff ?_ | refine Owe.mk (by decide) ?_); conv => whnf)
      refine SlIn.app' encL_len (by decide) A1 (by omega) ([] : List Attr) ⟨?_, ?_⟩ fun vh2 hz f2 => ?_
      · omega
      · show _ < 9223372036854775808; omega
      repeat first | refine CondP.tt ?_ | refine CondP.ff ?_ | refine Owe.mk (by decide) ?_
      conv => whnf
      repeat ((first | refine CondP.tt ?_ | refine CondP.ff ?_ | refine Owe.mk (by decide) ?_); conv => whnf)
      refine Get.mk (_, _, _, _) hz ?_
      conv => whnf
      refine ⟨fz_owe encL_len (by decide), ?_⟩
      conv => whnf
      refine Get.mk _ (fz_pieces encL_len) ?_
      conv => whnf
      repeat ((first | refine CondP.tt ?_ | refine CondP.ff ?_ | refine Owe.mk (by decide) ?_); conv => whnf)
      have f2' : ∀ c, c < lo → vh2 c = vh1 c := fun c hc => f2 c (by omega) (by first | exact fun h => h | exact fun (h : c = bl) => by omega)
      have hs3 : vdel vh2 n1 b = some (.cells [.sl 1 (_ : List (List V)) none] ty 0 false) := (vdel_ne (by omega)).trans ((f2' b hb).trans hs1)
      refine Get.mk (_, _, _, _) hs3 ?_
      conv => whnf
      repeat ((first | refine CondP.tt ?_ | refine CondP.ff ?_ | refine Owe.mk (by decide) ?_); conv => whnf)
      refine ⟨⟨Nat.le_refl _, Nat.le_refl _⟩, ?_⟩
      repeat first | refine CondP.tt ?_ | refine CondP.ff ?_ | refine Owe.mk (by decide) ?_
      conv => whnf
      repeat ((first | refine CondP.tt ?_ | refine CondP.ff ?_ | refine Owe.mk (by decide) ?_); conv => whnf)
      exact hQ _ _ (by omega) ⟨ty, vset_same⟩ fun c hc hcb => (vset_ne hcb).trans ((vdel_ne (by omega)).trans ((f2' c hc).trans ((f1 c (by omega)).trans rfl)))
  · repeat first | refine CondP.tt ?_ | refine CondP.ff ?_ | refine Owe.mk (by decide) ?_
    conv => whnf
    repeat ((first | refine CondP.tt ?_ | refine CondP.ff ?_ | refine Owe.mk (by decide) ?_); conv => whnf)
    refine Get.mk (_, _, _, _) hb4 ?_
    conv => whnf
    refine ⟨fz_owe encA_len (by decide), ?_⟩
    conv => whnf
    refine Get.mk _ (fz_pieces encA_len) ?_
    conv => whnf
    repeat ((first | refine CondP.tt ?_ | refine CondP.ff ?_ | refine Owe.mk (by decide) ?_); conv => whnf)
    have hs2 : vdel vh bm b = some (.cells [.sl 1 (lv.map encL) none] ty 0 false) := (vdel_ne (by omega)).trans hs
    refine Get.mk (_, _, _, _) hs2 ?_
    conv => whnf
    refine Get.mk _ rfl ?_
    conv => whnf
    repeat ((first | refine CondP.tt ?_ | refine CondP.ff ?_ | refine Owe.mk (by decide) ?_); conv => whnf)
    refine SlIn.fresh (enc := encL) (xs := lv) (lo := lo) rfl hlo ⟨?_, ?_⟩ fun v1 vh1 n1 A1 g1 f1 => ?_
    · omega
    · show _ < 9223372036854775808; omega
    have hs1 : vh1 b = some (.cells [.sl 1 (lv.map encL) none] ty 0 false) := (f1 b (by omega)).trans hs2
    rcases id A1 with ⟨rfl | rfl, rfl⟩ | ⟨bl, hl1, hl2, rfl, hl4⟩
    all_goals
      repeat first | refine CondP.tt ?_ | refine CondP.ff ?_ | refine Owe.mk (by decide) ?_
      conv => whnf
      repeat ((first | refine CondP.tt ?_ | refine CondP.ff ?_ | refine Owe.mk (by decide) ?_); conv => whnf)
      refine SlIn.app' encL_len (by decide) A1 (by omega) (ms : List Attr) ⟨?_, ?_⟩ fun vh2 hz f2 => ?_
      · omega
      · show _ < 9223372036854775808; omega
      repeat first | refine CondP.tt ?_ | refine CondP.ff ?_ | refine Owe.mk (by decide) ?_
      conv => whnf
      repeat ((first | refine CondP.tt ?_ | refine CondP.ff ?_ | refine Owe.mk (by decide) ?_); conv => whnf)
      refine Get.mk (_, _, _, _) hz ?_
      conv => whnf
      refine ⟨fz_owe encL_len (by decide), ?_⟩
      conv => whnf
      refine Get.mk _ (fz_pieces encL_len) ?_
      conv => whnf
      repeat ((first | refine CondP.tt ?_ | refine CondP.ff ?_ | refine Owe.mk (by decide) ?_); conv => whnf)
      have f2' : ∀ c, c < lo → vh2 c = vh1 c := fun c hc => f2 c (by omega) (by first | exact fun h => h | exact fun (h : c = bl) => by omega)
      have hs3 : vdel vh2 n1 b = some (.cells [.sl 1 (_ : List (List V)) none] ty 0 false) := (vdel_ne (by omega)).trans ((f2' b hb).trans hs1)
      refine Get.mk (_, _, _, _) hs3 ?_
      conv => whnf
      repeat ((first | refine CondP.tt ?_ | refine CondP.ff ?_ | refine Owe.mk (by decide) ?_); conv => whnf)
      refine ⟨⟨Nat.le_refl _, Nat.le_refl _⟩, ?_⟩
      repeat first | refine CondP.tt ?_ | refine CondP.ff ?_ | refine Owe.mk (by decide) ?_
      conv => whnf
      repeat ((first | refine CondP.tt ?_ | refine CondP.ff ?_ | refine Owe.mk (by decide) ?_); conv => whnf)
      exact hQ _ _ (by omega) ⟨ty, vset_same⟩ fun c hc hcb => (vset_ne hcb).trans ((vdel_ne (by omega)).trans ((f2' c hc).trans ((f1 c (by omega)).trans (vdel_ne (by omega)))))
theorem Push_ok (hX : X F_ref10_Declares = none) (hX' : X F_ref10_Scope_Push = none) (b : Nat) (lv : List (List Attr)) (v : V) (xs : List Attr) (vh : VH) (vn : Nat) (hs : Sc vh b lv) (hb : b < vn) (hlv : lv.length < 2 ^ 30) (hv : SlR encA 4 vh v xs) (hvb : ∀ c, blkOf v c → c < vn) (hxs : xs.length < 2 ^ 30) :
    WpCall Tryz.prog X G F_ref10_Scope_Push [.ptr b 0, v] vh vn fun r vh' vn' => vn ≤ vn' ∧ (∀ c, c < vn → c ≠ b → vh' c = vh c) ∧
      match pushP [] xs with
      | none => r = .int .i64 2 ∧ Sc vh' b lv
      | some ms => r = .int .i64 0 ∧ Sc vh' b (lv ++ [ms]) := by
  apply k_ref10_Scope_Push.run hX'
  rcases id hv with ⟨rfl, rfl⟩ | ⟨rfl, rfl⟩ | ⟨bv, tv, rfl, hv4⟩
  · repeat first | refine CondP.tt ?_ | refine CondP.ff ?_ | refine Owe.mk (by decide) ?_
    conv => whnf
    repeat ((first | refine CondP.tt ?_ | refine CondP.ff ?_ | refine Owe.mk (by decide) ?_); conv => whnf)
    refine FLoop.round ?_
    repeat first | refine CondP.tt ?_ | refine CondP.ff ?_ | refine Owe.mk (by decide) ?_
    conv => whnf
    repeat ((first | refine CondP.tt ?_ | refine CondP.ff ?_ | refine Owe.mk (by decide) ?_); conv => whnf)
    refine Push_R17 b lv vh vn hs hlv vn hb (Nat.le_refl _) _ [] .nil _ _ _ fun vh' vn' g1 g2 g3 => ?_
    repeat first | refine CondP.tt ?_ | refine CondP.ff ?_ | refine Owe.mk (by decide) ?_
    conv => whnf
    repeat ((first | refine CondP.tt ?_ | refine CondP.ff ?_ | refine Owe.mk (by decide) ?_); conv => whnf)
    exact Get.mk vh' (fun _ _ h => h) ⟨g1, g3, rfl, g2⟩
  · repeat first | refine CondP.tt ?_ | refine CondP.ff ?_ | refine Owe.mk (by decide) ?_
    conv => whnf
    repeat ((first | refine CondP.tt ?_ | refine CondP.ff ?_ | refine Owe.mk (by decide) ?_); conv => whnf)
    refine FLoop.round ?_
    repeat first | refine CondP.tt ?_ | refine CondP.ff ?_ | refine Owe.mk (by decide) ?_
    conv => whnf
    repeat ((first | refine CondP.tt ?_ | refine CondP.ff ?_ | refine Owe.mk (by decide) ?_); conv => whnf)
    refine Push_R17 b lv vh vn hs hlv vn hb (Nat.le_refl _) _ [] .nil _ _ _ fun vh' vn' g1 g2 g3 => ?_
    repeat first | refine CondP.tt ?_ | refine CondP.ff ?_ | refine Owe.mk (by decide) ?_
    conv => whnf
    repeat ((first | refine CondP.tt ?_ | refine CondP.ff ?_ | refine Owe.mk (by decide) ?_); conv => whnf)
    exact Get.mk vh' (fun _ _ h => h) ⟨g1, g3, rfl, g2⟩
  · have hbv : bv < vn := hvb bv rfl
    repeat first | refine CondP.tt ?_ | refine CondP.ff ?_ | refine Owe.mk (by decide) ?_
    conv => whnf
    repeat ((first | refine CondP.tt ?_ | refine CondP.ff ?_ | refine Owe.mk (by decide) ?_); conv => whnf)
    refine Push_L0 hX b bv tv xs hxs vn hbv _ xs.length 0 (by omega) (Nat.zero_le _) vh vn _ [] hv4 (Nat.le_refl _) .nil (Nat.le_refl _) (fun hp vh' vn' g1 f1 => ?_) fun ms hp mv' vh' vn' i' t l1 A1 g1 f1 => ?_
    · rw [List.drop_zero] at hp
      repeat first | refine CondP.tt ?_ | refine CondP.ff ?_ | refine Owe.mk (by decide) ?_
      conv => whnf
      repeat ((first | refine CondP.tt ?_ | refine CondP.ff ?_ | refine Owe.mk (by decide) ?_); conv => whnf)
      refine Get.mk vh' (fun _ _ h => h) ⟨g1, fun c hc _ => f1 c hc, ?_⟩
      obtain ⟨ty, hs⟩ := hs
      simp only [hp]
      exact ⟨trivial, ty, (f1 b hb).trans hs⟩
    · rw [List.drop_zero] at hp
      have hs1 : Sc vh' b lv := by obtain ⟨ty, hs⟩ := hs; exact ⟨ty, (f1 b hb).trans hs⟩
      rcases id A1 with ⟨rfl | rfl, rfl⟩ | ⟨bl, hl1, hl2, rfl, hl4⟩
      all_goals
        repeat first | refine CondP.tt ?_ | refine CondP.ff ?_ | refine Owe.mk (by decide) ?_
        conv => whnf
        repeat ((first | refine CondP.tt ?_ | refine CondP.ff ?_ | refine Owe.mk (by decide) ?_); conv => whnf)
        refine Push_R17 b lv vh' vn' hs1 hlv vn hb g1 _ _ A1 _ _ _ fun vh2 vn2 g2 s2 f2 => ?_
        repeat first | refine CondP.tt ?_ | refine CondP.ff ?_ | refine Owe.mk (by decide) ?_
        conv => whnf
        repeat ((first | refine CondP.tt ?_ | refine CondP.ff ?_ | refine Owe.mk (by decide) ?_); conv => whnf)
        refine Get.mk vh2 (fun _ _ h => h) ⟨Nat.le_trans g1 g2, fun c hc hcb => (f2 c hc hcb).trans (f1 c hc), ?_⟩
        simp only [hp]
        exact ⟨trivial, s2⟩
end Go.Proofs.YtpcbnpekdmobpaaGreatDoor

open Go Go.Ev Go.VL
namespace Go.Proofs.YtpcbnpekdmobpaaGreatDoor
attribute [local irreducible] fApp
variable {X : Ovr} {G : Gt}
def encNv (n : Nd) (av : V) : List V := [.int .i64 n.k, .int .i64 n.d, .str n.p, .str n.l, .str n.u, .str n.v, av]
def nsA (lv : List (List Attr)) (a : Attr) : Attr × Bool :=
  if a.u = XMLNSURI then (a, true) else if a.p = [] then ({ a with u := [] }, true) else ({ a with u := (uriP lv a.p).1 }, (uriP lv a.p).2)
def nsL (lv : List (List Attr)) : List Attr → List Attr × Bool
  | [] => ([], true)
  | a :: l => if (nsA lv a).2 = true then ((nsA lv a).1 :: (nsL lv l).1, (nsL lv l).2) else ((nsA lv a).1 :: l, false)
theorem flat_set (xs : List Attr) (i : Nat) (h : i < xs.length) (w : List Nat) : setSeg (xs.map encA).flatten (0 + i * 4 + 2) [.str w] = ((xs.set i { xs[i] with u := w }).map encA).flatten := by
  rw [Nat.zero_add]
  induction xs generalizing i with
  | nil => simp at h
  | cons a xs ih =>
    cases i with
    | zero => simp [encA, setSeg, app_eq, drp_eq, len_eq]
    | succ i =>
      have := ih i (by simpa using h)
      rw [show (i + 1) * 4 + 2 = (i * 4 + 2) + 1 + 1 + 1 + 1 by omega]
      simp only [List.map_cons, List.flatten_cons, encA, List.cons_append, List.nil_append, setSeg, this, List.set_cons_succ, List.getElem_cons_succ]
theorem take_at (xs : List Attr) (i : Nat) (h : i < xs.length) (r : List Attr) : xs.take (i + 1) ++ r = xs.take i ++ (xs[i] :: r) := by
  induction xs generalizing i with
  | nil => simp at h
  | cons a xs ih => cases i with
    | zero => simp
    | succ i => have := ih i (by simpa using h); simp only [List.take_succ_cons, List.cons_append, List.getElem_cons_succ, this]
theorem take_set (xs : List Attr) (i : Nat) (h : i < xs.length) (a : Attr) (r : List Attr) : (xs.set i a).take (i + 1) ++ r = xs.take i ++ (a :: r) := by
  induction xs generalizing i with
  | nil => simp at h
  | cons b xs ih => cases i with
    | zero => simp
    | succ i => have := ih i (by simpa using h); simp only [List.set_cons_succ, List.take_succ_cons, List.cons_append, this]
theorem drop_set (xs : List Attr) (i : Nat) (a : Attr) : (xs.set i a).drop (i + 1) = xs.drop (i + 1) := by
  rw [List.drop_set_of_lt]; omega
theorem Names_L0 (hX : X F_ref10_Declares = none) (hX' : X F_ref10_Scope_URI = none) (bs bn ba : Nat) (lv : List (List Attr)) (hb : ∀ l ∈ lv, l.length < 2 ^ 40) (hlv : lv.length < 2 ^ 40) (n : Nd) (N : Nat) (hN : N < 2 ^ 30) (vn : Nat) (d1 : bs ≠ bn) (d2 : ba ≠ bs) (d3 : ba ≠ bn) (ty ta : TypeId) (Q : FQ) : ∀ (m i : Nat), N - i = m → i ≤ N → ∀ (vh : VH) (xs : List Attr), xs.length = N → Sc vh bs lv → vh bn = some (.cells (encNv n (.msl ba 0 N 4 none)) ty 0 false) → vh ba = some (.cells (xs.map encA).flatten ta 0 false) →
    ((nsL lv (xs.drop i)).2 = false → ∀ vh', vh' ba = some (.cells ((xs.take i ++ (nsL lv (xs.drop i)).1).map encA).flatten ta 0 false) → (∀ c, c ≠ ba → vh' c = vh c) → Q .ret [(4, .bool false)] vh' vn) →
    ((nsL lv (xs.drop i)).2 = true → ∀ vh' i' t, vh' ba = some (.cells ((xs.take i ++ (nsL lv (xs.drop i)).1).map encA).flatten ta 0 false) → (∀ c, c ≠ ba → vh' c = vh c) → Q (.exit 0) [(0, .ptr bs 0), (1, .ptr bn 0), (6, .int .i64 i'), (36, .bool t)] vh' vn) →
    FLoop Tryz.prog X G (.loop c_ref15_Names_L0) [(0, .ptr bs 0), (1, .ptr bn 0), (6, .int .i64 (i : Int))] vh vn Q
  | m, i, hm, hi, vh, xs, hxs, hs, hn, ha, hR, hQ => by
    refine FLoop.round ?_
    repeat first | refine CondP.tt ?_ | refine CondP.ff ?_ | refine Owe.mk (by decide) ?_
    conv => whnf
    repeat ((first | refine CondP.tt ?_ | refine CondP.ff ?_ | refine Owe.mk (by decide) ?_); conv => whnf)
    refine Get.mk (_, _, _, _) hn ?_
    conv => whnf
    refine Get.mk _ rfl ?_
    conv => whnf
    repeat ((first | refine CondP.tt ?_ | refine CondP.ff ?_ | refine Owe.mk (by decide) ?_); conv => whnf)
    refine CondP.mk (fun h1 => ?_) (fun h1 => ?_)
    · have hlt : i < xs.length := by have : i < N := by simpa using h1
                                     omega
      have hiN : i < N := by omega
      have hd : xs.drop i = xs[i] :: xs.drop (i + 1) := (List.getElem_cons_drop hlt).symm
      rw [hd] at hR hQ
      simp only [nsL] at hR hQ
      have e : wr .i64 ((i : Int) + 1) = ((i + 1 : Nat) : Int) := by rw [wr64] <;> omega
      repeat first | refine CondP.tt ?_ | refine CondP.ff ?_ | refine Owe.mk (by decide) ?_
      conv => whnf
      repeat ((first | refine CondP.tt ?_ | refine CondP.ff ?_ | refine Owe.mk (by decide) ?_); conv => whnf)
      refine Get.mk (_, _, _, _) hn ?_
      conv => whnf
      refine Get.mk _ rfl ?_
      conv => whnf
      repeat ((first | refine CondP.tt ?_ | refine CondP.ff ?_ | refine Owe.mk (by decide) ?_); conv => whnf)
      refine Get.mk i ⟨rfl, hiN⟩ ?_
      repeat first | refine CondP.tt ?_ | refine CondP.ff ?_ | refine Owe.mk (by decide) ?_
      conv => whnf
      repeat ((first | refine CondP.tt ?_ | refine CondP.ff ?_ | refine Owe.mk (by decide) ?_); conv => whnf)
      refine Get.mk (_, _, _, _) ha ?_
      conv => whnf
      repeat ((first | refine CondP.tt ?_ | refine CondP.ff ?_ | refine Owe.mk (by decide) ?_); conv => whnf)
      refine Get.mk _ (encA_2 hlt) ?_
      repeat first | refine CondP.tt ?_ | refine CondP.ff ?_ | refine Owe.mk (by decide) ?_
      conv => whnf
      repeat ((first | refine CondP.tt ?_ | refine CondP.ff ?_ | refine Owe.mk (by decide) ?_); conv => whnf)
      refine CondP.mk (fun h2 => ?_) (fun h2 => ?_)
      · have h2' : xs[i].u = XMLNSURI := by simpa using h2
        have ea : nsA lv xs[i] = (xs[i], true) := by simp only [nsA, h2', if_true]
        simp only [ea, if_true] at hR hQ
        repeat first | refine CondP.tt ?_ | refine CondP.ff ?_ | refine Owe.mk (by decide) ?_
        conv => whnf
        repeat ((first | refine CondP.tt ?_ | refine CondP.ff ?_ | refine Owe.mk (by decide) ?_); conv => whnf)
        rw [e]
        refine Names_L0 hX hX' bs bn ba lv hb hlv n N hN vn d1 d2 d3 ty ta Q (m - 1) (i + 1) (by omega) (by omega) vh xs hxs hs hn ha ?_ ?_
        · rw [take_at xs i hlt]; exact hR
        · rw [take_at xs i hlt]; exact hQ
      · have h2' : ¬ xs[i].u = XMLNSURI := by simpa using h2
        have hw : ∀ f, f < 4 → 0 + i * 4 + f + 1 ≤ (xs.map encA).flatten.length := fun f hf => by have := flat_lt encA_len xs i hlt; omega
        repeat first | refine CondP.tt ?_ | refine CondP.ff ?_ | refine Owe.mk (by decide) ?_
        conv => whnf
        repeat ((first | refine CondP.tt ?_ | refine CondP.ff ?_ | refine Owe.mk (by decide) ?_); conv => whnf)
        refine Get.mk (_, _, _, _) hn ?_
        conv => whnf
        refine Get.mk _ rfl ?_
        conv => whnf
        repeat ((first | refine CondP.tt ?_ | refine CondP.ff ?_ | refine Owe.mk (by decide) ?_); conv => whnf)
        refine Get.mk i ⟨rfl, hiN⟩ ?_
        repeat first | refine CondP.tt ?_ | refine CondP.ff ?_ | refine Owe.mk (by decide) ?_
        conv => whnf
        repeat ((first | refine CondP.tt ?_ | refine CondP.ff ?_ | refine Owe.mk (by decide) ?_); conv => whnf)
        refine Get.mk (_, _, _, _) ha ?_
        conv => whnf
        repeat ((first | refine CondP.tt ?_ | refine CondP.ff ?_ | refine Owe.mk (by decide) ?_); conv => whnf)
        refine ⟨⟨hw 2 (by decide), Nat.zero_le _⟩, ?_⟩
        have ha1 : vset vh ba (.cells (setSeg (xs.map encA).flatten (0 + i * 4 + 2) [.str []]) ta 0 false) ba = some (.cells ((xs.set i { xs[i] with u := [] }).map encA).flatten ta 0 false) := by rw [vset_same, flat_set _ _ hlt]
        have hf1 : ∀ c, c ≠ ba → vset vh ba (.cells (setSeg (xs.map encA).flatten (0 + i * 4 + 2) [.str []]) ta 0 false) c = vh c := fun c hc => vset_ne hc
        have hn1 := (hf1 bn (Ne.symm d3)).trans hn
        have hs1 : Sc (vset vh ba (.cells (setSeg (xs.map encA).flatten (0 + i * 4 + 2) [.str []]) ta 0 false)) bs lv := by obtain ⟨t, hs⟩ := hs; exact ⟨t, (hf1 bs (Ne.symm d2)).trans hs⟩
        repeat first | refine CondP.tt ?_ | refine CondP.ff ?_ | refine Owe.mk (by decide) ?_
        conv => whnf
        repeat ((first | refine CondP.tt ?_ | refine CondP.ff ?_ | refine Owe.mk (by decide) ?_); conv => whnf)
        generalize vset vh ba _ = vh1 at ha1 hf1 hn1 hs1
        have hl1 : (xs.set i { xs[i] with u := [] }).length = N := by rw [List.length_set]; exact hxs
        have hlt1 : i < (xs.set i { xs[i] with u := [] }).length := by omega
        have hg1 : (xs.set i { xs[i] with u := [] })[i] = { xs[i] with u := [] } := by simp
        refine Get.mk (_, _, _, _) hn1 ?_
        conv => whnf
        refine Get.mk _ rfl ?_
        conv => whnf
        repeat ((first | refine CondP.tt ?_ | refine CondP.ff ?_ | refine Owe.mk (by decide) ?_); conv => whnf)
        refine Get.mk i ⟨rfl, hiN⟩ ?_
        repeat first | refine CondP.tt ?_ | refine CondP.ff ?_ | refine Owe.mk (by decide) ?_
        conv => whnf
        repeat ((first | refine CondP.tt ?_ | refine CondP.ff ?_ | refine Owe.mk (by decide) ?_); conv => whnf)
        refine Get.mk (_, _, _, _) ha1 ?_
        conv => whnf
        repeat ((first | refine CondP.tt ?_ | refine CondP.ff ?_ | refine Owe.mk (by decide) ?_); conv => whnf)
        refine Get.mk _ (encA_0 hlt1) ?_
        repeat first | refine CondP.tt ?_ | refine CondP.ff ?_ | refine Owe.mk (by decide) ?_
        conv => whnf
        repeat ((first | refine CondP.tt ?_ | refine CondP.ff ?_ | refine Owe.mk (by decide) ?_); conv => whnf)
        refine CondP.mk (fun h3 => ?_) (fun h3 => ?_)
        · have h3' : xs[i].p = [] := by simpa [hg1] using h3
          have ea : nsA lv xs[i] = ({ xs[i] with u := [] }, true) := by simp only [nsA, h2', h3', if_false, if_true]
          simp only [ea, if_true] at hR hQ
          repeat first | refine CondP.tt ?_ | refine CondP.ff ?_ | refine Owe.mk (by decide) ?_
          conv => whnf
          repeat ((first | refine CondP.tt ?_ | refine CondP.ff ?_ | refine Owe.mk (by decide) ?_); conv => whnf)
          rw [e]
          refine Names_L0 hX hX' bs bn ba lv hb hlv n N hN vn d1 d2 d3 ty ta Q (m - 1) (i + 1) (by omega) (by omega) vh1 _ hl1 hs1 hn1 ha1 ?_ ?_
          · rw [take_set xs i hlt, drop_set]; exact fun h vh' h1 h2 => hR h vh' h1 fun c hc => (h2 c hc).trans (hf1 c hc)
          · rw [take_set xs i hlt, drop_set]; exact fun h vh' i' t h1 h2 => hQ h vh' i' t h1 fun c hc => (h2 c hc).trans (hf1 c hc)
        · have h3' : ¬ xs[i].p = [] := by simpa [hg1] using h3
          have ea : nsA lv xs[i] = ({ xs[i] with u := (uriP lv xs[i].p).1 }, (uriP lv xs[i].p).2) := by simp only [nsA, h2', h3', if_false]
          repeat first | refine CondP.tt ?_ | refine CondP.ff ?_ | refine Owe.mk (by decide) ?_
          conv => whnf
          repeat ((first | refine CondP.tt ?_ | refine CondP.ff ?_ | refine Owe.mk (by decide) ?_); conv => whnf)
          refine Get.mk (_, _, _, _) hn1 ?_
          conv => whnf
          refine Get.mk _ rfl ?_
          conv => whnf
          repeat ((first | refine CondP.tt ?_ | refine CondP.ff ?_ | refine Owe.mk (by decide) ?_); conv => whnf)
          refine Get.mk (_, _, _, _) hn1 ?_
          conv => whnf
          refine Get.mk _ rfl ?_
          conv => whnf
          repeat ((first | refine CondP.tt ?_ | refine CondP.ff ?_ | refine Owe.mk (by decide) ?_); conv => whnf)
          refine Get.mk i ⟨rfl, hiN⟩ ?_
          repeat first | refine CondP.tt ?_ | refine CondP.ff ?_ | refine Owe.mk (by decide) ?_
          conv => whnf
          repeat ((first | refine CondP.tt ?_ | refine CondP.ff ?_ | refine Owe.mk (by decide) ?_); conv => whnf)
          refine Get.mk (_, _, _, _) ha1 ?_
          conv => whnf
          repeat ((first | refine CondP.tt ?_ | refine CondP.ff ?_ | refine Owe.mk (by decide) ?_); conv => whnf)
          refine Get.mk (.str xs[i].p) ((encA_0 hlt1).trans (by rw [hg1])) ?_
          repeat first | refine CondP.tt ?_ | refine CondP.ff ?_ | refine Owe.mk (by decide) ?_
          conv => whnf
          repeat ((first | refine CondP.tt ?_ | refine CondP.ff ?_ | refine Owe.mk (by decide) ?_); conv => whnf)
          clear hd h1 h2 h3
          refine (URI_ok hX hX' bs lv _ vh1 vn hs1 hb hlv).mono fun v vh' vn' he => ?_
          obtain ⟨e1, e2, e3⟩ := he
          subst e1; subst e2; subst e3
          repeat first | refine CondP.tt ?_ | refine CondP.ff ?_ | refine Owe.mk (by decide) ?_
          conv => whnf
          repeat ((first | refine CondP.tt ?_ | refine CondP.ff ?_ | refine Owe.mk (by decide) ?_); conv => whnf)
          refine ⟨⟨rfl, ?_⟩, ?_⟩
          · conv => whnf
            refine Get.mk (_, _, _, _) hn1 ?_
            conv => whnf
            refine Get.mk _ rfl ?_
            conv => whnf
            repeat ((first | refine CondP.tt ?_ | refine CondP.ff ?_ | refine Owe.mk (by decide) ?_); conv => whnf)
          repeat first | refine CondP.tt ?_ | refine CondP.ff ?_ | refine Owe.mk (by decide) ?_
          conv => whnf
          repeat ((first | refine CondP.tt ?_ | refine CondP.ff ?_ | refine Owe.mk (by decide) ?_); conv => whnf)
          refine Get.mk i ⟨rfl, hiN⟩ ?_
          repeat first | refine CondP.tt ?_ | refine CondP.ff ?_ | refine Owe.mk (by decide) ?_
          conv => whnf
          repeat ((first | refine CondP.tt ?_ | refine CondP.ff ?_ | refine Owe.mk (by decide) ?_); conv => whnf)
          refine Get.mk (_, _, _, _) ha1 ?_
          conv => whnf
          repeat ((first | refine CondP.tt ?_ | refine CondP.ff ?_ | refine Owe.mk (by decide) ?_); conv => whnf)
          have hw1 : 0 + i * 4 + 2 + 1 ≤ ((xs.set i { xs[i] with u := [] }).map encA).flatten.length := by have := flat_lt encA_len _ i hlt1; omega
          refine ⟨⟨hw1, Nat.zero_le _⟩, ?_⟩
          have ha2 : vset vh' ba (.cells (setSeg ((xs.set i { xs[i] with u := [] }).map encA).flatten (0 + i * 4 + 2) [.str (uriP lv xs[i].p).1]) ta 0 false) ba = some (.cells ((xs.set i { xs[i] with u := (uriP lv xs[i].p).1 }).map encA).flatten ta 0 false) := by
            rw [vset_same, flat_set _ _ hlt1, hg1, List.set_set]
          have hf2 : ∀ c, c ≠ ba → vset vh' ba (.cells (setSeg ((xs.set i { xs[i] with u := [] }).map encA).flatten (0 + i * 4 + 2) [.str (uriP lv xs[i].p).1]) ta 0 false) c = vh c := fun c hc => (vset_ne hc).trans (hf1 c hc)
          have hn2 := (hf2 bn (Ne.symm d3)).trans hn
          have hs2 : Sc (vset vh' ba (.cells (setSeg ((xs.set i { xs[i] with u := [] }).map encA).flatten (0 + i * 4 + 2) [.str (uriP lv xs[i].p).1]) ta 0 false)) bs lv := by obtain ⟨t, hs⟩ := hs; exact ⟨t, (hf2 bs (Ne.symm d2)).trans hs⟩
          have hl2 : (xs.set i { xs[i] with u := (uriP lv xs[i].p).1 }).length = N := by rw [List.length_set]; exact hxs
          repeat first | refine CondP.tt ?_ | refine CondP.ff ?_ | refine Owe.mk (by decide) ?_
          conv => whnf
          repeat ((first | refine CondP.tt ?_ | refine CondP.ff ?_ | refine Owe.mk (by decide) ?_); conv => whnf)
          generalize vset vh' ba _ = vh2 at ha2 hf2 hn2 hs2
          refine CondP.mk (fun h4 => ?_) (fun h4 => ?_)
          · have h4' : (uriP lv xs[i].p).2 = false := by simpa using h4
            rw [h4'] at ea
            simp only [ea, Bool.false_eq_true, if_false] at hR hQ
            repeat first | refine CondP.tt ?_ | refine CondP.ff ?_ | refine Owe.mk (by decide) ?_
            conv => whnf
            repeat ((first | refine CondP.tt ?_ | refine CondP.ff ?_ | refine Owe.mk (by decide) ?_); conv => whnf)
            refine hR trivial vh2 ?_ hf2
            rw [ha2, ← take_set xs i hlt, ← drop_set xs i { xs[i] with u := (uriP lv xs[i].p).1 }, List.take_append_drop]
          · have h4' : (uriP lv xs[i].p).2 = true := by simpa using h4
            rw [h4'] at ea
            simp only [ea, if_true] at hR hQ
            repeat first | refine CondP.tt ?_ | refine CondP.ff ?_ | refine Owe.mk (by decide) ?_
            conv => whnf
            repeat ((first | refine CondP.tt ?_ | refine CondP.ff ?_ | refine Owe.mk (by decide) ?_); conv => whnf)
            rw [e]
            refine Names_L0 hX hX' bs bn ba lv hb hlv n N hN _ d1 d2 d3 ty ta Q (m - 1) (i + 1) (by omega) (by omega) vh2 _ hl2 hs2 hn2 ha2 ?_ ?_
            · rw [take_set xs i hlt, drop_set]; exact fun h vh' h1 h2 => hR h vh' h1 fun c hc => (h2 c hc).trans (hf2 c hc)
            · rw [take_set xs i hlt, drop_set]; exact fun h vh' i' t h1 h2 => hQ h vh' i' t h1 fun c hc => (h2 c hc).trans (hf2 c hc)
    · have hlt : i = N := by simp at h1; omega
      have e1 : xs.drop i = [] := by rw [hlt, ← hxs, List.drop_length]
      have e2 : xs.take i = xs := by rw [hlt, ← hxs, List.take_length]
      rw [e1, e2] at hQ
      repeat first | refine CondP.tt ?_ | refine CondP.ff ?_ | refine Owe.mk (by decide) ?_
      conv => whnf
      repeat ((first | refine CondP.tt ?_ | refine CondP.ff ?_ | refine Owe.mk (by decide) ?_); conv => whnf)
      exact hQ rfl vh _ _ (by simpa [nsL] using ha) fun _ _ => rfl
termination_by m => m
decreasing_by all_goals omega
end Go.Proofs.YtpcbnpekdmobpaaGreatDoor

open Go Go.Ev Go.VL
namespace Go.Proofs.YtpcbnpekdmobpaaGreatDoor
attribute [local irreducible] fApp
variable {X : Ovr} {G : Gt}
def sameU (a b : Attr) : Bool := decide (a.u = b.u) && decide (a.l = b.l)
def twiceL : List Attr → List Attr → Bool
  | _, [] => false
  | pre, a :: l => pre.any (fun b => sameU b a) || twiceL (pre ++ [a]) l
theorem Names_L2 (bn ba : Nat) (n : Nd) (xs : List Attr) (hN : xs.length < 2 ^ 30) (vh : VH) (vn : Nat) (ty ta : TypeId) (hn : vh bn = some (.cells (encNv n (.msl ba 0 xs.length 4 none)) ty 0 false)) (ha : vh ba = some (.cells (xs.map encA).flatten ta 0 false)) (i : Nat) (hi : i < xs.length) (Q : FQ) : ∀ (m k : Nat), i - k = m → k ≤ i →
    (((xs.take i).drop k).any (fun b => sameU b xs[i]) = true → Q .ret [(4, .bool false)] vh vn) →
    (((xs.take i).drop k).any (fun b => sameU b xs[i]) = false → ∀ k' t, Q (.exit 4) [(1, .ptr bn 0), (7, .int .i64 (i : Int)), (8, .int .i64 k'), (97, .bool t)] vh vn) →
    FLoop Tryz.prog X G (.loop c_ref15_Names_L2) [(1, .ptr bn 0), (7, .int .i64 (i : Int)), (8, .int .i64 (k : Int))] vh vn Q
  | m, k, hm, hk, hR, hQ => by
    refine FLoop.round ?_
    repeat first | refine CondP.tt ?_ | refine CondP.ff ?_ | refine Owe.mk (by decide) ?_
    conv => whnf
    repeat ((first | refine CondP.tt ?_ | refine CondP.ff ?_ | refine Owe.mk (by decide) ?_); conv => whnf)
    refine CondP.mk (fun h1 => ?_) (fun h1 => ?_)
    · have hlt : k < i := by simpa using h1
      have hkx : k < xs.length := by omega
      have hd : (xs.take i).drop k = xs[k] :: (xs.take i).drop (k + 1) := by
        rw [← List.getElem_cons_drop (by simp; omega : k < (xs.take i).length), List.getElem_take]
      rw [hd, List.any_cons] at hR hQ
      have e : wr .i64 ((k : Int) + 1) = ((k + 1 : Nat) : Int) := by rw [wr64] <;> omega
      repeat first | refine CondP.tt ?_ | refine CondP.ff ?_ | refine Owe.mk (by decide) ?_
      conv => whnf
      repeat ((first | refine CondP.tt ?_ | refine CondP.ff ?_ | refine Owe.mk (by decide) ?_); conv => whnf)
      refine Get.mk (_, _, _, _) hn ?_
      conv => whnf
      refine Get.mk _ rfl ?_
      conv => whnf
      repeat ((first | refine CondP.tt ?_ | refine CondP.ff ?_ | refine Owe.mk (by decide) ?_); conv => whnf)
      refine Get.mk _ ⟨rfl, hkx⟩ ?_
      conv => whnf
      repeat ((first | refine CondP.tt ?_ | refine CondP.ff ?_ | refine Owe.mk (by decide) ?_); conv => whnf)
      refine Get.mk (_, _, _, _) ha ?_
      conv => whnf
      refine Get.mk _ (encA_2 hkx) ?_
      conv => whnf
      repeat ((first | refine CondP.tt ?_ | refine CondP.ff ?_ | refine Owe.mk (by decide) ?_); conv => whnf)
      refine Get.mk (_, _, _, _) hn ?_
      conv => whnf
      refine Get.mk _ rfl ?_
      conv => whnf
      repeat ((first | refine CondP.tt ?_ | refine CondP.ff ?_ | refine Owe.mk (by decide) ?_); conv => whnf)
      refine Get.mk _ ⟨rfl, hi⟩ ?_
      conv => whnf
      repeat ((first | refine CondP.tt ?_ | refine CondP.ff ?_ | refine Owe.mk (by decide) ?_); conv => whnf)
      refine Get.mk (_, _, _, _) ha ?_
      conv => whnf
      refine Get.mk _ (encA_2 hi) ?_
      conv => whnf
      repeat ((first | refine CondP.tt ?_ | refine CondP.ff ?_ | refine Owe.mk (by decide) ?_); conv => whnf)
      refine CondP.mk (fun h2 => ?_) (fun h2 => ?_)
      · simp at h2
        repeat first | refine CondP.tt ?_ | refine CondP.ff ?_ | refine Owe.mk (by decide) ?_
        conv => whnf
        repeat ((first | refine CondP.tt ?_ | refine CondP.ff ?_ | refine Owe.mk (by decide) ?_); conv => whnf)
        refine Get.mk (_, _, _, _) hn ?_
        conv => whnf
        refine Get.mk _ rfl ?_
        conv => whnf
        repeat ((first | refine CondP.tt ?_ | refine CondP.ff ?_ | refine Owe.mk (by decide) ?_); conv => whnf)
        refine Get.mk _ ⟨rfl, hkx⟩ ?_
        conv => whnf
        repeat ((first | refine CondP.tt ?_ | refine CondP.ff ?_ | refine Owe.mk (by decide) ?_); conv => whnf)
        refine Get.mk (_, _, _, _) ha ?_
        conv => whnf
        refine Get.mk _ (encA_1 hkx) ?_
        conv => whnf
        repeat ((first | refine CondP.tt ?_ | refine CondP.ff ?_ | refine Owe.mk (by decide) ?_); conv => whnf)
        refine Get.mk (_, _, _, _) hn ?_
        conv => whnf
        refine Get.mk _ rfl ?_
        conv => whnf
        repeat ((first | refine CondP.tt ?_ | refine CondP.ff ?_ | refine Owe.mk (by decide) ?_); conv => whnf)
        refine Get.mk _ ⟨rfl, hi⟩ ?_
        conv => whnf
        repeat ((first | refine CondP.tt ?_ | refine CondP.ff ?_ | refine Owe.mk (by decide) ?_); conv => whnf)
        refine Get.mk (_, _, _, _) ha ?_
        conv => whnf
        refine Get.mk _ (encA_1 hi) ?_
        conv => whnf
        repeat ((first | refine CondP.tt ?_ | refine CondP.ff ?_ | refine Owe.mk (by decide) ?_); conv => whnf)
        refine CondP.mk (fun h3 => ?_) (fun h3 => ?_)
        · simp at h3
          have hs : sameU xs[k] xs[i] = true := by simp [sameU, h2, h3]
          repeat first | refine CondP.tt ?_ | refine CondP.ff ?_ | refine Owe.mk (by decide) ?_
          conv => whnf
          repeat ((first | refine CondP.tt ?_ | refine CondP.ff ?_ | refine Owe.mk (by decide) ?_); conv => whnf)
          exact hR (by rw [hs]; rfl)
        · simp at h3
          have hs : sameU xs[k] xs[i] = false := by simp [sameU, h3]
          rw [hs, Bool.false_or] at hR hQ
          repeat first | refine CondP.tt ?_ | refine CondP.ff ?_ | refine Owe.mk (by decide) ?_
          conv => whnf
          repeat ((first | refine CondP.tt ?_ | refine CondP.ff ?_ | refine Owe.mk (by decide) ?_); conv => whnf)
          rw [e]
          exact Names_L2 bn ba n xs hN vh vn ty ta hn ha i hi Q (m - 1) (k + 1) (by omega) (by omega) hR hQ
      · simp at h2
        have hs : sameU xs[k] xs[i] = false := by simp [sameU, h2]
        rw [hs, Bool.false_or] at hR hQ
        repeat first | refine CondP.tt ?_ | refine CondP.ff ?_ | refine Owe.mk (by decide) ?_
        conv => whnf
        repeat ((first | refine CondP.tt ?_ | refine CondP.ff ?_ | refine Owe.mk (by decide) ?_); conv => whnf)
        rw [e]
        exact Names_L2 bn ba n xs hN vh vn ty ta hn ha i hi Q (m - 1) (k + 1) (by omega) (by omega) hR hQ
    · have hlt : k = i := by simp at h1; omega
      have e1 : (xs.take i).drop k = [] := List.drop_eq_nil_of_le (by simp; omega)
      rw [e1] at hQ
      repeat first | refine CondP.tt ?_ | refine CondP.ff ?_ | refine Owe.mk (by decide) ?_
      conv => whnf
      repeat ((first | refine CondP.tt ?_ | refine CondP.ff ?_ | refine Owe.mk (by decide) ?_); conv => whnf)
      exact hQ rfl _ _
termination_by m => m
decreasing_by all_goals omega
theorem Names_L1 (bn ba : Nat) (n : Nd) (xs : List Attr) (hN : xs.length < 2 ^ 30) (vh : VH) (vn : Nat) (ty ta : TypeId) (hn : vh bn = some (.cells (encNv n (.msl ba 0 xs.length 4 none)) ty 0 false)) (ha : vh ba = some (.cells (xs.map encA).flatten ta 0 false)) (Q : FQ) : ∀ (m i : Nat), xs.length - i = m → i ≤ xs.length →
    (twiceL (xs.take i) (xs.drop i) = true → Q .ret [(4, .bool false)] vh vn) →
    (twiceL (xs.take i) (xs.drop i) = false → ∀ i' t, Q (.exit 2) [(1, .ptr bn 0), (7, .int .i64 i'), (92, .bool t)] vh vn) →
    FLoop Tryz.prog X G (.loop c_ref15_Names_L1) [(1, .ptr bn 0), (7, .int .i64 (i : Int))] vh vn Q
  | m, i, hm, hi, hR, hQ => by
    refine FLoop.round ?_
    repeat first | refine CondP.tt ?_ | refine CondP.ff ?_ | refine Owe.mk (by decide) ?_
    conv => whnf
    repeat ((first | refine CondP.tt ?_ | refine CondP.ff ?_ | refine Owe.mk (by decide) ?_); conv => whnf)
    refine Get.mk (_, _, _, _) hn ?_
    conv => whnf
    refine Get.mk _ rfl ?_
    conv => whnf
    repeat ((first | refine CondP.tt ?_ | refine CondP.ff ?_ | refine Owe.mk (by decide) ?_); conv => whnf)
    refine CondP.mk (fun h1 => ?_) (fun h1 => ?_)
    · have hlt : i < xs.length := by simpa using h1
      have hd : xs.drop i = xs[i] :: xs.drop (i + 1) := (List.getElem_cons_drop hlt).symm
      have ht : xs.take i ++ [xs[i]] = xs.take (i + 1) := by have := take_at xs i hlt []; simpa using this.symm
      rw [hd] at hR hQ
      simp only [twiceL, ht] at hR hQ
      have e : wr .i64 ((i : Int) + 1) = ((i + 1 : Nat) : Int) := by rw [wr64] <;> omega
      repeat first | refine CondP.tt ?_ | refine CondP.ff ?_ | refine Owe.mk (by decide) ?_
      conv => whnf
      repeat ((first | refine CondP.tt ?_ | refine CondP.ff ?_ | refine Owe.mk (by decide) ?_); conv => whnf)
      refine Names_L2 bn ba n xs hN vh vn ty ta hn ha i hlt _ i 0 (by omega) (Nat.zero_le _) (fun h => ?_) (fun h k' t => ?_)
      · rw [List.drop_zero] at h
        exact hR (by rw [h]; rfl)
      · rw [List.drop_zero] at h
        rw [h, Bool.false_or] at hR hQ
        repeat first | refine CondP.tt ?_ | refine CondP.ff ?_ | refine Owe.mk (by decide) ?_
        conv => whnf
        repeat ((first | refine CondP.tt ?_ | refine CondP.ff ?_ | refine Owe.mk (by decide) ?_); conv => whnf)
        rw [e]
        exact Names_L1 bn ba n xs hN vh vn ty ta hn ha Q (m - 1) (i + 1) (by omega) (by omega) hR hQ
    · have hlt : i = xs.length := by simp at h1; omega
      rw [hlt, List.drop_length] at hQ
      repeat first | refine CondP.tt ?_ | refine CondP.ff ?_ | refine Owe.mk (by decide) ?_
      conv => whnf
      repeat ((first | refine CondP.tt ?_ | refine CondP.ff ?_ | refine Owe.mk (by decide) ?_); conv => whnf)
      exact hQ rfl _ _
termination_by m => m
decreasing_by all_goals omega
end Go.Proofs.YtpcbnpekdmobpaaGreatDoor

open Go Go.Ev Go.VL
namespace Go.Proofs.YtpcbnpekdmobpaaGreatDoor
attribute [local irreducible] fApp
variable {X : Ovr} {G : Gt}
def namesP (lv : List (List Attr)) (n : Nd) : Nd × Bool :=
  if (uriP lv n.p).2 = false ∨ n.p = S_xmlns then ({ n with u := (uriP lv n.p).1 }, false)
  else ({ n with u := (uriP lv n.p).1, s := (nsL lv n.s).1 }, (nsL lv n.s).2 && !twiceL [] (nsL lv n.s).1)

def NdAt (vh : VH) (b : Nat) (n : Nd) (av : V) : Prop := ∃ ty, vh b = some (.cells (encNv n av) ty 0 false)
theorem nsL_len (lv : List (List Attr)) : ∀ xs : List Attr, (nsL lv xs).1.length = xs.length
  | [] => rfl
  | a :: l => by
    simp only [nsL]
    split
    · simp [nsL_len lv l]
    · simp
theorem Names_ok (hX : X F_ref10_Declares = none) (hX' : X F_ref10_Scope_URI = none) (hX2 : X F_ref15_Names = none) (bs bn : Nat) (lv : List (List Attr)) (hb : ∀ l ∈ lv, l.length < 2 ^ 40) (hlv : lv.length < 2 ^ 40) (n : Nd) (av : V) (hN : n.s.length < 2 ^ 30) (vh : VH) (vn : Nat)
    (d1 : bs ≠ bn) (d2 : ¬ blkOf av bs) (d3 : ¬ blkOf av bn) (hs : Sc vh bs lv) (hn : NdAt vh bn n av) (ha : SlR encA 4 vh av n.s) :
    WpCall Tryz.prog X G F_ref15_Names [.ptr bs 0, .ptr bn 0] vh vn fun v vh' vn' => vn' = vn ∧ v = .bool (namesP lv n).2 ∧ NdAt vh' bn (namesP lv n).1 av ∧ SlR encA 4 vh' av (namesP lv n).1.s ∧ ∀ c, c ≠ bn → ¬ blkOf av c → vh' c = vh c := by
  obtain ⟨ty, hn⟩ := hn
  apply k_ref15_Names.run hX2
  repeat first | refine CondP.tt ?_ | refine CondP.ff ?_ | refine Owe.mk (by decide) ?_
  conv => whnf
  repeat ((first | refine CondP.tt ?_ | refine CondP.ff ?_ | refine Owe.mk (by decide) ?_); conv => whnf)
  refine Get.mk (_, _, _, _) hn ?_
  conv => whnf
  refine Get.mk _ rfl ?_
  conv => whnf
  repeat ((first | refine CondP.tt ?_ | refine CondP.ff ?_ | refine Owe.mk (by decide) ?_); conv => whnf)
  refine (URI_ok hX hX' bs lv n.p vh vn hs hb hlv).mono fun v vh' vn' he => ?_
  obtain ⟨e1, e2, e3⟩ := he
  subst e1; subst e2; subst e3
  repeat first | refine CondP.tt ?_ | refine CondP.ff ?_ | refine Owe.mk (by decide) ?_
  conv => whnf
  repeat ((first | refine CondP.tt ?_ | refine CondP.ff ?_ | refine Owe.mk (by decide) ?_); conv => whnf)
  refine Get.mk (_, _, _, _) hn ?_
  conv => whnf
  repeat ((first | refine CondP.tt ?_ | refine CondP.ff ?_ | refine Owe.mk (by decide) ?_); conv => whnf)
  refine ⟨⟨by simp [encNv], Nat.zero_le _⟩, ?_⟩
  repeat first | refine CondP.tt ?_ | refine CondP.ff ?_ | refine Owe.mk (by decide) ?_
  conv => whnf
  repeat ((first | refine CondP.tt ?_ | refine CondP.ff ?_ | refine Owe.mk (by decide) ?_); conv => whnf)
  generalize hv : vset vh' bn _ = vh1
  have hn1 : vh1 bn = some (.cells (encNv { n with u := (uriP lv n.p).1 } av) ty 0 false) := by rw [← hv]; exact vset_same
  have hf1 : ∀ c, c ≠ bn → vh1 c = vh' c := fun c hc => by rw [← hv]; exact vset_ne hc
  have hs1 : Sc vh1 bs lv := by obtain ⟨t, hs⟩ := hs; exact ⟨t, (hf1 bs d1).trans hs⟩
  clear hv
  have fail : ∀ (hc : (uriP lv n.p).2 = false ∨ n.p = S_xmlns), ∃ vh2, vh2 = vh1 ∧ (vn' = vn' ∧ V.bool false = V.bool (namesP lv n).2 ∧ NdAt vh2 bn (namesP lv n).1 av ∧ SlR encA 4 vh2 av (namesP lv n).1.s ∧ ∀ c, c ≠ bn → ¬ blkOf av c → vh2 c = vh' c) := fun hc => by
    refine ⟨vh1, rfl, rfl, by simp only [namesP, if_pos hc], ⟨ty, by simp only [namesP, if_pos hc]; exact hn1⟩, ?_, fun c hc _ => hf1 c hc⟩
    simp only [namesP, if_pos hc]
    rcases ha with h | h | ⟨ba, ta, rfl, h2⟩
    · exact .inl h
    · exact .inr (.inl h)
    · exact .inr (.inr ⟨ba, ta, rfl, (hf1 ba fun h => d3 h.symm).trans h2⟩)
  refine CondP.mk (fun h1 => ?_) (fun h1 => ?_)
  · have h1' : (uriP lv n.p).2 = false := by simpa using h1
    repeat first | refine CondP.tt ?_ | refine CondP.ff ?_ | refine Owe.mk (by decide) ?_
    conv => whnf
    repeat ((first | refine CondP.tt ?_ | refine CondP.ff ?_ | refine Owe.mk (by decide) ?_); conv => whnf)
    obtain ⟨_, rfl, hf⟩ := fail (.inl h1')
    exact Get.mk _ (fun _ _ h => h) hf
  · have h1' : (uriP lv n.p).2 = true := by simpa using h1
    repeat first | refine CondP.tt ?_ | refine CondP.ff ?_ | refine Owe.mk (by decide) ?_
    conv => whnf
    repeat ((first | refine CondP.tt ?_ | refine CondP.ff ?_ | refine Owe.mk (by decide) ?_); conv => whnf)
    refine Get.mk (_, _, _, _) hn1 ?_
    conv => whnf
    refine Get.mk _ rfl ?_
    conv => whnf
    repeat ((first | refine CondP.tt ?_ | refine CondP.ff ?_ | refine Owe.mk (by decide) ?_); conv => whnf)
    refine CondP.mk (fun h2 => ?_) (fun h2 => ?_)
    · have h2' : n.p = S_xmlns := by simpa using h2
      repeat first | refine CondP.tt ?_ | refine CondP.ff ?_ | refine Owe.mk (by decide) ?_
      conv => whnf
      repeat ((first | refine CondP.tt ?_ | refine CondP.ff ?_ | refine Owe.mk (by decide) ?_); conv => whnf)
      obtain ⟨_, rfl, hf⟩ := fail (.inr h2')
      exact Get.mk _ (fun _ _ h => h) hf
    · have h2' : ¬ n.p = S_xmlns := by simpa using h2
      have hc : ¬ ((uriP lv n.p).2 = false ∨ n.p = S_xmlns) := by rw [h1']; simp [h2']
      clear fail
      repeat first | refine CondP.tt ?_ | refine CondP.ff ?_ | refine Owe.mk (by decide) ?_
      conv => whnf
      repeat ((first | refine CondP.tt ?_ | refine CondP.ff ?_ | refine Owe.mk (by decide) ?_); conv => whnf)
      rcases id ha with ⟨h0, rfl⟩ | ⟨h0, rfl⟩ | ⟨ba, ta, rfl, ha2⟩
      · refine FLoop.round ?_
        repeat first | refine CondP.tt ?_ | refine CondP.ff ?_ | refine Owe.mk (by decide) ?_
        conv => whnf
        repeat ((first | refine CondP.tt ?_ | refine CondP.ff ?_ | refine Owe.mk (by decide) ?_); conv => whnf)
        refine Get.mk (_, _, _, _) hn1 ?_
        conv => whnf
        refine Get.mk _ rfl ?_
        conv => whnf
        repeat ((first | refine CondP.tt ?_ | refine CondP.ff ?_ | refine Owe.mk (by decide) ?_); conv => whnf)
        refine FLoop.round ?_
        repeat first | refine CondP.tt ?_ | refine CondP.ff ?_ | refine Owe.mk (by decide) ?_
        conv => whnf
        repeat ((first | refine CondP.tt ?_ | refine CondP.ff ?_ | refine Owe.mk (by decide) ?_); conv => whnf)
        refine Get.mk (_, _, _, _) hn1 ?_
        conv => whnf
        refine Get.mk _ rfl ?_
        conv => whnf
        repeat ((first | refine CondP.tt ?_ | refine CondP.ff ?_ | refine Owe.mk (by decide) ?_); conv => whnf)
        refine Get.mk _ (fun _ _ h => h) ⟨rfl, ?_, ⟨ty, ?_⟩, ?_, fun c hc _ => hf1 c hc⟩
        · simp [namesP, hc, h0, nsL, twiceL]
        · simp only [namesP, if_neg hc]; exact hn1
        · simp only [namesP, if_neg hc, h0, nsL]; exact .inl ⟨rfl, rfl⟩
      · refine FLoop.round ?_
        repeat first | refine CondP.tt ?_ | refine CondP.ff ?_ | refine Owe.mk (by decide) ?_
        conv => whnf
        repeat ((first | refine CondP.tt ?_ | refine CondP.ff ?_ | refine Owe.mk (by decide) ?_); conv => whnf)
        refine Get.mk (_, _, _, _) hn1 ?_
        conv => whnf
        refine Get.mk _ rfl ?_
        conv => whnf
        repeat ((first | refine CondP.tt ?_ | refine CondP.ff ?_ | refine Owe.mk (by decide) ?_); conv => whnf)
        refine FLoop.round ?_
        repeat first | refine CondP.tt ?_ | refine CondP.ff ?_ | refine Owe.mk (by decide) ?_
        conv => whnf
        repeat ((first | refine CondP.tt ?_ | refine CondP.ff ?_ | refine Owe.mk (by decide) ?_); conv => whnf)
        refine Get.mk (_, _, _, _) hn1 ?_
        conv => whnf
        refine Get.mk _ rfl ?_
        conv => whnf
        repeat ((first | refine CondP.tt ?_ | refine CondP.ff ?_ | refine Owe.mk (by decide) ?_); conv => whnf)
        refine Get.mk _ (fun _ _ h => h) ⟨rfl, ?_, ⟨ty, ?_⟩, ?_, fun c hc _ => hf1 c hc⟩
        · simp [namesP, hc, h0, nsL, twiceL]
        · simp only [namesP, if_neg hc]; exact hn1
        · simp only [namesP, if_neg hc, h0, nsL]; exact .inr (.inl ⟨rfl, rfl⟩)
      · have e1 : ba ≠ bs := fun h => d2 h.symm
        have e2 : ba ≠ bn := fun h => d3 h.symm
        have ha3 : vh1 ba = some (.cells (n.s.map encA).flatten ta 0 false) := (hf1 ba e2).trans ha2
        refine Names_L0 hX hX' bs bn ba lv hb hlv _ n.s.length hN _ d1 e1 e2 ty ta _ n.s.length 0 rfl (Nat.zero_le _) vh1 n.s rfl hs1 hn1 ha3 (fun h vh2 a2 f2 => ?_) (fun h vh2 i' t a2 f2 => ?_)
        · rw [List.drop_zero] at h a2
          repeat first | refine CondP.tt ?_ | refine CondP.ff ?_ | refine Owe.mk (by decide) ?_
          conv => whnf
          repeat ((first | refine CondP.tt ?_ | refine CondP.ff ?_ | refine Owe.mk (by decide) ?_); conv => whnf)
          refine Get.mk _ (fun _ _ h => h) ⟨rfl, ?_, ⟨ty, ?_⟩, ?_, fun c hc hca => (f2 c hca).trans (hf1 c hc)⟩
          · simp [namesP, hc, h]
          · simp only [namesP, if_neg hc]; exact (f2 bn (Ne.symm e2)).trans hn1
          · simp only [namesP, if_neg hc]; exact .inr (.inr ⟨ba, ta, by rw [nsL_len], a2⟩)
        · rw [List.drop_zero] at h a2
          have a2' : vh2 ba = some (.cells ((nsL lv n.s).1.map encA).flatten ta 0 false) := a2
          have hn2 : vh2 bn = some (.cells (encNv { n with u := (uriP lv n.p).1 } (.msl ba 0 (nsL lv n.s).1.length 4 none)) ty 0 false) := by rw [nsL_len]; exact (f2 bn (Ne.symm e2)).trans hn1
          repeat first | refine CondP.tt ?_ | refine CondP.ff ?_ | refine Owe.mk (by decide) ?_
          conv => whnf
          repeat ((first | refine CondP.tt ?_ | refine CondP.ff ?_ | refine Owe.mk (by decide) ?_); conv => whnf)
          refine Names_L1 bn ba _ (nsL lv n.s).1 (by rw [nsL_len]; exact hN) vh2 _ ty ta hn2 a2' _ _ 0 rfl (Nat.zero_le _) (fun h3 => ?_) (fun h3 i2 t2 => ?_)
          · rw [List.drop_zero, List.take_zero] at h3
            repeat first | refine CondP.tt ?_ | refine CondP.ff ?_ | refine Owe.mk (by decide) ?_
            conv => whnf
            repeat ((first | refine CondP.tt ?_ | refine CondP.ff ?_ | refine Owe.mk (by decide) ?_); conv => whnf)
            refine Get.mk _ (fun _ _ h => h) ⟨rfl, ?_, ⟨ty, ?_⟩, ?_, fun c hc hca => (f2 c hca).trans (hf1 c hc)⟩
            · simp [namesP, hc, h, h3]
            · simp only [namesP, if_neg hc]; exact (f2 bn (Ne.symm e2)).trans hn1
            · simp only [namesP, if_neg hc]; exact .inr (.inr ⟨ba, ta, by rw [nsL_len], a2'⟩)
          · rw [List.drop_zero, List.take_zero] at h3
            repeat first | refine CondP.tt ?_ | refine CondP.ff ?_ | refine Owe.mk (by decide) ?_
            conv => whnf
            repeat ((first | refine CondP.tt ?_ | refine CondP.ff ?_ | refine Owe.mk (by decide) ?_); conv => whnf)
            refine Get.mk _ (fun _ _ h => h) ⟨rfl, ?_, ⟨ty, ?_⟩, ?_, fun c hc hca => (f2 c hca).trans (hf1 c hc)⟩
            · simp [namesP, hc, h, h3]
            · simp only [namesP, if_neg hc]; exact (f2 bn (Ne.symm e2)).trans hn1
            · simp only [namesP, if_neg hc]; exact .inr (.inr ⟨ba, ta, by rw [nsL_len], a2'⟩)
end Go.Proofs.YtpcbnpekdmobpaaGreatDoor

open Go Go.Ev Go.VL
namespace Go.Proofs.YtpcbnpekdmobpaaGreatDoor
attribute [local irreducible] fApp
variable {X : Ovr} {G : Gt}
def inR (r a b : Int) : Bool := decide (a ≤ r) && decide (r ≤ b)
theorem in_ok (hX : X F_ref1_in = none) (r a b : Int) (vh : VH) (vn : Nat) :
    WpCall Tryz.prog X G F_ref1_in [.int .i32 r, .int .i32 a, .int .i32 b] vh vn fun v vh' vn' => vh' = vh ∧ vn' = vn ∧ v = .bool (inR r a b) := by
  apply k_ref1_in.run hX
  repeat first | refine CondP.tt ?_ | refine CondP.ff ?_ | refine Owe.mk (by decide) ?_
  conv => whnf
  repeat ((first | refine CondP.tt ?_ | refine CondP.ff ?_ | refine Owe.mk (by decide) ?_); conv => whnf)
  refine CondP.mk (fun h1 => ?_) (fun h1 => ?_)
  · repeat first | refine CondP.tt ?_ | refine CondP.ff ?_ | refine Owe.mk (by decide) ?_
    conv => whnf
    repeat ((first | refine CondP.tt ?_ | refine CondP.ff ?_ | refine Owe.mk (by decide) ?_); conv => whnf)
    refine Get.mk vh (fun _ _ h => h) ⟨rfl, rfl, ?_⟩
    simp at h1
    simp [inR, h1]
  · repeat first | refine CondP.tt ?_ | refine CondP.ff ?_ | refine Owe.mk (by decide) ?_
    conv => whnf
    repeat ((first | refine CondP.tt ?_ | refine CondP.ff ?_ | refine Owe.mk (by decide) ?_); conv => whnf)
    refine Get.mk vh (fun _ _ h => h) ⟨rfl, rfl, ?_⟩
    simp at h1
    simp [inR]; omega
def spaceP (r : Int) : Bool := decide (r = 32) || decide (r = 9) || decide (r = 13) || decide (r = 10)
theorem Space_ok (hX : X F_ref1_Space = none) (r : Int) (vh : VH) (vn : Nat) :
    WpCall Tryz.prog X G F_ref1_Space [.int .i32 r] vh vn fun v vh' vn' => vh' = vh ∧ vn' = vn ∧ v = .bool (spaceP r) := by
  apply k_ref1_Space.run hX
  repeat first | refine CondP.tt ?_ | refine CondP.ff ?_ | refine Owe.mk (by decide) ?_
  conv => whnf
  repeat ((first | refine CondP.tt ?_ | refine CondP.ff ?_ | refine Owe.mk (by decide) ?_); conv => whnf)
  repeat' ((first | refine CondP.tt ?_ | refine CondP.ff ?_ | refine CondP.mk (fun _ => ?_) (fun _ => ?_)); conv => whnf)
  all_goals
    refine Get.mk vh (fun _ _ h => h) ⟨rfl, rfl, ?_⟩
    simp_all [spaceP]
def charP (r : Int) : Bool := decide (r = 9) || decide (r = 10) || decide (r = 13) || inR r 0x20 0xD7FF || inR r 0xE000 0xFFFD || inR r 0x10000 0x10FFFF
theorem Char_ok (hX : X F_ref1_in = none) (hX' : X F_ref1_Char = none) (r : Int) (vh : VH) (vn : Nat) :
    WpCall Tryz.prog X G F_ref1_Char [.int .i32 r] vh vn fun v vh' vn' => vh' = vh ∧ vn' = vn ∧ v = .bool (charP r) := by
  apply k_ref1_Char.run hX'
  repeat first | refine CondP.tt ?_ | refine CondP.ff ?_ | refine Owe.mk (by decide) ?_
  conv => whnf
  repeat ((first | refine CondP.tt ?_ | refine CondP.ff ?_ | refine Owe.mk (by decide) ?_); conv => whnf)
  repeat' ((first | refine CondP.tt ?_ | refine CondP.ff ?_ | refine CondP.mk (fun _ => ?_) (fun _ => ?_) | (refine (in_ok hX _ _ _ _ _).mono (fun v vh' vn' he => ?_); obtain ⟨e1, e2, e3⟩ := he; subst e1; subst e2; subst e3)); conv => whnf)
  all_goals
    refine Get.mk _ (fun _ _ h => h) ⟨rfl, rfl, ?_⟩
    simp_all [charP]
def startP (r : Int) : Bool := inR r 65 90 || inR r 97 122 || decide (r = 95) || decide (r = 58) || inR r 0xC0 0xD6 || inR r 0xD8 0xF6 || inR r 0xF8 0x2FF || inR r 0x370 0x37D || inR r 0x37F 0x1FFF || inR r 0x200C 0x200D || inR r 0x2070 0x218F || inR r 0x2C00 0x2FEF || inR r 0x3001 0xD7FF || inR r 0xF900 0xFDCF || inR r 0xFDF0 0xFFFD || inR r 0x10000 0xEFFFF
theorem Start_ok (hX : X F_ref1_in = none) (hX' : X F_ref1_Start = none) (r : Int) (vh : VH) (vn : Nat) :
    WpCall Tryz.prog X G F_ref1_Start [.int .i32 r] vh vn fun v vh' vn' => vh' = vh ∧ vn' = vn ∧ v = .bool (startP r) := by
  apply k_ref1_Start.run hX'
  repeat first | refine CondP.tt ?_ | refine CondP.ff ?_ | refine Owe.mk (by decide) ?_
  conv => whnf
  repeat ((first | refine CondP.tt ?_ | refine CondP.ff ?_ | refine Owe.mk (by decide) ?_); conv => whnf)
  repeat' ((first | refine CondP.tt ?_ | refine CondP.ff ?_ | refine CondP.mk (fun _ => ?_) (fun _ => ?_) | (refine (in_ok hX _ _ _ _ _).mono (fun v vh' vn' he => ?_); obtain ⟨e1, e2, e3⟩ := he; subst e1; subst e2; subst e3)); conv => whnf)
  all_goals
    refine Get.mk _ (fun _ _ h => h) ⟨rfl, rfl, ?_⟩
    simp_all [startP]
def partP (r : Int) : Bool := startP r || decide (r = 45) || decide (r = 46) || inR r 48 57 || decide (r = 0xB7) || inR r 0x300 0x36F || inR r 0x203F 0x2040
theorem Part_ok (hX : X F_ref1_in = none) (hX1 : X F_ref1_Start = none) (hX' : X F_ref1_Part = none) (r : Int) (vh : VH) (vn : Nat) :
    WpCall Tryz.prog X G F_ref1_Part [.int .i32 r] vh vn fun v vh' vn' => vh' = vh ∧ vn' = vn ∧ v = .bool (partP r) := by
  apply k_ref1_Part.run hX'
  repeat first | refine CondP.tt ?_ | refine CondP.ff ?_ | refine Owe.mk (by decide) ?_
  conv => whnf
  repeat ((first | refine CondP.tt ?_ | refine CondP.ff ?_ | refine Owe.mk (by decide) ?_); conv => whnf)
  repeat' ((first | refine CondP.tt ?_ | refine CondP.ff ?_ | refine CondP.mk (fun _ => ?_) (fun _ => ?_) | (refine (in_ok hX _ _ _ _ _).mono (fun v vh' vn' he => ?_); obtain ⟨e1, e2, e3⟩ := he; subst e1; subst e2; subst e3) | (refine (Start_ok hX hX1 _ _ _).mono (fun v vh' vn' he => ?_); obtain ⟨e1, e2, e3⟩ := he; subst e1; subst e2; subst e3)); conv => whnf)
  all_goals
    refine Get.mk _ (fun _ _ h => h) ⟨rfl, rfl, ?_⟩
    simp_all [partP]
end Go.Proofs.YtpcbnpekdmobpaaGreatDoor

open Go Go.Ev Go.VL
namespace Go.Proofs.YtpcbnpekdmobpaaGreatDoor
attribute [local irreducible] fApp
variable {X : Ovr} {G : Gt}
def andU (k : IntKind) (m n : Int) : Int := wr k (.ofNat (Nat.land (toU k m) (toU k n)))
def orU (k : IntKind) (m n : Int) : Int := wr k (.ofNat (Nat.lor (toU k m) (toU k n)))
def shl6 (r : Int) : Int := wr .i32 (r * .ofNat (Nat.pow 2 6))

def oneF : List Nat → Int → Option Int
  | [], r => some r
  | b :: l, r => if andU .u8 (.ofNat b) 192 = 128 then oneF l (orU .i32 (shl6 r) (wr .i32 (andU .u8 (.ofNat b) 63))) else none

def oneH (c : Int) : Option (Nat × Int × Int) :=
  if 192 ≤ c ∧ c < 224 then some (2, wr .i32 (andU .u8 c 31), 128)
  else if 224 ≤ c ∧ c < 240 then some (3, wr .i32 (andU .u8 c 15), 2048)
  else if 240 ≤ c ∧ c < 248 then some (4, wr .i32 (andU .u8 c 7), 65536)
  else none
def oneT (s : List Nat) (i n : Nat) (r least : Int) : Int × Nat :=
  if s.length < i + n then (0, 0) else match oneF ((s.drop (i + 1)).take (n - 1)) r with
    | none => (0, 0)
    | some q => if q < least ∨ 1114111 < q ∨ inR q 55296 57343 = true then (0, 0) else (q, n)
def oneP (s : List Nat) (i : Nat) : Int × Nat := match s[i]? with
  | none => (0, 0)
  | some c => if (c : Int) < 128 then (wr .i32 (.ofNat c), 1) else match oneH (.ofNat c) with
    | none => (0, 0)
    | some (n, r, least) => oneT s i n r least
theorem One_L0 (s : List Nat) (hs : s.length < 2 ^ 40) (i n : Nat) (hn : i + n ≤ s.length) (least : Int) (vh : VH) (vn : Nat) (Q : FQ) : ∀ (m k : Nat) (r : Int), n - k = m → k ≤ n →
    (oneF ((s.drop (i + k)).take (n - k)) r = none → Q .ret [(4, .int .i32 0), (5, .int .i64 0)] vh vn) →
    (∀ q, oneF ((s.drop (i + k)).take (n - k)) r = some q → ∀ k' t, Q (.exit 1) [(0, .str s), (1, .int .i64 (i : Int)), (7, .int .i64 (n : Int)), (8, .int .i32 q), (9, .int .i32 least), (10, .int .i64 k'), (61, .bool t)] vh vn) →
    FLoop Tryz.prog X G (.loop c_ref1_One_L0) [(0, .str s), (1, .int .i64 (i : Int)), (7, .int .i64 (n : Int)), (8, .int .i32 r), (9, .int .i32 least), (10, .int .i64 (k : Int))] vh vn Q
  | m, k, r, hm, hk, hR, hQ => by
    refine FLoop.round ?_
    repeat first | refine CondP.tt ?_ | refine CondP.ff ?_ | refine Owe.mk (by decide) ?_
    conv => whnf
    repeat ((first | refine CondP.tt ?_ | refine CondP.ff ?_ | refine Owe.mk (by decide) ?_); conv => whnf)
    refine CondP.mk (fun h1 => ?_) (fun h1 => ?_)
    · have hlt : k < n := by simpa using h1
      have hik : i + k < s.length := by omega
      have hd : (s.drop (i + k)).take (n - k) = s[i + k] :: (s.drop (i + (k + 1))).take (n - (k + 1)) := by
        rw [← List.getElem_cons_drop hik, show n - k = (n - (k + 1)) + 1 by omega, List.take_succ_cons, Nat.add_assoc]
      rw [hd] at hR hQ
      simp only [oneF] at hR hQ
      have e : wr .i64 ((k : Int) + 1) = ((k + 1 : Nat) : Int) := by rw [wr64] <;> omega
      have e2 : wr .i64 ((i : Int) + (k : Int)) = ((i + k : Nat) : Int) := by rw [wr64] <;> omega
      repeat first | refine CondP.tt ?_ | refine CondP.ff ?_ | refine Owe.mk (by decide) ?_
      conv => whnf
      repeat ((first | refine CondP.tt ?_ | refine CondP.ff ?_ | refine Owe.mk (by decide) ?_); conv => whnf)
      refine Get.mk (i + k, s[i + k]) ⟨e2, by simp [hik]⟩ ?_
      repeat first | refine CondP.tt ?_ | refine CondP.ff ?_ | refine Owe.mk (by decide) ?_
      conv => whnf
      repeat ((first | refine CondP.tt ?_ | refine CondP.ff ?_ | refine Owe.mk (by decide) ?_); conv => whnf)
      refine CondP.mk (fun h2 => ?_) (fun h2 => ?_)
      · have h2 : (!decide (andU .u8 (.ofNat s[i + k]) 192 = 128)) = true := h2
        have h2' : ¬ andU .u8 (.ofNat s[i + k]) 192 = 128 := by simpa using h2
        simp only [if_neg h2'] at hR
        repeat first | refine CondP.tt ?_ | refine CondP.ff ?_ | refine Owe.mk (by decide) ?_
        conv => whnf
        repeat ((first | refine CondP.tt ?_ | refine CondP.ff ?_ | refine Owe.mk (by decide) ?_); conv => whnf)
        exact hR trivial
      · have h2 : (!decide (andU .u8 (.ofNat s[i + k]) 192 = 128)) = false := h2
        have h2' : andU .u8 (.ofNat s[i + k]) 192 = 128 := by simpa using h2
        simp only [if_pos h2'] at hR hQ
        repeat first | refine CondP.tt ?_ | refine CondP.ff ?_ | refine Owe.mk (by decide) ?_
        conv => whnf
        repeat ((first | refine CondP.tt ?_ | refine CondP.ff ?_ | refine Owe.mk (by decide) ?_); conv => whnf)
        refine Get.mk 6 rfl ?_
        repeat first | refine CondP.tt ?_ | refine CondP.ff ?_ | refine Owe.mk (by decide) ?_
        conv => whnf
        repeat ((first | refine CondP.tt ?_ | refine CondP.ff ?_ | refine Owe.mk (by decide) ?_); conv => whnf)
        refine Get.mk (i + k, s[i + k]) ⟨e2, by simp [hik]⟩ ?_
        repeat first | refine CondP.tt ?_ | refine CondP.ff ?_ | refine Owe.mk (by decide) ?_
        conv => whnf
        repeat ((first | refine CondP.tt ?_ | refine CondP.ff ?_ | refine Owe.mk (by decide) ?_); conv => whnf)
        rw [e]
        exact One_L0 s hs i n hn least vh vn Q (m - 1) (k + 1) _ (by omega) (by omega) hR hQ
    · have hlt : k = n := by simp at h1; omega
      subst hlt
      rw [Nat.sub_self, List.take_zero] at hQ
      repeat first | refine CondP.tt ?_ | refine CondP.ff ?_ | refine Owe.mk (by decide) ?_
      conv => whnf
      repeat ((first | refine CondP.tt ?_ | refine CondP.ff ?_ | refine Owe.mk (by decide) ?_); conv => whnf)
      exact hQ _ rfl _ _
termination_by m => m
decreasing_by all_goals omega
theorem One_T (hX : X F_ref1_in = none) (s : List Nat) (hs : s.length < 2 ^ 40) (i n : Nat) (hi : i < s.length) (hn1 : 1 ≤ n) (hn : n ≤ 4) (r least : Int) (vh : VH) (vn : Nat) (Q : FQ)
    (hQ : Q .ret [(4, .int .i32 (oneT s i n r least).1), (5, .int .i64 ((oneT s i n r least).2 : Int))] vh vn) :
    FLoop Tryz.prog X G (.cut c_ref1_One_R14) [(0, .str s), (1, .int .i64 (i : Int)), (7, .int .i64 (n : Int)), (8, .int .i32 r), (9, .int .i32 least)] vh vn Q := by
  refine FLoop.cut ?_
  have e2 : wr .i64 ((i : Int) + (n : Int)) = ((i + n : Nat) : Int) := by rw [wr64] <;> omega
  repeat first | refine CondP.tt ?_ | refine CondP.ff ?_ | refine Owe.mk (by decide) ?_
  conv => whnf
  repeat ((first | refine CondP.tt ?_ | refine CondP.ff ?_ | refine Owe.mk (by decide) ?_); conv => whnf)
  refine CondP.mk (fun h1 => ?_) (fun h1 => ?_)
  · rw [e2] at h1
    have h1' : s.length < i + n := by have := of_decide_eq_true h1; simp only [Int.ofNat_eq_natCast] at this; omega
    simp only [oneT, if_pos h1'] at hQ
    repeat first | refine CondP.tt ?_ | refine CondP.ff ?_ | refine Owe.mk (by decide) ?_
    conv => whnf
    repeat ((first | refine CondP.tt ?_ | refine CondP.ff ?_ | refine Owe.mk (by decide) ?_); conv => whnf)
    exact hQ
  · rw [e2] at h1
    have h1' : ¬ s.length < i + n := by have := of_decide_eq_false h1; simp only [Int.ofNat_eq_natCast] at this; omega
    simp only [oneT, if_neg h1'] at hQ
    repeat first | refine CondP.tt ?_ | refine CondP.ff ?_ | refine Owe.mk (by decide) ?_
    conv => whnf
    repeat ((first | refine CondP.tt ?_ | refine CondP.ff ?_ | refine Owe.mk (by decide) ?_); conv => whnf)
    refine One_L0 s hs i n (by omega) least vh vn _ (n - 1) 1 r rfl hn1 (fun h => ?_) (fun q h k' t => ?_)
    · rw [h] at hQ
      repeat first | refine CondP.tt ?_ | refine CondP.ff ?_ | refine Owe.mk (by decide) ?_
      conv => whnf
      repeat ((first | refine CondP.tt ?_ | refine CondP.ff ?_ | refine Owe.mk (by decide) ?_); conv => whnf)
      exact hQ
    · rw [h] at hQ
      simp only at hQ
      repeat first | refine CondP.tt ?_ | refine CondP.ff ?_ | refine Owe.mk (by decide) ?_
      conv => whnf
      repeat ((first | refine CondP.tt ?_ | refine CondP.ff ?_ | refine Owe.mk (by decide) ?_); conv => whnf)
      repeat' ((first | refine CondP.tt ?_ | refine CondP.ff ?_ | refine CondP.mk (fun _ => ?_) (fun _ => ?_) | (refine (in_ok hX _ _ _ _ _).mono (fun v vh' vn' he => ?_); obtain ⟨e1, e2, e3⟩ := he; subst e1; subst e2; subst e3)) <;> (conv => whnf))
      all_goals first
        | (have hc : q < least ∨ 1114111 < q ∨ inR q 55296 57343 = true := by clear hQ h e2 h1; simp_all
           rw [if_pos hc] at hQ
           exact hQ)
        | (have hc : ¬ (q < least ∨ 1114111 < q ∨ inR q 55296 57343 = true) := by clear hQ h e2 h1; simp_all
           rw [if_neg hc] at hQ
           exact hQ)
set_option maxRecDepth 100000 in
theorem One_ok (hX : X F_ref1_in = none) (hX' : X F_ref1_One = none) (s : List Nat) (hs : s.length < 2 ^ 40) (i : Nat) (vh : VH) (vn : Nat) :
    WpCall Tryz.prog X G F_ref1_One [.str s, .int .i64 (i : Int)] vh vn fun v vh' vn' => vh' = vh ∧ vn' = vn ∧ v = .tup [.int .i32 (oneP s i).1, .int .i64 ((oneP s i).2 : Int)] := by
  apply k_ref1_One.run hX'
  repeat first | refine CondP.tt ?_ | refine CondP.ff ?_ | refine Owe.mk (by decide) ?_
  conv => whnf
  repeat ((first | refine CondP.tt ?_ | refine CondP.ff ?_ | refine Owe.mk (by decide) ?_); conv => whnf)
  refine CondP.mk (fun h1 => ?_) (fun h1 => ?_)
  · have h1' : s.length ≤ i := by have := of_decide_eq_true h1; simp only [Int.ofNat_eq_natCast] at this; omega
    have h0 : s[i]? = none := List.getElem?_eq_none h1'
    repeat first | refine CondP.tt ?_ | refine CondP.ff ?_ | refine Owe.mk (by decide) ?_
    conv => whnf
    repeat ((first | refine CondP.tt ?_ | refine CondP.ff ?_ | refine Owe.mk (by decide) ?_); conv => whnf)
    refine Get.mk _ (fun _ _ h => h) ⟨rfl, rfl, ?_⟩
    simp only [oneP, h0]; rfl
  · have h1' : i < s.length := by have := of_decide_eq_false h1; simp only [Int.ofNat_eq_natCast] at this; omega
    have h0 : s[i]? = some s[i] := List.getElem?_eq_getElem h1'
    have hp : ∀ n r least, oneH (.ofNat s[i]) = some (n, r, least) → ¬ (s[i] : Int) < 128 → oneP s i = oneT s i n r least := fun n r least h h2 => by simp only [oneP, h0, if_neg h2, h]
    repeat first | refine CondP.tt ?_ | refine CondP.ff ?_ | refine Owe.mk (by decide) ?_
    conv => whnf
    repeat ((first | refine CondP.tt ?_ | refine CondP.ff ?_ | refine Owe.mk (by decide) ?_); conv => whnf)
    refine Get.mk (i, s[i]) ⟨rfl, h0⟩ ?_
    repeat first | refine CondP.tt ?_ | refine CondP.ff ?_ | refine Owe.mk (by decide) ?_
    conv => whnf
    repeat ((first | refine CondP.tt ?_ | refine CondP.ff ?_ | refine Owe.mk (by decide) ?_); conv => whnf)
    refine CondP.mk (fun h2 => ?_) (fun h2 => ?_)
    · have h2' : (s[i] : Int) < 128 := by simpa using h2
      repeat first | refine CondP.tt ?_ | refine CondP.ff ?_ | refine Owe.mk (by decide) ?_
      conv => whnf
      repeat ((first | refine CondP.tt ?_ | refine CondP.ff ?_ | refine Owe.mk (by decide) ?_); conv => whnf)
      refine Get.mk _ (fun _ _ h => h) ⟨rfl, rfl, ?_⟩
      simp only [oneP, h0, if_pos h2']; rfl
    · have h2' : ¬ (s[i] : Int) < 128 := by simpa using h2
      repeat first | refine CondP.tt ?_ | refine CondP.ff ?_ | refine Owe.mk (by decide) ?_
      conv => whnf
      repeat ((first | refine CondP.tt ?_ | refine CondP.ff ?_ | refine Owe.mk (by decide) ?_); conv => whnf)
      repeat' ((first | refine CondP.tt ?_ | refine CondP.ff ?_ | refine CondP.mk (fun _ => ?_) (fun _ => ?_)) <;> (conv => whnf))
      all_goals first
        | (refine One_T hX s hs i 2 h1' (by decide) (by decide) _ 128 vh vn _ ?_
           have ho : oneH (.ofNat s[i]) = some (2, wr .i32 (andU .u8 (.ofNat s[i]) 31), 128) := by
             clear hp h0 h1 h2
             simp at *
             simp only [oneH]
             rw [if_pos (by constructor <;> omega)]
           refine Get.mk _ (fun _ _ h => h) ⟨rfl, rfl, ?_⟩
           rw [hp _ _ _ ho h2']
           rfl)
        | (refine One_T hX s hs i 3 h1' (by decide) (by decide) _ 2048 vh vn _ ?_
           have ho : oneH (.ofNat s[i]) = some (3, wr .i32 (andU .u8 (.ofNat s[i]) 15), 2048) := by
             clear hp h0 h1 h2
             simp at *
             simp only [oneH]
             rw [if_neg (by omega), if_pos (by constructor <;> omega)]
           refine Get.mk _ (fun _ _ h => h) ⟨rfl, rfl, ?_⟩
           rw [hp _ _ _ ho h2']
           rfl)
        | (refine One_T hX s hs i 4 h1' (by decide) (by decide) _ 65536 vh vn _ ?_
           have ho : oneH (.ofNat s[i]) = some (4, wr .i32 (andU .u8 (.ofNat s[i]) 7), 65536) := by
             clear hp h0 h1 h2
             simp at *
             simp only [oneH]
             rw [if_neg (by omega), if_neg (by omega), if_pos (by constructor <;> omega)]
           refine Get.mk _ (fun _ _ h => h) ⟨rfl, rfl, ?_⟩
           rw [hp _ _ _ ho h2']
           rfl)
        | (have ho : oneH (.ofNat s[i]) = none := by
             clear hp h0 h1 h2
             simp at *
             simp only [oneH]
             rw [if_neg (by omega), if_neg (by omega), if_neg (by omega)]
           refine Get.mk _ (fun _ _ h => h) ⟨rfl, rfl, ?_⟩
           simp only [oneP, h0, if_neg h2', ho]
           rfl)
end Go.Proofs.YtpcbnpekdmobpaaGreatDoor

open Go Go.Ev Go.VL
namespace Go.Proofs.YtpcbnpekdmobpaaGreatDoor
attribute [local irreducible] fApp
variable {X : Ovr} {G : Gt}
theorem one_le (s : List Nat) (i : Nat) : (oneP s i).2 = 0 ∨ i + (oneP s i).2 ≤ s.length := by
  unfold oneP
  cases h : s[i]? with
  | none => exact .inl rfl
  | some c =>
    have hi : i < s.length := (List.getElem?_eq_some_iff.1 h).1
    simp only
    split
    · exact .inr (by simp only; omega)
    · split
      · exact .inl rfl
      · unfold oneT
        split
        · exact .inl rfl
        · split
          · exact .inl rfl
          · split
            · exact .inl rfl
            · exact .inr (by simp only; omega)
def validF (s : List Nat) : Nat → Nat → Bool
  | 0, _ => true
  | f + 1, i => if s.length ≤ i then true else if (oneP s i).2 = 0 ∨ charP (oneP s i).1 = false then false else validF s f (i + (oneP s i).2)
def validP (s : List Nat) : Bool := validF s (s.length + 1) 0
theorem Valid_L0 (hX : X F_ref1_in = none) (hX1 : X F_ref1_One = none) (hX2 : X F_ref1_Char = none) (s : List Nat) (hs : s.length < 2 ^ 40) (vh : VH) (vn : Nat) (Q : FQ) : ∀ (f i : Nat), s.length - i < f → i ≤ s.length →
    (validF s f i = false → Q .ret [(2, .bool false)] vh vn) →
    (validF s f i = true → ∀ i' t, Q (.exit 0) [(0, .str s), (3, .int .i64 i'), (9, .bool t)] vh vn) →
    FLoop Tryz.prog X G (.loop c_ref1_Valid_L0) [(0, .str s), (3, .int .i64 (i : Int))] vh vn Q
  | 0, i, hf, _, _, _ => by omega
  | f + 1, i, hf, hi, hR, hQ => by
    refine FLoop.round ?_
    repeat first | refine CondP.tt ?_ | refine CondP.ff ?_ | refine Owe.mk (by decide) ?_
    conv => whnf
    repeat ((first | refine CondP.tt ?_ | refine CondP.ff ?_ | refine Owe.mk (by decide) ?_); conv => whnf)
    refine CondP.mk (fun h1 => ?_) (fun h1 => ?_)
    · have hlt : i < s.length := by simpa using h1
      simp only [validF, if_neg (by omega : ¬ s.length ≤ i)] at hR hQ
      repeat first | refine CondP.tt ?_ | refine CondP.ff ?_ | refine Owe.mk (by decide) ?_
      conv => whnf
      repeat ((first | refine CondP.tt ?_ | refine CondP.ff ?_ | refine Owe.mk (by decide) ?_); conv => whnf)
      refine (One_ok hX hX1 s hs i vh vn).mono fun v vh' vn' he => ?_
      obtain ⟨e1, e2, e3⟩ := he
      subst e1; subst e2; subst e3
      repeat first | refine CondP.tt ?_ | refine CondP.ff ?_ | refine Owe.mk (by decide) ?_
      conv => whnf
      repeat ((first | refine CondP.tt ?_ | refine CondP.ff ?_ | refine Owe.mk (by decide) ?_); conv => whnf)
      refine CondP.mk (fun h2 => ?_) (fun h2 => ?_)
      · have h2' : (oneP s i).2 = 0 := by simpa using h2
        repeat first | refine CondP.tt ?_ | refine CondP.ff ?_ | refine Owe.mk (by decide) ?_
        conv => whnf
        repeat ((first | refine CondP.tt ?_ | refine CondP.ff ?_ | refine Owe.mk (by decide) ?_); conv => whnf)
        exact hR (by rw [if_pos (.inl h2')])
      · have h2' : ¬ (oneP s i).2 = 0 := by simpa using h2
        repeat first | refine CondP.tt ?_ | refine CondP.ff ?_ | refine Owe.mk (by decide) ?_
        conv => whnf
        repeat ((first | refine CondP.tt ?_ | refine CondP.ff ?_ | refine Owe.mk (by decide) ?_); conv => whnf)
        refine (Char_ok hX hX2 _ _ _).mono fun v vh' vn' he => ?_
        obtain ⟨e1, e2, e3⟩ := he
        subst e1; subst e2; subst e3
        repeat first | refine CondP.tt ?_ | refine CondP.ff ?_ | refine Owe.mk (by decide) ?_
        conv => whnf
        repeat ((first | refine CondP.tt ?_ | refine CondP.ff ?_ | refine Owe.mk (by decide) ?_); conv => whnf)
        refine CondP.mk (fun h3 => ?_) (fun h3 => ?_)
        · have h3' : charP (oneP s i).1 = false := by simpa using h3
          repeat first | refine CondP.tt ?_ | refine CondP.ff ?_ | refine Owe.mk (by decide) ?_
          conv => whnf
          repeat ((first | refine CondP.tt ?_ | refine CondP.ff ?_ | refine Owe.mk (by decide) ?_); conv => whnf)
          exact hR (by rw [if_pos (.inr h3')])
        · have h3' : charP (oneP s i).1 = true := by simpa using h3
          have hc : ¬ ((oneP s i).2 = 0 ∨ charP (oneP s i).1 = false) := by rw [h3']; simp [h2']
          have hle := (one_le s i).resolve_left h2'
          have e : wr .i64 ((i : Int) + ((oneP s i).2 : Int)) = ((i + (oneP s i).2 : Nat) : Int) := by rw [wr64] <;> omega
          rw [if_neg hc] at hR hQ
          repeat first | refine CondP.tt ?_ | refine CondP.ff ?_ | refine Owe.mk (by decide) ?_
          conv => whnf
          repeat ((first | refine CondP.tt ?_ | refine CondP.ff ?_ | refine Owe.mk (by decide) ?_); conv => whnf)
          rw [e]
          exact Valid_L0 hX hX1 hX2 s hs _ _ Q f _ (by omega) hle hR hQ
    · have hlt : s.length ≤ i := by simpa using h1
      simp only [validF, if_pos hlt] at hQ
      repeat first | refine CondP.tt ?_ | refine CondP.ff ?_ | refine Owe.mk (by decide) ?_
      conv => whnf
      repeat ((first | refine CondP.tt ?_ | refine CondP.ff ?_ | refine Owe.mk (by decide) ?_); conv => whnf)
      exact hQ trivial _ _
theorem Valid_ok (hX : X F_ref1_in = none) (hX1 : X F_ref1_One = none) (hX2 : X F_ref1_Char = none) (hX3 : X F_ref1_Valid = none) (s : List Nat) (hs : s.length < 2 ^ 40) (vh : VH) (vn : Nat) :
    WpCall Tryz.prog X G F_ref1_Valid [.str s] vh vn fun v vh' vn' => vh' = vh ∧ vn' = vn ∧ v = .bool (validP s) := by
  apply k_ref1_Valid.run hX3
  repeat first | refine CondP.tt ?_ | refine CondP.ff ?_ | refine Owe.mk (by decide) ?_
  conv => whnf
  repeat ((first | refine CondP.tt ?_ | refine CondP.ff ?_ | refine Owe.mk (by decide) ?_); conv => whnf)
  refine Valid_L0 hX hX1 hX2 s hs vh vn _ (s.length + 1) 0 (by omega) (Nat.zero_le _) (fun h => ?_) (fun h i' t => ?_)
  · repeat first | refine CondP.tt ?_ | refine CondP.ff ?_ | refine Owe.mk (by decide) ?_
    conv => whnf
    repeat ((first | refine CondP.tt ?_ | refine CondP.ff ?_ | refine Owe.mk (by decide) ?_); conv => whnf)
    exact Get.mk _ (fun _ _ h => h) ⟨rfl, rfl, by rw [validP, h]⟩
  · repeat first | refine CondP.tt ?_ | refine CondP.ff ?_ | refine Owe.mk (by decide) ?_
    conv => whnf
    repeat ((first | refine CondP.tt ?_ | refine CondP.ff ?_ | refine Owe.mk (by decide) ?_); conv => whnf)
    exact Get.mk _ (fun _ _ h => h) ⟨rfl, rfl, by rw [validP, h]⟩
def runF (s : List Nat) (a : Nat) : Nat → Nat → Nat
  | 0, k => k
  | f + 1, k => if ((oneP s k).2 = 0 ∨ partP (oneP s k).1 = false) ∨ k = a ∧ startP (oneP s k).1 = false then k else runF s a f (k + (oneP s k).2)
theorem Run_L0 (hX : X F_ref1_in = none) (hX1 : X F_ref1_One = none) (hX2 : X F_ref1_Part = none) (hX4 : X F_ref1_Start = none) (s : List Nat) (hs : s.length < 2 ^ 40) (a : Nat) (vh : VH) (vn : Nat) (Q : FQ) : ∀ (f k : Nat), s.length - k < f → k ≤ s.length →
    Q .ret [(4, .int .i64 (runF s a f k : Int))] vh vn →
    FLoop Tryz.prog X G (.loop c_ref1_Run_L0) [(0, .str s), (1, .int .i64 (a : Int)), (5, .int .i64 (k : Int))] vh vn Q
  | 0, i, hf, _, _ => by omega
  | f + 1, k, hf, hk, hQ => by
    refine FLoop.round ?_
    simp only [runF] at hQ
    repeat first | refine CondP.tt ?_ | refine CondP.ff ?_ | refine Owe.mk (by decide) ?_
    conv => whnf
    repeat ((first | refine CondP.tt ?_ | refine CondP.ff ?_ | refine Owe.mk (by decide) ?_); conv => whnf)
    refine (One_ok hX hX1 s hs k vh vn).mono fun v vh' vn' he => ?_
    obtain ⟨e1, e2, e3⟩ := he
    subst e1; subst e2; subst e3
    repeat first | refine CondP.tt ?_ | refine CondP.ff ?_ | refine Owe.mk (by decide) ?_
    conv => whnf
    repeat ((first | refine CondP.tt ?_ | refine CondP.ff ?_ | refine Owe.mk (by decide) ?_); conv => whnf)
    refine CondP.mk (fun h2 => ?_) (fun h2 => ?_)
    · have h2' : (oneP s k).2 = 0 := by simpa using h2
      rw [if_pos (.inl (.inl h2'))] at hQ
      repeat first | refine CondP.tt ?_ | refine CondP.ff ?_ | refine Owe.mk (by decide) ?_
      conv => whnf
      repeat ((first | refine CondP.tt ?_ | refine CondP.ff ?_ | refine Owe.mk (by decide) ?_); conv => whnf)
      exact hQ
    · have h2' : ¬ (oneP s k).2 = 0 := by simpa using h2
      repeat first | refine CondP.tt ?_ | refine CondP.ff ?_ | refine Owe.mk (by decide) ?_
      conv => whnf
      repeat ((first | refine CondP.tt ?_ | refine CondP.ff ?_ | refine Owe.mk (by decide) ?_); conv => whnf)
      refine (Part_ok hX hX4 hX2 _ _ _).mono fun v vh' vn' he => ?_
      obtain ⟨e1, e2, e3⟩ := he
      subst e1; subst e2; subst e3
      repeat first | refine CondP.tt ?_ | refine CondP.ff ?_ | refine Owe.mk (by decide) ?_
      conv => whnf
      repeat ((first | refine CondP.tt ?_ | refine CondP.ff ?_ | refine Owe.mk (by decide) ?_); conv => whnf)
      refine CondP.mk (fun h3 => ?_) (fun h3 => ?_)
      · have h3' : partP (oneP s k).1 = false := by simpa using h3
        rw [if_pos (.inl (.inr h3'))] at hQ
        repeat first | refine CondP.tt ?_ | refine CondP.ff ?_ | refine Owe.mk (by decide) ?_
        conv => whnf
        repeat ((first | refine CondP.tt ?_ | refine CondP.ff ?_ | refine Owe.mk (by decide) ?_); conv => whnf)
        exact hQ
      · have h3' : partP (oneP s k).1 = true := by simpa using h3
        have hle := (one_le s k).resolve_left h2'
        have e : wr .i64 ((k : Int) + ((oneP s k).2 : Int)) = ((k + (oneP s k).2 : Nat) : Int) := by rw [wr64] <;> omega
        repeat first | refine CondP.tt ?_ | refine CondP.ff ?_ | refine Owe.mk (by decide) ?_
        conv => whnf
        repeat ((first | refine CondP.tt ?_ | refine CondP.ff ?_ | refine Owe.mk (by decide) ?_); conv => whnf)
        refine CondP.mk (fun h4 => ?_) (fun h4 => ?_)
        · have h4' : k = a := by have := of_decide_eq_true h4; omega
          repeat first | refine CondP.tt ?_ | refine CondP.ff ?_ | refine Owe.mk (by decide) ?_
          conv => whnf
          repeat ((first | refine CondP.tt ?_ | refine CondP.ff ?_ | refine Owe.mk (by decide) ?_); conv => whnf)
          refine (Start_ok hX hX4 _ _ _).mono fun v vh' vn' he => ?_
          obtain ⟨e1, e2, e3⟩ := he
          subst e1; subst e2; subst e3
          repeat first | refine CondP.tt ?_ | refine CondP.ff ?_ | refine Owe.mk (by decide) ?_
          conv => whnf
          repeat ((first | refine CondP.tt ?_ | refine CondP.ff ?_ | refine Owe.mk (by decide) ?_); conv => whnf)
          refine CondP.mk (fun h5 => ?_) (fun h5 => ?_)
          · have h5' : startP (oneP s k).1 = false := by simpa using h5
            rw [if_pos (.inr ⟨h4', h5'⟩)] at hQ
            repeat first | refine CondP.tt ?_ | refine CondP.ff ?_ | refine Owe.mk (by decide) ?_
            conv => whnf
            repeat ((first | refine CondP.tt ?_ | refine CondP.ff ?_ | refine Owe.mk (by decide) ?_); conv => whnf)
            exact hQ
          · have h5' : startP (oneP s k).1 = true := by simpa using h5
            rw [if_neg (by rw [h3', h5']; simp [h2'])] at hQ
            repeat first | refine CondP.tt ?_ | refine CondP.ff ?_ | refine Owe.mk (by decide) ?_
            conv => whnf
            repeat ((first | refine CondP.tt ?_ | refine CondP.ff ?_ | refine Owe.mk (by decide) ?_); conv => whnf)
            rw [e]
            exact Run_L0 hX hX1 hX2 hX4 s hs a _ _ Q f _ (by omega) hle hQ
        · have h4' : ¬ k = a := by have := of_decide_eq_false h4; omega
          rw [if_neg (by rw [h3']; simp [h2', h4'])] at hQ
          repeat first | refine CondP.tt ?_ | refine CondP.ff ?_ | refine Owe.mk (by decide) ?_
          conv => whnf
          repeat ((first | refine CondP.tt ?_ | refine CondP.ff ?_ | refine Owe.mk (by decide) ?_); conv => whnf)
          rw [e]
          exact Run_L0 hX hX1 hX2 hX4 s hs a _ _ Q f _ (by omega) hle hQ
end Go.Proofs.YtpcbnpekdmobpaaGreatDoor

open Go Go.Ev Go.VL
namespace Go.Proofs.YtpcbnpekdmobpaaGreatDoor
attribute [local irreducible] fApp
variable {X : Ovr} {G : Gt}
theorem Run_ok (hX : X F_ref1_in = none) (hX1 : X F_ref1_One = none) (hX2 : X F_ref1_Part = none) (hX4 : X F_ref1_Start = none) (hX5 : X F_ref1_Run = none) (s : List Nat) (hs : s.length < 2 ^ 40) (a : Nat) (ha : a ≤ s.length) (vh : VH) (vn : Nat) :
    WpCall Tryz.prog X G F_ref1_Run [.str s, .int .i64 (a : Int)] vh vn fun v vh' vn' => vh' = vh ∧ vn' = vn ∧ v = .int .i64 (runF s a (s.length + 1) a : Int) := by
  apply k_ref1_Run.run hX5
  repeat first | refine CondP.tt ?_ | refine CondP.ff ?_ | refine Owe.mk (by decide) ?_
  conv => whnf
  repeat ((first | refine CondP.tt ?_ | refine CondP.ff ?_ | refine Owe.mk (by decide) ?_); conv => whnf)
  refine Run_L0 hX hX1 hX2 hX4 s hs a vh vn _ (s.length + 1) a (by omega) ha ?_
  repeat first | refine CondP.tt ?_ | refine CondP.ff ?_ | refine Owe.mk (by decide) ?_
  conv => whnf
  repeat ((first | refine CondP.tt ?_ | refine CondP.ff ?_ | refine Owe.mk (by decide) ?_); conv => whnf)
  exact Get.mk _ (fun _ _ h => h) ⟨rfl, rfl, rfl⟩
def nameP (s : List Nat) : Bool := !decide (s = []) && decide (runF s 0 (s.length + 1) 0 = s.length)
theorem Name_ok (hX : X F_ref1_in = none) (hX1 : X F_ref1_One = none) (hX2 : X F_ref1_Part = none) (hX4 : X F_ref1_Start = none) (hX5 : X F_ref1_Run = none) (hX6 : X F_ref1_Name = none) (s : List Nat) (hs : s.length < 2 ^ 40) (vh : VH) (vn : Nat) :
    WpCall Tryz.prog X G F_ref1_Name [.str s] vh vn fun v vh' vn' => vh' = vh ∧ vn' = vn ∧ v = .bool (nameP s) := by
  apply k_ref1_Name.run hX6
  repeat first | refine CondP.tt ?_ | refine CondP.ff ?_ | refine Owe.mk (by decide) ?_
  conv => whnf
  repeat ((first | refine CondP.tt ?_ | refine CondP.ff ?_ | refine Owe.mk (by decide) ?_); conv => whnf)
  refine CondP.mk (fun h1 => ?_) (fun h1 => ?_)
  · have h1' : ¬ s = [] := by simpa using h1
    repeat first | refine CondP.tt ?_ | refine CondP.ff ?_ | refine Owe.mk (by decide) ?_
    conv => whnf
    repeat ((first | refine CondP.tt ?_ | refine CondP.ff ?_ | refine Owe.mk (by decide) ?_); conv => whnf)
    refine (Run_ok hX hX1 hX2 hX4 hX5 s hs 0 (Nat.zero_le _) vh vn).mono fun v vh' vn' he => ?_
    obtain ⟨e1, e2, e3⟩ := he
    subst e1; subst e2; subst e3
    repeat first | refine CondP.tt ?_ | refine CondP.ff ?_ | refine Owe.mk (by decide) ?_
    conv => whnf
    repeat ((first | refine CondP.tt ?_ | refine CondP.ff ?_ | refine Owe.mk (by decide) ?_); conv => whnf)
    refine Get.mk _ (fun _ _ h => h) ⟨rfl, rfl, ?_⟩
    simp only [nameP, h1', decide_false, Bool.not_false, Bool.true_and]
    show V.bool (decide ((runF s 0 (s.length + 1) 0 : Int) = Int.ofNat s.length)) = _
    congr 1
    simp only [Int.ofNat_eq_natCast, decide_eq_decide]
    omega
  · have h1' : s = [] := by simpa using h1
    repeat first | refine CondP.tt ?_ | refine CondP.ff ?_ | refine Owe.mk (by decide) ?_
    conv => whnf
    repeat ((first | refine CondP.tt ?_ | refine CondP.ff ?_ | refine Owe.mk (by decide) ?_); conv => whnf)
    refine Get.mk _ (fun _ _ h => h) ⟨rfl, rfl, ?_⟩
    simp [nameP, h1']
def colon : List Nat → Option Nat
  | [] => none
  | c :: l => if c = 58 then some 0 else (colon l).map (· + 1)
def ncP (s : List Nat) : Bool := decide (colon s = none) && nameP s
theorem NCName_L0 (s : List Nat) (hs : s.length < 2 ^ 40) (vh : VH) (vn : Nat) (Q : FQ) : ∀ (m i : Nat), s.length - i = m → i ≤ s.length →
    (colon (s.drop i) ≠ none → Q .ret [(2, .bool false)] vh vn) →
    (colon (s.drop i) = none → ∀ i' t, Q (.exit 0) [(0, .str s), (3, .int .i64 i'), (7, .bool t)] vh vn) →
    FLoop Tryz.prog X G (.loop c_ref1_NCName_L0) [(0, .str s), (3, .int .i64 (i : Int))] vh vn Q
  | m, i, hm, hi, hR, hQ => by
    refine FLoop.round ?_
    repeat first | refine CondP.tt ?_ | refine CondP.ff ?_ | refine Owe.mk (by decide) ?_
    conv => whnf
    repeat ((first | refine CondP.tt ?_ | refine CondP.ff ?_ | refine Owe.mk (by decide) ?_); conv => whnf)
    refine CondP.mk (fun h1 => ?_) (fun h1 => ?_)
    · have hlt : i < s.length := by simpa using h1
      have hd : s.drop i = s[i] :: s.drop (i + 1) := (List.getElem_cons_drop hlt).symm
      rw [hd] at hR hQ
      simp only [colon] at hR hQ
      have e : wr .i64 ((i : Int) + 1) = ((i + 1 : Nat) : Int) := by rw [wr64] <;> omega
      repeat first | refine CondP.tt ?_ | refine CondP.ff ?_ | refine Owe.mk (by decide) ?_
      conv => whnf
      repeat ((first | refine CondP.tt ?_ | refine CondP.ff ?_ | refine Owe.mk (by decide) ?_); conv => whnf)
      refine Get.mk (i, s[i]) ⟨rfl, by simp [hlt]⟩ ?_
      repeat first | refine CondP.tt ?_ | refine CondP.ff ?_ | refine Owe.mk (by decide) ?_
      conv => whnf
      repeat ((first | refine CondP.tt ?_ | refine CondP.ff ?_ | refine Owe.mk (by decide) ?_); conv => whnf)
      refine CondP.mk (fun h2 => ?_) (fun h2 => ?_)
      · have h2' : s[i] = 58 := by have := of_decide_eq_true h2; simp only [Int.ofNat_eq_natCast] at this; omega
        repeat first | refine CondP.tt ?_ | refine CondP.ff ?_ | refine Owe.mk (by decide) ?_
        conv => whnf
        repeat ((first | refine CondP.tt ?_ | refine CondP.ff ?_ | refine Owe.mk (by decide) ?_); conv => whnf)
        exact hR (by rw [if_pos h2']; exact nofun)
      · have h2' : ¬ s[i] = 58 := by have := of_decide_eq_false h2; simp only [Int.ofNat_eq_natCast] at this; omega
        rw [if_neg h2'] at hR hQ
        repeat first | refine CondP.tt ?_ | refine CondP.ff ?_ | refine Owe.mk (by decide) ?_
        conv => whnf
        repeat ((first | refine CondP.tt ?_ | refine CondP.ff ?_ | refine Owe.mk (by decide) ?_); conv => whnf)
        rw [e]
        refine NCName_L0 s hs vh vn Q (m - 1) (i + 1) (by omega) (by omega) (fun h => hR ?_) (fun h => hQ ?_)
        · cases hc : colon (s.drop (i + 1)) with
          | none => exact (h hc).elim
          | some x => exact nofun
        · rw [h]; rfl
    · have hlt : i = s.length := by simp at h1; omega
      rw [hlt, List.drop_length] at hQ
      repeat first | refine CondP.tt ?_ | refine CondP.ff ?_ | refine Owe.mk (by decide) ?_
      conv => whnf
      repeat ((first | refine CondP.tt ?_ | refine CondP.ff ?_ | refine Owe.mk (by decide) ?_); conv => whnf)
      exact hQ rfl _ _
termination_by m => m
decreasing_by all_goals omega
theorem NCName_ok (hX : X F_ref1_in = none) (hX1 : X F_ref1_One = none) (hX2 : X F_ref1_Part = none) (hX4 : X F_ref1_Start = none) (hX5 : X F_ref1_Run = none) (hX6 : X F_ref1_Name = none) (hX7 : X F_ref1_NCName = none) (s : List Nat) (hs : s.length < 2 ^ 40) (vh : VH) (vn : Nat) :
    WpCall Tryz.prog X G F_ref1_NCName [.str s] vh vn fun v vh' vn' => vh' = vh ∧ vn' = vn ∧ v = .bool (ncP s) := by
  apply k_ref1_NCName.run hX7
  repeat first | refine CondP.tt ?_ | refine CondP.ff ?_ | refine Owe.mk (by decide) ?_
  conv => whnf
  repeat ((first | refine CondP.tt ?_ | refine CondP.ff ?_ | refine Owe.mk (by decide) ?_); conv => whnf)
  refine NCName_L0 s hs vh vn _ s.length 0 rfl (Nat.zero_le _) (fun h => ?_) (fun h i' t => ?_)
  · rw [List.drop_zero] at h
    repeat first | refine CondP.tt ?_ | refine CondP.ff ?_ | refine Owe.mk (by decide) ?_
    conv => whnf
    repeat ((first | refine CondP.tt ?_ | refine CondP.ff ?_ | refine Owe.mk (by decide) ?_); conv => whnf)
    exact Get.mk _ (fun _ _ h => h) ⟨rfl, rfl, by simp [ncP, h]⟩
  · rw [List.drop_zero] at h
    repeat first | refine CondP.tt ?_ | refine CondP.ff ?_ | refine Owe.mk (by decide) ?_
    conv => whnf
    repeat ((first | refine CondP.tt ?_ | refine CondP.ff ?_ | refine Owe.mk (by decide) ?_); conv => whnf)
    refine (Name_ok hX hX1 hX2 hX4 hX5 hX6 s hs vh vn).mono fun v vh' vn' he => ?_
    obtain ⟨e1, e2, e3⟩ := he
    subst e1; subst e2; subst e3
    repeat first | refine CondP.tt ?_ | refine CondP.ff ?_ | refine Owe.mk (by decide) ?_
    conv => whnf
    repeat ((first | refine CondP.tt ?_ | refine CondP.ff ?_ | refine Owe.mk (by decide) ?_); conv => whnf)
    exact Get.mk _ (fun _ _ h => h) ⟨rfl, rfl, by simp [ncP, h]⟩
end Go.Proofs.YtpcbnpekdmobpaaGreatDoor

open Go Go.Ev Go.VL
namespace Go.Proofs.YtpcbnpekdmobpaaGreatDoor
attribute [local irreducible] fApp
variable {X : Ovr} {G : Gt}
def splitAt2 (s : List Nat) (i : Nat) : List Nat × List Nat × Bool := if ncP (s.take i) = true ∧ ncP (s.drop (i + 1)) = true then (s.take i, s.drop (i + 1), true) else ([], [], false)
def splitP (s : List Nat) : List Nat × List Nat × Bool := match colon s with
  | some i => splitAt2 s i
  | none => if ncP s = true then ([], s, true) else ([], [], false)

structure XN (X : Ovr) : Prop where
  hin : X F_ref1_in = none
  one : X F_ref1_One = none
  part : X F_ref1_Part = none
  start : X F_ref1_Start = none
  run : X F_ref1_Run = none
  name : X F_ref1_Name = none
  nc : X F_ref1_NCName = none
  split : X F_ref1_Split = none
theorem XN.nc_ok (H : XN X) (s : List Nat) (hs : s.length < 2 ^ 40) (vh : VH) (vn : Nat) :
    WpCall Tryz.prog X G F_ref1_NCName [.str s] vh vn fun v vh' vn' => vh' = vh ∧ vn' = vn ∧ v = .bool (ncP s) :=
  NCName_ok H.hin H.one H.part H.start H.run H.name H.nc s hs vh vn
theorem Split_L0 (H : XN X) (s : List Nat) (hs : s.length < 2 ^ 40) (vh : VH) (vn : Nat) (Q : FQ) : ∀ (m i : Nat), s.length - i = m → i ≤ s.length →
    (∀ j, colon (s.drop i) = some j → Q .ret [(2, .str (splitAt2 s (i + j)).1), (3, .str (splitAt2 s (i + j)).2.1), (4, .bool (splitAt2 s (i + j)).2.2)] vh vn) →
    (colon (s.drop i) = none → ∀ i' t, Q (.exit 0) [(0, .str s), (5, .int .i64 i'), (9, .bool t)] vh vn) →
    FLoop Tryz.prog X G (.loop c_ref1_Split_L0) [(0, .str s), (5, .int .i64 (i : Int))] vh vn Q
  | m, i, hm, hi, hR, hQ => by
    refine FLoop.round ?_
    repeat first | refine CondP.tt ?_ | refine CondP.ff ?_ | refine Owe.mk (by decide) ?_
    conv => whnf
    repeat ((first | refine CondP.tt ?_ | refine CondP.ff ?_ | refine Owe.mk (by decide) ?_); conv => whnf)
    refine CondP.mk (fun h1 => ?_) (fun h1 => ?_)
    · have hlt : i < s.length := by simpa using h1
      have hd : s.drop i = s[i] :: s.drop (i + 1) := (List.getElem_cons_drop hlt).symm
      rw [hd] at hR hQ
      simp only [colon] at hR hQ
      have e : wr .i64 ((i : Int) + 1) = ((i + 1 : Nat) : Int) := by rw [wr64] <;> omega
      have et : (s.drop 0).take (i - 0) = s.take i := rfl
      have ed : (s.drop (i + 1)).take (s.length - (i + 1)) = s.drop (i + 1) := List.take_of_length_le (by simp)
      have lt1 : (s.take i).length < 2 ^ 40 := by rw [List.length_take]; omega
      have lt2 : (s.drop (i + 1)).length < 2 ^ 40 := by rw [List.length_drop]; omega
      repeat first | refine CondP.tt ?_ | refine CondP.ff ?_ | refine Owe.mk (by decide) ?_
      conv => whnf
      repeat ((first | refine CondP.tt ?_ | refine CondP.ff ?_ | refine Owe.mk (by decide) ?_); conv => whnf)
      refine Get.mk (i, s[i]) ⟨rfl, by simp [hlt]⟩ ?_
      repeat first | refine CondP.tt ?_ | refine CondP.ff ?_ | refine Owe.mk (by decide) ?_
      conv => whnf
      repeat ((first | refine CondP.tt ?_ | refine CondP.ff ?_ | refine Owe.mk (by decide) ?_); conv => whnf)
      refine CondP.mk (fun h2 => ?_) (fun h2 => ?_)
      · have h2' : s[i] = 58 := by have := of_decide_eq_true h2; simp only [Int.ofNat_eq_natCast] at this; omega
        have hR' := hR 0 (by rw [if_pos h2'])
        rw [Nat.add_zero] at hR'
        repeat first | refine CondP.tt ?_ | refine CondP.ff ?_ | refine Owe.mk (by decide) ?_
        conv => whnf
        repeat ((first | refine CondP.tt ?_ | refine CondP.ff ?_ | refine Owe.mk (by decide) ?_); conv => whnf)
        refine Get.mk i rfl ?_
        repeat first | refine CondP.tt ?_ | refine CondP.ff ?_ | refine Owe.mk (by decide) ?_
        conv => whnf
        repeat ((first | refine CondP.tt ?_ | refine CondP.ff ?_ | refine Owe.mk (by decide) ?_); conv => whnf)
        refine ⟨⟨Nat.zero_le _, hi⟩, ?_⟩
        repeat first | refine CondP.tt ?_ | refine CondP.ff ?_ | refine Owe.mk (by decide) ?_
        conv => whnf
        repeat ((first | refine CondP.tt ?_ | refine CondP.ff ?_ | refine Owe.mk (by decide) ?_); conv => whnf)
        refine (H.nc_ok (s.take i) lt1 vh vn).mono fun v vh' vn' he => ?_
        obtain ⟨e1, e2, e3⟩ := he
        subst e1; subst e2; subst e3
        repeat first | refine CondP.tt ?_ | refine CondP.ff ?_ | refine Owe.mk (by decide) ?_
        conv => whnf
        repeat ((first | refine CondP.tt ?_ | refine CondP.ff ?_ | refine Owe.mk (by decide) ?_); conv => whnf)
        refine CondP.mk (fun h3 => ?_) (fun h3 => ?_)
        · repeat first | refine CondP.tt ?_ | refine CondP.ff ?_ | refine Owe.mk (by decide) ?_
          conv => whnf
          repeat ((first | refine CondP.tt ?_ | refine CondP.ff ?_ | refine Owe.mk (by decide) ?_); conv => whnf)
          refine Get.mk (i + 1) e ?_
          repeat first | refine CondP.tt ?_ | refine CondP.ff ?_ | refine Owe.mk (by decide) ?_
          conv => whnf
          repeat ((first | refine CondP.tt ?_ | refine CondP.ff ?_ | refine Owe.mk (by decide) ?_); conv => whnf)
          refine ⟨⟨hlt, Nat.le_refl _⟩, ?_⟩
          repeat first | refine CondP.tt ?_ | refine CondP.ff ?_ | refine Owe.mk (by decide) ?_
          conv => whnf
          repeat ((first | refine CondP.tt ?_ | refine CondP.ff ?_ | refine Owe.mk (by decide) ?_); conv => whnf)
          rw [ed]
          refine (H.nc_ok (s.drop (i + 1)) lt2 _ _).mono fun v vh' vn' he => ?_
          obtain ⟨e1, e2, e3⟩ := he
          subst e1; subst e2; subst e3
          repeat first | refine CondP.tt ?_ | refine CondP.ff ?_ | refine Owe.mk (by decide) ?_
          conv => whnf
          repeat ((first | refine CondP.tt ?_ | refine CondP.ff ?_ | refine Owe.mk (by decide) ?_); conv => whnf)
          refine CondP.mk (fun h4 => ?_) (fun h4 => ?_)
          · have hn : splitAt2 s i = (s.take i, s.drop (i + 1), true) := by rw [splitAt2, if_pos ⟨h3, h4⟩]
            rw [hn] at hR'
            repeat first | refine CondP.tt ?_ | refine CondP.ff ?_ | refine Owe.mk (by decide) ?_
            conv => whnf
            repeat ((first | refine CondP.tt ?_ | refine CondP.ff ?_ | refine Owe.mk (by decide) ?_); conv => whnf)
            refine Get.mk i rfl ?_
            repeat first | refine CondP.tt ?_ | refine CondP.ff ?_ | refine Owe.mk (by decide) ?_
            conv => whnf
            repeat ((first | refine CondP.tt ?_ | refine CondP.ff ?_ | refine Owe.mk (by decide) ?_); conv => whnf)
            refine ⟨⟨Nat.zero_le _, hi⟩, ?_⟩
            repeat first | refine CondP.tt ?_ | refine CondP.ff ?_ | refine Owe.mk (by decide) ?_
            conv => whnf
            repeat ((first | refine CondP.tt ?_ | refine CondP.ff ?_ | refine Owe.mk (by decide) ?_); conv => whnf)
            refine Get.mk (i + 1) e ?_
            repeat first | refine CondP.tt ?_ | refine CondP.ff ?_ | refine Owe.mk (by decide) ?_
            conv => whnf
            repeat ((first | refine CondP.tt ?_ | refine CondP.ff ?_ | refine Owe.mk (by decide) ?_); conv => whnf)
            refine ⟨⟨hlt, Nat.le_refl _⟩, ?_⟩
            repeat first | refine CondP.tt ?_ | refine CondP.ff ?_ | refine Owe.mk (by decide) ?_
            conv => whnf
            repeat ((first | refine CondP.tt ?_ | refine CondP.ff ?_ | refine Owe.mk (by decide) ?_); conv => whnf)
            rw [ed]
            exact hR'
          · have hn : splitAt2 s i = ([], [], false) := by rw [splitAt2, if_neg]; rintro ⟨_, h⟩; have h4 : ncP (s.drop (i + 1)) = false := h4; rw [h] at h4; cases h4
            rw [hn] at hR'
            repeat first | refine CondP.tt ?_ | refine CondP.ff ?_ | refine Owe.mk (by decide) ?_
            conv => whnf
            repeat ((first | refine CondP.tt ?_ | refine CondP.ff ?_ | refine Owe.mk (by decide) ?_); conv => whnf)
            exact hR'
        · have hn : splitAt2 s i = ([], [], false) := by rw [splitAt2, if_neg]; rintro ⟨h, _⟩; rw [h] at h3; cases h3
          rw [hn] at hR'
          repeat first | refine CondP.tt ?_ | refine CondP.ff ?_ | refine Owe.mk (by decide) ?_
          conv => whnf
          repeat ((first | refine CondP.tt ?_ | refine CondP.ff ?_ | refine Owe.mk (by decide) ?_); conv => whnf)
          exact hR'
      · have h2' : ¬ s[i] = 58 := by have := of_decide_eq_false h2; simp only [Int.ofNat_eq_natCast] at this; omega
        rw [if_neg h2'] at hR hQ
        repeat first | refine CondP.tt ?_ | refine CondP.ff ?_ | refine Owe.mk (by decide) ?_
        conv => whnf
        repeat ((first | refine CondP.tt ?_ | refine CondP.ff ?_ | refine Owe.mk (by decide) ?_); conv => whnf)
        rw [e]
        refine Split_L0 H s hs vh vn Q (m - 1) (i + 1) (by omega) (by omega) (fun j h => ?_) (fun h => hQ ?_)
        · have := hR (j + 1) (by rw [h]; rfl)
          rw [show i + (j + 1) = i + 1 + j by omega] at this
          exact this
        · rw [h]; rfl
    · have hlt : i = s.length := by simp at h1; omega
      rw [hlt, List.drop_length] at hQ
      repeat first | refine CondP.tt ?_ | refine CondP.ff ?_ | refine Owe.mk (by decide) ?_
      conv => whnf
      repeat ((first | refine CondP.tt ?_ | refine CondP.ff ?_ | refine Owe.mk (by decide) ?_); conv => whnf)
      exact hQ rfl _ _
termination_by m => m
decreasing_by all_goals omega
theorem Split_ok (H : XN X) (s : List Nat) (hs : s.length < 2 ^ 40) (vh : VH) (vn : Nat) :
    WpCall Tryz.prog X G F_ref1_Split [.str s] vh vn fun v vh' vn' => vh' = vh ∧ vn' = vn ∧ v = .tup [.str (splitP s).1, .str (splitP s).2.1, .bool (splitP s).2.2] := by
  apply k_ref1_Split.run H.split
  repeat first | refine CondP.tt ?_ | refine CondP.ff ?_ | refine Owe.mk (by decide) ?_
  conv => whnf
  repeat ((first | refine CondP.tt ?_ | refine CondP.ff ?_ | refine Owe.mk (by decide) ?_); conv => whnf)
  refine Split_L0 H s hs vh vn _ s.length 0 rfl (Nat.zero_le _) (fun j h => ?_) (fun h i' t => ?_)
  · rw [List.drop_zero] at h
    rw [Nat.zero_add]
    repeat first | refine CondP.tt ?_ | refine CondP.ff ?_ | refine Owe.mk (by decide) ?_
    conv => whnf
    repeat ((first | refine CondP.tt ?_ | refine CondP.ff ?_ | refine Owe.mk (by decide) ?_); conv => whnf)
    exact Get.mk _ (fun _ _ h => h) ⟨rfl, rfl, by simp only [splitP, h]⟩
  · rw [List.drop_zero] at h
    repeat first | refine CondP.tt ?_ | refine CondP.ff ?_ | refine Owe.mk (by decide) ?_
    conv => whnf
    repeat ((first | refine CondP.tt ?_ | refine CondP.ff ?_ | refine Owe.mk (by decide) ?_); conv => whnf)
    refine (H.nc_ok s hs vh vn).mono fun v vh' vn' he => ?_
    obtain ⟨e1, e2, e3⟩ := he
    subst e1; subst e2; subst e3
    repeat first | refine CondP.tt ?_ | refine CondP.ff ?_ | refine Owe.mk (by decide) ?_
    conv => whnf
    repeat ((first | refine CondP.tt ?_ | refine CondP.ff ?_ | refine Owe.mk (by decide) ?_); conv => whnf)
    refine CondP.mk (fun h1 => ?_) (fun h1 => ?_)
    · have h1' : ncP s = false := by simpa using h1
      repeat first | refine CondP.tt ?_ | refine CondP.ff ?_ | refine Owe.mk (by decide) ?_
      conv => whnf
      repeat ((first | refine CondP.tt ?_ | refine CondP.ff ?_ | refine Owe.mk (by decide) ?_); conv => whnf)
      exact Get.mk _ (fun _ _ h => h) ⟨rfl, rfl, by simp [splitP, h, h1']⟩
    · have h1' : ncP s = true := by simpa using h1
      repeat first | refine CondP.tt ?_ | refine CondP.ff ?_ | refine Owe.mk (by decide) ?_
      conv => whnf
      repeat ((first | refine CondP.tt ?_ | refine CondP.ff ?_ | refine Owe.mk (by decide) ?_); conv => whnf)
      exact Get.mk _ (fun _ _ h => h) ⟨rfl, rfl, by simp [splitP, h, h1']⟩
end Go.Proofs.YtpcbnpekdmobpaaGreatDoor

open Go Go.Ev Go.VL
namespace Go.Proofs.YtpcbnpekdmobpaaGreatDoor
attribute [local irreducible] fApp
variable {X : Ovr} {G : Gt}
def qnameP (p l : List Nat) : List Nat := if p = [] then l else (p ++ S_58_) ++ l
theorem qname_ok (hX : X F_ref15_qname = none) (p l : List Nat) (hp : p.length < 2 ^ 38) (hl : l.length < 2 ^ 38) (vh : VH) (vn : Nat) :
    WpCall Tryz.prog X G F_ref15_qname [.str p, .str l] vh vn fun v vh' vn' => vh' = vh ∧ vn' = vn ∧ v = .str (qnameP p l) := by
  apply k_ref15_qname.run hX
  have e58 : S_58_.length = 1 := rfl
  repeat first | refine CondP.tt ?_ | refine CondP.ff ?_ | refine Owe.mk (by decide) ?_
  conv => whnf
  repeat ((first | refine CondP.tt ?_ | refine CondP.ff ?_ | refine Owe.mk (by decide) ?_); conv => whnf)
  refine CondP.mk (fun h1 => ?_) (fun h1 => ?_)
  · have h1' : p = [] := by simpa using h1
    repeat first | refine CondP.tt ?_ | refine CondP.ff ?_ | refine Owe.mk (by decide) ?_
    conv => whnf
    repeat ((first | refine CondP.tt ?_ | refine CondP.ff ?_ | refine Owe.mk (by decide) ?_); conv => whnf)
    exact Get.mk _ (fun _ _ h => h) ⟨rfl, rfl, by rw [qnameP, if_pos h1']⟩
  · have h1' : ¬ p = [] := by simpa using h1
    repeat first | refine CondP.tt ?_ | refine CondP.ff ?_ | refine Owe.mk (by decide) ?_
    conv => whnf
    repeat ((first | refine CondP.tt ?_ | refine CondP.ff ?_ | refine Owe.mk (by decide) ?_); conv => whnf)
    refine ⟨by show _ < 9223372036854775808; omega, ?_⟩
    repeat first | refine CondP.tt ?_ | refine CondP.ff ?_ | refine Owe.mk (by decide) ?_
    conv => whnf
    repeat ((first | refine CondP.tt ?_ | refine CondP.ff ?_ | refine Owe.mk (by decide) ?_); conv => whnf)
    refine ⟨by show _ < 9223372036854775808; rw [List.length_append]; omega, ?_⟩
    repeat first | refine CondP.tt ?_ | refine CondP.ff ?_ | refine Owe.mk (by decide) ?_
    conv => whnf
    repeat ((first | refine CondP.tt ?_ | refine CondP.ff ?_ | refine Owe.mk (by decide) ?_); conv => whnf)
    exact Get.mk _ (fun _ _ h => h) ⟨rfl, rfl, by rw [qnameP, if_neg h1']⟩
def namedP (p l : List Nat) : Bool := ((splitP (qnameP p l)).2.2 && decide ((splitP (qnameP p l)).1 = p)) && decide ((splitP (qnameP p l)).2.1 = l)
theorem named_ok (H : XN X) (hX : X F_ref15_qname = none) (hX' : X F_ref15_named = none) (p l : List Nat) (hp : p.length < 2 ^ 38) (hl : l.length < 2 ^ 38) (vh : VH) (vn : Nat) :
    WpCall Tryz.prog X G F_ref15_named [.str p, .str l] vh vn fun v vh' vn' => vh' = vh ∧ vn' = vn ∧ v = .bool (namedP p l) := by
  apply k_ref15_named.run hX'
  have hq : (qnameP p l).length < 2 ^ 40 := by
    have e58 : S_58_.length = 1 := rfl
    unfold qnameP
    split
    · omega
    · simp only [List.length_append]; omega
  repeat first | refine CondP.tt ?_ | refine CondP.ff ?_ | refine Owe.mk (by decide) ?_
  conv => whnf
  repeat ((first | refine CondP.tt ?_ | refine CondP.ff ?_ | refine Owe.mk (by decide) ?_); conv => whnf)
  refine (qname_ok hX p l hp hl vh vn).mono fun v vh' vn' he => ?_
  obtain ⟨e1, e2, e3⟩ := he
  subst e1; subst e2; subst e3
  repeat first | refine CondP.tt ?_ | refine CondP.ff ?_ | refine Owe.mk (by decide) ?_
  conv => whnf
  repeat ((first | refine CondP.tt ?_ | refine CondP.ff ?_ | refine Owe.mk (by decide) ?_); conv => whnf)
  refine (Split_ok H _ hq _ _).mono fun v vh' vn' he => ?_
  obtain ⟨e1, e2, e3⟩ := he
  subst e1; subst e2; subst e3
  repeat first | refine CondP.tt ?_ | refine CondP.ff ?_ | refine Owe.mk (by decide) ?_
  conv => whnf
  repeat ((first | refine CondP.tt ?_ | refine CondP.ff ?_ | refine Owe.mk (by decide) ?_); conv => whnf)
  repeat' ((first | refine CondP.tt ?_ | refine CondP.ff ?_ | refine CondP.mk (fun _ => ?_) (fun _ => ?_)) <;> (conv => whnf))
  all_goals
    refine Get.mk _ (fun _ _ h => h) ⟨rfl, rfl, ?_⟩
    simp_all [namedP]

def holdsF (s w : List Nat) : Nat → Nat → Bool
  | 0, _ => false
  | f + 1, i => if i + w.length ≤ s.length then (if (s.drop i).take (i + w.length - i) = w then true else holdsF s w f (i + 1)) else false
def holdsP (s w : List Nat) : Bool := holdsF s w (s.length + 1) 0
theorem holds_L0 (s w : List Nat) (hs : s.length < 2 ^ 40) (hw : w.length < 2 ^ 40) (vh : VH) (vn : Nat) (Q : FQ) : ∀ (f i : Nat), s.length + 1 - i ≤ f → i ≤ s.length + 1 →
    (holdsF s w f i = true → Q .ret [(4, .bool true)] vh vn) →
    (holdsF s w f i = false → ∀ i' t, Q (.exit 0) [(0, .str s), (1, .str w), (5, .int .i64 i'), (12, .bool t)] vh vn) →
    FLoop Tryz.prog X G (.loop c_ref15_holds_L0) [(0, .str s), (1, .str w), (5, .int .i64 (i : Int))] vh vn Q
  | f, i, hf, hi, hR, hQ => by
    refine FLoop.round ?_
    have e2 : wr .i64 ((i : Int) + Int.ofNat w.length) = ((i + w.length : Nat) : Int) := by simp only [Int.ofNat_eq_natCast]; rw [wr64] <;> omega
    repeat first | refine CondP.tt ?_ | refine CondP.ff ?_ | refine Owe.mk (by decide) ?_
    conv => whnf
    repeat ((first | refine CondP.tt ?_ | refine CondP.ff ?_ | refine Owe.mk (by decide) ?_); conv => whnf)
    refine CondP.mk (fun h1 => ?_) (fun h1 => ?_)
    · rw [e2] at h1
      have h1' : i + w.length ≤ s.length := by have := of_decide_eq_true h1; simp only [Int.ofNat_eq_natCast] at this; omega
      have e : wr .i64 ((i : Int) + 1) = ((i + 1 : Nat) : Int) := by rw [wr64] <;> omega
      obtain ⟨f, rfl⟩ : ∃ k, f = k + 1 := ⟨f - 1, by omega⟩
      simp only [holdsF, if_pos h1'] at hR hQ
      repeat first | refine CondP.tt ?_ | refine CondP.ff ?_ | refine Owe.mk (by decide) ?_
      conv => whnf
      repeat ((first | refine CondP.tt ?_ | refine CondP.ff ?_ | refine Owe.mk (by decide) ?_); conv => whnf)
      refine Get.mk i rfl ?_
      repeat first | refine CondP.tt ?_ | refine CondP.ff ?_ | refine Owe.mk (by decide) ?_
      conv => whnf
      repeat ((first | refine CondP.tt ?_ | refine CondP.ff ?_ | refine Owe.mk (by decide) ?_); conv => whnf)
      refine Get.mk (i + w.length) e2 ?_
      repeat first | refine CondP.tt ?_ | refine CondP.ff ?_ | refine Owe.mk (by decide) ?_
      conv => whnf
      repeat ((first | refine CondP.tt ?_ | refine CondP.ff ?_ | refine Owe.mk (by decide) ?_); conv => whnf)
      refine ⟨⟨Nat.le_add_right _ _, h1'⟩, ?_⟩
      repeat first | refine CondP.tt ?_ | refine CondP.ff ?_ | refine Owe.mk (by decide) ?_
      conv => whnf
      repeat ((first | refine CondP.tt ?_ | refine CondP.ff ?_ | refine Owe.mk (by decide) ?_); conv => whnf)
      refine CondP.mk (fun h2 => ?_) (fun h2 => ?_)
      · have h2' := of_decide_eq_true h2
        rw [if_pos h2'] at hR
        repeat first | refine CondP.tt ?_ | refine CondP.ff ?_ | refine Owe.mk (by decide) ?_
        conv => whnf
        repeat ((first | refine CondP.tt ?_ | refine CondP.ff ?_ | refine Owe.mk (by decide) ?_); conv => whnf)
        exact hR rfl
      · have h2' := of_decide_eq_false h2
        rw [if_neg h2'] at hR hQ
        repeat first | refine CondP.tt ?_ | refine CondP.ff ?_ | refine Owe.mk (by decide) ?_
        conv => whnf
        repeat ((first | refine CondP.tt ?_ | refine CondP.ff ?_ | refine Owe.mk (by decide) ?_); conv => whnf)
        rw [e]
        exact holds_L0 s w hs hw vh vn Q f (i + 1) (by omega) (by omega) hR hQ
    · rw [e2] at h1
      have h1' : ¬ i + w.length ≤ s.length := by have := of_decide_eq_false h1; simp only [Int.ofNat_eq_natCast] at this; omega
      have hz : holdsF s w f i = false := by
        cases f with
        | zero => rfl
        | succ f => simp only [holdsF, if_neg h1']
      repeat first | refine CondP.tt ?_ | refine CondP.ff ?_ | refine Owe.mk (by decide) ?_
      conv => whnf
      repeat ((first | refine CondP.tt ?_ | refine CondP.ff ?_ | refine Owe.mk (by decide) ?_); conv => whnf)
      exact hQ hz _ _
termination_by f => f
decreasing_by all_goals omega
theorem holds_ok (hX : X F_ref15_holds = none) (s w : List Nat) (hs : s.length < 2 ^ 40) (hw : w.length < 2 ^ 40) (vh : VH) (vn : Nat) :
    WpCall Tryz.prog X G F_ref15_holds [.str s, .str w] vh vn fun v vh' vn' => vh' = vh ∧ vn' = vn ∧ v = .bool (holdsP s w) := by
  apply k_ref15_holds.run hX
  repeat first | refine CondP.tt ?_ | refine CondP.ff ?_ | refine Owe.mk (by decide) ?_
  conv => whnf
  repeat ((first | refine CondP.tt ?_ | refine CondP.ff ?_ | refine Owe.mk (by decide) ?_); conv => whnf)
  refine holds_L0 s w hs hw vh vn _ (s.length + 1) 0 (by omega) (by omega) (fun h => ?_) (fun h i' t => ?_)
  · repeat first | refine CondP.tt ?_ | refine CondP.ff ?_ | refine Owe.mk (by decide) ?_
    conv => whnf
    repeat ((first | refine CondP.tt ?_ | refine CondP.ff ?_ | refine Owe.mk (by decide) ?_); conv => whnf)
    exact Get.mk _ (fun _ _ h => h) ⟨rfl, rfl, by rw [holdsP, h]⟩
  · repeat first | refine CondP.tt ?_ | refine CondP.ff ?_ | refine Owe.mk (by decide) ?_
    conv => whnf
    repeat ((first | refine CondP.tt ?_ | refine CondP.ff ?_ | refine Owe.mk (by decide) ?_); conv => whnf)
    exact Get.mk _ (fun _ _ h => h) ⟨rfl, rfl, by rw [holdsP, h]⟩
end Go.Proofs.YtpcbnpekdmobpaaGreatDoor

open Go Go.Ev Go.VL
namespace Go.Proofs.YtpcbnpekdmobpaaGreatDoor
attribute [local irreducible] fApp
variable {X : Ovr} {G : Gt}
theorem attr_ext {a b : Attr} (h : decide ([a.p, a.l, a.u, a.v] = [b.p, b.l, b.u, b.v]) = true) : a = b := by
  cases a; cases b; simpa using h
theorem Same_L0 (ba : Nat) (ta : TypeId) (xs ys : List Attr) (hl : xs.length = ys.length) (hN : xs.length < 2 ^ 30) (vh : VH) (vn : Nat) (ha : vh ba = some (.cells (xs.map encA).flatten ta 0 false)) (Q : FQ) : ∀ (m i : Nat), xs.length - i = m → i ≤ xs.length →
    (¬ xs.drop i = ys.drop i → Q .ret [(4, .bool false)] vh vn) →
    (xs.drop i = ys.drop i → ∀ i' t, Q (.exit 0) [(0, .msl ba 0 xs.length 4 none), (1, .sl 4 (ys.map encA) none), (5, .int .i64 i'), (14, .bool t)] vh vn) →
    FLoop Tryz.prog X G (.loop c_ref10_SameAttrs_L0) [(0, .msl ba 0 xs.length 4 none), (1, .sl 4 (ys.map encA) none), (5, .int .i64 (i : Int))] vh vn Q
  | m, i, hm, hi, hR, hQ => by
    refine FLoop.round ?_
    repeat first | refine CondP.tt ?_ | refine CondP.ff ?_ | refine Owe.mk (by decide) ?_
    conv => whnf
    repeat ((first | refine CondP.tt ?_ | refine CondP.ff ?_ | refine Owe.mk (by decide) ?_); conv => whnf)
    refine CondP.mk (fun h1 => ?_) (fun h1 => ?_)
    · have hlt : i < xs.length := by simpa using h1
      have hly : i < ys.length := by omega
      have hd : xs.drop i = xs[i] :: xs.drop (i + 1) := (List.getElem_cons_drop hlt).symm
      have hd2 : ys.drop i = ys[i] :: ys.drop (i + 1) := (List.getElem_cons_drop hly).symm
      rw [hd, hd2] at hR hQ
      have e : wr .i64 ((i : Int) + 1) = ((i + 1 : Nat) : Int) := by rw [wr64] <;> omega
      repeat first | refine CondP.tt ?_ | refine CondP.ff ?_ | refine Owe.mk (by decide) ?_
      conv => whnf
      repeat ((first | refine CondP.tt ?_ | refine CondP.ff ?_ | refine Owe.mk (by decide) ?_); conv => whnf)
      refine Get.mk i ⟨rfl, hlt⟩ ?_
      repeat first | refine CondP.tt ?_ | refine CondP.ff ?_ | refine Owe.mk (by decide) ?_
      conv => whnf
      repeat ((first | refine CondP.tt ?_ | refine CondP.ff ?_ | refine Owe.mk (by decide) ?_); conv => whnf)
      refine Get.mk (_, _, _, _) ha ?_
      conv => whnf
      repeat ((first | refine CondP.tt ?_ | refine CondP.ff ?_ | refine Owe.mk (by decide) ?_); conv => whnf)
      refine Get.mk _ (encA_all hlt) ?_
      repeat first | refine CondP.tt ?_ | refine CondP.ff ?_ | refine Owe.mk (by decide) ?_
      conv => whnf
      repeat ((first | refine CondP.tt ?_ | refine CondP.ff ?_ | refine Owe.mk (by decide) ?_); conv => whnf)
      refine Get.mk (i, encA ys[i]) ⟨rfl, by simp [hly]⟩ ?_
      repeat first | refine CondP.tt ?_ | refine CondP.ff ?_ | refine Owe.mk (by decide) ?_
      conv => whnf
      repeat ((first | refine CondP.tt ?_ | refine CondP.ff ?_ | refine Owe.mk (by decide) ?_); conv => whnf)
      refine CondP.mk (fun h2 => ?_) (fun h2 => ?_)
      · have h2 : (!decide ([xs[i].p, xs[i].l, xs[i].u, xs[i].v] = [ys[i].p, ys[i].l, ys[i].u, ys[i].v])) = true := h2
        repeat first | refine CondP.tt ?_ | refine CondP.ff ?_ | refine Owe.mk (by decide) ?_
        conv => whnf
        repeat ((first | refine CondP.tt ?_ | refine CondP.ff ?_ | refine Owe.mk (by decide) ?_); conv => whnf)
        refine hR fun h => ?_
        rw [(List.cons.inj h).1] at h2
        simp at h2
      · have h2 : (!decide ([xs[i].p, xs[i].l, xs[i].u, xs[i].v] = [ys[i].p, ys[i].l, ys[i].u, ys[i].v])) = false := h2
        have h2' : xs[i] = ys[i] := attr_ext (by simpa using h2)
        repeat first | refine CondP.tt ?_ | refine CondP.ff ?_ | refine Owe.mk (by decide) ?_
        conv => whnf
        repeat ((first | refine CondP.tt ?_ | refine CondP.ff ?_ | refine Owe.mk (by decide) ?_); conv => whnf)
        rw [e]
        refine Same_L0 ba ta xs ys hl hN vh vn ha Q (m - 1) (i + 1) (by omega) (by omega) (fun h => hR fun h3 => h (List.cons.inj h3).2) (fun h => hQ (by rw [h, h2']))
    · have hlt : i = xs.length := by simp at h1; omega
      have e1 : xs.drop i = ys.drop i := by rw [hlt, List.drop_length, hl, List.drop_length]
      repeat first | refine CondP.tt ?_ | refine CondP.ff ?_ | refine Owe.mk (by decide) ?_
      conv => whnf
      repeat ((first | refine CondP.tt ?_ | refine CondP.ff ?_ | refine Owe.mk (by decide) ?_); conv => whnf)
      exact hQ e1 _ _
termination_by m => m
decreasing_by all_goals omega
theorem Same_ok (hX : X F_ref10_SameAttrs = none) (v : V) (xs ys : List Attr) (hN : xs.length < 2 ^ 30) (vh : VH) (vn : Nat) (ha : SlR encA 4 vh v xs) :
    WpCall Tryz.prog X G F_ref10_SameAttrs [v, .sl 4 (ys.map encA) none] vh vn fun r vh' vn' => vh' = vh ∧ vn' = vn ∧ ∃ b, r = .bool b ∧ (b = true ↔ xs = ys) := by
  apply k_ref10_SameAttrs.run hX
  rcases id ha with ⟨rfl, rfl⟩ | ⟨rfl, rfl⟩ | ⟨ba, ta, rfl, h4⟩
  · repeat first | refine CondP.tt ?_ | refine CondP.ff ?_ | refine Owe.mk (by decide) ?_
    conv => whnf
    repeat ((first | refine CondP.tt ?_ | refine CondP.ff ?_ | refine Owe.mk (by decide) ?_); conv => whnf)
    refine CondP.mk (fun h1 => ?_) (fun h1 => ?_)
    · have hne : ys ≠ [] := fun h => by subst h; simp at h1
      repeat first | refine CondP.tt ?_ | refine CondP.ff ?_ | refine Owe.mk (by decide) ?_
      conv => whnf
      repeat ((first | refine CondP.tt ?_ | refine CondP.ff ?_ | refine Owe.mk (by decide) ?_); conv => whnf)
      exact Get.mk _ (fun _ _ h => h) ⟨rfl, rfl, _, rfl, by simp [hne.symm]⟩
    · have hy : ys = [] := List.eq_nil_of_length_eq_zero (by simp at h1; omega)
      subst hy
      repeat first | refine CondP.tt ?_ | refine CondP.ff ?_ | refine Owe.mk (by decide) ?_
      conv => whnf
      repeat ((first | refine CondP.tt ?_ | refine CondP.ff ?_ | refine Owe.mk (by decide) ?_); conv => whnf)
      refine FLoop.round ?_
      repeat first | refine CondP.tt ?_ | refine CondP.ff ?_ | refine Owe.mk (by decide) ?_
      conv => whnf
      repeat ((first | refine CondP.tt ?_ | refine CondP.ff ?_ | refine Owe.mk (by decide) ?_); conv => whnf)
      exact Get.mk _ (fun _ _ h => h) ⟨rfl, rfl, _, rfl, by simp⟩
  · repeat first | refine CondP.tt ?_ | refine CondP.ff ?_ | refine Owe.mk (by decide) ?_
    conv => whnf
    repeat ((first | refine CondP.tt ?_ | refine CondP.ff ?_ | refine Owe.mk (by decide) ?_); conv => whnf)
    refine CondP.mk (fun h1 => ?_) (fun h1 => ?_)
    · have hne : ys ≠ [] := fun h => by subst h; simp at h1
      repeat first | refine CondP.tt ?_ | refine CondP.ff ?_ | refine Owe.mk (by decide) ?_
      conv => whnf
      repeat ((first | refine CondP.tt ?_ | refine CondP.ff ?_ | refine Owe.mk (by decide) ?_); conv => whnf)
      exact Get.mk _ (fun _ _ h => h) ⟨rfl, rfl, _, rfl, by simp [hne.symm]⟩
    · have hy : ys = [] := List.eq_nil_of_length_eq_zero (by simp at h1; omega)
      subst hy
      repeat first | refine CondP.tt ?_ | refine CondP.ff ?_ | refine Owe.mk (by decide) ?_
      conv => whnf
      repeat ((first | refine CondP.tt ?_ | refine CondP.ff ?_ | refine Owe.mk (by decide) ?_); conv => whnf)
      refine FLoop.round ?_
      repeat first | refine CondP.tt ?_ | refine CondP.ff ?_ | refine Owe.mk (by decide) ?_
      conv => whnf
      repeat ((first | refine CondP.tt ?_ | refine CondP.ff ?_ | refine Owe.mk (by decide) ?_); conv => whnf)
      exact Get.mk _ (fun _ _ h => h) ⟨rfl, rfl, _, rfl, by simp⟩
  · repeat first | refine CondP.tt ?_ | refine CondP.ff ?_ | refine Owe.mk (by decide) ?_
    conv => whnf
    repeat ((first | refine CondP.tt ?_ | refine CondP.ff ?_ | refine Owe.mk (by decide) ?_); conv => whnf)
    refine CondP.mk (fun h1 => ?_) (fun h1 => ?_)
    · have hne : xs ≠ ys := fun h => by subst h; simp at h1
      repeat first | refine CondP.tt ?_ | refine CondP.ff ?_ | refine Owe.mk (by decide) ?_
      conv => whnf
      repeat ((first | refine CondP.tt ?_ | refine CondP.ff ?_ | refine Owe.mk (by decide) ?_); conv => whnf)
      exact Get.mk _ (fun _ _ h => h) ⟨rfl, rfl, _, rfl, by simp [hne]⟩
    · have hl : xs.length = ys.length := by simp at h1; omega
      repeat first | refine CondP.tt ?_ | refine CondP.ff ?_ | refine Owe.mk (by decide) ?_
      conv => whnf
      repeat ((first | refine CondP.tt ?_ | refine CondP.ff ?_ | refine Owe.mk (by decide) ?_); conv => whnf)
      refine Same_L0 ba ta xs ys hl hN vh vn h4 _ xs.length 0 rfl (Nat.zero_le _) (fun h => ?_) (fun h i' t => ?_)
      · rw [List.drop_zero, List.drop_zero] at h
        repeat first | refine CondP.tt ?_ | refine CondP.ff ?_ | refine Owe.mk (by decide) ?_
        conv => whnf
        repeat ((first | refine CondP.tt ?_ | refine CondP.ff ?_ | refine Owe.mk (by decide) ?_); conv => whnf)
        exact Get.mk _ (fun _ _ h => h) ⟨rfl, rfl, _, rfl, by simp [h]⟩
      · rw [List.drop_zero, List.drop_zero] at h
        repeat first | refine CondP.tt ?_ | refine CondP.ff ?_ | refine Owe.mk (by decide) ?_
        conv => whnf
        repeat ((first | refine CondP.tt ?_ | refine CondP.ff ?_ | refine Owe.mk (by decide) ?_); conv => whnf)
        exact Get.mk _ (fun _ _ h => h) ⟨rfl, rfl, _, rfl, by simp [h]⟩
end Go.Proofs.YtpcbnpekdmobpaaGreatDoor

open Go Go.Ev Go.VL
namespace Go.Proofs.YtpcbnpekdmobpaaGreatDoor
attribute [local irreducible] fApp
variable {X : Ovr} {G : Gt}
def lowB (c : Nat) : Nat := if 65 ≤ c ∧ c ≤ 90 then c + 32 else c
theorem low_wr (c : Nat) (h : c ≤ 90) : wr .u8 (Int.ofNat c + 32) = Int.ofNat (c + 32) := by
  rw [wr_eq]
  simp only [IntKind.wrap, IntKind.signed, IntKind.bits]
  simp
  omega
theorem byte_get {l : List Nat} {i : Nat} (h : i < l.length) : (l.map byteV)[0 + i * 1]? = some (byteV l[i]) := by
  rw [Nat.zero_add, Nat.mul_one, List.getElem?_map, List.getElem?_eq_getElem h]; rfl
theorem byte_set {l : List Nat} {i : Nat} (h : i < l.length) (c : Nat) : setSeg (l.map byteV) (0 + i * 1) [byteV c] = (l.set i c).map byteV := by
  rw [Nat.zero_add, Nat.mul_one]
  induction l generalizing i with
  | nil => simp at h
  | cons a l ih => cases i with
    | zero => simp [setSeg, app_eq, drp_eq, len_eq]
    | succ i => simp only [List.map_cons, setSeg, List.set_cons_succ, ih (by simpa using h)]
theorem take_setN {α : Type} (xs : List α) (i : Nat) (h : i < xs.length) (a : α) (r : List α) : (xs.set i a).take (i + 1) ++ r = xs.take i ++ (a :: r) := by
  induction xs generalizing i with
  | nil => simp at h
  | cons b xs ih => cases i with
    | zero => simp
    | succ i => have := ih i (by simpa using h); simp only [List.set_cons_succ, List.take_succ_cons, List.cons_append, this]
theorem drop_setN {α : Type} (xs : List α) (i : Nat) (a : α) : (xs.set i a).drop (i + 1) = xs.drop (i + 1) := by
  rw [List.drop_set_of_lt]; omega
theorem lower_L0 (b : Nat) (ty : TypeId) (n : Nat) (hn : n < 2 ^ 40) (vn : Nat) (Q : FQ) : ∀ (m i : Nat), n - i = m → i ≤ n → ∀ (vh : VH) (l : List Nat), l.length = n → vh b = some (.cells (l.map byteV) ty 0 true) →
    (∀ vh' i' t, vh' b = some (.cells ((l.take i ++ (l.drop i).map lowB).map byteV) ty 0 true) → (∀ c, c ≠ b → vh' c = vh c) → Q (.exit 0) [(3, .msl b 0 n 1 none), (4, .int .i64 i'), (10, .bool t)] vh' vn) →
    FLoop Tryz.prog X G (.loop c_ref10_lower_L0) [(3, .msl b 0 n 1 none), (4, .int .i64 (i : Int))] vh vn Q
  | m, i, hm, hi, vh, l, hl, hb, hQ => by
    refine FLoop.round ?_
    repeat first | refine CondP.tt ?_ | refine CondP.ff ?_ | refine Owe.mk (by decide) ?_
    conv => whnf
    repeat ((first | refine CondP.tt ?_ | refine CondP.ff ?_ | refine Owe.mk (by decide) ?_); conv => whnf)
    refine CondP.mk (fun h1 => ?_) (fun h1 => ?_)
    · have hin : i < n := by simpa using h1
      have hlt : i < l.length := by omega
      have hd : l.drop i = l[i] :: l.drop (i + 1) := (List.getElem_cons_drop hlt).symm
      have e : wr .i64 ((i : Int) + 1) = ((i + 1 : Nat) : Int) := by rw [wr64] <;> omega
      rw [hd] at hQ
      repeat first | refine CondP.tt ?_ | refine CondP.ff ?_ | refine Owe.mk (by decide) ?_
      conv => whnf
      repeat ((first | refine CondP.tt ?_ | refine CondP.ff ?_ | refine Owe.mk (by decide) ?_); conv => whnf)
      refine Get.mk i ⟨rfl, hin⟩ ?_
      repeat first | refine CondP.tt ?_ | refine CondP.ff ?_ | refine Owe.mk (by decide) ?_
      conv => whnf
      repeat ((first | refine CondP.tt ?_ | refine CondP.ff ?_ | refine Owe.mk (by decide) ?_); conv => whnf)
      refine Get.mk (_, _, _, _) hb ?_
      conv => whnf
      repeat ((first | refine CondP.tt ?_ | refine CondP.ff ?_ | refine Owe.mk (by decide) ?_); conv => whnf)
      refine Get.mk _ (byte_get hlt) ?_
      repeat first | refine CondP.tt ?_ | refine CondP.ff ?_ | refine Owe.mk (by decide) ?_
      conv => whnf
      repeat ((first | refine CondP.tt ?_ | refine CondP.ff ?_ | refine Owe.mk (by decide) ?_); conv => whnf)
      have same : ¬ (65 ≤ l[i] ∧ l[i] ≤ 90) → FLoop Tryz.prog X G (.loop c_ref10_lower_L0) [(3, .msl b 0 n 1 none), (4, .int .i64 ((i + 1 : Nat) : Int))] vh vn Q := fun h => by
        refine lower_L0 b ty n hn vn Q (m - 1) (i + 1) (by omega) (by omega) vh l hl hb fun vh' i' t h1 h2 => hQ vh' i' t ?_ h2
        have := take_setN l i hlt l[i] ((l.drop (i + 1)).map lowB)
        rw [List.set_getElem_self] at this
        rw [this] at h1
        rw [List.map_cons, lowB, if_neg h]
        exact h1
      refine CondP.mk (fun h2 => ?_) (fun h2 => ?_)
      · have h2' : 65 ≤ l[i] := by have := of_decide_eq_true h2; simp only [Int.ofNat_eq_natCast] at this; omega
        repeat first | refine CondP.tt ?_ | refine CondP.ff ?_ | refine Owe.mk (by decide) ?_
        conv => whnf
        repeat ((first | refine CondP.tt ?_ | refine CondP.ff ?_ | refine Owe.mk (by decide) ?_); conv => whnf)
        refine Get.mk i ⟨rfl, hin⟩ ?_
        repeat first | refine CondP.tt ?_ | refine CondP.ff ?_ | refine Owe.mk (by decide) ?_
        conv => whnf
        repeat ((first | refine CondP.tt ?_ | refine CondP.ff ?_ | refine Owe.mk (by decide) ?_); conv => whnf)
        refine Get.mk (_, _, _, _) hb ?_
        conv => whnf
        repeat ((first | refine CondP.tt ?_ | refine CondP.ff ?_ | refine Owe.mk (by decide) ?_); conv => whnf)
        refine Get.mk _ (byte_get hlt) ?_
        repeat first | refine CondP.tt ?_ | refine CondP.ff ?_ | refine Owe.mk (by decide) ?_
        conv => whnf
        repeat ((first | refine CondP.tt ?_ | refine CondP.ff ?_ | refine Owe.mk (by decide) ?_); conv => whnf)
        refine CondP.mk (fun h3 => ?_) (fun h3 => ?_)
        · have h3' : l[i] ≤ 90 := by have := of_decide_eq_true h3; simp only [Int.ofNat_eq_natCast] at this; omega
          repeat first | refine CondP.tt ?_ | refine CondP.ff ?_ | refine Owe.mk (by decide) ?_
          conv => whnf
          repeat ((first | refine CondP.tt ?_ | refine CondP.ff ?_ | refine Owe.mk (by decide) ?_); conv => whnf)
          refine Get.mk i ⟨rfl, hin⟩ ?_
          repeat first | refine CondP.tt ?_ | refine CondP.ff ?_ | refine Owe.mk (by decide) ?_
          conv => whnf
          repeat ((first | refine CondP.tt ?_ | refine CondP.ff ?_ | refine Owe.mk (by decide) ?_); conv => whnf)
          refine Get.mk (_, _, _, _) hb ?_
          conv => whnf
          repeat ((first | refine CondP.tt ?_ | refine CondP.ff ?_ | refine Owe.mk (by decide) ?_); conv => whnf)
          refine Get.mk _ (byte_get hlt) ?_
          repeat first | refine CondP.tt ?_ | refine CondP.ff ?_ | refine Owe.mk (by decide) ?_
          conv => whnf
          repeat ((first | refine CondP.tt ?_ | refine CondP.ff ?_ | refine Owe.mk (by decide) ?_); conv => whnf)
          refine Get.mk i ⟨rfl, hin⟩ ?_
          repeat first | refine CondP.tt ?_ | refine CondP.ff ?_ | refine Owe.mk (by decide) ?_
          conv => whnf
          repeat ((first | refine CondP.tt ?_ | refine CondP.ff ?_ | refine Owe.mk (by decide) ?_); conv => whnf)
          refine Get.mk (_, _, _, _) hb ?_
          conv => whnf
          repeat ((first | refine CondP.tt ?_ | refine CondP.ff ?_ | refine Owe.mk (by decide) ?_); conv => whnf)
          refine ⟨⟨by show _ ≤ (l.map byteV).length; rw [List.length_map]; omega, Nat.zero_le _⟩, ?_⟩
          repeat first | refine CondP.tt ?_ | refine CondP.ff ?_ | refine Owe.mk (by decide) ?_
          conv => whnf
          repeat ((first | refine CondP.tt ?_ | refine CondP.ff ?_ | refine Owe.mk (by decide) ?_); conv => whnf)
          generalize hv : vset vh b _ = vh1
          have hb1 : vh1 b = some (.cells ((l.set i (l[i] + 32)).map byteV) ty 0 true) := by
            rw [← hv]
            refine vset_same.trans ?_
            show some (VB.cells (setSeg (l.map byteV) (0 + i * 1) [.int .u8 (wr .u8 (Int.ofNat l[i] + 32))]) ty 0 true) = _
            rw [low_wr _ h3', ← byte_set hlt]; rfl
          have hf1 : ∀ c, c ≠ b → vh1 c = vh c := fun c hc => by rw [← hv]; exact vset_ne hc
          rw [e]
          refine lower_L0 b ty n hn vn Q (m - 1) (i + 1) (by omega) (by omega) vh1 _ (by rw [List.length_set]; exact hl) hb1 fun vh' i' t h1 h2 => hQ vh' i' t ?_ fun c hc => (h2 c hc).trans (hf1 c hc)
          rw [take_setN l i hlt, drop_setN] at h1
          rw [List.map_cons, lowB, if_pos ⟨h2', h3'⟩]
          exact h1
        · have h3' : ¬ l[i] ≤ 90 := by have := of_decide_eq_false h3; simp only [Int.ofNat_eq_natCast] at this; omega
          repeat first | refine CondP.tt ?_ | refine CondP.ff ?_ | refine Owe.mk (by decide) ?_
          conv => whnf
          repeat ((first | refine CondP.tt ?_ | refine CondP.ff ?_ | refine Owe.mk (by decide) ?_); conv => whnf)
          rw [e]
          exact same fun h => h3' h.2
      · have h2' : ¬ 65 ≤ l[i] := by have := of_decide_eq_false h2; simp only [Int.ofNat_eq_natCast] at this; omega
        repeat first | refine CondP.tt ?_ | refine CondP.ff ?_ | refine Owe.mk (by decide) ?_
        conv => whnf
        repeat ((first | refine CondP.tt ?_ | refine CondP.ff ?_ | refine Owe.mk (by decide) ?_); conv => whnf)
        rw [e]
        exact same fun h => h2' h.1
    · have hlt : i = l.length := by simp at h1; omega
      rw [hlt, List.drop_length, List.take_length] at hQ
      repeat first | refine CondP.tt ?_ | refine CondP.ff ?_ | refine Owe.mk (by decide) ?_
      conv => whnf
      repeat ((first | refine CondP.tt ?_ | refine CondP.ff ?_ | refine Owe.mk (by decide) ?_); conv => whnf)
      exact hQ vh _ _ (by simpa using hb) fun _ _ => rfl
termination_by m => m
decreasing_by all_goals omega
def lowP (s : List Nat) : List Nat := s.map lowB
theorem lower_ok (hX : X F_ref10_lower = none) (s : List Nat) (hs : s.length < 2 ^ 40) (hB : ∀ c ∈ s, c < 256) (vh : VH) (vn : Nat) :
    WpCall Tryz.prog X G F_ref10_lower [.str s] vh vn fun v vh' vn' => vn ≤ vn' ∧ (∀ c, c < vn → vh' c = vh c) ∧ v = .str (lowP s) := by
  apply k_ref10_lower.run hX
  repeat first | refine CondP.tt ?_ | refine CondP.ff ?_ | refine Owe.mk (by decide) ?_
  conv => whnf
  repeat ((first | refine CondP.tt ?_ | refine CondP.ff ?_ | refine Owe.mk (by decide) ?_); conv => whnf)
  refine lower_L0 vn T_uint8 s.length hs (vn + 1) _ s.length 0 rfl (Nat.zero_le _) _ s rfl vset_same fun vh' i' t h1 h2 => ?_
  rw [List.drop_zero, List.take_zero, List.nil_append] at h1
  repeat first | refine CondP.tt ?_ | refine CondP.ff ?_ | refine Owe.mk (by decide) ?_
  conv => whnf
  repeat ((first | refine CondP.tt ?_ | refine CondP.ff ?_ | refine Owe.mk (by decide) ?_); conv => whnf)
  refine Get.mk (_, _, _, _) h1 ?_
  conv => whnf
  repeat ((first | refine CondP.tt ?_ | refine CondP.ff ?_ | refine Owe.mk (by decide) ?_); conv => whnf)
  refine Get.mk (lowP s) ⟨?_, ?_, ?_⟩ ?_
  · show ((((s.map lowB).map byteV).drop 0).take s.length) = _
    rw [List.drop_zero, List.take_of_length_le (by simp)]; rfl
  · show 0 + s.length ≤ ((s.map lowB).map byteV).length
    simp
  · intro c hc
    obtain ⟨d, hd, rfl⟩ := List.mem_map.1 hc
    have := hB d hd
    unfold lowB
    split <;> omega
  repeat first | refine CondP.tt ?_ | refine CondP.ff ?_ | refine Owe.mk (by decide) ?_
  conv => whnf
  repeat ((first | refine CondP.tt ?_ | refine CondP.ff ?_ | refine Owe.mk (by decide) ?_); conv => whnf)
  exact Get.mk _ (fun _ _ h => h) ⟨Nat.le_succ _, fun c hc => (h2 c (by omega)).trans (vset_ne (by omega)), rfl⟩
end Go.Proofs.YtpcbnpekdmobpaaGreatDoor

open Go Go.Ev Go.VL
namespace Go.Proofs.YtpcbnpekdmobpaaGreatDoor
attribute [local irreducible] fApp
variable {X : Ovr} {G : Gt}
def targetP (s : List Nat) : Bool := ncP s && !decide (lowP s = S_xml)
theorem Target_ok (H : XN X) (hX : X F_ref10_lower = none) (hX' : X F_ref10_Target = none) (s : List Nat) (hs : s.length < 2 ^ 40) (hB : ∀ c ∈ s, c < 256) (vh : VH) (vn : Nat) :
    WpCall Tryz.prog X G F_ref10_Target [.str s] vh vn fun v vh' vn' => vn ≤ vn' ∧ (∀ c, c < vn → vh' c = vh c) ∧ v = .bool (targetP s) := by
  apply k_ref10_Target.run hX'
  repeat first | refine CondP.tt ?_ | refine CondP.ff ?_ | refine Owe.mk (by decide) ?_
  conv => whnf
  repeat ((first | refine CondP.tt ?_ | refine CondP.ff ?_ | refine Owe.mk (by decide) ?_); conv => whnf)
  refine (H.nc_ok s hs vh vn).mono fun v vh' vn' he => ?_
  obtain ⟨e1, e2, e3⟩ := he
  subst e1; subst e2; subst e3
  repeat first | refine CondP.tt ?_ | refine CondP.ff ?_ | refine Owe.mk (by decide) ?_
  conv => whnf
  repeat ((first | refine CondP.tt ?_ | refine CondP.ff ?_ | refine Owe.mk (by decide) ?_); conv => whnf)
  refine CondP.mk (fun h1 => ?_) (fun h1 => ?_)
  · repeat first | refine CondP.tt ?_ | refine CondP.ff ?_ | refine Owe.mk (by decide) ?_
    conv => whnf
    repeat ((first | refine CondP.tt ?_ | refine CondP.ff ?_ | refine Owe.mk (by decide) ?_); conv => whnf)
    refine (lower_ok hX s hs hB _ _).mono fun v vh2 vn2 he => ?_
    obtain ⟨e1, e2, e3⟩ := he
    subst e3
    repeat first | refine CondP.tt ?_ | refine CondP.ff ?_ | refine Owe.mk (by decide) ?_
    conv => whnf
    repeat ((first | refine CondP.tt ?_ | refine CondP.ff ?_ | refine Owe.mk (by decide) ?_); conv => whnf)
    exact Get.mk _ (fun _ _ h => h) ⟨e1, e2, by simp [targetP, h1]⟩
  · repeat first | refine CondP.tt ?_ | refine CondP.ff ?_ | refine Owe.mk (by decide) ?_
    conv => whnf
    repeat ((first | refine CondP.tt ?_ | refine CondP.ff ?_ | refine Owe.mk (by decide) ?_); conv => whnf)
    exact Get.mk _ (fun _ _ h => h) ⟨Nat.le_refl _, fun _ _ => rfl, by simp [targetP, h1]⟩
end Go.Proofs.YtpcbnpekdmobpaaGreatDoor

