/- TreeNexts is true for every list of numbers and every number, and what it rests on; no condition. -/
import Derived.Test.YtpcbnpekdmobpaaGreatDoorNxF
set_option linter.unusedSimpArgs false
set_option linter.unusedVariables false
set_option linter.constructorNameAsVariable false
set_option linter.unnecessarySimpa false
open Go Go.Ev Go.VL
namespace Go.Proofs.YtpcbnpekdmobpaaGreatDoor
attribute [local irreducible] fApp
variable {X : Ovr} {G : Gt}
theorem sdeclares_ok (hX : X F_scope_Declares = none) (a : Attr) (vh : VH) (vn : Nat) :
    WpCall Tryz.prog X G F_scope_Declares [.agg (encA a)] vh vn fun v vh' vn' => vh' = vh ∧ vn' = vn ∧ v = .tup [.str (declares a).1, .bool (declares a).2] := by
  apply k_scope_Declares.run hX
  conv => whnf
  repeat' ((first | refine CondP.mk (fun _ => ?_) (fun _ => ?_)) <;> (conv => whnf))
  all_goals
    refine Get.mk vh (fun _ _ h => h) ⟨rfl, rfl, ?_⟩
    simp_all [declares]
def wrongP (a : Attr) : Bool :=
  if a.p = [] then decide (a.v = XMLURI) || decide (a.v = XMLNSURI)
  else if decide (a.l = S_xmlns) || decide (a.v = XMLNSURI) then true
  else if decide (a.l = S_xml) || decide (a.v = XMLURI) then !decide (a.l = S_xml) || !decide (a.v = XMLURI)
  else decide (a.v = [])
theorem wrong_ok (hX : X F_scope_wrong = none) (a : Attr) (vh : VH) (vn : Nat) :
    WpCall Tryz.prog X G F_scope_wrong [.agg (encA a)] vh vn fun v vh' vn' => vh' = vh ∧ vn' = vn ∧ v = .bool (wrongP a) := by
  apply k_scope_wrong.run hX
  conv => whnf
  repeat' ((first | refine CondP.mk (fun _ => ?_) (fun _ => ?_)) <;> (conv => whnf))
  all_goals
    refine Get.mk vh (fun _ _ h => h) ⟨rfl, rfl, ?_⟩
    simp_all [wrongP]
theorem pc1_ok (hX : X F_scope_Scope_Push_c1 = none) (a b : Attr) (vh : VH) (vn : Nat) :
    WpCall Tryz.prog X G F_scope_Scope_Push_c1 [.agg (encA b), .fp (encA a) 0] vh vn fun v vh' vn' => vh' = vh ∧ vn' = vn ∧ v = .bool (sameName a b) := by
  apply k_scope_Scope_Push_c1.run hX
  conv => whnf
  repeat' ((first | refine CondP.mk (fun _ => ?_) (fun _ => ?_)) <;> (conv => whnf))
  all_goals
    refine Get.mk vh (fun _ _ h => h) ⟨rfl, rfl, ?_⟩
    simp_all [sameName]
theorem ec1_ok (hX : X F_tree_element_c1 = none) (a b : Attr) (vh : VH) (vn : Nat) :
    WpCall Tryz.prog X G F_tree_element_c1 [.agg (encA b), .fp (encA a) 0] vh vn fun v vh' vn' => vh' = vh ∧ vn' = vn ∧ v = .bool (sameName a b) := by
  apply k_tree_element_c1.run hX
  conv => whnf
  repeat' ((first | refine CondP.mk (fun _ => ?_) (fun _ => ?_)) <;> (conv => whnf))
  all_goals
    refine Get.mk vh (fun _ _ h => h) ⟨rfl, rfl, ?_⟩
    simp_all [sameName]
def SlA (vh : VH) (v : V) (xs : List Attr) : Prop := SlR encA 4 vh v xs ∨ ∃ c, v = .sl 4 (xs.map encA) c
theorem IdxM_L0 (p : Attr → Bool) (g : FuncId) (cs : List V) (hg : ∀ b vh vn, WpCall Tryz.prog X G g (.agg (encA b) :: cs) vh vn fun v vh' vn' => vh' = vh ∧ vn' = vn ∧ v = .bool (p b)) (bv : Nat) (tv : TypeId) (xs : List Attr) (hN : xs.length < 2 ^ 30) (vh : VH) (vn : Nat) (hb : vh bv = some (.cells (xs.map encA).flatten tv 0 false)) (Q : FQ) : ∀ (m i : Nat), xs.length - i = m → i ≤ xs.length →
    ((xs.drop i).any p = true → ∀ j : Nat, Q .ret [(4, .int .i64 (j : Int))] vh vn) →
    ((xs.drop i).any p = false → ∀ i' t, Q (.exit 0) [(0, .msl bv 0 xs.length 4 none), (1, .func g [] cs), (7, .int .i64 (xs.length : Int)), (8, .int .i64 i'), (9, .bool t)] vh vn) →
    FLoop Tryz.prog X G (.loop c_slices_IndexFunc_Lapi_Attr_api_Attr_L0) [(0, .msl bv 0 xs.length 4 none), (1, .func g [] cs), (7, .int .i64 (xs.length : Int)), (8, .int .i64 (i : Int))] vh vn Q
  | m, i, hm, hi, hR, hQ => by
    refine FLoop.round ?_
    conv => whnf
    refine CondP.mk (fun h1 => ?_) (fun h1 => ?_)
    · have hlt : i < xs.length := by simp at h1; omega
      have hd : xs.drop i = xs[i] :: xs.drop (i + 1) := (List.getElem_cons_drop hlt).symm
      rw [hd, List.any_cons] at hR hQ
      have e : wr .i64 ((i : Int) + 1) = ((i + 1 : Nat) : Int) := by rw [wr64] <;> omega
      conv => whnf
      refine Get.mk i ⟨rfl, hlt⟩ ?_
      conv => whnf
      refine Get.mk (_, _, _, _) hb ?_
      conv => whnf
      refine Get.mk _ (encA_all hlt) ?_
      conv => whnf
      refine (hg xs[i] vh vn).mono fun v vh' vn' he => ?_
      obtain ⟨e1, e2, e3⟩ := he
      rw [e1, e2, e3]
      conv => whnf
      refine CondP.mk (fun h2 => ?_) (fun h2 => ?_)
      · rw [h2] at hR
        conv => whnf
        exact hR rfl i
      · rw [h2, Bool.false_or] at hR hQ
        conv => whnf
        rw [e]
        exact IdxM_L0 p g cs hg bv tv xs hN vh vn hb Q (m - 1) (i + 1) (by omega) (by omega) hR hQ
    · have hlt : i = xs.length := by simp at h1; omega
      rw [hlt, List.drop_length] at hQ
      conv => whnf
      exact hQ rfl _ _
termination_by m => m
decreasing_by all_goals omega
theorem IdxF_L0 (p : Attr → Bool) (g : FuncId) (cs : List V) (hg : ∀ b vh vn, WpCall Tryz.prog X G g (.agg (encA b) :: cs) vh vn fun v vh' vn' => vh' = vh ∧ vn' = vn ∧ v = .bool (p b)) (c : Option Nat) (xs : List Attr) (hN : xs.length < 2 ^ 30) (vh : VH) (vn : Nat) (Q : FQ) : ∀ (m i : Nat), xs.length - i = m → i ≤ xs.length →
    ((xs.drop i).any p = true → ∀ j : Nat, Q .ret [(4, .int .i64 (j : Int))] vh vn) →
    ((xs.drop i).any p = false → ∀ i' t, Q (.exit 0) [(0, .sl 4 (xs.map encA) c), (1, .func g [] cs), (7, .int .i64 (xs.length : Int)), (8, .int .i64 i'), (9, .bool t)] vh vn) →
    FLoop Tryz.prog X G (.loop c_slices_IndexFunc_Lapi_Attr_api_Attr_L0) [(0, .sl 4 (xs.map encA) c), (1, .func g [] cs), (7, .int .i64 (xs.length : Int)), (8, .int .i64 (i : Int))] vh vn Q
  | m, i, hm, hi, hR, hQ => by
    refine FLoop.round ?_
    conv => whnf
    refine CondP.mk (fun h1 => ?_) (fun h1 => ?_)
    · have hlt : i < xs.length := by simp at h1; omega
      have hd : xs.drop i = xs[i] :: xs.drop (i + 1) := (List.getElem_cons_drop hlt).symm
      rw [hd, List.any_cons] at hR hQ
      have e : wr .i64 ((i : Int) + 1) = ((i + 1 : Nat) : Int) := by rw [wr64] <;> omega
      conv => whnf
      refine Get.mk (i, encA xs[i]) ⟨rfl, by simp [hlt]⟩ ?_
      conv => whnf
      refine (hg xs[i] vh vn).mono fun v vh' vn' he => ?_
      obtain ⟨e1, e2, e3⟩ := he
      rw [e1, e2, e3]
      conv => whnf
      refine CondP.mk (fun h2 => ?_) (fun h2 => ?_)
      · rw [h2] at hR
        conv => whnf
        exact hR rfl i
      · rw [h2, Bool.false_or] at hR hQ
        conv => whnf
        rw [e]
        exact IdxF_L0 p g cs hg c xs hN vh vn Q (m - 1) (i + 1) (by omega) (by omega) hR hQ
    · have hlt : i = xs.length := by simp at h1; omega
      rw [hlt, List.drop_length] at hQ
      conv => whnf
      exact hQ rfl _ _
termination_by m => m
decreasing_by all_goals omega
theorem Index_ok (hX : X F_slices_IndexFunc_Lapi_Attr_api_Attr = none) (p : Attr → Bool) (g : FuncId) (cs : List V) (hg : ∀ b vh vn, WpCall Tryz.prog X G g (.agg (encA b) :: cs) vh vn fun v vh' vn' => vh' = vh ∧ vn' = vn ∧ v = .bool (p b)) (v : V) (xs : List Attr) (hN : xs.length < 2 ^ 30) (vh : VH) (vn : Nat) (hv : SlA vh v xs) :
    WpCall Tryz.prog X G F_slices_IndexFunc_Lapi_Attr_api_Attr [v, .func g [] cs] vh vn fun r vh' vn' => vh' = vh ∧ vn' = vn ∧ ((xs.any p = true ∧ ∃ j : Nat, r = .int .i64 (j : Int)) ∨ (xs.any p = false ∧ r = .int .i64 (-1))) := by
  apply k_slices_IndexFunc_Lapi_Attr_api_Attr.run hX
  rcases hv with (⟨rfl, rfl⟩ | ⟨rfl, rfl⟩ | ⟨b, ty, rfl, hb⟩) | ⟨c, rfl⟩
  · conv => whnf
    refine FLoop.round ?_
    conv => whnf
    exact Get.mk _ (fun _ _ h => h) ⟨rfl, rfl, .inr ⟨rfl, rfl⟩⟩
  · conv => whnf
    refine FLoop.round ?_
    conv => whnf
    exact Get.mk _ (fun _ _ h => h) ⟨rfl, rfl, .inr ⟨rfl, rfl⟩⟩
  · conv => whnf
    refine IdxM_L0 p g cs hg b ty xs hN vh vn hb _ xs.length 0 rfl (Nat.zero_le _) (fun h j => ?_) (fun h i' t => ?_)
    · conv => whnf
      exact Get.mk _ (fun _ _ h => h) ⟨rfl, rfl, .inl ⟨h, j, rfl⟩⟩
    · conv => whnf
      exact Get.mk _ (fun _ _ h => h) ⟨rfl, rfl, .inr ⟨h, rfl⟩⟩
  · conv => whnf
    have hl : Int.ofNat (xs.map encA).length = (xs.length : Int) := by simp
    rw [hl]
    refine IdxF_L0 p g cs hg c xs hN vh vn _ xs.length 0 rfl (Nat.zero_le _) (fun h j => ?_) (fun h i' t => ?_)
    · conv => whnf
      exact Get.mk _ (fun _ _ h => h) ⟨rfl, rfl, .inl ⟨h, j, rfl⟩⟩
    · conv => whnf
      exact Get.mk _ (fun _ _ h => h) ⟨rfl, rfl, .inr ⟨h, rfl⟩⟩
theorem Contains_ok (hX : X F_slices_IndexFunc_Lapi_Attr_api_Attr = none) (hX' : X F_slices_ContainsFunc_Lapi_Attr_api_Attr = none) (p : Attr → Bool) (g : FuncId) (cs : List V) (hg : ∀ b vh vn, WpCall Tryz.prog X G g (.agg (encA b) :: cs) vh vn fun v vh' vn' => vh' = vh ∧ vn' = vn ∧ v = .bool (p b)) (v : V) (xs : List Attr) (hN : xs.length < 2 ^ 30) (vh : VH) (vn : Nat) (hv : SlA vh v xs) :
    WpCall Tryz.prog X G F_slices_ContainsFunc_Lapi_Attr_api_Attr [v, .func g [] cs] vh vn fun r vh' vn' => vh' = vh ∧ vn' = vn ∧ r = .bool (xs.any p) := by
  apply k_slices_ContainsFunc_Lapi_Attr_api_Attr.run hX'
  have key := Index_ok (G := G) hX p g cs hg v xs hN vh vn hv
  rcases hv with (⟨rfl, rfl⟩ | ⟨rfl, rfl⟩ | ⟨b, ty, rfl, hb⟩) | ⟨c, rfl⟩
  all_goals
    conv => whnf
    refine key.mono fun r vh' vn' he => ?_
    obtain ⟨e1, e2, ⟨e3, j, e4⟩ | ⟨e3, e4⟩⟩ := he
    · rw [e1, e2, e4]
      conv => whnf
      exact Get.mk _ (fun _ _ h => h) ⟨rfl, rfl, by rw [e3]; simp⟩
    · rw [e1, e2, e4]
      conv => whnf
      exact Get.mk _ (fun _ _ h => h) ⟨rfl, rfl, by rw [e3]; rfl⟩
end Go.Proofs.YtpcbnpekdmobpaaGreatDoor
open Go Go.Ev Go.VL
namespace Go.Proofs.YtpcbnpekdmobpaaGreatDoor
attribute [local irreducible] fApp
variable {X : Ovr} {G : Gt}
theorem len1 {α : Type} {enc : α → List V} (hl : ∀ a, (enc a).length = 1) (xs : List α) : (xs.map enc).flatten.length = xs.length := by
  rw [flat_len hl, Nat.mul_one]
theorem set_at : ∀ (l : List V) (v : V) (r : List V), setSeg (l ++ r) l.length [v] = l ++ v :: r.drop 1
  | [], v, r => by cases r <;> simp [setSeg, app_eq, drp_eq, len_eq]
  | a :: l, v, r => by simp only [List.cons_append, List.length_cons, setSeg, set_at l v r]
theorem app_spare {α : Type} {enc : α → List V} {by' : Nat} {ty : TypeId} {vh : VH} {nx b : Nat} {xs : List α} {rest : List V} (hl : ∀ a, (enc a).length = 1) (hb : vh b = some (.cells ((xs.map enc).flatten ++ rest) ty 0 false)) (hbn : b < nx) (a : α) (hroom : room by' (xs.length + 1)) {env : VEnv} {k : V → VEnv → VH → Nat → Prop}
    (hk : ∀ b' vh' nx' rest', (b' = b ∧ nx' = nx) ∨ (b' = nx ∧ nx' = nx + 1) → vh' b' = some (.cells (((xs ++ [a]).map enc).flatten ++ rest') ty 0 false) → (∀ d, d ≠ nx → d ≠ b → vh' d = vh d) → k (.msl b' 0 (xs ++ [a]).length 1 none) env vh' nx') : fApp 1 by' ty (.msl b 0 xs.length 1 none) (enc a) 1 env vh nx k := by
  have hfl := len1 hl xs
  obtain ⟨v, hv⟩ : ∃ v, enc a = [v] := List.length_eq_one_iff.1 (hl a)
  simp only [fApp, beq_iff.2 (rfl : 1 = 1), cond_true]
  conv => whnf
  refine ⟨((xs.map enc).flatten ++ rest, ty, 0, false), hb, ?_⟩
  simp only
  refine .mk (fun h => ?_) fun h => ?_
  · have h := ble_iff.1 h
    simp only [List.length_append, hfl, Nat.sub_zero, Nat.div_one] at h
    refine ⟨⟨by simp only [List.length_append, hfl]; omega, Nat.zero_le _⟩, ?_⟩
    have := hk b (vset vh b (.cells (setSeg ((xs.map enc).flatten ++ rest) (0 + xs.length * 1) (enc a)) ty 0 false)) nx (rest.drop 1) (.inl ⟨rfl, rfl⟩) ?_ (fun d h1 h2 => vset_ne h2)
    · rw [List.length_append, List.length_singleton] at this; exact this
    · rw [vset_same, Nat.zero_add, Nat.mul_one, ← hfl, hv, set_at]
      simp [hv]
  · have h1 : ¬ xs.length + 1 ≤ (((xs.map enc).flatten ++ rest).length - 0) / 1 := fun h2 => by rw [ble_iff.2 h2] at h; cases h
    simp only [List.length_append, hfl, Nat.sub_zero, Nat.div_one] at h1
    have hr : rest = [] := List.eq_nil_of_length_eq_zero (by omega)
    subst hr
    refine ⟨⟨trivial, by rw [List.append_nil, hfl]; omega, Nat.zero_le _, trivial, hroom⟩, ?_⟩
    have := hk nx (vset (vdel vh b) nx (.cells (((xs.map enc).flatten ++ []).take (xs.length * 1) ++ enc a) ty (Ev.fzOff 0 0) false)) (nx + 1) [] (.inr ⟨rfl, rfl⟩) ?_ (fun d h1 h2 => by rw [vset_ne h1, vdel_ne h2])
    · rw [List.length_append, List.length_singleton] at this; exact this
    · rw [vset_same, List.append_nil, List.take_of_length_le (by rw [hfl]; omega)]
      simp [fzOff]
def encLv (l : List Attr) : List V := [.ifc T_Lapi_Attr (.sl 4 (l.map encA) none)]
theorem encLv_len (l : List Attr) : (encLv l).length = 1 := rfl
def SP (vh : VH) (b : Nat) (o : Option Nat) (lv : List (List Attr)) : Prop := ∃ ty, match o with
  | none => lv = [] ∧ vh b = some (.cells [.nils] ty 0 false)
  | some bl => bl ≠ b ∧ ∃ rest, vh b = some (.cells [.msl bl 0 lv.length 1 none] ty 0 false) ∧ vh bl = some (.cells ((lv.map encLv).flatten ++ rest) T_interface 0 false)
theorem SP.at {vh vh' : VH} {b : Nat} {o : Option Nat} {lv : List (List Attr)} (h : SP vh b o lv) (hb : vh' b = vh b) (ho : ∀ c, o = some c → vh' c = vh c) : SP vh' b o lv := by
  obtain ⟨ty, h⟩ := h
  cases o with
  | none => exact ⟨ty, h.1, hb.trans h.2⟩
  | some bl =>
    obtain ⟨h1, rest, h2, h3⟩ := h
    exact ⟨ty, h1, rest, hb.trans h2, (ho bl rfl).trans h3⟩
structure XS (X : Ovr) : Prop where
  declares : X F_scope_Declares = none
  wrong : X F_scope_wrong = none
  c1 : X F_scope_Scope_Push_c1 = none
  index : X F_slices_IndexFunc_Lapi_Attr_api_Attr = none
  contains : X F_slices_ContainsFunc_Lapi_Attr_api_Attr = none
  push : X F_scope_Scope_Push = none
  depth : X F_scope_Scope_Depth = none
  pop : X F_scope_Scope_Pop = none
  level : X F_scope_Scope_level = none
  uri : X F_scope_Scope_URI = none
def pushT : List Attr → List Attr → Option (List Attr)
  | m, [] => some m
  | m, a :: l => if (declares a).2 = true then (if wrongP a = true then none else if m.any (sameName a) = true then none else pushT (m ++ [a]) l) else pushT m l
end Go.Proofs.YtpcbnpekdmobpaaGreatDoor
open Go Go.Ev Go.VL
namespace Go.Proofs.YtpcbnpekdmobpaaGreatDoor
attribute [local irreducible] fApp declares wrongP
variable {X : Ovr} {G : Gt}
set_option maxHeartbeats 4000000 in
theorem SPush_L0M (H : XS X) (b : Nat) (bv : Nat) (tv : TypeId) (xs : List Attr) (hxs : xs.length < 2 ^ 30) (lo : Nat) (hbv : bv < lo) (Q : FQ) : ∀ (m i : Nat), xs.length - i = m → i ≤ xs.length → ∀ (vh : VH) (vn : Nat) (mv : V) (ms : List Attr), vh bv = some (.cells (xs.map encA).flatten tv 0 false) → lo ≤ vn → Attrs lo vh vn mv ms → ms.length ≤ i →
    (pushT ms (xs.drop i) = none → ∀ vh' vn', vn ≤ vn' → (∀ c, c < lo → vh' c = vh c) → Q .ret [(4, .int .i64 2)] vh' vn') →
    (∀ ms', pushT ms (xs.drop i) = some ms' → ∀ mv' vh' vn' i' t, ms'.length ≤ xs.length → Attrs lo vh' vn' mv' ms' → vn ≤ vn' → (∀ c, c < lo → vh' c = vh c) → Q (.exit 0) [(0, .ptr b 0), (5, mv'), (12, .msl bv 0 xs.length 4 none), (13, .int .i64 (xs.length : Int)), (14, .int .i64 i'), (15, .bool t)] vh' vn') →
    FLoop Tryz.prog X G (.loop c_scope_Scope_Push_L0) [(0, .ptr b 0), (5, mv), (12, .msl bv 0 xs.length 4 none), (13, .int .i64 (xs.length : Int)), (14, .int .i64 (i : Int))] vh vn Q
  | m, i, hm, hi, vh, vn, mv, ms, hvb, hlo, A, hms, hR, hQ => by
    refine FLoop.round ?_
    have hcon := fun a vh vn hv => Contains_ok (G := G) H.index H.contains (sameName a) F_scope_Scope_Push_c1 [.fp (encA a) 0] (fun b vh vn => pc1_ok H.c1 a b vh vn) mv ms (by omega) vh vn hv
    rcases id A with ⟨rfl | rfl, rfl⟩ | ⟨bm, hb1, hb2, rfl, hb4⟩
    all_goals
      conv => whnf
      refine CondP.mk (fun h1 => ?_) (fun h1 => ?_)
      · have hlt : i < xs.length := by simp at h1; omega
        have hd : xs.drop i = xs[i] :: xs.drop (i + 1) := (List.getElem_cons_drop hlt).symm
        rw [hd] at hR hQ
        simp only [pushT] at hR hQ
        have e : wr .i64 ((i : Int) + 1) = ((i + 1 : Nat) : Int) := by rw [wr64] <;> omega
        conv => whnf
        refine Get.mk i ⟨rfl, hlt⟩ ?_
        conv => whnf
        refine Get.mk (_, _, _, _) hvb ?_
        conv => whnf
        refine Get.mk _ (encA_all hlt) ?_
        conv => whnf
        refine (sdeclares_ok H.declares xs[i] vh vn).mono fun v vh' vn' he => ?_
        obtain ⟨e1, e2, e3⟩ := he
        rw [e1, e2, e3]
        clear e1 e2 e3
        conv => whnf
        refine CondP.mk (fun h2 => ?_) (fun h2 => ?_)
        · have h2' : (declares xs[i]).2 = false := by simpa using h2
          simp only [h2', Bool.false_eq_true, if_false] at hR hQ
          conv => whnf
          rw [e]
          exact SPush_L0M H b bv tv xs hxs lo hbv Q (m - 1) (i + 1) (by omega) (by omega) vh vn _ _ hvb hlo A (by omega) hR hQ
        · have h2' : (declares xs[i]).2 = true := by simpa using h2
          simp only [h2', if_true] at hR hQ
          conv => whnf
          refine (wrong_ok H.wrong xs[i] vh vn).mono fun v vh' vn' he => ?_
          obtain ⟨e1, e2, e3⟩ := he
          rw [e1, e2, e3]
          clear e1 e2 e3
          conv => whnf
          refine CondP.mk (fun h3 => ?_) (fun h3 => ?_)
          · conv => whnf
            exact hR (by rw [if_pos h3]) vh vn (Nat.le_refl _) fun _ _ => rfl
          · have h3' : ¬ wrongP xs[i] = true := by rw [h3]; exact Bool.false_ne_true
            rw [if_neg h3'] at hR
            simp only [if_neg h3'] at hQ
            conv => whnf
            refine (hcon xs[i] vh vn (.inl A.r)).mono fun v vh' vn' he => ?_
            obtain ⟨e1, e2, e3⟩ := he
            generalize List.any _ (sameName xs[i]) = q at e3 hR hQ
            rw [e1, e2, e3]
            clear e1 e2 e3 hcon
            conv => whnf
            refine CondP.mk (fun h4 => ?_) (fun h4 => ?_)
            · have h4 : q = true := h4
              conv => whnf
              exact hR (by rw [if_pos h4]) vh vn (Nat.le_refl _) fun _ _ => rfl
            · have h4 : q = false := h4
              simp only [h4, Bool.false_eq_true, if_false] at hR hQ
              conv => whnf
              refine SlIn.app encA_len (by decide) A hlo xs[i] ⟨?_, ?_⟩ fun vh' A' hf => ?_
              · omega
              · show _ < 9223372036854775808; omega
              have hf' : ∀ c, c < lo → vh' c = vh c := fun c hc => hf c (by omega) (by first | exact fun h => h | exact fun (h : c = bm) => by omega)
              conv => whnf
              rw [e]
              refine SPush_L0M H b bv tv xs hxs lo hbv Q (m - 1) (i + 1) (by omega) (by omega) vh' (vn + 1) _ _ ((hf' bv hbv).trans hvb) (by omega) A' (by rw [List.length_append, List.length_singleton]; omega) (fun h vh2 vn2 g2 f2 => hR h vh2 vn2 (by omega) fun c hc => (f2 c hc).trans (hf' c hc)) (fun ms' h mv2 vh2 vn2 i2 t2 l2 A2 g2 f2 => hQ ms' h mv2 vh2 vn2 i2 t2 l2 A2 (by omega) fun c hc => (f2 c hc).trans (hf' c hc))
      · have hlt : i = xs.length := by simp at h1; omega
        rw [hlt, List.drop_length] at hQ
        conv => whnf
        exact hQ _ rfl _ _ _ _ _ (by omega) A (Nat.le_refl _) fun _ _ => rfl
termination_by m => m
decreasing_by all_goals omega
set_option maxHeartbeats 4000000 in
theorem SPush_L0F (H : XS X) (b : Nat) (c : Option Nat) (xs : List Attr) (hxs : xs.length < 2 ^ 30) (lo : Nat) (Q : FQ) : ∀ (m i : Nat), xs.length - i = m → i ≤ xs.length → ∀ (vh : VH) (vn : Nat) (mv : V) (ms : List Attr), lo ≤ vn → Attrs lo vh vn mv ms → ms.length ≤ i →
    (pushT ms (xs.drop i) = none → ∀ vh' vn', vn ≤ vn' → (∀ c, c < lo → vh' c = vh c) → Q .ret [(4, .int .i64 2)] vh' vn') →
    (∀ ms', pushT ms (xs.drop i) = some ms' → ∀ mv' vh' vn' i' t, ms'.length ≤ xs.length → Attrs lo vh' vn' mv' ms' → vn ≤ vn' → (∀ c, c < lo → vh' c = vh c) → Q (.exit 0) [(0, .ptr b 0), (5, mv'), (12, .sl 4 (xs.map encA) c), (13, .int .i64 (xs.length : Int)), (14, .int .i64 i'), (15, .bool t)] vh' vn') →
    FLoop Tryz.prog X G (.loop c_scope_Scope_Push_L0) [(0, .ptr b 0), (5, mv), (12, .sl 4 (xs.map encA) c), (13, .int .i64 (xs.length : Int)), (14, .int .i64 (i : Int))] vh vn Q
  | m, i, hm, hi, vh, vn, mv, ms, hlo, A, hms, hR, hQ => by
    refine FLoop.round ?_
    have hcon := fun a vh vn hv => Contains_ok (G := G) H.index H.contains (sameName a) F_scope_Scope_Push_c1 [.fp (encA a) 0] (fun b vh vn => pc1_ok H.c1 a b vh vn) mv ms (by omega) vh vn hv
    rcases id A with ⟨rfl | rfl, rfl⟩ | ⟨bm, hb1, hb2, rfl, hb4⟩
    all_goals
      conv => whnf
      refine CondP.mk (fun h1 => ?_) (fun h1 => ?_)
      · have hlt : i < xs.length := by simp at h1; omega
        have hd : xs.drop i = xs[i] :: xs.drop (i + 1) := (List.getElem_cons_drop hlt).symm
        rw [hd] at hR hQ
        simp only [pushT] at hR hQ
        have e : wr .i64 ((i : Int) + 1) = ((i + 1 : Nat) : Int) := by rw [wr64] <;> omega
        conv => whnf
        refine Get.mk (i, encA xs[i]) ⟨rfl, by simp [hlt]⟩ ?_
        conv => whnf
        refine (sdeclares_ok H.declares xs[i] vh vn).mono fun v vh' vn' he => ?_
        obtain ⟨e1, e2, e3⟩ := he
        rw [e1, e2, e3]
        clear e1 e2 e3
        conv => whnf
        refine CondP.mk (fun h2 => ?_) (fun h2 => ?_)
        · have h2' : (declares xs[i]).2 = false := by simpa using h2
          simp only [h2', Bool.false_eq_true, if_false] at hR hQ
          conv => whnf
          rw [e]
          exact SPush_L0F H b c xs hxs lo Q (m - 1) (i + 1) (by omega) (by omega) vh vn _ _ hlo A (by omega) hR hQ
        · have h2' : (declares xs[i]).2 = true := by simpa using h2
          simp only [h2', if_true] at hR hQ
          conv => whnf
          refine (wrong_ok H.wrong xs[i] vh vn).mono fun v vh' vn' he => ?_
          obtain ⟨e1, e2, e3⟩ := he
          rw [e1, e2, e3]
          clear e1 e2 e3
          conv => whnf
          refine CondP.mk (fun h3 => ?_) (fun h3 => ?_)
          · conv => whnf
            exact hR (by rw [if_pos h3]) vh vn (Nat.le_refl _) fun _ _ => rfl
          · have h3' : ¬ wrongP xs[i] = true := by rw [h3]; exact Bool.false_ne_true
            rw [if_neg h3'] at hR
            simp only [if_neg h3'] at hQ
            conv => whnf
            refine (hcon xs[i] vh vn (.inl A.r)).mono fun v vh' vn' he => ?_
            obtain ⟨e1, e2, e3⟩ := he
            generalize List.any _ (sameName xs[i]) = q at e3 hR hQ
            rw [e1, e2, e3]
            clear e1 e2 e3 hcon
            conv => whnf
            refine CondP.mk (fun h4 => ?_) (fun h4 => ?_)
            · have h4 : q = true := h4
              conv => whnf
              exact hR (by rw [if_pos h4]) vh vn (Nat.le_refl _) fun _ _ => rfl
            · have h4 : q = false := h4
              simp only [h4, Bool.false_eq_true, if_false] at hR hQ
              conv => whnf
              refine SlIn.app encA_len (by decide) A hlo xs[i] ⟨?_, ?_⟩ fun vh' A' hf => ?_
              · omega
              · show _ < 9223372036854775808; omega
              have hf' : ∀ c, c < lo → vh' c = vh c := fun c hc => hf c (by omega) (by first | exact fun h => h | exact fun (h : c = bm) => by omega)
              conv => whnf
              rw [e]
              refine SPush_L0F H b c xs hxs lo Q (m - 1) (i + 1) (by omega) (by omega) vh' (vn + 1) _ _ (by omega) A' (by rw [List.length_append, List.length_singleton]; omega) (fun h vh2 vn2 g2 f2 => hR h vh2 vn2 (by omega) fun c hc => (f2 c hc).trans (hf' c hc)) (fun ms' h mv2 vh2 vn2 i2 t2 l2 A2 g2 f2 => hQ ms' h mv2 vh2 vn2 i2 t2 l2 A2 (by omega) fun c hc => (f2 c hc).trans (hf' c hc))
      · have hlt : i = xs.length := by simp at h1; omega
        rw [hlt, List.drop_length] at hQ
        conv => whnf
        exact hQ _ rfl _ _ _ _ _ (by omega) A (Nat.le_refl _) fun _ _ => rfl
termination_by m => m
decreasing_by all_goals omega
end Go.Proofs.YtpcbnpekdmobpaaGreatDoor
open Go Go.Ev Go.VL
namespace Go.Proofs.YtpcbnpekdmobpaaGreatDoor
attribute [local irreducible] fApp
variable {X : Ovr} {G : Gt}
theorem pushT_len : ∀ (xs m ms : List Attr), pushT m xs = some ms → ms.length ≤ m.length + xs.length
  | [], m, ms, h => by
    simp only [pushT, Option.some.injEq] at h
    subst h
    simp
  | a :: l, m, ms, h => by
    simp only [pushT] at h
    split at h
    · split at h
      · cases h
      · split at h
        · cases h
        · have := pushT_len l _ _ h
          simp only [List.length_append, List.length_cons, List.length_nil] at this ⊢
          omega
    · have := pushT_len l _ _ h
      simp only [List.length_cons]
      omega
theorem app_nils1 {enc : List Attr → List V} {by' : Nat} {ty : TypeId} {vh : VH} {nx : Nat} (a : List Attr) (hroom : room by' 1) {env : VEnv} {k : V → VEnv → VH → Nat → Prop}
    (hk : k (.msl nx 0 1 1 none) env (vset vh nx (.cells (enc a) ty 0 false)) (nx + 1)) : fApp 1 by' ty .nils (enc a) 1 env vh nx k := by
  simp only [fApp]
  conv => whnf
  exact ⟨hroom, hk⟩
set_option maxHeartbeats 4000000 in
theorem SPush_R13 (b : Nat) (o : Option Nat) (lv : List (List Attr)) (vh : VH) (vn : Nat) (hs : SP vh b o lv) (lo : Nat) (hb : b < lo) (ho : ∀ c, o = some c → c < lo) (hlo : lo ≤ vn) (hlv : lv.length < 2 ^ 30) (mv : V) (ms : List Attr) (A : Attrs lo vh vn mv ms) (tl : VEnv) (Q : FQ)
    (hQ : ∀ vh' vn' o', vn ≤ vn' → SP vh' b o' (lv ++ [ms]) → (∀ c, o' = some c → c < vn' ∧ (o = some c ∨ lo ≤ c)) → (∀ c, c < lo → c ≠ b → o ≠ some c → vh' c = vh c) → Q .ret [(4, .int .i64 0)] vh' vn') :
    FLoop Tryz.prog X G (.cut c_scope_Scope_Push_R13) ((0, .ptr b 0) :: (5, mv) :: tl) vh vn Q := by
  refine FLoop.cut ?_
  obtain ⟨ty, hs⟩ := hs
  cases o with
  | none =>
    obtain ⟨rfl, hs⟩ := hs
    have fin : ∀ vh1 : VH, (∀ c, c < lo → vh1 c = vh c) → Q .ret [(4, .int .i64 0)] (vset (vset vh1 vn (.cells (encLv ms) T_interface 0 false)) b (.cells [.msl vn 0 1 1 none] ty 0 false)) (vn + 1) := fun vh1 f1 =>
      hQ _ _ (some vn) (by omega) ⟨ty, by omega, [], by rw [vset_same]; rfl, by rw [vset_ne (by omega), vset_same]; rfl⟩ (fun c hc => by cases hc; exact ⟨by omega, .inr hlo⟩) fun c hc hcb _ => by rw [vset_ne hcb, vset_ne (by omega)]; exact f1 c hc
    rcases id A with ⟨rfl | rfl, rfl⟩ | ⟨bm, hb1, hb2, rfl, hb4⟩
    · conv => whnf
      refine Get.mk (_, _, _, _) hs ?_
      conv => whnf
      refine Get.mk _ rfl ?_
      conv => whnf
      refine app_nils1 (enc := encLv) ([] : List Attr) ⟨by decide, by decide⟩ ?_
      conv => whnf
      have hs1 := (vset_ne (vh := vh) (B := .cells (encLv []) T_interface 0 false) (by omega : b ≠ vn)).trans hs
      refine Get.mk (_, _, _, _) hs1 ?_
      conv => whnf
      refine ⟨⟨(by decide : 1 ≤ 1), Nat.zero_le _⟩, ?_⟩
      conv => whnf
      exact fin vh fun _ _ => rfl
    · conv => whnf
      refine Get.mk (_, _, _, _) hs ?_
      conv => whnf
      refine Get.mk _ rfl ?_
      conv => whnf
      refine app_nils1 (enc := encLv) ([] : List Attr) ⟨by decide, by decide⟩ ?_
      conv => whnf
      have hs1 := (vset_ne (vh := vh) (B := .cells (encLv []) T_interface 0 false) (by omega : b ≠ vn)).trans hs
      refine Get.mk (_, _, _, _) hs1 ?_
      conv => whnf
      refine ⟨⟨(by decide : 1 ≤ 1), Nat.zero_le _⟩, ?_⟩
      conv => whnf
      exact fin vh fun _ _ => rfl
    · conv => whnf
      refine Get.mk (_, _, _, _) hs ?_
      conv => whnf
      refine Get.mk _ rfl ?_
      conv => whnf
      refine Get.mk (_, _, _, _) hb4 ?_
      conv => whnf
      refine ⟨fz_owe encA_len (by decide), ?_⟩
      conv => whnf
      refine Get.mk _ (fz_pieces encA_len) ?_
      conv => whnf
      refine app_nils1 (enc := encLv) ms ⟨by decide, by decide⟩ ?_
      conv => whnf
      have hs1 := (vset_ne (vh := vdel vh bm) (B := .cells (encLv ms) T_interface 0 false) (by omega : b ≠ vn)).trans ((vdel_ne (by omega)).trans hs)
      refine Get.mk (_, _, _, _) hs1 ?_
      conv => whnf
      refine ⟨⟨(by decide : 1 ≤ 1), Nat.zero_le _⟩, ?_⟩
      conv => whnf
      exact fin (vdel vh bm) fun c hc => vdel_ne (by omega)
  | some bl =>
    obtain ⟨hne, rest, h1, h2⟩ := hs
    have hbl := ho bl rfl
    have fin : ∀ (zs : List Attr) (b' : Nat) (vh2 : VH) (n2 : Nat) (rest' : List V), (b' = bl ∧ n2 = vn) ∨ (b' = vn ∧ n2 = vn + 1) → vh2 b' = some (.cells (((lv ++ [zs]).map encLv).flatten ++ rest') T_interface 0 false) → (∀ d, d < lo → d ≠ vn → d ≠ bl → vh2 d = vh d) → zs = ms → Q .ret [(4, .int .i64 0)] (vset vh2 b (.cells [.msl b' 0 (lv ++ [zs]).length 1 none] ty 0 false)) n2 := fun zs b' vh2 n2 rest' hb' t2 f2 hz => by
      subst hz
      have hbb : b' ≠ b := by omega
      refine hQ _ _ (some b') (by omega) ⟨ty, hbb, rest', vset_same, by rw [vset_ne hbb]; exact t2⟩ (fun c hc => ?_) fun c hc hcb hco => ?_
      · cases hc
        rcases hb' with ⟨rfl, rfl⟩ | ⟨rfl, rfl⟩
        · exact ⟨by omega, .inl rfl⟩
        · exact ⟨by omega, .inr hlo⟩
      · rw [vset_ne hcb]
        exact f2 c hc (by omega) fun h => hco (by rw [h])
    rcases id A with ⟨rfl | rfl, rfl⟩ | ⟨bm, hb1, hb2, rfl, hb4⟩
    · conv => whnf
      refine Get.mk (_, _, _, _) h1 ?_
      conv => whnf
      refine Get.mk _ rfl ?_
      conv => whnf
      refine app_spare (xs := lv) encLv_len h2 (by omega) ([] : List Attr) ⟨?_, ?_⟩ fun b' vh2 n2 rest' hb' t2 f2 => ?_
      · omega
      · show _ < 9223372036854775808; omega
      conv => whnf
      have hs1 := (f2 b (by omega) (Ne.symm hne)).trans h1
      refine Get.mk (_, _, _, _) hs1 ?_
      conv => whnf
      refine ⟨⟨(by decide : 1 ≤ 1), Nat.zero_le _⟩, ?_⟩
      conv => whnf
      exact fin [] b' vh2 n2 rest' hb' t2 (fun d h1 h2 h3 => (f2 d h2 h3).trans rfl) rfl
    · conv => whnf
      refine Get.mk (_, _, _, _) h1 ?_
      conv => whnf
      refine Get.mk _ rfl ?_
      conv => whnf
      refine app_spare (xs := lv) encLv_len h2 (by omega) ([] : List Attr) ⟨?_, ?_⟩ fun b' vh2 n2 rest' hb' t2 f2 => ?_
      · omega
      · show _ < 9223372036854775808; omega
      conv => whnf
      have hs1 := (f2 b (by omega) (Ne.symm hne)).trans h1
      refine Get.mk (_, _, _, _) hs1 ?_
      conv => whnf
      refine ⟨⟨(by decide : 1 ≤ 1), Nat.zero_le _⟩, ?_⟩
      conv => whnf
      exact fin [] b' vh2 n2 rest' hb' t2 (fun d h1 h2 h3 => (f2 d h2 h3).trans rfl) rfl
    · conv => whnf
      refine Get.mk (_, _, _, _) h1 ?_
      conv => whnf
      refine Get.mk _ rfl ?_
      conv => whnf
      refine Get.mk (_, _, _, _) hb4 ?_
      conv => whnf
      refine ⟨fz_owe encA_len (by decide), ?_⟩
      conv => whnf
      refine Get.mk _ (fz_pieces encA_len) ?_
      conv => whnf
      have h2' := (vdel_ne (vh := vh) (by omega : bl ≠ bm)).trans h2
      have h1' := (vdel_ne (vh := vh) (by omega : b ≠ bm)).trans h1
      refine app_spare (xs := lv) encLv_len h2' (by omega) (ms : List Attr) ⟨?_, ?_⟩ fun b' vh2 n2 rest' hb' t2 f2 => ?_
      · omega
      · show _ < 9223372036854775808; omega
      conv => whnf
      have hs1 := (f2 b (by omega) (Ne.symm hne)).trans h1'
      refine Get.mk (_, _, _, _) hs1 ?_
      conv => whnf
      refine ⟨⟨(by decide : 1 ≤ 1), Nat.zero_le _⟩, ?_⟩
      conv => whnf
      exact fin ms b' vh2 n2 rest' hb' t2 (fun d h1 h2 h3 => (f2 d h2 h3).trans (vdel_ne (by omega))) rfl
end Go.Proofs.YtpcbnpekdmobpaaGreatDoor
open Go Go.Ev Go.VL
namespace Go.Proofs.YtpcbnpekdmobpaaGreatDoor
attribute [local irreducible] fApp
variable {X : Ovr} {G : Gt}
structure PushQ (vh : VH) (vn b : Nat) (o : Option Nat) (lv : List (List Attr)) (xs : List Attr) (r : V) (vh' : VH) (vn' : Nat) : Prop where
  nx : vn ≤ vn'
  bad : pushT [] xs = none → r = .int .i64 2 ∧ ∀ c, c < vn → vh' c = vh c
  good : ∀ ms, pushT [] xs = some ms → r = .int .i64 0 ∧ ∃ o', SP vh' b o' (lv ++ [ms]) ∧ (∀ c, o' = some c → c < vn' ∧ (o = some c ∨ vn ≤ c)) ∧ ∀ c, c < vn → c ≠ b → o ≠ some c → vh' c = vh c
theorem PushQ.mkBad {vh : VH} {vn b : Nat} {o : Option Nat} {lv : List (List Attr)} {xs : List Attr} {vh' : VH} {vn' : Nat} (h : pushT [] xs = none) (g : vn ≤ vn') (f : ∀ c, c < vn → vh' c = vh c) : PushQ vh vn b o lv xs (.int .i64 2) vh' vn' :=
  ⟨g, fun _ => ⟨rfl, f⟩, fun ms h2 => by rw [h] at h2; cases h2⟩
theorem PushQ.mkGood {vh : VH} {vn b : Nat} {o o' : Option Nat} {lv : List (List Attr)} {xs ms : List Attr} {vh' : VH} {vn' : Nat} (h : pushT [] xs = some ms) (g : vn ≤ vn') (s : SP vh' b o' (lv ++ [ms])) (q : ∀ c, o' = some c → c < vn' ∧ (o = some c ∨ vn ≤ c)) (f : ∀ c, c < vn → c ≠ b → o ≠ some c → vh' c = vh c) : PushQ vh vn b o lv xs (.int .i64 0) vh' vn' :=
  ⟨g, fun h2 => by rw [h] at h2; (cases h2), fun ms' h2 => by
    rw [h] at h2
    cases h2
    exact ⟨rfl, o', s, q, f⟩⟩
set_option maxHeartbeats 4000000 in
theorem SPush_ok (H : XS X) (b : Nat) (o : Option Nat) (lv : List (List Attr)) (v : V) (xs : List Attr) (vh : VH) (vn : Nat) (hs : SP vh b o lv) (hb : b < vn) (ho : ∀ c, o = some c → c < vn) (hlv : lv.length < 2 ^ 30) (hv : SlA vh v xs) (hvb : ∀ c, blkOf v c → c < vn) (hxs : xs.length < 2 ^ 30) :
    WpCall Tryz.prog X G F_scope_Scope_Push [.ptr b 0, v] vh vn fun r vh' vn' => PushQ vh vn b o lv xs r vh' vn' := by
  apply k_scope_Scope_Push.run H.push
  rcases hv with (⟨rfl, rfl⟩ | ⟨rfl, rfl⟩ | ⟨bv, tv, rfl, hb4⟩) | ⟨c, rfl⟩
  · conv => whnf
    refine FLoop.round ?_
    conv => whnf
    refine SPush_R13 b o lv vh vn hs vn hb ho (Nat.le_refl _) hlv _ [] .nil _ _ fun vh' vn' o' g1 s1 q1 f1 => ?_
    conv => whnf
    exact Get.mk vh' (fun _ _ h => h) (.mkGood rfl g1 s1 q1 f1)
  · conv => whnf
    refine FLoop.round ?_
    conv => whnf
    refine SPush_R13 b o lv vh vn hs vn hb ho (Nat.le_refl _) hlv _ [] .nil _ _ fun vh' vn' o' g1 s1 q1 f1 => ?_
    conv => whnf
    exact Get.mk vh' (fun _ _ h => h) (.mkGood rfl g1 s1 q1 f1)
  · have hbv : bv < vn := hvb bv rfl
    conv => whnf
    refine SPush_L0M H b bv tv xs hxs vn hbv _ xs.length 0 (by omega) (Nat.zero_le _) vh vn _ [] hb4 (Nat.le_refl _) .nil (Nat.le_refl _) (fun hp vh' vn' g1 f1 => ?_) fun ms hp mv' vh' vn' i' t l1 A1 g1 f1 => ?_
    · rw [List.drop_zero] at hp
      conv => whnf
      exact Get.mk vh' (fun _ _ h => h) (.mkBad hp g1 f1)
    · rw [List.drop_zero] at hp
      have hs1 : SP vh' b o lv := hs.at (f1 b hb) fun c hc => f1 c (ho c hc)
      rcases id A1 with ⟨rfl | rfl, rfl⟩ | ⟨bl, hl1, hl2, rfl, hl4⟩
      all_goals
        conv => whnf
        refine SPush_R13 b o lv vh' vn' hs1 vn hb ho g1 hlv _ _ A1 _ _ fun vh2 vn2 o2 g2 s2 q2 f2 => ?_
        conv => whnf
        exact Get.mk vh2 (fun _ _ h => h) (.mkGood hp (Nat.le_trans g1 g2) s2 q2 fun c hc hcb hco => (f2 c hc hcb hco).trans (f1 c hc))
  · conv => whnf
    have hl : Int.ofNat (xs.map encA).length = (xs.length : Int) := by simp
    rw [hl]
    refine SPush_L0F H b c xs hxs vn _ xs.length 0 (by omega) (Nat.zero_le _) vh vn _ [] (Nat.le_refl _) .nil (Nat.le_refl _) (fun hp vh' vn' g1 f1 => ?_) fun ms hp mv' vh' vn' i' t l1 A1 g1 f1 => ?_
    · rw [List.drop_zero] at hp
      conv => whnf
      exact Get.mk vh' (fun _ _ h => h) (.mkBad hp g1 f1)
    · rw [List.drop_zero] at hp
      have hs1 : SP vh' b o lv := hs.at (f1 b hb) fun c hc => f1 c (ho c hc)
      rcases id A1 with ⟨rfl | rfl, rfl⟩ | ⟨bl, hl1, hl2, rfl, hl4⟩
      all_goals
        conv => whnf
        refine SPush_R13 b o lv vh' vn' hs1 vn hb ho g1 hlv _ _ A1 _ _ fun vh2 vn2 o2 g2 s2 q2 f2 => ?_
        conv => whnf
        exact Get.mk vh2 (fun _ _ h => h) (.mkGood hp (Nat.le_trans g1 g2) s2 q2 fun c hc hcb hco => (f2 c hc hcb hco).trans (f1 c hc))
theorem Depth_ok (hX : X F_scope_Scope_Depth = none) (b : Nat) (o : Option Nat) (lv : List (List Attr)) (vh : VH) (vn : Nat) (hs : SP vh b o lv) :
    WpCall Tryz.prog X G F_scope_Scope_Depth [.ptr b 0] vh vn fun v vh' vn' => vh' = vh ∧ vn' = vn ∧ v = .int .i64 (lv.length : Int) := by
  apply k_scope_Scope_Depth.run hX
  obtain ⟨ty, hs⟩ := hs
  cases o with
  | none =>
    obtain ⟨rfl, hs⟩ := hs
    conv => whnf
    refine Get.mk (_, _, _, _) hs ?_
    conv => whnf
    refine Get.mk _ rfl ?_
    conv => whnf
    exact Get.mk _ (fun _ _ h => h) ⟨rfl, rfl, rfl⟩
  | some bl =>
    obtain ⟨hne, rest, h1, h2⟩ := hs
    conv => whnf
    refine Get.mk (_, _, _, _) h1 ?_
    conv => whnf
    refine Get.mk _ rfl ?_
    conv => whnf
    exact Get.mk _ (fun _ _ h => h) ⟨rfl, rfl, rfl⟩
theorem SPop_ok (H : XS X) (b : Nat) (o : Option Nat) (lv : List (List Attr)) (vh : VH) (vn : Nat) (hs : SP vh b o lv) (hl : lv.length < 2 ^ 40) :
    WpCall Tryz.prog X G F_scope_Scope_Pop [.ptr b 0] vh vn fun v vh' vn' => vn' = vn ∧ (∀ c, c ≠ b → vh' c = vh c) ∧ SP vh' b o lv.dropLast ∧ ∃ t, v = .bool t := by
  apply k_scope_Scope_Pop.run H.pop
  conv => whnf
  refine (Depth_ok H.depth b o lv vh vn hs).mono fun v vh' vn' he => ?_
  obtain ⟨e1, e2, e3⟩ := he
  rw [e1, e2, e3]
  clear e1 e2 e3
  conv => whnf
  refine CondP.mk (fun h1 => ?_) (fun h1 => ?_)
  · have h1' : lv = [] := by simpa using h1
    subst h1'
    conv => whnf
    exact Get.mk vh (fun _ _ h => h) ⟨rfl, fun _ _ => rfl, hs, _, rfl⟩
  · have hp : 0 < lv.length := by simp at h1; exact List.length_pos_iff.2 h1
    obtain ⟨ty, hs⟩ := hs
    cases o with
    | none => obtain ⟨rfl, _⟩ := hs; simp at hp
    | some bl =>
      obtain ⟨hne, rest, h2, h3⟩ := hs
      have hfl := len1 encLv_len lv
      conv => whnf
      refine Get.mk (_, _, _, _) h2 ?_
      conv => whnf
      refine Get.mk _ rfl ?_
      conv => whnf
      refine Get.mk (_, _, _, _) h2 ?_
      conv => whnf
      refine Get.mk _ rfl ?_
      conv => whnf
      refine Get.mk (lv.length - 1) (by simp only [Int.ofNat_eq_natCast]; rw [wr64] <;> omega) ?_
      conv => whnf
      refine Get.mk (_, _, _, _) h3 ?_
      conv => whnf
      refine ⟨⟨Nat.zero_le _, by simp only [List.length_append, hfl, Nat.sub_zero, Nat.div_one]; omega, .inr rfl⟩, ?_⟩
      conv => whnf
      refine Get.mk (_, _, _, _) h2 ?_
      conv => whnf
      refine ⟨⟨(by decide : 1 ≤ 1), Nat.zero_le _⟩, ?_⟩
      conv => whnf
      have e1 : lv.length - 1 - 0 = lv.dropLast.length := by rw [List.length_dropLast]; rfl
      rw [e1]
      refine Get.mk _ (fun _ _ h => h) ⟨rfl, fun c hc => vset_ne hc, ⟨ty, hne, [.ifc T_Lapi_Attr (.sl 4 ((lv.getLast (List.ne_nil_of_length_pos hp)).map encA) none)] ++ rest, vset_same, ?_⟩, _, rfl⟩
      refine (vset_ne hne).trans (h3.trans ?_)
      have e2 : (lv.dropLast ++ [lv.getLast (List.ne_nil_of_length_pos hp)]) = lv := List.dropLast_concat_getLast _
      have e3 : (lv.map encLv).flatten = (lv.dropLast.map encLv).flatten ++ encLv (lv.getLast (List.ne_nil_of_length_pos hp)) := by
        conv => lhs; rw [← e2]
        simp
      rw [e3, List.append_assoc]
      rfl
end Go.Proofs.YtpcbnpekdmobpaaGreatDoor
open Go Go.Ev Go.VL
namespace Go.Proofs.YtpcbnpekdmobpaaGreatDoor
attribute [local irreducible] fApp
variable {X : Ovr} {G : Gt}
theorem lv_at {lv : List (List Attr)} {rest : List V} {k : Nat} (h : k < lv.length) : ((lv.map encLv).flatten ++ rest)[0 + k * 1]? = some (.ifc T_Lapi_Attr (.sl 4 (lv[k].map encA) none)) := by
  rw [Nat.zero_add, Nat.mul_one, List.getElem?_append_left (by rw [len1 encLv_len]; exact h)]
  have := flat_get encLv_len lv k 0 h (by decide)
  rw [Nat.mul_one, Nat.add_zero] at this
  rw [this]
  rfl
theorem level_ok (hX : X F_scope_Scope_level = none) (b : Nat) (o : Option Nat) (lv : List (List Attr)) (vh : VH) (vn : Nat) (hs : SP vh b o lv) (k : Nat) (hk : k < lv.length) :
    WpCall Tryz.prog X G F_scope_Scope_level [.ptr b 0, .int .i64 (k : Int)] vh vn fun v vh' vn' => vh' = vh ∧ vn' = vn ∧ v = .sl 4 (lv[k].map encA) none := by
  apply k_scope_Scope_level.run hX
  obtain ⟨ty, hs⟩ := hs
  cases o with
  | none =>
    obtain ⟨rfl, _⟩ := hs
    exact absurd hk (Nat.not_lt_zero k)
  | some bl =>
    obtain ⟨hne, rest, h1, h2⟩ := hs
    conv => whnf
    refine Get.mk (_, _, _, _) h1 ?_
    conv => whnf
    refine Get.mk _ rfl ?_
    conv => whnf
    refine Get.mk k ⟨rfl, hk⟩ ?_
    conv => whnf
    refine Get.mk (_, _, _, _) h2 ?_
    conv => whnf
    refine Get.mk _ (lv_at hk) ?_
    conv => whnf
    exact Get.mk _ (fun _ _ h => h) ⟨rfl, rfl, rfl⟩
theorem SURI_L1 (H : XS X) (b : Nat) (p : List Nat) (i : Nat) (l : List Attr) (hl : l.length < 2 ^ 40) (vh : VH) (vn : Nat) (Q : FQ) : ∀ (m k : Nat), l.length - k = m → k ≤ l.length →
    (match uriL p (l.drop k) with
      | none => ∀ k' t, Q (.exit 2) [(0, .ptr b 0), (1, .str p), (6, .int .i64 (i : Int)), (25, .sl 4 (l.map encA) none), (26, .int .i64 (l.length : Int)), (27, .int .i64 k'), (28, .bool t)] vh vn
      | some u => Q .ret [(4, .str u), (5, .bool true)] vh vn) →
    FLoop Tryz.prog X G (.loop c_scope_Scope_URI_L1) [(0, .ptr b 0), (1, .str p), (6, .int .i64 (i : Int)), (25, .sl 4 (l.map encA) none), (26, .int .i64 (l.length : Int)), (27, .int .i64 (k : Int))] vh vn Q
  | m, k, hm, hk, hQ => by
    refine FLoop.round ?_
    conv => whnf
    refine CondP.mk (fun h1 => ?_) (fun h1 => ?_)
    · have hlt : k < l.length := by simp at h1; omega
      have hd : l.drop k = l[k] :: l.drop (k + 1) := (List.getElem_cons_drop hlt).symm
      conv => whnf
      refine Get.mk (k, encA l[k]) ⟨rfl, by simp [hlt]⟩ ?_
      conv => whnf
      refine (sdeclares_ok H.declares l[k] vh vn).mono fun v vh' vn' he => ?_
      obtain ⟨e1, e2, e3⟩ := he
      rw [e1, e2, e3]
      conv => whnf
      refine CondP.mk (fun h2 => ?_) (fun h2 => ?_)
      · have h2' : (declares l[k]).1 = p := by simpa using h2
        simp only [hd, uriL, h2', if_true] at hQ
        conv => whnf
        exact hQ
      · have h2' : ¬ (declares l[k]).1 = p := by simpa using h2
        simp only [hd, uriL, h2', if_false] at hQ
        have e : wr .i64 ((k : Int) + 1) = ((k + 1 : Nat) : Int) := by rw [wr64] <;> omega
        conv => whnf
        rw [e]
        exact SURI_L1 H b p i l hl vh vn Q (m - 1) (k + 1) (by omega) (by omega) hQ
    · have hlt : k = l.length := by simp at h1; omega
      rw [hlt, List.drop_length] at hQ
      conv => whnf
      exact hQ _ _
termination_by m => m
decreasing_by omega
theorem SURI_L0 (H : XS X) (b : Nat) (o : Option Nat) (lv : List (List Attr)) (p : List Nat) (vh : VH) (vn : Nat) (hs : SP vh b o lv) (hb : ∀ l ∈ lv, l.length < 2 ^ 40) (hlv : lv.length < 2 ^ 40) (Q : FQ) : ∀ (j : Nat), j ≤ lv.length →
    (match uriS p lv j with
      | none => ∀ i' t, Q (.exit 0) [(0, .ptr b 0), (1, .str p), (6, .int .i64 i'), (20, .bool t)] vh vn
      | some u => Q .ret [(4, .str u), (5, .bool true)] vh vn) →
    FLoop Tryz.prog X G (.loop c_scope_Scope_URI_L0) [(0, .ptr b 0), (1, .str p), (6, .int .i64 ((j : Int) - 1))] vh vn Q
  | 0, hj, hQ => by
    refine FLoop.round ?_
    conv => whnf
    simp only [uriS] at hQ
    exact hQ _ _
  | j + 1, hj, hQ => by
    have hi : j < lv.length := by omega
    have e0 : ((j + 1 : Nat) : Int) - 1 = (j : Int) := by omega
    rw [e0]
    refine FLoop.round ?_
    conv => whnf
    refine (level_ok H.level b o lv vh vn hs j hi).mono fun v vh' vn' he => ?_
    obtain ⟨e1, e2, e3⟩ := he
    rw [e1, e2, e3]
    have hl : Int.ofNat (lv[j].map encA).length = (lv[j].length : Int) := by simp
    conv => whnf
    rw [hl]
    refine SURI_L1 H b p j lv[j] (hb _ (List.getElem_mem hi)) vh vn _ _ 0 rfl (Nat.zero_le _) ?_
    simp only [List.drop_zero]
    simp only [uriS, List.getElem?_eq_getElem hi, Option.getD_some] at hQ
    cases hu : uriL p lv[j] with
    | none =>
      rw [hu] at hQ
      intro k' t
      have e : wr .i64 ((j : Int) - 1) = ((j : Int) - 1) := by rw [wr64] <;> omega
      conv => whnf
      rw [e]
      exact SURI_L0 H b o lv p vh vn hs hb hlv Q j (by omega) hQ
    | some u =>
      rw [hu] at hQ
      exact hQ
def uriT (lv : List (List Attr)) (p : List Nat) : List Nat × Bool :=
  match uriS p lv lv.length with
  | some u => (u, true)
  | none => if p = S_xml then (XMLURI, true) else ([], decide (p = []))
theorem SURI_ok (H : XS X) (b : Nat) (o : Option Nat) (lv : List (List Attr)) (p : List Nat) (vh : VH) (vn : Nat) (hs : SP vh b o lv) (hb : ∀ l ∈ lv, l.length < 2 ^ 40) (hlv : lv.length < 2 ^ 40) :
    WpCall Tryz.prog X G F_scope_Scope_URI [.ptr b 0, .str p] vh vn fun v vh' vn' => vh' = vh ∧ vn' = vn ∧ v = .tup [.str (uriT lv p).1, .bool (uriT lv p).2] := by
  apply k_scope_Scope_URI.run H.uri
  obtain ⟨ty, hs2⟩ := id hs
  have go : ∀ (Q : FQ), (match uriS p lv lv.length with
      | none => ∀ i' t, Q (.exit 0) [(0, .ptr b 0), (1, .str p), (6, .int .i64 i'), (20, .bool t)] vh vn
      | some u => Q .ret [(4, .str u), (5, .bool true)] vh vn) → FLoop Tryz.prog X G (.loop c_scope_Scope_URI_L0) [(0, .ptr b 0), (1, .str p), (6, .int .i64 ((lv.length : Int) - 1))] vh vn Q := fun Q hQ => SURI_L0 H b o lv p vh vn hs hb hlv Q lv.length (Nat.le_refl _) hQ
  have e : wr .i64 ((lv.length : Int) - 1) = ((lv.length : Int) - 1) := by rw [wr64] <;> omega
  cases o with
  | none =>
    obtain ⟨rfl, h1⟩ := hs2
    conv => whnf
    refine Get.mk (_, _, _, _) h1 ?_
    conv => whnf
    refine Get.mk _ rfl ?_
    conv => whnf
    refine go _ ?_
    intro i' t
    conv => whnf
    refine CondP.mk (fun h2 => ?_) (fun h2 => ?_)
    · conv => whnf
      refine Get.mk vh (fun _ _ h => h) ⟨rfl, rfl, ?_⟩
      simp at h2
      simp [uriT, uriS, h2]
    · conv => whnf
      refine Get.mk vh (fun _ _ h => h) ⟨rfl, rfl, ?_⟩
      simp at h2
      simp [uriT, uriS, h2]
  | some bl =>
    obtain ⟨hne, rest, h1, h2⟩ := hs2
    conv => whnf
    refine Get.mk (_, _, _, _) h1 ?_
    conv => whnf
    refine Get.mk _ rfl ?_
    conv => whnf
    rw [show wr .i64 (Int.ofNat lv.length - 1) = ((lv.length : Int) - 1) from e]
    refine go _ ?_
    cases hu : uriS p lv lv.length with
    | none =>
      intro i' t
      conv => whnf
      refine CondP.mk (fun h2 => ?_) (fun h2 => ?_)
      · conv => whnf
        refine Get.mk vh (fun _ _ h => h) ⟨rfl, rfl, ?_⟩
        simp at h2
        simp only [uriT, hu, if_pos h2]
      · conv => whnf
        refine Get.mk vh (fun _ _ h => h) ⟨rfl, rfl, ?_⟩
        simp at h2
        simp [uriT, hu, h2]
    | some u =>
      conv => whnf
      refine Get.mk vh (fun _ _ h => h) ⟨rfl, rfl, ?_⟩
      simp [uriT, hu]
end Go.Proofs.YtpcbnpekdmobpaaGreatDoor
open Go Go.Ev Go.VL
namespace Go.Proofs.YtpcbnpekdmobpaaGreatDoor
attribute [local irreducible] fApp
variable {X : Ovr} {G : Gt}
structure XSN (X : Ovr) : Prop extends XS X where
  names : X F_scope_Scope_Names = none
def nsDecl (a : Attr) : Attr := if a.p = S_xmlns ∨ a.p = [] ∧ a.l = S_xmlns then { a with u := XMLNSURI } else a
theorem SNames_L0 (b bn ba : Nat) (n : Nd) (N : Nat) (hN : N < 2 ^ 30) (vn : Nat) (d3 : ba ≠ bn) (ty ta : TypeId) (Q : FQ) : ∀ (m i : Nat), N - i = m → i ≤ N → ∀ (vh : VH) (ys : List Attr), ys.length = N → vh bn = some (.cells (encNv n (.msl ba 0 N 4 none)) ty 0 false) → vh ba = some (.cells (ys.map encA).flatten ta 0 false) →
    (∀ vh' i' t, vh' ba = some (.cells ((ys.take i ++ (ys.drop i).map nsDecl).map encA).flatten ta 0 false) → (∀ c, c ≠ ba → vh' c = vh c) → Q (.exit 0) [(0, .ptr b 0), (1, .ptr bn 0), (19, .msl ba 0 N 4 none), (20, .int .i64 (N : Int)), (21, .int .i64 i'), (22, .bool t)] vh' vn) →
    FLoop Tryz.prog X G (.loop c_scope_Scope_Names_L0) [(0, .ptr b 0), (1, .ptr bn 0), (19, .msl ba 0 N 4 none), (20, .int .i64 (N : Int)), (21, .int .i64 (i : Int))] vh vn Q
  | m, i, hm, hi, vh, ys, hys, hn, ha, hQ => by
    refine FLoop.round ?_
    conv => whnf
    refine CondP.mk (fun h1 => ?_) (fun h1 => ?_)
    · have hiN : i < N := by simpa using h1
      have hlt : i < ys.length := by omega
      have hd : ys.drop i = ys[i] :: ys.drop (i + 1) := (List.getElem_cons_drop hlt).symm
      rw [hd] at hQ
      simp only [List.map_cons] at hQ
      have e : wr .i64 ((i : Int) + 1) = ((i + 1 : Nat) : Int) := by rw [wr64] <;> omega
      have hw : 0 + i * 4 + 2 + 1 ≤ (ys.map encA).flatten.length := by have := flat_lt encA_len ys i hlt; omega
      have nxt : ∀ (vh2 : VH), vh2 ba = some (.cells ((ys.set i (nsDecl ys[i])).map encA).flatten ta 0 false) → (∀ c, c ≠ ba → vh2 c = vh c) →
          FLoop Tryz.prog X G (.loop c_scope_Scope_Names_L0) [(0, .ptr b 0), (1, .ptr bn 0), (19, .msl ba 0 N 4 none), (20, .int .i64 (N : Int)), (21, .int .i64 ((i + 1 : Nat) : Int))] vh2 vn Q := fun vh2 a2 f2 => by
        have hp : (ys.set i (nsDecl ys[i])).take (i + 1) = ys.take i ++ [nsDecl ys[i]] := by
          have := take_set ys i hlt (nsDecl ys[i]) []
          simpa using this
        refine SNames_L0 b bn ba n N hN vn d3 ty ta Q (m - 1) (i + 1) (by omega) (by omega) vh2 _ (by rw [List.length_set]; exact hys) ((f2 bn (Ne.symm d3)).trans hn) a2 ?_
        rw [hp, drop_set]
        refine fun vh' i' t h1 h2 => hQ vh' i' t ?_ fun c hc => (h2 c hc).trans (f2 c hc)
        rw [List.append_assoc] at h1
        exact h1
      conv => whnf
      refine Get.mk i ⟨rfl, hiN⟩ ?_
      conv => whnf
      refine Get.mk (_, _, _, _) ha ?_
      conv => whnf
      refine Get.mk _ (encA_all hlt) ?_
      conv => whnf
      repeat' ((first | refine CondP.mk (fun _ => ?_) (fun _ => ?_)) <;> (conv => whnf))
      all_goals first
        | (skip
           rw [e]
           refine nxt vh ?_ (fun _ _ => rfl)
           have : nsDecl ys[i] = ys[i] := by clear nxt hQ hn ha hd; simp_all [nsDecl]
           rw [this, List.set_getElem_self]
           exact ha)
        | skip
      all_goals
        refine Get.mk (_, _, _, _) hn ?_
        conv => whnf
        refine Get.mk _ rfl ?_
        conv => whnf
        refine Get.mk i ⟨rfl, hiN⟩ ?_
        conv => whnf
        refine Get.mk (_, _, _, _) ha ?_
        conv => whnf
        refine ⟨⟨hw, Nat.zero_le _⟩, ?_⟩
        conv => whnf
        rw [e]
        refine nxt _ ?_ (fun c hc => vset_ne hc)
        have : nsDecl ys[i] = { ys[i] with u := XMLNSURI } := by clear nxt hQ hn ha hd; simp_all [nsDecl]
        rw [this]
        refine vset_same.trans ?_
        rw [← flat_set _ _ hlt]
    · have hlt : i = N := by simp at h1; omega
      have e1 : ys.drop i = [] := by rw [hlt, ← hys, List.drop_length]
      have e2 : ys.take i = ys := by rw [hlt, ← hys, List.take_length]
      rw [e1, e2] at hQ
      conv => whnf
      exact hQ vh _ _ (by simpa using ha) fun _ _ => rfl
termination_by m => m
decreasing_by all_goals omega
end Go.Proofs.YtpcbnpekdmobpaaGreatDoor
open Go Go.Ev Go.VL
namespace Go.Proofs.YtpcbnpekdmobpaaGreatDoor
attribute [local irreducible] fApp
variable {X : Ovr} {G : Gt}
def keyV (k : List Nat × List Nat) : V := .agg [.str k.1, .str k.2]
def seenM (ks : List (List Nat × List Nat)) : List (V × V) := ks.map fun k => (keyV k, V.bool true)
theorem keyEq_iff (k j : List Nat × List Nat) : keyEq (keyV k) (keyV j) = decide (k = j) := by
  obtain ⟨a, b⟩ := k
  obtain ⟨c, d⟩ := j
  simp only [keyEq, keyV, eqKL, eq1, Bool.and_true, Prod.mk.injEq]
  by_cases h1 : a = c <;> by_cases h2 : b = d <;> simp [h1, h2]
theorem find_seen (k : List Nat × List Nat) : ∀ ks, findV (keyV k) (seenM ks) = if k ∈ ks then some (.bool true) else none
  | [] => rfl
  | j :: ks => by
    have ih := find_seen k ks
    simp only [seenM, List.map_cons, findV, keyEq_iff, List.mem_cons]
    by_cases h : k = j
    · simp [h]
    · simp only [h, decide_false, cond_false, false_or]
      exact ih
theorem put_seen (k : List Nat × List Nat) : ∀ ks, putVM (keyV k) (.bool true) (seenM ks) = seenM (if k ∈ ks then ks else ks ++ [k])
  | [] => rfl
  | j :: ks => by
    have ih := put_seen k ks
    simp only [seenM, List.map_cons, putVM, keyEq_iff, List.mem_cons]
    by_cases h : k = j
    · simp [h]
    · simp only [h, decide_false, cond_false, false_or]
      by_cases h2 : k ∈ ks
      · simp only [h2, if_true] at ih ⊢
        rw [List.map_cons]
        exact congrArg _ ih
      · simp only [h2, if_false] at ih ⊢
        rw [List.cons_append, List.map_cons]
        exact congrArg _ ih
theorem fit_seen (ks : List (List Nat × List Nat)) : ∀ p ∈ seenM ks, fitK [none, none] true p.1 = true := by
  intro p hp
  obtain ⟨k, _, rfl⟩ := List.mem_map.1 hp
  rfl
def nmA (lv : List (List Attr)) (a : Attr) : Attr × Bool := if a.u = [] ∧ a.p ≠ [] then ({ a with u := (uriT lv a.p).1 }, (uriT lv a.p).2) else (a, true)
def nmL (lv : List (List Attr)) : Bool → List (List Nat × List Nat) → List Attr → List Attr × Bool
  | g, _, [] => ([], g)
  | g, ks, a :: l => ((nmA lv a).1 :: (nmL lv ((g && (nmA lv a).2) && !decide (((nmA lv a).1.u, a.l) ∈ ks)) (if ((nmA lv a).1.u, a.l) ∈ ks then ks else ks ++ [((nmA lv a).1.u, a.l)]) l).1,
      (nmL lv ((g && (nmA lv a).2) && !decide (((nmA lv a).1.u, a.l) ∈ ks)) (if ((nmA lv a).1.u, a.l) ∈ ks then ks else ks ++ [((nmA lv a).1.u, a.l)]) l).2)
theorem SNames_R19 (b bn ba bm : Nat) (n : Nd) (N : Nat) (ys : List Attr) (hys : ys.length = N) (i : Nat) (hi : i < N) (a : Attr) (g : Bool) (ks : List (List Nat × List Nat)) (ty ta : TypeId) (vh : VH) (vn : Nat) (hn : vh bn = some (.cells (encNv n (.msl ba 0 N 4 none)) ty 0 false)) (ha : vh ba = some (.cells (ys.map encA).flatten ta 0 false)) (hm : vh bm = some (.map (seenM ks))) (Q : FQ)
    (hQ : ∀ g', g' = (g && !decide (((ys[i]'(by omega)).u, a.l) ∈ ks)) → Q .norm [(0, .ptr b 0), (1, .ptr bn 0), (9, .bool g'), (10, .map bm), (81, .msl ba 0 N 4 none), (82, .int .i64 (N : Int)), (83, .int .i64 (i : Int))] (vset vh bm (.map (seenM (if ((ys[i]'(by omega)).u, a.l) ∈ ks then ks else ks ++ [((ys[i]'(by omega)).u, a.l)])))) vn) :
    FLoop Tryz.prog X G (.cut c_scope_Scope_Names_R19) [(0, .ptr b 0), (1, .ptr bn 0), (9, .bool g), (10, .map bm), (11, .int .i64 (i : Int)), (12, .bx (encA a)), (81, .msl ba 0 N 4 none), (82, .int .i64 (N : Int)), (83, .int .i64 (i : Int))] vh vn Q := by
  refine FLoop.cut ?_
  have hlt : i < ys.length := by omega
  have hput := put_seen (ys[i].u, a.l) ks
  have hfind := find_seen (ys[i].u, a.l) ks
  conv => whnf
  refine Get.mk (_, _, _, _) hn ?_
  conv => whnf
  refine Get.mk _ rfl ?_
  conv => whnf
  refine Get.mk i ⟨rfl, hi⟩ ?_
  conv => whnf
  refine Get.mk (_, _, _, _) ha ?_
  conv => whnf
  refine Get.mk _ (encA_2 hlt) ?_
  conv => whnf
  have upd : ∀ g', g' = (g && !decide ((ys[i].u, a.l) ∈ ks)) → Q .norm [(0, .ptr b 0), (1, .ptr bn 0), (9, .bool g'), (10, .map bm), (81, .msl ba 0 N 4 none), (82, .int .i64 (N : Int)), (83, .int .i64 (i : Int))] (vset vh bm (.map (putVM (keyV (ys[i].u, a.l)) (.bool true) (seenM ks)))) vn := fun g' hg => by rw [hput]; exact hQ g' hg
  refine CondP.mk (fun h1 => ?_) (fun h1 => ?_)
  · conv => whnf
    refine Get.mk (seenM ks) hm ?_
    conv => whnf
    refine ⟨fit_seen ks, ?_⟩
    conv => whnf
    refine Get.mk _ hfind ?_
    by_cases hk : (ys[i].u, a.l) ∈ ks
    · simp only [if_pos hk]
      conv => whnf
      refine Get.mk (seenM ks) hm ?_
      conv => whnf
      refine ⟨fit_seen ks, ?_⟩
      conv => whnf
      exact upd _ (by simp [h1, hk])
    · simp only [if_neg hk]
      conv => whnf
      refine Get.mk (seenM ks) hm ?_
      conv => whnf
      refine ⟨fit_seen ks, ?_⟩
      conv => whnf
      exact upd _ (by simp [h1, hk])
  · conv => whnf
    refine Get.mk (seenM ks) hm ?_
    conv => whnf
    refine ⟨fit_seen ks, ?_⟩
    conv => whnf
    exact upd _ (by simp [h1])
set_option maxHeartbeats 4000000 in
theorem SNames_L1 (H : XSN X) (b bn ba bm : Nat) (o : Option Nat) (lv : List (List Attr)) (hb : ∀ l ∈ lv, l.length < 2 ^ 40) (hlv : lv.length < 2 ^ 40) (n : Nd) (N : Nat) (hN : N < 2 ^ 30) (vn : Nat) (d1 : b ≠ ba) (d2 : b ≠ bm) (d3 : ba ≠ bn) (d4 : ba ≠ bm) (d5 : bn ≠ bm) (d6 : o ≠ some ba) (d7 : o ≠ some bm) (ty ta : TypeId) (Q : FQ) : ∀ (m i : Nat), N - i = m → i ≤ N → ∀ (vh : VH) (ys : List Attr) (ks : List (List Nat × List Nat)) (g : Bool), ys.length = N → SP vh b o lv → vh bn = some (.cells (encNv n (.msl ba 0 N 4 none)) ty 0 false) → vh ba = some (.cells (ys.map encA).flatten ta 0 false) → vh bm = some (.map (seenM ks)) →
    (∀ vh' i' t, vh' ba = some (.cells ((ys.take i ++ (nmL lv g ks (ys.drop i)).1).map encA).flatten ta 0 false) → (∀ c, c ≠ ba → c ≠ bm → vh' c = vh c) → Q (.exit 2) [(0, .ptr b 0), (1, .ptr bn 0), (9, .bool (nmL lv g ks (ys.drop i)).2), (10, .map bm), (81, .msl ba 0 N 4 none), (82, .int .i64 (N : Int)), (83, .int .i64 i'), (84, .bool t)] vh' vn) →
    FLoop Tryz.prog X G (.loop c_scope_Scope_Names_L1) [(0, .ptr b 0), (1, .ptr bn 0), (9, .bool g), (10, .map bm), (81, .msl ba 0 N 4 none), (82, .int .i64 (N : Int)), (83, .int .i64 (i : Int))] vh vn Q
  | m, i, hm, hi, vh, ys, ks, g, hys, hs, hn, ha, hmp, hQ => by
    refine FLoop.round ?_
    conv => whnf
    refine CondP.mk (fun h1 => ?_) (fun h1 => ?_)
    · have hiN : i < N := by simpa using h1
      have hlt : i < ys.length := by omega
      have hd : ys.drop i = ys[i] :: ys.drop (i + 1) := (List.getElem_cons_drop hlt).symm
      rw [hd] at hQ
      simp only [nmL] at hQ
      have e : wr .i64 ((i : Int) + 1) = ((i + 1 : Nat) : Int) := by rw [wr64] <;> omega
      have hw : 0 + i * 4 + 2 + 1 ≤ (ys.map encA).flatten.length := by have := flat_lt encA_len ys i hlt; omega
      conv => whnf
      refine Get.mk i ⟨rfl, hiN⟩ ?_
      conv => whnf
      refine Get.mk (_, _, _, _) ha ?_
      conv => whnf
      refine Get.mk _ (encA_all hlt) ?_
      conv => whnf
      have d6' : ∀ c, o = some c → c ≠ ba := fun c hc e => d6 (by rw [hc, e])
      have d7' : ∀ c, o = some c → c ≠ bm := fun c hc e => d7 (by rw [hc, e])
      have nxt : ∀ (vh2 : VH) (g1 : Bool), vh2 ba = some (.cells ((ys.set i (nmA lv ys[i]).1).map encA).flatten ta 0 false) → (∀ c, c ≠ ba → vh2 c = vh c) → g1 = (g && (nmA lv ys[i]).2) →
          FLoop Tryz.prog X G (.cut c_scope_Scope_Names_R19) [(0, .ptr b 0), (1, .ptr bn 0), (9, .bool g1), (10, .map bm), (11, .int .i64 (i : Int)), (12, .bx (encA ys[i])), (81, .msl ba 0 N 4 none), (82, .int .i64 (N : Int)), (83, .int .i64 (i : Int))] vh2 vn (fBlock 3 (fThen (fThen Q fun env vh nx => FLoop Tryz.prog X G c_scope_Scope_Names_L1.loop env vh nx Q) fun env vh nx => fC G (WpCall Tryz.prog X G) (FLoop Tryz.prog X G) (VCode.reg 0 [{ dst := some 135, op := VOp.bin BinOp.add (VX.t 83) (VX.c (V.int IntKind.i64 1)), guard := none, gh := [] }, { dst := some 83, op := VOp.mv (VX.t 135), guard := none, gh := [] }] [Gh.keep [0, 1, 9, 10, 81, 82, 83]]) env vh nx (fThen Q fun env vh nx => FLoop Tryz.prog X G c_scope_Scope_Names_L1.loop env vh nx Q))) := fun vh2 g1 a2 f2 hg1 => by
        have hlt2 : i < (ys.set i (nmA lv ys[i]).1).length := by rw [List.length_set]; exact hlt
        have hi2 : (ys.set i (nmA lv ys[i]).1)[i] = (nmA lv ys[i]).1 := by simp
        refine SNames_R19 b bn ba bm n N (ys.set i (nmA lv ys[i]).1) (by rw [List.length_set]; exact hys) i hiN ys[i] g1 ks ty ta vh2 vn ((f2 bn (Ne.symm d3)).trans hn) a2 ((f2 bm (Ne.symm d4)).trans hmp) _ fun g2 hg2 => ?_
        rw [hi2] at hg2 ⊢
        have hp : (ys.set i (nmA lv ys[i]).1).take (i + 1) = ys.take i ++ [(nmA lv ys[i]).1] := by
          have := take_set ys i hlt (nmA lv ys[i]).1 []
          simpa using this
        conv => whnf
        rw [e]
        generalize hv3 : vset vh2 bm _ = vh3
        have m3 : vh3 bm = some (.map (seenM (if ((nmA lv ys[i]).1.u, ys[i].l) ∈ ks then ks else ks ++ [((nmA lv ys[i]).1.u, ys[i].l)]))) := by rw [← hv3]; exact vset_same
        have f3 : ∀ c, c ≠ bm → vh3 c = vh2 c := fun c hc => by rw [← hv3]; exact vset_ne hc
        refine SNames_L1 H b bn ba bm o lv hb hlv n N hN vn d1 d2 d3 d4 d5 d6 d7 ty ta Q (m - 1) (i + 1) (by omega) (by omega) vh3 _ _ g2 (by rw [List.length_set]; exact hys) (hs.at ((f3 b d2).trans (f2 b d1)) fun c hc => (f3 c (d7' c hc)).trans (f2 c (d6' c hc))) ((f3 bn d5).trans ((f2 bn (Ne.symm d3)).trans hn)) ((f3 ba d4).trans a2) m3 ?_
        rw [hp, drop_set, hg2, hg1]
        refine fun vh' i' t h1 h2 => hQ vh' i' t ?_ fun c hc hcm => (h2 c hc hcm).trans ((f3 c hcm).trans (f2 c hc))
        rw [List.append_assoc] at h1
        exact h1
      refine CondP.mk (fun h2 => ?_) (fun h2 => ?_)
      · have h2' : ys[i].u = [] := by simpa using h2
        conv => whnf
        refine CondP.mk (fun h3 => ?_) (fun h3 => ?_)
        · have h3' : ys[i].p ≠ [] := by simpa using h3
          have ea : nmA lv ys[i] = ({ ys[i] with u := (uriT lv ys[i].p).1 }, (uriT lv ys[i].p).2) := by simp only [nmA, h2', h3', ne_eq, not_false_eq_true, and_self, if_true]
          have hst : vset vh ba (.cells (setSeg (ys.map encA).flatten (0 + i * 4 + 2) [.str (uriT lv ys[i].p).1]) ta 0 false) ba = some (.cells ((ys.set i (nmA lv ys[i]).1).map encA).flatten ta 0 false) := by rw [vset_same, flat_set _ _ hlt, ea]
          conv => whnf
          refine (SURI_ok H.toXS b o lv ys[i].p vh vn hs hb hlv).mono fun v vh' vn' he => ?_
          obtain ⟨e1, e2, e3⟩ := he
          rw [e1, e2, e3]
          clear e1 e2 e3
          conv => whnf
          refine Get.mk (_, _, _, _) hn ?_
          conv => whnf
          refine Get.mk _ rfl ?_
          conv => whnf
          refine CondP.mk (fun h4 => ?_) (fun h4 => ?_)
          · conv => whnf
            refine Get.mk i ⟨rfl, hiN⟩ ?_
            conv => whnf
            refine Get.mk (_, _, _, _) ha ?_
            conv => whnf
            refine ⟨⟨hw, Nat.zero_le _⟩, ?_⟩
            conv => whnf
            exact nxt _ _ hst (fun c hc => vset_ne hc) (by rw [ea, h4]; rfl)
          · conv => whnf
            refine Get.mk i ⟨rfl, hiN⟩ ?_
            conv => whnf
            refine Get.mk (_, _, _, _) ha ?_
            conv => whnf
            refine ⟨⟨hw, Nat.zero_le _⟩, ?_⟩
            conv => whnf
            exact nxt _ _ hst (fun c hc => vset_ne hc) (by rw [ea, h4]; rfl)
        · have h3' : ys[i].p = [] := by simpa using h3
          have ea : nmA lv ys[i] = (ys[i], true) := by simp [nmA, h3']
          conv => whnf
          exact nxt vh g (by rw [ea, List.set_getElem_self]; exact ha) (fun _ _ => rfl) (by rw [ea]; simp)
      · have h2' : ¬ ys[i].u = [] := by simpa using h2
        have ea : nmA lv ys[i] = (ys[i], true) := by simp [nmA, h2']
        conv => whnf
        exact nxt vh g (by rw [ea, List.set_getElem_self]; exact ha) (fun _ _ => rfl) (by rw [ea]; simp)
    · have hlt : i = N := by simp at h1; omega
      have e1 : ys.drop i = [] := by rw [hlt, ← hys, List.drop_length]
      have e2 : ys.take i = ys := by rw [hlt, ← hys, List.take_length]
      rw [e1, e2] at hQ
      conv => whnf
      exact hQ vh _ _ (by simpa [nmL] using ha) fun _ _ _ => rfl
termination_by m => m
decreasing_by all_goals omega
end Go.Proofs.YtpcbnpekdmobpaaGreatDoor
open Go Go.Ev Go.VL
namespace Go.Proofs.YtpcbnpekdmobpaaGreatDoor
attribute [local irreducible] fApp
variable {X : Ovr} {G : Gt}
theorem nmL_len (lv : List (List Attr)) : ∀ (xs : List Attr) (g : Bool) (ks : List (List Nat × List Nat)), (nmL lv g ks xs).1.length = xs.length
  | [], _, _ => rfl
  | a :: l, g, ks => by simp only [nmL, List.length_cons, nmL_len lv l]
theorem SNames_R23 (H : XSN X) (b : Nat) (o : Option Nat) (lv : List (List Attr)) (hl : lv.length < 2 ^ 40) (g : Bool) (v1 : Nat) (vh : VH) (vn : Nat) (hs : SP vh b o lv) (tl : VEnv) (Q : FQ)
    (hT : g = true → Q .ret [(4, .int .i64 0)] vh vn)
    (hF : g = false → ∀ vh', (∀ c, c ≠ b → vh' c = vh c) → SP vh' b o lv.dropLast → Q .ret [(4, .int .i64 2)] vh' vn) :
    FLoop Tryz.prog X G (.cut c_scope_Scope_Names_R23) ((0, .ptr b 0) :: (1, .ptr v1 0) :: (9, .bool g) :: tl) vh vn Q := by
  refine FLoop.cut ?_
  conv => whnf
  refine CondP.mk (fun h1 => ?_) (fun h1 => ?_)
  · have h1' : g = false := by simpa using h1
    conv => whnf
    refine (SPop_ok H.toXS b o lv vh vn hs hl).mono fun v vh' vn' he => ?_
    obtain ⟨e1, f1, s1, t, e2⟩ := he
    rw [e1, e2]
    conv => whnf
    exact hF h1' vh' f1 s1
  · have h1' : g = true := by simpa using h1
    conv => whnf
    exact hT h1'
theorem SNames_R13 (H : XSN X) (b bn bm : Nat) (o : Option Nat) (lv : List (List Attr)) (hb : ∀ l ∈ lv, l.length < 2 ^ 40) (hlv : lv.length < 2 ^ 40) (n : Nd) (av : V) (xs : List Attr) (hN : xs.length < 2 ^ 30) (ty : TypeId) (g : Bool) (vh : VH) (vn : Nat) (hs : SP vh b o lv) (hn : vh bn = some (.cells (encNv n av) ty 0 false)) (ha : SlR encA 4 vh av xs) (hm : vh bm = some (.map (seenM [])))
    (d1 : b ≠ bn) (d2 : ¬ blkOf av b) (d3 : ¬ blkOf av bn) (d5 : ∀ c, blkOf av c → o ≠ some c) (d6 : b ≠ bm) (d7 : bn ≠ bm) (d8 : ¬ blkOf av bm) (d9 : o ≠ some bm) (Q : FQ)
    (hQ : ∀ vh' r lv', ((nmL lv g [] xs).2 = true ∧ r = 0 ∧ lv' = lv ∨ (nmL lv g [] xs).2 = false ∧ r = 2 ∧ lv' = lv.dropLast) → SlR encA 4 vh' av (nmL lv g [] xs).1 → SP vh' b o lv' → (∀ c, c ≠ b → c ≠ bm → ¬ blkOf av c → vh' c = vh c) → Q .ret [(4, .int .i64 r)] vh' vn) :
    FLoop Tryz.prog X G (.cut c_scope_Scope_Names_R13) [(0, .ptr b 0), (1, .ptr bn 0), (9, .bool g), (10, .map bm)] vh vn Q := by
  refine FLoop.cut ?_
  conv => whnf
  refine Get.mk (_, _, _, _) hn ?_
  conv => whnf
  refine Get.mk _ rfl ?_
  conv => whnf
  rcases id ha with ⟨rfl, rfl⟩ | ⟨rfl, rfl⟩ | ⟨ba, ta, rfl, h4⟩
  · conv => whnf
    refine FLoop.round ?_
    conv => whnf
    refine SNames_R23 H b o lv hlv g bn vh vn hs _ _ (fun h => ?_) (fun h vh' f s => ?_)
    · exact hQ vh 0 lv (.inl ⟨h, rfl, rfl⟩) (.inl ⟨rfl, rfl⟩) hs fun _ _ _ _ => rfl
    · exact hQ vh' 2 lv.dropLast (.inr ⟨h, rfl, rfl⟩) (.inl ⟨rfl, rfl⟩) s fun c hc _ _ => f c hc
  · conv => whnf
    refine FLoop.round ?_
    conv => whnf
    refine SNames_R23 H b o lv hlv g bn vh vn hs _ _ (fun h => ?_) (fun h vh' f s => ?_)
    · exact hQ vh 0 lv (.inl ⟨h, rfl, rfl⟩) (.inr (.inl ⟨rfl, rfl⟩)) hs fun _ _ _ _ => rfl
    · exact hQ vh' 2 lv.dropLast (.inr ⟨h, rfl, rfl⟩) (.inr (.inl ⟨rfl, rfl⟩)) s fun c hc _ _ => f c hc
  · have e1 : ba ≠ b := fun h => d2 h.symm
    have e2 : ba ≠ bn := fun h => d3 h.symm
    have e3 : ba ≠ bm := fun h => d8 h.symm
    have e4 : ∀ c, o = some c → c ≠ ba := fun c hc h => d5 c h hc
    conv => whnf
    refine SNames_L1 H b bn ba bm o lv hb hlv n xs.length hN vn (Ne.symm e1) d6 e2 e3 d7 (d5 ba rfl) d9 ty ta _ xs.length 0 rfl (Nat.zero_le _) vh xs [] g rfl hs hn h4 hm fun vh1 i' t a1 f1 => ?_
    rw [List.drop_zero, List.take_zero, List.nil_append] at a1
    rw [List.drop_zero]
    have s1 : SP vh1 b o lv := hs.at (f1 b (Ne.symm e1) d6) fun c hc => f1 c (e4 c hc) fun h => d9 (by rw [hc, h])
    have A1 : SlR encA 4 vh1 (.msl ba 0 xs.length 4 none) (nmL lv g [] xs).1 := .inr (.inr ⟨ba, ta, by rw [nmL_len], a1⟩)
    refine SNames_R23 H b o lv hlv _ bn vh1 vn s1 _ _ (fun h => ?_) (fun h vh' f s => ?_)
    · exact hQ vh1 0 lv (.inl ⟨h, rfl, rfl⟩) A1 s1 fun c _ hcm hca => f1 c hca hcm
    · exact hQ vh' 2 lv.dropLast (.inr ⟨h, rfl, rfl⟩) (A1.at fun c hc => f c (by rw [hc]; exact e1)) s fun c hc hcm hca => (f c hc).trans (f1 c hca hcm)
set_option maxHeartbeats 4000000 in
theorem SNames_R10 (H : XSN X) (b bn : Nat) (o : Option Nat) (lv : List (List Attr)) (hb : ∀ l ∈ lv, l.length < 2 ^ 40) (hlv : lv.length < 2 ^ 40) (n : Nd) (av : V) (xs : List Attr) (hN : xs.length < 2 ^ 30) (ty : TypeId) (vh : VH) (vn : Nat) (hs : SP vh b o lv) (hn : vh bn = some (.cells (encNv n av) ty 0 false)) (ha : SlR encA 4 vh av xs)
    (d1 : b ≠ bn) (d2 : ¬ blkOf av b) (d3 : ¬ blkOf av bn) (d4 : o ≠ some bn) (d5 : ∀ c, blkOf av c → o ≠ some c) (q1 : b < vn) (q2 : bn < vn) (q3 : ∀ c, o = some c → c < vn) (q4 : ∀ c, blkOf av c → c < vn) (Q : FQ)
    (hQ : ∀ vh' vn' r lv', vn ≤ vn' → ((nmL lv ((uriT lv n.p).2 && !decide (n.p = S_xmlns)) [] xs).2 = true ∧ r = 0 ∧ lv' = lv ∨ (nmL lv ((uriT lv n.p).2 && !decide (n.p = S_xmlns)) [] xs).2 = false ∧ r = 2 ∧ lv' = lv.dropLast) → vh' bn = some (.cells (encNv { n with u := (uriT lv n.p).1 } av) ty 0 false) → SlR encA 4 vh' av (nmL lv ((uriT lv n.p).2 && !decide (n.p = S_xmlns)) [] xs).1 → SP vh' b o lv' → (∀ c, c < vn → c ≠ b → c ≠ bn → ¬ blkOf av c → vh' c = vh c) → Q .ret [(4, .int .i64 r)] vh' vn') :
    FLoop Tryz.prog X G (.cut c_scope_Scope_Names_R10) [(0, .ptr b 0), (1, .ptr bn 0)] vh vn Q := by
  refine FLoop.cut ?_
  conv => whnf
  refine Get.mk (_, _, _, _) hn ?_
  conv => whnf
  refine Get.mk _ rfl ?_
  conv => whnf
  refine (SURI_ok H.toXS b o lv n.p vh vn hs hb hlv).mono fun v vh' vn' he => ?_
  obtain ⟨e1, e2, e3⟩ := he
  rw [e1, e2, e3]
  clear e1 e2 e3
  conv => whnf
  have go : ∀ (g : Bool) (vh2 : VH), g = ((uriT lv n.p).2 && !decide (n.p = S_xmlns)) → vh2 bn = some (.cells (encNv { n with u := (uriT lv n.p).1 } av) ty 0 false) → vh2 vn = some (.map []) → (∀ c, c ≠ bn → c ≠ vn → vh2 c = vh c) →
      FLoop Tryz.prog X G (.cut c_scope_Scope_Names_R13) [(0, .ptr b 0), (1, .ptr bn 0), (9, .bool g), (10, .map vn)] vh2 (vn + 1) Q := fun g vh2 hg n2 m2 f2 => by
    refine SNames_R13 H b bn vn o lv hb hlv _ av xs hN ty g vh2 (vn + 1) (hs.at (f2 b d1 (by omega)) fun c hc => f2 c (fun h => d4 (by rw [hc, h])) (by have := q3 c hc; omega)) n2 (ha.at fun c hc => f2 c (fun h => d3 (h ▸ hc)) (by have := q4 c hc; omega)) m2 d1 d2 d3 d5 (by omega) (by omega) (fun h => by have := q4 vn h; omega) (fun h => by have := q3 vn h; omega) Q fun vh3 r lv' hr A3 s3 f3 => ?_
    rw [hg] at hr A3
    exact hQ vh3 (vn + 1) r lv' (by omega) hr ((f3 bn (Ne.symm d1) (by omega) d3).trans n2) A3 s3 fun c hc h1 h2 h3 => (f3 c h1 (by omega) h3).trans (f2 c h2 (by omega))
  refine CondP.mk (fun h1 => ?_) (fun h1 => ?_)
  · conv => whnf
    refine Get.mk (_, _, _, _) hn ?_
    conv => whnf
    refine Get.mk _ rfl ?_
    conv => whnf
    refine Get.mk (_, _, _, _) hn ?_
    conv => whnf
    refine ⟨⟨(by decide : 5 ≤ 7), Nat.zero_le _⟩, ?_⟩
    conv => whnf
    exact go _ _ (by rw [h1]; rfl) ((vset_ne (by omega)).trans vset_same) vset_same fun c h1 h2 => (vset_ne h2).trans (vset_ne h1)
  · conv => whnf
    refine Get.mk (_, _, _, _) hn ?_
    conv => whnf
    refine ⟨⟨(by decide : 5 ≤ 7), Nat.zero_le _⟩, ?_⟩
    conv => whnf
    exact go _ _ (by rw [h1]; rfl) ((vset_ne (by omega)).trans vset_same) vset_same fun c h1 h2 => (vset_ne h2).trans (vset_ne h1)
end Go.Proofs.YtpcbnpekdmobpaaGreatDoor
open Go Go.Ev Go.VL
namespace Go.Proofs.YtpcbnpekdmobpaaGreatDoor
attribute [local irreducible] fApp
variable {X : Ovr} {G : Gt}
def namesT (lv : List (List Attr)) (n : Nd) : Bool × Nd × List (List Attr) :=
  match pushT [] (n.s.map nsDecl) with
  | none => (false, { n with s := n.s.map nsDecl }, lv)
  | some ms =>
    ((nmL (lv ++ [ms]) ((uriT (lv ++ [ms]) n.p).2 && !decide (n.p = S_xmlns)) [] (n.s.map nsDecl)).2,
      { n with u := (uriT (lv ++ [ms]) n.p).1, s := (nmL (lv ++ [ms]) ((uriT (lv ++ [ms]) n.p).2 && !decide (n.p = S_xmlns)) [] (n.s.map nsDecl)).1 },
      if (nmL (lv ++ [ms]) ((uriT (lv ++ [ms]) n.p).2 && !decide (n.p = S_xmlns)) [] (n.s.map nsDecl)).2 = true then lv ++ [ms] else lv)
structure NamesQ (vh : VH) (vn b bn : Nat) (o : Option Nat) (lv : List (List Attr)) (n : Nd) (av : V) (r : V) (vh' : VH) (vn' : Nat) : Prop where
  nx : vn ≤ vn'
  hr : r = .int .i64 (if (namesT lv n).1 = true then 0 else 2)
  hn : NdAt vh' bn (namesT lv n).2.1 av
  hs : SlR encA 4 vh' av (namesT lv n).2.1.s
  ho : ∃ o', SP vh' b o' (namesT lv n).2.2 ∧ ∀ c, o' = some c → c < vn' ∧ (o = some c ∨ vn ≤ c)
  hf : ∀ c, c < vn → c ≠ b → c ≠ bn → o ≠ some c → ¬ blkOf av c → vh' c = vh c
set_option maxHeartbeats 4000000 in
theorem SNames_ok (H : XSN X) (b bn : Nat) (o : Option Nat) (lv : List (List Attr)) (hb : ∀ l ∈ lv, l.length < 2 ^ 30) (hlv : lv.length < 2 ^ 29) (n : Nd) (av : V) (hN : n.s.length < 2 ^ 30) (vh : VH) (vn : Nat) (hs : SP vh b o lv) (hn : NdAt vh bn n av) (ha : SlR encA 4 vh av n.s)
    (d1 : b ≠ bn) (d2 : ¬ blkOf av b) (d3 : ¬ blkOf av bn) (d4 : o ≠ some bn) (d5 : ∀ c, blkOf av c → o ≠ some c) (q1 : b < vn) (q2 : bn < vn) (q3 : ∀ c, o = some c → c < vn) (q4 : ∀ c, blkOf av c → c < vn) :
    WpCall Tryz.prog X G F_scope_Scope_Names [.ptr b 0, .ptr bn 0] vh vn fun r vh' vn' => NamesQ vh vn b bn o lv n av r vh' vn' := by
  apply k_scope_Scope_Names.run H.names
  obtain ⟨ty, hn⟩ := hn
  have push := fun (vh1 : VH) (s1 : SP vh1 b o lv) (a1 : SlR encA 4 vh1 av (n.s.map nsDecl)) => SPush_ok (G := G) H.toXS b o lv av (n.s.map nsDecl) vh1 vn s1 q1 q3 (by omega) (.inl a1) q4 (by rw [List.length_map]; exact hN)
  have fin : ∀ (r : V) (vh1 vh2 : VH) (n2 : Nat), vh1 bn = some (.cells (encNv n av) ty 0 false) → SlR encA 4 vh1 av (n.s.map nsDecl) → SP vh1 b o lv → (∀ c, ¬ blkOf av c → vh1 c = vh c) → PushQ vh1 vn b o lv (n.s.map nsDecl) r vh2 n2 →
      (r = .int .i64 2 ∧ NamesQ vh vn b bn o lv n av (.int .i64 2) vh2 n2) ∨ (r = .int .i64 0 ∧ FLoop Tryz.prog X G (.cut c_scope_Scope_Names_R10) [(0, .ptr b 0), (1, .ptr bn 0)] vh2 n2 (fFin G r_scope_Scope_Names fun r vh' vn' => NamesQ vh vn b bn o lv n av r vh' vn')) := by
    intro r vh1 vh2 n2 n1 a1 s1 f1 PQ
    cases hp : pushT [] (n.s.map nsDecl) with
    | none =>
      obtain ⟨e1, f2⟩ := PQ.bad hp
      have e0 : namesT lv n = (false, { n with s := n.s.map nsDecl }, lv) := by simp only [namesT, hp]
      refine .inl ⟨e1, PQ.nx, by rw [e0]; rfl, ⟨ty, by rw [e0]; exact (f2 bn q2).trans n1⟩, by rw [e0]; exact a1.at fun c hc => f2 c (q4 c hc), ⟨o, by rw [e0]; exact s1.at (f2 b q1) fun c hc => f2 c (q3 c hc), fun c hc => ⟨by have := q3 c hc; have := PQ.nx; omega, .inl hc⟩⟩, fun c hc _ _ _ h5 => (f2 c hc).trans (f1 c h5)⟩
    | some ms =>
      obtain ⟨e1, o', s2, ho', f2⟩ := PQ.good ms hp
      have g2 := PQ.nx
      have hms : ms.length < 2 ^ 30 := by
        have := pushT_len _ _ _ hp
        simp only [List.length_nil, List.length_map] at this
        omega
      refine .inr ⟨e1, ?_⟩
      have fo : ∀ c, c < vn → o ≠ some c → c ≠ b → vh2 c = vh1 c := fun c h1 h2 h3 => f2 c h1 h3 h2
      refine SNames_R10 H b bn o' (lv ++ [ms]) (fun l hl => ?_) (by rw [List.length_append, List.length_singleton]; omega) n av (n.s.map nsDecl) (by rw [List.length_map]; exact hN) ty vh2 n2 s2 ((fo bn q2 d4 (Ne.symm d1)).trans n1) (a1.at fun c hc => fo c (q4 c hc) (d5 c hc) fun h => d2 (h ▸ hc)) d1 d2 d3 (fun h => ?_) (fun c hc h => ?_) (by omega) (by omega) (fun c hc => (ho' c hc).1) (fun c hc => by have := q4 c hc; omega) _ fun vh3 n3 r lv' g3 hr n3' a3 s3 f3 => ?_
      · rcases List.mem_append.1 hl with h | h
        · exact Nat.lt_trans (hb l h) (by decide)
        · rw [List.mem_singleton.1 h]; exact Nat.lt_trans hms (by decide)
      · rcases (ho' bn h).2 with h | h
        · exact d4 h
        · omega
      · rcases (ho' c h).2 with h | h
        · exact d5 c hc h
        · have := q4 c hc; omega
      · have e0 : namesT lv n = ((nmL (lv ++ [ms]) ((uriT (lv ++ [ms]) n.p).2 && !decide (n.p = S_xmlns)) [] (n.s.map nsDecl)).2, { n with u := (uriT (lv ++ [ms]) n.p).1, s := (nmL (lv ++ [ms]) ((uriT (lv ++ [ms]) n.p).2 && !decide (n.p = S_xmlns)) [] (n.s.map nsDecl)).1 }, if (nmL (lv ++ [ms]) ((uriT (lv ++ [ms]) n.p).2 && !decide (n.p = S_xmlns)) [] (n.s.map nsDecl)).2 = true then lv ++ [ms] else lv) := by simp only [namesT, hp]
        conv => whnf
        refine Get.mk vh3 (fun _ _ h => h) ⟨(by omega : vn ≤ n3), ?_, ⟨ty, by rw [e0]; exact n3'⟩, by rw [e0]; exact a3, ⟨o', ?_, fun c hc => ⟨(by have := (ho' c hc).1; omega : c < n3), (ho' c hc).2⟩⟩, fun c hc h1 h2 h3 h4 => (f3 c (by omega) h1 h2 h4).trans ((fo c hc h3 h1).trans (f1 c h4))⟩
        · rw [e0]
          rcases hr with ⟨h1, rfl, _⟩ | ⟨h1, rfl, _⟩ <;> simp [h1]
        · rw [e0]
          rcases hr with ⟨h1, _, rfl⟩ | ⟨h1, _, rfl⟩
          · simp only [h1, if_true]; exact s3
          · simp only [h1, Bool.false_eq_true, if_false]
            rw [List.dropLast_concat] at s3
            exact s3
  conv => whnf
  refine Get.mk (_, _, _, _) hn ?_
  conv => whnf
  refine Get.mk _ rfl ?_
  conv => whnf
  obtain ⟨w, hw⟩ : ∃ w, w = av := ⟨_, rfl⟩
  rcases id ha with ⟨h0, rfl⟩ | ⟨h0, rfl⟩ | ⟨ba, ta, rfl, h4⟩
  · conv => whnf
    refine FLoop.round ?_
    conv => whnf
    refine Get.mk (_, _, _, _) hn ?_
    conv => whnf
    refine Get.mk _ rfl ?_
    conv => whnf
    have hm0 : n.s.map nsDecl = [] := by rw [h0]; rfl
    have a1 : SlR encA 4 vh .nils (n.s.map nsDecl) := by rw [hm0]; exact .inl ⟨rfl, rfl⟩
    refine (push vh hs a1).mono fun r vh2 n2 PQ => ?_
    rcases fin r vh vh2 n2 hn a1 hs (fun _ _ => rfl) PQ with ⟨rfl, hq⟩ | ⟨rfl, hq⟩
    · conv => whnf
      exact Get.mk _ (fun _ _ h => h) hq
    · conv => whnf
      exact hq
  · conv => whnf
    refine FLoop.round ?_
    conv => whnf
    refine Get.mk (_, _, _, _) hn ?_
    conv => whnf
    refine Get.mk _ rfl ?_
    conv => whnf
    have hm0 : n.s.map nsDecl = [] := by rw [h0]; rfl
    have a1 : SlR encA 4 vh (.sl 4 [] (some 0)) (n.s.map nsDecl) := by rw [hm0]; exact .inr (.inl ⟨rfl, rfl⟩)
    refine (push vh hs a1).mono fun r vh2 n2 PQ => ?_
    rcases fin r vh vh2 n2 hn a1 hs (fun _ _ => rfl) PQ with ⟨rfl, hq⟩ | ⟨rfl, hq⟩
    · conv => whnf
      exact Get.mk _ (fun _ _ h => h) hq
    · conv => whnf
      exact hq
  · have e2 : ba ≠ bn := fun h => d3 h.symm
    have e1 : ba ≠ b := fun h => d2 h.symm
    conv => whnf
    refine SNames_L0 b bn ba n n.s.length hN vn e2 ty ta _ n.s.length 0 rfl (Nat.zero_le _) vh n.s rfl hn h4 fun vh1 i' t a1 f1 => ?_
    rw [List.drop_zero, List.take_zero, List.nil_append] at a1
    have hn1 := (f1 bn (Ne.symm e2)).trans hn
    have A1 : SlR encA 4 vh1 (.msl ba 0 n.s.length 4 none) (n.s.map nsDecl) := .inr (.inr ⟨ba, ta, by rw [List.length_map], a1⟩)
    have s1 : SP vh1 b o lv := hs.at (f1 b (Ne.symm e1)) fun c hc => f1 c fun h => d5 ba rfl (by rw [hc, h])
    conv => whnf
    refine Get.mk (_, _, _, _) hn1 ?_
    conv => whnf
    refine Get.mk _ rfl ?_
    conv => whnf
    refine (push vh1 s1 A1).mono fun r vh2 n2 PQ => ?_
    rcases fin r vh1 vh2 n2 hn1 A1 s1 (fun c hc => f1 c hc) PQ with ⟨rfl, hq⟩ | ⟨rfl, hq⟩
    · conv => whnf
      exact Get.mk _ (fun _ _ h => h) hq
    · conv => whnf
      exact hq
end Go.Proofs.YtpcbnpekdmobpaaGreatDoor
open Go Go.Ev Go.VL
namespace Go.Proofs.YtpcbnpekdmobpaaGreatDoor
attribute [local irreducible] fApp
variable {X : Ovr} {G : Gt}
theorem Clone_ok (hX : X F_slices_Clone_Lapi_Attr_api_Attr = none) (xs : List Attr) (c : Option Nat) (hN : xs.length < 2 ^ 30) (vh : VH) (vn : Nat) :
    WpCall Tryz.prog X G F_slices_Clone_Lapi_Attr_api_Attr [.sl 4 (xs.map encA) c] vh vn fun r vh' vn' => vn ≤ vn' ∧ Attrs vn vh' vn' r xs ∧ ∀ d, d < vn → vh' d = vh d := by
  apply k_slices_Clone_Lapi_Attr_api_Attr.run hX
  have room1 : room 64 xs.length := ⟨by omega, by show _ < 9223372036854775808; omega⟩
  cases xs with
  | nil =>
    conv => whnf
    intro q
    cases q with
    | true =>
      conv => whnf
      exact Get.mk vh (fun _ _ h => h) ⟨Nat.le_refl _, .nil, fun _ _ => rfl⟩
    | false =>
      conv => whnf
      refine SlIn.fresh (enc := encA) (xs := ([] : List Attr)) (lo := vn) rfl (Nat.le_refl _) room1 fun v1 vh1 n1 A1 g1 f1 => ?_
      rcases id A1 with ⟨rfl | rfl, _⟩ | ⟨b, _, _, rfl, _⟩
      all_goals
        conv => whnf
        exact Get.mk vh1 (fun _ _ h => h) ⟨g1, A1, fun d hd => f1 d (by omega)⟩
  | cons a l =>
    conv => whnf
    refine SlIn.fresh (enc := encA) (xs := a :: l) (lo := vn) rfl (Nat.le_refl _) room1 fun v1 vh1 n1 A1 g1 f1 => ?_
    rcases id A1 with ⟨rfl | rfl, _⟩ | ⟨b, _, _, rfl, _⟩
    all_goals
      conv => whnf
      exact Get.mk vh1 (fun _ _ h => h) ⟨g1, A1, fun d hd => f1 d (by omega)⟩
theorem Equal_L0 (ba : Nat) (ta : TypeId) (xs ys : List Attr) (c : Option Nat) (hl : xs.length = ys.length) (hN : xs.length < 2 ^ 30) (vh : VH) (vn : Nat) (ha : vh ba = some (.cells (xs.map encA).flatten ta 0 false)) (Q : FQ) : ∀ (m i : Nat), xs.length - i = m → i ≤ xs.length →
    (¬ xs.drop i = ys.drop i → Q .ret [(4, .bool false)] vh vn) →
    (xs.drop i = ys.drop i → ∀ i' t, Q (.exit 0) [(0, .msl ba 0 xs.length 4 none), (1, .sl 4 (ys.map encA) c), (12, .int .i64 (xs.length : Int)), (13, .int .i64 i'), (14, .bool t)] vh vn) →
    FLoop Tryz.prog X G (.loop c_slices_Equal_Lapi_Attr_api_Attr_L0) [(0, .msl ba 0 xs.length 4 none), (1, .sl 4 (ys.map encA) c), (12, .int .i64 (xs.length : Int)), (13, .int .i64 (i : Int))] vh vn Q
  | m, i, hm, hi, hR, hQ => by
    refine FLoop.round ?_
    conv => whnf
    refine CondP.mk (fun h1 => ?_) (fun h1 => ?_)
    · have hlt : i < xs.length := by simp at h1; omega
      have hly : i < ys.length := by omega
      have hd : xs.drop i = xs[i] :: xs.drop (i + 1) := (List.getElem_cons_drop hlt).symm
      have hd2 : ys.drop i = ys[i] :: ys.drop (i + 1) := (List.getElem_cons_drop hly).symm
      rw [hd, hd2] at hR hQ
      have e : wr .i64 ((i : Int) + 1) = ((i + 1 : Nat) : Int) := by rw [wr64] <;> omega
      conv => whnf
      refine Get.mk i ⟨rfl, hlt⟩ ?_
      conv => whnf
      refine Get.mk (_, _, _, _) ha ?_
      conv => whnf
      refine Get.mk _ (encA_all hlt) ?_
      conv => whnf
      refine Get.mk (i, encA ys[i]) ⟨rfl, by simp [hly]⟩ ?_
      conv => whnf
      refine CondP.mk (fun h2 => ?_) (fun h2 => ?_)
      · have h2 : (!decide ([xs[i].p, xs[i].l, xs[i].u, xs[i].v] = [ys[i].p, ys[i].l, ys[i].u, ys[i].v])) = true := h2
        conv => whnf
        refine hR fun h => ?_
        rw [(List.cons.inj h).1] at h2
        simp at h2
      · have h2 : (!decide ([xs[i].p, xs[i].l, xs[i].u, xs[i].v] = [ys[i].p, ys[i].l, ys[i].u, ys[i].v])) = false := h2
        have h2' : xs[i] = ys[i] := attr_ext (by simpa using h2)
        conv => whnf
        rw [e]
        refine Equal_L0 ba ta xs ys c hl hN vh vn ha Q (m - 1) (i + 1) (by omega) (by omega) (fun h => hR fun h3 => h (List.cons.inj h3).2) (fun h => hQ (by rw [h, h2']))
    · have hlt : i = xs.length := by simp at h1; omega
      have e1 : xs.drop i = ys.drop i := by rw [hlt, List.drop_length, hl, List.drop_length]
      conv => whnf
      exact hQ e1 _ _
termination_by m => m
decreasing_by all_goals omega
theorem Equal_ok (hX : X F_slices_Equal_Lapi_Attr_api_Attr = none) (v : V) (xs ys : List Attr) (c : Option Nat) (hN : xs.length < 2 ^ 30) (vh : VH) (vn : Nat) (ha : SlR encA 4 vh v xs) :
    WpCall Tryz.prog X G F_slices_Equal_Lapi_Attr_api_Attr [v, .sl 4 (ys.map encA) c] vh vn fun r vh' vn' => vh' = vh ∧ vn' = vn ∧ r = .bool (decide (xs.map attrL = ys.map attrL)) := by
  apply k_slices_Equal_Lapi_Attr_api_Attr.run hX
  have tt : decide (([] : List Attr).map attrL = ([] : List Attr).map attrL) = true := rfl
  have n1 : ∀ zs : List Attr, zs ≠ [] → decide (([] : List Attr).map attrL = zs.map attrL) = false := fun zs hz => by cases zs with | nil => exact (hz rfl).elim | cons _ _ => simp
  rcases id ha with ⟨rfl, rfl⟩ | ⟨rfl, rfl⟩ | ⟨ba, ta, rfl, h4⟩
  · conv => whnf
    refine CondP.mk (fun h1 => ?_) (fun h1 => ?_)
    · have hne : ys ≠ [] := fun h => by subst h; simp at h1
      conv => whnf
      exact Get.mk _ (fun _ _ h => h) ⟨rfl, rfl, by rw [n1 ys hne]⟩
    · have hy : ys = [] := by first | simpa using h1 | exact List.eq_nil_of_length_eq_zero (by simp at h1; omega)
      subst hy
      conv => whnf
      refine FLoop.round ?_
      conv => whnf
      exact Get.mk _ (fun _ _ h => h) ⟨rfl, rfl, by rw [tt]⟩
  · conv => whnf
    refine CondP.mk (fun h1 => ?_) (fun h1 => ?_)
    · have hne : ys ≠ [] := fun h => by subst h; simp at h1
      conv => whnf
      exact Get.mk _ (fun _ _ h => h) ⟨rfl, rfl, by rw [n1 ys hne]⟩
    · have hy : ys = [] := by first | simpa using h1 | exact List.eq_nil_of_length_eq_zero (by simp at h1; omega)
      subst hy
      conv => whnf
      refine FLoop.round ?_
      conv => whnf
      exact Get.mk _ (fun _ _ h => h) ⟨rfl, rfl, by rw [tt]⟩
  · conv => whnf
    refine CondP.mk (fun h1 => ?_) (fun h1 => ?_)
    · have hne : ¬ xs.map attrL = ys.map attrL := fun h => by rw [attrL_inj] at h; subst h; simp at h1
      conv => whnf
      exact Get.mk _ (fun _ _ h => h) ⟨rfl, rfl, by simp only [hne, decide_false]⟩
    · have hl : xs.length = ys.length := by simp at h1; omega
      conv => whnf
      refine Equal_L0 ba ta xs ys c hl hN vh vn h4 _ xs.length 0 rfl (Nat.zero_le _) (fun h => ?_) (fun h i' t => ?_)
      · rw [List.drop_zero, List.drop_zero] at h
        conv => whnf
        exact Get.mk _ (fun _ _ h => h) ⟨rfl, rfl, by rw [decide_eq_false (fun h2 => h (attrL_inj.1 h2))]⟩
      · rw [List.drop_zero, List.drop_zero] at h
        conv => whnf
        exact Get.mk _ (fun _ _ h => h) ⟨rfl, rfl, by rw [decide_eq_true (attrL_inj.2 h)]⟩
def Frm (vh : VH) (vn : Nat) (vh' : VH) (vn' : Nat) : Prop := vn ≤ vn' ∧ ∀ c, c < vn → vh' c = vh c
structure LibT (X : Ovr) (G : Gt) (PN : List Nat → List Nat → Prop) (PV PT : List Nat → Prop) : Prop where
  named : ∀ p l, PN p l → ∀ vh vn, WpCall Tryz.prog X G F_tree_named [.str p, .str l] vh vn fun v vh' vn' => v = .bool (namedP p l) ∧ Frm vh vn vh' vn'
  chars : ∀ s, PV s → ∀ vh vn, WpCall Tryz.prog X G F_tree_chars [.str s] vh vn fun v vh' vn' => v = .bool (validP s) ∧ Frm vh vn vh' vn'
  target : ∀ s, PT s → ∀ vh vn, WpCall Tryz.prog X G F_token_Target [.str s] vh vn fun v vh' vn' => v = .bool (targetP s) ∧ Frm vh vn vh' vn'
  contains : ∀ s w, PV s → w ∈ [S_13_, S_45__45_, S_63__62_] → ∀ vh vn, WpCall Tryz.prog X G F_strings_Contains [.str s, .str w] vh vn fun v vh' vn' => v = .bool (holdsP s w) ∧ Frm vh vn vh' vn'
  suffix : ∀ s, PV s → ∀ vh vn, WpCall Tryz.prog X G F_strings_HasSuffix [.str s, .str S_45_] vh vn fun v vh' vn' => v = .bool (!decide (s = []) && decide ((s.getLastD 0 : Int) = 45)) ∧ Frm vh vn vh' vn'
  spaces : ∀ s, PV s → ∀ vh vn, WpCall Tryz.prog X G F_token_Spaces [.str s, .int .i64 0] vh vn fun v vh' vn' => ∃ k, v = .int .i64 k ∧ (k = 0 ↔ (s = [] ∨ spaceP (wr .i32 (.ofNat (s.headD 0))) = false)) ∧ Frm vh vn vh' vn'
end Go.Proofs.YtpcbnpekdmobpaaGreatDoor
open Go Go.Ev Go.VL
namespace Go.Proofs.YtpcbnpekdmobpaaGreatDoor
attribute [local irreducible] fApp
variable {X : Ovr} {G : Gt} {PN : List Nat → List Nat → Prop} {PV PT : List Nat → Prop}
structure XTE (X : Ovr) : Prop extends XSN X where
  clone : X F_slices_Clone_Lapi_Attr_api_Attr = none
  equal : X F_slices_Equal_Lapi_Attr_api_Attr = none
  ec1 : X F_tree_element_c1 = none
  telement : X F_tree_element = none
def goodL : Bool → List Attr → List Attr → Bool
  | g, _, [] => g
  | g, pre, a :: l => goodL (((g && namedP a.p a.l) && validP a.v) && !pre.any (sameName a)) (pre ++ [a]) l
def clr (a : Attr) : Attr := { a with u := [] }
abbrev elE (b : Nat) (n : Nd) (g : Bool) (bx : Nat) (i : Int) (tl : VEnv) : VEnv := (1, .ptr b 0) :: (2, .bx (encN n)) :: (5, .bool g) :: (6, .ptr bx 0) :: (25, .sl 4 (n.s.map encA) none) :: (26, .int .i64 (n.s.length : Int)) :: (27, .int .i64 i) :: tl
set_option maxHeartbeats 4000000 in
theorem TEl_L0 (H : XTE X) (Lb : LibT X G PN PV PT) (b bx ba : Nat) (n nx : Nd) (hN : n.s.length < 2 ^ 30) (hp : ∀ a ∈ n.s, PN a.p a.l ∧ PV a.v) (d3 : ba ≠ bx) (ty ta : TypeId) (Q : FQ) : ∀ (m i : Nat), n.s.length - i = m → i ≤ n.s.length → ∀ (vh : VH) (vn : Nat) (ys : List Attr) (g : Bool), ys.length = n.s.length → ba < vn → bx < vn → vh bx = some (.cells (encNv nx (.msl ba 0 n.s.length 4 none)) ty 0 false) → vh ba = some (.cells (ys.map encA).flatten ta 0 false) →
    (∀ vh' vn' i' t, vn ≤ vn' → vh' ba = some (.cells ((ys.take i ++ (ys.drop i).map clr).map encA).flatten ta 0 false) → (∀ c, c < vn → c ≠ ba → vh' c = vh c) → Q (.exit 0) (elE b n (goodL g (n.s.take i) (n.s.drop i)) bx i' [(28, .bool t)]) vh' vn') →
    FLoop Tryz.prog X G (.loop c_tree_element_L0) (elE b n g bx i []) vh vn Q
  | m, i, hm, hi, vh, vn, ys, g, hys, lba, lbx, hx, ha, hQ => by
    refine FLoop.round ?_
    conv => whnf
    refine CondP.mk (fun h1 => ?_) (fun h1 => ?_)
    · have hlt : i < n.s.length := by simp at h1; omega
      have hly : i < ys.length := by omega
      have hd : ys.drop i = ys[i] :: ys.drop (i + 1) := (List.getElem_cons_drop hly).symm
      have hd2 : n.s.drop i = n.s[i] :: n.s.drop (i + 1) := (List.getElem_cons_drop hlt).symm
      rw [hd, hd2] at hQ
      simp only [List.map_cons, goodL] at hQ
      obtain ⟨pn, pv⟩ := hp _ (List.getElem_mem hlt)
      have e : wr .i64 ((i : Int) + 1) = ((i + 1 : Nat) : Int) := by rw [wr64] <;> omega
      have hw : 0 + i * 4 + 2 + 1 ≤ (ys.map encA).flatten.length := by have := flat_lt encA_len ys i hly; omega
      have ht : n.s.take i ++ [n.s[i]] = n.s.take (i + 1) := by simp
      rw [ht] at hQ
      conv => whnf
      refine Get.mk (i, encA n.s[i]) ⟨rfl, by simp [hlt]⟩ ?_
      conv => whnf
      refine Get.mk (_, _, _, _) hx ?_
      conv => whnf
      refine Get.mk _ rfl ?_
      conv => whnf
      refine Get.mk i ⟨rfl, hlt⟩ ?_
      conv => whnf
      refine Get.mk (_, _, _, _) ha ?_
      conv => whnf
      refine ⟨⟨hw, Nat.zero_le _⟩, ?_⟩
      conv => whnf
      generalize hv1 : vset vh ba _ = vh1
      have a1 : vh1 ba = some (.cells ((ys.set i (clr ys[i])).map encA).flatten ta 0 false) := by rw [← hv1]; refine vset_same.trans ?_; rw [clr, ← flat_set _ _ hly]
      have f1 : ∀ c, c ≠ ba → vh1 c = vh c := fun c hc => by rw [← hv1]; exact vset_ne hc
      clear hv1
      have nxt : ∀ (vh2 : VH) (n2 : Nat) (g1 : Bool), Frm vh1 vn vh2 n2 → g1 = (((g && namedP n.s[i].p n.s[i].l) && validP n.s[i].v) && !(n.s.take i).any (sameName n.s[i])) →
          FLoop Tryz.prog X G (.loop c_tree_element_L0) (elE b n g1 bx ((i + 1 : Nat) : Int) []) vh2 n2 Q := fun vh2 n2 g1 ⟨g2, f2⟩ hg => by
        have hpp : (ys.set i (clr ys[i])).take (i + 1) = ys.take i ++ [clr ys[i]] := by
          have := take_set ys i hly (clr ys[i]) []
          simpa using this
        refine TEl_L0 H Lb b bx ba n nx hN hp d3 ty ta Q (m - 1) (i + 1) (by omega) (by omega) vh2 n2 (ys.set i (clr ys[i])) g1 (by rw [List.length_set]; exact hys) (by omega) (by omega) ((f2 bx lbx).trans ((f1 bx (Ne.symm d3)).trans hx)) ((f2 ba lba).trans a1) ?_
        rw [hpp, drop_set, hg]
        refine fun vh' vn' i' t h0 h1 h2 => hQ vh' vn' i' t (by omega) ?_ fun c hc hcb => (h2 c (by omega) hcb).trans ((f2 c hc).trans (f1 c hcb))
        rw [List.append_assoc] at h1
        exact h1
      have frm0 : Frm vh1 vn vh1 vn := ⟨Nat.le_refl _, fun _ _ => rfl⟩
      refine CondP.mk (fun h2 => ?_) (fun h2 => ?_)
      · conv => whnf
        refine (Lb.named _ _ pn vh1 vn).mono fun v vh2 n2 he => ?_
        obtain ⟨e1, F2⟩ := he
        rw [e1]
        conv => whnf
        refine CondP.mk (fun h3 => ?_) (fun h3 => ?_)
        · conv => whnf
          refine (Lb.chars _ pv vh2 n2).mono fun v vh3 n3 he => ?_
          obtain ⟨e1, F3⟩ := he
          rw [e1]
          have F13 : Frm vh1 vn vh3 n3 := ⟨Nat.le_trans F2.1 F3.1, fun c hc => (F3.2 c (Nat.lt_of_lt_of_le hc F2.1)).trans (F2.2 c hc)⟩
          conv => whnf
          refine CondP.mk (fun h4 => ?_) (fun h4 => ?_)
          · conv => whnf
            refine Get.mk i rfl ?_
            conv => whnf
            refine ⟨⟨Nat.zero_le _, by simp; omega⟩, ?_⟩
            conv => whnf
            have esl : V.sl 4 (((n.s.map encA).drop 0).take (i - 0)) none = .sl 4 ((n.s.take i).map encA) none := by rw [List.drop_zero, Nat.sub_zero, List.map_take]
            rw [esl]
            refine (Contains_ok H.index H.contains (sameName n.s[i]) F_tree_element_c1 [.fp (encA n.s[i]) 0] (fun b vh vn => ec1_ok H.ec1 n.s[i] b vh vn) _ (n.s.take i) (by rw [List.length_take]; omega) vh3 n3 (.inr ⟨none, rfl⟩)).mono fun v vh4 n4 he => ?_
            obtain ⟨e1, e2, e3⟩ := he
            rw [e1, e2, e3]
            conv => whnf
            rw [e]
            exact nxt vh3 n3 _ F13 (by clear hQ nxt; simp_all)
          · conv => whnf
            rw [e]
            exact nxt vh3 n3 _ F13 (by clear hQ nxt; simp_all)
        · conv => whnf
          rw [e]
          exact nxt vh2 n2 _ F2 (by clear hQ nxt; simp_all)
      · conv => whnf
        rw [e]
        exact nxt vh1 vn _ frm0 (by clear hQ nxt; simp_all)
    · have hlt : i = n.s.length := by simp at h1; omega
      have e1 : ys.drop i = [] := by rw [hlt, ← hys, List.drop_length]
      have e2 : ys.take i = ys := by rw [hlt, ← hys, List.take_length]
      have e3 : n.s.drop i = [] := by rw [hlt, List.drop_length]
      rw [e1, e2, e3] at hQ
      conv => whnf
      exact hQ vh vn _ _ (Nat.le_refl _) (by simpa using ha) fun _ _ _ => rfl
termination_by m => m
decreasing_by all_goals omega
end Go.Proofs.YtpcbnpekdmobpaaGreatDoor
open Go Go.Ev Go.VL
namespace Go.Proofs.YtpcbnpekdmobpaaGreatDoor
attribute [local irreducible] fApp
variable {X : Ovr} {G : Gt} {PN : List Nat → List Nat → Prop} {PV PT : List Nat → Prop}
def clrN (n : Nd) : Nd := { n with s := n.s.map clr }
def elG (lv : List (List Attr)) (n : Nd) (g : Bool) : Bool × List (List Attr) :=
  if g = true then (((namesT lv (clrN n)).1 && decide ((namesT lv (clrN n)).2.1.u = n.u)) && decide ((namesT lv (clrN n)).2.1.s.map attrL = n.s.map attrL), (namesT lv (clrN n)).2.2) else (false, lv)
def elT (lv : List (List Attr)) (n : Nd) : Bool × List (List Attr) := elG lv n (goodL (namedP n.p n.l && decide (n.v = [])) [] n.s)
theorem namesT_len (lv : List (List Attr)) (n : Nd) : (namesT lv n).2.1.s.length = n.s.length := by
  unfold namesT
  split
  · simp
  · simp [nmL_len]
set_option maxHeartbeats 4000000 in
theorem TEl_R11 (H : XTE X) (b bx : Nat) (o : Option Nat) (lv : List (List Attr)) (hb : ∀ l ∈ lv, l.length < 2 ^ 30) (hlv : lv.length < 2 ^ 29) (n : Nd) (hN : n.s.length < 2 ^ 30) (av : V) (g : Bool) (i : Int) (tl : VEnv) (vh : VH) (vn : Nat) (hs : SP vh b o lv) (hx : NdAt vh bx (clrN n) av) (ha : SlR encA 4 vh av (clrN n).s)
    (d1 : b ≠ bx) (d2 : ¬ blkOf av b) (d3 : ¬ blkOf av bx) (d4 : o ≠ some bx) (d5 : ∀ c, blkOf av c → o ≠ some c) (q1 : b < vn) (q2 : bx < vn) (q3 : ∀ c, o = some c → c < vn) (q4 : ∀ c, blkOf av c → c < vn) (Q : FQ)
    (hQ : ∀ vh' vn' o', vn ≤ vn' → SP vh' b o' (elG lv n g).2 → (∀ c, o' = some c → c < vn' ∧ (o = some c ∨ vn ≤ c)) → (∀ c, c < vn → c ≠ b → c ≠ bx → o ≠ some c → ¬ blkOf av c → vh' c = vh c) → Q .ret [(4, .bool (elG lv n g).1)] vh' vn') :
    FLoop Tryz.prog X G (.cut c_tree_element_R11) (elE b n g bx i tl) vh vn Q := by
  refine FLoop.cut ?_
  conv => whnf
  refine CondP.mk (fun h1 => ?_) (fun h1 => ?_)
  · rw [h1] at hQ
    simp only [elG, if_true] at hQ
    conv => whnf
    refine (SNames_ok H.toXSN b bx o lv hb hlv (clrN n) av (by show (n.s.map clr).length < _; rw [List.length_map]; exact hN) vh vn hs hx ha d1 d2 d3 d4 d5 q1 q2 q3 q4).mono fun r vh2 n2 NQ => ?_
    obtain ⟨o', s2, ho'⟩ := NQ.ho
    obtain ⟨ty2, hx2⟩ := NQ.hn
    have a2 := NQ.hs
    have fin := fun (q : Bool) (hq : q = (((namesT lv (clrN n)).1 && decide ((namesT lv (clrN n)).2.1.u = n.u)) && decide ((namesT lv (clrN n)).2.1.s.map attrL = n.s.map attrL))) => (by rw [hq]; exact hQ vh2 n2 o' NQ.nx s2 ho' NQ.hf : Q .ret [(4, .bool q)] vh2 n2)
    rw [NQ.hr]
    cases hnt : (namesT lv (clrN n)).1 with
    | false =>
      rw [hnt] at fin
      conv => whnf
      exact fin _ (by simp)
    | true =>
      rw [hnt] at fin
      have eqk := fun vh vn (a : SlR encA 4 vh av (namesT lv (clrN n)).2.1.s) => Equal_ok (G := G) H.equal av (namesT lv (clrN n)).2.1.s n.s none (by rw [namesT_len]; show (n.s.map clr).length < _; rw [List.length_map]; exact hN) vh vn a
      conv => whnf
      refine Get.mk (_, _, _, _) hx2 ?_
      conv => whnf
      refine Get.mk _ rfl ?_
      conv => whnf
      refine CondP.mk (fun h2 => ?_) (fun h2 => ?_)
      · have h2' := of_decide_eq_true h2
        rcases id a2 with ⟨e0, rfl⟩ | ⟨e0, rfl⟩ | ⟨ba, ta, rfl, h4⟩
        all_goals
          conv => whnf
          refine Get.mk (_, _, _, _) hx2 ?_
          conv => whnf
          refine Get.mk _ rfl ?_
          conv => whnf
          refine (eqk vh2 n2 a2).mono fun v vh3 n3 he => ?_
          obtain ⟨e1, e2, e3⟩ := he
          rw [e1, e2, e3]
          conv => whnf
          exact fin _ (by simp [h2'])
      · have h2' := of_decide_eq_false h2
        conv => whnf
        exact fin _ (by simp [h2'])
  · rw [h1] at hQ
    simp only [elG, Bool.false_eq_true, if_false] at hQ
    conv => whnf
    exact hQ vh vn o (Nat.le_refl _) hs (fun c hc => ⟨q3 c hc, .inl hc⟩) fun _ _ _ _ _ _ => rfl
end Go.Proofs.YtpcbnpekdmobpaaGreatDoor
open Go Go.Ev Go.VL
namespace Go.Proofs.YtpcbnpekdmobpaaGreatDoor
attribute [local irreducible] fApp
variable {X : Ovr} {G : Gt} {PN : List Nat → List Nat → Prop} {PV PT : List Nat → Prop}
set_option maxHeartbeats 4000000 in
theorem TEl_R2 (H : XTE X) (Lb : LibT X G PN PV PT) (b : Nat) (o : Option Nat) (lv : List (List Attr)) (hb : ∀ l ∈ lv, l.length < 2 ^ 30) (hlv : lv.length < 2 ^ 29) (n : Nd) (hN : n.s.length < 2 ^ 30) (hp : ∀ a ∈ n.s, PN a.p a.l ∧ PV a.v) (g : Bool) (vh : VH) (vn : Nat) (hs : SP vh b o lv) (q1 : b < vn) (q3 : ∀ c, o = some c → c < vn) (Q : FQ)
    (hQ : ∀ vh' vn' o', vn ≤ vn' → SP vh' b o' (elG lv n (goodL g [] n.s)).2 → (∀ c, o' = some c → c < vn' ∧ (o = some c ∨ vn ≤ c)) → (∀ c, c < vn → c ≠ b → o ≠ some c → vh' c = vh c) → Q .ret [(4, .bool (elG lv n (goodL g [] n.s)).1)] vh' vn') :
    FLoop Tryz.prog X G (.cut c_tree_element_R2) [(1, .ptr b 0), (2, .bx (encN n)), (5, .bool g)] vh vn Q := by
  refine FLoop.cut ?_
  conv => whnf
  refine Get.mk (_, _, _, _) vset_same ?_
  conv => whnf
  refine ⟨⟨(by decide : 7 ≤ 7), Nat.zero_le _⟩, ?_⟩
  conv => whnf
  generalize hv1 : vset (vset vh vn _) vn _ = vh1
  have hx1 : vh1 vn = some (.cells (encN n) T_api_Node 0 false) := by rw [← hv1]; exact vset_same
  have f1 : ∀ c, c ≠ vn → vh1 c = vh c := fun c hc => by rw [← hv1]; exact (vset_ne hc).trans (vset_ne hc)
  clear hv1
  refine (Clone_ok H.clone n.s none hN vh1 (vn + 1)).mono fun r vh2 n2 he => ?_
  obtain ⟨g2, A2, f2⟩ := he
  have hx2 := (f2 vn (by omega)).trans hx1
  have hav : ∀ c, blkOf r c → vn + 1 ≤ c ∧ c < n2 := fun c hc => by
    rcases A2 with ⟨rfl | rfl, _⟩ | ⟨ba, hb1, hb2, rfl, _⟩
    · cases hc
    · cases hc
    · obtain rfl : c = ba := hc
      exact ⟨hb1, hb2⟩
  have hl : Int.ofNat (n.s.map encA).length = (n.s.length : Int) := by simp
  obtain ⟨w, hw⟩ : ∃ w, w = r := ⟨_, rfl⟩
  rcases id A2 with ⟨rfl | rfl, h0⟩ | ⟨ba, hb1, hb2, rfl, h4⟩
  all_goals
    conv => whnf
    refine Get.mk (_, _, _, _) hx2 ?_
    conv => whnf
    refine ⟨⟨(by decide : 7 ≤ 7), Nat.zero_le _⟩, ?_⟩
    conv => whnf
    rw [hl]
    generalize hv3 : vset vh2 vn _ = vh3
    have hx3 : vh3 vn = some (.cells (encNv (clrN n) w) T_api_Node 0 false) := by rw [hw, ← hv3]; exact vset_same
    rw [hw] at hx3
    have f3 : ∀ c, c ≠ vn → vh3 c = vh2 c := fun c hc => by rw [← hv3]; exact vset_ne hc
    clear hv3
    have A3 := A2.r.at (vh' := vh3) fun c hc => f3 c (by have := hav c hc; omega)
    have r11 := fun (g : Bool) (i : Int) (tl : VEnv) (vh4 : VH) (n4 : Nat) (g4 : n2 ≤ n4) (f4 : ∀ c, c < n2 → ¬ blkOf _ c → vh4 c = vh3 c) (a4 : SlR encA 4 vh4 _ (clrN n).s) (Q : FQ) => TEl_R11 (G := G) H b vn o lv hb hlv n hN _ g i tl vh4 n4 (hs.at ((f4 b (by omega) fun h => by have := hav b h; omega).trans ((f3 b (by omega)).trans ((f2 b (by omega)).trans (f1 b (by omega))))) fun c hc => by have := q3 c hc; exact (f4 c (by omega) fun h => by have := hav c h; omega).trans ((f3 c (by omega)).trans ((f2 c (by omega)).trans (f1 c (by omega))))) ⟨T_api_Node, (f4 vn (by omega) fun h => by have := hav vn h; omega).trans hx3⟩ a4 (by omega) (fun h => by have := hav b h; omega) (fun h => by have := hav vn h; omega) (fun h => by have := q3 vn h; omega) (fun c hc h => by have := hav c hc; have := q3 c h; omega) (by omega) (by omega) (fun c hc => by have := q3 c hc; omega) (fun c hc => by have := hav c hc; omega) Q
    have finQ : ∀ (vh4 : VH) (n4 : Nat) (g4 : n2 ≤ n4) (f4 : ∀ c, c < n2 → ¬ blkOf w c → vh4 c = vh3 c) (vh5 : VH) (n5 : Nat) (o' : Option Nat), n4 ≤ n5 → SP vh5 b o' (elG lv n (goodL g [] n.s)).2 → (∀ c, o' = some c → c < n5 ∧ (o = some c ∨ n4 ≤ c)) → (∀ c, c < n4 → c ≠ b → c ≠ vn → o ≠ some c → ¬ blkOf w c → vh5 c = vh4 c) → Q .ret [(4, .bool (elG lv n (goodL g [] n.s)).1)] vh5 n5 := fun vh4 n4 g4 f4 vh5 n5 o' g5 s5 ho5 f5 => by
      rw [hw] at f4 f5
      refine hQ vh5 n5 o' (by omega) s5 (fun c hc => ⟨(ho5 c hc).1, (ho5 c hc).2.elim .inl fun h => .inr (by omega)⟩) fun c hc hcb hco => ?_
      have hnb : ∀ h, False := fun (h : blkOf _ c) => by have := hav c h; omega
      exact (f5 c (by omega) hcb (by omega) hco hnb).trans ((f4 c (by omega) hnb).trans ((f3 c (by omega)).trans ((f2 c (by omega)).trans (f1 c (by omega)))))
  · have hz : n.s = [] := h0
    have hg : goodL g [] n.s = g := by rw [hz]; rfl
    have a4 : SlR encA 4 vh3 .nils (clrN n).s := .inl ⟨by show n.s.map clr = []; rw [hz]; rfl, rfl⟩
    rw [hg] at finQ
    refine FLoop.round ?_
    conv => whnf
    refine CondP.mk (fun h1 => ?_) (fun h1 => ?_)
    · exfalso
      rw [hz] at h1
      simp at h1
    · conv => whnf
      refine r11 g _ _ vh3 n2 (Nat.le_refl _) (fun _ _ _ => rfl) a4 _ fun vh5 n5 o' g5 s5 ho5 f5 => ?_
      exact finQ vh3 n2 (Nat.le_refl _) (fun _ _ _ => rfl) vh5 n5 o' g5 s5 ho5 (by rw [hw]; exact f5)
  · have hz : n.s = [] := h0
    have hg : goodL g [] n.s = g := by rw [hz]; rfl
    have a4 : SlR encA 4 vh3 (.sl 4 [] (some 0)) (clrN n).s := .inr (.inl ⟨by show n.s.map clr = []; rw [hz]; rfl, rfl⟩)
    rw [hg] at finQ
    refine FLoop.round ?_
    conv => whnf
    refine CondP.mk (fun h1 => ?_) (fun h1 => ?_)
    · exfalso
      rw [hz] at h1
      simp at h1
    · conv => whnf
      refine r11 g _ _ vh3 n2 (Nat.le_refl _) (fun _ _ _ => rfl) a4 _ fun vh5 n5 o' g5 s5 ho5 f5 => ?_
      exact finQ vh3 n2 (Nat.le_refl _) (fun _ _ _ => rfl) vh5 n5 o' g5 s5 ho5 (by rw [hw]; exact f5)
  · refine TEl_L0 H Lb b vn ba n (clrN n) hN hp (by omega) T_api_Node T_api_Attr _ n.s.length 0 (by omega) (Nat.zero_le _) vh3 n2 n.s g rfl hb2 (by omega) hx3 ((f3 ba (by omega)).trans h4) fun vh4 n4 i' t g4 a4 f4 => ?_
    rw [List.drop_zero, List.take_zero, List.nil_append] at a4
    rw [List.drop_zero, List.take_zero]
    have a4' : SlR encA 4 vh4 (.msl ba 0 n.s.length 4 none) (clrN n).s := .inr (.inr ⟨ba, T_api_Attr, by show V.msl ba 0 n.s.length 4 none = .msl ba 0 (n.s.map clr).length 4 none; rw [List.length_map], a4⟩)
    refine r11 _ i' _ vh4 n4 g4 (fun c hc h => f4 c hc h) a4' _ fun vh5 n5 o' g5 s5 ho5 f5 => ?_
    exact finQ vh4 n4 g4 (fun c hc h => f4 c hc (by rw [hw] at h; exact h)) vh5 n5 o' g5 s5 ho5 (by rw [hw]; exact f5)
theorem TElement_ok (H : XTE X) (Lb : LibT X G PN PV PT) (b : Nat) (o : Option Nat) (lv : List (List Attr)) (hb : ∀ l ∈ lv, l.length < 2 ^ 30) (hlv : lv.length < 2 ^ 29) (n : Nd) (hN : n.s.length < 2 ^ 30) (hpn : PN n.p n.l) (hp : ∀ a ∈ n.s, PN a.p a.l ∧ PV a.v) (vh : VH) (vn : Nat) (hs : SP vh b o lv) (q1 : b < vn) (q3 : ∀ c, o = some c → c < vn) :
    WpCall Tryz.prog X G F_tree_element [.agg (encN n), .ptr b 0] vh vn fun r vh' vn' => vn ≤ vn' ∧ r = .bool (elT lv n).1 ∧ (∃ o', SP vh' b o' (elT lv n).2 ∧ ∀ c, o' = some c → c < vn' ∧ (o = some c ∨ vn ≤ c)) ∧ ∀ c, c < vn → c ≠ b → o ≠ some c → vh' c = vh c := by
  apply k_tree_element.run H.telement
  conv => whnf
  refine (Lb.named _ _ hpn vh vn).mono fun v vh1 n1 he => ?_
  obtain ⟨e1, g1, f1⟩ := he
  rw [e1]
  clear e1
  have fin : ∀ (g : Bool), g = (namedP n.p n.l && decide (n.v = [])) → FLoop Tryz.prog X G (.cut c_tree_element_R2) [(1, .ptr b 0), (2, .bx (encN n)), (5, .bool g)] vh1 n1 (fFin G r_tree_element fun r vh' vn' => vn ≤ vn' ∧ r = .bool (elT lv n).1 ∧ (∃ o', SP vh' b o' (elT lv n).2 ∧ ∀ c, o' = some c → c < vn' ∧ (o = some c ∨ vn ≤ c)) ∧ ∀ c, c < vn → c ≠ b → o ≠ some c → vh' c = vh c) := fun g hg => by
    refine TEl_R2 H Lb b o lv hb hlv n hN hp g vh1 n1 (hs.at (f1 b q1) fun c hc => f1 c (q3 c hc)) (by omega) (fun c hc => by have := q3 c hc; omega) _ fun vh' vn' o' g2 s2 ho2 f2 => ?_
    rw [hg]
    conv => whnf
    refine Get.mk vh' (fun _ _ h => h) ⟨(by omega : vn ≤ vn'), rfl, ⟨o', by rw [hg] at s2; exact s2, fun c hc => ⟨(ho2 c hc).1, (ho2 c hc).2.elim .inl fun h => .inr (by omega)⟩⟩, fun c hc hcb hco => (f2 c (by omega) hcb hco).trans (f1 c hc)⟩
  conv => whnf
  refine CondP.mk (fun h1 => ?_) (fun h1 => ?_)
  · conv => whnf
    exact fin _ (by simp [h1])
  · conv => whnf
    exact fin _ (by simp [h1])
end Go.Proofs.YtpcbnpekdmobpaaGreatDoor
open Go Go.Ev Go.VL
namespace Go.Proofs.YtpcbnpekdmobpaaGreatDoor
attribute [local irreducible] fApp
variable {X : Ovr} {G : Gt} {PN : List Nat → List Nat → Prop} {PV PT : List Nat → Prop}
structure XTM (X : Ovr) : Prop extends XTE X where
  snew : X F_scope_New = none
  stands : X F_tree_stands = none
  aside : X F_tree_aside = none
  tmay : X F_tree_May = none
theorem SNew_ok (H : XTM X) (vh : VH) (vn : Nat) :
    WpCall Tryz.prog X G F_scope_New [] vh vn fun v vh' vn' => v = .ptr vn 0 ∧ vn' = vn + 1 ∧ SP vh' vn none [] ∧ ∀ c, c ≠ vn → vh' c = vh c := by
  apply k_scope_New.run H.snew
  conv => whnf
  exact Get.mk _ (fun _ _ h => h) ⟨rfl, rfl, ⟨_, rfl, vset_same⟩, fun c hc => vset_ne hc⟩
def standsP (prev n : Nd) : Bool := !decide (n.k = 1) && !badPlace prev n && (!decide (n.k = 3) || (decide (1 < n.d) && (!decide (prev.k = 3) || !decide (prev.d = n.d))))
def standsT : Option Nd → Nd → Bool
  | none, n => decide (n.k = 1) && decide (n.d = 0)
  | some prev, n => standsP prev n
def prevOf (ts : List Nd) (i : Nat) : Option Nd := if i = 0 then none else ts[i - 1]?
theorem Stands_ok (H : XTM X) (ts : List Nd) (c : Option Nat) (hts : ts.length < 2 ^ 30) (i : Nat) (hi : i < ts.length) (hd : ∀ prev, prevOf ts i = some prev → -1 ≤ prev.d ∧ prev.d ≤ 201) (vh : VH) (vn : Nat) :
    WpCall Tryz.prog X G F_tree_stands [.sl 7 (ts.map encN) c, .int .i64 (i : Int)] vh vn fun v vh' vn' => v = .bool (standsT (prevOf ts i) ts[i]) ∧ Frm vh vn vh' vn' := by
  apply k_tree_stands.run H.stands
  conv => whnf
  have hf : Frm vh vn vh vn := ⟨Nat.le_refl _, fun _ _ => rfl⟩
  refine Get.mk (i, encN ts[i]) ⟨rfl, by simp [hi]⟩ ?_
  conv => whnf
  by_cases h0 : i = 0
  · subst h0
    have he : prevOf ts 0 = none := rfl
    rw [he]
    repeat' ((first | refine CondP.mk (fun _ => ?_) (fun _ => ?_)) <;> (conv => whnf))
    all_goals first
      | (exfalso; clear hd H; simp_all; done)
      | (refine Get.mk _ (fun _ _ h => h) ⟨?_, hf⟩
         clear hd H hf he
         simp_all [standsT]
         done)
  · obtain ⟨prev, hp⟩ : ∃ prev, ts[i - 1]? = some prev := ⟨_, List.getElem?_eq_getElem (by omega)⟩
    have he : prevOf ts i = some prev := by rw [prevOf, if_neg h0, hp]
    obtain ⟨d1, d2⟩ := hd prev he
    rw [he]
    clear hd he
    have ew : wr .i64 (prev.d + 1) = prev.d + 1 := by rw [wr64] <;> omega
    have hprev : wr .i64 ((i : Int) - 1) = ((i - 1 : Nat) : Int) ∧ (ts.map encN)[i - 1]? = some (encN prev) := ⟨by rw [wr64] <;> omega, by rw [List.getElem?_map, hp]; rfl⟩
    generalize ts[i] = n
    have fin : ∀ b, b = standsP prev n → (V.bool b = .bool (standsT (some prev) n) ∧ Frm vh vn vh vn) := fun b h => ⟨by rw [h]; rfl, hf⟩
    repeat' ((first | refine CondP.mk (fun _ => ?_) (fun _ => ?_) | refine Get.mk (i - 1, encN prev) hprev ?_ | fail) <;> (conv => whnf))
    all_goals first
      | (exfalso; clear fin hprev H; simp_all; done)
      | (refine Get.mk vh (fun _ _ h => h) ?_
         refine fin _ ?_
         clear H hf hp hprev hi h0 fin
         simp_all [standsP, badPlace]
         done)
      | (refine Get.mk vh (fun _ _ h => h) ?_
         refine fin _ ?_
         clear H hf hp hprev hi h0 fin
         simp_all [standsP, badPlace]
         intros
         omega)
end Go.Proofs.YtpcbnpekdmobpaaGreatDoor
open Go Go.Ev Go.VL
namespace Go.Proofs.YtpcbnpekdmobpaaGreatDoor
attribute [local irreducible] fApp
variable {X : Ovr} {G : Gt} {PN : List Nat → List Nat → Prop} {PV PT : List Nat → Prop}
def asideK (n : Nd) : Bool :=
  if n.k = 1 then decide (n.l = []) && decide (n.v = [])
  else if n.k = 3 then decide (n.l = []) && !decide (n.v = [])
  else if n.k = 4 then ((decide (n.l = []) && !holdsP n.v S_45__45_) && !(!decide (n.v = []) && decide ((n.v.getLastD 0 : Int) = 45))) && !holdsP n.v S_13_
  else if n.k = 5 then ((targetP n.l && !holdsP n.v S_63__62_) && (decide (n.v = []) || !spaceP (wr .i32 (.ofNat (n.v.headD 0))))) && !holdsP n.v S_13_
  else false
def asideT (n : Nd) : Bool := (((decide (n.p = []) && decide (n.u = [])) && decide (n.s = [])) && validP n.v) && asideK n
theorem Frm.refl (vh : VH) (vn : Nat) : Frm vh vn vh vn := ⟨Nat.le_refl _, fun _ _ => rfl⟩
theorem Frm.trans {h1 h2 h3 : VH} {n1 n2 n3 : Nat} (a : Frm h1 n1 h2 n2) (b : Frm h2 n2 h3 n3) : Frm h1 n1 h3 n3 := ⟨Nat.le_trans a.1 b.1, fun c hc => (b.2 c (Nat.lt_of_lt_of_le hc a.1)).trans (a.2 c hc)⟩
theorem Aside_ok (H : XTM X) (Lb : LibT X G PN PV PT) (n : Nd) (hv : PV n.v) (ht : n.k = 5 → PT n.l) (vh : VH) (vn : Nat) :
    WpCall Tryz.prog X G F_tree_aside [.agg (encN n)] vh vn fun v vh' vn' => v = .bool (asideT n) ∧ Frm vh vn vh' vn' := by
  apply k_tree_aside.run H.aside
  have F := Frm.refl vh vn
  conv => whnf
  repeat' ((first | refine CondP.mk (fun _ => ?_) (fun _ => ?_) | (refine (Lb.chars n.v hv _ _).mono (fun v vh' vn' he => ?_); obtain ⟨rfl, f⟩ := he; replace F := F.trans f; clear f) | (refine (Lb.contains n.v _ hv (by decide) _ _).mono (fun v vh' vn' he => ?_); obtain ⟨rfl, f⟩ := he; replace F := F.trans f; clear f) | (refine (Lb.suffix n.v hv _ _).mono (fun v vh' vn' he => ?_); obtain ⟨rfl, f⟩ := he; replace F := F.trans f; clear f) | (refine (Lb.target n.l (ht (by clear F Lb H ht; simp_all; done)) _ _).mono (fun v vh' vn' he => ?_); obtain ⟨rfl, f⟩ := he; replace F := F.trans f; clear f) | (refine (Lb.spaces n.v hv _ _).mono (fun v vh' vn' he => ?_); obtain ⟨k, rfl, hk, f⟩ := he; replace F := F.trans f; clear f) | fail) <;> (conv => whnf))
  all_goals first
    | (exfalso; clear F Lb H ht hv; simp_all; done)
    | (refine Get.mk _ (fun _ _ h => h) ⟨?_, F⟩
       clear F Lb H ht hv
       simp_all [asideT, asideK]
       done)
    | (refine Get.mk _ (fun _ _ h => h) ⟨?_, F⟩
       have hz : n.s ≠ [] := fun hz => by clear F Lb H ht hv; simp_all
       simp only [asideT, decide_eq_false hz, Bool.and_false, Bool.false_and])
end Go.Proofs.YtpcbnpekdmobpaaGreatDoor
open Go Go.Ev Go.VL
namespace Go.Proofs.YtpcbnpekdmobpaaGreatDoor
attribute [local irreducible] fApp
variable {X : Ovr} {G : Gt} {PN : List Nat → List Nat → Prop} {PV PT : List Nat → Prop}
def encD (d : Int) : List V := [.int .i64 d]
theorem encD_len (d : Int) : (encD d).length = 1 := rfl
def OP (vh : VH) (wo : Option Nat) (w : V) (op : List Int) : Prop := match wo with
  | none => w = .nils ∧ op = []
  | some bo => ∃ rest, w = .msl bo 0 op.length 1 none ∧ vh bo = some (.cells ((op.map encD).flatten ++ rest) T_int 0 false)
theorem OP.at {vh vh' : VH} {wo : Option Nat} {w : V} {op : List Int} (h : OP vh wo w op) (ho : ∀ c, wo = some c → vh' c = vh c) : OP vh' wo w op := by
  cases wo with
  | none => exact h
  | some bo =>
    obtain ⟨rest, h1, h2⟩ := h
    exact ⟨rest, h1, (ho bo rfl).trans h2⟩
def popsT (d : Int) (op : List Int) (lv : List (List Attr)) : List Int × List (List Attr) :=
  if h : op ≠ [] ∧ d ≤ op.getLastD 0 then popsT d op.dropLast lv.dropLast else (op, lv)
termination_by op.length
decreasing_by
  rw [List.length_dropLast]
  have := List.length_pos_iff.2 h.1
  omega
theorem in_at {op : List Int} {rest : List V} (h : op ≠ []) : ((op.map encD).flatten ++ rest)[0 + (op.length - 1) * 1]? = some (.int .i64 (op.getLastD 0)) := by
  have hp := List.length_pos_iff.2 h
  rw [Nat.zero_add, Nat.mul_one, List.getElem?_append_left (by rw [len1 encD_len]; omega)]
  have := flat_get encD_len op (op.length - 1) 0 (by omega) (by decide)
  rw [Nat.mul_one, Nat.add_zero] at this
  rw [this]
  have e : op.getLastD 0 = op[op.length - 1] := by
    rw [List.getLastD_eq_getLast?, List.getLast?_eq_getElem?, List.getElem?_eq_getElem (by omega)]
    rfl
  rw [e]
  rfl
theorem drop_last_map {op : List Int} (h : op ≠ []) (rest : List V) : (op.map encD).flatten ++ rest = (op.dropLast.map encD).flatten ++ (.int .i64 (op.getLast h) :: rest) := by
  conv => lhs; rw [← List.dropLast_concat_getLast h]
  simp [encD]
abbrev mE (T : V) (r : Int) (b : Nat) (w : V) (n : Nd) (L i : Int) (tl : VEnv) : VEnv := (0, T) :: (3, .int .i64 r) :: (4, .ptr b 0) :: (5, w) :: (7, .bx (encN n)) :: (17, T) :: (18, .int .i64 L) :: (19, .int .i64 i) :: tl
theorem TMay_L1 (H : XTM X) (b : Nat) (o : Option Nat) (ts : List Nd) (c : Option Nat) (r L i : Int) (n : Nd) (wo : Option Nat) (hw : ∀ c, wo = some c → c ≠ b ∧ o ≠ some c) (vn : Nat) (Q : FQ) : ∀ (m : Nat) (op : List Int) (lv : List (List Attr)) (vh : VH) (w : V), op.length = m → op.length < 2 ^ 40 → lv.length < 2 ^ 40 → OP vh wo w op → SP vh b o lv →
    (∀ vh' w' t, OP vh' wo w' (popsT n.d op lv).1 → SP vh' b o (popsT n.d op lv).2 → (∀ c, c ≠ b → vh' c = vh c) → Q (.exit 2) (mE (.sl 7 (ts.map encN) c) r b w' n L i [(41, .bool t)]) vh' vn) →
    FLoop Tryz.prog X G (.loop c_tree_May_L1) (mE (.sl 7 (ts.map encN) c) r b w n L i []) vh vn Q
  | m, op, lv, vh, w, hm, ho, hl, hop, hs, hQ => by
    refine FLoop.round ?_
    cases wo with
    | none =>
      obtain ⟨rfl, rfl⟩ := hop
      rw [popsT] at hQ
      simp only [ne_eq, not_true_eq_false, false_and, dif_neg, not_false_eq_true] at hQ
      conv => whnf
      exact hQ vh .nils _ (show OP vh none .nils [] from ⟨rfl, rfl⟩) hs fun _ _ => rfl
    | some bo =>
      obtain ⟨hwb, hwo⟩ := hw bo rfl
      obtain ⟨rest, rfl, hb⟩ := hop
      conv => whnf
      refine CondP.mk (fun h1 => ?_) (fun h1 => ?_)
      · have hne : op ≠ [] := by intro h; rw [h] at h1; simp at h1
        have hp := List.length_pos_iff.2 hne
        have hsub : wr .i64 ((op.length : Int) - 1) = ((op.length - 1 : Nat) : Int) := by rw [wr64] <;> omega
        conv => whnf
        refine Get.mk (op.length - 1) ⟨hsub, by omega⟩ ?_
        conv => whnf
        refine Get.mk (_, _, _, _) hb ?_
        conv => whnf
        refine Get.mk _ (in_at hne) ?_
        conv => whnf
        refine CondP.mk (fun h2 => ?_) (fun h2 => ?_)
        · have h2' : n.d ≤ op.getLastD 0 := by simpa using h2
          rw [popsT, dif_pos ⟨hne, h2'⟩] at hQ
          conv => whnf
          refine Get.mk (op.length - 1) hsub ?_
          conv => whnf
          refine Get.mk (_, _, _, _) hb ?_
          conv => whnf
          refine ⟨⟨Nat.zero_le _, by simp only [List.length_append, len1 encD_len op, Nat.sub_zero, Nat.div_one]; omega, .inr rfl⟩, ?_⟩
          conv => whnf
          refine (SPop_ok H.toXS b o lv vh vn hs hl).mono fun v vh1 vn1 he => ?_
          obtain ⟨e1, f1, s1, t, e2⟩ := he
          rw [e1, e2]
          clear e1 e2
          have e1 : op.length - 1 - 0 = op.dropLast.length := by rw [List.length_dropLast]; rfl
          rw [e1]
          have hl' : op.dropLast.length = op.length - 1 := List.length_dropLast
          have hb1 : OP vh1 (some bo) (.msl bo 0 op.dropLast.length 1 none) op.dropLast := ⟨.int .i64 (op.getLast hne) :: rest, rfl, by rw [f1 bo hwb, hb, drop_last_map hne]⟩
          conv => whnf
          exact TMay_L1 H b o ts c r L i n (some bo) hw vn Q (m - 1) op.dropLast lv.dropLast vh1 _ (by omega) (by omega) (by rw [List.length_dropLast]; omega) hb1 s1 fun vh2 w' t' o2 s2 f2 => hQ vh2 w' t' o2 s2 fun c hc => (f2 c hc).trans (f1 c hc)
        · have h2' : ¬ n.d ≤ op.getLastD 0 := by simpa using h2
          rw [popsT, dif_neg (fun h => h2' h.2)] at hQ
          conv => whnf
          exact hQ vh _ _ (show OP vh (some bo) (.msl bo 0 op.length 1 none) op from ⟨rest, rfl, hb⟩) hs fun _ _ => rfl
      · have hz : op = [] := by simpa using h1
        rw [popsT, dif_neg (fun h => h.1 hz)] at hQ
        conv => whnf
        exact hQ vh _ _ (show OP vh (some bo) (.msl bo 0 op.length 1 none) op from ⟨rest, rfl, hb⟩) hs fun _ _ => rfl
termination_by m => m
decreasing_by all_goals omega
end Go.Proofs.YtpcbnpekdmobpaaGreatDoor
open Go Go.Ev Go.VL
namespace Go.Proofs.YtpcbnpekdmobpaaGreatDoor
attribute [local irreducible] fApp
variable {X : Ovr} {G : Gt} {PN : List Nat → List Nat → Prop} {PV PT : List Nat → Prop}
def stepT (n : Nd) (op : List Int) (lv : List (List Attr)) (r : Nat) : Option (List Int × List (List Attr) × Nat) :=
  if n.k = 2 then (if (elT (popsT n.d op lv).2 n).1 = true then some ((popsT n.d op lv).1 ++ [n.d], (elT (popsT n.d op lv).2 n).2, if n.d = 1 then r + 1 else r) else none)
  else if asideT n = true then some ((popsT n.d op lv).1, (popsT n.d op lv).2, r) else none
def mayRT : Option Nd → List Int → List (List Attr) → Nat → List Nd → Option Nat
  | _, _, _, r, [] => some r
  | prev, op, lv, r, n :: l => if standsT prev n = true then (match stepT n op lv r with
    | none => none
    | some s => mayRT (some n) s.1 s.2.1 s.2.2 l) else none
def mayT (ts : List Nd) : Bool := decide (0 < ts.length) && decide (ts.length ≤ 1048576) && decide (mayRT none [] [] 0 ts = some 1)
structure NdT (PN : List Nat → List Nat → Prop) (PV PT : List Nat → Prop) (n : Nd) : Prop where
  s : n.s.length < 2 ^ 30
  e : n.k = 2 → PN n.p n.l ∧ ∀ a ∈ n.s, PN a.p a.l ∧ PV a.v
  v : n.k ≠ 2 → PV n.v
  t : n.k = 5 → PT n.l
theorem popsT_len (d : Int) : ∀ (m : Nat) (op : List Int) (lv : List (List Attr)), op.length = m → (popsT d op lv).1.length ≤ op.length ∧ (popsT d op lv).2.length ≤ lv.length ∧ ∀ l ∈ (popsT d op lv).2, l ∈ lv
  | m, op, lv, hm => by
    rw [popsT]
    split
    · rename_i h
      have hp := List.length_pos_iff.2 h.1
      have h1 : op.dropLast.length = op.length - 1 := List.length_dropLast
      have h2 : lv.dropLast.length = lv.length - 1 := List.length_dropLast
      obtain ⟨q1, q2, q3⟩ := popsT_len d (m - 1) op.dropLast lv.dropLast (by omega)
      exact ⟨by omega, by omega, fun l hl => List.dropLast_subset _ (q3 l hl)⟩
    · exact ⟨Nat.le_refl _, Nat.le_refl _, fun l hl => hl⟩
termination_by m => m
decreasing_by omega
theorem elT_lv (lv : List (List Attr)) (n : Nd) : (elT lv n).2.length ≤ lv.length + 1 ∧ ∀ l ∈ (elT lv n).2, l ∈ lv ∨ l.length ≤ n.s.length := by
  have h0 : ∀ lv : List (List Attr), lv.length ≤ lv.length + 1 ∧ ∀ l ∈ lv, l ∈ lv ∨ l.length ≤ n.s.length := fun lv => ⟨Nat.le_succ _, fun l hl => .inl hl⟩
  unfold elT elG
  split
  · unfold namesT
    split
    · exact h0 lv
    · rename_i ms hms
      show (if _ then lv ++ [ms] else lv).length ≤ _ ∧ _
      split
      · refine ⟨by simp, fun l hl => ?_⟩
        rcases List.mem_append.1 hl with h | h
        · exact .inl h
        · rw [List.mem_singleton.1 h]
          have := pushT_len _ _ _ hms
          right
          simpa [clrN] using this
      · exact h0 lv
  · exact h0 lv
end Go.Proofs.YtpcbnpekdmobpaaGreatDoor
open Go Go.Ev Go.VL
namespace Go.Proofs.YtpcbnpekdmobpaaGreatDoor
attribute [local irreducible] fApp
variable {X : Ovr} {G : Gt} {PN : List Nat → List Nat → Prop} {PV PT : List Nat → Prop}
theorem OP.form {vh : VH} {wo : Option Nat} {w : V} {op : List Int} (h : OP vh wo w op) : w = .nils ∨ ∃ bo k, w = .msl bo 0 k 1 none := by
  cases wo with
  | none => exact .inl h.1
  | some bo => obtain ⟨rest, h1, _⟩ := h; exact .inr ⟨bo, _, h1⟩
theorem app_nilsI {by' : Nat} {ty : TypeId} {vh : VH} {nx : Nat} (d : Int) (hroom : room by' 1) {env : VEnv} {k : V → VEnv → VH → Nat → Prop}
    (hk : k (.msl nx 0 1 1 none) env (vset vh nx (.cells (encD d) ty 0 false)) (nx + 1)) : fApp 1 by' ty .nils (encD d) 1 env vh nx k := by
  simp only [fApp]
  conv => whnf
  exact ⟨hroom, hk⟩
theorem OP.app {vh : VH} {wo : Option Nat} {w : V} {op : List Int} {nx : Nat} (h : OP vh wo w op) (hw : ∀ c, wo = some c → c < nx) (hl : op.length < 2 ^ 40) (d : Int) {env : VEnv} {k : V → VEnv → VH → Nat → Prop}
    (hk : ∀ vh' nx' wo' bo n, OP vh' wo' (.msl bo 0 n 1 none) (op ++ [d]) → nx ≤ nx' → (∀ c, wo' = some c → c < nx' ∧ (wo = some c ∨ nx ≤ c)) → (∀ c, c < nx → wo ≠ some c → vh' c = vh c) → k (.msl bo 0 n 1 none) env vh' nx') : fApp 1 8 T_int w (encD d) 1 env vh nx k := by
  cases wo with
  | none =>
    obtain ⟨rfl, rfl⟩ := h
    refine app_nilsI d ⟨by decide, by decide⟩ ?_
    exact hk _ _ (some nx) _ _ ⟨[], rfl, by rw [vset_same]; rfl⟩ (by omega) (fun c hc => by cases hc; exact ⟨by omega, .inr (Nat.le_refl _)⟩) fun c hc _ => vset_ne (by omega)
  | some bo =>
    obtain ⟨rest, rfl, hb⟩ := h
    have hbo := hw bo rfl
    refine app_spare (xs := op) encD_len hb hbo d ⟨?_, ?_⟩ fun b' vh2 n2 rest' hb' t2 f2 => ?_
    · omega
    · show _ < 9223372036854775808; omega
    · refine hk vh2 n2 (some b') b' _ ⟨rest', rfl, t2⟩ (by omega) (fun c hc => ?_) fun c hc hco => f2 c (by omega) fun h => hco (by rw [h])
      cases hc
      rcases hb' with ⟨rfl, rfl⟩ | ⟨rfl, rfl⟩
      · exact ⟨by omega, .inl rfl⟩
      · exact ⟨by omega, .inr (Nat.le_refl _)⟩
abbrev mF (T : V) (r : Int) (b : Nat) (w : V) (L i : Int) (tl : VEnv) : VEnv := (0, T) :: (3, .int .i64 r) :: (4, .ptr b 0) :: (5, w) :: (17, T) :: (18, .int .i64 L) :: (19, .int .i64 i) :: tl
theorem standsT_d {prev : Option Nd} {n : Nd} (h : standsT prev n = true) : -1 ≤ n.d ∧ n.d ≤ 201 := by
  cases prev with
  | none => simp [standsT] at h; omega
  | some p => simp [standsT, standsP, badPlace] at h; omega
set_option maxHeartbeats 4000000 in
theorem TMay_L0 (H : XTM X) (Lb : LibT X G PN PV PT) (v0 : Nat) (vh0 : VH) (b : Nat) (hb0 : v0 ≤ b) (ts : List Nd) (c : Option Nat) (hts : ts.length ≤ 1048576) (hok : ∀ n ∈ ts, NdT PN PV PT n) (Q : FQ) : ∀ (m i : Nat), ts.length - i = m → i ≤ ts.length → ∀ (op : List Int) (lv : List (List Attr)) (r : Nat) (w : V) (wo o : Option Nat) (vh : VH) (vn : Nat), (∀ prev, prevOf ts i = some prev → -1 ≤ prev.d ∧ prev.d ≤ 201) → op.length ≤ i → lv.length ≤ i → (∀ l ∈ lv, l.length < 2 ^ 30) → r ≤ i → OP vh wo w op → SP vh b o lv → b < vn → (∀ c, o = some c → v0 ≤ c ∧ c < vn) → (∀ c, wo = some c → c ≠ b ∧ o ≠ some c ∧ v0 ≤ c ∧ c < vn) → (∀ c, c < v0 → vh c = vh0 c) →
    (mayRT (prevOf ts i) op lv r (ts.drop i) = none → ∀ vh' vn', v0 ≤ vn' → (∀ c, c < v0 → vh' c = vh0 c) → Q .ret [(2, .bool false)] vh' vn') →
    (∀ k, mayRT (prevOf ts i) op lv r (ts.drop i) = some k → ∀ vh' vn' w' i' t, (w' = .nils ∨ ∃ bo k, w' = .msl bo 0 k 1 none) → v0 ≤ vn' → (∀ c, c < v0 → vh' c = vh0 c) → Q (.exit 0) (mF (.sl 7 (ts.map encN) c) (k : Int) b w' (ts.length : Int) i' [(20, .bool t)]) vh' vn') →
    FLoop Tryz.prog X G (.loop c_tree_May_L0) (mF (.sl 7 (ts.map encN) c) (r : Int) b w (ts.length : Int) (i : Int) []) vh vn Q
  | m, i, hm, hi, op, lv, r, w, wo, o, vh, vn, hd, ho, hl, hlb, hr, hop, hs, hbn, hob, hwb, hf, hR, hQ => by
    refine FLoop.round ?_
    rcases hop.form with rfl | ⟨bo, kk, rfl⟩
    all_goals
      conv => whnf
      refine CondP.mk (fun h1 => ?_) (fun h1 => ?_)
      · have hlt : i < ts.length := by simpa using h1
        have hdr : ts.drop i = ts[i] :: ts.drop (i + 1) := (List.getElem_cons_drop hlt).symm
        have hnd := hok _ (List.getElem_mem hlt)
        have hpv : prevOf ts (i + 1) = some ts[i] := by simp [prevOf, hlt]
        have e : wr .i64 ((i : Int) + 1) = ((i + 1 : Nat) : Int) := by rw [wr64] <;> omega
        rw [hdr] at hR hQ
        simp only [mayRT] at hR hQ
        conv => whnf
        refine Get.mk (i, encN ts[i]) ⟨rfl, by simp [hlt]⟩ ?_
        conv => whnf
        refine (Stands_ok H ts c (by omega) i hlt hd vh vn).mono fun v vh1 n1 he => ?_
        obtain ⟨e1, g1, f1⟩ := he
        rw [e1]
        clear e1
        conv => whnf
        refine CondP.mk (fun h2 => ?_) (fun h2 => ?_)
        · have h2' : standsT (prevOf ts i) ts[i] = false := by simpa using h2
          rw [h2'] at hR
          conv => whnf
          exact hR (by simp) vh1 n1 (by omega) fun c hc => (f1 c (by omega)).trans (hf c hc)
        · have h2' : standsT (prevOf ts i) ts[i] = true := by simpa using h2
          rw [if_pos h2'] at hR hQ
          conv => whnf
          have stop : stepT ts[i] op lv r = none → ∀ vh' vn', v0 ≤ vn' → (∀ c, c < v0 → vh' c = vh0 c) → Q .ret [(2, .bool false)] vh' vn' := fun h => hR (by rw [h])
          have nxt : ∀ (op' : List Int) (lv' : List (List Attr)) (r' : Nat) (w' : V) (wo' o' : Option Nat) (vh' : VH) (vn' : Nat), stepT ts[i] op lv r = some (op', lv', r') → op'.length ≤ i + 1 → lv'.length ≤ i + 1 → (∀ l ∈ lv', l.length < 2 ^ 30) → r' ≤ i + 1 → OP vh' wo' w' op' → SP vh' b o' lv' → b < vn' → (∀ c, o' = some c → v0 ≤ c ∧ c < vn') → (∀ c, wo' = some c → c ≠ b ∧ o' ≠ some c ∧ v0 ≤ c ∧ c < vn') → (∀ c, c < v0 → vh' c = vh0 c) → FLoop Tryz.prog X G (.loop c_tree_May_L0) (mF (.sl 7 (ts.map encN) c) (r' : Int) b w' (ts.length : Int) ((i + 1 : Nat) : Int) []) vh' vn' Q := fun op' lv' r' w' wo' o' vh' vn' hst a1 a2 a3 a4 a5 a6 a7 a8 a9 a10 => by
            rw [hst] at hR hQ
            rw [← hpv] at hR hQ
            exact TMay_L0 H Lb v0 vh0 b hb0 ts c hts hok Q (m - 1) (i + 1) (by omega) (by omega) op' lv' r' w' wo' o' vh' vn' (fun prev hp => by rw [hpv] at hp; cases hp; exact standsT_d h2') a1 a2 a3 a4 a5 a6 a7 a8 a9 a10 hR hQ
          clear hR hQ
          have hpo := popsT_len ts[i].d op.length op lv rfl
          obtain ⟨p1, p2, p3⟩ := hpo
          refine TMay_L1 H b o ts c r ts.length i ts[i] wo (fun c hc => ⟨(hwb c hc).1, (hwb c hc).2.1⟩) n1 _ op.length op lv vh1 _ rfl (by omega) (by omega) (hop.at fun c hc => f1 c (hwb c hc).2.2.2) (hs.at (f1 b hbn) fun c hc => f1 c (hob c hc).2) fun vh2 w2 t o2 s2 f2 => ?_
          have fr2 : ∀ c, c < v0 → vh2 c = vh0 c := fun c hc => (f2 c (by omega)).trans ((f1 c (by omega)).trans (hf c hc))
          rcases o2.form with rfl | ⟨bo2, kk2, rfl⟩
          all_goals
            conv => whnf
            refine CondP.mk (fun h3 => ?_) (fun h3 => ?_)
            · have h3' : ¬ ts[i].k = 2 := by simpa using h3
              conv => whnf
              refine (Aside_ok H Lb ts[i] (hnd.v h3') hnd.t vh2 n1).mono fun v vh3 n3 he => ?_
              obtain ⟨e3, g3, f3⟩ := he
              rw [e3]
              clear e3
              conv => whnf
              refine CondP.mk (fun h4 => ?_) (fun h4 => ?_)
              · have h4' : asideT ts[i] = false := by simpa using h4
                conv => whnf
                exact stop (by simp [stepT, h3', h4']) vh3 n3 (by omega) fun c hc => (f3 c (by omega)).trans (fr2 c hc)
              · have h4' : asideT ts[i] = true := by simpa using h4
                conv => whnf
                rw [e]
                exact nxt _ _ r _ wo o vh3 n3 (by simp [stepT, h3', h4']) (by omega) (by omega) (fun l hl => hlb l (p3 l hl)) (by omega) (o2.at fun c hc => f3 c (by have := hwb c hc; omega)) (s2.at (f3 b (by omega)) fun c hc => f3 c (by have := hob c hc; omega)) (by omega) (fun c hc => by have := hob c hc; omega) (fun c hc => by have := hwb c hc; exact ⟨this.1, this.2.1, this.2.2.1, by omega⟩) fun c hc => (f3 c (by omega)).trans (fr2 c hc)
            · have h3' : ts[i].k = 2 := by simpa using h3
              conv => whnf
              refine (TElement_ok H.toXTE Lb b o (popsT ts[i].d op lv).2 (fun l hl => hlb l (p3 l hl)) (by omega) ts[i] hnd.s (hnd.e h3').1 (hnd.e h3').2 vh2 n1 s2 (by omega) (fun c hc => by have := hob c hc; omega)).mono fun v vh3 n3 he => ?_
              obtain ⟨g3, e3, ⟨o3, s3, q3⟩, f3⟩ := he
              rw [e3]
              clear e3
              have fr3 : ∀ c, c < v0 → vh3 c = vh0 c := fun c hc => (f3 c (by omega) (by omega) fun h => by have := hob c h; omega).trans (fr2 c hc)
              have o3' := o2.at (vh' := vh3) fun c hc => f3 c (by have := hwb c hc; omega) (hwb c hc).1 (hwb c hc).2.1
              conv => whnf
              refine CondP.mk (fun h4 => ?_) (fun h4 => ?_)
              · have h4' : (elT (popsT ts[i].d op lv).2 ts[i]).1 = false := by simpa using h4
                conv => whnf
                exact stop (by simp [stepT, h3', h4']) vh3 n3 (by omega) fr3
              · have h4' : (elT (popsT ts[i].d op lv).2 ts[i]).1 = true := by simpa using h4
                obtain ⟨q5, q6⟩ := elT_lv (popsT ts[i].d op lv).2 ts[i]
                conv => whnf
                refine OP.app (d := ts[i].d) o3' (fun c hc => by have := hwb c hc; omega) (by omega) fun vh4 n4 wo4 bo4 kk4 o4 g4 q4 f4 => ?_
                have fr4 : ∀ c, c < v0 → vh4 c = vh0 c := fun c hc => (f4 c (by omega) fun h => by have := hwb c h; omega).trans (fr3 c hc)
                have s4 : SP vh4 b o3 _ := s3.at (f4 b (by omega) fun h => (hwb b h).1 rfl) fun c hc => f4 c (q3 c hc).1 fun h => by
                  have h5 := hwb c h
                  rcases (q3 c hc).2 with h6 | h6
                  · exact h5.2.1 h6
                  · omega
                have ho4 : ∀ c, o3 = some c → v0 ≤ c ∧ c < n4 := fun c hc => by
                  have h5 := q3 c hc
                  rcases h5.2 with h6 | h6
                  · have := hob c h6; omega
                  · omega
                have hw4 : ∀ c, wo4 = some c → c ≠ b ∧ o3 ≠ some c ∧ v0 ≤ c ∧ c < n4 := fun c hc => by
                  have h5 := q4 c hc
                  rcases h5.2 with h6 | h6
                  · have h7 := hwb c h6
                    refine ⟨h7.1, fun h8 => ?_, h7.2.2.1, h5.1⟩
                    rcases (q3 c h8).2 with h9 | h9
                    · exact h7.2.1 h9
                    · omega
                  · exact ⟨by omega, fun h8 => by have := q3 c h8; omega, by omega, h5.1⟩
                have b4 : ∀ l ∈ (elT (popsT ts[i].d op lv).2 ts[i]).2, l.length < 2 ^ 30 := fun l hl => by
                  rcases q6 l hl with h | h
                  · exact hlb l (p3 l h)
                  · have := hnd.s; omega
                have l4 : ((popsT ts[i].d op lv).1 ++ [ts[i].d]).length ≤ i + 1 := by rw [List.length_append, List.length_singleton]; omega
                conv => whnf
                refine CondP.mk (fun h5 => ?_) (fun h5 => ?_)
                · have h5' : ts[i].d = 1 := by simpa using h5
                  have e5 : wr .i64 ((r : Int) + 1) = ((r + 1 : Nat) : Int) := by rw [wr64] <;> omega
                  conv => whnf
                  rw [e, e5]
                  exact nxt _ _ (r + 1) _ wo4 o3 vh4 n4 (by simp only [stepT, h3', h4', if_true, if_pos h5']) l4 (by omega) b4 (by omega) o4 s4 (by omega) ho4 hw4 fr4
                · have h5' : ¬ ts[i].d = 1 := by simpa using h5
                  conv => whnf
                  rw [e]
                  exact nxt _ _ r _ wo4 o3 vh4 n4 (by simp only [stepT, h3', h4', if_true, if_neg h5']) l4 (by omega) b4 (by omega) o4 s4 (by omega) ho4 hw4 fr4
      · have hz : i = ts.length := by simp at h1; omega
        rw [hz, List.drop_length] at hQ
        conv => whnf
        exact hQ r rfl vh vn _ _ _ hop.form (by omega) hf
termination_by m => m
decreasing_by all_goals omega
end Go.Proofs.YtpcbnpekdmobpaaGreatDoor
open Go Go.Ev Go.VL
namespace Go.Proofs.YtpcbnpekdmobpaaGreatDoor
attribute [local irreducible] fApp
variable {X : Ovr} {G : Gt} {PN : List Nat → List Nat → Prop} {PV PT : List Nat → Prop}
theorem TMay_ok (H : XTM X) (Lb : LibT X G PN PV PT) (ts : List Nd) (c : Option Nat) (hts : ts.length < 2 ^ 30) (hok : ∀ n ∈ ts, NdT PN PV PT n) (vh : VH) (vn : Nat) :
    WpCall Tryz.prog X G F_tree_May [.sl 7 (ts.map encN) c] vh vn fun v vh' vn' => v = .bool (mayT ts) ∧ Frm vh vn vh' vn' := by
  apply k_tree_May.run H.tmay
  conv => whnf
  refine CondP.mk (fun h1 => ?_) (fun h1 => ?_)
  · have h1' : ts = [] := List.eq_nil_of_length_eq_zero (by simp at h1; omega)
    subst h1'
    conv => whnf
    exact Get.mk _ (fun _ _ h => h) ⟨rfl, Frm.refl _ _⟩
  · have h1' : 0 < ts.length := by simp at h1; omega
    conv => whnf
    refine CondP.mk (fun h2 => ?_) (fun h2 => ?_)
    · have h2' : ¬ ts.length ≤ 1048576 := by simp at h2 ⊢; omega
      conv => whnf
      refine Get.mk _ (fun _ _ h => h) ⟨?_, Frm.refl _ _⟩
      simp only [mayT, decide_eq_false h2', Bool.and_false, Bool.false_and]
    · have h2' : ts.length ≤ 1048576 := by simp at h2 ⊢; omega
      conv => whnf
      refine (SNew_ok H vh vn).mono fun v vh1 n1 he => ?_
      obtain ⟨e1, e2, s1, f1⟩ := he
      rw [e1, e2]
      clear e1 e2
      conv => whnf
      rw [List.length_map]
      refine TMay_L0 H Lb vn vh vn (Nat.le_refl _) ts c h2' hok _ ts.length 0 (by omega) (Nat.zero_le _) [] [] 0 .nils none none vh1 (vn + 1) (fun prev hp => by cases hp) (by decide) (by decide) nofun (by decide) ⟨rfl, rfl⟩ s1 (by omega) (fun c hc => by cases hc) (fun c hc => by cases hc) (fun c hc => f1 c (by omega)) (fun h4 vh4 n4 g4 f4 => ?_) (fun k h4 vh4 n4 w' i' t hw g4 f4 => ?_)
      · have h4' : mayRT none [] [] 0 ts = none := h4
        conv => whnf
        refine Get.mk _ (fun _ _ h => h) ⟨?_, g4, f4⟩
        simp only [mayT, h4', reduceCtorEq, decide_false, Bool.and_false]
      · have h4' : mayRT none [] [] 0 ts = some k := h4
        rcases hw with rfl | ⟨bo, kk, rfl⟩
        all_goals
          conv => whnf
          refine Get.mk _ (fun _ _ h => h) ⟨?_, g4, f4⟩
          simp only [mayT, h4', decide_eq_true h1', decide_eq_true h2', Bool.true_and, Option.some.injEq]
          congr 1
          simp
          try omega
end Go.Proofs.YtpcbnpekdmobpaaGreatDoor
open Go Go.Ev Go.VL
namespace Go.Proofs.YtpcbnpekdmobpaaGreatDoor
theorem xml_ne1 : XMLURI ≠ [] := by decide
theorem xml_ne2 : XMLURI ≠ XMLNSURI := by decide
theorem xml_ne3 : S_xml ≠ [] := by decide
theorem xml_ne4 : S_xmlns ≠ [] := by decide
theorem xml_ne5 : S_xml ≠ S_xmlns := by decide
theorem bad_wrong {a : Attr} (h : (declares a).2 = true) : badDecl a = wrongP a := by
  have d1 := xml_ne1
  have d2 := xml_ne2
  have d3 := xml_ne3
  have d4 := xml_ne4
  have d5 := xml_ne5
  unfold declares at h
  split at h
  · rename_i hu
    split at h
    · rename_i hp
      have hn : a.p ≠ [] := fun e => d4 (hp.symm.trans e)
      have e1 : (declares a).1 = a.l := by simp only [declares, if_pos hu, if_pos hp]
      simp only [badDecl, e1, wrongP, if_neg hn, decide_eq_false hn]
      by_cases h1 : a.l = S_xmlns <;> by_cases h2 : a.l = S_xml <;> by_cases h3 : a.v = XMLURI <;> by_cases h4 : a.v = XMLNSURI <;> by_cases h5 : a.v = [] <;> simp_all
    · rename_i hp
      simp only [Bool.and_eq_true, decide_eq_true_eq] at h
      have e1 : (declares a).1 = [] := by simp only [declares, if_pos hu, if_neg hp]
      simp only [badDecl, e1, wrongP, if_pos h.1, decide_eq_true h.1]
      by_cases h3 : a.v = XMLURI <;> by_cases h4 : a.v = XMLNSURI <;> simp_all [Ne.symm d3, Ne.symm d4]
  · cases h
theorem sameName_comm (a b : Attr) : sameName a b = sameName b a := by
  simp only [sameName, eq_comm]
theorem push_eq : ∀ (xs m : List Attr), pushT m xs = pushP m xs
  | [], m => rfl
  | a :: l, m => by
    simp only [pushT, pushP]
    by_cases h : (declares a).2 = true
    · rw [if_pos h, if_pos h, bad_wrong h, push_eq l]
      have e : m.any (sameName a) = m.any fun b => sameName b a := by
        congr 1
        funext b
        exact sameName_comm a b
      rw [e]
    · rw [if_neg h, if_neg h, push_eq l]
def LvG (lv : List (List Attr)) : Prop := ∀ l ∈ lv, ∀ a ∈ l, (declares a).2 = true ∧ wrongP a = false
theorem pushP_good : ∀ (xs m ms : List Attr), pushP m xs = some ms → (∀ a ∈ m, (declares a).2 = true ∧ wrongP a = false) → ∀ a ∈ ms, (declares a).2 = true ∧ wrongP a = false
  | [], m, ms, h, hm => by
    simp only [pushP, Option.some.injEq] at h
    subst h
    exact hm
  | a :: l, m, ms, h, hm => by
    simp only [pushP] at h
    split at h
    · rename_i hd
      split at h
      · cases h
      · rename_i hb
        split at h
        · cases h
        · refine pushP_good l _ _ h fun c hc => ?_
          rcases List.mem_append.1 hc with hc | hc
          · exact hm c hc
          · rw [List.mem_singleton.1 hc]
            exact ⟨hd, by rw [← bad_wrong hd]; simpa using hb⟩
    · exact pushP_good l _ _ h hm
theorem good_xml {a : Attr} (h : (declares a).2 = true ∧ wrongP a = false) (hx : (declares a).1 = S_xml) : a.v = XMLURI := by
  obtain ⟨h, hw⟩ := h
  unfold declares at h hx
  split at h
  · rename_i hu
    rw [if_pos hu] at hx
    split at h
    · rename_i hp
      rw [if_pos hp] at hx
      have hn : a.p ≠ [] := fun e => xml_ne4 (hp.symm.trans e)
      have hl : a.l = S_xml := hx
      simp only [wrongP, if_neg hn, hl] at hw
      by_cases h3 : a.v = XMLURI
      · exact h3
      · simp [h3] at hw
    · rename_i hp
      rw [if_neg hp] at hx
      exact absurd hx.symm xml_ne3
  · cases h
theorem uriL_xml : ∀ (l : List Attr), (∀ a ∈ l, (declares a).2 = true ∧ wrongP a = false) → ∀ u, uriL S_xml l = some u → u = XMLURI
  | [], _, u, h => by cases h
  | a :: l, hg, u, h => by
    simp only [uriL] at h
    split at h
    · rename_i hx
      cases h
      exact good_xml (hg a (.head _)) hx
    · exact uriL_xml l (fun c hc => hg c (.tail _ hc)) u h
theorem uriS_xml {lv : List (List Attr)} (hg : LvG lv) : ∀ (j : Nat) (u : List Nat), uriS S_xml lv j = some u → u = XMLURI
  | 0, u, h => by cases h
  | j + 1, u, h => by
    simp only [uriS] at h
    split at h
    · rename_i w hw
      cases h
      refine uriL_xml _ ?_ _ hw
      by_cases hj : j < lv.length
      · rw [List.getElem?_eq_getElem hj]
        exact hg _ (List.getElem_mem hj)
      · rw [List.getElem?_eq_none (by omega)]
        exact nofun
    · exact uriS_xml hg j u h
theorem uri_eq {lv : List (List Attr)} (hg : LvG lv) (p : List Nat) : uriT lv p = uriP lv p := by
  unfold uriT uriP
  by_cases hp : p = S_xml
  · subst hp
    split
    · rename_i u hu
      rw [uriS_xml hg _ _ hu]
      simp
    · simp
  · cases uriS p lv lv.length with
    | some u => simp [hp]
    | none => simp [hp]
theorem nsInit_clr (a : Attr) : nsDecl (clr a) = nsInit a := by
  unfold nsDecl nsInit clr
  split <;> rfl
theorem nm_ns {lv : List (List Attr)} (hg : LvG lv) (a : Attr) : nmA lv (nsInit a) = nsA lv (nsInit a) := by
  have hne : XMLNSURI ≠ [] := by decide
  unfold nmA nsA
  rw [uri_eq hg]
  unfold nsInit
  by_cases h : a.p = S_xmlns ∨ a.p = [] ∧ a.l = S_xmlns
  · simp [if_pos h, hne]
  · simp only [if_neg h, true_and]
    by_cases h2 : a.p = []
    · simp [h2, Ne.symm hne]
    · simp [h2, Ne.symm hne]
end Go.Proofs.YtpcbnpekdmobpaaGreatDoor
open Go Go.Ev Go.VL
namespace Go.Proofs.YtpcbnpekdmobpaaGreatDoor
theorem nsA_l (lv : List (List Attr)) (a : Attr) : (nsA lv a).1.l = a.l := by
  unfold nsA
  split
  · rfl
  · split <;> rfl
theorem nm_names {lv : List (List Attr)} (hg : LvG lv) : ∀ (ys : List Attr) (g : Bool) (ks : List (List Nat × List Nat)) (pre : List Attr), (∀ k, k ∈ ks ↔ ∃ b ∈ pre, (b.u, b.l) = k) →
    (nmL lv g ks (ys.map nsInit)).2 = ((g && (nsL lv (ys.map nsInit)).2) && !twiceL pre (nsL lv (ys.map nsInit)).1) ∧ ((nsL lv (ys.map nsInit)).2 = true → (nmL lv g ks (ys.map nsInit)).1 = (nsL lv (ys.map nsInit)).1)
  | [], g, ks, pre, hk => by simp [nmL, nsL, twiceL]
  | a :: l, g, ks, pre, hk => by
    have hl := nsA_l lv (nsInit a)
    have hkey : (((nsA lv (nsInit a)).1.u, (nsInit a).l) ∈ ks) ↔ pre.any (fun b => sameU b (nsA lv (nsInit a)).1) = true := by
      rw [hk]
      simp [sameU, hl]
    have hks : ∀ k, k ∈ (if ((nsA lv (nsInit a)).1.u, (nsInit a).l) ∈ ks then ks else ks ++ [((nsA lv (nsInit a)).1.u, (nsInit a).l)]) ↔ ∃ b ∈ pre ++ [(nsA lv (nsInit a)).1], (b.u, b.l) = k := fun k => by
      have e : (∃ b ∈ pre ++ [(nsA lv (nsInit a)).1], (b.u, b.l) = k) ↔ (k ∈ ks ∨ k = ((nsA lv (nsInit a)).1.u, (nsInit a).l)) := by
        rw [hk]
        simp only [List.mem_append, List.mem_singleton, ← hl]
        constructor
        · rintro ⟨b, h | rfl, h2⟩
          · exact .inl ⟨b, h, h2⟩
          · exact .inr h2.symm
        · rintro (⟨b, h, h2⟩ | h)
          · exact ⟨b, .inl h, h2⟩
          · exact ⟨_, .inr rfl, h.symm⟩
      rw [e]
      split
      · rename_i h
        exact ⟨.inl, fun h2 => h2.elim id fun h3 => h3 ▸ h⟩
      · simp
    have ih := nm_names hg l ((g && (nsA lv (nsInit a)).2) && !decide (((nsA lv (nsInit a)).1.u, (nsInit a).l) ∈ ks)) _ (pre ++ [(nsA lv (nsInit a)).1]) hks
    simp only [List.map_cons, nmL, nsL, nm_ns hg]
    refine ⟨?_, fun h => ?_⟩
    · rw [ih.1]
      by_cases ho : (nsA lv (nsInit a)).2 = true
      · rw [if_pos ho]
        simp only [twiceL, ho, Bool.and_true]
        by_cases hm : ((nsA lv (nsInit a)).1.u, (nsInit a).l) ∈ ks
        · have := hkey.1 hm
          simp [hm, this]
        · have : pre.any (fun b => sameU b (nsA lv (nsInit a)).1) = false := by
            cases h : pre.any (fun b => sameU b (nsA lv (nsInit a)).1) with
            | false => rfl
            | true => exact absurd (hkey.2 h) hm
          simp [hm, this]
      · have ho' : (nsA lv (nsInit a)).2 = false := by simpa using ho
        rw [if_neg ho]
        simp [ho']
    · by_cases ho : (nsA lv (nsInit a)).2 = true
      · rw [if_pos ho] at h ⊢
        rw [ih.2 h]
      · rw [if_neg ho] at h
        cases h
theorem good_ok : ∀ (xs pre : List Attr) (g : Bool), goodL g pre xs = (g && attrsOk (pre.map nsInit) xs)
  | [], pre, g => by simp [goodL, attrsOk]
  | a :: l, pre, g => by
    have e : (pre.map nsInit).any (fun b => sameName b a) = pre.any (sameName a) := by
      rw [List.any_map]
      congr 1
      funext b
      exact sameName_comm _ _
    simp only [goodL, attrsOk, good_ok l, List.map_append, List.map_cons, List.map_nil, e]
    simp only [Bool.and_assoc]
theorem el_eq {lv : List (List Attr)} (hg : LvG lv) (n : Nd) : (elT lv n).1 = (elementP lv n).1 ∧ ((elementP lv n).1 = true → (elT lv n).2 = (elementP lv n).2 ∧ ∃ ms, (elementP lv n).2 = lv ++ [ms] ∧ LvG (lv ++ [ms])) := by
  unfold elT
  rw [good_ok]
  by_cases h1 : namedP n.p n.l = false ∨ n.v ≠ []
  · have e : (namedP n.p n.l && decide (n.v = [])) = false := by
      rcases h1 with h | h
      · simp [h]
      · simp [h]
    rw [elementP_1 h1, e]
    refine ⟨?_, nofun⟩
    rfl
  · have e : (namedP n.p n.l && decide (n.v = [])) = true := by
      simp only [not_or, Bool.not_eq_false, ne_eq, Decidable.not_not] at h1
      simp [h1.1, h1.2]
    rw [e]
    by_cases h2 : attrsOk [] n.s = true
    · rw [List.map_nil, h2, Bool.and_true]
      have hm : (clrN n).s.map nsDecl = n.s.map nsInit := by
        show (n.s.map clr).map nsDecl = _
        rw [List.map_map]
        congr 1
        funext a
        exact nsInit_clr a
      unfold elG
      rw [if_pos rfl]
      unfold namesT
      rw [hm, push_eq]
      cases h3 : pushP [] (n.s.map nsInit) with
      | none =>
        rw [elementP_3 h1 h2 h3]
        exact ⟨by simp, nofun⟩
      | some ms =>
        have hg2 : LvG (lv ++ [ms]) := fun l hl => by
          rcases List.mem_append.1 hl with h | h
          · exact hg l h
          · rw [List.mem_singleton.1 h]
            exact pushP_good _ _ _ h3 nofun
        rw [elementP_4 h1 h2 h3]
        simp only [uri_eq hg2]
        obtain ⟨q1, q2⟩ := nm_names hg2 n.s ((uriP (lv ++ [ms]) n.p).2 && !decide (n.p = S_xmlns)) [] [] (fun k => by simp)
        have hcn : (clrN n).p = n.p := rfl
        simp only [hcn, q1]
        unfold namesP
        by_cases h4 : (uriP (lv ++ [ms]) n.p).2 = false ∨ n.p = S_xmlns
        · have e4 : ((uriP (lv ++ [ms]) n.p).2 && !decide (n.p = S_xmlns)) = false := by
            rcases h4 with h | h
            · simp [h]
            · simp [h]
          rw [e4]
          simp only [if_pos h4]
          exact ⟨by simp, by simp⟩
        · have e4 : ((uriP (lv ++ [ms]) n.p).2 && !decide (n.p = S_xmlns)) = true := by
            simp only [not_or, Bool.not_eq_false] at h4
            simp [h4.1, h4.2]
          rw [e4] at q2 ⊢
          simp only [if_neg h4]
          by_cases h5 : (nsL (lv ++ [ms]) (n.s.map nsInit)).2 = true
          · rw [q2 h5]
            refine ⟨by simp, fun h6 => ⟨?_, ms, rfl, hg2⟩⟩
            simp only [Bool.and_eq_true] at h6
            have h7 := h6.1.1
            simp [h7.1, h7.2]
          · have h5' : (nsL (lv ++ [ms]) (n.s.map nsInit)).2 = false := by simpa using h5
            rw [h5']
            exact ⟨by simp, by simp⟩
    · have h2' : attrsOk [] n.s = false := by simpa using h2
      rw [elementP_2 h1 h2', List.map_nil, h2']
      exact ⟨rfl, nofun⟩
end Go.Proofs.YtpcbnpekdmobpaaGreatDoor
open Go Go.Ev Go.VL
namespace Go.Proofs.YtpcbnpekdmobpaaGreatDoor
def rng (m : Nat) : List Int := (List.range m).map fun (j : Nat) => (j : Int) + 1
theorem rng_succ (m : Nat) : rng (m + 1) = rng m ++ [(m : Int) + 1] := by simp [rng, List.range_succ]
theorem pops_eq (d : Int) (hd : 1 ≤ d) : ∀ (m : Nat) (lv : List (List Attr)), lv.length = m → popsT d (rng m) lv = (rng (min m (d.toNat - 1)), lv.take (d.toNat - 1))
  | 0, lv, h => by
    have : lv = [] := List.eq_nil_of_length_eq_zero h
    subst this
    rw [popsT, dif_neg (fun h => h.1 rfl)]
    simp [rng]
  | m + 1, lv, h => by
    rw [popsT]
    have e : (rng (m + 1)).getLastD 0 = (m : Int) + 1 := by rw [rng_succ]; simp
    by_cases h1 : d ≤ (m : Int) + 1
    · rw [dif_pos ⟨by rw [rng_succ]; simp, by rw [e]; exact h1⟩, rng_succ, List.dropLast_concat, pops_eq d hd m lv.dropLast (by rw [List.length_dropLast]; omega)]
      have e2 : min m (d.toNat - 1) = min (m + 1) (d.toNat - 1) := by omega
      rw [e2, List.dropLast_eq_take, List.take_take]
      have e3 : min (d.toNat - 1) (lv.length - 1) = d.toNat - 1 := by omega
      rw [e3]
    · rw [dif_neg (fun h => h1 (by rw [← e]; exact h.2))]
      have e2 : min (m + 1) (d.toNat - 1) = m + 1 := by omega
      rw [e2, List.take_of_length_le (by omega)]
structure LvN (prev : Nd) (lv : List (List Attr)) : Prop where
  len : (lv.length : Int) = if prev.k = 2 then prev.d else if prev.k = 1 then 0 else prev.d - 1
  doc : prev.k = 1 → prev.d = 0
theorem LvG.take {lv : List (List Attr)} (h : LvG lv) (k : Nat) : LvG (lv.take k) := fun l hl => h l (List.mem_of_mem_take hl)
theorem plain_aside {n : Nd} (h1 : n.k ≠ 1) : asideT n = plainP n := by
  unfold asideT plainP asideK
  have e0 : plainBad n = !(((decide (n.p = []) && decide (n.u = [])) && decide (n.s = [])) && (decide (n.k = 5) || decide (n.l = [])) && validP n.v) := by
    unfold plainBad
    have : decide (0 < n.s.length) = !decide (n.s = []) := by
      cases n.s <;> simp
    rw [this]
    simp only [Bool.not_and, Bool.not_or]
  rw [e0]
  by_cases a : n.p = [] <;> by_cases b : n.u = [] <;> by_cases c : n.s = [] <;> by_cases e : n.l = [] <;> by_cases d : validP n.v = true <;> simp only [a, b, c, d, e, decide_true, decide_false, Bool.and_true, Bool.true_and, Bool.and_false, Bool.false_and, Bool.not_true, Bool.not_false, if_true, Bool.or_true, Bool.or_false, if_neg h1, Bool.false_eq_true, if_false] <;> first | rfl | skip
  all_goals
    by_cases k3 : n.k = 3
    · simp [k3]
    · by_cases k4 : n.k = 4
      · simp [k4, Bool.and_comm, Bool.and_left_comm]
      · by_cases k5 : n.k = 5
        · simp [k5, Bool.and_comm, Bool.and_left_comm]
        · simp [k3, k4, k5]
end Go.Proofs.YtpcbnpekdmobpaaGreatDoor
open Go Go.Ev Go.VL
namespace Go.Proofs.YtpcbnpekdmobpaaGreatDoor
theorem stands_bad {prev n : Nd} (h : standsP prev n = true) : n.k ≠ 1 ∧ badPlace prev n = false ∧ ¬ (n.k = 3 ∧ (n.d = 1 ∨ prev.k = 3 ∧ prev.d = n.d)) := by
  simp only [standsP, Bool.and_eq_true, Bool.not_eq_true', decide_eq_false_iff_not] at h
  obtain ⟨⟨h1, h2⟩, h3⟩ := h
  refine ⟨h1, h2, fun ⟨h4, h5⟩ => ?_⟩
  simp only [h4, decide_true, Bool.not_true, Bool.false_or, Bool.and_eq_true, decide_eq_true_eq, Bool.or_eq_true, Bool.not_eq_true', decide_eq_false_iff_not] at h3
  rcases h5 with h5 | ⟨h5, h6⟩
  · omega
  · rcases h3.2 with h7 | h7
    · exact h7 h5
    · exact h7 h6
theorem stands_no {prev n : Nd} (h : standsP prev n = false) (hb : badPlace prev n = false) (lv : List (List Attr)) (r : Nat) : stepP prev n lv r = none := by
  have hd : 1 ≤ n.d := by
    simp only [badPlace, Bool.or_eq_false_iff, decide_eq_false_iff_not] at hb
    omega
  unfold stepP
  by_cases h1 : n.k = 1
  · have e : plainP n = false := by
      unfold plainP
      simp [h1]
    rw [if_neg (by omega), if_pos e]
  · have h3 : n.k = 3 ∧ (n.d = 1 ∨ prev.k = 3 ∧ prev.d = n.d) := by
      simp only [standsP, hb, decide_eq_false h1, Bool.not_false, Bool.true_and, Bool.or_eq_false_iff, Bool.not_eq_false', decide_eq_true_eq, Bool.and_eq_false_iff, decide_eq_false_iff_not] at h
      refine ⟨h.1, ?_⟩
      rcases h.2 with h4 | h4
      · left; omega
      · exact .inr h4
    rw [if_neg (by omega)]
    split
    · rfl
    · first | rfl | rw [if_pos h3]
theorem step_eq {prev n : Nd} {lv : List (List Attr)} (r : Nat) (hs : standsP prev n = true) (hn : LvN prev lv) (hg : LvG lv) :
    (stepP prev n lv r = none ∧ stepT n (rng lv.length) lv r = none) ∨ ∃ lv' r', stepP prev n lv r = some (lv', r') ∧ stepT n (rng lv.length) lv r = some (rng lv'.length, lv', r') ∧ LvN n lv' ∧ LvG lv' := by
  obtain ⟨h1, h2, h3⟩ := stands_bad hs
  simp only [badPlace, Bool.or_eq_false_iff, decide_eq_false_iff_not, Bool.and_eq_false_iff, Bool.not_eq_false', decide_eq_true_eq] at h2
  obtain ⟨⟨⟨a1, a2⟩, a3⟩, a4⟩ := h2
  have hle : n.d.toNat - 1 ≤ lv.length := by
    have q1 := hn.len
    have q2 := hn.doc
    by_cases k2 : prev.k = 2
    · rw [if_pos k2] at q1; omega
    · rw [if_neg k2] at q1
      by_cases k1 : prev.k = 1
      · rw [if_pos k1] at q1; have := q2 k1; omega
      · rw [if_neg k1] at q1; omega
  have hp := pops_eq n.d (by omega) lv.length lv rfl
  have hlt : (lv.take (n.d.toNat - 1)).length = n.d.toNat - 1 := by rw [List.length_take]; omega
  have hmin : min lv.length (n.d.toNat - 1) = n.d.toNat - 1 := by omega
  rw [hmin] at hp
  unfold stepP stepT
  rw [hp]
  simp only
  by_cases k2 : n.k = 2
  · rw [if_pos k2, if_pos k2]
    obtain ⟨e1, e2⟩ := el_eq (hg.take (n.d.toNat - 1)) n
    by_cases ho : (elementP (lv.take (n.d.toNat - 1)) n).1 = true
    · obtain ⟨e3, ms, e4, e5⟩ := e2 ho
      rw [if_pos ho, if_pos (e1.trans ho)]
      right
      refine ⟨_, _, rfl, ?_, ?_, ?_⟩
      · rw [e3, e4, List.length_append, hlt, List.length_singleton, rng_succ]
        have : ((n.d.toNat - 1 : Nat) : Int) + 1 = n.d := by omega
        rw [this]
      · rw [e4]
        exact ⟨by rw [List.length_append, hlt, List.length_singleton, if_pos k2]; omega, fun h => absurd h h1⟩
      · rw [e4]; exact e5
    · rw [if_neg ho, if_neg (fun h => ho (e1.symm.trans h))]
      exact .inl ⟨rfl, rfl⟩
  · rw [if_neg k2, if_neg k2, plain_aside h1]
    by_cases ho : plainP n = true
    · rw [if_pos ho, if_neg (by rw [ho]; exact nofun), if_neg h3]
      right
      refine ⟨_, _, rfl, by rw [hlt], ⟨?_, fun h => absurd h h1⟩, hg.take _⟩
      rw [hlt, if_neg k2, if_neg h1]
      omega
    · rw [if_neg ho, if_pos (by simpa using ho)]
      exact .inl ⟨rfl, rfl⟩
theorem mayR_eq : ∀ (l : List Nd) (prev : Nd) (lv : List (List Attr)) (r : Nat), LvN prev lv → LvG lv → mayRT (some prev) (rng lv.length) lv r l = mayR prev lv r l
  | [], prev, lv, r, hn, hg => rfl
  | n :: l, prev, lv, r, hn, hg => by
    simp only [mayRT, mayR]
    by_cases hs : standsT (some prev) n = true
    · rw [if_pos hs, (stands_bad hs).2.1, if_neg (by decide)]
      rcases step_eq r hs hn hg with ⟨e1, e2⟩ | ⟨lv', r', e1, e2, n2, g2⟩
      · rw [e1, e2]
      · rw [e1, e2]
        exact mayR_eq l n lv' r' n2 g2
    · rw [if_neg hs]
      by_cases hb : badPlace prev n = true
      · rw [if_pos hb]
      · rw [if_neg hb, stands_no (show standsP prev n = false by simpa [standsT] using hs) (by simpa using hb)]
theorem mayRT0 (n : Nd) (l : List Nd) : mayRT none [] [] 0 (n :: l) = if sameNd n zeroDoc = true then mayR n [] 0 l else none := by
  simp only [mayRT]
  by_cases h : n.k = 1 ∧ n.d = 0
  · have e1 : standsT none n = true := by simp [standsT, h.1, h.2]
    rw [if_pos e1]
    have e2 : popsT n.d [] [] = ([], []) := by rw [popsT, dif_neg (fun h => h.1 rfl)]
    have hk : ¬ n.k = 2 := by omega
    have e3 : asideT n = sameNd n zeroDoc := by
      have hv : validP [] = true := by decide
      unfold asideT asideK sameNd zeroDoc
      rw [if_pos h.1]
      simp only [h.1, h.2, decide_true, Bool.true_and, List.map_nil, List.map_eq_nil_iff]
      by_cases a : n.v = []
      · by_cases b1 : n.l = [] <;> by_cases b2 : n.p = [] <;> simp [a, hv, b1, b2]
      · simp [a]
    unfold stepT
    rw [if_neg hk, e2, e3]
    by_cases ho : sameNd n zeroDoc = true
    · rw [if_pos ho, if_pos ho]
      exact mayR_eq l n [] 0 ⟨by rw [if_neg hk, if_pos h.1]; rfl, fun _ => h.2⟩ nofun
    · rw [if_neg ho, if_neg ho]
  · have e1 : ¬ standsT none n = true := by simpa [standsT] using h
    have ho' : sameNd n zeroDoc = false := by
      cases hz : sameNd n zeroDoc with
      | false => rfl
      | true =>
        have hz := sameNd_iff.1 hz
        exact absurd ⟨by rw [hz]; rfl, by rw [hz]; rfl⟩ h
    rw [if_neg e1, ho', if_neg (by decide)]
theorem may_eq (ts : List Nd) : mayT ts = mayP ts := by
  cases ts with
  | nil => rfl
  | cons n l =>
    simp only [mayT, mayP, mayRT0]
    cases sameNd n zeroDoc <;> simp
end Go.Proofs.YtpcbnpekdmobpaaGreatDoor
open Go Go.Ev Go.VL
namespace Go.Proofs.YtpcbnpekdmobpaaGreatDoor
attribute [local irreducible] fApp
variable {X : Ovr} {G : Gt} {PN : List Nat → List Nat → Prop} {PV PT : List Nat → Prop}
theorem app_list {α : Type} {enc : α → List V} {es by' : Nat} {ty : TypeId} {vh : VH} {nx b : Nat} {xs : List α} (hl : ∀ a, (enc a).length = es) (h0 : 0 < es) (hb : vh b = some (.cells (xs.map enc).flatten ty 0 false)) (hbn : b < nx) (ys : List α) {ls : List (List V)} (hz : ls = ys.map enc) (hroom : room by' (xs.length + ys.length)) {env : VEnv} {k : V → VEnv → VH → Nat → Prop}
    (hk : ∀ b' vh' nx', b ≤ b' → b' < nx' → nx ≤ nx' → vh' b' = some (.cells ((xs ++ ys).map enc).flatten ty 0 false) → (∀ d, d < nx → d ≠ b → vh' d = vh d) → k (.msl b' 0 (xs ++ ys).length es none) env vh' nx') : fApp es by' ty (.msl b 0 xs.length es none) ls.flatten ls.length env vh nx k := by
  subst hz
  have hfl := flat_len hl xs
  simp only [fApp, beq_iff.2 (rfl : es = es), cond_true]
  refine .mk (fun h => ?_) fun h => ?_
  · have hy : ys = [] := by have := beq_iff.1 h; simpa using this
    subst hy
    have := hk b vh nx (Nat.le_refl _) hbn (Nat.le_refl _) (by rw [List.append_nil]; exact hb) (fun _ _ _ => rfl)
    rw [List.append_nil] at this
    exact this
  · have hy := beq_false.1 h
    rw [List.length_map] at hy ⊢
    refine ⟨((xs.map enc).flatten, ty, 0, false), hb, ?_⟩
    simp only
    have hdv : ((xs.map enc).flatten.length - 0) / es = xs.length := by rw [hfl, Nat.sub_zero, Nat.mul_div_cancel _ h0]
    have hle : Nat.ble (xs.length + ys.length) xs.length = false := by
      cases hb : Nat.ble (xs.length + ys.length) xs.length with
      | false => rfl
      | true => have := ble_iff.1 hb; omega
    rw [hdv, hle]
    conv => whnf
    refine ⟨⟨trivial, by rw [hfl]; exact Nat.le_refl _, Nat.zero_le _, trivial, hroom⟩, ?_⟩
    have := hk nx (vset (vdel vh b) nx (.cells (((xs.map enc).flatten).take (xs.length * es) ++ (ys.map enc).flatten) ty (Ev.fzOff 0 0) false)) (nx + 1) (by omega) (by omega) (by omega) ?_ ?_
    · rw [List.length_append] at this; exact this
    · rw [vset_same, List.take_of_length_le (by rw [hfl]; exact Nat.le_refl _)]
      simp [fzOff]
    · intro d h1 h2
      rw [vset_ne (by omega), vdel_ne h2]
def putL (ts : List Nd) (k : Nat) (n : Nd) : List Nd := (ts.take (k + 1) ++ [n]) ++ ts.drop (k + 1)
theorem Put_ok (hX : X F_law16_put = none) (ts : List Nd) (c : Option Nat) (hts : ts.length < 2 ^ 30) (k : Nat) (hk : k < ts.length) (n : Nd) (vh : VH) (vn : Nat) :
    WpCall Tryz.prog X G F_law16_put [.sl 7 (ts.map encN) c, .int .i64 (k : Int), .agg (encN n)] vh vn fun v vh' vn' => v = .sl 7 ((putL ts k n).map encN) none ∧ Frm vh vn vh' vn' := by
  apply k_law16_put.run hX
  conv => whnf
  have hk1 : wr .i64 ((k : Int) + 1) = ((k + 1 : Nat) : Int) := by rw [wr64] <;> omega
  refine Get.mk (k + 1) hk1 ?_
  conv => whnf
  refine ⟨⟨Nat.zero_le _, by rw [List.length_map]; omega⟩, ?_⟩
  conv => whnf
  refine Get.mk (k + 1) hk1 ?_
  conv => whnf
  refine ⟨⟨by rw [List.length_map]; omega, Nat.le_refl _⟩, ?_⟩
  conv => whnf
  have e1 : List.take (k + 1 - 0) (List.drop 0 (ts.map encN)) = (ts.take (k + 1)).map encN := by rw [List.drop_zero, Nat.sub_zero, List.map_take]
  have e2 : List.take ((ts.map encN).length - (k + 1)) (List.drop (k + 1) (ts.map encN)) = (ts.drop (k + 1)).map encN := by
    rw [List.take_of_length_le (by rw [List.length_drop]; exact Nat.le_refl _), List.map_drop]
  rw [e1, e2]
  refine SlIn.fresh (enc := encN) (lo := vn) (xs := ts.take (k + 1)) rfl (Nat.le_refl _) ⟨?_, ?_⟩ fun v1 vh1 n1 A1 g1 f1 => ?_
  · rw [List.length_take]; omega
  · rw [List.length_take]; show _ < 9223372036854775808; omega
  have hne : ts.take (k + 1) ≠ [] := fun h => by
    have := congrArg List.length h
    rw [List.length_take, List.length_nil] at this
    omega
  have hlt : (ts.take (k + 1)).length ≤ ts.length := by rw [List.length_take]; omega
  have hld : (ts.drop (k + 1)).length ≤ ts.length := by rw [List.length_drop]; omega
  rcases A1 with ⟨_, h⟩ | ⟨b1, q1, q2, rfl, hb1⟩
  · exact absurd h hne
  conv => whnf
  refine app_list (enc := encN) (fun _ => rfl) (by decide) hb1 q2 [n] rfl ⟨?_, ?_⟩ fun b2 vh2 n2 q3 q4 g2 hb2 f2 => ?_
  · show ((ts.take (k + 1)).length + 1) * 104 ≤ 140737488355328
    omega
  · have h1 : [n].length = 1 := rfl
    show _ < 9223372036854775808
    omega
  conv => whnf
  refine app_list (enc := encN) (fun _ => rfl) (by decide) hb2 q4 (ts.drop (k + 1)) rfl ⟨?_, ?_⟩ fun b3 vh3 n3 q5 q6 g3 hb3 f3 => ?_
  · rw [List.length_append, List.length_singleton]; omega
  · rw [List.length_append, List.length_singleton]; show _ < 9223372036854775808; omega
  conv => whnf
  have hb3' : vh3 b3 = some (.cells ((putL ts k n).map encN).flatten T_api_Node 0 false) := hb3
  have hlen : ((ts.take (k + 1) ++ [n]) ++ ts.drop (k + 1)).length = (putL ts k n).length := rfl
  rw [hlen]
  refine Get.mk (_, _, _, _) hb3' ?_
  conv => whnf
  refine ⟨fz_owe encN_len (by decide), ?_⟩
  conv => whnf
  refine Get.mk _ (fz_pieces encN_len) ?_
  conv => whnf
  refine Get.mk _ (fun _ _ h => h) ⟨rfl, (by omega : vn ≤ n3), fun c hc => ?_⟩
  show vdel vh3 b3 c = vh c
  rw [vdel_ne (by omega), f3 c (by omega) (by omega), f2 c (by omega) (by omega), f1 c (by omega)]
end Go.Proofs.YtpcbnpekdmobpaaGreatDoor
open Go Go.Ev Go.VL
namespace Go.Proofs.YtpcbnpekdmobpaaGreatDoor
def runR : Nd → List (List Attr) → Nat → List Nd → Option (Nd × List (List Attr) × Nat)
  | p, lv, r, [] => some (p, lv, r)
  | p, lv, r, n :: l => if badPlace p n = true then none else match stepP p n lv r with
    | none => none
    | some s => runR n s.1 s.2 l
theorem mayR_app : ∀ (A B : List Nd) (p : Nd) (lv : List (List Attr)) (r : Nat), mayR p lv r (A ++ B) = match runR p lv r A with
    | none => none
    | some s => mayR s.1 s.2.1 s.2.2 B
  | [], B, p, lv, r => rfl
  | n :: A, B, p, lv, r => by
    simp only [List.cons_append, mayR, runR]
    split
    · rfl
    · cases stepP p n lv r with
      | none => rfl
      | some s => exact mayR_app A B n s.1 s.2
theorem stepP_n {p n : Nd} {lv lv' : List (List Attr)} {r r' : Nat} (hn : LvN p lv) (hb : badPlace p n = false) (h : stepP p n lv r = some (lv', r')) : LvN n lv' := by
  simp only [badPlace, Bool.or_eq_false_iff, decide_eq_false_iff_not, Bool.and_eq_false_iff, Bool.not_eq_false', decide_eq_true_eq] at hb
  obtain ⟨⟨⟨a1, a2⟩, a3⟩, a4⟩ := hb
  have hle : n.d.toNat - 1 ≤ lv.length := by
    have q1 := hn.len
    have q2 := hn.doc
    by_cases k2 : p.k = 2
    · rw [if_pos k2] at q1; omega
    · rw [if_neg k2] at q1
      by_cases k1 : p.k = 1
      · rw [if_pos k1] at q1; have := q2 k1; omega
      · rw [if_neg k1] at q1; omega
  have hlt : (lv.take (n.d.toNat - 1)).length = n.d.toNat - 1 := by rw [List.length_take]; omega
  unfold stepP at h
  by_cases k2 : n.k = 2
  · rw [if_pos k2] at h
    split at h
    · rename_i ho
      simp only [Option.some.injEq, Prod.mk.injEq] at h
      obtain ⟨rfl, _⟩ := h
      refine ⟨?_, fun h => by omega⟩
      rw [if_pos k2]
      rcases elementP_lv (lv.take (n.d.toNat - 1)) n with e | ⟨ms, _, e⟩
      · exfalso
        have e5 := congrArg List.length e
        revert ho e5
        unfold elementP
        split
        · exact nofun
        · split
          · exact nofun
          · split
            · exact nofun
            · intro _ e5
              simp at e5
      · rw [e, List.length_append, hlt, List.length_singleton]; omega
    · cases h
  · rw [if_neg k2] at h
    split at h
    · cases h
    · rename_i hp
      split at h
      · cases h
      · simp only [Option.some.injEq, Prod.mk.injEq] at h
        obtain ⟨rfl, _⟩ := h
        have k1 : n.k ≠ 1 := fun h => hp (by unfold plainP; simp [h])
        refine ⟨?_, fun h => absurd h k1⟩
        rw [hlt, if_neg k2, if_neg k1]; omega
theorem runR_n : ∀ (A : List Nd) (p : Nd) (lv : List (List Attr)) (r : Nat) (s : Nd × List (List Attr) × Nat), LvN p lv → runR p lv r A = some s → LvN s.1 s.2.1 ∧ s.1 = (p :: A).getLast (by simp)
  | [], p, lv, r, s, hn, h => by
    cases h
    exact ⟨hn, rfl⟩
  | n :: A, p, lv, r, s, hn, h => by
    simp only [runR] at h
    split at h
    · cases h
    · rename_i hb
      cases hs : stepP p n lv r with
      | none => rw [hs] at h; cases h
      | some q =>
        rw [hs] at h
        have := runR_n A n q.1 q.2 s (stepP_n hn (by simpa using hb) hs) h
        exact ⟨this.1, by rw [this.2]; simp⟩
def putD (p : Nd) : Int := if p.k = 2 ∨ p.k = 1 then p.d + 1 else p.d
def comN (d : Int) : Nd := ⟨4, d, [], [], [], S_c, []⟩
def texN (d : Int) : Nd := ⟨3, d, [], [], [], S_x, []⟩
theorem com_plain (d : Int) : plainP (comN d) = true := by
  have : plainP (comN d) = plainP (comN 0) := rfl
  rw [this]
  decide +kernel
theorem tex_plain (d : Int) : plainP (texN d) = true := by
  have : plainP (texN d) = plainP (texN 0) := rfl
  rw [this]
  decide +kernel
theorem put_place {p c : Nd} {lv : List (List Attr)} (hn : LvN p lv) (h0 : 0 ≤ p.d) (h1 : p.d ≤ 32) (hc : c.d = putD p) : badPlace p c = false ∧ 1 ≤ c.d := by
  have q1 := hn.len
  have q2 := hn.doc
  unfold putD at hc
  by_cases k2 : p.k = 2
  · rw [if_pos (.inl k2)] at hc
    refine ⟨?_, by omega⟩
    simp only [badPlace, Bool.or_eq_false_iff, decide_eq_false_iff_not, Bool.and_eq_false_iff, Bool.not_eq_false', decide_eq_true_eq]
    omega
  · by_cases k1 : p.k = 1
    · rw [if_pos (.inr k1)] at hc
      refine ⟨?_, by omega⟩
      simp only [badPlace, Bool.or_eq_false_iff, decide_eq_false_iff_not, Bool.and_eq_false_iff, Bool.not_eq_false', decide_eq_true_eq]
      omega
    · rw [if_neg (by omega)] at hc
      rw [if_neg k2, if_neg k1] at q1
      refine ⟨?_, by omega⟩
      simp only [badPlace, Bool.or_eq_false_iff, decide_eq_false_iff_not, Bool.and_eq_false_iff, Bool.not_eq_false', decide_eq_true_eq]
      omega
theorem put_next {p c n : Nd} {lv : List (List Attr)} {r : Nat} (h0 : 1 ≤ c.d) (hc : c.d = putD p) (hb : badPlace p n = false) (hk : ¬ (n.k = 3 ∧ (n.d = 1 ∨ p.k = 3 ∧ p.d = n.d))) (hk2 : ¬ (n.k = 3 ∧ c.k = 3 ∧ c.d = n.d)) : badPlace c n = false ∧ stepP c n (lv.take (c.d.toNat - 1)) r = stepP p n lv r := by
  simp only [badPlace, Bool.or_eq_false_iff, decide_eq_false_iff_not, Bool.and_eq_false_iff, Bool.not_eq_false', decide_eq_true_eq] at hb ⊢
  unfold putD at hc
  have hle : n.d ≤ c.d := by
    split at hc <;> omega
  refine ⟨by omega, ?_⟩
  unfold stepP
  have e : (lv.take (c.d.toNat - 1)).take (n.d.toNat - 1) = lv.take (n.d.toNat - 1) := by
    rw [List.take_take]
    congr 1
    omega
  rw [e, if_neg hk]
  have hk3 : ¬ (n.k = 3 ∧ (n.d = 1 ∨ c.k = 3 ∧ c.d = n.d)) := fun ⟨a, b⟩ => b.elim (fun b => hk ⟨a, .inl b⟩) fun b => hk2 ⟨a, b⟩
  rw [if_neg hk3]
end Go.Proofs.YtpcbnpekdmobpaaGreatDoor
open Go Go.Ev Go.VL
namespace Go.Proofs.YtpcbnpekdmobpaaGreatDoor
theorem step_rule {p n : Nd} {lv : List (List Attr)} {r : Nat} {s : List (List Attr) × Nat} (h : stepP p n lv r = some s) : ¬ (n.k = 3 ∧ (n.d = 1 ∨ p.k = 3 ∧ p.d = n.d)) := fun hk => by
  unfold stepP at h
  rw [if_neg (by omega), if_pos hk] at h
  split at h <;> cases h
def sideB (d : Int) : List Nd → Bool
  | [] => false
  | n :: _ => decide (n.k = 3) && decide (n.d = d)
theorem comK2 (d : Int) : ¬ (comN d).k = 2 := by show ¬ (4 : Int) = 2; decide
theorem comK3 (d : Int) : ¬ (comN d).k = 3 := by show ¬ (4 : Int) = 3; decide
theorem texK2 (d : Int) : ¬ (texN d).k = 2 := by show ¬ (3 : Int) = 2; decide
theorem put_com {p : Nd} {lv : List (List Attr)} {r q : Nat} (hn : LvN p lv) (h0 : 0 ≤ p.d) (h1 : p.d ≤ 32) : ∀ (B : List Nd), mayR p lv r B = some q → mayR p lv r (comN (putD p) :: B) = some q := fun B hB => by
  obtain ⟨b1, b2⟩ := put_place (c := comN (putD p)) hn h0 h1 rfl
  have hs : stepP p (comN (putD p)) lv r = some (lv.take ((comN (putD p)).d.toNat - 1), r) := by
    unfold stepP
    rw [if_neg (comK2 _), com_plain, if_neg (by decide), if_neg (fun h => absurd h.1 (comK3 _))]
  simp only [mayR, b1, hs, Bool.false_eq_true, if_false]
  cases B with
  | nil => exact hB
  | cons n l =>
    simp only [mayR] at hB ⊢
    split at hB
    · cases hB
    · rename_i hb
      cases hs2 : stepP p n lv r with
      | none => rw [hs2] at hB; cases hB
      | some s =>
        have hb' : badPlace p n = false := by simpa using hb
        obtain ⟨e1, e2⟩ := put_next (c := comN (putD p)) (lv := lv) (r := r) b2 rfl hb' (step_rule hs2) (fun h => absurd h.2.1 (comK3 _))
        rw [hs2] at hB e2
        simp only [e1, e2, Bool.false_eq_true, if_false]
        exact hB
theorem put_tex {p : Nd} {lv : List (List Attr)} {r q : Nat} (hn : LvN p lv) (h0 : 0 ≤ p.d) (h1 : p.d ≤ 32) (B : List Nd) (hB : mayR p lv r B = some q) : mayR p lv r (texN (putD p) :: B) = if (decide (1 < putD p) && !(decide (p.k = 3) || sideB (putD p) B)) = true then some q else none := by
  obtain ⟨b1, b2⟩ := put_place (c := texN (putD p)) hn h0 h1 rfl
  have hd : (texN (putD p)).d = putD p := rfl
  have hk : (texN (putD p)).k = 3 := rfl
  rw [hd] at b2
  by_cases hr : (texN (putD p)).k = 3 ∧ ((texN (putD p)).d = 1 ∨ p.k = 3 ∧ p.d = (texN (putD p)).d)
  · have hs : stepP p (texN (putD p)) lv r = none := by
      unfold stepP
      rw [if_neg (texK2 _), tex_plain, if_neg (by decide), if_pos hr]
    have hz : ¬ (decide (1 < putD p) && !(decide (p.k = 3) || sideB (putD p) B)) = true := by
      rcases hr.2 with h | h
      · rw [hd] at h
        simp [h]
      · simp [h.1]
    rw [if_neg hz]
    simp only [mayR, b1, hs, Bool.false_eq_true, if_false]
  · have hs : stepP p (texN (putD p)) lv r = some (lv.take ((texN (putD p)).d.toNat - 1), r) := by
      unfold stepP
      rw [if_neg (texK2 _), tex_plain, if_neg (by decide), if_neg hr]
    have hd1 : 1 < putD p := by
      have : ¬ putD p = 1 := fun h => hr ⟨rfl, .inl h⟩
      omega
    have hp3 : ¬ p.k = 3 := fun h => hr ⟨rfl, .inr ⟨h, by rw [hd, putD, if_neg (by omega)]⟩⟩
    have e0 : (decide (1 < putD p) && !(decide (p.k = 3) || sideB (putD p) B)) = !sideB (putD p) B := by simp [hd1, hp3]
    rw [e0]
    simp only [mayR, b1, hs, Bool.false_eq_true, if_false]
    cases B with
    | nil => exact hB
    | cons n l =>
      simp only [mayR] at hB ⊢
      split at hB
      · cases hB
      · rename_i hb
        cases hs2 : stepP p n lv r with
        | none => rw [hs2] at hB; cases hB
        | some s =>
          have hb' : badPlace p n = false := by simpa using hb
          rw [hs2] at hB
          by_cases hq : n.k = 3 ∧ n.d = putD p
          · have hsd : sideB (putD p) (n :: l) = true := by simp [sideB, hq.1, hq.2]
            simp only [hsd, Bool.not_true, Bool.false_eq_true, if_false]
            split
            · rfl
            · have e3 : stepP (texN (putD p)) n (lv.take ((texN (putD p)).d.toNat - 1)) r = none := by
                cases h : stepP (texN (putD p)) n (lv.take ((texN (putD p)).d.toNat - 1)) r with
                | none => rfl
                | some s => exact absurd ⟨hq.1, .inr ⟨rfl, by rw [hd, hq.2]⟩⟩ (step_rule h)
              simp only [e3]
          · have hsd : sideB (putD p) (n :: l) = false := by
              simp only [sideB, Bool.and_eq_false_iff, decide_eq_false_iff_not]
              by_cases h : n.k = 3
              · exact .inr fun h2 => hq ⟨h, h2⟩
              · exact .inl h
            simp only [hsd, Bool.not_false, if_true]
            obtain ⟨e1, e2⟩ := put_next (c := texN (putD p)) (lv := lv) (r := r) b2 rfl hb' (step_rule hs2) (fun h => hq ⟨h.1, h.2.2.symm⟩)
            rw [hs2] at e2
            simp only [e1, e2, Bool.false_eq_true, if_false]
            exact hB
def rootZ : Nd := ⟨2, 1, [], S_z, [], [], []⟩
theorem put_root {p : Nd} {lv : List (List Attr)} : mayR p lv 1 [rootZ] ≠ some 1 := by
  simp only [mayR]
  split
  · exact nofun
  · unfold stepP
    rw [if_pos (by decide : rootZ.k = 2), if_pos (by decide : rootZ.d = 1)]
    by_cases h : (elementP (lv.take (rootZ.d.toNat - 1)) rootZ).1 = true
    · rw [if_pos h]
      simp
    · rw [if_neg h]
      exact nofun
theorem mayP_iff {ts : List Nd} : mayP ts = true ↔ ts.length ≤ 1048576 ∧ ∃ l, ts = zeroDoc :: l ∧ mayR zeroDoc [] 0 l = some 1 := by
  cases ts with
  | nil => simp [mayP]
  | cons n l =>
    simp only [mayP, Bool.and_eq_true, decide_eq_true_eq, sameNd_iff]
    constructor
    · rintro ⟨⟨h1, rfl⟩, h3⟩
      exact ⟨h1, l, rfl, h3⟩
    · rintro ⟨h1, l', h2, h3⟩
      cases h2
      exact ⟨⟨h1, rfl⟩, h3⟩
theorem zero_lvn : LvN zeroDoc [] := ⟨rfl, fun _ => rfl⟩
theorem put_split {ts : List Nd} {k : Nat} (h : mayP ts = true) (hk : k < ts.length) : ∃ l A B s, ts = zeroDoc :: l ∧ l = A ++ B ∧ A.length = k ∧ runR zeroDoc [] 0 A = some s ∧ LvN s.1 s.2.1 ∧ s.1 = ts[k] ∧ mayR s.1 s.2.1 s.2.2 B = some 1 ∧ ts.take (k + 1) = zeroDoc :: A ∧ ts.drop (k + 1) = B := by
  obtain ⟨h1, l, rfl, h3⟩ := mayP_iff.1 h
  have hl : k ≤ l.length := by simp at hk; omega
  have e : l = l.take k ++ l.drop k := (List.take_append_drop k l).symm
  have h4 := h3
  rw [e, mayR_app] at h4
  cases hs : runR zeroDoc [] 0 (l.take k) with
  | none => rw [hs] at h4; cases h4
  | some s =>
    rw [hs] at h4
    obtain ⟨n1, n2⟩ := runR_n _ _ _ _ _ zero_lvn hs
    refine ⟨l, l.take k, l.drop k, s, rfl, e, by rw [List.length_take]; omega, hs, n1, ?_, h4, by simp, by simp⟩
    rw [n2, List.getLast_eq_getElem]
    have : (zeroDoc :: l.take k).length - 1 = k := by simp; omega
    simp only [this]
    cases k with
    | zero => rfl
    | succ k => simp
end Go.Proofs.YtpcbnpekdmobpaaGreatDoor
open Go Go.Ev Go.VL
namespace Go.Proofs.YtpcbnpekdmobpaaGreatDoor
theorem nexts_com {ts : List Nd} (M : Made ts) {k : Nat} (hk : k < ts.length) : mayP (putL ts k (comN (putD ts[k]))) = true := by
  obtain ⟨l, A, B, s, e1, e2, e3, e4, n1, n2, h4, t1, t2⟩ := put_split M.may hk
  have hd := (M.nd _ (List.getElem_mem hk)).2
  rw [mayP_iff]
  have e : putL ts k (comN (putD ts[k])) = zeroDoc :: (A ++ comN (putD ts[k]) :: B) := by
    unfold putL
    rw [t1, t2]
    simp
  have hl := M.len
  rw [e]
  refine ⟨?_, _, rfl, ?_⟩
  · rw [e1, e2] at hl
    simp only [List.length_cons, List.length_append] at hl ⊢
    omega
  · rw [mayR_app, e4]
    simp only
    rw [← n2] at hd ⊢
    exact put_com n1 hd.1 hd.2 B h4
theorem nexts_tex {ts : List Nd} (M : Made ts) {k : Nat} (hk : k < ts.length) : mayP (putL ts k (texN (putD ts[k]))) = (decide (1 < putD ts[k]) && !(decide (ts[k].k = 3) || sideB (putD ts[k]) (ts.drop (k + 1)))) := by
  obtain ⟨l, A, B, s, e1, e2, e3, e4, n1, n2, h4, t1, t2⟩ := put_split M.may hk
  have hd := (M.nd _ (List.getElem_mem hk)).2
  have e : putL ts k (texN (putD ts[k])) = zeroDoc :: (A ++ texN (putD ts[k]) :: B) := by
    unfold putL
    rw [t1, t2]
    simp
  have hl := M.len
  rw [t2, ← n2] at *
  have hlen : (zeroDoc :: (A ++ texN (putD s.1) :: B)).length ≤ 1048576 := by
    rw [e1, e2] at hl
    simp only [List.length_cons, List.length_append] at hl ⊢
    omega
  have hx := put_tex n1 hd.1 hd.2 B h4
  rw [e]
  cases hb : (decide (1 < putD s.1) && !(decide (s.1.k = 3) || sideB (putD s.1) B)) with
  | true =>
    rw [mayP_iff]
    rw [hb] at hx
    refine ⟨hlen, _, rfl, ?_⟩
    rw [mayR_app, e4]
    exact hx
  | false =>
    cases hm : mayP (zeroDoc :: (A ++ texN (putD s.1) :: B)) with
    | false => rfl
    | true =>
      obtain ⟨_, l2, e5, h5⟩ := mayP_iff.1 hm
      cases e5
      rw [mayR_app, e4] at h5
      rw [hb] at hx
      simp only at h5
      rw [hx] at h5
      cases h5
theorem nexts_root {ts : List Nd} (M : Made ts) : mayP (ts ++ [rootZ]) = false := by
  obtain ⟨h1, l, e1, h3⟩ := mayP_iff.1 M.may
  cases hm : mayP (ts ++ [rootZ]) with
  | false => rfl
  | true =>
    exfalso
    obtain ⟨_, l2, e5, h5⟩ := mayP_iff.1 hm
    rw [e1] at e5
    have e6 : l2 = l ++ [rootZ] := by simpa using e5.symm
    rw [e6, mayR_app] at h5
    have h4 := h3
    have e7 : l = l ++ [] := by simp
    rw [e7, mayR_app] at h4
    cases hs : runR zeroDoc [] 0 l with
    | none => rw [hs] at h4; cases h4
    | some s =>
      rw [hs] at h4 h5
      have e8 : s.2.2 = 1 := by simpa [mayR] using h4
      simp only [e8] at h5
      exact put_root h5
theorem side_at {ts : List Nd} (d : Int) (k : Nat) : sideB d (ts.drop (k + 1)) = (match ts[k + 1]? with
    | none => false
    | some n => decide (n.k = 3) && decide (n.d = d)) := by
  cases h : ts.drop (k + 1) with
  | nil =>
    have : ts.length ≤ k + 1 := List.drop_eq_nil_iff.1 h
    rw [List.getElem?_eq_none this]
    rfl
  | cons n l =>
    have : ts[k + 1]? = some n := by
      have e : (ts.drop (k + 1))[0]? = ts[k + 1]? := by rw [List.getElem?_drop]
      rw [← e, h]
      rfl
    rw [this]
    rfl
end Go.Proofs.YtpcbnpekdmobpaaGreatDoor
open Go Go.Ev Go.VL
namespace Go.Proofs.YtpcbnpekdmobpaaGreatDoor
attribute [local irreducible] fApp
variable {X : Ovr} {G : Gt} {PN : List Nat → List Nat → Prop} {PV PT : List Nat → Prop}
theorem putL_mem {t : List Nd} {k : Nat} {c n : Nd} (h : n ∈ putL t k c) : n ∈ t ∨ n = c := by
  unfold putL at h
  rcases List.mem_append.1 h with h | h
  · rcases List.mem_append.1 h with h | h
    · exact .inl (List.mem_of_mem_take h)
    · exact .inr (List.mem_singleton.1 h)
  · exact .inl (List.mem_of_mem_drop h)
set_option maxHeartbeats 4000000 in
theorem TreeNexts_ok (H : XTM X) (HK : XK X) (hP : X F_law16_put = none) (hT : X F_law16_told = some (kToldG 2)) (hG : ∃ m, G 2 = some [.int .i64 m]) (hX : X F_law16_TreeNexts = none) (Lb : LibT X G PN PV PT) (hM : ∀ n, MadeNd n → NdT PN PV PT n) (hC : ∀ d, NdT PN PV PT (comN d) ∧ NdT PN PV PT (texN d)) (hR : NdT PN PV PT rootZ) (ls : List Int) (w : Int) (vh : VH) (vn : Nat) :
    WpCall Tryz.prog X G F_law16_TreeNexts [.sl 1 (ls.map encI) none, .int .i64 w] vh vn fun v _ _ => v = .bool true := by
  have hokL : ∀ (t : List Nd) (c : Nd) (k : Nat), Made t → NdT PN PV PT c → ∀ n ∈ putL t k c, NdT PN PV PT n := fun t c k M hc n hn => by
    rcases putL_mem hn with h | rfl
    · exact hM n (M.nd n h).1
    · exact hc
  apply k_law16_TreeNexts.run hX
  conv => whnf
  refine (Make_ok HK ls vh vn).mono fun v vh1 n1 he => ?_
  obtain ⟨g1, f1, t, e3, M⟩ := he
  rw [e3]
  clear e3
  have hl : t.length ≤ 32 := M.len
  have hp : 0 < t.length := by
    have := M.may
    cases t with
    | nil => cases this
    | cons _ _ => simp
  conv => whnf
  rw [List.length_map]
  have hu : wr .u64 (Int.ofNat t.length) = (t.length : Int) := by
    rw [show (Int.ofNat t.length) = (t.length : Int) from rfl, wru64] <;> omega
  rw [hu]
  refine ⟨by omega, ?_⟩
  obtain ⟨k, hk1, hk⟩ : ∃ k : Nat, (wr .u64 w).tmod (t.length : Int) = (k : Int) ∧ k < t.length := by
    obtain ⟨q1, q2⟩ := u_rem (x := wr .u64 w) (m := (t.length : Int)) wru64_lt.1 (by omega)
    exact ⟨((wr .u64 w).tmod (t.length : Int)).toNat, by omega, by omega⟩
  have hwk : wr .i64 ((wr .u64 w).tmod (t.length : Int)) = (k : Int) := by rw [hk1, wr64] <;> omega
  have hat : (t.map encN)[k]? = some (encN t[k]) := by simp [hk]
  have hd := (M.nd _ (List.getElem_mem hk)).2
  have ew : wr .i64 (t[k].d + 1) = t[k].d + 1 := by rw [wr64] <;> omega
  conv => whnf
  rw [hwk]
  refine Get.mk (k, encN t[k]) ⟨rfl, hat⟩ ?_
  conv => whnf
  refine Get.mk (k, encN t[k]) ⟨rfl, hat⟩ ?_
  conv => whnf
  repeat' ((first | refine CondP.mk (fun _ => ?_) (fun _ => ?_) | refine Get.mk (k, encN t[k]) ⟨rfl, hat⟩ ?_ | fail) <;> (conv => whnf))
  all_goals first
    | (have hD : putD t[k] = wr .i64 (t[k].d + 1) := by
         rw [ew]
         clear hM hC hR Lb hat
         simp_all [putD]
         done
       rw [← hD])
    | (have hD : putD t[k] = t[k].d := by
         clear hM hC hR Lb hat
         simp_all [putD]
         done
       rw [← hD])
  all_goals
    refine (Put_ok hP t none (by omega) k hk (comN (putD t[k])) _ _).mono fun v vh2 n2 he => ?_
    obtain ⟨e2, F2⟩ := he
    rw [e2]
    clear e2
    conv => whnf
    refine (Put_ok hP t none (by omega) k hk (texN (putD t[k])) _ _).mono fun v vh3 n3 he => ?_
    obtain ⟨e3, F3⟩ := he
    rw [e3]
    clear e3
    conv => whnf
  all_goals
    refine SlIn.fresh (enc := encN) (lo := n3) (xs := t) rfl (Nat.le_refl _) ⟨by omega, by show _ < 9223372036854775808; omega⟩ fun v4 vh4 n4 A4 g4 f4 => ?_
    rcases A4 with ⟨_, h⟩ | ⟨b4, q1, q2, rfl, hb4⟩
    · exfalso
      rw [h] at hp
      cases hp
    conv => whnf
    refine app_list (enc := encN) encN_len (by decide) hb4 q2 [rootZ] rfl ⟨by show (t.length + 1) * 104 ≤ 140737488355328; omega, by show t.length + 1 < 9223372036854775808; omega⟩ fun b5 vh5 n5 q3 q4 g5 hb5 f5 => ?_
    conv => whnf
    refine Get.mk (_, _, _, _) hb5 ?_
    conv => whnf
    refine ⟨fz_owe encN_len (by decide), ?_⟩
    conv => whnf
    refine Get.mk _ (fz_pieces encN_len) ?_
    conv => whnf
  all_goals
    refine Get.mk (k, encN t[k]) ⟨rfl, hat⟩ ?_
    conv => whnf
  all_goals
    clear f1 g1 ew hat hwk hu hk1
    have hk1 : wr .i64 ((k : Int) + 1) = ((k + 1 : Nat) : Int) := by rw [wr64] <;> omega
    have okC := hokL t (comN (putD t[k])) k M (hC _).1
    have okX := hokL t (texN (putD t[k])) k M (hC _).2
    have okR : ∀ n ∈ t ++ [rootZ], NdT PN PV PT n := fun n hn => by
      rcases List.mem_append.1 hn with h | h
      · exact hM n (M.nd n h).1
      · rw [List.mem_singleton.1 h]; exact hR
    have lC : (putL t k (comN (putD t[k]))).length < 2 ^ 30 := by simp only [putL, List.length_append, List.length_take, List.length_drop, List.length_singleton]; omega
    have lX : (putL t k (texN (putD t[k]))).length < 2 ^ 30 := by simp only [putL, List.length_append, List.length_take, List.length_drop, List.length_singleton]; omega
    have lR : (t ++ [rootZ]).length < 2 ^ 30 := by rw [List.length_append]; show t.length + 1 < 2 ^ 30; omega
    have mC := (may_eq _).trans (nexts_com M hk)
    have mX := (may_eq _).trans ((nexts_tex M hk).trans (by rw [side_at]))
    have mR := (may_eq _).trans (nexts_root M)
    have mT := M.may
    have hts : t.length < 2 ^ 30 := by omega
    have hsm : ∀ n ∈ t, NdSmall n := fun n hn => (M.nd n hn).1.small
    cases hn : t[k + 1]? with
    | none =>
      have hlt : ¬ k + 1 < t.length := fun h => by rw [List.getElem?_eq_getElem h] at hn; cases hn
      rw [hn] at mX
      repeat' ((first | refine CondP.mk (fun _ => ?_) (fun _ => ?_) | (refine (told_wp hT hG _ _).mono (fun v vh' n' he => ?_); obtain ⟨e1, e2, e3⟩ := he; rw [e1, e2, e3]; clear e1 e2 e3) | (refine (TMay_ok H Lb _ none lC okC _ _).mono (fun v vh' n' he => ?_); rw [he.1, mC]; clear he) | (refine (TMay_ok H Lb _ none lR okR _ _).mono (fun v vh' n' he => ?_); rw [he.1, mR]; clear he) | (refine (TMay_ok H Lb _ none lX okX _ _).mono (fun v vh' n' he => ?_); rw [he.1, mX]; clear he) | (refine (May_ok HK.toXM t none hts hsm _ _).mono (fun v vh' n' he => ?_); obtain ⟨_, _, e3⟩ := he; rw [e3, mT]; clear e3) | fail) <;> (conv => whnf))
      all_goals first
        | (exfalso
           have hq : decide (wr .i64 ((k : Int) + 1) < Int.ofNat (List.map encN t).length) = true := by assumption
           rw [hk1, List.length_map] at hq
           have h2 : ((k + 1 : Nat) : Int) < (t.length : Int) := of_decide_eq_true hq
           omega)
        | (exfalso
           have hq : decide (wr .i64 ((k : Int) + 1) < Int.ofNat (List.map encN t).length) = false := by assumption
           rw [hk1, List.length_map] at hq
           have h2 : ¬ ((k + 1 : Nat) : Int) < (t.length : Int) := of_decide_eq_false hq
           omega)
        | (exfalso
           have hq : decide (1 < putD t[k]) = false := by assumption
           rename_i hz
           rw [hq] at hz
           simp at hz
           done)
        | (exfalso; clear hokL hM hC hR Lb H HK okC okX okR hsm mC mX mR hD; generalize putD t[k] = D at *; simp_all; done)
        | (refine Get.mk _ (fun _ _ h => h) ?_
           clear hokL hM hC hR Lb H HK okC okX okR hsm mC mX mR hD
           generalize putD t[k] = D at *
           simp_all
           done)
        | trace_state
    | some n =>
      have hlt : k + 1 < t.length := (List.getElem?_eq_some_iff.1 hn).1
      rw [hn] at mX
      have hat1 : wr .i64 ((k : Int) + 1) = ((k + 1 : Nat) : Int) ∧ (t.map encN)[k + 1]? = some (encN n) := ⟨hk1, by rw [List.getElem?_map, hn]; rfl⟩
      repeat' ((first | refine CondP.mk (fun _ => ?_) (fun _ => ?_) | refine Get.mk (k + 1, encN n) hat1 ?_ | (refine (told_wp hT hG _ _).mono (fun v vh' n' he => ?_); obtain ⟨e1, e2, e3⟩ := he; rw [e1, e2, e3]; clear e1 e2 e3) | (refine (TMay_ok H Lb _ none lC okC _ _).mono (fun v vh' n' he => ?_); rw [he.1, mC]; clear he) | (refine (TMay_ok H Lb _ none lR okR _ _).mono (fun v vh' n' he => ?_); rw [he.1, mR]; clear he) | (refine (TMay_ok H Lb _ none lX okX _ _).mono (fun v vh' n' he => ?_); rw [he.1, mX]; clear he) | (refine (May_ok HK.toXM t none hts hsm _ _).mono (fun v vh' n' he => ?_); obtain ⟨_, _, e3⟩ := he; rw [e3, mT]; clear e3) | fail) <;> (conv => whnf))
      all_goals first
        | (exfalso
           have hq : decide (wr .i64 ((k : Int) + 1) < Int.ofNat (List.map encN t).length) = true := by assumption
           rw [hk1, List.length_map] at hq
           have h2 : ((k + 1 : Nat) : Int) < (t.length : Int) := of_decide_eq_true hq
           omega)
        | (exfalso
           have hq : decide (wr .i64 ((k : Int) + 1) < Int.ofNat (List.map encN t).length) = false := by assumption
           rw [hk1, List.length_map] at hq
           have h2 : ¬ ((k + 1 : Nat) : Int) < (t.length : Int) := of_decide_eq_false hq
           omega)
        | (exfalso
           have hq : decide (1 < putD t[k]) = false := by assumption
           rename_i hz
           rw [hq] at hz
           simp at hz
           done)
        | (exfalso; clear hokL hM hC hR Lb H HK okC okX okR hsm mC mX mR hD; generalize putD t[k] = D at *; simp_all; done)
        | (refine Get.mk _ (fun _ _ h => h) ?_
           clear hokL hM hC hR Lb H HK okC okX okR hsm mC mX mR hD
           generalize putD t[k] = D at *
           simp_all
           done)
        | trace_state
end Go.Proofs.YtpcbnpekdmobpaaGreatDoor
