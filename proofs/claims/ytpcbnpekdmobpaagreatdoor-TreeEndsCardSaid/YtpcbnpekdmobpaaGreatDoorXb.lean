/- What functions of the program come to, for all inputs, and plain laws of trees; no condition. -/
import Derived.Test.YtpcbnpekdmobpaaGreatDoorXa
set_option linter.unusedSimpArgs false
set_option linter.unusedVariables false
set_option linter.unnecessarySimpa false
set_option linter.constructorNameAsVariable false
open Go Go.Ev Go.VL
namespace Go.Proofs.YtpcbnpekdmobpaaGreatDoor
attribute [local irreducible] fApp
variable {X : Ovr} {G : Gt}

structure XP (X : Ovr) : Prop extends XN X where
  char : X F_ref1_Char = none
  valid : X F_ref1_Valid = none
  space : X F_ref1_Space = none
  holds : X F_ref15_holds = none
  lower : X F_ref10_lower = none
  target : X F_ref10_Target = none
  plain : X F_ref15_plain = none
def plainBad (n : Nd) : Bool := (((!decide (n.p = []) || !decide (n.u = [])) || decide (0 < n.s.length)) || (!decide (n.k = 5) && !decide (n.l = []))) || !validP n.v
def plainP (n : Nd) : Bool :=
  if plainBad n = true then false
  else if n.k = 3 then !decide (n.v = [])
  else if n.k = 4 then (!holdsP n.v S_13_ && !holdsP n.v S_45__45_) && (decide (n.v = []) || !decide ((n.v.getLastD 0 : Int) = 45))
  else if n.k = 5 then ((targetP n.l && !holdsP n.v S_13_) && !holdsP n.v S_63__62_) && (decide (n.v = []) || !spaceP (wr .i32 (.ofNat (n.v.headD 0))))
  else false
theorem get_last {l : List Nat} (hl : l.length < 2 ^ 40) (hne : ¬ l = []) {k : Nat × Nat → Prop} (hk : k (l.length - 1, l.getLastD 0)) : Get (fun p : Nat × Nat => wr .i64 (Int.ofNat l.length - 1) = (p.1 : Int) ∧ l[p.1]? = some p.2) k := by
  have hp : 0 < l.length := by cases l with | nil => exact (hne rfl).elim | cons _ _ => simp
  refine .mk _ ⟨?_, ?_⟩ hk
  · simp only [Int.ofNat_eq_natCast]
    rw [wr64] <;> omega
  · show l[l.length - 1]? = some (l.getLastD 0)
    rw [List.getLastD_eq_getLast?, ← List.getLast?_eq_getElem?]
    cases h : l.getLast? with
    | none => exact (hne (List.getLast?_eq_none_iff.1 h)).elim
    | some x => rfl
theorem get_head {l : List Nat} (hne : ¬ l = []) {k : Nat × Nat → Prop} (hk : k (0, l.headD 0)) : Get (fun p : Nat × Nat => (0 : Int) = (p.1 : Int) ∧ l[p.1]? = some p.2) k := by
  refine .mk _ ⟨rfl, ?_⟩ hk
  cases l with
  | nil => exact (hne rfl).elim
  | cons _ _ => rfl
theorem plain_ok (H : XP X) (n : Nd) (hv : n.v.length < 2 ^ 40) (hl : n.l.length < 2 ^ 40) (hB : ∀ c ∈ n.l, c < 256) (vh : VH) (vn : Nat) :
    WpCall Tryz.prog X G F_ref15_plain [.agg (encN n)] vh vn fun v vh' vn' => vn ≤ vn' ∧ (∀ c, c < vn → vh' c = vh c) ∧ v = .bool (plainP n) := by
  apply k_ref15_plain.run H.plain
  repeat first | refine CondP.tt ?_ | refine CondP.ff ?_ | refine Owe.mk (by decide) ?_
  conv => whnf
  repeat ((first | refine CondP.tt ?_ | refine CondP.ff ?_ | refine Owe.mk (by decide) ?_); conv => whnf)
  repeat' ((first | refine CondP.tt ?_ | refine CondP.ff ?_ | refine CondP.mk (fun _ => ?_) (fun _ => ?_) | (refine (Valid_ok H.hin H.one H.char H.valid n.v hv _ _).mono (fun v vh' vn' he => ?_); obtain ⟨e1, e2, e3⟩ := he; subst e1; subst e2; subst e3) | (refine (holds_ok H.holds n.v _ hv (by decide) _ _).mono (fun v vh' vn' he => ?_); obtain ⟨f1, f2, f3⟩ := he; rw [f1, f2, f3]) | (refine (Target_ok H.toXN H.lower H.target n.l hl hB _ _).mono (fun v vh' vn' he => ?_); obtain ⟨e1, e2, e3⟩ := he; subst e3) | (refine get_last hv (of_decide_eq_false (by assumption)) ?_) | (refine get_head (of_decide_eq_false (by assumption)) ?_) | (refine (Space_ok H.space (wr .i32 (Int.ofNat (n.v.headD 0))) _ _).mono (fun v vh' vn' he => ?_); obtain ⟨f1, f2, f3⟩ := he; rw [f1, f2, f3])) <;> (conv => whnf))
  all_goals first
    | (refine Get.mk _ (fun _ _ h => h) ⟨Nat.le_refl _, fun _ _ => rfl, ?_⟩
       clear hB H
       simp_all [plainP, plainBad]
       done)
    | (refine Get.mk _ (fun _ _ h => h) ⟨by omega, by intro c hc; simp_all, ?_⟩
       clear hB H
       simp_all [plainP, plainBad]
       done)
    | trace_state
end Go.Proofs.YtpcbnpekdmobpaaGreatDoor

open Go Go.Ev Go.VL
namespace Go.Proofs.YtpcbnpekdmobpaaGreatDoor
attribute [local irreducible] fApp
variable {X : Ovr} {G : Gt}
def nsInit (a : Attr) : Attr := { a with u := if a.p = S_xmlns ∨ a.p = [] ∧ a.l = S_xmlns then XMLNSURI else [] }

def attrsOk : List Attr → List Attr → Bool
  | _, [] => true
  | pre, a :: l => (namedP a.p a.l && validP a.v) && !pre.any (fun b => sameName b a) && attrsOk (pre ++ [nsInit a]) l
def attrL (a : Attr) : List (List Nat) := [a.p, a.l, a.u, a.v]
theorem attrL_inj {xs ys : List Attr} : xs.map attrL = ys.map attrL ↔ xs = ys := by
  refine ⟨fun h => ?_, fun h => by rw [h]⟩
  induction xs generalizing ys with
  | nil => cases ys with | nil => rfl | cons _ _ => cases h
  | cons a xs ih => cases ys with
    | nil => cases h
    | cons b ys =>
      simp only [List.map_cons, List.cons.injEq] at h
      rw [ih h.2]
      obtain ⟨p, l, u, v⟩ := a
      obtain ⟨p', l', u', v'⟩ := b
      have := h.1
      simp only [attrL, List.cons.injEq, and_true] at this
      obtain ⟨rfl, rfl, rfl, rfl⟩ := this
      rfl
def elementP (lv : List (List Attr)) (n : Nd) : Bool × List (List Attr) :=
  if namedP n.p n.l = false ∨ n.v ≠ [] then (false, lv)
  else if attrsOk [] n.s = false then (false, lv)
  else match pushP [] (n.s.map nsInit) with
    | none => (false, lv)
    | some ms => ((namesP (lv ++ [ms]) { n with s := n.s.map nsInit }).2 && decide ((namesP (lv ++ [ms]) { n with s := n.s.map nsInit }).1.u = n.u) && decide ((namesP (lv ++ [ms]) { n with s := n.s.map nsInit }).1.s.map attrL = n.s.map attrL), lv ++ [ms])
end Go.Proofs.YtpcbnpekdmobpaaGreatDoor

open Go Go.Ev Go.VL
namespace Go.Proofs.YtpcbnpekdmobpaaGreatDoor
attribute [local irreducible] fApp
variable {X : Ovr} {G : Gt}
structure XE (X : Ovr) : Prop extends XP X where
  declares : X F_ref10_Declares = none
  uri : X F_ref10_Scope_URI = none
  push : X F_ref10_Scope_Push = none
  pop : X F_ref10_Scope_Pop = none
  names : X F_ref15_Names = none
  same : X F_ref10_SameAttrs = none
  qname : X F_ref15_qname = none
  named : X F_ref15_named = none
  element : X F_ref15_element = none
structure AtSmall (a : Attr) : Prop where
  p : a.p.length < 2 ^ 38
  l : a.l.length < 2 ^ 38
  v : a.v.length < 2 ^ 40
structure NdSmall (n : Nd) : Prop where
  p : n.p.length < 2 ^ 38
  l : n.l.length < 2 ^ 38
  v : n.v.length < 2 ^ 40
  b : ∀ c ∈ n.l, c < 256
  s : n.s.length < 2 ^ 30
  a : ∀ a ∈ n.s, AtSmall a
theorem El_L1 (bs bm ba : Nat) (n nm : Nd) (a : Attr) (ys : List Attr) (hN : ys.length < 2 ^ 30) (vh : VH) (vn : Nat) (ty ta : TypeId) (hn : vh bm = some (.cells (encNv nm (.msl ba 0 ys.length 4 none)) ty 0 false)) (ha : vh ba = some (.cells (ys.map encA).flatten ta 0 false)) (i : Nat) (hi : i < ys.length) (Q : FQ) : ∀ (m k : Nat), i - k = m → k ≤ i →
    (((ys.take i).drop k).any (fun b => sameName b a) = true → Q .ret [(4, .bool false)] vh vn) →
    (((ys.take i).drop k).any (fun b => sameName b a) = false → ∀ k' t, Q (.exit 2) [(0, .ptr bs 0), (3, .bx (encN n)), (5, .ptr bm 0), (6, .int .i64 (i : Int)), (7, .bx (encA a)), (8, .int .i64 k'), (52, .bool t)] vh vn) →
    FLoop Tryz.prog X G (.loop c_ref15_element_L1) [(0, .ptr bs 0), (3, .bx (encN n)), (5, .ptr bm 0), (6, .int .i64 (i : Int)), (7, .bx (encA a)), (8, .int .i64 (k : Int))] vh vn Q
  | m, k, hm, hk, hR, hQ => by
    refine FLoop.round ?_
    repeat first | refine CondP.tt ?_ | refine CondP.ff ?_ | refine Owe.mk (by decide) ?_
    conv => whnf
    repeat ((first | refine CondP.tt ?_ | refine CondP.ff ?_ | refine Owe.mk (by decide) ?_); conv => whnf)
    refine CondP.mk (fun h1 => ?_) (fun h1 => ?_)
    · have hlt : k < i := by simpa using h1
      have hkx : k < ys.length := by omega
      have hd : (ys.take i).drop k = ys[k] :: (ys.take i).drop (k + 1) := by
        rw [← List.getElem_cons_drop (by simp; omega : k < (ys.take i).length), List.getElem_take]
      rw [hd, List.any_cons] at hR hQ
      have e : wr .i64 ((k : Int) + 1) = ((k + 1 : Nat) : Int) := by rw [wr64] <;> omega
      repeat first | refine CondP.tt ?_ | refine CondP.ff ?_ | refine Owe.mk (by decide) ?_
      conv => whnf
      repeat ((first | refine CondP.tt ?_ | refine CondP.ff ?_ | refine Owe.mk (by decide) ?_); conv => whnf)
      refine Get.mk (_, _, _, _) hn ?_
      conv => whnf
      refine Get.mk _ rfl ?_
      conv => whnf
      repeat ((first | refine CondP.tt ?_ | refine CondP.ff ?_ | refine Owe.mk (by decide) ?_); conv => whnf)
      refine Get.mk _ ⟨rfl, hkx⟩ ?_
      conv => whnf
      repeat ((first | refine CondP.tt ?_ | refine CondP.ff ?_ | refine Owe.mk (by decide) ?_); conv => whnf)
      refine Get.mk (_, _, _, _) ha ?_
      conv => whnf
      refine Get.mk _ (encA_0 hkx) ?_
      conv => whnf
      repeat ((first | refine CondP.tt ?_ | refine CondP.ff ?_ | refine Owe.mk (by decide) ?_); conv => whnf)
      refine CondP.mk (fun h2 => ?_) (fun h2 => ?_)
      · simp at h2
        repeat first | refine CondP.tt ?_ | refine CondP.ff ?_ | refine Owe.mk (by decide) ?_
        conv => whnf
        repeat ((first | refine CondP.tt ?_ | refine CondP.ff ?_ | refine Owe.mk (by decide) ?_); conv => whnf)
        refine Get.mk (_, _, _, _) hn ?_
        conv => whnf
        refine Get.mk _ rfl ?_
        conv => whnf
        repeat ((first | refine CondP.tt ?_ | refine CondP.ff ?_ | refine Owe.mk (by decide) ?_); conv => whnf)
        refine Get.mk _ ⟨rfl, hkx⟩ ?_
        conv => whnf
        repeat ((first | refine CondP.tt ?_ | refine CondP.ff ?_ | refine Owe.mk (by decide) ?_); conv => whnf)
        refine Get.mk (_, _, _, _) ha ?_
        conv => whnf
        refine Get.mk _ (encA_1 hkx) ?_
        conv => whnf
        repeat ((first | refine CondP.tt ?_ | refine CondP.ff ?_ | refine Owe.mk (by decide) ?_); conv => whnf)
        refine CondP.mk (fun h3 => ?_) (fun h3 => ?_)
        · simp at h3
          have hs : sameName ys[k] a = true := by simp [sameName, h2, h3]
          repeat first | refine CondP.tt ?_ | refine CondP.ff ?_ | refine Owe.mk (by decide) ?_
          conv => whnf
          repeat ((first | refine CondP.tt ?_ | refine CondP.ff ?_ | refine Owe.mk (by decide) ?_); conv => whnf)
          exact hR (by rw [hs]; rfl)
        · simp at h3
          have hs : sameName ys[k] a = false := by simp [sameName, h3]
          rw [hs, Bool.false_or] at hR hQ
          repeat first | refine CondP.tt ?_ | refine CondP.ff ?_ | refine Owe.mk (by decide) ?_
          conv => whnf
          repeat ((first | refine CondP.tt ?_ | refine CondP.ff ?_ | refine Owe.mk (by decide) ?_); conv => whnf)
          rw [e]
          exact El_L1 bs bm ba n nm a ys hN vh vn ty ta hn ha i hi Q (m - 1) (k + 1) (by omega) (by omega) hR hQ
      · simp at h2
        have hs : sameName ys[k] a = false := by simp [sameName, h2]
        rw [hs, Bool.false_or] at hR hQ
        repeat first | refine CondP.tt ?_ | refine CondP.ff ?_ | refine Owe.mk (by decide) ?_
        conv => whnf
        repeat ((first | refine CondP.tt ?_ | refine CondP.ff ?_ | refine Owe.mk (by decide) ?_); conv => whnf)
        rw [e]
        exact El_L1 bs bm ba n nm a ys hN vh vn ty ta hn ha i hi Q (m - 1) (k + 1) (by omega) (by omega) hR hQ
    · have hlt : k = i := by simp at h1; omega
      have e1 : (ys.take i).drop k = [] := List.drop_eq_nil_of_le (by simp; omega)
      rw [e1] at hQ
      repeat first | refine CondP.tt ?_ | refine CondP.ff ?_ | refine Owe.mk (by decide) ?_
      conv => whnf
      repeat ((first | refine CondP.tt ?_ | refine CondP.ff ?_ | refine Owe.mk (by decide) ?_); conv => whnf)
      exact hQ rfl _ _
termination_by m => m
decreasing_by all_goals omega
theorem small_set {ys : List Attr} (h : ∀ a ∈ ys, AtSmall a) {i : Nat} (hi : i < ys.length) (w : List Nat) : ∀ a ∈ ys.set i { ys[i] with u := w }, AtSmall a := by
  intro a ha
  rcases List.mem_or_eq_of_mem_set ha with h1 | rfl
  · exact h a h1
  · obtain ⟨h1, h2, h3⟩ := h _ (List.getElem_mem hi)
    exact ⟨h1, h2, h3⟩
theorem El_L0 (H : XE X) (bs bm ba : Nat) (n nm : Nd) (N : Nat) (hN : N < 2 ^ 30) (vn : Nat) (d3 : ba ≠ bm) (ty ta : TypeId) (Q : FQ) : ∀ (m i : Nat), N - i = m → i ≤ N → ∀ (vh : VH) (ys : List Attr), ys.length = N → (∀ a ∈ ys, AtSmall a) → vh bm = some (.cells (encNv nm (.msl ba 0 N 4 none)) ty 0 false) → vh ba = some (.cells (ys.map encA).flatten ta 0 false) →
    (attrsOk (ys.take i) (ys.drop i) = false → ∀ vh', (∀ c, c ≠ ba → vh' c = vh c) → Q .ret [(4, .bool false)] vh' vn) →
    (attrsOk (ys.take i) (ys.drop i) = true → ∀ vh' i' t, vh' ba = some (.cells ((ys.take i ++ (ys.drop i).map nsInit).map encA).flatten ta 0 false) → (∀ c, c ≠ ba → vh' c = vh c) → Q (.exit 0) [(0, .ptr bs 0), (3, .bx (encN n)), (5, .ptr bm 0), (6, .int .i64 i'), (30, .bool t)] vh' vn) →
    FLoop Tryz.prog X G (.loop c_ref15_element_L0) [(0, .ptr bs 0), (3, .bx (encN n)), (5, .ptr bm 0), (6, .int .i64 (i : Int))] vh vn Q
  | m, i, hm, hi, vh, ys, hys, hsm, hn, ha, hR, hQ => by
    refine FLoop.round ?_
    repeat first | refine CondP.tt ?_ | refine CondP.ff ?_ | refine Owe.mk (by decide) ?_
    conv => whnf
    repeat ((first | refine CondP.tt ?_ | refine CondP.ff ?_ | refine Owe.mk (by decide) ?_); conv => whnf)
    refine Get.mk (_, _, _, _) hn ?_
    conv => whnf
    refine Get.mk _ rfl ?_
    conv => whnf
    repeat ((first | refine CondP.tt ?_ | refine CondP.ff ?_ | refine Owe.mk (by decide) ?_); conv => whnf)
    refine CondP.mk (fun h1 => ?_) (fun h1 => ?_)
    · have hlt : i < ys.length := by have : i < N := by simpa using h1
                                     omega
      have hiN : i < N := by omega
      have hd : ys.drop i = ys[i] :: ys.drop (i + 1) := (List.getElem_cons_drop hlt).symm
      rw [hd] at hR hQ
      simp only [attrsOk, List.map_cons] at hR hQ
      have e : wr .i64 ((i : Int) + 1) = ((i + 1 : Nat) : Int) := by rw [wr64] <;> omega
      have hw : ∀ zs : List Attr, zs.length = N → 0 + i * 4 + 2 + 1 ≤ (zs.map encA).flatten.length := fun zs hz => by have := flat_lt encA_len zs i (by omega); omega
      have sm := hsm ys[i] (List.getElem_mem hlt)
      have nxt : ∀ (w : List Nat) (vh2 : VH), nsInit ys[i] = { ys[i] with u := w } → namedP ys[i].p ys[i].l = true → validP ys[i].v = true → (ys.take i).any (fun b => sameName b ys[i]) = false → vh2 ba = some (.cells ((ys.set i { ys[i] with u := w }).map encA).flatten ta 0 false) → (∀ c, c ≠ ba → vh2 c = vh c) →
          FLoop Tryz.prog X G (.loop c_ref15_element_L0) [(0, .ptr bs 0), (3, .bx (encN n)), (5, .ptr bm 0), (6, .int .i64 ((i + 1 : Nat) : Int))] vh2 vn Q := fun w vh2 ew q1 q2 q3 a2 f2 => by
        rw [q1, q2, q3, ew] at hR hQ
        simp only [Bool.and_self, Bool.not_false, Bool.true_and] at hR hQ
        have hp : (ys.set i { ys[i] with u := w }).take (i + 1) = ys.take i ++ [{ ys[i] with u := w }] := by
          have := take_set ys i hlt { ys[i] with u := w } []
          simpa using this
        refine El_L0 H bs bm ba n nm N hN vn d3 ty ta Q (m - 1) (i + 1) (by omega) (by omega) vh2 _ (by rw [List.length_set]; exact hys) (small_set hsm hlt w) ((f2 bm (Ne.symm d3)).trans hn) a2 ?_ ?_
        · rw [hp, drop_set]
          exact fun h vh' h1 => hR h vh' fun c hc => (h1 c hc).trans (f2 c hc)
        · rw [hp, drop_set]
          refine fun h vh' i' t h1 h2 => hQ h vh' i' t ?_ fun c hc => (h2 c hc).trans (f2 c hc)
          rw [List.append_assoc] at h1
          exact h1
      repeat first | refine CondP.tt ?_ | refine CondP.ff ?_ | refine Owe.mk (by decide) ?_
      conv => whnf
      repeat ((first | refine CondP.tt ?_ | refine CondP.ff ?_ | refine Owe.mk (by decide) ?_); conv => whnf)
      refine Get.mk (_, _, _, _) hn ?_
      conv => whnf
      refine Get.mk _ rfl ?_
      conv => whnf
      repeat ((first | refine CondP.tt ?_ | refine CondP.ff ?_ | refine Owe.mk (by decide) ?_); conv => whnf)
      refine Get.mk i ⟨rfl, hiN⟩ ?_
      repeat first | refine CondP.tt ?_ | refine CondP.ff ?_ | refine Owe.mk (by decide) ?_
      conv => whnf
      repeat ((first | refine CondP.tt ?_ | refine CondP.ff ?_ | refine Owe.mk (by decide) ?_); conv => whnf)
      refine Get.mk (_, _, _, _) ha ?_
      conv => whnf
      repeat ((first | refine CondP.tt ?_ | refine CondP.ff ?_ | refine Owe.mk (by decide) ?_); conv => whnf)
      refine Get.mk _ (encA_all hlt) ?_
      repeat first | refine CondP.tt ?_ | refine CondP.ff ?_ | refine Owe.mk (by decide) ?_
      conv => whnf
      repeat ((first | refine CondP.tt ?_ | refine CondP.ff ?_ | refine Owe.mk (by decide) ?_); conv => whnf)
      refine (named_ok H.toXN H.qname H.named ys[i].p ys[i].l sm.p sm.l vh vn).mono fun v vh' vn' he => ?_
      obtain ⟨e1, e2, e3⟩ := he
      rw [e1, e2, e3]
      clear e1 e2 e3
      repeat first | refine CondP.tt ?_ | refine CondP.ff ?_ | refine Owe.mk (by decide) ?_
      conv => whnf
      repeat ((first | refine CondP.tt ?_ | refine CondP.ff ?_ | refine Owe.mk (by decide) ?_); conv => whnf)
      refine CondP.mk (fun h2 => ?_) (fun h2 => ?_)
      · have h2' : namedP ys[i].p ys[i].l = false := by simpa using h2
        repeat first | refine CondP.tt ?_ | refine CondP.ff ?_ | refine Owe.mk (by decide) ?_
        conv => whnf
        repeat ((first | refine CondP.tt ?_ | refine CondP.ff ?_ | refine Owe.mk (by decide) ?_); conv => whnf)
        exact hR (by rw [h2']; rfl) vh fun _ _ => rfl
      · have h2' : namedP ys[i].p ys[i].l = true := by simpa using h2
        repeat first | refine CondP.tt ?_ | refine CondP.ff ?_ | refine Owe.mk (by decide) ?_
        conv => whnf
        repeat ((first | refine CondP.tt ?_ | refine CondP.ff ?_ | refine Owe.mk (by decide) ?_); conv => whnf)
        refine (Valid_ok H.hin H.one H.char H.valid ys[i].v sm.v vh vn).mono fun v vh' vn' he => ?_
        obtain ⟨e1, e2, e3⟩ := he
        rw [e1, e2, e3]
        clear e1 e2 e3
        repeat first | refine CondP.tt ?_ | refine CondP.ff ?_ | refine Owe.mk (by decide) ?_
        conv => whnf
        repeat ((first | refine CondP.tt ?_ | refine CondP.ff ?_ | refine Owe.mk (by decide) ?_); conv => whnf)
        refine CondP.mk (fun h3 => ?_) (fun h3 => ?_)
        · have h3' : validP ys[i].v = false := by simpa using h3
          repeat first | refine CondP.tt ?_ | refine CondP.ff ?_ | refine Owe.mk (by decide) ?_
          conv => whnf
          repeat ((first | refine CondP.tt ?_ | refine CondP.ff ?_ | refine Owe.mk (by decide) ?_); conv => whnf)
          exact hR (by rw [h3', h2']; rfl) vh fun _ _ => rfl
        · have h3' : validP ys[i].v = true := by simpa using h3
          repeat first | refine CondP.tt ?_ | refine CondP.ff ?_ | refine Owe.mk (by decide) ?_
          conv => whnf
          repeat ((first | refine CondP.tt ?_ | refine CondP.ff ?_ | refine Owe.mk (by decide) ?_); conv => whnf)
          refine El_L1 bs bm ba n nm ys[i] ys (by omega) vh vn ty ta (by rw [hys]; exact hn) ha i hlt _ i 0 (by omega) (Nat.zero_le _) (fun h4 => ?_) (fun h4 k' t => ?_)
          · rw [List.drop_zero] at h4
            exact hR (by rw [h4, h3', h2']; rfl) vh fun _ _ => rfl
          · rw [List.drop_zero] at h4
            repeat first | refine CondP.tt ?_ | refine CondP.ff ?_ | refine Owe.mk (by decide) ?_
            conv => whnf
            repeat ((first | refine CondP.tt ?_ | refine CondP.ff ?_ | refine Owe.mk (by decide) ?_); conv => whnf)
            refine Get.mk (_, _, _, _) hn ?_
            conv => whnf
            refine Get.mk _ rfl ?_
            conv => whnf
            repeat ((first | refine CondP.tt ?_ | refine CondP.ff ?_ | refine Owe.mk (by decide) ?_); conv => whnf)
            refine Get.mk i ⟨rfl, hiN⟩ ?_
            repeat first | refine CondP.tt ?_ | refine CondP.ff ?_ | refine Owe.mk (by decide) ?_
            conv => whnf
            repeat ((first | refine CondP.tt ?_ | refine CondP.ff ?_ | refine Owe.mk (by decide) ?_); conv => whnf)
            refine Get.mk (_, _, _, _) ha ?_
            conv => whnf
            repeat ((first | refine CondP.tt ?_ | refine CondP.ff ?_ | refine Owe.mk (by decide) ?_); conv => whnf)
            refine ⟨⟨hw _ hys, Nat.zero_le _⟩, ?_⟩
            have ha1 : vset vh ba (.cells (setSeg (ys.map encA).flatten (0 + i * 4 + 2) [.str []]) ta 0 false) ba = some (.cells ((ys.set i { ys[i] with u := [] }).map encA).flatten ta 0 false) := by rw [vset_same, flat_set _ _ hlt]
            have hf1 : ∀ c, c ≠ ba → vset vh ba (.cells (setSeg (ys.map encA).flatten (0 + i * 4 + 2) [.str []]) ta 0 false) c = vh c := fun c hc => vset_ne hc
            repeat first | refine CondP.tt ?_ | refine CondP.ff ?_ | refine Owe.mk (by decide) ?_
            conv => whnf
            repeat ((first | refine CondP.tt ?_ | refine CondP.ff ?_ | refine Owe.mk (by decide) ?_); conv => whnf)
            generalize vset vh ba _ = vh1 at ha1 hf1
            have hn1 := (hf1 bm (Ne.symm d3)).trans hn
            have hlt1 : i < (ys.set i { ys[i] with u := [] }).length := by rw [List.length_set]; exact hlt
            have hg1 : (ys.set i { ys[i] with u := [] })[i] = { ys[i] with u := [] } := by simp
            have hw1 : 0 + i * 4 + 2 + 1 ≤ ((ys.set i { ys[i] with u := [] }).map encA).flatten.length := hw _ (by rw [List.length_set]; exact hys)
            have ha2 : vset vh1 ba (.cells (setSeg ((ys.set i { ys[i] with u := [] }).map encA).flatten (0 + i * 4 + 2) [.str XMLNSURI]) ta 0 false) ba = some (.cells ((ys.set i { ys[i] with u := XMLNSURI }).map encA).flatten ta 0 false) := by
              rw [vset_same, flat_set _ _ hlt1, hg1, List.set_set]
            have hf2 : ∀ c, c ≠ ba → vset vh1 ba (.cells (setSeg ((ys.set i { ys[i] with u := [] }).map encA).flatten (0 + i * 4 + 2) [.str XMLNSURI]) ta 0 false) c = vh c := fun c hc => (vset_ne hc).trans (hf1 c hc)
            refine CondP.mk (fun h5 => ?_) (fun h5 => ?_)
            · have h5' : ys[i].p = S_xmlns := by simpa using h5
              repeat first | refine CondP.tt ?_ | refine CondP.ff ?_ | refine Owe.mk (by decide) ?_
              conv => whnf
              repeat ((first | refine CondP.tt ?_ | refine CondP.ff ?_ | refine Owe.mk (by decide) ?_); conv => whnf)
              refine Get.mk (_, _, _, _) hn1 ?_
              conv => whnf
              refine Get.mk _ rfl ?_
              conv => whnf
              repeat ((first | refine CondP.tt ?_ | refine CondP.ff ?_ | refine Owe.mk (by decide) ?_); conv => whnf)
              refine Get.mk i ⟨rfl, hiN⟩ ?_
              repeat first | refine CondP.tt ?_ | refine CondP.ff ?_ | refine Owe.mk (by decide) ?_
              conv => whnf
              repeat ((first | refine CondP.tt ?_ | refine CondP.ff ?_ | refine Owe.mk (by decide) ?_); conv => whnf)
              refine Get.mk (_, _, _, _) ha1 ?_
              conv => whnf
              repeat ((first | refine CondP.tt ?_ | refine CondP.ff ?_ | refine Owe.mk (by decide) ?_); conv => whnf)
              refine ⟨⟨hw1, Nat.zero_le _⟩, ?_⟩
              repeat first | refine CondP.tt ?_ | refine CondP.ff ?_ | refine Owe.mk (by decide) ?_
              conv => whnf
              repeat ((first | refine CondP.tt ?_ | refine CondP.ff ?_ | refine Owe.mk (by decide) ?_); conv => whnf)
              rw [e]
              exact nxt XMLNSURI _ (by simp [nsInit, h5']) h2' h3' h4 ha2 hf2
            · have h5' : ¬ ys[i].p = S_xmlns := by simpa using h5
              repeat first | refine CondP.tt ?_ | refine CondP.ff ?_ | refine Owe.mk (by decide) ?_
              conv => whnf
              repeat ((first | refine CondP.tt ?_ | refine CondP.ff ?_ | refine Owe.mk (by decide) ?_); conv => whnf)
              refine CondP.mk (fun h6 => ?_) (fun h6 => ?_)
              · have h6' : ys[i].p = [] := by simpa using h6
                repeat first | refine CondP.tt ?_ | refine CondP.ff ?_ | refine Owe.mk (by decide) ?_
                conv => whnf
                repeat ((first | refine CondP.tt ?_ | refine CondP.ff ?_ | refine Owe.mk (by decide) ?_); conv => whnf)
                refine CondP.mk (fun h7 => ?_) (fun h7 => ?_)
                · have h7' : ys[i].l = S_xmlns := by simpa using h7
                  repeat first | refine CondP.tt ?_ | refine CondP.ff ?_ | refine Owe.mk (by decide) ?_
                  conv => whnf
                  repeat ((first | refine CondP.tt ?_ | refine CondP.ff ?_ | refine Owe.mk (by decide) ?_); conv => whnf)
                  refine Get.mk (_, _, _, _) hn1 ?_
                  conv => whnf
                  refine Get.mk _ rfl ?_
                  conv => whnf
                  repeat ((first | refine CondP.tt ?_ | refine CondP.ff ?_ | refine Owe.mk (by decide) ?_); conv => whnf)
                  refine Get.mk i ⟨rfl, hiN⟩ ?_
                  repeat first | refine CondP.tt ?_ | refine CondP.ff ?_ | refine Owe.mk (by decide) ?_
                  conv => whnf
                  repeat ((first | refine CondP.tt ?_ | refine CondP.ff ?_ | refine Owe.mk (by decide) ?_); conv => whnf)
                  refine Get.mk (_, _, _, _) ha1 ?_
                  conv => whnf
                  repeat ((first | refine CondP.tt ?_ | refine CondP.ff ?_ | refine Owe.mk (by decide) ?_); conv => whnf)
                  refine ⟨⟨hw1, Nat.zero_le _⟩, ?_⟩
                  repeat first | refine CondP.tt ?_ | refine CondP.ff ?_ | refine Owe.mk (by decide) ?_
                  conv => whnf
                  repeat ((first | refine CondP.tt ?_ | refine CondP.ff ?_ | refine Owe.mk (by decide) ?_); conv => whnf)
                  rw [e]
                  exact nxt XMLNSURI _ (by simp [nsInit, h6', h7']) h2' h3' h4 ha2 hf2
                · have h7' : ¬ ys[i].l = S_xmlns := by simpa using h7
                  repeat first | refine CondP.tt ?_ | refine CondP.ff ?_ | refine Owe.mk (by decide) ?_
                  conv => whnf
                  repeat ((first | refine CondP.tt ?_ | refine CondP.ff ?_ | refine Owe.mk (by decide) ?_); conv => whnf)
                  rw [e]
                  exact nxt [] _ (by simp [nsInit, h5', h7']) h2' h3' h4 ha1 hf1
              · have h6' : ¬ ys[i].p = [] := by simpa using h6
                repeat first | refine CondP.tt ?_ | refine CondP.ff ?_ | refine Owe.mk (by decide) ?_
                conv => whnf
                repeat ((first | refine CondP.tt ?_ | refine CondP.ff ?_ | refine Owe.mk (by decide) ?_); conv => whnf)
                rw [e]
                exact nxt [] _ (by simp [nsInit, h5', h6']) h2' h3' h4 ha1 hf1
    · have hlt : i = N := by simp at h1; omega
      have e1 : ys.drop i = [] := by rw [hlt, ← hys, List.drop_length]
      have e2 : ys.take i = ys := by rw [hlt, ← hys, List.take_length]
      rw [e1, e2] at hQ
      repeat first | refine CondP.tt ?_ | refine CondP.ff ?_ | refine Owe.mk (by decide) ?_
      conv => whnf
      repeat ((first | refine CondP.tt ?_ | refine CondP.ff ?_ | refine Owe.mk (by decide) ?_); conv => whnf)
      exact hQ rfl vh _ _ (by simpa using ha) fun _ _ => rfl
termination_by m => m
decreasing_by all_goals omega
end Go.Proofs.YtpcbnpekdmobpaaGreatDoor

open Go Go.Ev Go.VL
namespace Go.Proofs.YtpcbnpekdmobpaaGreatDoor
attribute [local irreducible] fApp
variable {X : Ovr} {G : Gt}
theorem El_loop (H : XE X) (bs bm : Nat) (n nm : Nd) (v : V) (xs : List Attr) (hN : xs.length < 2 ^ 30) (hsm : ∀ a ∈ xs, AtSmall a) (vh : VH) (vn : Nat) (ty : TypeId) (hn : vh bm = some (.cells (encNv nm v) ty 0 false)) (hv : SlR encA 4 vh v xs) (d : ¬ blkOf v bm) (Q : FQ)
    (hR : attrsOk [] xs = false → ∀ vh', (∀ c, ¬ blkOf v c → vh' c = vh c) → Q .ret [(4, .bool false)] vh' vn)
    (hQ : attrsOk [] xs = true → ∀ vh' i' t, SlR encA 4 vh' v (xs.map nsInit) → (∀ c, ¬ blkOf v c → vh' c = vh c) → Q (.exit 0) [(0, .ptr bs 0), (3, .bx (encN n)), (5, .ptr bm 0), (6, .int .i64 i'), (30, .bool t)] vh' vn) :
    FLoop Tryz.prog X G (.loop c_ref15_element_L0) [(0, .ptr bs 0), (3, .bx (encN n)), (5, .ptr bm 0), (6, .int .i64 0)] vh vn Q := by
  rcases id hv with ⟨rfl, rfl⟩ | ⟨rfl, rfl⟩ | ⟨ba, ta, rfl, h4⟩
  · refine FLoop.round ?_
    repeat first | refine CondP.tt ?_ | refine CondP.ff ?_ | refine Owe.mk (by decide) ?_
    conv => whnf
    repeat ((first | refine CondP.tt ?_ | refine CondP.ff ?_ | refine Owe.mk (by decide) ?_); conv => whnf)
    refine Get.mk (_, _, _, _) hn ?_
    conv => whnf
    refine Get.mk _ rfl ?_
    conv => whnf
    repeat ((first | refine CondP.tt ?_ | refine CondP.ff ?_ | refine Owe.mk (by decide) ?_); conv => whnf)
    exact hQ rfl vh _ _ (.inl ⟨rfl, rfl⟩) fun _ _ => rfl
  · refine FLoop.round ?_
    repeat first | refine CondP.tt ?_ | refine CondP.ff ?_ | refine Owe.mk (by decide) ?_
    conv => whnf
    repeat ((first | refine CondP.tt ?_ | refine CondP.ff ?_ | refine Owe.mk (by decide) ?_); conv => whnf)
    refine Get.mk (_, _, _, _) hn ?_
    conv => whnf
    refine Get.mk _ rfl ?_
    conv => whnf
    repeat ((first | refine CondP.tt ?_ | refine CondP.ff ?_ | refine Owe.mk (by decide) ?_); conv => whnf)
    exact hQ rfl vh _ _ (.inr (.inl ⟨rfl, rfl⟩)) fun _ _ => rfl
  · have dn : ba ≠ bm := fun h => d h.symm
    refine El_L0 H bs bm ba n nm xs.length hN vn dn ty ta Q xs.length 0 rfl (Nat.zero_le _) vh xs rfl hsm hn h4 (fun h vh' f => ?_) (fun h vh' i' t a f => ?_)
    · rw [List.drop_zero, List.take_zero] at h
      exact hR h vh' fun c hc => f c hc
    · rw [List.drop_zero, List.take_zero] at h
      rw [List.drop_zero, List.take_zero, List.nil_append] at a
      exact hQ h vh' i' t (.inr (.inr ⟨ba, ta, by rw [List.length_map], a⟩)) fun c hc => f c hc
theorem pushP_len : ∀ (xs m ms : List Attr), pushP m xs = some ms → ms.length ≤ m.length + xs.length
  | [], m, ms, h => by
    simp only [pushP, Option.some.injEq] at h
    subst h
    simp
  | a :: l, m, ms, h => by
    simp only [pushP] at h
    split at h
    · split at h
      · cases h
      · split at h
        · cases h
        · have := pushP_len l _ _ h
          simp only [List.length_append, List.length_cons, List.length_nil] at this ⊢
          omega
    · have := pushP_len l _ _ h
      simp only [List.length_cons]
      omega
theorem elementP_1 {lv : List (List Attr)} {n : Nd} (h : namedP n.p n.l = false ∨ n.v ≠ []) : elementP lv n = (false, lv) := by
  simp only [elementP, if_pos h]
theorem elementP_2 {lv : List (List Attr)} {n : Nd} (h : ¬ (namedP n.p n.l = false ∨ n.v ≠ [])) (h2 : attrsOk [] n.s = false) : elementP lv n = (false, lv) := by
  simp only [elementP, if_neg h, if_pos h2]
theorem elementP_3 {lv : List (List Attr)} {n : Nd} (h : ¬ (namedP n.p n.l = false ∨ n.v ≠ [])) (h2 : attrsOk [] n.s = true) (h3 : pushP [] (n.s.map nsInit) = none) : elementP lv n = (false, lv) := by
  simp only [elementP, if_neg h, h2, Bool.true_eq_false, if_false, h3]
theorem elementP_4 {lv : List (List Attr)} {n : Nd} (h : ¬ (namedP n.p n.l = false ∨ n.v ≠ [])) (h2 : attrsOk [] n.s = true) {ms : List Attr} (h3 : pushP [] (n.s.map nsInit) = some ms) : elementP lv n = ((namesP (lv ++ [ms]) { n with s := n.s.map nsInit }).2 && decide ((namesP (lv ++ [ms]) { n with s := n.s.map nsInit }).1.u = n.u) && decide ((namesP (lv ++ [ms]) { n with s := n.s.map nsInit }).1.s.map attrL = n.s.map attrL), lv ++ [ms]) := by
  simp only [elementP, if_neg h, h2, Bool.true_eq_false, if_false, h3]
theorem namesP_len (lv : List (List Attr)) (n : Nd) : (namesP lv n).1.s.length = n.s.length := by
  unfold namesP
  split
  · rfl
  · exact nsL_len _ _
theorem Sc_at {vh vh' : VH} {b : Nat} {lv : List (List Attr)} (h : Sc vh b lv) (e : vh' b = vh b) : Sc vh' b lv := by
  obtain ⟨ty, h⟩ := h
  exact ⟨ty, e.trans h⟩
theorem _root_.Go.VL.SlR.at {α : Type} {enc : α → List V} {es : Nat} {vh vh' : VH} {v : V} {xs : List α} (A : SlR enc es vh v xs) (h : ∀ c, blkOf v c → vh' c = vh c) : SlR enc es vh' v xs := by
  rcases A with h1 | h1 | ⟨b, ty, rfl, h4⟩
  · exact .inl h1
  · exact .inr (.inl h1)
  · exact .inr (.inr ⟨b, ty, rfl, (h b rfl).trans h4⟩)
set_option maxHeartbeats 4000000 in
theorem element_ok (H : XE X) (bs : Nat) (lv : List (List Attr)) (n : Nd) (sm : NdSmall n) (vh : VH) (vn : Nat) (hs : Sc vh bs lv) (hbs : bs < vn) (hlv : lv.length < 2 ^ 29) (hb : ∀ l ∈ lv, l.length < 2 ^ 40) :
    WpCall Tryz.prog X G F_ref15_element [.ptr bs 0, .agg (encN n)] vh vn fun r vh' vn' => vn ≤ vn' ∧ (∀ c, c < vn → c ≠ bs → vh' c = vh c) ∧ r = .bool (elementP lv n).1 ∧ Sc vh' bs (elementP lv n).2 := by
  apply k_ref15_element.run H.element
  repeat first | refine CondP.tt ?_ | refine CondP.ff ?_ | refine Owe.mk (by decide) ?_
  conv => whnf
  repeat ((first | refine CondP.tt ?_ | refine CondP.ff ?_ | refine Owe.mk (by decide) ?_); conv => whnf)
  refine (named_ok H.toXN H.qname H.named n.p n.l sm.p sm.l vh vn).mono fun v vh' vn' he => ?_
  obtain ⟨e1, e2, e3⟩ := he
  rw [e1, e2, e3]
  clear e1 e2 e3
  repeat first | refine CondP.tt ?_ | refine CondP.ff ?_ | refine Owe.mk (by decide) ?_
  conv => whnf
  repeat ((first | refine CondP.tt ?_ | refine CondP.ff ?_ | refine Owe.mk (by decide) ?_); conv => whnf)
  refine CondP.mk (fun h1 => ?_) (fun h1 => ?_)
  · have h1' : namedP n.p n.l = false := by simpa using h1
    repeat first | refine CondP.tt ?_ | refine CondP.ff ?_ | refine Owe.mk (by decide) ?_
    conv => whnf
    repeat ((first | refine CondP.tt ?_ | refine CondP.ff ?_ | refine Owe.mk (by decide) ?_); conv => whnf)
    refine Get.mk vh (fun _ _ h => h) ⟨Nat.le_refl _, fun _ _ _ => rfl, ?_⟩
    rw [elementP_1 (.inl h1')]
    exact ⟨rfl, hs⟩
  · have h1' : namedP n.p n.l = true := by simpa using h1
    repeat first | refine CondP.tt ?_ | refine CondP.ff ?_ | refine Owe.mk (by decide) ?_
    conv => whnf
    repeat ((first | refine CondP.tt ?_ | refine CondP.ff ?_ | refine Owe.mk (by decide) ?_); conv => whnf)
    refine CondP.mk (fun h2 => ?_) (fun h2 => ?_)
    · have h2' : n.v ≠ [] := by simpa using h2
      repeat first | refine CondP.tt ?_ | refine CondP.ff ?_ | refine Owe.mk (by decide) ?_
      conv => whnf
      repeat ((first | refine CondP.tt ?_ | refine CondP.ff ?_ | refine Owe.mk (by decide) ?_); conv => whnf)
      refine Get.mk vh (fun _ _ h => h) ⟨Nat.le_refl _, fun _ _ _ => rfl, ?_⟩
      rw [elementP_1 (.inr h2')]
      exact ⟨rfl, hs⟩
    · have h2' : ¬ (namedP n.p n.l = false ∨ n.v ≠ []) := by rw [h1']; simpa using h2
      repeat first | refine CondP.tt ?_ | refine CondP.ff ?_ | refine Owe.mk (by decide) ?_
      conv => whnf
      repeat ((first | refine CondP.tt ?_ | refine CondP.ff ?_ | refine Owe.mk (by decide) ?_); conv => whnf)
      refine Get.mk (_, _, _, _) vset_same ?_
      repeat first | refine CondP.tt ?_ | refine CondP.ff ?_ | refine Owe.mk (by decide) ?_
      conv => whnf
      repeat ((first | refine CondP.tt ?_ | refine CondP.ff ?_ | refine Owe.mk (by decide) ?_); conv => whnf)
      refine SlIn.fresh (enc := encA) (xs := n.s) (lo := vn + 1) rfl (Nat.le_refl _) ⟨?_, ?_⟩ fun v1 vh1 n1 A1 g1 f1 => ?_
      · have := sm.s; omega
      · have := sm.s; show _ < 9223372036854775808; omega
      have hm1 : vh1 vn = some (.cells (encNv n (.sl 4 (n.s.map encA) none)) T_api_Node 0 false) := (f1 vn (by omega)).trans vset_same
      have hf1 : ∀ c, c < vn → vh1 c = vh c := fun c hc => (f1 c (by omega)).trans ((vset_ne (by omega)).trans (vset_ne (by omega)))
      clear f1
      have hv1 : ∀ c, blkOf v1 c → vn < c ∧ c < n1 := fun c hc => by
        rcases A1 with ⟨rfl | rfl, _⟩ | ⟨b, hb1, hb2, rfl, _⟩
        · cases hc
        · cases hc
        · obtain rfl : c = b := hc
          exact ⟨by omega, hb2⟩
      obtain ⟨w, hw⟩ : ∃ w, w = v1 := ⟨_, rfl⟩
      rcases id A1 with ⟨rfl | rfl, hnil⟩ | ⟨ba, hb1, hb2, rfl, hb4⟩
      all_goals
        repeat first | refine CondP.tt ?_ | refine CondP.ff ?_ | refine Owe.mk (by decide) ?_
        conv => whnf
        repeat ((first | refine CondP.tt ?_ | refine CondP.ff ?_ | refine Owe.mk (by decide) ?_); conv => whnf)
        refine Get.mk (_, _, _, _) hm1 ?_
        conv => whnf
        repeat ((first | refine CondP.tt ?_ | refine CondP.ff ?_ | refine Owe.mk (by decide) ?_); conv => whnf)
        refine ⟨⟨by simp [encNv], Nat.zero_le _⟩, ?_⟩
        repeat first | refine CondP.tt ?_ | refine CondP.ff ?_ | refine Owe.mk (by decide) ?_
        conv => whnf
        repeat ((first | refine CondP.tt ?_ | refine CondP.ff ?_ | refine Owe.mk (by decide) ?_); conv => whnf)
        generalize hvv : vset vh1 vn _ = vh2
        have f2 : ∀ c, c ≠ vn → vh2 c = vh1 c := fun c hc => by rw [← hvv]; exact vset_ne hc
        have A2 := A1.mono (vh' := vh2) (Nat.le_refl n1) (fun c h1 _ _ => f2 c (by omega))
        have dvn := fun h => Nat.lt_irrefl _ (hv1 vn h).1
        have dbs := fun h => Nat.lt_asymm hbs (hv1 bs h).1
        have hm2 : vh2 vn = some (.cells (encNv n w) T_api_Node 0 false) := by rw [hw, ← hvv]; exact vset_same
        rw [hw] at hm2
        refine El_loop H bs vn n n _ n.s sm.s sm.a vh2 n1 T_api_Node hm2 A2.r dvn _ (fun h3 vh3 f3 => ?_) (fun h3 vh3 i' t a3 f3 => ?_)
        · repeat first | refine CondP.tt ?_ | refine CondP.ff ?_ | refine Owe.mk (by decide) ?_
          conv => whnf
          repeat ((first | refine CondP.tt ?_ | refine CondP.ff ?_ | refine Owe.mk (by decide) ?_); conv => whnf)
          refine Get.mk vh3 (fun _ _ h => h) ⟨(by omega : vn ≤ n1), fun c hc hcb => (f3 c fun h => by have := hv1 c h; omega).trans ((f2 c (by omega)).trans (hf1 c hc)), ?_⟩
          rw [elementP_2 h2' h3]
          exact ⟨rfl, Sc_at hs ((f3 bs dbs).trans ((f2 bs (by omega)).trans (hf1 bs hbs)))⟩
        · have hm3 := (f3 vn dvn).trans hm2
          have s3 := Sc_at hs ((f3 bs dbs).trans ((f2 bs (by omega)).trans (hf1 bs hbs)))
          have hf3 : ∀ c, c < vn → vh3 c = vh c := fun c hc => (f3 c fun h => by have := hv1 c h; omega).trans ((f2 c (by omega)).trans (hf1 c hc))
          repeat first | refine CondP.tt ?_ | refine CondP.ff ?_ | refine Owe.mk (by decide) ?_
          conv => whnf
          repeat ((first | refine CondP.tt ?_ | refine CondP.ff ?_ | refine Owe.mk (by decide) ?_); conv => whnf)
          refine Get.mk (_, _, _, _) hm3 ?_
          conv => whnf
          refine Get.mk _ rfl ?_
          conv => whnf
          repeat ((first | refine CondP.tt ?_ | refine CondP.ff ?_ | refine Owe.mk (by decide) ?_); conv => whnf)
          refine (Push_ok H.declares H.push bs lv _ (n.s.map nsInit) vh3 n1 s3 (by omega) (by omega) a3 (fun c hc => (hv1 c hc).2) (by rw [List.length_map]; exact sm.s)).mono fun r vh4 n4 he => ?_
          obtain ⟨g4, f4, he⟩ := he
          cases hp : pushP [] (n.s.map nsInit) with
          | none =>
            rw [hp] at he
            obtain ⟨rfl, s4⟩ := he
            repeat first | refine CondP.tt ?_ | refine CondP.ff ?_ | refine Owe.mk (by decide) ?_
            conv => whnf
            repeat ((first | refine CondP.tt ?_ | refine CondP.ff ?_ | refine Owe.mk (by decide) ?_); conv => whnf)
            refine Get.mk vh4 (fun _ _ h => h) ⟨(by omega : vn ≤ n4), fun c hc hcb => (f4 c (by omega) hcb).trans (hf3 c hc), ?_⟩
            rw [elementP_3 h2' h3 hp]
            exact ⟨rfl, s4⟩
          | some ms =>
            rw [hp] at he
            obtain ⟨rfl, s4⟩ := he
            have hlms : ms.length < 2 ^ 40 := by
              have := pushP_len _ _ _ hp
              have h1 := sm.s
              simp only [List.length_nil, List.length_map] at this
              omega
            have hm4 := (f4 vn (by omega) (by omega)).trans hm3
            have a4 := a3.at fun c hc => f4 c (hv1 c hc).2 (fun h => dbs (h ▸ hc))
            repeat first | refine CondP.tt ?_ | refine CondP.ff ?_ | refine Owe.mk (by decide) ?_
            conv => whnf
            repeat ((first | refine CondP.tt ?_ | refine CondP.ff ?_ | refine Owe.mk (by decide) ?_); conv => whnf)
            refine (Names_ok H.declares H.uri H.names bs vn (lv ++ [ms]) (by
              intro l hl
              rcases List.mem_append.1 hl with h | h
              · exact hb l h
              · rw [List.mem_singleton.1 h]; exact hlms) (by rw [List.length_append, List.length_singleton]; omega) { n with s := n.s.map nsInit } _ (by show (n.s.map nsInit).length < _; rw [List.length_map]; exact sm.s) vh4 n4 (by omega) dbs dvn s4 ⟨T_api_Node, hm4⟩ a4).mono fun r vh5 n5 he => ?_
            obtain ⟨e1, e2, ⟨ty5, hm5⟩, a5, f5⟩ := he
            rw [e1, e2]
            have hf5 : ∀ c, c < vn → c ≠ bs → vh5 c = vh c := fun c hc hcb => (f5 c (by omega) fun h => by have := hv1 c h; omega).trans ((f4 c (by omega) hcb).trans (hf3 c hc))
            have s5 : Sc vh5 bs (lv ++ [ms]) := Sc_at s4 (f5 bs (by omega) dbs)
            rw [elementP_4 h2' h3 hp]
            clear f5 f4 f3 s4 s3 a4 a3 hm4 hm3 hm2 A2
            repeat first | refine CondP.tt ?_ | refine CondP.ff ?_ | refine Owe.mk (by decide) ?_
            conv => whnf
            repeat ((first | refine CondP.tt ?_ | refine CondP.ff ?_ | refine Owe.mk (by decide) ?_); conv => whnf)
            refine CondP.mk (fun h6 => ?_) (fun h6 => ?_)
            · repeat first | refine CondP.tt ?_ | refine CondP.ff ?_ | refine Owe.mk (by decide) ?_
              conv => whnf
              repeat ((first | refine CondP.tt ?_ | refine CondP.ff ?_ | refine Owe.mk (by decide) ?_); conv => whnf)
              refine Get.mk (_, _, _, _) hm5 ?_
              conv => whnf
              refine Get.mk _ rfl ?_
              conv => whnf
              repeat ((first | refine CondP.tt ?_ | refine CondP.ff ?_ | refine Owe.mk (by decide) ?_); conv => whnf)
              refine CondP.mk (fun h7 => ?_) (fun h7 => ?_)
              · repeat first | refine CondP.tt ?_ | refine CondP.ff ?_ | refine Owe.mk (by decide) ?_
                conv => whnf
                repeat ((first | refine CondP.tt ?_ | refine CondP.ff ?_ | refine Owe.mk (by decide) ?_); conv => whnf)
                refine Get.mk (_, _, _, _) hm5 ?_
                conv => whnf
                refine Get.mk _ rfl ?_
                conv => whnf
                repeat ((first | refine CondP.tt ?_ | refine CondP.ff ?_ | refine Owe.mk (by decide) ?_); conv => whnf)
                refine (Same_ok H.same _ _ n.s ?_ vh5 _ a5).mono fun r vh6 n6 he => ?_
                · show (namesP (lv ++ [ms]) { n with s := n.s.map nsInit }).1.s.length < _
                  rw [namesP_len]
                  show (n.s.map nsInit).length < _
                  rw [List.length_map]
                  exact sm.s
                obtain ⟨e1, e2, b, e3, e4⟩ := he
                rw [e1, e2, e3]
                repeat first | refine CondP.tt ?_ | refine CondP.ff ?_ | refine Owe.mk (by decide) ?_
                conv => whnf
                repeat ((first | refine CondP.tt ?_ | refine CondP.ff ?_ | refine Owe.mk (by decide) ?_); conv => whnf)
                refine Get.mk vh5 (fun _ _ h => h) ⟨(by omega : vn ≤ n4), hf5, ?_, s5⟩
                have h7' := of_decide_eq_true h7
                have eb : b = decide ((namesP (lv ++ [ms]) { n with s := n.s.map nsInit }).1.s.map attrL = n.s.map attrL) := by
                  rw [Bool.eq_iff_iff, e4, decide_eq_true_iff, attrL_inj]
                rw [eb]
                simp [h6, h7']
              · have h7' := of_decide_eq_false h7
                repeat first | refine CondP.tt ?_ | refine CondP.ff ?_ | refine Owe.mk (by decide) ?_
                conv => whnf
                repeat ((first | refine CondP.tt ?_ | refine CondP.ff ?_ | refine Owe.mk (by decide) ?_); conv => whnf)
                refine Get.mk vh5 (fun _ _ h => h) ⟨(by omega : vn ≤ n4), hf5, ?_, s5⟩
                simp [h6, h7']
            · repeat first | refine CondP.tt ?_ | refine CondP.ff ?_ | refine Owe.mk (by decide) ?_
              conv => whnf
              repeat ((first | refine CondP.tt ?_ | refine CondP.ff ?_ | refine Owe.mk (by decide) ?_); conv => whnf)
              refine Get.mk vh5 (fun _ _ h => h) ⟨(by omega : vn ≤ n4), hf5, ?_, s5⟩
              simp [h6]
end Go.Proofs.YtpcbnpekdmobpaaGreatDoor

open Go Go.Ev Go.VL
namespace Go.Proofs.YtpcbnpekdmobpaaGreatDoor
attribute [local irreducible] fApp
variable {X : Ovr} {G : Gt}

def SlF {α : Type} (enc : α → List V) (es : Nat) (v : V) (xs : List α) : Prop := (xs = [] ∧ v = .nils) ∨ ∃ c, v = .sl es (xs.map enc) c
theorem SameF_L0 (c1 c2 : Option Nat) (xs ys : List Attr) (hl : xs.length = ys.length) (hN : xs.length < 2 ^ 30) (vh : VH) (vn : Nat) (Q : FQ) : ∀ (m i : Nat), xs.length - i = m → i ≤ xs.length →
    (¬ xs.drop i = ys.drop i → Q .ret [(4, .bool false)] vh vn) →
    (xs.drop i = ys.drop i → ∀ i' t, Q (.exit 0) [(0, .sl 4 (xs.map encA) c1), (1, .sl 4 (ys.map encA) c2), (5, .int .i64 i'), (14, .bool t)] vh vn) →
    FLoop Tryz.prog X G (.loop c_ref10_SameAttrs_L0) [(0, .sl 4 (xs.map encA) c1), (1, .sl 4 (ys.map encA) c2), (5, .int .i64 (i : Int))] vh vn Q
  | m, i, hm, hi, hR, hQ => by
    refine FLoop.round ?_
    repeat first | refine CondP.tt ?_ | refine CondP.ff ?_ | refine Owe.mk (by decide) ?_
    conv => whnf
    repeat ((first | refine CondP.tt ?_ | refine CondP.ff ?_ | refine Owe.mk (by decide) ?_); conv => whnf)
    refine CondP.mk (fun h1 => ?_) (fun h1 => ?_)
    · have hlt : i < xs.length := by simpa using h1
      have hly : i < ys.length := by omega
      have hd : xs.drop i = xs[i] :: xs.drop (i + 1) := (List.getElem_cons_drop hlt).symm
      have hd2 : ys.drop i = ys[i] :: ys.drop (i + 1) := (List.getElem_cons_drop hly).symm
      rw [hd, hd2] at hR hQ
      have e : wr .i64 ((i : Int) + 1) = ((i + 1 : Nat) : Int) := by rw [wr64] <;> omega
      repeat first | refine CondP.tt ?_ | refine CondP.ff ?_ | refine Owe.mk (by decide) ?_
      conv => whnf
      repeat ((first | refine CondP.tt ?_ | refine CondP.ff ?_ | refine Owe.mk (by decide) ?_); conv => whnf)
      refine Get.mk (i, encA xs[i]) ⟨rfl, by simp [hlt]⟩ ?_
      repeat first | refine CondP.tt ?_ | refine CondP.ff ?_ | refine Owe.mk (by decide) ?_
      conv => whnf
      repeat ((first | refine CondP.tt ?_ | refine CondP.ff ?_ | refine Owe.mk (by decide) ?_); conv => whnf)
      refine Get.mk (i, encA ys[i]) ⟨rfl, by simp [hly]⟩ ?_
      repeat first | refine CondP.tt ?_ | refine CondP.ff ?_ | refine Owe.mk (by decide) ?_
      conv => whnf
      repeat ((first | refine CondP.tt ?_ | refine CondP.ff ?_ | refine Owe.mk (by decide) ?_); conv => whnf)
      refine CondP.mk (fun h2 => ?_) (fun h2 => ?_)
      · have h2 : (!decide ([xs[i].p, xs[i].l, xs[i].u, xs[i].v] = [ys[i].p, ys[i].l, ys[i].u, ys[i].v])) = true := h2
        repeat first | refine CondP.tt ?_ | refine CondP.ff ?_ | refine Owe.mk (by decide) ?_
        conv => whnf
        repeat ((first | refine CondP.tt ?_ | refine CondP.ff ?_ | refine Owe.mk (by decide) ?_); conv => whnf)
        refine hR fun h => ?_
        rw [(List.cons.inj h).1] at h2
        simp at h2
      · have h2 : (!decide ([xs[i].p, xs[i].l, xs[i].u, xs[i].v] = [ys[i].p, ys[i].l, ys[i].u, ys[i].v])) = false := h2
        have h2' : xs[i] = ys[i] := attr_ext (by simpa using h2)
        repeat first | refine CondP.tt ?_ | refine CondP.ff ?_ | refine Owe.mk (by decide) ?_
        conv => whnf
        repeat ((first | refine CondP.tt ?_ | refine CondP.ff ?_ | refine Owe.mk (by decide) ?_); conv => whnf)
        rw [e]
        refine SameF_L0 c1 c2 xs ys hl hN vh vn Q (m - 1) (i + 1) (by omega) (by omega) (fun h => hR fun h3 => h (List.cons.inj h3).2) (fun h => hQ (by rw [h, h2']))
    · have hlt : i = xs.length := by simp at h1; omega
      have e1 : xs.drop i = ys.drop i := by rw [hlt, List.drop_length, hl, List.drop_length]
      repeat first | refine CondP.tt ?_ | refine CondP.ff ?_ | refine Owe.mk (by decide) ?_
      conv => whnf
      repeat ((first | refine CondP.tt ?_ | refine CondP.ff ?_ | refine Owe.mk (by decide) ?_); conv => whnf)
      exact hQ e1 _ _
termination_by m => m
decreasing_by all_goals omega
theorem SameF_ok (hX : X F_ref10_SameAttrs = none) (v1 v2 : V) (xs ys : List Attr) (hN : xs.length < 2 ^ 30) (h1 : SlF encA 4 v1 xs) (h2 : SlF encA 4 v2 ys) (vh : VH) (vn : Nat) :
    WpCall Tryz.prog X G F_ref10_SameAttrs [v1, v2] vh vn fun r vh' vn' => vh' = vh ∧ vn' = vn ∧ r = .bool (decide (xs.map attrL = ys.map attrL)) := by
  apply k_ref10_SameAttrs.run hX
  have tt : decide (([] : List Attr).map attrL = ([] : List Attr).map attrL) = true := rfl
  have n1 : ∀ zs : List Attr, zs ≠ [] → decide (([] : List Attr).map attrL = zs.map attrL) = false := fun zs hz => by cases zs with | nil => exact (hz rfl).elim | cons _ _ => simp
  have n2 : ∀ zs : List Attr, zs ≠ [] → decide (zs.map attrL = ([] : List Attr).map attrL) = false := fun zs hz => by cases zs with | nil => exact (hz rfl).elim | cons _ _ => simp
  rcases h1 with ⟨rfl, rfl⟩ | ⟨c1, rfl⟩
  · rcases h2 with ⟨rfl, rfl⟩ | ⟨c2, rfl⟩
    · repeat first | refine CondP.tt ?_ | refine CondP.ff ?_ | refine Owe.mk (by decide) ?_
      conv => whnf
      repeat ((first | refine CondP.tt ?_ | refine CondP.ff ?_ | refine Owe.mk (by decide) ?_); conv => whnf)
      refine FLoop.round ?_
      repeat first | refine CondP.tt ?_ | refine CondP.ff ?_ | refine Owe.mk (by decide) ?_
      conv => whnf
      repeat ((first | refine CondP.tt ?_ | refine CondP.ff ?_ | refine Owe.mk (by decide) ?_); conv => whnf)
      exact Get.mk _ (fun _ _ h => h) ⟨rfl, rfl, by rw [tt]⟩
    · repeat first | refine CondP.tt ?_ | refine CondP.ff ?_ | refine Owe.mk (by decide) ?_
      conv => whnf
      repeat ((first | refine CondP.tt ?_ | refine CondP.ff ?_ | refine Owe.mk (by decide) ?_); conv => whnf)
      refine CondP.mk (fun h1 => ?_) (fun h1 => ?_)
      · have hne : ys ≠ [] := fun h => by subst h; simp at h1
        repeat first | refine CondP.tt ?_ | refine CondP.ff ?_ | refine Owe.mk (by decide) ?_
        conv => whnf
        repeat ((first | refine CondP.tt ?_ | refine CondP.ff ?_ | refine Owe.mk (by decide) ?_); conv => whnf)
        exact Get.mk _ (fun _ _ h => h) ⟨rfl, rfl, by rw [n1 ys hne]⟩
      · have hy : ys = [] := by first | simpa using h1 | exact List.eq_nil_of_length_eq_zero (by simp at h1; omega)
        subst hy
        repeat first | refine CondP.tt ?_ | refine CondP.ff ?_ | refine Owe.mk (by decide) ?_
        conv => whnf
        repeat ((first | refine CondP.tt ?_ | refine CondP.ff ?_ | refine Owe.mk (by decide) ?_); conv => whnf)
        refine FLoop.round ?_
        repeat first | refine CondP.tt ?_ | refine CondP.ff ?_ | refine Owe.mk (by decide) ?_
        conv => whnf
        repeat ((first | refine CondP.tt ?_ | refine CondP.ff ?_ | refine Owe.mk (by decide) ?_); conv => whnf)
        exact Get.mk _ (fun _ _ h => h) ⟨rfl, rfl, by rw [tt]⟩
  · rcases h2 with ⟨rfl, rfl⟩ | ⟨c2, rfl⟩
    · repeat first | refine CondP.tt ?_ | refine CondP.ff ?_ | refine Owe.mk (by decide) ?_
      conv => whnf
      repeat ((first | refine CondP.tt ?_ | refine CondP.ff ?_ | refine Owe.mk (by decide) ?_); conv => whnf)
      refine CondP.mk (fun h1 => ?_) (fun h1 => ?_)
      · have hne : xs ≠ [] := fun h => by subst h; simp at h1
        repeat first | refine CondP.tt ?_ | refine CondP.ff ?_ | refine Owe.mk (by decide) ?_
        conv => whnf
        repeat ((first | refine CondP.tt ?_ | refine CondP.ff ?_ | refine Owe.mk (by decide) ?_); conv => whnf)
        exact Get.mk _ (fun _ _ h => h) ⟨rfl, rfl, by rw [n2 xs hne]⟩
      · have hy : xs = [] := by first | simpa using h1 | exact List.eq_nil_of_length_eq_zero (by simp at h1; omega)
        subst hy
        repeat first | refine CondP.tt ?_ | refine CondP.ff ?_ | refine Owe.mk (by decide) ?_
        conv => whnf
        repeat ((first | refine CondP.tt ?_ | refine CondP.ff ?_ | refine Owe.mk (by decide) ?_); conv => whnf)
        refine FLoop.round ?_
        repeat first | refine CondP.tt ?_ | refine CondP.ff ?_ | refine Owe.mk (by decide) ?_
        conv => whnf
        repeat ((first | refine CondP.tt ?_ | refine CondP.ff ?_ | refine Owe.mk (by decide) ?_); conv => whnf)
        exact Get.mk _ (fun _ _ h => h) ⟨rfl, rfl, by rw [tt]⟩
    · repeat first | refine CondP.tt ?_ | refine CondP.ff ?_ | refine Owe.mk (by decide) ?_
      conv => whnf
      repeat ((first | refine CondP.tt ?_ | refine CondP.ff ?_ | refine Owe.mk (by decide) ?_); conv => whnf)
      refine CondP.mk (fun h1 => ?_) (fun h1 => ?_)
      · have hne : ¬ xs.map attrL = ys.map attrL := fun h => by rw [attrL_inj] at h; subst h; simp at h1
        repeat first | refine CondP.tt ?_ | refine CondP.ff ?_ | refine Owe.mk (by decide) ?_
        conv => whnf
        repeat ((first | refine CondP.tt ?_ | refine CondP.ff ?_ | refine Owe.mk (by decide) ?_); conv => whnf)
        exact Get.mk _ (fun _ _ h => h) ⟨rfl, rfl, by simp only [hne, decide_false]⟩
      · have hl : xs.length = ys.length := by simp at h1; omega
        repeat first | refine CondP.tt ?_ | refine CondP.ff ?_ | refine Owe.mk (by decide) ?_
        conv => whnf
        repeat ((first | refine CondP.tt ?_ | refine CondP.ff ?_ | refine Owe.mk (by decide) ?_); conv => whnf)
        refine SameF_L0 c1 c2 xs ys hl hN vh vn _ xs.length 0 rfl (Nat.zero_le _) (fun h => ?_) (fun h i' t => ?_)
        · rw [List.drop_zero, List.drop_zero] at h
          repeat first | refine CondP.tt ?_ | refine CondP.ff ?_ | refine Owe.mk (by decide) ?_
          conv => whnf
          repeat ((first | refine CondP.tt ?_ | refine CondP.ff ?_ | refine Owe.mk (by decide) ?_); conv => whnf)
          exact Get.mk _ (fun _ _ h => h) ⟨rfl, rfl, by rw [decide_eq_false (fun h2 => h (attrL_inj.1 h2))]⟩
        · rw [List.drop_zero, List.drop_zero] at h
          repeat first | refine CondP.tt ?_ | refine CondP.ff ?_ | refine Owe.mk (by decide) ?_
          conv => whnf
          repeat ((first | refine CondP.tt ?_ | refine CondP.ff ?_ | refine Owe.mk (by decide) ?_); conv => whnf)
          exact Get.mk _ (fun _ _ h => h) ⟨rfl, rfl, by rw [decide_eq_true (attrL_inj.2 h)]⟩
def sameNd (a b : Nd) : Bool := (((((decide (a.k = b.k) && decide (a.d = b.d)) && decide (a.p = b.p)) && decide (a.l = b.l)) && decide (a.u = b.u)) && decide (a.v = b.v)) && decide (a.s.map attrL = b.s.map attrL)
theorem sameNd_iff {a b : Nd} : sameNd a b = true ↔ a = b := by
  obtain ⟨k, d, p, l, u, v, s⟩ := a
  obtain ⟨k', d', p', l', u', v', s'⟩ := b
  simp only [sameNd, Bool.and_eq_true, decide_eq_true_iff, attrL_inj, Nd.mk.injEq]
  simp only [and_assoc]
theorem SameNode_ok (hX : X F_ref10_SameAttrs = none) (hX' : X F_ref15_SameNode = none) (a b : Nd) (va vb : V) (ha : SlF encA 4 va a.s) (hb : SlF encA 4 vb b.s) (hN : a.s.length < 2 ^ 30) (vh : VH) (vn : Nat) :
    WpCall Tryz.prog X G F_ref15_SameNode [.agg (encNv a va), .agg (encNv b vb)] vh vn fun r vh' vn' => vh' = vh ∧ vn' = vn ∧ r = .bool (sameNd a b) := by
  apply k_ref15_SameNode.run hX'
  have key := fun vh vn => SameF_ok (G := G) hX va vb a.s b.s hN ha hb vh vn
  rcases ha with ⟨ha, rfl⟩ | ⟨c1, rfl⟩ <;> rcases hb with ⟨hb, rfl⟩ | ⟨c2, rfl⟩
  all_goals
    repeat first | refine CondP.tt ?_ | refine CondP.ff ?_ | refine Owe.mk (by decide) ?_
    conv => whnf
    repeat ((first | refine CondP.tt ?_ | refine CondP.ff ?_ | refine Owe.mk (by decide) ?_); conv => whnf)
    repeat' ((first | refine CondP.tt ?_ | refine CondP.ff ?_ | refine CondP.mk (fun _ => ?_) (fun _ => ?_) | (refine (key _ _).mono (fun v vh' vn' he => ?_); obtain ⟨e1, e2, e3⟩ := he; rw [e1, e2, e3])) <;> (conv => whnf))
    all_goals
      refine Get.mk _ (fun _ _ h => h) ⟨rfl, rfl, ?_⟩
      clear key
      simp_all [sameNd]
end Go.Proofs.YtpcbnpekdmobpaaGreatDoor

open Go Go.Ev Go.VL
namespace Go.Proofs.YtpcbnpekdmobpaaGreatDoor
attribute [local irreducible] fApp
variable {X : Ovr} {G : Gt}
structure XM (X : Ovr) : Prop extends XE X where
  samend : X F_ref15_SameNode = none
  may : X F_ref15_May = none
def badPlace (prev n : Nd) : Bool := ((decide (n.d < 1) || decide (201 < n.d)) || decide (prev.d + 1 < n.d)) || ((decide (prev.d < n.d) && !decide (prev.k = 1)) && !decide (prev.k = 2))
def stepP (prev n : Nd) (lv : List (List Attr)) (roots : Nat) : Option (List (List Attr) × Nat) :=
  if n.k = 2 then (if (elementP (lv.take (n.d.toNat - 1)) n).1 = true then some ((elementP (lv.take (n.d.toNat - 1)) n).2, if n.d = 1 then roots + 1 else roots) else none)
  else if plainP n = false then none
  else if n.k = 3 ∧ (n.d = 1 ∨ prev.k = 3 ∧ prev.d = n.d) then none
  else some (lv.take (n.d.toNat - 1), roots)
def mayR : Nd → List (List Attr) → Nat → List Nd → Option Nat
  | _, _, roots, [] => some roots
  | prev, lv, roots, n :: l => if badPlace prev n = true then none else match stepP prev n lv roots with
    | none => none
    | some s => mayR n s.1 s.2 l
def zeroDoc : Nd := ⟨1, 0, [], [], [], [], []⟩
def mayP (t : List Nd) : Bool := match t with
  | [] => false
  | n :: l => decide ((n :: l).length ≤ 1048576) && sameNd n zeroDoc && decide (mayR n [] 0 l = some 1)
theorem May_L1 (H : XM X) (bs : Nat) (ts : List Nd) (c : Option Nat) (r i : Int) (n : Nd) (hd : 1 ≤ n.d) (vn : Nat) (Q : FQ) : ∀ (m : Nat) (lv : List (List Attr)) (vh : VH), lv.length = m → lv.length < 2 ^ 40 → Sc vh bs lv →
    (∀ vh' b, Sc vh' bs (lv.take (n.d.toNat - 1)) → (∀ c, c ≠ bs → vh' c = vh c) → Q (.exit 2) [(0, .sl 7 (ts.map encN) c), (3, .ptr bs 0), (4, .int .i64 r), (5, .int .i64 i), (6, .bx (encN n)), (91, .bool b)] vh' vn) →
    FLoop Tryz.prog X G (.loop c_ref15_May_L1) [(0, .sl 7 (ts.map encN) c), (3, .ptr bs 0), (4, .int .i64 r), (5, .int .i64 i), (6, .bx (encN n))] vh vn Q
  | m, lv, vh, hm, hl, hs, hQ => by
    refine FLoop.round ?_
    obtain ⟨ty, hs4⟩ := id hs
    repeat first | refine CondP.tt ?_ | refine CondP.ff ?_ | refine Owe.mk (by decide) ?_
    conv => whnf
    repeat ((first | refine CondP.tt ?_ | refine CondP.ff ?_ | refine Owe.mk (by decide) ?_); conv => whnf)
    refine Get.mk (_, _, _, _) hs4 ?_
    conv => whnf
    refine Get.mk _ rfl ?_
    conv => whnf
    repeat ((first | refine CondP.tt ?_ | refine CondP.ff ?_ | refine Owe.mk (by decide) ?_); conv => whnf)
    refine CondP.mk (fun h1 => ?_) (fun h1 => ?_)
    · have h1' : n.d ≤ (lv.length : Int) := by simpa using h1
      repeat first | refine CondP.tt ?_ | refine CondP.ff ?_ | refine Owe.mk (by decide) ?_
      conv => whnf
      repeat ((first | refine CondP.tt ?_ | refine CondP.ff ?_ | refine Owe.mk (by decide) ?_); conv => whnf)
      refine (Pop_ok H.pop bs lv vh vn hs hl).mono fun v vh' vn' he => ?_
      obtain ⟨e1, f1, s1, b1, e2⟩ := he
      rw [e1, e2]
      repeat first | refine CondP.tt ?_ | refine CondP.ff ?_ | refine Owe.mk (by decide) ?_
      conv => whnf
      repeat ((first | refine CondP.tt ?_ | refine CondP.ff ?_ | refine Owe.mk (by decide) ?_); conv => whnf)
      refine May_L1 H bs ts c r i n hd vn Q (m - 1) lv.dropLast vh' (by rw [List.length_dropLast]; omega) (by rw [List.length_dropLast]; omega) s1 fun vh2 b s2 f2 => hQ vh2 b ?_ fun c hc => (f2 c hc).trans (f1 c hc)
      have e : lv.dropLast.take (n.d.toNat - 1) = lv.take (n.d.toNat - 1) := by
        rw [List.dropLast_eq_take, List.take_take]
        congr 1
        omega
      rw [e] at s2
      exact s2
    · have h1' : ¬ n.d ≤ (lv.length : Int) := by simpa using h1
      have e : lv.take (n.d.toNat - 1) = lv := List.take_of_length_le (by omega)
      rw [e] at hQ
      repeat first | refine CondP.tt ?_ | refine CondP.ff ?_ | refine Owe.mk (by decide) ?_
      conv => whnf
      repeat ((first | refine CondP.tt ?_ | refine CondP.ff ?_ | refine Owe.mk (by decide) ?_); conv => whnf)
      exact hQ vh _ hs fun _ _ => rfl
termination_by m => m
decreasing_by all_goals omega
theorem May_R11 (H : XM X) (bs : Nat) (ts : List Nd) (c : Option Nat) (hts : ts.length < 2 ^ 30) (i : Nat) (h0 : 0 < i) (hi : i < ts.length) (r : Nat) (hr : r < 2 ^ 31) (n prev : Nd) (hp : ts[i - 1]? = some prev) (sm : NdSmall n) (hd : 1 ≤ n.d) (lv : List (List Attr)) (hlv : lv.length < 2 ^ 29) (hb : ∀ l ∈ lv, l.length < 2 ^ 40) (vh : VH) (vn : Nat) (hs : Sc vh bs lv) (hbs : bs < vn) (Q : FQ)
    (hR : stepP prev n lv r = none → ∀ vh' vn', vn ≤ vn' → (∀ c, c < vn → c ≠ bs → vh' c = vh c) → Q .ret [(2, .bool false)] vh' vn')
    (hQ : ∀ lv' r', stepP prev n lv r = some (lv', r') → ∀ vh' vn', vn ≤ vn' → (∀ c, c < vn → c ≠ bs → vh' c = vh c) → Sc vh' bs lv' → ∀ k, k = .exit 1 ∨ k = .norm → Q k [(0, .sl 7 (ts.map encN) c), (3, .ptr bs 0), (4, .int .i64 (r' : Int)), (5, .int .i64 (i : Int))] vh' vn') :
    FLoop Tryz.prog X G (.cut c_ref15_May_R11) [(0, .sl 7 (ts.map encN) c), (3, .ptr bs 0), (4, .int .i64 (r : Int)), (5, .int .i64 (i : Int)), (6, .bx (encN n))] vh vn Q := by
  refine FLoop.cut ?_
  repeat first | refine CondP.tt ?_ | refine CondP.ff ?_ | refine Owe.mk (by decide) ?_
  conv => whnf
  repeat ((first | refine CondP.tt ?_ | refine CondP.ff ?_ | refine Owe.mk (by decide) ?_); conv => whnf)
  refine May_L1 H bs ts c r i n hd vn _ lv.length lv vh rfl (by omega) hs fun vh1 b s1 f1 => ?_
  repeat first | refine CondP.tt ?_ | refine CondP.ff ?_ | refine Owe.mk (by decide) ?_
  conv => whnf
  repeat ((first | refine CondP.tt ?_ | refine CondP.ff ?_ | refine Owe.mk (by decide) ?_); conv => whnf)
  refine CondP.mk (fun h1 => ?_) (fun h1 => ?_)
  · have h1' : n.k = 2 := by simpa using h1
    repeat first | refine CondP.tt ?_ | refine CondP.ff ?_ | refine Owe.mk (by decide) ?_
    conv => whnf
    repeat ((first | refine CondP.tt ?_ | refine CondP.ff ?_ | refine Owe.mk (by decide) ?_); conv => whnf)
    refine (element_ok H.toXE bs (lv.take (n.d.toNat - 1)) n sm vh1 vn s1 hbs (by rw [List.length_take]; omega) (fun l hl => hb l (List.mem_of_mem_take hl))).mono fun v vh2 n2 he => ?_
    obtain ⟨g2, f2, e2, s2⟩ := he
    have fr : ∀ c, c < vn → c ≠ bs → vh2 c = vh c := fun c hc hcb => (f2 c hc hcb).trans (f1 c hcb)
    rw [e2]
    repeat first | refine CondP.tt ?_ | refine CondP.ff ?_ | refine Owe.mk (by decide) ?_
    conv => whnf
    repeat ((first | refine CondP.tt ?_ | refine CondP.ff ?_ | refine Owe.mk (by decide) ?_); conv => whnf)
    refine CondP.mk (fun h2 => ?_) (fun h2 => ?_)
    · have h2' : (elementP (lv.take (n.d.toNat - 1)) n).1 = false := by simpa using h2
      repeat first | refine CondP.tt ?_ | refine CondP.ff ?_ | refine Owe.mk (by decide) ?_
      conv => whnf
      repeat ((first | refine CondP.tt ?_ | refine CondP.ff ?_ | refine Owe.mk (by decide) ?_); conv => whnf)
      exact hR (by simp [stepP, h1', h2']) _ _ g2 fr
    · have h2' : (elementP (lv.take (n.d.toNat - 1)) n).1 = true := by simpa using h2
      repeat first | refine CondP.tt ?_ | refine CondP.ff ?_ | refine Owe.mk (by decide) ?_
      conv => whnf
      repeat ((first | refine CondP.tt ?_ | refine CondP.ff ?_ | refine Owe.mk (by decide) ?_); conv => whnf)
      refine CondP.mk (fun h3 => ?_) (fun h3 => ?_)
      · have h3' : n.d = 1 := by simpa using h3
        have e : wr .i64 ((r : Int) + 1) = ((r + 1 : Nat) : Int) := by rw [wr64] <;> omega
        repeat first | refine CondP.tt ?_ | refine CondP.ff ?_ | refine Owe.mk (by decide) ?_
        conv => whnf
        repeat ((first | refine CondP.tt ?_ | refine CondP.ff ?_ | refine Owe.mk (by decide) ?_); conv => whnf)
        rw [e]
        exact hQ _ _ (by simp only [stepP, h1', h2', if_true, if_pos h3']) _ _ g2 fr s2 _ (.inl rfl)
      · have h3' : ¬ n.d = 1 := by simpa using h3
        repeat first | refine CondP.tt ?_ | refine CondP.ff ?_ | refine Owe.mk (by decide) ?_
        conv => whnf
        repeat ((first | refine CondP.tt ?_ | refine CondP.ff ?_ | refine Owe.mk (by decide) ?_); conv => whnf)
        exact hQ _ _ (by simp only [stepP, h1', h2', if_true, if_neg h3']) _ _ g2 fr s2 _ (.inl rfl)
  · have h1' : ¬ n.k = 2 := by simpa using h1
    have hprev : wr .i64 ((i : Int) - 1) = ((i - 1 : Nat) : Int) ∧ (ts.map encN)[i - 1]? = some (encN prev) := ⟨by rw [wr64] <;> omega, by rw [List.getElem?_map, hp]; rfl⟩
    repeat first | refine CondP.tt ?_ | refine CondP.ff ?_ | refine Owe.mk (by decide) ?_
    conv => whnf
    repeat ((first | refine CondP.tt ?_ | refine CondP.ff ?_ | refine Owe.mk (by decide) ?_); conv => whnf)
    refine (plain_ok H.toXP n sm.v (Nat.lt_trans sm.l (by decide)) sm.b vh1 vn).mono fun v vh2 n2 he => ?_
    obtain ⟨g2, f2, e2⟩ := he
    have fr : ∀ c, c < vn → c ≠ bs → vh2 c = vh c := fun c hc hcb => (f2 c hc).trans (f1 c hcb)
    have s2 := Sc_at s1 (f2 bs hbs)
    rw [e2]
    repeat first | refine CondP.tt ?_ | refine CondP.ff ?_ | refine Owe.mk (by decide) ?_
    conv => whnf
    repeat ((first | refine CondP.tt ?_ | refine CondP.ff ?_ | refine Owe.mk (by decide) ?_); conv => whnf)
    repeat' ((first | refine CondP.tt ?_ | refine CondP.ff ?_ | refine CondP.mk (fun _ => ?_) (fun _ => ?_) | refine Get.mk (i - 1, encN prev) hprev ?_) <;> (conv => whnf))
    all_goals first
      | exact hR (by clear hR hQ fr f1 f2 s2 hs s1 hb sm hprev; simp_all [stepP]; done) _ _ g2 fr
      | exact hQ _ _ (by clear hR hQ fr f1 f2 s2 hs s1 hb sm hprev; simp_all [stepP]; done) _ _ g2 fr s2 _ (.inr rfl)
end Go.Proofs.YtpcbnpekdmobpaaGreatDoor

open Go Go.Ev Go.VL
namespace Go.Proofs.YtpcbnpekdmobpaaGreatDoor
attribute [local irreducible] fApp
variable {X : Ovr} {G : Gt}
theorem elementP_lv (lv : List (List Attr)) (n : Nd) : (elementP lv n).2 = lv ∨ ∃ ms, pushP [] (n.s.map nsInit) = some ms ∧ (elementP lv n).2 = lv ++ [ms] := by
  by_cases h : namedP n.p n.l = false ∨ n.v ≠ []
  · exact .inl (by rw [elementP_1 h])
  · by_cases h2 : attrsOk [] n.s = true
    · cases h3 : pushP [] (n.s.map nsInit) with
      | none => exact .inl (by rw [elementP_3 h h2 h3])
      | some ms => exact .inr ⟨ms, rfl, by rw [elementP_4 h h2 h3]⟩
    · exact .inl (by rw [elementP_2 h (by simpa using h2)])
theorem stepP_inv {prev n : Nd} {lv lv' : List (List Attr)} {r r' : Nat} (h : stepP prev n lv r = some (lv', r')) (hd : n.d ≤ 201) (sm : NdSmall n) (hb : ∀ l ∈ lv, l.length < 2 ^ 40) : lv'.length ≤ 201 ∧ (∀ l ∈ lv', l.length < 2 ^ 40) ∧ r' ≤ r + 1 := by
  have h1 : (lv.take (n.d.toNat - 1)).length ≤ 200 := by rw [List.length_take]; omega
  have h2 : ∀ l ∈ lv.take (n.d.toNat - 1), l.length < 2 ^ 40 := fun l hl => hb l (List.mem_of_mem_take hl)
  unfold stepP at h
  split at h
  · split at h
    · simp only [Option.some.injEq, Prod.mk.injEq] at h
      obtain ⟨rfl, rfl⟩ := h
      have h4 : (if n.d = 1 then r + 1 else r) ≤ r + 1 := by split <;> omega
      rcases elementP_lv (lv.take (n.d.toNat - 1)) n with e | ⟨ms, e1, e⟩
      · rw [e]
        exact ⟨by omega, h2, h4⟩
      · rw [e]
        refine ⟨by rw [List.length_append, List.length_singleton]; omega, fun l hl => ?_, h4⟩
        rcases List.mem_append.1 hl with h5 | h5
        · exact h2 l h5
        · rw [List.mem_singleton.1 h5]
          have := pushP_len _ _ _ e1
          have h6 := sm.s
          simp only [List.length_nil, List.length_map] at this
          omega
    · cases h
  · split at h
    · cases h
    · split at h
      · cases h
      · simp only [Option.some.injEq, Prod.mk.injEq] at h
        obtain ⟨rfl, rfl⟩ := h
        exact ⟨by omega, h2, by omega⟩
theorem May_L0 (H : XM X) (bs : Nat) (ts : List Nd) (c : Option Nat) (hts : ts.length < 2 ^ 30) (hsm : ∀ n ∈ ts, NdSmall n) (Q : FQ) : ∀ (m i : Nat), ts.length - i = m → 0 < i → i ≤ ts.length → ∀ (prev : Nd) (lv : List (List Attr)) (r : Nat) (vh : VH) (vn : Nat), ts[i - 1]? = some prev → -1 ≤ prev.d → prev.d ≤ 201 → lv.length ≤ 201 → (∀ l ∈ lv, l.length < 2 ^ 40) → r ≤ i → Sc vh bs lv → bs < vn →
    (mayR prev lv r (ts.drop i) = none → ∀ vh' vn', vn ≤ vn' → (∀ c, c < vn → c ≠ bs → vh' c = vh c) → Q .ret [(2, .bool false)] vh' vn') →
    (∀ k, mayR prev lv r (ts.drop i) = some k → ∀ vh' vn' i' b, vn ≤ vn' → (∀ c, c < vn → c ≠ bs → vh' c = vh c) → Q (.exit 0) [(0, .sl 7 (ts.map encN) c), (3, .ptr bs 0), (4, .int .i64 (k : Int)), (5, .int .i64 i'), (28, .bool b)] vh' vn') →
    FLoop Tryz.prog X G (.loop c_ref15_May_L0) [(0, .sl 7 (ts.map encN) c), (3, .ptr bs 0), (4, .int .i64 (r : Int)), (5, .int .i64 (i : Int))] vh vn Q
  | m, i, hm, h0, hi, prev, lv, r, vh, vn, hp, hd0, hd1, hlv, hb, hr, hs, hbs, hR, hQ => by
    refine FLoop.round ?_
    repeat first | refine CondP.tt ?_ | refine CondP.ff ?_ | refine Owe.mk (by decide) ?_
    conv => whnf
    repeat ((first | refine CondP.tt ?_ | refine CondP.ff ?_ | refine Owe.mk (by decide) ?_); conv => whnf)
    refine CondP.mk (fun h1 => ?_) (fun h1 => ?_)
    · have hlt : i < ts.length := by simpa using h1
      have hd : ts.drop i = ts[i] :: ts.drop (i + 1) := (List.getElem_cons_drop hlt).symm
      have hnx : ts[i + 1 - 1]? = some ts[i] := by simp [hlt]
      have sm : NdSmall ts[i] := hsm _ (List.getElem_mem hlt)
      rw [hd] at hR hQ
      simp only [mayR] at hR hQ
      have e : wr .i64 ((i : Int) + 1) = ((i + 1 : Nat) : Int) := by rw [wr64] <;> omega
      have ew : wr .i64 (prev.d + 1) = prev.d + 1 := by rw [wr64] <;> omega
      have hprev : wr .i64 ((i : Int) - 1) = ((i - 1 : Nat) : Int) ∧ (ts.map encN)[i - 1]? = some (encN prev) := ⟨by rw [wr64] <;> omega, by rw [List.getElem?_map, hp]; rfl⟩
      have hBad : badPlace prev ts[i] = true → Q .ret [(2, .bool false)] vh vn := fun h => hR (by rw [if_pos h]) vh vn (Nat.le_refl _) fun _ _ _ => rfl
      repeat first | refine CondP.tt ?_ | refine CondP.ff ?_ | refine Owe.mk (by decide) ?_
      conv => whnf
      repeat ((first | refine CondP.tt ?_ | refine CondP.ff ?_ | refine Owe.mk (by decide) ?_); conv => whnf)
      refine Get.mk (i, encN ts[i]) ⟨rfl, by simp [hlt]⟩ ?_
      repeat first | refine CondP.tt ?_ | refine CondP.ff ?_ | refine Owe.mk (by decide) ?_
      conv => whnf
      repeat ((first | refine CondP.tt ?_ | refine CondP.ff ?_ | refine Owe.mk (by decide) ?_); conv => whnf)
      repeat' ((first | refine CondP.tt ?_ | refine CondP.ff ?_ | refine CondP.mk (fun _ => ?_) (fun _ => ?_) | refine Get.mk (i - 1, encN prev) hprev ?_) <;> (conv => whnf))
      all_goals first
        | exact hBad (by clear hBad hR hQ hs hb hprev hsm sm hd hnx; simp_all [badPlace]; done)
        | skip
      all_goals
        have hg : badPlace prev ts[i] = false := by clear hBad hR hQ hs hb hprev hsm sm hd hnx; first | (simp_all [badPlace]; done) | (simp_all [badPlace]; intros; omega)
        rw [hg] at hR hQ
        simp only [Bool.false_eq_true, if_false] at hR hQ
        have hgd : 1 ≤ ts[i].d ∧ ts[i].d ≤ 201 := by clear hBad hR hQ hs hb hprev hsm sm hd hnx; simp [badPlace] at hg; omega
        refine May_R11 H bs ts c hts i h0 hlt r (by omega) ts[i] prev hp sm hgd.1 lv (by omega) hb vh vn hs hbs _ (fun h2 vh2 n2 g2 f2 => ?_) (fun lv' r' h2 vh2 n2 g2 f2 s2 k hk => ?_)
        · rw [h2] at hR
          exact hR rfl _ _ g2 f2
        · rw [h2] at hR hQ
          obtain ⟨q1, q2, q3⟩ := stepP_inv h2 hgd.2 sm hb
          have nxt := May_L0 H bs ts c hts hsm Q (m - 1) (i + 1) (by omega) (by omega) (by omega) ts[i] lv' r' vh2 n2 hnx (by omega) hgd.2 q1 q2 (by omega) s2 (by omega) (fun h vh3 n3 g3 f3 => hR h vh3 n3 (by omega) fun c hc hcb => (f3 c (by omega) hcb).trans (f2 c hc hcb)) (fun k h vh3 n3 i' b g3 f3 => hQ k h vh3 n3 i' b (by omega) fun c hc hcb => (f3 c (by omega) hcb).trans (f2 c hc hcb))
          rcases hk with rfl | rfl
          · repeat first | refine CondP.tt ?_ | refine CondP.ff ?_ | refine Owe.mk (by decide) ?_
            conv => whnf
            repeat ((first | refine CondP.tt ?_ | refine CondP.ff ?_ | refine Owe.mk (by decide) ?_); conv => whnf)
            rw [e]
            exact nxt
          · repeat first | refine CondP.tt ?_ | refine CondP.ff ?_ | refine Owe.mk (by decide) ?_
            conv => whnf
            repeat ((first | refine CondP.tt ?_ | refine CondP.ff ?_ | refine Owe.mk (by decide) ?_); conv => whnf)
            rw [e]
            exact nxt
    · have hlt : i = ts.length := by simp at h1; omega
      rw [hlt, List.drop_length] at hQ
      repeat first | refine CondP.tt ?_ | refine CondP.ff ?_ | refine Owe.mk (by decide) ?_
      conv => whnf
      repeat ((first | refine CondP.tt ?_ | refine CondP.ff ?_ | refine Owe.mk (by decide) ?_); conv => whnf)
      exact hQ r rfl vh vn _ _ (Nat.le_refl _) fun _ _ _ => rfl
termination_by m => m
decreasing_by all_goals omega
theorem May_ok (H : XM X) (ts : List Nd) (c : Option Nat) (hts : ts.length < 2 ^ 30) (hsm : ∀ n ∈ ts, NdSmall n) (vh : VH) (vn : Nat) :
    WpCall Tryz.prog X G F_ref15_May [.sl 7 (ts.map encN) c] vh vn fun v vh' vn' => vn ≤ vn' ∧ (∀ c, c < vn → vh' c = vh c) ∧ v = .bool (mayP ts) := by
  apply k_ref15_May.run H.may
  repeat first | refine CondP.tt ?_ | refine CondP.ff ?_ | refine Owe.mk (by decide) ?_
  conv => whnf
  repeat ((first | refine CondP.tt ?_ | refine CondP.ff ?_ | refine Owe.mk (by decide) ?_); conv => whnf)
  refine CondP.mk (fun h1 => ?_) (fun h1 => ?_)
  · have h1' : ts = [] := List.eq_nil_of_length_eq_zero (by simp at h1; omega)
    subst h1'
    repeat first | refine CondP.tt ?_ | refine CondP.ff ?_ | refine Owe.mk (by decide) ?_
    conv => whnf
    repeat ((first | refine CondP.tt ?_ | refine CondP.ff ?_ | refine Owe.mk (by decide) ?_); conv => whnf)
    exact Get.mk _ (fun _ _ h => h) ⟨Nat.le_refl _, fun _ _ => rfl, rfl⟩
  · obtain ⟨n, l, rfl⟩ : ∃ n l, ts = n :: l := by
      cases ts with
      | nil => simp at h1
      | cons n l => exact ⟨n, l, rfl⟩
    repeat first | refine CondP.tt ?_ | refine CondP.ff ?_ | refine Owe.mk (by decide) ?_
    conv => whnf
    repeat ((first | refine CondP.tt ?_ | refine CondP.ff ?_ | refine Owe.mk (by decide) ?_); conv => whnf)
    refine CondP.mk (fun h2 => ?_) (fun h2 => ?_)
    · have h2' : ¬ (n :: l).length ≤ 1048576 := by simp at h2 ⊢; omega
      repeat first | refine CondP.tt ?_ | refine CondP.ff ?_ | refine Owe.mk (by decide) ?_
      conv => whnf
      repeat ((first | refine CondP.tt ?_ | refine CondP.ff ?_ | refine Owe.mk (by decide) ?_); conv => whnf)
      refine Get.mk _ (fun _ _ h => h) ⟨Nat.le_refl _, fun _ _ => rfl, ?_⟩
      simp only [mayP, decide_eq_false h2', Bool.false_and]
    · have h2' : (n :: l).length ≤ 1048576 := by simp at h2 ⊢; omega
      repeat first | refine CondP.tt ?_ | refine CondP.ff ?_ | refine Owe.mk (by decide) ?_
      conv => whnf
      repeat ((first | refine CondP.tt ?_ | refine CondP.ff ?_ | refine Owe.mk (by decide) ?_); conv => whnf)
      refine Get.mk (0, encN n) ⟨rfl, rfl⟩ ?_
      repeat first | refine CondP.tt ?_ | refine CondP.ff ?_ | refine Owe.mk (by decide) ?_
      conv => whnf
      repeat ((first | refine CondP.tt ?_ | refine CondP.ff ?_ | refine Owe.mk (by decide) ?_); conv => whnf)
      refine (SameNode_ok H.same H.samend n zeroDoc (.sl 4 (n.s.map encA) none) .nils (.inr ⟨_, rfl⟩) (.inl ⟨rfl, rfl⟩) (hsm n (.head _)).s vh vn).mono fun v vh' vn' he => ?_
      obtain ⟨e1, e2, e3⟩ := he
      rw [e1, e2, e3]
      clear e1 e2 e3
      repeat first | refine CondP.tt ?_ | refine CondP.ff ?_ | refine Owe.mk (by decide) ?_
      conv => whnf
      repeat ((first | refine CondP.tt ?_ | refine CondP.ff ?_ | refine Owe.mk (by decide) ?_); conv => whnf)
      refine CondP.mk (fun h3 => ?_) (fun h3 => ?_)
      · have h3' : sameNd n zeroDoc = false := by simpa using h3
        repeat first | refine CondP.tt ?_ | refine CondP.ff ?_ | refine Owe.mk (by decide) ?_
        conv => whnf
        repeat ((first | refine CondP.tt ?_ | refine CondP.ff ?_ | refine Owe.mk (by decide) ?_); conv => whnf)
        refine Get.mk _ (fun _ _ h => h) ⟨Nat.le_refl _, fun _ _ => rfl, ?_⟩
        simp only [mayP, h3', Bool.and_false, Bool.false_and]
      · have h3' : sameNd n zeroDoc = true := by simpa using h3
        have hz := sameNd_iff.1 h3'
        have hd0 : n.d = 0 := by rw [hz]; rfl
        repeat first | refine CondP.tt ?_ | refine CondP.ff ?_ | refine Owe.mk (by decide) ?_
        conv => whnf
        repeat ((first | refine CondP.tt ?_ | refine CondP.ff ?_ | refine Owe.mk (by decide) ?_); conv => whnf)
        refine May_L0 H vn (n :: l) c hts hsm _ l.length 1 (by simp) (by decide) (by simp) n [] 0 _ (vn + 1) rfl (by omega) (by omega) (by decide) nofun (by decide) ⟨_, vset_same⟩ (by omega) (fun h4 vh4 n4 g4 f4 => ?_) (fun k h4 vh4 n4 i' b g4 f4 => ?_)
        · repeat first | refine CondP.tt ?_ | refine CondP.ff ?_ | refine Owe.mk (by decide) ?_
          conv => whnf
          repeat ((first | refine CondP.tt ?_ | refine CondP.ff ?_ | refine Owe.mk (by decide) ?_); conv => whnf)
          refine Get.mk _ (fun _ _ h => h) ⟨(by omega : vn ≤ n4), fun c hc => (f4 c (by omega) (by omega)).trans (vset_ne (by omega)), ?_⟩
          have h4' : mayR n [] 0 l = none := h4
          simp only [mayP, h4', h3', reduceCtorEq, decide_false, Bool.and_false]
        · have h4' : mayR n [] 0 l = some k := h4
          repeat first | refine CondP.tt ?_ | refine CondP.ff ?_ | refine Owe.mk (by decide) ?_
          conv => whnf
          repeat ((first | refine CondP.tt ?_ | refine CondP.ff ?_ | refine Owe.mk (by decide) ?_); conv => whnf)
          refine Get.mk _ (fun _ _ h => h) ⟨(by omega : vn ≤ n4), fun c hc => (f4 c (by omega) (by omega)).trans (vset_ne (by omega)), ?_⟩
          simp only [mayP, h4', h3', decide_eq_true h2', Bool.true_and, Option.some.injEq]
          congr 1
          simp
          omega
end Go.Proofs.YtpcbnpekdmobpaaGreatDoor

open Go Go.Ev Go.VL
namespace Go.Proofs.YtpcbnpekdmobpaaGreatDoor
attribute [local irreducible] fApp
variable {X : Ovr} {G : Gt}
theorem app_own {α : Type} {enc : α → List V} {es by' : Nat} {ty : TypeId} {vh : VH} {nx b n : Nat} {c : Option Nat} {xs : List α} (hl : ∀ a, (enc a).length = es) (h0 : 0 < es) (hb : vh b = some (.cells (xs.map enc).flatten ty 0 false)) (hn : n = xs.length) (hc : c = none ∨ c = some n) (a : α) (hroom : room by' (xs.length + 1)) {env : VEnv} {k : V → VEnv → VH → Nat → Prop}
    (hk : ∀ vh', vh' nx = some (.cells ((xs ++ [a]).map enc).flatten ty 0 false) → (∀ d, d ≠ nx → d ≠ b → vh' d = vh d) → k (.msl nx 0 (xs ++ [a]).length es none) env vh' (nx + 1)) : fApp es by' ty (.msl b 0 n es c) (enc a) 1 env vh nx k := by
  subst hn
  have hfl := flat_len hl xs
  have hle : Nat.ble (xs.length + 1) xs.length = false := by
    cases hb : Nat.ble (xs.length + 1) xs.length with
    | false => rfl
    | true => have := ble_iff.1 hb; omega
  simp only [fApp, beq_iff.2 (rfl : es = es), cond_true]
  refine CondP.ff ⟨((xs.map enc).flatten, ty, 0, false), hb, ?_⟩
  rcases hc with rfl | rfl
  · simp only
    have hdv : ((xs.map enc).flatten.length - 0) / es = xs.length := by rw [hfl, Nat.sub_zero, Nat.mul_div_cancel _ h0]
    rw [hdv, hle]
    refine CondP.ff ⟨⟨trivial, by rw [hfl]; exact Nat.le_refl _, Nat.zero_le _, trivial, hroom⟩, ?_⟩
    have := hk (vset (vdel vh b) nx (.cells (((xs.map enc).flatten).take (xs.length * es) ++ enc a) ty (Ev.fzOff 0 0) false)) ?_ ?_
    · rw [List.length_append, List.length_singleton] at this; exact this
    · rw [vset_same, List.take_of_length_le (by rw [hfl]; exact Nat.le_refl _)]
      simp [fzOff]
    · intro d h1 h2
      rw [vset_ne h1, vdel_ne h2]
  · simp only
    rw [hle]
    refine CondP.ff ⟨⟨by rw [hfl]; omega, hroom⟩, ?_⟩
    have := hk (vset vh nx (.cells (((xs.map enc).flatten.drop 0).take (xs.length * es) ++ enc a) ty 0 false)) ?_ ?_
    · rw [List.length_append, List.length_singleton] at this; exact this
    · rw [vset_same, List.drop_zero, List.take_of_length_le (by rw [hfl]; exact Nat.le_refl _)]
      simp
    · intro d h1 h2
      rw [vset_ne h1]
def litP : List (List Nat) := [[], S_p, S_q]
def litL : List (List Nat) := [[], S_a, S_b, S_c, S_r, S_pi, S_q]
def litV : List (List Nat) := [[], S_x, S_32_y_10_, S_60__38__62__34_, S_13__9_, S_195__169__93__93__62_, S_text, S_c, S_32__45__32_, S_60__38__62_, S_d, Sa_32__63__32__62_]

structure MadeNd (n : Nd) : Prop where
  p : n.p ∈ litP
  l : n.l ∈ litL
  v : n.v ∈ litV
  s : n.s.length ≤ 6
  a : ∀ a ∈ n.s, ∃ c ∈ cand, a.p = c.p ∧ a.l = c.l ∧ a.v = c.v
theorem litP_small : ∀ s ∈ litP, s.length < 2 ^ 38 := by decide
theorem litL_small : ∀ s ∈ litL, s.length < 2 ^ 38 ∧ ∀ c ∈ s, c < 256 := by decide
theorem litV_small : ∀ s ∈ litV, s.length < 2 ^ 40 := by decide
theorem cand_small : ∀ a ∈ cand, a.p.length < 2 ^ 38 ∧ a.l.length < 2 ^ 38 ∧ a.v.length < 2 ^ 40 := by decide
theorem MadeNd.small {n : Nd} (h : MadeNd n) : NdSmall n where
  p := litP_small _ h.p
  l := (litL_small _ h.l).1
  v := litV_small _ h.v
  b := (litL_small _ h.l).2
  s := by have := h.s; omega
  a := fun a ha => by
    obtain ⟨c, hc, e1, e2, e3⟩ := h.a a ha
    obtain ⟨h1, h2, h3⟩ := cand_small c hc
    exact ⟨by rw [e1]; exact h1, by rw [e2]; exact h2, by rw [e3]; exact h3⟩
theorem nsA_same (lv : List (List Attr)) (a : Attr) : (nsA lv a).1.p = a.p ∧ (nsA lv a).1.l = a.l ∧ (nsA lv a).1.v = a.v := by
  unfold nsA
  split
  · exact ⟨rfl, rfl, rfl⟩
  · split <;> exact ⟨rfl, rfl, rfl⟩
theorem nsL_mem (lv : List (List Attr)) : ∀ (xs : List Attr) (a : Attr), a ∈ (nsL lv xs).1 → ∃ b ∈ xs, a.p = b.p ∧ a.l = b.l ∧ a.v = b.v
  | [], a, h => by cases h
  | x :: xs, a, h => by
    simp only [nsL] at h
    split at h
    · rcases List.mem_cons.1 h with rfl | h1
      · exact ⟨x, .head _, nsA_same lv x⟩
      · obtain ⟨b, hb, e⟩ := nsL_mem lv xs a h1
        exact ⟨b, .tail _ hb, e⟩
    · rcases List.mem_cons.1 h with rfl | h1
      · exact ⟨x, .head _, nsA_same lv x⟩
      · exact ⟨a, .tail _ h1, rfl, rfl, rfl⟩
theorem namesP_made {lv : List (List Attr)} {n : Nd} (h : MadeNd n) : MadeNd (namesP lv n).1 := by
  unfold namesP
  split
  · exact ⟨h.p, h.l, h.v, h.s, h.a⟩
  · refine ⟨h.p, h.l, h.v, ?_, fun a ha => ?_⟩
    · show (nsL lv n.s).1.length ≤ 6
      rw [nsL_len]; exact h.s
    · obtain ⟨b, hb, e1, e2, e3⟩ := nsL_mem lv n.s a ha
      obtain ⟨c, hc, f1, f2, f3⟩ := h.a b hb
      exact ⟨c, hc, e1.trans f1, e2.trans f2, e3.trans f3⟩
theorem namesP_d (lv : List (List Attr)) (n : Nd) : (namesP lv n).1.d = n.d := by
  unfold namesP
  split <;> rfl
structure XK (X : Ovr) : Prop extends XM X where
  attrs : X F_law16_attrs = none
  make : X F_law16_Make = none
structure LvOk (m : Nat) (lv : List (List Attr)) : Prop where
  len : lv.length ≤ m
  mem : ∀ l ∈ lv, l.length < 2 ^ 30
theorem LvOk.up {m k : Nat} {lv : List (List Attr)} (h : LvOk m lv) (hk : m ≤ k) : LvOk k lv := ⟨Nat.le_trans h.len hk, h.mem⟩
theorem LvOk.push {m : Nat} {lv : List (List Attr)} (h : LvOk m lv) {l : List Attr} (hl : l.length < 2 ^ 30) : LvOk (m + 1) (lv ++ [l]) := by
  refine ⟨?_, fun x hx => ?_⟩
  · have := h.len
    rw [List.length_append, List.length_singleton]; omega
  · rcases List.mem_append.1 hx with h1 | h1
    · exact h.mem x h1
    · rw [List.mem_singleton.1 h1]; exact hl
end Go.Proofs.YtpcbnpekdmobpaaGreatDoor

open Go Go.Ev Go.VL
namespace Go.Proofs.YtpcbnpekdmobpaaGreatDoor
attribute [local irreducible] fApp
variable {X : Ovr} {G : Gt}
def encI (n : Int) : List V := [.int .i64 n]
abbrev mkE (ls : List Int) (bt bs tn : Nat) (c : Option Nat) (root : Bool) (i : Int) (tl : VEnv) : VEnv := (0, .sl 1 (ls.map encI) none) :: (3, .msl bt 0 tn 7 c) :: (4, .ptr bs 0) :: (5, .bool root) :: (6, .int .i64 i) :: tl
theorem cand_made {xs : List Attr} (F : FewA 6 xs) : ∀ a ∈ xs, ∃ c ∈ cand, a.p = c.p ∧ a.l = c.l ∧ a.v = c.v := fun a ha => ⟨a, F.mem a ha, rfl, rfl, rfl⟩
theorem LvOk.b {m : Nat} {lv : List (List Attr)} (h : LvOk m lv) : ∀ l ∈ lv, l.length < 2 ^ 40 := fun l hl => Nat.lt_trans (h.mem l hl) (by decide)
set_option maxHeartbeats 4000000 in
theorem Make_R24 (H : XK X) (ls : List Int) (bt bs bn tn : Nat) (c : Option Nat) (root : Bool) (i u d : Int) (lv : List (List Attr)) (m : Nat) (L : LvOk m lv) (hm : m < 2 ^ 20) (vh : VH) (vn : Nat) (ty : TypeId) (hs : Sc vh bs lv) (hbs : bs < bn) (hbn : bn < vn) (hn : vh bn = some (.cells (encNv ⟨0, d, [], [], [], [], []⟩ .nils) ty 0 false)) (Q : FQ)
    (hC : ∀ lv' vh' vn' tl, vn ≤ vn' → Sc vh' bs lv' → LvOk (m + 1) lv' → (∀ c, c < bn → c ≠ bs → vh' c = vh c) → Q (.exit 1) (mkE ls bt bs tn c root i tl) vh' vn')
    (hN : ∀ n' av lv' root' vh' vn', vn ≤ vn' → MadeNd n' → n'.d = d → NdAt vh' bn n' av → SlR encA 4 vh' av n'.s → (∀ c, blkOf av c → bn < c ∧ c < vn') → Sc vh' bs lv' → LvOk (m + 1) lv' → (∀ c, c < bn → c ≠ bs → vh' c = vh c) → Q .norm (mkE ls bt bs tn c root' i [(11, .ptr bn 0)]) vh' vn') :
    FLoop Tryz.prog X G (.cut c_law16_Make_R24) (mkE ls bt bs tn c root i [(7, .int .u64 u), (10, .int .i64 d), (11, .ptr bn 0)]) vh vn Q := by
  refine FLoop.cut ?_
  have hr1 := u_rem (x := wr .u64 (u.tdiv 8)) (m := 4) wru64_lt.1 (by decide)
  have hr2 := u_rem (x := wr .u64 (u.tdiv 256)) (m := 4) wru64_lt.1 (by decide)
  have dbn : bn ≠ bs := by omega
  have ln := L.len
  repeat first | refine CondP.tt ?_ | refine CondP.ff ?_ | refine Owe.mk (by decide) ?_
  conv => whnf
  repeat ((first | refine CondP.tt ?_ | refine CondP.ff ?_ | refine Owe.mk (by decide) ?_); conv => whnf)
  refine Get.lit (f := fun s => [V.str s]) (zs := [S_a, S_b, S_c, S_a]) rfl hr1.1 hr1.2 fun hlt1 => ?_
  have hz1 : ([S_a, S_b, S_c, S_a])[((wr .u64 (u.tdiv 8)).tmod 4).toNat] ∈ litL := (by decide : ∀ s ∈ [S_a, S_b, S_c, S_a], s ∈ litL) _ (List.getElem_mem hlt1)
  generalize ([S_a, S_b, S_c, S_a])[((wr .u64 (u.tdiv 8)).tmod 4).toNat] = z1 at hz1
  repeat first | refine CondP.tt ?_ | refine CondP.ff ?_ | refine Owe.mk (by decide) ?_
  conv => whnf
  repeat ((first | refine CondP.tt ?_ | refine CondP.ff ?_ | refine Owe.mk (by decide) ?_); conv => whnf)
  refine Get.mk (_, _, _, _) hn ?_
  conv => whnf
  refine ⟨⟨(by decide : 1 ≤ 7), Nat.zero_le _⟩, ?_⟩
  conv => whnf
  repeat ((first | refine CondP.tt ?_ | refine CondP.ff ?_ | refine Owe.mk (by decide) ?_); conv => whnf)
  refine Get.mk (_, _, _, _) vset_same ?_
  conv => whnf
  refine ⟨⟨(by decide : 4 ≤ 7), Nat.zero_le _⟩, ?_⟩
  conv => whnf
  repeat ((first | refine CondP.tt ?_ | refine CondP.ff ?_ | refine Owe.mk (by decide) ?_); conv => whnf)
  generalize hv1 : vset (vset vh bn _) bn _ = vh1
  have hn1 : vh1 bn = some (.cells (encNv ⟨2, d, [], z1, [], [], []⟩ .nils) ty 0 false) := by rw [← hv1]; exact vset_same
  have f1 : ∀ c, c ≠ bn → vh1 c = vh c := fun c hc => by rw [← hv1]; exact (vset_ne hc).trans (vset_ne hc)
  clear hv1
  refine (attrs_ok H.attrs (wr .u64 (u.tdiv 32)) vh1 vn).mono fun v2 vh2 n2 he => ?_
  obtain ⟨g2, f2, xs, F, A⟩ := he
  have hav : ∀ c, blkOf v2 c → vn ≤ c ∧ c < n2 := fun c hc => by
    rcases A with ⟨rfl | rfl, _⟩ | ⟨b, hb1, hb2, rfl, _⟩
    · cases hc
    · cases hc
    · obtain rfl : c = b := hc
      exact ⟨hb1, hb2⟩
  have hn2 := (f2 bn hbn).trans hn1
  have s2 : Sc vh2 bs lv := Sc_at hs ((f2 bs (by omega)).trans (f1 bs dbn.symm))
  have fr2 : ∀ c, c < bn → vh2 c = vh c := fun c hc => (f2 c (by omega)).trans (f1 c (by omega))
  clear f1 hn1 hn hs f2
  obtain ⟨w, hw⟩ : ∃ w, w = v2 := ⟨_, rfl⟩
  have xl := F.len
  rcases id A with ⟨rfl | rfl, hnil⟩ | ⟨ba, hb1, hb2, rfl, hb4⟩
  all_goals
    repeat first | refine CondP.tt ?_ | refine CondP.ff ?_ | refine Owe.mk (by decide) ?_
    conv => whnf
    repeat ((first | refine CondP.tt ?_ | refine CondP.ff ?_ | refine Owe.mk (by decide) ?_); conv => whnf)
    refine Get.mk (_, _, _, _) hn2 ?_
    conv => whnf
    refine ⟨⟨(by decide : 7 ≤ 7), Nat.zero_le _⟩, ?_⟩
    conv => whnf
    repeat ((first | refine CondP.tt ?_ | refine CondP.ff ?_ | refine Owe.mk (by decide) ?_); conv => whnf)
    refine Get.lit (f := fun s => [V.str s]) (zs := [[], [], S_p, S_q]) rfl hr2.1 hr2.2 fun hlt2 => ?_
    have hz2 : ([[], [], S_p, S_q])[((wr .u64 (u.tdiv 256)).tmod 4).toNat] ∈ litP := (by decide : ∀ s ∈ [[], [], S_p, S_q], s ∈ litP) _ (List.getElem_mem hlt2)
    generalize ([[], [], S_p, S_q])[((wr .u64 (u.tdiv 256)).tmod 4).toNat] = z2 at hz2
    repeat first | refine CondP.tt ?_ | refine CondP.ff ?_ | refine Owe.mk (by decide) ?_
    conv => whnf
    repeat ((first | refine CondP.tt ?_ | refine CondP.ff ?_ | refine Owe.mk (by decide) ?_); conv => whnf)
    refine Get.mk (_, _, _, _) vset_same ?_
    conv => whnf
    refine ⟨⟨(by decide : 3 ≤ 7), Nat.zero_le _⟩, ?_⟩
    conv => whnf
    repeat ((first | refine CondP.tt ?_ | refine CondP.ff ?_ | refine Owe.mk (by decide) ?_); conv => whnf)
    generalize hv4 : vset (vset vh2 bn _) bn _ = vh4
    have hn4 : vh4 bn = some (.cells (encNv ⟨2, d, z2, z1, [], [], xs⟩ w) ty 0 false) := by rw [hw, ← hv4]; exact vset_same
    rw [hw] at hn4
    have f4 : ∀ c, c ≠ bn → vh4 c = vh2 c := fun c hc => by rw [← hv4]; exact (vset_ne hc).trans (vset_ne hc)
    clear hv4
    have s4 := Sc_at s2 (f4 bs dbn.symm)
    have A4 := A.r.at (vh' := vh4) fun c hc => f4 c (by have := hav c hc; omega)
    have M4 : MadeNd ⟨2, d, z2, z1, [], [], xs⟩ := ⟨hz2, hz1, .head _, F.len, cand_made F⟩
    have fr4 : ∀ c, c < bn → vh4 c = vh c := fun c hc => (f4 c (by omega)).trans (fr2 c hc)
    refine Get.mk (_, _, _, _) hn4 ?_
    conv => whnf
    refine Get.mk _ rfl ?_
    conv => whnf
    repeat ((first | refine CondP.tt ?_ | refine CondP.ff ?_ | refine Owe.mk (by decide) ?_); conv => whnf)
    refine (Push_ok H.declares H.push bs lv _ xs vh4 n2 s4 (by omega) (by omega) A4 (fun c hc => (hav c hc).2) (by omega)).mono fun r vh5 n5 he => ?_
    obtain ⟨g5, f5, he⟩ := he
    have fr5 : ∀ c, c < bn → c ≠ bs → vh5 c = vh c := fun c hc hcb => (f5 c (by omega) hcb).trans (fr4 c hc)
    cases hp : pushP [] xs with
    | none =>
      rw [hp] at he
      obtain ⟨rfl, s5⟩ := he
      repeat first | refine CondP.tt ?_ | refine CondP.ff ?_ | refine Owe.mk (by decide) ?_
      conv => whnf
      repeat ((first | refine CondP.tt ?_ | refine CondP.ff ?_ | refine Owe.mk (by decide) ?_); conv => whnf)
      exact hC lv vh5 n5 _ (by omega) s5 (L.up (by omega)) fr5
    | some ms =>
      rw [hp] at he
      obtain ⟨rfl, s5⟩ := he
      have hms : ms.length < 2 ^ 30 := by
        have := pushP_len _ _ _ hp
        simp only [List.length_nil] at this
        omega
      have L5 := L.push hms
      have hn5 := (f5 bn (by omega) dbn).trans hn4
      have A5 := A4.at (vh' := vh5) fun c hc => f5 c (hav c hc).2 (by have := hav c hc; omega)
      have dav1 := fun h => Nat.lt_irrefl _ (Nat.lt_of_lt_of_le hbn (hav bn h).1)
      have dav2 := fun h => Nat.lt_irrefl _ (Nat.lt_trans hbs (Nat.lt_of_lt_of_le hbn (hav bs h).1))
      repeat first | refine CondP.tt ?_ | refine CondP.ff ?_ | refine Owe.mk (by decide) ?_
      conv => whnf
      repeat ((first | refine CondP.tt ?_ | refine CondP.ff ?_ | refine Owe.mk (by decide) ?_); conv => whnf)
      refine (Names_ok H.declares H.uri H.names bs bn (lv ++ [ms]) L5.b (by have := L5.len; omega) ⟨2, d, z2, z1, [], [], xs⟩ _ (by show xs.length < _; omega) vh5 n5 dbn.symm dav2 dav1 s5 ⟨ty, hn5⟩ A5).mono fun r vh6 n6 he => ?_
      obtain ⟨e1, e2, ⟨ty6, hn6⟩, A6, f6⟩ := he
      rw [e1, e2]
      have s6 := Sc_at s5 (f6 bs dbn.symm dav2)
      have fr6 : ∀ c, c < bn → c ≠ bs → vh6 c = vh c := fun c hc hcb => (f6 c (by omega) fun h => by have := hav c h; omega).trans (fr5 c hc hcb)
      have M6 := namesP_made (lv := lv ++ [ms]) M4
      repeat first | refine CondP.tt ?_ | refine CondP.ff ?_ | refine Owe.mk (by decide) ?_
      conv => whnf
      repeat ((first | refine CondP.tt ?_ | refine CondP.ff ?_ | refine Owe.mk (by decide) ?_); conv => whnf)
      refine CondP.mk (fun h7 => ?_) (fun h7 => ?_)
      · repeat first | refine CondP.tt ?_ | refine CondP.ff ?_ | refine Owe.mk (by decide) ?_
        conv => whnf
        repeat ((first | refine CondP.tt ?_ | refine CondP.ff ?_ | refine Owe.mk (by decide) ?_); conv => whnf)
        refine (Pop_ok H.pop bs (lv ++ [ms]) vh6 n5 s6 (by have := L5.len; omega)).mono fun r vh7 n7 he => ?_
        obtain ⟨e1, f7, s7, b7, e2⟩ := he
        rw [e1, e2]
        rw [List.dropLast_concat] at s7
        have hn7 := (f7 bn dbn).trans hn6
        repeat first | refine CondP.tt ?_ | refine CondP.ff ?_ | refine Owe.mk (by decide) ?_
        conv => whnf
        repeat ((first | refine CondP.tt ?_ | refine CondP.ff ?_ | refine Owe.mk (by decide) ?_); conv => whnf)
        refine Get.mk (_, _, _, _) hn7 ?_
        conv => whnf
        refine ⟨⟨(by decide : 3 ≤ 7), Nat.zero_le _⟩, ?_⟩
        conv => whnf
        repeat ((first | refine CondP.tt ?_ | refine CondP.ff ?_ | refine Owe.mk (by decide) ?_); conv => whnf)
        refine Get.mk (_, _, _, _) vset_same ?_
        conv => whnf
        refine ⟨⟨(by decide : 7 ≤ 7), Nat.zero_le _⟩, ?_⟩
        conv => whnf
        repeat ((first | refine CondP.tt ?_ | refine CondP.ff ?_ | refine Owe.mk (by decide) ?_); conv => whnf)
        generalize hv8 : vset (vset vh7 bn _) bn _ = vh8
        have hn8 : vh8 bn = some (.cells (encNv { (namesP (lv ++ [ms]) ⟨2, d, z2, z1, [], [], xs⟩).1 with p := [], s := [] } .nils) ty6 0 false) := by rw [← hv8]; exact vset_same
        have f8 : ∀ c, c ≠ bn → vh8 c = vh7 c := fun c hc => by rw [← hv8]; exact (vset_ne hc).trans (vset_ne hc)
        clear hv8
        have s8 := Sc_at s7 (f8 bs dbn.symm)
        have fr8 : ∀ c, c < bn → c ≠ bs → vh8 c = vh c := fun c hc hcb => (f8 c (by omega)).trans ((f7 c hcb).trans (fr6 c hc hcb))
        have M8 : MadeNd { (namesP (lv ++ [ms]) ⟨2, d, z2, z1, [], [], xs⟩).1 with p := [], s := [] } := ⟨.head _, M6.l, M6.v, by show 0 ≤ 6; omega, nofun⟩
        have d8 : ({ (namesP (lv ++ [ms]) ⟨2, d, z2, z1, [], [], xs⟩).1 with p := [], s := [] } : Nd).d = d := namesP_d _ _
        have e8 : ({ (namesP (lv ++ [ms]) ⟨2, d, z2, z1, [], [], xs⟩).1 with p := [], s := [] } : Nd).s = [] := rfl
        generalize ({ (namesP (lv ++ [ms]) ⟨2, d, z2, z1, [], [], xs⟩).1 with p := [], s := [] } : Nd) = N8 at hn8 M8 d8 e8
        refine (Push_ok H.declares H.push bs lv .nils [] vh8 n5 s8 (by omega) (by omega) (.inl ⟨rfl, rfl⟩) (fun c hc => by cases hc) (by decide)).mono fun r vh9 n9 he => ?_
        obtain ⟨g9, f9, he⟩ := he
        have he : r = .int .i64 0 ∧ Sc vh9 bs (lv ++ [[]]) := he
        obtain ⟨rfl, s9⟩ := he
        have L9 := L.push (l := []) (by decide)
        have hn9 := (f9 bn (by omega) dbn).trans hn8
        have fr9 : ∀ c, c < bn → c ≠ bs → vh9 c = vh c := fun c hc hcb => (f9 c (by omega) hcb).trans (fr8 c hc hcb)
        repeat first | refine CondP.tt ?_ | refine CondP.ff ?_ | refine Owe.mk (by decide) ?_
        conv => whnf
        repeat ((first | refine CondP.tt ?_ | refine CondP.ff ?_ | refine Owe.mk (by decide) ?_); conv => whnf)
        refine (Names_ok H.declares H.uri H.names bs bn (lv ++ [[]]) L9.b (by have := L9.len; omega) N8 .nils (by rw [e8]; decide) vh9 n9 dbn.symm (fun h => h) (fun h => h) s9 ⟨ty6, hn9⟩ (.inl ⟨e8, rfl⟩)).mono fun r vh10 n10 he => ?_
        obtain ⟨e1, e2, N10, A10, f10⟩ := he
        rw [e1, e2]
        have s10 := Sc_at s9 (f10 bs dbn.symm fun h => h)
        have fr10 : ∀ c, c < bn → c ≠ bs → vh10 c = vh c := fun c hc hcb => (f10 c (by omega) fun h => h).trans (fr9 c hc hcb)
        repeat first | refine CondP.tt ?_ | refine CondP.ff ?_ | refine Owe.mk (by decide) ?_
        conv => whnf
        repeat ((first | refine CondP.tt ?_ | refine CondP.ff ?_ | refine Owe.mk (by decide) ?_); conv => whnf)
        refine CondP.mk (fun h8 => ?_) (fun h8 => ?_)
        · repeat first | refine CondP.tt ?_ | refine CondP.ff ?_ | refine Owe.mk (by decide) ?_
          conv => whnf
          repeat ((first | refine CondP.tt ?_ | refine CondP.ff ?_ | refine Owe.mk (by decide) ?_); conv => whnf)
          exact hC (lv ++ [[]]) vh10 n9 _ (by omega) s10 L9 fr10
        · repeat first | refine CondP.tt ?_ | refine CondP.ff ?_ | refine Owe.mk (by decide) ?_
          conv => whnf
          repeat ((first | refine CondP.tt ?_ | refine CondP.ff ?_ | refine Owe.mk (by decide) ?_); conv => whnf)
          refine CondP.mk (fun h9 => ?_) (fun h9 => ?_)
          · repeat first | refine CondP.tt ?_ | refine CondP.ff ?_ | refine Owe.mk (by decide) ?_
            conv => whnf
            repeat ((first | refine CondP.tt ?_ | refine CondP.ff ?_ | refine Owe.mk (by decide) ?_); conv => whnf)
            exact hN _ _ (lv ++ [[]]) _ vh10 n9 (by omega) (namesP_made M8) ((namesP_d _ _).trans d8) N10 A10 (fun c hc => by cases hc) s10 L9 fr10
          · repeat first | refine CondP.tt ?_ | refine CondP.ff ?_ | refine Owe.mk (by decide) ?_
            conv => whnf
            repeat ((first | refine CondP.tt ?_ | refine CondP.ff ?_ | refine Owe.mk (by decide) ?_); conv => whnf)
            exact hN _ _ (lv ++ [[]]) _ vh10 n9 (by omega) (namesP_made M8) ((namesP_d _ _).trans d8) N10 A10 (fun c hc => by cases hc) s10 L9 fr10
      · repeat first | refine CondP.tt ?_ | refine CondP.ff ?_ | refine Owe.mk (by decide) ?_
        conv => whnf
        repeat ((first | refine CondP.tt ?_ | refine CondP.ff ?_ | refine Owe.mk (by decide) ?_); conv => whnf)
        refine CondP.mk (fun h9 => ?_) (fun h9 => ?_)
        · repeat first | refine CondP.tt ?_ | refine CondP.ff ?_ | refine Owe.mk (by decide) ?_
          conv => whnf
          repeat ((first | refine CondP.tt ?_ | refine CondP.ff ?_ | refine Owe.mk (by decide) ?_); conv => whnf)
          exact hN _ _ (lv ++ [ms]) _ vh6 n5 (by omega) M6 (namesP_d _ _) ⟨ty6, hn6⟩ A6 (fun c hc => by have := hav c hc; omega) s6 L5 fr6
        · repeat first | refine CondP.tt ?_ | refine CondP.ff ?_ | refine Owe.mk (by decide) ?_
          conv => whnf
          repeat ((first | refine CondP.tt ?_ | refine CondP.ff ?_ | refine Owe.mk (by decide) ?_); conv => whnf)
          exact hN _ _ (lv ++ [ms]) _ vh6 n5 (by omega) M6 (namesP_d _ _) ⟨ty6, hn6⟩ A6 (fun c hc => by have := hav c hc; omega) s6 L5 fr6
end Go.Proofs.YtpcbnpekdmobpaaGreatDoor

open Go Go.Ev Go.VL
namespace Go.Proofs.YtpcbnpekdmobpaaGreatDoor
attribute [local irreducible] fApp
variable {X : Ovr} {G : Gt}
set_option maxHeartbeats 4000000 in
theorem Make_R22 (H : XK X) (ls : List Int) (bt bs bn tn : Nat) (c : Option Nat) (root : Bool) (i u d k : Int) (last : Nd) (lv : List (List Attr)) (m : Nat) (L : LvOk m lv) (hm : m < 2 ^ 20) (vh : VH) (vn : Nat) (ty : TypeId) (hs : Sc vh bs lv) (hbs : bs < bn) (hbn : bn < vn) (hn : vh bn = some (.cells (encNv ⟨0, d, [], [], [], [], []⟩ .nils) ty 0 false)) (Q : FQ)
    (hC : ∀ lv' vh' vn' tl, vn ≤ vn' → Sc vh' bs lv' → LvOk (m + 1) lv' → (∀ c, c < bn → c ≠ bs → vh' c = vh c) → Q (.exit 1) (mkE ls bt bs tn c root i tl) vh' vn')
    (hN : ∀ n' av lv' root' vh' vn', vn ≤ vn' → MadeNd n' → n'.d = d → NdAt vh' bn n' av → SlR encA 4 vh' av n'.s → (∀ c, blkOf av c → bn < c ∧ c < vn') → Sc vh' bs lv' → LvOk (m + 1) lv' → (∀ c, c < bn → c ≠ bs → vh' c = vh c) → Q .norm (mkE ls bt bs tn c root' i [(11, .ptr bn 0)]) vh' vn') :
    FLoop Tryz.prog X G (.cut c_law16_Make_R22) (mkE ls bt bs tn c root i [(7, .int .u64 u), (8, .bx (encN last)), (10, .int .i64 d), (11, .ptr bn 0), (12, .int .u64 k)]) vh vn Q := by
  refine FLoop.cut ?_
  have hr1 := u_rem (x := wr .u64 (u.tdiv 8)) (m := 6) wru64_lt.1 (by decide)
  have hr2 := u_rem (x := wr .u64 (u.tdiv 8)) (m := 4) wru64_lt.1 (by decide)
  have hr3 := u_rem (x := wr .u64 (u.tdiv 8)) (m := 2) wru64_lt.1 (by decide)
  have hr4 := u_rem (x := wr .u64 (u.tdiv 16)) (m := 3) wru64_lt.1 (by decide)
  have dbn : bn ≠ bs := by omega
  repeat first | refine CondP.tt ?_ | refine CondP.ff ?_ | refine Owe.mk (by decide) ?_
  conv => whnf
  repeat ((first | refine CondP.tt ?_ | refine CondP.ff ?_ | refine Owe.mk (by decide) ?_); conv => whnf)
  refine CondP.mk (fun h1 => ?_) (fun h1 => ?_)
  · repeat first | refine CondP.tt ?_ | refine CondP.ff ?_ | refine Owe.mk (by decide) ?_
    conv => whnf
    repeat ((first | refine CondP.tt ?_ | refine CondP.ff ?_ | refine Owe.mk (by decide) ?_); conv => whnf)
    refine CondP.mk (fun h2 => ?_) (fun h2 => ?_)
    · repeat first | refine CondP.tt ?_ | refine CondP.ff ?_ | refine Owe.mk (by decide) ?_
      conv => whnf
      repeat ((first | refine CondP.tt ?_ | refine CondP.ff ?_ | refine Owe.mk (by decide) ?_); conv => whnf)
      refine CondP.mk (fun h3 => ?_) (fun h3 => ?_)
      · repeat first | refine CondP.tt ?_ | refine CondP.ff ?_ | refine Owe.mk (by decide) ?_
        conv => whnf
        repeat ((first | refine CondP.tt ?_ | refine CondP.ff ?_ | refine Owe.mk (by decide) ?_); conv => whnf)
        exact hC lv vh vn _ (Nat.le_refl _) hs (L.up (by omega)) fun _ _ _ => rfl
      · repeat first | refine CondP.tt ?_ | refine CondP.ff ?_ | refine Owe.mk (by decide) ?_
        conv => whnf
        repeat ((first | refine CondP.tt ?_ | refine CondP.ff ?_ | refine Owe.mk (by decide) ?_); conv => whnf)
        exact Make_R24 H ls bt bs bn tn c root i u d lv m L hm vh vn ty hs hbs hbn hn _ hC hN
    · repeat first | refine CondP.tt ?_ | refine CondP.ff ?_ | refine Owe.mk (by decide) ?_
      conv => whnf
      repeat ((first | refine CondP.tt ?_ | refine CondP.ff ?_ | refine Owe.mk (by decide) ?_); conv => whnf)
      exact Make_R24 H ls bt bs bn tn c root i u d lv m L hm vh vn ty hs hbs hbn hn _ hC hN
  · repeat first | refine CondP.tt ?_ | refine CondP.ff ?_ | refine Owe.mk (by decide) ?_
    conv => whnf
    repeat ((first | refine CondP.tt ?_ | refine CondP.ff ?_ | refine Owe.mk (by decide) ?_); conv => whnf)
    refine CondP.mk (fun h2 => ?_) (fun h2 => ?_)
    · repeat first | refine CondP.tt ?_ | refine CondP.ff ?_ | refine Owe.mk (by decide) ?_
      conv => whnf
      repeat ((first | refine CondP.tt ?_ | refine CondP.ff ?_ | refine Owe.mk (by decide) ?_); conv => whnf)
      refine Get.lit (f := fun s => [V.str s]) (zs := [S_x, S_32_y_10_, S_60__38__62__34_, S_13__9_, S_195__169__93__93__62_, S_text]) rfl hr1.1 hr1.2 fun hlt => ?_
      have hz1 : ([S_x, S_32_y_10_, S_60__38__62__34_, S_13__9_, S_195__169__93__93__62_, S_text])[((wr .u64 (u.tdiv 8)).tmod 6).toNat] ∈ litV := (by decide : ∀ s ∈ [S_x, S_32_y_10_, S_60__38__62__34_, S_13__9_, S_195__169__93__93__62_, S_text], s ∈ litV) _ (List.getElem_mem hlt)
      generalize ([S_x, S_32_y_10_, S_60__38__62__34_, S_13__9_, S_195__169__93__93__62_, S_text])[((wr .u64 (u.tdiv 8)).tmod 6).toNat] = z1 at hz1
      repeat first | refine CondP.tt ?_ | refine CondP.ff ?_ | refine Owe.mk (by decide) ?_
      conv => whnf
      repeat ((first | refine CondP.tt ?_ | refine CondP.ff ?_ | refine Owe.mk (by decide) ?_); conv => whnf)
      refine Get.mk (_, _, _, _) hn ?_
      conv => whnf
      refine ⟨⟨(by decide : 1 ≤ 7), Nat.zero_le _⟩, ?_⟩
      conv => whnf
      repeat ((first | refine CondP.tt ?_ | refine CondP.ff ?_ | refine Owe.mk (by decide) ?_); conv => whnf)
      refine Get.mk (_, _, _, _) vset_same ?_
      conv => whnf
      refine ⟨⟨(by decide : 6 ≤ 7), Nat.zero_le _⟩, ?_⟩
      conv => whnf
      repeat ((first | refine CondP.tt ?_ | refine CondP.ff ?_ | refine Owe.mk (by decide) ?_); conv => whnf)
      generalize hv1 : vset (vset vh bn _) bn _ = vh1
      have hn1 : vh1 bn = some (.cells (encNv ⟨3, d, [], [], [], z1, []⟩ .nils) ty 0 false) := by rw [← hv1]; exact vset_same
      have f1 : ∀ c, c ≠ bn → vh1 c = vh c := fun c hc => by rw [← hv1]; exact (vset_ne hc).trans (vset_ne hc)
      have s1 := Sc_at hs (f1 bs dbn.symm)
      have fr1 : ∀ c, c < bn → c ≠ bs → vh1 c = vh c := fun c hc _ => f1 c (by omega)
      have M1 : MadeNd ⟨3, d, [], [], [], z1, []⟩ := ⟨.head _, .head _, hz1, by show 0 ≤ 6; omega, nofun⟩
      clear hv1
      repeat' ((first | refine CondP.tt ?_ | refine CondP.ff ?_ | refine CondP.mk (fun _ => ?_) (fun _ => ?_)) <;> (conv => whnf))
      all_goals first
        | exact hC lv vh1 vn _ (Nat.le_refl _) s1 (L.up (by omega)) fr1
        | exact hN _ _ lv _ vh1 vn (Nat.le_refl _) M1 rfl ⟨ty, hn1⟩ (.inl ⟨rfl, rfl⟩) (fun c hc => by cases hc) s1 (L.up (by omega)) fr1
    · repeat first | refine CondP.tt ?_ | refine CondP.ff ?_ | refine Owe.mk (by decide) ?_
      conv => whnf
      repeat ((first | refine CondP.tt ?_ | refine CondP.ff ?_ | refine Owe.mk (by decide) ?_); conv => whnf)
      refine CondP.mk (fun h3 => ?_) (fun h3 => ?_)
      · repeat first | refine CondP.tt ?_ | refine CondP.ff ?_ | refine Owe.mk (by decide) ?_
        conv => whnf
        repeat ((first | refine CondP.tt ?_ | refine CondP.ff ?_ | refine Owe.mk (by decide) ?_); conv => whnf)
        refine Get.lit (f := fun s => [V.str s]) (zs := [[], S_c, S_32__45__32_, S_60__38__62_]) rfl hr2.1 hr2.2 fun hlt => ?_
        have hz1 : ([[], S_c, S_32__45__32_, S_60__38__62_])[((wr .u64 (u.tdiv 8)).tmod 4).toNat] ∈ litV := (by decide : ∀ s ∈ [[], S_c, S_32__45__32_, S_60__38__62_], s ∈ litV) _ (List.getElem_mem hlt)
        generalize ([[], S_c, S_32__45__32_, S_60__38__62_])[((wr .u64 (u.tdiv 8)).tmod 4).toNat] = z1 at hz1
        repeat first | refine CondP.tt ?_ | refine CondP.ff ?_ | refine Owe.mk (by decide) ?_
        conv => whnf
        repeat ((first | refine CondP.tt ?_ | refine CondP.ff ?_ | refine Owe.mk (by decide) ?_); conv => whnf)
        refine Get.mk (_, _, _, _) hn ?_
        conv => whnf
        refine ⟨⟨(by decide : 1 ≤ 7), Nat.zero_le _⟩, ?_⟩
        conv => whnf
        repeat ((first | refine CondP.tt ?_ | refine CondP.ff ?_ | refine Owe.mk (by decide) ?_); conv => whnf)
        refine Get.mk (_, _, _, _) vset_same ?_
        conv => whnf
        refine ⟨⟨(by decide : 6 ≤ 7), Nat.zero_le _⟩, ?_⟩
        conv => whnf
        repeat ((first | refine CondP.tt ?_ | refine CondP.ff ?_ | refine Owe.mk (by decide) ?_); conv => whnf)
        exact hN ⟨4, d, [], [], [], z1, []⟩ .nils lv _ _ vn (Nat.le_refl _) ⟨.head _, .head _, hz1, by show 0 ≤ 6; omega, nofun⟩ rfl ⟨ty, vset_same⟩ (.inl ⟨rfl, rfl⟩) (fun c hc => by cases hc) (Sc_at hs ((vset_ne dbn.symm).trans (vset_ne dbn.symm))) (L.up (by omega)) fun c hc _ => (vset_ne (by omega)).trans (vset_ne (by omega))
      · repeat first | refine CondP.tt ?_ | refine CondP.ff ?_ | refine Owe.mk (by decide) ?_
        conv => whnf
        repeat ((first | refine CondP.tt ?_ | refine CondP.ff ?_ | refine Owe.mk (by decide) ?_); conv => whnf)
        refine Get.lit (f := fun s => [V.str s]) (zs := [S_pi, S_q]) rfl hr3.1 hr3.2 fun hlt => ?_
        have hz1 : ([S_pi, S_q])[((wr .u64 (u.tdiv 8)).tmod 2).toNat] ∈ litL := (by decide : ∀ s ∈ [S_pi, S_q], s ∈ litL) _ (List.getElem_mem hlt)
        generalize ([S_pi, S_q])[((wr .u64 (u.tdiv 8)).tmod 2).toNat] = z1 at hz1
        repeat first | refine CondP.tt ?_ | refine CondP.ff ?_ | refine Owe.mk (by decide) ?_
        conv => whnf
        repeat ((first | refine CondP.tt ?_ | refine CondP.ff ?_ | refine Owe.mk (by decide) ?_); conv => whnf)
        refine Get.lit (f := fun s => [V.str s]) (zs := [[], S_d, Sa_32__63__32__62_]) rfl hr4.1 hr4.2 fun hlt => ?_
        have hz2 : ([[], S_d, Sa_32__63__32__62_])[((wr .u64 (u.tdiv 16)).tmod 3).toNat] ∈ litV := (by decide : ∀ s ∈ [[], S_d, Sa_32__63__32__62_], s ∈ litV) _ (List.getElem_mem hlt)
        generalize ([[], S_d, Sa_32__63__32__62_])[((wr .u64 (u.tdiv 16)).tmod 3).toNat] = z2 at hz2
        repeat first | refine CondP.tt ?_ | refine CondP.ff ?_ | refine Owe.mk (by decide) ?_
        conv => whnf
        repeat ((first | refine CondP.tt ?_ | refine CondP.ff ?_ | refine Owe.mk (by decide) ?_); conv => whnf)
        refine Get.mk (_, _, _, _) hn ?_
        conv => whnf
        refine ⟨⟨(by decide : 1 ≤ 7), Nat.zero_le _⟩, ?_⟩
        conv => whnf
        repeat ((first | refine CondP.tt ?_ | refine CondP.ff ?_ | refine Owe.mk (by decide) ?_); conv => whnf)
        refine Get.mk (_, _, _, _) vset_same ?_
        conv => whnf
        refine ⟨⟨(by decide : 4 ≤ 7), Nat.zero_le _⟩, ?_⟩
        conv => whnf
        repeat ((first | refine CondP.tt ?_ | refine CondP.ff ?_ | refine Owe.mk (by decide) ?_); conv => whnf)
        refine Get.mk (_, _, _, _) vset_same ?_
        conv => whnf
        refine ⟨⟨(by decide : 6 ≤ 7), Nat.zero_le _⟩, ?_⟩
        conv => whnf
        repeat ((first | refine CondP.tt ?_ | refine CondP.ff ?_ | refine Owe.mk (by decide) ?_); conv => whnf)
        exact hN ⟨5, d, [], z1, [], z2, []⟩ .nils lv _ _ vn (Nat.le_refl _) ⟨.head _, hz1, hz2, by show 0 ≤ 6; omega, nofun⟩ rfl ⟨ty, vset_same⟩ (.inl ⟨rfl, rfl⟩) (fun c hc => by cases hc) (Sc_at hs ((vset_ne dbn.symm).trans ((vset_ne dbn.symm).trans (vset_ne dbn.symm)))) (L.up (by omega)) fun c hc _ => (vset_ne (by omega)).trans ((vset_ne (by omega)).trans (vset_ne (by omega)))
theorem Make_L1 (H : XK X) (ls : List Int) (bt bs tn : Nat) (c : Option Nat) (root : Bool) (i u d : Int) (last : Nd) (hd : 1 ≤ d) (vn : Nat) (Q : FQ) : ∀ (m : Nat) (lv : List (List Attr)) (vh : VH), lv.length = m → lv.length < 2 ^ 40 → Sc vh bs lv →
    (∀ vh' b lv', lv'.length ≤ lv.length → (∀ l ∈ lv', l ∈ lv) → Sc vh' bs lv' → (∀ c, c ≠ bs → vh' c = vh c) → Q (.exit 2) (mkE ls bt bs tn c root i [(7, .int .u64 u), (8, .bx (encN last)), (10, .int .i64 d), (76, .bool b)]) vh' vn) →
    FLoop Tryz.prog X G (.loop c_law16_Make_L1) (mkE ls bt bs tn c root i [(7, .int .u64 u), (8, .bx (encN last)), (10, .int .i64 d)]) vh vn Q
  | m, lv, vh, hm, hl, hs, hQ => by
    refine FLoop.round ?_
    obtain ⟨ty, hs4⟩ := id hs
    repeat first | refine CondP.tt ?_ | refine CondP.ff ?_ | refine Owe.mk (by decide) ?_
    conv => whnf
    repeat ((first | refine CondP.tt ?_ | refine CondP.ff ?_ | refine Owe.mk (by decide) ?_); conv => whnf)
    refine Get.mk (_, _, _, _) hs4 ?_
    conv => whnf
    refine Get.mk _ rfl ?_
    conv => whnf
    repeat ((first | refine CondP.tt ?_ | refine CondP.ff ?_ | refine Owe.mk (by decide) ?_); conv => whnf)
    refine CondP.mk (fun h1 => ?_) (fun h1 => ?_)
    · have h1' : d ≤ (lv.length : Int) := by simpa using h1
      repeat first | refine CondP.tt ?_ | refine CondP.ff ?_ | refine Owe.mk (by decide) ?_
      conv => whnf
      repeat ((first | refine CondP.tt ?_ | refine CondP.ff ?_ | refine Owe.mk (by decide) ?_); conv => whnf)
      refine (Pop_ok H.pop bs lv vh vn hs hl).mono fun v vh' vn' he => ?_
      obtain ⟨e1, f1, s1, b1, e2⟩ := he
      rw [e1, e2]
      repeat first | refine CondP.tt ?_ | refine CondP.ff ?_ | refine Owe.mk (by decide) ?_
      conv => whnf
      repeat ((first | refine CondP.tt ?_ | refine CondP.ff ?_ | refine Owe.mk (by decide) ?_); conv => whnf)
      refine Make_L1 H ls bt bs tn c root i u d last hd vn Q (m - 1) lv.dropLast vh' (by rw [List.length_dropLast]; omega) (by rw [List.length_dropLast]; omega) s1 fun vh2 b lv2 l2 m2 s2 f2 => hQ vh2 b lv2 ?_ (fun l hl => List.dropLast_subset _ (m2 l hl)) s2 fun c hc => (f2 c hc).trans (f1 c hc)
      rw [List.length_dropLast] at l2
      omega
    · repeat first | refine CondP.tt ?_ | refine CondP.ff ?_ | refine Owe.mk (by decide) ?_
      conv => whnf
      repeat ((first | refine CondP.tt ?_ | refine CondP.ff ?_ | refine Owe.mk (by decide) ?_); conv => whnf)
      exact hQ vh _ lv (Nat.le_refl _) (fun _ h => h) hs fun _ _ => rfl
termination_by m => m
decreasing_by all_goals omega
end Go.Proofs.YtpcbnpekdmobpaaGreatDoor

open Go Go.Ev Go.VL
namespace Go.Proofs.YtpcbnpekdmobpaaGreatDoor
attribute [local irreducible] fApp
variable {X : Ovr} {G : Gt}
theorem encN_len (n : Nd) : (encN n).length = 7 := rfl
set_option maxHeartbeats 4000000 in
theorem Make_R17 (H : XK X) (ls : List Int) (bt bs : Nat) (ts : List Nd) (c : Option Nat) (root : Bool) (i u d : Int) (last : Nd) (lv : List (List Attr)) (m : Nat) (L : LvOk m lv) (hm : m < 2 ^ 20) (vh : VH) (vn : Nat) (hs : Sc vh bs lv) (hbs : bs < vn) (hbt : bt < vn) (dbt : bt ≠ bs) (ht : vh bt = some (.cells (ts.map encN).flatten T_api_Node 0 false)) (hc : c = none ∨ c = some ts.length) (hts : ts.length < 2 ^ 20) (hd : 1 ≤ d) (Q : FQ)
    (hC : ∀ lv' vh' vn' tl, vn ≤ vn' → Sc vh' bs lv' → LvOk (m + 1) lv' → (∀ c, c < vn → c ≠ bs → vh' c = vh c) → Q (.exit 1) (mkE ls bt bs ts.length c root i tl) vh' vn')
    (hN : ∀ n' b' lv' root' vh' vn', vn ≤ b' → b' < vn' → MadeNd n' → n'.d = d → vh' b' = some (.cells ((ts ++ [n']).map encN).flatten T_api_Node 0 false) → Sc vh' bs lv' → LvOk (m + 1) lv' → (∀ c, c < vn → c ≠ bs → c ≠ bt → vh' c = vh c) → Q .norm (mkE ls b' bs (ts ++ [n']).length none root' i []) vh' vn') :
    FLoop Tryz.prog X G (.cut c_law16_Make_R17) (mkE ls bt bs ts.length c root i [(7, .int .u64 u), (8, .bx (encN last)), (10, .int .i64 d)]) vh vn Q := by
  refine FLoop.cut ?_
  repeat first | refine CondP.tt ?_ | refine CondP.ff ?_ | refine Owe.mk (by decide) ?_
  conv => whnf
  repeat ((first | refine CondP.tt ?_ | refine CondP.ff ?_ | refine Owe.mk (by decide) ?_); conv => whnf)
  refine Make_L1 H ls bt bs ts.length c root i u d last hd vn _ lv.length lv vh rfl (by have := L.len; omega) hs fun vh1 b lv1 l1 m1 s1 f1 => ?_
  have L1 : LvOk m lv1 := ⟨Nat.le_trans l1 L.len, fun l hl => L.mem l (m1 l hl)⟩
  repeat first | refine CondP.tt ?_ | refine CondP.ff ?_ | refine Owe.mk (by decide) ?_
  conv => whnf
  repeat ((first | refine CondP.tt ?_ | refine CondP.ff ?_ | refine Owe.mk (by decide) ?_); conv => whnf)
  refine Get.mk (_, _, _, _) vset_same ?_
  conv => whnf
  refine ⟨⟨(by decide : 7 ≤ 7), Nat.zero_le _⟩, ?_⟩
  conv => whnf
  repeat ((first | refine CondP.tt ?_ | refine CondP.ff ?_ | refine Owe.mk (by decide) ?_); conv => whnf)
  generalize hv2 : vset (vset vh1 vn _) vn _ = vh2
  have hn2 : vh2 vn = some (.cells (encNv ⟨0, d, [], [], [], [], []⟩ .nils) T_api_Node 0 false) := by rw [← hv2]; exact vset_same
  have f2 : ∀ c, c ≠ vn → vh2 c = vh1 c := fun c hc => by rw [← hv2]; exact (vset_ne hc).trans (vset_ne hc)
  have s2 := Sc_at s1 (f2 bs (by omega))
  have fr2 : ∀ c, c < vn → c ≠ bs → vh2 c = vh c := fun c hc hcb => (f2 c (by omega)).trans (f1 c hcb)
  clear hv2
  refine Make_R22 H ls bt bs vn ts.length c root i u d _ last lv1 m L1 hm vh2 (vn + 1) T_api_Node s2 hbs (by omega) hn2 _ (fun lv3 vh3 n3 tl g3 s3 L3 f3 => ?_) (fun n3 av lv3 root3 vh3 nx3 g3 M3 d3 N3 A3 hav s3 L3 f3 => ?_)
  · exact hC lv3 vh3 n3 tl (by omega) s3 L3 fun c hc hcb => (f3 c hc hcb).trans (fr2 c hc hcb)
  · obtain ⟨k', d', p', l', u', v', s'⟩ := n3
    obtain ⟨ty3, N3⟩ := N3
    have ht3 := (f3 bt hbt dbt).trans ((fr2 bt hbt dbt).trans ht)
    have fr3 : ∀ c, c < vn → c ≠ bs → vh3 c = vh c := fun c hc hcb => (f3 c hc hcb).trans (fr2 c hc hcb)
    rcases id A3 with ⟨h3, rfl⟩ | ⟨h3, rfl⟩ | ⟨ba, ta, rfl, h4⟩
    · obtain rfl : s' = [] := h3
      repeat first | refine CondP.tt ?_ | refine CondP.ff ?_ | refine Owe.mk (by decide) ?_
      conv => whnf
      repeat ((first | refine CondP.tt ?_ | refine CondP.ff ?_ | refine Owe.mk (by decide) ?_); conv => whnf)
      refine Get.mk (_, _, _, _) N3 ?_
      conv => whnf
      repeat ((first | refine CondP.tt ?_ | refine CondP.ff ?_ | refine Owe.mk (by decide) ?_); conv => whnf)
      refine Get.mk (encNv ⟨k', d', p', l', u', v', []⟩ .nils) ⟨rfl, (by decide : 7 ≤ 7)⟩ ?_
      repeat first | refine CondP.tt ?_ | refine CondP.ff ?_ | refine Owe.mk (by decide) ?_
      conv => whnf
      repeat ((first | refine CondP.tt ?_ | refine CondP.ff ?_ | refine Owe.mk (by decide) ?_); conv => whnf)
      refine app_own (a := (⟨k', d', p', l', u', v', []⟩ : Nd)) encN_len (by decide) ht3 rfl hc ⟨?_, ?_⟩ fun vh4 h4 f4 => ?_
      · omega
      · show _ < 9223372036854775808; omega
      repeat first | refine CondP.tt ?_ | refine CondP.ff ?_ | refine Owe.mk (by decide) ?_
      conv => whnf
      repeat ((first | refine CondP.tt ?_ | refine CondP.ff ?_ | refine Owe.mk (by decide) ?_); conv => whnf)
      exact hN _ nx3 lv3 root3 vh4 (nx3 + 1) (by omega) (by omega) M3 d3 h4 (Sc_at s3 (f4 bs (by omega) (Ne.symm dbt))) L3 fun c hc hcb hct => (f4 c (by omega) hct).trans (fr3 c hc hcb)
    · obtain rfl : s' = [] := h3
      repeat first | refine CondP.tt ?_ | refine CondP.ff ?_ | refine Owe.mk (by decide) ?_
      conv => whnf
      repeat ((first | refine CondP.tt ?_ | refine CondP.ff ?_ | refine Owe.mk (by decide) ?_); conv => whnf)
      refine Get.mk (_, _, _, _) N3 ?_
      conv => whnf
      repeat ((first | refine CondP.tt ?_ | refine CondP.ff ?_ | refine Owe.mk (by decide) ?_); conv => whnf)
      refine Get.mk (encNv ⟨k', d', p', l', u', v', []⟩ (.sl 4 [] (some 0))) ⟨rfl, (by decide : 7 ≤ 7)⟩ ?_
      repeat first | refine CondP.tt ?_ | refine CondP.ff ?_ | refine Owe.mk (by decide) ?_
      conv => whnf
      repeat ((first | refine CondP.tt ?_ | refine CondP.ff ?_ | refine Owe.mk (by decide) ?_); conv => whnf)
      refine app_own (a := (⟨k', d', p', l', u', v', []⟩ : Nd)) encN_len (by decide) ht3 rfl hc ⟨?_, ?_⟩ fun vh4 h4 f4 => ?_
      · omega
      · show _ < 9223372036854775808; omega
      repeat first | refine CondP.tt ?_ | refine CondP.ff ?_ | refine Owe.mk (by decide) ?_
      conv => whnf
      repeat ((first | refine CondP.tt ?_ | refine CondP.ff ?_ | refine Owe.mk (by decide) ?_); conv => whnf)
      exact hN _ nx3 lv3 root3 vh4 (nx3 + 1) (by omega) (by omega) M3 d3 h4 (Sc_at s3 (f4 bs (by omega) (Ne.symm dbt))) L3 fun c hc hcb hct => (f4 c (by omega) hct).trans (fr3 c hc hcb)
    · repeat first | refine CondP.tt ?_ | refine CondP.ff ?_ | refine Owe.mk (by decide) ?_
      conv => whnf
      repeat ((first | refine CondP.tt ?_ | refine CondP.ff ?_ | refine Owe.mk (by decide) ?_); conv => whnf)
      refine Get.mk (_, _, _, _) N3 ?_
      conv => whnf
      repeat ((first | refine CondP.tt ?_ | refine CondP.ff ?_ | refine Owe.mk (by decide) ?_); conv => whnf)
      refine Get.mk (encNv ⟨k', d', p', l', u', v', s'⟩ (.msl ba 0 s'.length 4 none)) ⟨rfl, (by decide : 7 ≤ 7)⟩ ?_
      repeat first | refine CondP.tt ?_ | refine CondP.ff ?_ | refine Owe.mk (by decide) ?_
      conv => whnf
      repeat ((first | refine CondP.tt ?_ | refine CondP.ff ?_ | refine Owe.mk (by decide) ?_); conv => whnf)
      refine Get.mk (_, _, _, _) h4 ?_
      conv => whnf
      refine ⟨fz_owe encA_len (by decide), ?_⟩
      conv => whnf
      refine Get.mk _ (fz_pieces encA_len) ?_
      conv => whnf
      repeat ((first | refine CondP.tt ?_ | refine CondP.ff ?_ | refine Owe.mk (by decide) ?_); conv => whnf)
      have hba := hav ba rfl
      have f5 : ∀ c, c ≠ ba → vdel vh3 ba c = vh3 c := fun c hc => vdel_ne hc
      generalize vdel vh3 ba = vh5 at f5
      refine app_own (a := (⟨k', d', p', l', u', v', s'⟩ : Nd)) encN_len (by decide) ((f5 bt (by omega)).trans ht3) rfl hc ⟨?_, ?_⟩ fun vh4 h4 f4 => ?_
      · omega
      · show _ < 9223372036854775808; omega
      repeat first | refine CondP.tt ?_ | refine CondP.ff ?_ | refine Owe.mk (by decide) ?_
      conv => whnf
      repeat ((first | refine CondP.tt ?_ | refine CondP.ff ?_ | refine Owe.mk (by decide) ?_); conv => whnf)
      exact hN _ nx3 lv3 root3 vh4 (nx3 + 1) (by omega) (by omega) M3 d3 h4 (Sc_at s3 ((f4 bs (by omega) (Ne.symm dbt)).trans (f5 bs (by omega)))) L3 fun c hc hcb hct => ((f4 c (by omega) hct).trans (f5 c (by omega))).trans (fr3 c hc hcb)
set_option maxHeartbeats 4000000 in
theorem Make_R9 (H : XK X) (ls : List Int) (bt bs : Nat) (ts : List Nd) (c : Option Nat) (root : Bool) (i u : Int) (hu0 : 0 ≤ u) (hu1 : u < 18446744073709551616) (last : Nd) (hl0 : 0 ≤ last.d) (hl1 : last.d < 2 ^ 30) (hl2 : last.d = 0 → last.k = 1) (lv : List (List Attr)) (m : Nat) (L : LvOk m lv) (hm : m < 2 ^ 20) (vh : VH) (vn : Nat) (hs : Sc vh bs lv) (hbs : bs < vn) (hbt : bt < vn) (dbt : bt ≠ bs) (ht : vh bt = some (.cells (ts.map encN).flatten T_api_Node 0 false)) (hc : c = none ∨ c = some ts.length) (hts : ts.length < 2 ^ 20) (Q : FQ)
    (hC : ∀ lv' vh' vn' tl, vn ≤ vn' → Sc vh' bs lv' → LvOk (m + 1) lv' → (∀ c, c < vn → c ≠ bs → vh' c = vh c) → Q (.exit 1) (mkE ls bt bs ts.length c root i tl) vh' vn')
    (hN : ∀ n' b' lv' root' vh' vn', vn ≤ b' → b' < vn' → MadeNd n' → 1 ≤ n'.d → n'.d ≤ last.d + 1 → vh' b' = some (.cells ((ts ++ [n']).map encN).flatten T_api_Node 0 false) → Sc vh' bs lv' → LvOk (m + 1) lv' → (∀ c, c < vn → c ≠ bs → c ≠ bt → vh' c = vh c) → Q .norm (mkE ls b' bs (ts ++ [n']).length none root' i []) vh' vn') :
    FLoop Tryz.prog X G (.cut c_law16_Make_R9) (mkE ls bt bs ts.length c root i [(7, .int .u64 u), (8, .bx (encN last))]) vh vn Q := by
  refine FLoop.cut ?_
  have go : ∀ d, 1 ≤ d → d ≤ last.d + 1 → FLoop Tryz.prog X G (.cut c_law16_Make_R17) (mkE ls bt bs ts.length c root i [(7, .int .u64 u), (8, .bx (encN last)), (10, .int .i64 d)]) vh vn Q := fun d h1 h2 => Make_R17 H ls bt bs ts c root i u d last lv m L hm vh vn hs hbs hbt dbt ht hc hts h1 Q hC (fun a1 a2 a3 a4 a5 a6 a7 a8 a9 a10 a11 a12 a13 a14 => hN a1 a2 a3 a4 a5 a6 a7 a8 a9 (by omega) (by omega) a11 a12 a13 a14)
  have q0 : 0 ≤ u.tdiv 64 ∧ u.tdiv 64 < 2 ^ 60 := by rw [Int.tdiv_eq_ediv_of_nonneg hu0]; omega
  have q2 : wr .i64 (wr .u64 (u.tdiv 64)) = u.tdiv 64 := by rw [wru64 (by omega) (by omega), wr64 (by omega) (by omega)]
  have q1 := u_rem (x := u.tdiv 64) (m := 3) q0.1 (by decide)
  have e1 : wr .i64 (last.d + 1) = last.d + 1 := by rw [wr64] <;> omega
  have e2 : wr .i64 (last.d + 1 - (u.tdiv 64).tmod 3) = last.d + 1 - (u.tdiv 64).tmod 3 := by rw [wr64] <;> omega
  have e3 : wr .i64 (last.d - (u.tdiv 64).tmod 3) = last.d - (u.tdiv 64).tmod 3 := by rw [wr64] <;> omega
  clear hC hN L ht hs
  repeat first | refine CondP.tt ?_ | refine CondP.ff ?_ | refine Owe.mk (by decide) ?_
  conv => whnf
  repeat ((first | refine CondP.tt ?_ | refine CondP.ff ?_ | refine Owe.mk (by decide) ?_); conv => whnf)
  repeat' ((first | refine CondP.tt ?_ | refine CondP.ff ?_ | refine Owe.mk (by decide) ?_ | refine CondP.mk (fun _ => ?_) (fun _ => ?_)) <;> (conv => whnf))
  all_goals refine go _ ?_ ?_
  all_goals clear go
  all_goals
    simp only [q2, e1, e2, e3, decide_eq_true_eq, decide_eq_false_iff_not, cond_false, cond_true] at *
    omega
end Go.Proofs.YtpcbnpekdmobpaaGreatDoor

open Go Go.Ev Go.VL
namespace Go.Proofs.YtpcbnpekdmobpaaGreatDoor
attribute [local irreducible] fApp
variable {X : Ovr} {G : Gt}
theorem encN_all {xs : List Nd} {i : Nat} (h : i < xs.length) : ((xs.map encN).flatten.drop (0 + i * 7)).take 7 = encN xs[i] ∧ 0 + i * 7 + 7 ≤ (xs.map encN).flatten.length := by
  rw [Nat.zero_add]
  exact ⟨flat_take encN_len xs i h, flat_lt encN_len xs i h⟩
structure MadeT (ts : List Nd) : Prop where
  ne : 0 < ts.length
  nd : ∀ n ∈ ts, MadeNd n ∧ 0 ≤ n.d ∧ (n.d = 0 → n.k = 1) ∧ n.d < ts.length
theorem MadeT.app {ts : List Nd} (h : MadeT ts) {n : Nd} (hn : MadeNd n) (h1 : 1 ≤ n.d) (h2 : n.d ≤ ts.length) : MadeT (ts ++ [n]) := by
  refine ⟨by simp, fun a ha => ?_⟩
  rw [List.length_append, List.length_singleton]
  rcases List.mem_append.1 ha with h3 | h3
  · obtain ⟨q1, q2, q3, q4⟩ := h.nd a h3
    exact ⟨q1, q2, q3, by omega⟩
  · rw [List.mem_singleton.1 h3]
    exact ⟨hn, by omega, by omega, by omega⟩
structure MSt (lo bs bt : Nat) (ts : List Nd) (c : Option Nat) (lv : List (List Attr)) (m : Nat) (vh0 vh : VH) (vn : Nat) : Prop where
  sc : Sc vh bs lv
  L : LvOk m lv
  hbs : bs < vn
  hbt : bt < vn
  d : bt ≠ bs
  lo1 : lo ≤ bs
  lo2 : lo ≤ bt
  t : vh bt = some (.cells (ts.map encN).flatten T_api_Node 0 false)
  hc : c = none ∨ c = some ts.length
  made : MadeT ts
  len : ts.length ≤ m + 1
  fr : ∀ c, c < lo → vh c = vh0 c
theorem Make_L0 (H : XK X) (ls : List Int) (lo bs : Nat) (vh0 : VH) (Q : FQ) (hQ : ∀ bt' ts' c' root' lv' m' vh' vn' i' b, lo ≤ vn' → m' ≤ 30 → MSt lo bs bt' ts' c' lv' m' vh0 vh' vn' → Q (.exit 0) (mkE ls bt' bs ts'.length c' root' i' [(24, .bool b)]) vh' vn') : ∀ (m i : Nat), 30 - i = m → i ≤ 30 → ∀ (bt : Nat) (ts : List Nd) (c : Option Nat) (root : Bool) (lv : List (List Attr)) (vh : VH) (vn : Nat), lo ≤ vn → MSt lo bs bt ts c lv i vh0 vh vn →
    FLoop Tryz.prog X G (.loop c_law16_Make_L0) (mkE ls bt bs ts.length c root i []) vh vn Q
  | m, i, hm, hi, bt, ts, c, root, lv, vh, vn, hlo, S => by
    refine FLoop.round ?_
    have ne := S.made.ne
    have hlen := S.len
    repeat first | refine CondP.tt ?_ | refine CondP.ff ?_ | refine Owe.mk (by decide) ?_
    conv => whnf
    repeat ((first | refine CondP.tt ?_ | refine CondP.ff ?_ | refine Owe.mk (by decide) ?_); conv => whnf)
    refine CondP.mk (fun h1 => ?_) (fun h1 => ?_)
    · have h1' : i < ls.length := by simpa using h1
      repeat first | refine CondP.tt ?_ | refine CondP.ff ?_ | refine Owe.mk (by decide) ?_
      conv => whnf
      repeat ((first | refine CondP.tt ?_ | refine CondP.ff ?_ | refine Owe.mk (by decide) ?_); conv => whnf)
      refine CondP.mk (fun h2 => ?_) (fun h2 => ?_)
      · have h2' : i < 30 := by simp at h2; omega
        have e : wr .i64 ((i : Int) + 1) = ((i + 1 : Nat) : Int) := by rw [wr64] <;> omega
        have hj : ts.length - 1 < ts.length := by omega
        obtain ⟨q1, q2, q3, q4⟩ := S.made.nd ts[ts.length - 1] (List.getElem_mem hj)
        have hu := wru64_lt (x := ls[i])
        repeat first | refine CondP.tt ?_ | refine CondP.ff ?_ | refine Owe.mk (by decide) ?_
        conv => whnf
        repeat ((first | refine CondP.tt ?_ | refine CondP.ff ?_ | refine Owe.mk (by decide) ?_); conv => whnf)
        refine Get.mk (i, encI ls[i]) ⟨rfl, by simp [h1']⟩ ?_
        repeat first | refine CondP.tt ?_ | refine CondP.ff ?_ | refine Owe.mk (by decide) ?_
        conv => whnf
        repeat ((first | refine CondP.tt ?_ | refine CondP.ff ?_ | refine Owe.mk (by decide) ?_); conv => whnf)
        refine Get.mk (ts.length - 1) ⟨?_, hj⟩ ?_
        · simp only [Int.ofNat_eq_natCast]
          rw [wr64] <;> omega
        repeat first | refine CondP.tt ?_ | refine CondP.ff ?_ | refine Owe.mk (by decide) ?_
        conv => whnf
        repeat ((first | refine CondP.tt ?_ | refine CondP.ff ?_ | refine Owe.mk (by decide) ?_); conv => whnf)
        refine Get.mk (_, _, _, _) S.t ?_
        conv => whnf
        repeat ((first | refine CondP.tt ?_ | refine CondP.ff ?_ | refine Owe.mk (by decide) ?_); conv => whnf)
        refine Get.mk _ (encN_all hj) ?_
        repeat first | refine CondP.tt ?_ | refine CondP.ff ?_ | refine Owe.mk (by decide) ?_
        conv => whnf
        repeat ((first | refine CondP.tt ?_ | refine CondP.ff ?_ | refine Owe.mk (by decide) ?_); conv => whnf)
        refine Make_R9 H ls bt bs ts c root i (wr .u64 ls[i]) hu.1 hu.2 ts[ts.length - 1] q2 (by omega) q3 lv i S.L (by omega) vh vn S.sc S.hbs S.hbt S.d S.t S.hc (by omega) _ (fun lv3 vh3 n3 tl g3 s3 L3 f3 => ?_) (fun n' b' lv3 root3 vh3 n3 g3 g4 M3 d3 d4 t3 s3 L3 f3 => ?_)
        · repeat first | refine CondP.tt ?_ | refine CondP.ff ?_ | refine Owe.mk (by decide) ?_
          conv => whnf
          repeat ((first | refine CondP.tt ?_ | refine CondP.ff ?_ | refine Owe.mk (by decide) ?_); conv => whnf)
          rw [e]
          exact Make_L0 H ls lo bs vh0 Q hQ (m - 1) (i + 1) (by omega) (by omega) bt ts c root lv3 vh3 n3 (by omega) ⟨s3, L3, by have := S.hbs; omega, by have := S.hbt; omega, S.d, S.lo1, S.lo2, (f3 bt S.hbt S.d).trans S.t, S.hc, S.made, by omega, fun c hc => (f3 c (by omega) (by have := S.lo1; omega)).trans (S.fr c hc)⟩
        · repeat first | refine CondP.tt ?_ | refine CondP.ff ?_ | refine Owe.mk (by decide) ?_
          conv => whnf
          repeat ((first | refine CondP.tt ?_ | refine CondP.ff ?_ | refine Owe.mk (by decide) ?_); conv => whnf)
          rw [e]
          exact Make_L0 H ls lo bs vh0 Q hQ (m - 1) (i + 1) (by omega) (by omega) b' (ts ++ [n']) none root3 lv3 vh3 n3 (by omega) ⟨s3, L3, by have := S.hbs; omega, g4, by have := S.hbs; omega, S.lo1, by omega, t3, .inl rfl, S.made.app M3 d3 (by omega), by rw [List.length_append, List.length_singleton]; omega, fun c hc => (f3 c (by omega) (by have := S.lo1; omega) (by have := S.lo2; omega)).trans (S.fr c hc)⟩
      · repeat first | refine CondP.tt ?_ | refine CondP.ff ?_ | refine Owe.mk (by decide) ?_
        conv => whnf
        repeat ((first | refine CondP.tt ?_ | refine CondP.ff ?_ | refine Owe.mk (by decide) ?_); conv => whnf)
        exact hQ bt ts c root lv i vh vn _ _ hlo hi S
    · repeat first | refine CondP.tt ?_ | refine CondP.ff ?_ | refine Owe.mk (by decide) ?_
      conv => whnf
      repeat ((first | refine CondP.tt ?_ | refine CondP.ff ?_ | refine Owe.mk (by decide) ?_); conv => whnf)
      exact hQ bt ts c root lv i vh vn _ _ hlo hi S
termination_by m => m
decreasing_by all_goals omega
theorem fz_owe_c {α : Type} {enc : α → List V} {es : Nat} {xs : List α} {c : Option Nat} (hl : ∀ a, (enc a).length = es) (h0 : 0 < es) (hc : c = none ∨ c = some xs.length) : 0 < es ∧ 0 + xs.length * es ≤ (xs.map enc).flatten.length ∧ ∀ x, c = some x → xs.length ≤ x := by
  refine ⟨h0, by rw [flat_len hl]; omega, fun x hx => ?_⟩
  rcases hc with rfl | rfl
  · cases hx
  · cases hx; exact Nat.le_refl _
def rootNd : Nd := ⟨2, 1, [], S_r, [], [], []⟩

structure Made (ts : List Nd) : Prop where
  may : mayP ts = true
  len : ts.length ≤ 32
  nd : ∀ n ∈ ts, MadeNd n ∧ 0 ≤ n.d ∧ n.d ≤ 32
theorem root_may : mayP [zeroDoc, rootNd] = true := by decide +kernel
theorem root_made : MadeNd rootNd := ⟨.head _, by decide, .head _, by decide, nofun⟩
theorem zero_made : MadeNd zeroDoc := ⟨.head _, .head _, .head _, by decide, nofun⟩
set_option maxHeartbeats 1000000 in
theorem Make_ok (H : XK X) (ls : List Int) (vh : VH) (vn : Nat) :
    WpCall Tryz.prog X G F_law16_Make [.sl 1 (ls.map encI) none] vh vn fun v vh' vn' => vn ≤ vn' ∧ (∀ c, c < vn → vh' c = vh c) ∧ ∃ ts, v = .sl 7 (ts.map encN) none ∧ Made ts := by
  apply k_law16_Make.run H.make
  repeat first | refine CondP.tt ?_ | refine CondP.ff ?_ | refine Owe.mk (by decide) ?_
  conv => whnf
  repeat ((first | refine CondP.tt ?_ | refine CondP.ff ?_ | refine Owe.mk (by decide) ?_); conv => whnf)
  refine Make_L0 H ls vn (vn + 1) vh _ (fun bt ts c root lv m vh1 n1 i b g1 hm S => ?_) 30 0 rfl (by decide) vn [zeroDoc] (some 1) false [] _ (vn + 2) (by omega) ⟨⟨_, vset_same⟩, ⟨Nat.le_refl _, nofun⟩, by omega, by omega, by omega, by omega, Nat.le_refl _, (vset_ne (by omega)).trans vset_same, .inr rfl, ⟨by decide, fun n hn => ?_⟩, by decide, fun c hc => (vset_ne (by omega)).trans (vset_ne (by omega))⟩
  · have hlen := S.len
    have hlo := S.lo2
    have fin : ∀ (ts : List Nd) (vh2 : VH) (n2 : Nat), n1 ≤ n2 → (∀ c, c < vn → vh2 c = vh c) → MadeT ts → ts.length ≤ 32 → WpCall Tryz.prog X G F_ref15_May [.sl 7 (ts.map encN) none] vh2 n2 fun v vh' vn' => vn ≤ vn' ∧ (∀ c, c < vn → vh' c = vh c) ∧ v = .bool (mayP ts) ∧ (mayP ts = true → Made ts) := fun ts vh2 n2 g2 f2 M h32 => by
      refine (May_ok H.toXM ts none (by omega) (fun n hn => (M.nd n hn).1.small) vh2 n2).mono fun v vh' vn' he => ?_
      obtain ⟨e1, e2, e3⟩ := he
      exact ⟨by omega, fun c hc => (e2 c (by omega)).trans (f2 c hc), e3, fun h => ⟨h, h32, fun n hn => by
        obtain ⟨q1, q2, q3, q4⟩ := M.nd n hn
        exact ⟨q1, q2, by omega⟩⟩⟩
    repeat first | refine CondP.tt ?_ | refine CondP.ff ?_ | refine Owe.mk (by decide) ?_
    conv => whnf
    repeat ((first | refine CondP.tt ?_ | refine CondP.ff ?_ | refine Owe.mk (by decide) ?_); conv => whnf)
    refine CondP.mk (fun h1 => ?_) (fun h1 => ?_)
    · repeat first | refine CondP.tt ?_ | refine CondP.ff ?_ | refine Owe.mk (by decide) ?_
      conv => whnf
      repeat ((first | refine CondP.tt ?_ | refine CondP.ff ?_ | refine Owe.mk (by decide) ?_); conv => whnf)
      refine app_own (a := rootNd) encN_len (by decide) S.t rfl S.hc ⟨?_, ?_⟩ fun vh2 t2 f2 => ?_
      · omega
      · show _ < 9223372036854775808; omega
      repeat first | refine CondP.tt ?_ | refine CondP.ff ?_ | refine Owe.mk (by decide) ?_
      conv => whnf
      repeat ((first | refine CondP.tt ?_ | refine CondP.ff ?_ | refine Owe.mk (by decide) ?_); conv => whnf)
      refine Get.mk (_, _, _, _) t2 ?_
      conv => whnf
      refine ⟨fz_owe encN_len (by decide), ?_⟩
      conv => whnf
      refine Get.mk _ (fz_pieces encN_len) ?_
      conv => whnf
      repeat ((first | refine CondP.tt ?_ | refine CondP.ff ?_ | refine Owe.mk (by decide) ?_); conv => whnf)
      refine (fin (ts ++ [rootNd]) (vdel vh2 n1) (n1 + 1) (by omega) (fun c hc => (vdel_ne (by omega)).trans ((f2 c (by omega) (by omega)).trans (S.fr c hc))) (S.made.app root_made (by decide) (by have := S.made.ne; show (1 : Int) ≤ _; omega)) (by rw [List.length_append, List.length_singleton]; omega)).mono fun v vh3 n3 he => ?_
      obtain ⟨g3, f3, e3, M3⟩ := he
      rw [e3]
      repeat first | refine CondP.tt ?_ | refine CondP.ff ?_ | refine Owe.mk (by decide) ?_
      conv => whnf
      repeat ((first | refine CondP.tt ?_ | refine CondP.ff ?_ | refine Owe.mk (by decide) ?_); conv => whnf)
      refine CondP.mk (fun h2 => ?_) (fun h2 => ?_)
      · repeat first | refine CondP.tt ?_ | refine CondP.ff ?_ | refine Owe.mk (by decide) ?_
        conv => whnf
        repeat ((first | refine CondP.tt ?_ | refine CondP.ff ?_ | refine Owe.mk (by decide) ?_); conv => whnf)
        exact Get.mk _ (fun _ _ h => h) ⟨g3, f3, [zeroDoc, rootNd], rfl, root_may, by decide, fun n hn => by
          rcases List.mem_cons.1 hn with rfl | hn
          · exact ⟨zero_made, by decide, by decide⟩
          · rw [List.mem_singleton.1 hn]; exact ⟨root_made, by decide, by decide⟩⟩
      · repeat first | refine CondP.tt ?_ | refine CondP.ff ?_ | refine Owe.mk (by decide) ?_
        conv => whnf
        repeat ((first | refine CondP.tt ?_ | refine CondP.ff ?_ | refine Owe.mk (by decide) ?_); conv => whnf)
        exact Get.mk _ (fun _ _ h => h) ⟨g3, f3, _, rfl, M3 (by simpa using h2)⟩
    · repeat first | refine CondP.tt ?_ | refine CondP.ff ?_ | refine Owe.mk (by decide) ?_
      conv => whnf
      repeat ((first | refine CondP.tt ?_ | refine CondP.ff ?_ | refine Owe.mk (by decide) ?_); conv => whnf)
      refine Get.mk (_, _, _, _) S.t ?_
      conv => whnf
      refine ⟨fz_owe_c encN_len (by decide) S.hc, ?_⟩
      conv => whnf
      refine Get.mk _ (fz_pieces encN_len) ?_
      repeat first | refine CondP.tt ?_ | refine CondP.ff ?_ | refine Owe.mk (by decide) ?_
      conv => whnf
      repeat ((first | refine CondP.tt ?_ | refine CondP.ff ?_ | refine Owe.mk (by decide) ?_); conv => whnf)
      refine (fin ts (vdel vh1 bt) n1 (Nat.le_refl _) (fun c hc => (vdel_ne (by omega)).trans (S.fr c hc)) S.made (by omega)).mono fun v vh3 n3 he => ?_
      obtain ⟨g3, f3, e3, M3⟩ := he
      rw [e3]
      repeat first | refine CondP.tt ?_ | refine CondP.ff ?_ | refine Owe.mk (by decide) ?_
      conv => whnf
      repeat ((first | refine CondP.tt ?_ | refine CondP.ff ?_ | refine Owe.mk (by decide) ?_); conv => whnf)
      refine CondP.mk (fun h2 => ?_) (fun h2 => ?_)
      · repeat first | refine CondP.tt ?_ | refine CondP.ff ?_ | refine Owe.mk (by decide) ?_
        conv => whnf
        repeat ((first | refine CondP.tt ?_ | refine CondP.ff ?_ | refine Owe.mk (by decide) ?_); conv => whnf)
        exact Get.mk _ (fun _ _ h => h) ⟨g3, f3, [zeroDoc, rootNd], rfl, root_may, by decide, fun n hn => by
          rcases List.mem_cons.1 hn with rfl | hn
          · exact ⟨zero_made, by decide, by decide⟩
          · rw [List.mem_singleton.1 hn]; exact ⟨root_made, by decide, by decide⟩⟩
      · repeat first | refine CondP.tt ?_ | refine CondP.ff ?_ | refine Owe.mk (by decide) ?_
        conv => whnf
        repeat ((first | refine CondP.tt ?_ | refine CondP.ff ?_ | refine Owe.mk (by decide) ?_); conv => whnf)
        exact Get.mk _ (fun _ _ h => h) ⟨g3, f3, _, rfl, M3 (by simpa using h2)⟩
  · rw [List.mem_singleton.1 hn]
    exact ⟨zero_made, by decide, fun _ => rfl, by decide⟩
end Go.Proofs.YtpcbnpekdmobpaaGreatDoor

open Go Go.Ev Go.VL
namespace Go.Proofs.YtpcbnpekdmobpaaGreatDoor

def dep (t : List Nd) (i : Nat) : Int := match t[i]? with | some n => n.d | none => 0
theorem dep_get {t : List Nd} {i : Nat} (h : i < t.length) : dep t i = t[i].d := by simp [dep, h]
theorem dep_drop (t : List Nd) (j i : Nat) : dep (t.drop j) i = dep t (j + i) := by simp [dep, List.getElem?_drop]
theorem endF_spec (d : Int) : ∀ l : List Nd, endF d l ≤ l.length ∧ (∀ i, i < endF d l → d < dep l i) ∧ (endF d l < l.length → dep l (endF d l) ≤ d)
  | [] => ⟨Nat.le_refl _, fun i h => absurd h (Nat.not_lt_zero i), fun h => absurd h (Nat.not_lt_zero _)⟩
  | n :: l => by
    obtain ⟨h1, h2, h3⟩ := endF_spec d l
    by_cases h : d < n.d
    · simp only [endF, h, if_true, List.length_cons]
      refine ⟨by omega, fun i hi => ?_, fun hi => ?_⟩
      · cases i with
        | zero => exact h
        | succ i => exact h2 i (by omega)
      · exact h3 (by omega)
    · simp only [endF, h, if_false, List.length_cons]
      refine ⟨by omega, fun i hi => absurd hi (Nat.not_lt_zero i), fun _ => ?_⟩
      show n.d ≤ d
      omega

def endAt (t : List Nd) (k : Nat) : Nat := k + 1 + endF (dep t k) (t.drop (k + 1))
theorem endAt_spec (t : List Nd) (k : Nat) (hk : k < t.length) : k < endAt t k ∧ endAt t k ≤ t.length ∧ (∀ i, k < i → i < endAt t k → dep t k < dep t i) ∧ (endAt t k < t.length → dep t (endAt t k) ≤ dep t k) := by
  obtain ⟨h1, h2, h3⟩ := endF_spec (dep t k) (t.drop (k + 1))
  rw [List.length_drop] at h1 h3
  unfold endAt
  refine ⟨by omega, by omega, fun i hi hi2 => ?_, fun h => ?_⟩
  · have := h2 (i - (k + 1)) (by omega)
    rw [dep_drop, show k + 1 + (i - (k + 1)) = i by omega] at this
    exact this
  · have := h3 (by omega)
    rw [dep_drop] at this
    exact this

def parF (t : List Nd) (d : Int) : Nat → Int
  | 0 => -1
  | p + 1 => if dep t p < d then (p : Int) else parF t d p
theorem parF_spec (t : List Nd) (d : Int) : ∀ k, (parF t d k = -1 ∧ ∀ i, i < k → d ≤ dep t i) ∨ ∃ p, p < k ∧ parF t d k = (p : Int) ∧ dep t p < d ∧ ∀ i, p < i → i < k → d ≤ dep t i
  | 0 => .inl ⟨rfl, fun i h => absurd h (Nat.not_lt_zero i)⟩
  | k + 1 => by
    by_cases h : dep t k < d
    · exact .inr ⟨k, by omega, by simp [parF, h], h, fun i h1 h2 => by omega⟩
    · rcases parF_spec t d k with ⟨h1, h2⟩ | ⟨p, h1, h2, h3, h4⟩
      · refine .inl ⟨by simp [parF, h, h1], fun i hi => ?_⟩
        by_cases he : i = k
        · subst he; omega
        · exact h2 i (by omega)
      · refine .inr ⟨p, by omega, by simp [parF, h, h2], h3, fun i hi hi2 => ?_⟩
        by_cases he : i = k
        · subst he; omega
        · exact h4 i hi (by omega)

def parAt (t : List Nd) (k : Nat) : Int := parF t (dep t k) k

def Rooted (t : List Nd) : Prop := 0 < t.length ∧ dep t 0 = 0 ∧ ∀ i, 0 < i → i < t.length → 1 ≤ dep t i
theorem par_root {t : List Nd} (ht : Rooted t) {k : Nat} (hk : k < t.length) : (parAt t k < 0 ↔ k = 0) := by
  rcases parF_spec t (dep t k) k with ⟨h1, h2⟩ | ⟨p, h1, h2, h3, h4⟩
  · refine ⟨fun _ => ?_, fun h => by rw [parAt, h1]; omega⟩
    refine Decidable.byContradiction fun h0 => ?_
    have e1 := h2 0 (by omega)
    have e2 := ht.2.2 k (by omega) hk
    have := ht.2.1
    omega
  · rw [parAt, h2]
    omega
theorem par_lt {t : List Nd} (k : Nat) : parAt t k < (k : Int) := by
  rcases parF_spec t (dep t k) k with ⟨h1, h2⟩ | ⟨p, h1, h2, h3, h4⟩
  · rw [parAt, h1]; omega
  · rw [parAt, h2]; omega
theorem par_end {t : List Nd} {k : Nat} (hk : k < t.length) (h : 0 ≤ parAt t k) : endAt t k ≤ endAt t (parAt t k).toNat := by
  rcases parF_spec t (dep t k) k with ⟨h1, h2⟩ | ⟨p, h1, h2, h3, h4⟩
  · rw [parAt, h1] at h; omega
  · have e : (parAt t k).toNat = p := by rw [parAt, h2]; rfl
    rw [e]
    obtain ⟨a1, a2, a3, a4⟩ := endAt_spec t k hk
    obtain ⟨b1, b2, b3, b4⟩ := endAt_spec t p (by omega)
    refine Decidable.byContradiction fun hlt => ?_
    have hlt : endAt t p < endAt t k := by omega
    have c1 := b4 (by omega)
    rcases Nat.lt_trichotomy (endAt t p) k with h | h | h
    · have := h4 _ b1 h
      omega
    · rw [h] at c1; omega
    · have := a3 _ h hlt
      omega
theorem par_in {t : List Nd} (ht : Rooted t) {k i : Nat} (hk : k < t.length) (hi : i < t.length) : ((k < i ∧ i < endAt t k) ↔ (i ≠ k ∧ (k : Int) ≤ parAt t i ∧ parAt t i < (endAt t k : Int))) := by
  obtain ⟨a1, a2, a3, a4⟩ := endAt_spec t k hk
  rcases parF_spec t (dep t i) i with ⟨h1, h2⟩ | ⟨p, h1, h2, h3, h4⟩
  · have e : parAt t i = -1 := h1
    have h0 : i = 0 := (par_root ht hi).1 (by omega)
    rw [e]
    refine ⟨fun h => by omega, fun h => by omega⟩
  · have e : parAt t i = (p : Int) := h2
    rw [e]
    refine ⟨fun ⟨c1, c2⟩ => ?_, fun ⟨c1, c2, c3⟩ => ?_⟩
    · have := a3 i c1 c2
      refine ⟨by omega, ?_, by omega⟩
      refine Decidable.byContradiction fun h => ?_
      have := h4 k (by omega) c1
      omega
    · refine ⟨by omega, ?_⟩
      refine Decidable.byContradiction fun h => ?_
      have d1 := a4 (by omega)
      have d2 : dep t k ≤ dep t p := by
        by_cases hp : p = k
        · rw [hp]; exact Int.le_refl _
        · have := a3 p (by omega) (by omega)
          omega
      by_cases he : endAt t k = i
      · rw [he] at d1; omega
      · have := h4 (endAt t k) (by omega) (by omega)
        omega
end Go.Proofs.YtpcbnpekdmobpaaGreatDoor

open Go Go.Ev Go.VL
namespace Go.Proofs.YtpcbnpekdmobpaaGreatDoor
attribute [local irreducible] fApp
variable {X : Ovr} {G : Gt}

def endI (t : List Nd) (k : Int) : Int := if 0 ≤ k ∧ k.toNat < t.length then (endAt t k.toNat : Int) else -1
def parI (t : List Nd) (k : Int) : Int := if 0 ≤ k ∧ k.toNat < t.length then parAt t k.toNat else -1
theorem endI_in {t : List Nd} {k : Nat} (h : k < t.length) : endI t (k : Int) = (endAt t k : Int) := if_pos ⟨by omega, h⟩
theorem parI_in {t : List Nd} {k : Nat} (h : k < t.length) : parI t (k : Int) = parAt t k := if_pos ⟨by omega, h⟩
theorem endI_out {t : List Nd} : endI t (t.length : Int) = -1 := if_neg (by omega)
theorem parI_out {t : List Nd} : parI t (t.length : Int) = -1 := if_neg (by omega)
theorem End_ok' (hX : X F_tree_at = none) (hX' : X F_tree_End = none) (t : List Nd) (ht : t.length < 2 ^ 40) (k : Int) (vh : VH) (vn : Nat) :
    WpCall Tryz.prog X G F_tree_End [encT t, .int .i64 k] vh vn fun v vh' vn' => vh' = vh ∧ vn ≤ vn' ∧ v = .int .i64 (endI t k) := by
  refine (End_ok hX hX' t ht k vh vn).mono fun v vh' vn' ⟨e1, e2, e3⟩ => ⟨e1, e2, ?_⟩
  rw [e3]
  congr 1
  unfold endI endAt
  by_cases h : 0 ≤ k ∧ k.toNat < t.length
  · rw [dif_pos h, if_pos h, dep_get h.2]
  · rw [dif_neg h, if_neg h]
theorem Parent_L0 (t : List Nd) (ht : t.length < 2 ^ 40) (n : Nd) (vh : VH) (vn : Nat) (Q : FQ) : ∀ (j : Nat), j ≤ t.length →
    (parF t n.d j = -1 → ∀ p b, Q (.exit 0) [(0, encT t), (5, .bx (encN n)), (6, .bool true), (7, .int .i64 p), (20, .bool b)] vh vn) →
    (∀ p : Nat, parF t n.d j = (p : Int) → Q .ret [(4, .int .i64 (p : Int))] vh vn) →
    FLoop Tryz.prog X G (.loop c_tree_Parent_L0) [(0, encT t), (5, .bx (encN n)), (6, .bool true), (7, .int .i64 ((j : Int) - 1))] vh vn Q
  | 0, hj, hQ, hR => by
    refine FLoop.round ?_
    repeat first | refine CondP.tt ?_ | refine CondP.ff ?_ | refine Owe.mk (by decide) ?_
    conv => whnf
    repeat ((first | refine CondP.tt ?_ | refine CondP.ff ?_ | refine Owe.mk (by decide) ?_); conv => whnf)
    exact hQ rfl _ _
  | j + 1, hj, hQ, hR => by
    have e0 : ((j + 1 : Nat) : Int) - 1 = (j : Int) := by omega
    have e : wr .i64 ((j : Int) - 1) = (j : Int) - 1 := by rw [wr64] <;> omega
    have hlt : j < t.length := by omega
    rw [e0]
    simp only [parF, dep_get hlt] at hQ hR
    refine FLoop.round ?_
    repeat first | refine CondP.tt ?_ | refine CondP.ff ?_ | refine Owe.mk (by decide) ?_
    conv => whnf
    repeat ((first | refine CondP.tt ?_ | refine CondP.ff ?_ | refine Owe.mk (by decide) ?_); conv => whnf)
    refine Get.mk (j, encN t[j]) ⟨rfl, by simp [hlt]⟩ ?_
    repeat first | refine CondP.tt ?_ | refine CondP.ff ?_ | refine Owe.mk (by decide) ?_
    conv => whnf
    repeat ((first | refine CondP.tt ?_ | refine CondP.ff ?_ | refine Owe.mk (by decide) ?_); conv => whnf)
    refine CondP.mk (fun h2 => ?_) (fun h2 => ?_)
    · have h2' : t[j].d < n.d := by simpa using h2
      repeat first | refine CondP.tt ?_ | refine CondP.ff ?_ | refine Owe.mk (by decide) ?_
      conv => whnf
      repeat ((first | refine CondP.tt ?_ | refine CondP.ff ?_ | refine Owe.mk (by decide) ?_); conv => whnf)
      exact hR j (if_pos h2')
    · have h2' : ¬ t[j].d < n.d := by simpa using h2
      rw [if_neg h2'] at hQ hR
      repeat first | refine CondP.tt ?_ | refine CondP.ff ?_ | refine Owe.mk (by decide) ?_
      conv => whnf
      repeat ((first | refine CondP.tt ?_ | refine CondP.ff ?_ | refine Owe.mk (by decide) ?_); conv => whnf)
      rw [e]
      exact Parent_L0 t ht n vh vn Q j (by omega) hQ hR
theorem Parent_ok (hX : X F_tree_at = none) (hX' : X F_tree_Parent = none) (t : List Nd) (ht : t.length < 2 ^ 40) (k : Int) (vh : VH) (vn : Nat) :
    WpCall Tryz.prog X G F_tree_Parent [encT t, .int .i64 k] vh vn fun v vh' vn' => vh' = vh ∧ vn ≤ vn' ∧ v = .int .i64 (parI t k) := by
  apply k_tree_Parent.run hX'
  repeat first | refine CondP.tt ?_ | refine CondP.ff ?_ | refine Owe.mk (by decide) ?_
  conv => whnf
  repeat ((first | refine CondP.tt ?_ | refine CondP.ff ?_ | refine Owe.mk (by decide) ?_); conv => whnf)
  refine (at_ok hX t k vh vn).mono fun v vh' vn' ⟨e1, e2, n, b, e3, e4⟩ => ?_
  subst e3
  rw [e1]
  unfold parI
  by_cases hk : 0 ≤ k ∧ k.toNat < t.length
  · rw [dif_pos hk] at e4
    rw [if_pos hk]
    obtain ⟨rfl, rfl⟩ := e4
    have e : wr .i64 (k - 1) = ((k.toNat : Nat) : Int) - 1 := by rw [wr64] <;> omega
    repeat first | refine CondP.tt ?_ | refine CondP.ff ?_ | refine Owe.mk (by decide) ?_
    conv => whnf
    repeat ((first | refine CondP.tt ?_ | refine CondP.ff ?_ | refine Owe.mk (by decide) ?_); conv => whnf)
    rw [e]
    refine Parent_L0 t ht (t[k.toNat]'hk.2) vh vn' _ k.toNat (by omega) (fun h p b => ?_) (fun p h => ?_)
    · rw [← dep_get hk.2] at h
      repeat first | refine CondP.tt ?_ | refine CondP.ff ?_ | refine Owe.mk (by decide) ?_
      conv => whnf
      repeat ((first | refine CondP.tt ?_ | refine CondP.ff ?_ | refine Owe.mk (by decide) ?_); conv => whnf)
      exact Get.mk _ (fun _ _ h => h) ⟨rfl, e2, by rw [parAt, h]⟩
    · rw [← dep_get hk.2] at h
      repeat first | refine CondP.tt ?_ | refine CondP.ff ?_ | refine Owe.mk (by decide) ?_
      conv => whnf
      repeat ((first | refine CondP.tt ?_ | refine CondP.ff ?_ | refine Owe.mk (by decide) ?_); conv => whnf)
      exact Get.mk _ (fun _ _ h => h) ⟨rfl, e2, by rw [parAt, h]⟩
  · rw [dif_neg hk] at e4
    rw [if_neg hk]
    obtain ⟨rfl, rfl⟩ := e4
    repeat first | refine CondP.tt ?_ | refine CondP.ff ?_ | refine Owe.mk (by decide) ?_
    conv => whnf
    repeat ((first | refine CondP.tt ?_ | refine CondP.ff ?_ | refine Owe.mk (by decide) ?_); conv => whnf)
    refine FLoop.round ?_
    repeat first | refine CondP.tt ?_ | refine CondP.ff ?_ | refine Owe.mk (by decide) ?_
    conv => whnf
    repeat ((first | refine CondP.tt ?_ | refine CondP.ff ?_ | refine Owe.mk (by decide) ?_); conv => whnf)
    exact Get.mk _ (fun _ _ h => h) ⟨rfl, e2, rfl⟩
end Go.Proofs.YtpcbnpekdmobpaaGreatDoor

open Go Go.Ev Go.VL
namespace Go.Proofs.YtpcbnpekdmobpaaGreatDoor
attribute [local irreducible] fApp
variable {X : Ovr} {G : Gt}
theorem bd1 {p q : Prop} [Decidable p] [Decidable q] : ((decide p == decide q) = false) ↔ ¬ (p ↔ q) := by by_cases h1 : p <;> by_cases h2 : q <;> simp [h1, h2]
theorem bd2 {p : Prop} [Decidable p] : ((decide p == false) = false) ↔ p := by by_cases h : p <;> simp [h]
theorem bd3 {p : Prop} [Decidable p] : ((false == decide p) = false) ↔ p := by by_cases h : p <;> simp [h]
structure XT (X : Ovr) : Prop extends XK X where
  tat : X F_tree_at = none
  tend : X F_tree_End = none
  tpar : X F_tree_Parent = none
theorem mayR_depth : ∀ (l : List Nd) (prev : Nd) (lv : List (List Attr)) (r k : Nat), mayR prev lv r l = some k → ∀ n ∈ l, 1 ≤ n.d
  | [], _, _, _, _, _, _, hn => by cases hn
  | x :: l, prev, lv, r, k, h, n, hn => by
    simp only [mayR] at h
    split at h
    · cases h
    · rename_i hb
      split at h
      · cases h
      · rename_i s hs
        rcases List.mem_cons.1 hn with rfl | hn
        · simp [badPlace] at hb
          omega
        · exact mayR_depth l x s.1 s.2 k h n hn
theorem Made.rooted {t : List Nd} (M : Made t) : Rooted t := by
  have h := M.may
  cases t with
  | nil => cases h
  | cons n l =>
    simp only [mayP, Bool.and_eq_true, decide_eq_true_eq] at h
    have hz := sameNd_iff.1 h.1.2
    refine ⟨by simp, by rw [dep_get (by simp)]; show n.d = 0; rw [hz]; rfl, fun i h0 hi => ?_⟩
    rw [dep_get hi]
    obtain ⟨i, rfl⟩ : ∃ k, i = k + 1 := ⟨i - 1, by omega⟩
    exact mayR_depth l n [] 0 1 h.2 _ (by rw [List.getElem_cons_succ]; exact List.getElem_mem _)
theorem TreeEnds_L1 (H : XT X) (t : List Nd) (ht : Rooted t) (hl : t.length < 2 ^ 30) (k : Nat) (hk : k < t.length) (vh : VH) (Q : FQ) : ∀ (m i : Nat), t.length - i = m → i ≤ t.length → ∀ vn,
    (∀ vn' i' b, vn ≤ vn' → Q (.exit 2) [(3, encT t), (4, .int .i64 (k : Int)), (5, .int .i64 (endAt t k : Int)), (7, .int .i64 i'), (58, .bool b)] vh vn') →
    FLoop Tryz.prog X G (.loop c_law16_TreeEnds_L1) [(3, encT t), (4, .int .i64 (k : Int)), (5, .int .i64 (endAt t k : Int)), (7, .int .i64 (i : Int))] vh vn Q
  | m, i, hm, hi, vn, hQ => by
    refine FLoop.round ?_
    repeat first | refine CondP.tt ?_ | refine CondP.ff ?_ | refine Owe.mk (by decide) ?_
    conv => whnf
    repeat ((first | refine CondP.tt ?_ | refine CondP.ff ?_ | refine Owe.mk (by decide) ?_); conv => whnf)
    refine CondP.mk (fun h1 => ?_) (fun h1 => ?_)
    · have hlt : i < t.length := by simpa using h1
      have e : wr .i64 ((i : Int) + 1) = ((i + 1 : Nat) : Int) := by rw [wr64] <;> omega
      have hpi := par_in ht hk hlt
      repeat first | refine CondP.tt ?_ | refine CondP.ff ?_ | refine Owe.mk (by decide) ?_
      conv => whnf
      repeat ((first | refine CondP.tt ?_ | refine CondP.ff ?_ | refine Owe.mk (by decide) ?_); conv => whnf)
      refine (Parent_ok H.tat H.tpar t (by omega) i vh vn).mono fun v vh' vn' he => ?_
      obtain ⟨e1, e2, e3⟩ := he
      rw [parI_in hlt] at e3
      rw [e1, e3]
      have nxt := TreeEnds_L1 H t ht hl k hk vh Q (m - 1) (i + 1) (by omega) (by omega) vn' fun vn3 i3 b g3 => hQ vn3 i3 b (by omega)
      clear hQ
      generalize parAt t i = p at hpi
      repeat first | refine CondP.tt ?_ | refine CondP.ff ?_ | refine Owe.mk (by decide) ?_
      conv => whnf
      repeat ((first | refine CondP.tt ?_ | refine CondP.ff ?_ | refine Owe.mk (by decide) ?_); conv => whnf)
      repeat' ((first | refine CondP.tt ?_ | refine CondP.ff ?_ | refine CondP.mk (fun _ => ?_) (fun _ => ?_)) <;> (conv => whnf))
      all_goals first
        | (rw [e]; exact nxt)
        | (exfalso
           clear nxt e
           simp only [decide_eq_true_eq, decide_eq_false_iff_not, cond_false, cond_true, Bool.not_eq_true', Bool.not_eq_false', Bool.and_true, Bool.true_and, beq_iff_eq, Bool.not_true, Bool.not_false, reduceCtorEq, bd1, bd2, bd3] at *
           omega)
    · have hlt : i = t.length := by simp at h1; omega
      repeat first | refine CondP.tt ?_ | refine CondP.ff ?_ | refine Owe.mk (by decide) ?_
      conv => whnf
      repeat ((first | refine CondP.tt ?_ | refine CondP.ff ?_ | refine Owe.mk (by decide) ?_); conv => whnf)
      exact hQ _ _ _ (Nat.le_refl _)
termination_by m => m
decreasing_by all_goals omega
theorem TreeEnds_L0 (H : XT X) (t : List Nd) (ht : Rooted t) (hl : t.length < 2 ^ 30) (vh : VH) (Q : FQ) : ∀ (m k : Nat), t.length - k = m → k ≤ t.length → ∀ vn,
    (∀ vn' k' b, vn ≤ vn' → Q (.exit 0) [(3, encT t), (4, .int .i64 k'), (14, .bool b)] vh vn') →
    FLoop Tryz.prog X G (.loop c_law16_TreeEnds_L0) [(3, encT t), (4, .int .i64 (k : Int))] vh vn Q
  | m, k, hm, hi, vn, hQ => by
    refine FLoop.round ?_
    repeat first | refine CondP.tt ?_ | refine CondP.ff ?_ | refine Owe.mk (by decide) ?_
    conv => whnf
    repeat ((first | refine CondP.tt ?_ | refine CondP.ff ?_ | refine Owe.mk (by decide) ?_); conv => whnf)
    refine CondP.mk (fun h1 => ?_) (fun h1 => ?_)
    · have hlt : k < t.length := by simpa using h1
      have e : wr .i64 ((k : Int) + 1) = ((k + 1 : Nat) : Int) := by rw [wr64] <;> omega
      have hr := par_root ht hlt
      have hp := par_lt (t := t) k
      have he := par_end hlt
      obtain ⟨q1, q2, _, _⟩ := endAt_spec t k hlt
      have ei : 0 ≤ parAt t k → endI t (parAt t k) = (endAt t (parAt t k).toNat : Int) := fun h => if_pos ⟨h, by omega⟩
      repeat first | refine CondP.tt ?_ | refine CondP.ff ?_ | refine Owe.mk (by decide) ?_
      conv => whnf
      repeat ((first | refine CondP.tt ?_ | refine CondP.ff ?_ | refine Owe.mk (by decide) ?_); conv => whnf)
      refine (End_ok' H.tat H.tend t (by omega) k vh vn).mono fun v vh' vn1 he => ?_
      obtain ⟨e1, g1, e3⟩ := he
      rw [endI_in hlt] at e3
      rw [e1, e3]
      clear e1 e3
      repeat first | refine CondP.tt ?_ | refine CondP.ff ?_ | refine Owe.mk (by decide) ?_
      conv => whnf
      repeat ((first | refine CondP.tt ?_ | refine CondP.ff ?_ | refine Owe.mk (by decide) ?_); conv => whnf)
      refine (Parent_ok H.tat H.tpar t (by omega) k vh vn1).mono fun v vh' vn2 he => ?_
      obtain ⟨e1, g2, e3⟩ := he
      rw [parI_in hlt] at e3
      rw [e1, e3]
      clear e1 e3
      have hlen : Int.ofNat (t.map encN).length = (t.length : Int) := by simp
      repeat first | refine CondP.tt ?_ | refine CondP.ff ?_ | refine Owe.mk (by decide) ?_
      conv => whnf
      repeat ((first | refine CondP.tt ?_ | refine CondP.ff ?_ | refine Owe.mk (by decide) ?_); conv => whnf)
      repeat' ((first | refine CondP.tt ?_ | refine CondP.ff ?_ | refine CondP.mk (fun _ => ?_) (fun _ => ?_) | (refine (End_ok' H.tat H.tend t (by omega) (parAt t k) vh vn2).mono (fun v vh' vn3 he => ?_); obtain ⟨e1, g3, e3⟩ := he; rw [e1, e3]; clear e1 e3)) <;> (conv => whnf))
      all_goals first
        | (exfalso
           clear hQ e
           simp only [hlen, decide_eq_true_eq, decide_eq_false_iff_not, cond_false, cond_true, Bool.not_eq_true', Bool.not_eq_false', Bool.and_true, Bool.true_and, beq_iff_eq, Bool.not_true, Bool.not_false, reduceCtorEq, bd1, bd2, bd3] at *
           omega)
        | skip
      all_goals
        refine TreeEnds_L1 H t ht hl k hlt vh _ t.length 0 rfl (Nat.zero_le _) _ fun vn4 i' b g4 => ?_
        repeat first | refine CondP.tt ?_ | refine CondP.ff ?_ | refine Owe.mk (by decide) ?_
        conv => whnf
        repeat ((first | refine CondP.tt ?_ | refine CondP.ff ?_ | refine Owe.mk (by decide) ?_); conv => whnf)
        rw [e]
        exact TreeEnds_L0 H t ht hl vh Q (m - 1) (k + 1) (by omega) (by omega) vn4 fun vn5 k' b g5 => hQ vn5 k' b (by omega)
    · repeat first | refine CondP.tt ?_ | refine CondP.ff ?_ | refine Owe.mk (by decide) ?_
      conv => whnf
      repeat ((first | refine CondP.tt ?_ | refine CondP.ff ?_ | refine Owe.mk (by decide) ?_); conv => whnf)
      exact hQ _ _ _ (Nat.le_refl _)
termination_by m => m
decreasing_by all_goals omega
end Go.Proofs.YtpcbnpekdmobpaaGreatDoor

open Go Go.Ev Go.VL
namespace Go.Proofs.YtpcbnpekdmobpaaGreatDoor
attribute [local irreducible] fApp
variable {X : Ovr} {G : Gt}
theorem TreeEnds_ok (H : XT X) (hT : X F_law16_told = some (kToldG 2)) (hG : ∃ m, G 2 = some [.int .i64 m]) (hX : X F_law16_TreeEnds = none) (ls : List Int) (vh : VH) (vn : Nat) :
    WpCall Tryz.prog X G F_law16_TreeEnds [.sl 1 (ls.map encI) none] vh vn fun v _ _ => v = .bool true := by
  apply k_law16_TreeEnds.run hX
  repeat first | refine CondP.tt ?_ | refine CondP.ff ?_ | refine Owe.mk (by decide) ?_
  conv => whnf
  repeat ((first | refine CondP.tt ?_ | refine CondP.ff ?_ | refine Owe.mk (by decide) ?_); conv => whnf)
  refine (Make_ok H.toXK ls vh vn).mono fun v vh1 n1 he => ?_
  obtain ⟨g1, f1, t, e3, M⟩ := he
  rw [e3]
  have hl : t.length < 2 ^ 30 := by have := M.len; omega
  repeat first | refine CondP.tt ?_ | refine CondP.ff ?_ | refine Owe.mk (by decide) ?_
  conv => whnf
  repeat ((first | refine CondP.tt ?_ | refine CondP.ff ?_ | refine Owe.mk (by decide) ?_); conv => whnf)
  refine TreeEnds_L0 H t M.rooted hl vh1 _ t.length 0 rfl (Nat.zero_le _) n1 fun n2 k' b g2 => ?_
  repeat first | refine CondP.tt ?_ | refine CondP.ff ?_ | refine Owe.mk (by decide) ?_
  conv => whnf
  repeat ((first | refine CondP.tt ?_ | refine CondP.ff ?_ | refine Owe.mk (by decide) ?_); conv => whnf)
  refine (told_wp hT hG vh1 n2).mono fun v vh' n' he => ?_
  obtain ⟨e1, e2, e3⟩ := he
  rw [e1, e2, e3]
  have hlen : Int.ofNat (t.map encN).length = (t.length : Int) := by simp
  repeat first | refine CondP.tt ?_ | refine CondP.ff ?_ | refine Owe.mk (by decide) ?_
  conv => whnf
  repeat ((first | refine CondP.tt ?_ | refine CondP.ff ?_ | refine Owe.mk (by decide) ?_); conv => whnf)
  rw [hlen]
  refine (End_ok' H.tat H.tend t (by omega) _ vh1 n2).mono fun v vh' n3 he => ?_
  obtain ⟨e1, g3, e3⟩ := he
  rw [e1, e3, endI_out]
  repeat first | refine CondP.tt ?_ | refine CondP.ff ?_ | refine Owe.mk (by decide) ?_
  conv => whnf
  repeat ((first | refine CondP.tt ?_ | refine CondP.ff ?_ | refine Owe.mk (by decide) ?_); conv => whnf)
  rw [hlen]
  refine (Parent_ok H.tat H.tpar t (by omega) _ vh1 n3).mono fun v vh' n3 he => ?_
  obtain ⟨e1, g3, e3⟩ := he
  rw [e1, e3, parI_out]
  repeat first | refine CondP.tt ?_ | refine CondP.ff ?_ | refine Owe.mk (by decide) ?_
  conv => whnf
  repeat ((first | refine CondP.tt ?_ | refine CondP.ff ?_ | refine Owe.mk (by decide) ?_); conv => whnf)
  exact Get.mk _ (fun _ _ h => h) rfl
end Go.Proofs.YtpcbnpekdmobpaaGreatDoor

