/- The evaluator is sound; no condition. -/
import Derived.Lib.UnsafeStr
import Derived.Orders
import Derived.LoopN
import Derived.Scope
import Derived.Laws.Sem
import Derived.Lib.Bytealg
import Derived.Lib.Index
import Derived.Shelf.Strings.Search2
import Derived.Below
import Derived.ShapedOpen
import Derived.ChangeSame
import Derived.RowKit
import Derived.OpenShut
import GoSem.PinnedTables
import Derived.Lib.LaidIn
import Derived.Lib.LaidCaseMet
import Derived.KernelRfl
import Derived.Test.YtpcbnpekdmobpaaGreatDoorEvA
set_option linter.unusedSimpArgs false
set_option linter.unusedVariables false
set_option linter.constructorNameAsVariable false

namespace Go.Ev

section
variable {P : Program} {σ : Map} {h : H} {w : World}

theorem extract_ofBytes (s : ByteArray) (a b : Nat) : ofBytes (s.extract a b) = ((ofBytes s).drop a).take (b - a) := by
  simp only [ofBytes, ByteArray.data_extract, Array.toList_extract, List.extract_eq_take_drop, List.map_take, List.map_drop]

def CapIs (L : Loc) (o s c : Nat) : Option Nat → Prop
  | some c' => c' = c
  | none => L.o + o + c * s = L.x

theorem slice_place {b o n s : Nat} {cap : Option Nat} {x : Value} (hx : RV σ (.sl b o n s cap) x) : ∃ (L : Loc) (c : Nat), σ b = some L ∧ x = .slice (some ⟨L.b, L.o + o, none⟩) n c ∧ n ≤ c ∧ 0 < s ∧ L.o + o + c * s ≤ L.x ∧ CapIs L o s c cap := by
  cases hx with
  | slx _ _ _ _ c L hL hn hs hx => exact ⟨L, c, hL, rfl, hn, hs, hx, rfl⟩
  | slu _ _ _ _ c L hL hn hs hx => exact ⟨L, c, hL, rfl, hn, hs, Nat.le_of_eq hx, hx⟩

theorem capLo_le (r : RH σ h w) {b o s : Nat} {cap : Option Nat} {cl : Nat} (hc : capLo h b o s cap = some cl) {L : Loc} (hL : σ b = some L) {c : Nat} (h0 : 0 < s)
    (hcap : CapIs L o s c cap) : cl ≤ c := by
  unfold capLo at hc
  cases cap with
  | some c' => simp only [Option.some.injEq] at hc; subst hc; exact Nat.le_of_eq hcap
  | none =>
    simp only at hc
    simp only [CapIs] at hcap
    split at hc
    · rename_i l e fz raw hb
      obtain ⟨_, _, _, _, _, hlen, _⟩ := r.cells hb hL
      rw [blt_dec, len_eq] at hc
      simp only [h0, decide_true, cond_true, Option.some.injEq] at hc
      subst hc
      have hle : l.length - o ≤ c * s := by omega
      calc (l.length - o) / s ≤ (c * s) / s := Nat.div_le_div_right hle
        _ = c := Nat.mul_div_cancel c h0
    · cases hc

theorem cutX_rel {b o s l r m : Nat} {L : Loc} (hL : σ b = some L) (h0 : 0 < s) (hm : L.o + o + m * s ≤ L.x) (hr : r ≤ m) (hl : l ≤ r) :
    RV σ (cutX b o s l r m) (.slice (some (if m = l then ⟨L.b, L.o + o, none⟩ else ⟨L.b, L.o + o + l * s, none⟩)) (r - l) (m - l)) := by
  unfold cutX
  rw [beq_dec]
  by_cases e : m = l
  · subst e
    have : r = m := by omega
    subst this
    simp only [decide_true, cond_true, if_true, Nat.sub_self]
    exact .slx b o 0 s 0 L hL (Nat.le_refl _) h0 (by omega)
  · simp only [e, decide_false, cond_false, if_false]
    have := RV.slx (σ := σ) b (o + l * s) (r - l) s (m - l) L hL (by omega) h0 (by
      have : (m - l) * s + l * s = m * s := by rw [← Nat.add_mul]; congr 1; omega
      omega)
    rw [← Nat.add_assoc] at this
    exact this

theorem cutU_rel {b o s l r cl c : Nat} {L : Loc} (hL : σ b = some L) (h0 : 0 < s) (hc : L.o + o + c * s = L.x) (hcl : cl ≤ c) (hr : r ≤ cl) (hl : l ≤ r) :
    RV σ (cutU b o s l r cl) (.slice (some (if c = l then ⟨L.b, L.o + o, none⟩ else ⟨L.b, L.o + o + l * s, none⟩)) (r - l) (c - l)) := by
  unfold cutU
  rw [beq_dec, blt_dec]
  have hmul : l ≤ c → (c - l) * s + l * s = c * s := fun _ => by rw [← Nat.add_mul]; congr 1; omega
  by_cases e : l < cl ∨ l = 0
  · have : (decide (l < cl) || decide (l = 0)) = true := by simpa using e
    rw [this]
    simp only [cond_true]
    have hv := RV.slu (σ := σ) b (o + l * s) (r - l) s (c - l) L hL (by omega) h0 (by have := hmul (by omega); omega)
    rw [← Nat.add_assoc] at hv
    by_cases e2 : c = l
    · have : l = 0 := by omega
      subst this
      subst e2
      simpa using hv
    · simpa [e2] using hv
  · have : (decide (l < cl) || decide (l = 0)) = false := by simpa using e
    rw [this]
    simp only [cond_false]
    have : r - l = 0 := by omega
    rw [this]
    exact .esl _ _

theorem slice2_run (r : RH σ h w) {b o n s : Nat} {cap : Option Nat} {lo hi : Option AV} {xl xh : Option Value} (hxl : RO σ lo xl) (hxh : RO σ hi xh) {L : Loc} (hL : σ b = some L) {c : Nat} (h0 : 0 < s)
    (hle : L.o + o + c * s ≤ L.x) (hcap : CapIs L o s c cap) (isSlice : Bool) {res : Result Next} (nid : Nat)
    (hres : ∀ l q, (Instr.sliceBounds isSlice n c xl xh none).run P w = .ok (l, q, c) w → l ≤ q → q ≤ c → res = .ok (.value (.slice (some (if c = l then ⟨L.b, L.o + o, none⟩ else ⟨L.b, L.o + o + l * s, none⟩)) (q - l) (c - l))) w) :
    NXok P σ h w nid (slice2 h b o n s cap lo hi) res := by
  unfold slice2
  split
  · rename_i cl l q hc hl hq
    have hclc := capLo_le r hc hL h0 hcap
    rw [ble_dec, ble_dec]
    by_cases hok : q ≤ cl ∧ l ≤ q
    · simp only [hok.1, hok.2, decide_true, Bool.and_self, cond_true]
      have hb := bounds2_run (P := P) isSlice hl hq hxl hxh (cap := c) (by omega) hok.2 w
      refine ⟨_, hres l q hb hok.2 (by omega), ?_⟩
      cases cap with
      | some c' => simp only [CapIs] at hcap; subst hcap; exact cutX_rel hL h0 hle (by omega) hok.2
      | none => exact cutU_rel hL h0 hcap hclc hok.1 hok.2
    · have : (decide (q ≤ cl) && decide (l ≤ q)) = false := by simp; omega
      rw [this]; trivial
  · trivial

theorem slice3_run (r : RH σ h w) {b o n s : Nat} {cap : Option Nat} {lo : Option AV} {hi mx : AV} {xl : Option Value} {xh xm : Value} (hxl : RO σ lo xl) (hxh : RV σ hi xh) (hxm : RV σ mx xm) {L : Loc} (hL : σ b = some L) {c : Nat} (h0 : 0 < s)
    (hle : L.o + o + c * s ≤ L.x) (hcap : CapIs L o s c cap) (isSlice : Bool) {res : Result Next} (nid : Nat)
    (hres : ∀ l q m, (Instr.sliceBounds isSlice n c xl (some xh) (some xm)).run P w = .ok (l, q, m) w → l ≤ q → q ≤ m → m ≤ c → res = .ok (.value (.slice (some (if m = l then ⟨L.b, L.o + o, none⟩ else ⟨L.b, L.o + o + l * s, none⟩)) (q - l) (m - l))) w) :
    NXok P σ h w nid (slice3 h b o n s cap lo hi mx) res := by
  unfold slice3
  split
  · rename_i cl l q m hc hl hq hm
    have hclc := capLo_le r hc hL h0 hcap
    rw [ble_dec, ble_dec, ble_dec]
    by_cases hok : m ≤ cl ∧ q ≤ m ∧ l ≤ q
    · obtain ⟨o1, o2, o3⟩ := hok
      simp only [o1, o2, o3, decide_true, Bool.and_self, cond_true]
      have hm' : bnd c (some mx) = some m := by
        rw [← hm]
        cases mx <;> try rfl
        rename_i k i
        cases i <;> rfl
      have hb := bounds3_run (P := P) isSlice hl hq hm' ⟨_, rfl⟩ ⟨_, rfl⟩ hxl (xh := some xh) hxh (xm := some xm) hxm (by omega) o2 o3 w
      refine ⟨_, hres l q m hb o3 o2 (by omega), ?_⟩
      have hms : m * s ≤ c * s := Nat.mul_le_mul_right s (by omega)
      exact cutX_rel hL h0 (by omega) o2 o3
    · have : (decide (m ≤ cl) && decide (q ≤ m) && decide (l ≤ q)) = false := by
        rw [Bool.eq_false_iff]
        simp only [ne_eq, Bool.and_eq_true, decide_eq_true_eq]
        intro q; exact hok ⟨q.1.1, q.1.2, q.2⟩
      rw [this]; trivial
  · trivial

theorem sliceA_run (r : RH σ h w) {t : TypeId} {a : AV} {x : Value} {lo hi mx : Option AV} {xl xh xm : Option Value} (hx : RV σ a x) (hxl : RO σ lo xl) (hxh : RO σ hi xh) (hxm : RO σ mx xm) (nid : Nat) :
    NXok P σ h w nid (sliceA P t a lo hi mx h) ((do pure (Next.value (← Instr.sliceAt t x xl xh xm)) : Sem Next).run P w) := by
  unfold sliceA
  split
  · -- a string
    rename_i l hu
    cases hx with | str _ s hs =>
    subst hs
    cases mx with
    | some m => trivial
    | none =>
      cases xm with
      | some _ => exact hxm.elim
      | none =>
        simp only
        unfold sliceStr
        split
        · rename_i p q hp hq
          rw [ble_dec, ble_dec, len_eq, ofBytes_length]
          rw [len_eq, ofBytes_length] at hq
          by_cases hok : q ≤ s.size ∧ p ≤ q
          · simp only [hok.1, hok.2, decide_true, Bool.and_self, cond_true]
            have hb := bounds2_run (P := P) false hp hq hxl hxh (cap := s.size) hok.1 hok.2 w
            refine ⟨.string (s.extract p q), ?_, .str _ _ (by rw [extract_ofBytes, tk_eq, drp_eq])⟩
            simp [Instr.sliceAt, run_underlying hu, Instr.slice, hb]
          · have : (decide (q ≤ s.size) && decide (p ≤ q)) = false := by simp; omega
            rw [this]; trivial
        · trivial
  · -- nil
    rename_i e hu
    cases hx
    split
    · rename_i s hl hs hr
      cases xm with
      | some _ => exact hxm.elim
      | none =>
        have hb := bounds2_run (P := P) true hl hr hxl hxh (cap := 0) (Nat.le_refl _) (Nat.le_refl _) w
        refine ⟨.slice none 0 0, ?_, .nils⟩
        simp [Instr.sliceAt, run_underlying hu, Instr.slice, hb, run_sizeOf' hs]
    · rename_i m hi' s hl hs hr
      split
      · rename_i hm
        cases xm with
        | none => exact hxm.elim
        | some xm =>
          cases xh with
          | none => exact hxh.elim
          | some xh =>
            have hb := bounds3_run (P := P) true hl hr hm ⟨_, rfl⟩ ⟨_, rfl⟩ hxl (xh := some xh) hxh (xm := some xm) hxm (Nat.le_refl _) (Nat.le_refl _) (Nat.le_refl _) w
            refine ⟨.slice none 0 0, ?_, .nils⟩
            simp [Instr.sliceAt, run_underlying hu, Instr.slice, hb, run_sizeOf' hs]
      · trivial
    · trivial
  · -- an empty one
    rename_i e hu
    cases hx with | esl ad c =>
    split
    · rename_i s hl hs hr
      cases xm with
      | some _ => exact hxm.elim
      | none =>
        have hb := bounds2_run (P := P) true hl hs hxl hxh (cap := c) (Nat.zero_le _) (Nat.le_refl _) w
        refine ⟨.slice (some (if c = 0 then ad else ad.add (0 * s))) 0 c, ?_, .esl _ _⟩
        simp only [Instr.sliceAt, Sem.run_bind, run_underlying hu, Result.andThen_ok, Instr.slice, hb, run_sizeOf' hr, Sem.run_pure]
        by_cases e2 : c = 0 <;> simp [e2]
    · trivial
  · -- a slice
    rename_i e b o n s cap hu
    split
    · rename_i s' hs'
      rw [beq_dec]
      by_cases e1 : s = s'
      · subst e1
        simp only [decide_true, cond_true]
        obtain ⟨L, c, hL, rfl, hn, h0, hle, hcap⟩ := slice_place hx
        split
        · rename_i hmx
          cases xm with
          | some _ => exact hxm.elim
          | none =>
            refine slice2_run r hxl hxh hL h0 hle hcap true nid fun l q hb _ _ => ?_
            simp only [Instr.sliceAt, Sem.run_bind, run_underlying hu, Result.andThen_ok, Instr.slice, hb, run_sizeOf' hs', Sem.run_pure]
            by_cases e2 : c = l <;> simp [e2, add_eq]
        · rename_i m hi'
          cases xm with
          | none => exact hxm.elim
          | some xm =>
            cases xh with
            | none => exact hxh.elim
            | some xh =>
              refine slice3_run r hxl hxh hxm hL h0 hle hcap true nid fun l q m hb _ _ _ => ?_
              simp only [Instr.sliceAt, Sem.run_bind, run_underlying hu, Result.andThen_ok, Instr.slice, hb, run_sizeOf' hs', Sem.run_pure]
              by_cases e2 : m = l <;> simp [e2, add_eq]
        · trivial
      · simp only [e1, decide_false, cond_false]; trivial
    · trivial
  · -- an array
    rename_i n e b o hu
    cases hx with | ptr _ _ L hL =>
    split
    · rename_i s l e' fz raw hs hb
      rw [blt_dec, ble_dec, len_eq]
      by_cases hok : 0 < s ∧ o + n * s ≤ l.length
      · simp only [hok.1, hok.2, decide_true, Bool.and_self, cond_true]
        cases mx with
        | some _ => trivial
        | none =>
          cases xm with
          | some _ => exact hxm.elim
          | none =>
            obtain ⟨_, _, _, _, hx, hlen, _⟩ := r.cells hb hL
            refine slice2_run r hxl hxh hL hok.1 (c := n) (by omega) (show CapIs L o s n (some n) from rfl) false nid fun l q hb _ _ => ?_
            simp only [Instr.sliceAt, Sem.run_bind, run_underlying hu, Result.andThen_ok, Instr.sureAddr, Sem.run_pure, hb, run_sizeOf' hs]
            by_cases e2 : n = l <;> simp [e2, add_eq]
      · have : (decide (0 < s) && decide (o + n * s ≤ l.length)) = false := by simp; omega
        rw [this]; trivial
    · trivial
  · trivial

end
end Go.Ev

namespace Go.Ev

section
variable {P : Program} {σ : Map} {h : H} {w : World}

theorem RH.mapAt (r : RH σ h w) {b : Nat} {es : List (AV × AV)} (hb : h.get b = some (.map es)) {L : Loc} (hL : σ b = some L) : ∃ m clock, w.heap[L.b]? = some (.map m clock) ∧ RM σ es m.toList := by
  obtain ⟨M, h1, h2⟩ := r.blk b _ hb
  rw [hL] at h1
  cases h1
  cases h2 with | map es m clock hh he => exact ⟨m, clock, hh, he⟩

theorem lookA_run (r : RH σ h w) {t : TypeId} {a i : AV} {x y : Value} (hx : RV σ a x) (hy : RV σ i y) (ok : Bool) (nid : Nat) :
    NXok P σ h w nid (lookA P t a i ok h) ((do pure (Next.value (← Instr.lookup t x y ok)) : Sem Next).run P w) := by
  unfold lookA
  split
  · rename_i kt et hu
    cases hk : simpleKey P 10 kt i with
    | false => simp only [cond_false]; trivial
    | true =>
      simp only [cond_true]
      split
      · rename_i es z hes hz
        obtain ⟨zv, hz1, hz2⟩ := zrOf_some (σ := σ) hz w
        have hkt : ∃ u, P.underlying kt = some u := by
          unfold simpleKey at hk
          split at hk <;> first | exact ⟨_, by assumption⟩ | cases hk
        obtain ⟨u, hku⟩ := hkt
        have hck := fun em => simpleKey_run (σ := σ) 10 10000 kt i y (by omega) hk hy em w
        have main : ∀ (m : Array MapEntry), RM σ es m.toList → ((x = .map none ∧ m = #[]) ∨ (∃ r clock, x = .map (some r) ∧ w.heap[r]? = some (.map m clock))) →
            NXok P σ h w nid (match findM (eqV P depth0 kt i) es with
              | some (some v) => .val (bif ok then .tup [v, .bool true] else v)
              | some none => .val (bif ok then .tup [z, .bool false] else z)
              | none => .bad) ((do pure (Next.value (← Instr.lookup t x y ok)) : Sem Next).run P w) := by
          intro m hm hrun
          split
          · rename_i v hf
            obtain ⟨j, v', k1, k2⟩ : ∃ j v', (Instr.findKey kt y m.toList).run P w = .ok (some (j, v')) w ∧ RV σ v v' := findKey_run hku hy hm hf w
            refine ⟨if ok then .tuple #[v', .bool true] else v', ?_, ?_⟩
            · rcases hrun with ⟨rfl, rfl⟩ | ⟨r, clock, rfl, hh⟩
              · simp [Instr.findKey, hku, run_underlying hku] at k1
                simp [Instr.lookup, run_underlying hu, hck, Instr.findKey, run_underlying hku, k1]
              · simp [Instr.lookup, run_underlying hu, hck, k1, getObj, Sem.run, hh]
            · cases ok
              · simpa using k2
              · simp only [cond_true, if_true]; exact .tup _ _ (.cons _ _ _ _ k2 (.cons _ _ _ _ (.bool _) .nil))
          · rename_i hf
            have k1 : (Instr.findKey kt y m.toList).run P w = .ok none w := findKey_run hku hy hm hf w
            refine ⟨if ok then .tuple #[zv, .bool false] else zv, ?_, ?_⟩
            · rcases hrun with ⟨rfl, rfl⟩ | ⟨r, clock, rfl, hh⟩
              · simp only [Array.toList_empty] at k1
                simp [Instr.lookup, run_underlying hu, hck, k1, hz1]
              · simp [Instr.lookup, run_underlying hu, hck, k1, hz1, getObj, Sem.run, hh]
            · cases ok
              · simpa using hz2
              · simp only [cond_true, if_true]; exact .tup _ _ (.cons _ _ _ _ hz2 (.cons _ _ _ _ (.bool _) .nil))
          · trivial
        split at hes
        · cases hx
          cases hes
          exact main #[] .nil (.inl ⟨rfl, rfl⟩)
        · rename_i b
          cases hx with | map _ L hL =>
          split at hes
          · rename_i es' hb
            cases hes
            obtain ⟨m, clock, hh, he⟩ := r.mapAt hb hL
            exact main m he (.inr ⟨_, _, rfl, hh⟩)
          · cases hes
        · cases hes
      · trivial
  · trivial

theorem same1_bits {a b : AV} {x y : Value} (hs : same1 a b = true) (hx : RV σ a x) (hy : RV σ b y) (n : Nat) : Instr.sameBits n y x = true := by
  unfold same1 at hs
  split at hs
  · cases hx; cases hy; simp [Instr.sameBits] at hs ⊢; exact hs.symm
  · cases hx; cases hy
    rw [ieq_eq] at hs
    simp only [Bool.and_eq_true, decide_eq_true_eq] at hs
    have := (keq_iff _ _).1 hs.1
    subst this
    rw [hs.2]
    simp [Instr.sameBits]
  · cases hx with | str _ s e =>
    cases hy with | str _ s' e' =>
    rw [eqL_eq] at hs
    simp only [decide_eq_true_eq] at hs
    simp only [Instr.sameBits]
    rw [byteBeq, e, e', hs]
    simp
  · cases hs
theorem sameL_bits (n : Nat) : ∀ {l m : List AV} {xs ys : List Value}, sameL l m = true → RVs σ l xs → RVs σ m ys → xs.length = ys.length ∧ ((ys.zip xs).all fun (x, y) => Instr.sameBits n x y) = true
  | [], [], _, _, _, hx, hy => by cases hx; cases hy; simp
  | [], _ :: _, _, _, hs, _, _ => by simp [sameL] at hs
  | _ :: _, [], _, _, hs, _, _ => by simp [sameL] at hs
  | a :: l, b :: m, _, _, hs, hx, hy => by
    cases hx with | cons _ v _ xs h1 hl1 =>
    cases hy with | cons _ u _ ys h2 hl2 =>
    simp only [sameL, Bool.and_eq_true] at hs
    obtain ⟨k1, k2⟩ := sameL_bits n hs.2 hl1 hl2
    refine ⟨by simp [k1], ?_⟩
    simp only [List.zip_cons_cons, List.all_cons, same1_bits hs.1 h1 h2 n, Bool.true_and]
    exact k2
theorem sameA_bits {a b : AV} {x y : Value} (hs : sameA a b = true) (hx : RV σ a x) (hy : RV σ b y) (n : Nat) : Instr.sameBits (n + 1) y x = true := by
  unfold sameA at hs
  split at hs
  · cases hx with | agg _ xs hx _ =>
    cases hy with | agg _ ys hy _ =>
    obtain ⟨k1, k2⟩ := sameL_bits n hs hx hy
    simp only [Instr.sameBits, Bool.and_eq_true, beq_iff_eq]
    exact ⟨by simpa using k1.symm, k2⟩
  · exact same1_bits hs hx hy _

theorem putM_run {kt : TypeId} {k v : AV} {kv vv : Value} (hk : RV σ k kv) (hv : RV σ v vv) : ∀ {es : List (AV × AV)} {m : List MapEntry} {es' : List (AV × AV)} (_ : RM σ es m) (_ : putM (eqV P depth0 kt k) k v es = some es') (i : Nat) (w : World),
    ((Instr.findAsking kt kv m i).run P w = .ok none w ∧ ∀ e : MapEntry, e.key = kv → e.val = vv → RM σ es' (m ++ [e])) ∨
    (∃ j u, (Instr.findAsking kt kv m i).run P w = .ok (some (i + j, u)) w ∧ ∃ e, m[j]? = some e ∧ Instr.sameBits 10000 e.key kv = true ∧ RM σ es' (m.modify j fun e => { e with key := kv, val := vv }))
  | [], _, es', hm, hp, i, w => by
    cases hm
    simp only [putM, Option.some.injEq] at hp
    subst hp
    exact .inl ⟨by simp [Instr.findAsking], fun e h1 h2 => .cons _ _ _ _ _ (h1 ▸ hk) (h2 ▸ hv) .nil⟩
  | (k', v') :: es, _, es', hm, hp, i, w => by
    cases hm with | cons _ _ e _ m hke hve hl =>
    unfold putM at hp
    split at hp
    · rename_i he
      cases hs : sameA k k' with
      | false => simp [hs] at hp
      | true =>
        simp only [hs, cond_true, Option.some.injEq] at hp
        subst hp
        have := eqV_run depth0 Op.maxDepth kt k k' kv e.key true (by decide) he hk hke w
        refine .inr ⟨0, e.val, by simp [Instr.findAsking, Op.equal, this], e, by simp, sameA_bits hs hk hke 9999, ?_⟩
        simp only [List.modify_zero_cons]
        exact .cons _ _ _ _ _ hk hv hl
    · rename_i he
      have := eqV_run depth0 Op.maxDepth kt k k' kv e.key false (by decide) he hk hke w
      have hstep : (Instr.findAsking kt kv (e :: m) i).run P w = (Instr.findAsking kt kv m (i + 1)).run P w := by
        simp [Instr.findAsking, Op.equal, this]
      split at hp
      · rename_i r hr
        cases hp
        rw [hstep]
        rcases putM_run hk hv hl hr (i + 1) w with ⟨k1, k2⟩ | ⟨j, u, k1, e', k2, k3, k4⟩
        · exact .inl ⟨k1, fun e0 h1 h2 => .cons _ _ _ _ _ hke hve (k2 e0 h1 h2)⟩
        · refine .inr ⟨j + 1, u, by rw [k1]; congr 2; rw [Nat.add_assoc, Nat.add_comm 1 j], e', by simpa using k2, k3, ?_⟩
          simp only [List.modify_succ_cons]
          exact .cons _ _ _ _ _ hke hve k4
      · cases hp
    · cases hp

theorem updA_run (r : RH σ h w) {t : TypeId} {a k v : AV} {x y z : Value} (hx : RV σ a x) (hy : RV σ k y) (hz : RV σ v z) (nid : Nat) :
    NXok P σ h w nid (updA P t a k v h) ((do Instr.mapUpdate t x y z; pure Next.skip : Sem Next).run P w) := by
  unfold updA
  split
  · rename_i kt et b hu
    cases hx with | map _ L hL =>
    cases hk : simpleKey P 10 kt k with
    | false => simp only [cond_false]; trivial
    | true =>
      simp only [cond_true]
      have hkt : ∃ u, P.underlying kt = some u := by
        unfold simpleKey at hk
        split at hk <;> first | exact ⟨_, by assumption⟩ | cases hk
      obtain ⟨u, hku⟩ := hkt
      have hck := fun em => simpleKey_run (σ := σ) 10 10000 kt k y (by omega) hk hy em w
      split
      · rename_i es hb
        split
        · rename_i es' hp
          obtain ⟨m, clock, hh, he⟩ := r.mapAt hb hL
          have hfind : ∀ res, (Instr.findAsking kt y m.toList 0).run P w = .ok res w → (Instr.findKey kt y m.toList).run P w = .ok res w := by
            intro res hr
            simp only [Instr.findKey, Sem.run_bind, run_underlying hku, Result.andThen_ok]
            split
            · rename_i r' hr'
              have := findNow_asking hku m.toList 0 r' hr' w
              rw [hr] at this
              cases this
              rfl
            · exact hr
          have fin : ∀ (m' : Array MapEntry) (clock' : Nat), RM σ es' m'.toList → (Instr.mapUpdate t (.map (some L.b)) y z).run P w = .ok () { w with heap := w.heap.setIfInBounds L.b (.map m' clock') } →
              NXok P σ h w nid (.upd undefA (h.set b (.map es'))) ((do Instr.mapUpdate t (.map (some L.b)) y z; pure Next.skip : Sem Next).run P w) := by
            intro m' clock' hm' hrun
            have hlt : L.b < w.heap.size := r.old b L hL
            refine ⟨.skip, undef, { w with heap := w.heap.setIfInBounds L.b (.map m' clock') }, by simp [hrun], .inr ⟨rfl, rfl⟩, RV.undef, ?_⟩
            refine Ext.upd r hb hL rfl ⟨by simp, fun c hc => by simp [Array.getElem?_setIfInBounds_ne (Ne.symm hc)], Rest.refl _⟩ ?_
            exact .map es' m' clock' (by simp [hlt]) hm'
          have hset : ∀ o : Obj, (setObj L.b o).run P w = .ok () { w with heap := w.heap.setIfInBounds L.b o } := fun o => by simp [setObj, Sem.run, hh]
          have hget : (getObj L.b).run P w = .ok (.map m clock) w := by simp [getObj, Sem.run, hh]
          rcases putM_run (P := P) hy hz he hp 0 w with ⟨k1, k2⟩ | ⟨j, u', k1, e', k2, k3, k4⟩
          · refine fin (m.push { key := y, val := z, born := clock }) (clock + 1) (by simpa using k2 { key := y, val := z, born := clock } rfl rfl) ?_
            simp only [Instr.mapUpdate, Sem.run_bind, run_underlying hu, Result.andThen_ok, hget, hck, hfind _ k1, hset]
          · rw [Nat.zero_add] at k1
            refine fin (m.modify j fun e => { e with key := y, val := z }) clock (by simpa using k4) ?_
            have hkey : (Instr.keyThatStays (((m[j]?).map (·.key)).getD y) y).run P w = .ok y w := by
              rw [← Array.getElem?_toList, k2]
              simp [Instr.keyThatStays, k3]
            simp only [Instr.mapUpdate, Sem.run_bind, run_underlying hu, Result.andThen_ok, hget, hck, hfind _ k1, hkey, hset]
        · trivial
      · trivial
  · trivial

end
end Go.Ev

namespace Go.Ev

section
variable {P : Program} {σ : Map} {h : H} {w : World}

theorem bif_if {α : Type} {b : Bool} {p : Prop} [Decidable p] (h : b = true ↔ p) (x y : α) : (bif b then x else y) = if p then x else y := by
  by_cases hp : p
  · rw [if_pos hp, h.2 hp]; rfl
  · rw [if_neg hp]
    cases b
    · rfl
    · exact absurd (h.1 rfl) hp
theorem dec2_eq (c : Nat) : dec2 c = if c ≥ 128 then (c, 2) else (65533, 1) := by
  refine bif_if (p := c ≥ 128) ?_ _ _
  rw [Nat.ble_eq]
theorem dec3_eq (c : Nat) (h : c ≤ 1114111) : dec3 c = if c ≥ 2048 ∧ (c < 55296 ∨ (57344 ≤ c ∧ c ≤ 1114111)) then (c, 3) else (65533, 1) := by
  refine bif_if (p := c ≥ 2048 ∧ (c < 55296 ∨ (57344 ≤ c ∧ c ≤ 1114111))) ?_ _ _
  simp only [ble_dec, blt_dec, Bool.and_eq_true, Bool.or_eq_true, decide_eq_true_eq]
  omega
theorem dec4_eq (c : Nat) : dec4 c = if c ≥ 65536 ∧ (c < 55296 ∨ (57344 ≤ c ∧ c ≤ 1114111)) then (c, 4) else (65533, 1) := by
  refine bif_if (p := c ≥ 65536 ∧ (c < 55296 ∨ (57344 ≤ c ∧ c ≤ 1114111))) ?_ _ _
  simp only [ble_dec, Bool.and_eq_true, decide_eq_true_eq]
  omega

theorem decA_eq (l : List Nat) (b0 b1 b2 b3 : Nat) (h0 : l[0]? = some b0) (h1 : ∀ x, l[1]? = some x → x = b1) (h2 : ∀ x, l[2]? = some x → x = b2) (h3 : ∀ x, l[3]? = some x → x = b3) :
    decA l = Lib.decodeN l.length b0 b1 b2 b3 := by
  unfold Lib.decodeN
  rw [← dec2_eq, ← dec3_eq _ (by omega), ← dec4_eq]
  match l with
  | [] => simp at h0
  | [c0] =>
    simp at h0
    subst h0
    simp only [decA, blt_dec, List.length_singleton]
    by_cases e : c0 < 128 <;> simp [e]
  | [c0, c1] =>
    simp at h0
    have := h1 c1 (by simp)
    subst h0; subst this
    simp only [decA, blt_dec, beq_dec, List.length_cons, List.length_nil]
    by_cases e : c0 < 128
    · simp [e]
    · by_cases e1 : c1 / 64 = 2
      · by_cases e2 : c0 / 32 = 6 <;> simp [e, e1, e2]
      · simp [e, e1]
  | [c0, c1, c2] =>
    simp at h0
    have := h1 c1 (by simp)
    have := h2 c2 (by simp)
    subst h0; subst b1; subst b2
    simp only [decA, blt_dec, beq_dec, List.length_cons, List.length_nil]
    by_cases e : c0 < 128
    · simp [e]
    · by_cases e1 : c1 / 64 = 2
      · by_cases e2 : c0 / 32 = 6
        · simp [e, e1, e2]
        · by_cases e3 : c2 / 64 = 2
          · by_cases e4 : c0 / 16 = 14 <;> simp [e, e1, e2, e3, e4]
          · simp [e, e1, e2, e3]
      · simp [e, e1]
  | c0 :: c1 :: c2 :: c3 :: l =>
    simp at h0
    have := h1 c1 (by simp)
    have := h2 c2 (by simp)
    have := h3 c3 (by simp)
    subst h0; subst b1; subst b2; subst b3
    simp only [decA, blt_dec, beq_dec, List.length_cons]
    have n1 : 1 < l.length + 1 + 1 + 1 + 1 := by omega
    have n2 : 2 < l.length + 1 + 1 + 1 + 1 := by omega
    have n3 : 3 < l.length + 1 + 1 + 1 + 1 := by omega
    simp only [n1, n2, n3, true_and]
    by_cases e : c0 < 128
    · simp [e]
    · by_cases e1 : c1 / 64 = 2
      · by_cases e2 : c0 / 32 = 6
        · simp [e, e1, e2]
        · by_cases e3 : c2 / 64 = 2
          · by_cases e4 : c0 / 16 = 14
            · simp [e, e1, e2, e3, e4]
            · by_cases e5 : c3 / 64 = 2
              · by_cases e6 : c0 / 8 = 30 <;> simp [e, e1, e2, e3, e4, e5, e6]
              · simp [e, e1, e2, e3, e4, e5]
          · simp [e, e1, e2, e3]
      · simp [e, e1]

theorem drop_ofBytes (s : ByteArray) (i k x : Nat) (hx : ((ofBytes s).drop i)[k]? = some x) : x = (s.get! (i + k)).toNat := by
  rw [List.getElem?_drop] at hx
  simp only [ofBytes, List.getElem?_map, Option.map_eq_some_iff] at hx
  obtain ⟨b, h1, rfl⟩ := hx
  rw [Array.getElem?_toList] at h1
  congr 1
  show b = s.data[i + k]!
  rw [getElem!_def, h1]

theorem decA_decode (s : ByteArray) (i : Nat) (hi : i < s.size) : decA ((ofBytes s).drop i) = Utf8.decode s i := by
  have hlen : ((ofBytes s).drop i).length = s.size - i := by rw [List.length_drop, ofBytes_length]
  have h0 : ∃ x, ((ofBytes s).drop i)[0]? = some x := ⟨_, List.getElem?_eq_getElem (by omega)⟩
  obtain ⟨x, hx⟩ := h0
  have e := drop_ofBytes s i 0 x hx
  rw [Lib.decode_at, ← hlen]
  refine decA_eq _ _ _ _ _ ?_ (fun x hx => drop_ofBytes s i 1 x hx) (fun x hx => drop_ofBytes s i 2 x hx) (fun x hx => drop_ofBytes s i 3 x hx)
  rw [hx, e]
  rfl

theorem rangeA_run (r : RH σ h w) {nid : Nat} (hn : σ nid = none) {t : TypeId} {a : AV} {x : Value} (hx : RV σ a x) :
    NXok P σ h w nid (rangeA P t a h nid) ((do pure (Next.value (← Instr.range t x)) : Sem Next).run P w) := by
  unfold rangeA
  split
  · rename_i l hu
    cases hx with | str _ s hs =>
    refine ⟨.pointer (some ⟨w.heap.size, 0, none⟩), { w with heap := w.heap.push (.stringIter s 0) }, σ.put nid ⟨w.heap.size, 0, 0⟩, ?_, ?_, ?_⟩
    · simp [Instr.range, run_underlying hu]
    · have := RV.ptr (σ := σ.put nid ⟨w.heap.size, 0, 0⟩) nid 0 _ (Map.put_same _ _ _)
      simpa using this
    · exact Ext.alloc r hn 0 _ (.stringIter s 0) _ rfl (Rest.refl _) (.iter l 0 s (by simp) (by simpa using hs) rfl)
  · trivial

theorem nextA_run (r : RH σ h w) {a : AV} {x : Value} (hx : RV σ a x) (isString : Bool) (t : TypeId) (nid : Nat) :
    NXok P σ h w nid (nextA a isString h) ((do pure (Next.value (← Instr.next x isString t)) : Sem Next).run P w) := by
  unfold nextA
  split
  · rename_i b
    cases hx with | ptr _ _ L hL =>
    split
    · rename_i l p hb
      obtain ⟨M, h1, h2⟩ := r.blk b _ hb
      rw [hL] at h1
      cases h1
      cases h2 with
      | iter rest pos s hh hr ho =>
        have hget : (getObj L.b).run P w = .ok (.stringIter s p) w := by simp [getObj, Sem.run, hh]
        have hset : ∀ o : Obj, (setObj L.b o).run P w = .ok () { w with heap := w.heap.setIfInBounds L.b o } := fun o => by simp [setObj, Sem.run, hh]
        have hlt : L.b < w.heap.size := r.old b L hL
        split
        · -- at the end
          have hp : ¬ p < s.size := by
            intro h
            have : ((ofBytes s).drop p).length = 0 := by rw [hr]; rfl
            rw [List.length_drop, ofBytes_length] at this
            omega
          refine ⟨.tuple #[.bool false], ?_, .tup _ _ (.cons _ _ _ _ (.bool _) .nil)⟩
          simp [Instr.next, ho, hget, hp]
        · rename_i hne
          have hp : p < s.size := by
            rcases Nat.lt_or_ge p s.size with h | h
            · exact h
            · have : (ofBytes s).drop p = [] := List.drop_eq_nil_of_le (by rw [ofBytes_length]; exact h)
              exact absurd (hr.symm.trans this) hne
          have hd := decA_decode s p hp
          rw [hr] at hd
          rw [hd]
          generalize Utf8.decode s p = cw at *
          obtain ⟨c, wd⟩ := cw
          refine ⟨.value (.tuple #[.bool true, goInt p, .int .i32 c]), .tuple #[.bool true, goInt p, .int .i32 c], { w with heap := w.heap.setIfInBounds L.b (.stringIter s (p + wd)) }, ?_, .inl rfl, ?_, ?_⟩
          · have hd' : Utf8.decode s p = (c, wd) := by rw [← decA_decode s p hp, hr]; exact hd
            simp [Instr.next, ho, hget, hp, hd', hset]
          · exact .tup _ _ (.cons _ _ _ _ (.bool _) (.cons _ _ _ _ (.int _ _) (.cons _ _ _ _ (.int _ _) .nil)))
          · refine Ext.upd r hb hL rfl ⟨by simp, fun c hc => by simp [Array.getElem?_setIfInBounds_ne (Ne.symm hc)], Rest.refl _⟩ ?_
            refine .iter _ _ s (by simp [hlt]) ?_ ho
            rw [drp_eq, ← hr, List.drop_drop]
    · trivial
  · trivial

theorem assertA_run {a : AV} {x : Value} (hx : RV σ a x) (xt asserted : TypeId) (ok : Bool) (nid : Nat) :
    NXok P σ h w nid (assertA P a asserted ok) ((do pure (Next.value (← Instr.typeAssert x xt asserted ok)) : Sem Next).run P w) := by
  unfold assertA
  split
  · trivial
  · rename_i u hni hu
    split
    · rename_i t v
      cases hx with | ifc _ _ v' hv =>
      rw [beq_dec]
      by_cases e : t = asserted
      · subst e
        simp only [decide_true, cond_true]
        refine ⟨if ok then .tuple #[v', .bool true] else v', ?_, ?_⟩
        · cases u <;> first | exact (hni _ rfl).elim | (simp [Instr.typeAssert, run_underlying hu])
        · cases ok
          · simpa using hv
          · simp only [cond_true, if_true]; exact .tup _ _ (.cons _ _ _ _ hv (.cons _ _ _ _ (.bool _) .nil))
      · simp only [e, decide_false, cond_false]
        cases ok with
        | false => trivial
        | true =>
          simp only [cond_true]
          split
          · rename_i z hz
            obtain ⟨zv, hz1, hz2⟩ := zrOf_some (σ := σ) hz w
            refine ⟨.tuple #[zv, .bool false], ?_, .tup _ _ (.cons _ _ _ _ hz2 (.cons _ _ _ _ (.bool _) .nil))⟩
            cases u <;> first | exact (hni _ rfl).elim | (simp [Instr.typeAssert, run_underlying hu, e, hz1])
          · trivial
    · cases hx
      cases ok with
      | false => trivial
      | true =>
        simp only [cond_true]
        split
        · rename_i z hz
          obtain ⟨zv, hz1, hz2⟩ := zrOf_some (σ := σ) hz w
          refine ⟨.tuple #[zv, .bool false], ?_, .tup _ _ (.cons _ _ _ _ hz2 (.cons _ _ _ _ (.bool _) .nil))⟩
          cases u <;> first | exact (hni _ rfl).elim | (simp [Instr.typeAssert, run_underlying hu, hz1])
        · trivial
    · trivial
  · trivial

theorem lenA_run (r : RH σ h w) {t : TypeId} {ts : Array TypeId} {a : AV} {x : Value} {xs : Array Value} (ht : ts[0]? = some t) (hxs : xs[0]? = some x) (hx : RV σ a x) (ty : TypeId) (nid : Nat) :
    NXok P σ h w nid (lenA P t a h) ((do pure (Next.value (← Builtin.len_ ts ty xs)) : Sem Next).run P w) := by
  unfold lenA
  split
  · rename_i hu
    split
    · rename_i l
      cases hx with | str _ s hs =>
      rw [len_eq, ← hs, ofBytes_length]
      exact ⟨goInt s.size, by simp [Builtin.len_, ht, hxs, run_underlying hu], .int _ _⟩
    · trivial
  · rename_i e hu
    split
    · cases hx; exact ⟨goInt 0, by simp [Builtin.len_, ht, hxs, run_underlying hu], .int _ _⟩
    · cases hx; exact ⟨goInt 0, by simp [Builtin.len_, ht, hxs, run_underlying hu], .int _ _⟩
    · rename_i b o n s c
      obtain ⟨L, c', _, rfl, _⟩ := slice_place hx
      exact ⟨goInt n, by simp [Builtin.len_, ht, hxs, run_underlying hu], .int _ _⟩
    · trivial
  · rename_i n e hu
    exact ⟨goInt n, by simp [Builtin.len_, ht, hxs, run_underlying hu], .int _ _⟩
  · rename_i p hu
    split
    · rename_i n e hu2
      exact ⟨goInt n, by simp [Builtin.len_, ht, hxs, run_underlying hu, run_underlying hu2], .int _ _⟩
    · trivial
  · rename_i k e hu
    split
    · cases hx; exact ⟨goInt 0, by simp [Builtin.len_, ht, hxs, run_underlying hu], .int _ _⟩
    · rename_i b
      cases hx with | map _ L hL =>
      split
      · rename_i es hb
        obtain ⟨m, clock, hh, he⟩ := r.mapAt hb hL
        have hl : es.length = m.size := by
          have : ∀ {es : List (AV × AV)} {m : List MapEntry}, RM σ es m → es.length = m.length := fun h => by induction h <;> simp_all
          simpa using this he
        rw [len_eq, hl]
        exact ⟨goInt m.size, by simp [Builtin.len_, ht, hxs, run_underlying hu, getObj, Sem.run, hh], .int _ _⟩
      · trivial
    · trivial
  · trivial

theorem capA_run {t : TypeId} {ts : Array TypeId} {a : AV} {x : Value} {xs : Array Value} (ht : ts[0]? = some t) (hxs : xs[0]? = some x) (hx : RV σ a x) (ty : TypeId) (nid : Nat) :
    NXok P σ h w nid (capA P t a) ((do pure (Next.value (← Builtin.cap_ ts ty xs)) : Sem Next).run P w) := by
  unfold capA
  split
  · rename_i e hu
    split
    · cases hx; exact ⟨goInt 0, by simp [Builtin.cap_, ht, hxs, run_underlying hu], .int _ _⟩
    · rename_i b o n s c
      obtain ⟨L, c', _, rfl, _, _, _, hc⟩ := slice_place hx
      simp only [CapIs] at hc
      subst hc
      exact ⟨goInt c, by simp [Builtin.cap_, ht, hxs, run_underlying hu], .int _ _⟩
    · trivial
  · rename_i n e hu
    exact ⟨goInt n, by simp [Builtin.cap_, ht, hxs, run_underlying hu], .int _ _⟩
  · trivial

theorem max2A_run {a b v : AV} {x y : Value} (hm : max2A a b = some v) (hx : RV σ a x) (hy : RV σ b y) (w : World) : ∃ u, (Builtin.max2 x y).run P w = .ok u w ∧ RV σ v u := by
  unfold max2A at hm
  split at hm
  · rename_i k a k' b
    cases hm; cases hx; cases hy
    rw [ilt_eq]
    refine ⟨.int k (if b > a then b else a), rfl, ?_⟩
    by_cases e : a < b <;> simp [e] <;> exact .int _ _
  · cases hm
theorem min2A_run {a b v : AV} {x y : Value} (hm : min2A a b = some v) (hx : RV σ a x) (hy : RV σ b y) (w : World) : ∃ u, (Builtin.min2 x y).run P w = .ok u w ∧ RV σ v u := by
  unfold min2A at hm
  split at hm
  · rename_i k a k' b
    cases hm; cases hx; cases hy
    rw [ilt_eq]
    refine ⟨.int k (if b < a then b else a), rfl, ?_⟩
    by_cases e : b < a <;> simp [e] <;> exact .int _ _
  · cases hm
theorem foldA_run {f : AV → AV → Option AV} {g : Value → Value → Sem Value} (hfg : ∀ {a b v : AV} {x y : Value}, f a b = some v → RV σ a x → RV σ b y → ∀ w, ∃ u, (g x y).run P w = .ok u w ∧ RV σ v u) :
    ∀ {l : List AV} {m : List Value} {a v : AV} {x : Value}, foldA f a l = some v → RV σ a x → RVs σ l m → ∀ w, ∃ u, (m.foldlM g x).run P w = .ok u w ∧ RV σ v u
  | [], _, a, v, x, hf, hx, hl, w => by cases hl; simp only [foldA, Option.some.injEq] at hf; subst hf; exact ⟨x, by simp, hx⟩
  | b :: l, _, a, v, x, hf, hx, hl, w => by
    cases hl with | cons _ y _ m hb hl =>
    unfold foldA at hf
    split at hf
    · rename_i z hz
      obtain ⟨u, h1, h2⟩ := hfg hz hx hb w
      obtain ⟨u', h3, h4⟩ := foldA_run hfg hf h2 hl w
      exact ⟨u', by simp [List.foldlM_cons, h1, h3], h4⟩
    · cases hf

end
end Go.Ev

namespace Go.Ev

section
variable {P : Program} {σ : Map} {h : H} {w : World}

theorem cntA_run {a : AV} {x : Value} {k : Nat} (hc : cntA a = some k) (hx : RV σ a x) (w : World) : (Builtin.lenOf x).run P w = .ok k w := by
  unfold cntA at hc
  split at hc
  · cases hc; cases hx; simp [Builtin.lenOf]
  · cases hc; cases hx; simp [Builtin.lenOf]
  · cases hc; obtain ⟨L, c, _, rfl, _⟩ := slice_place hx; simp [Builtin.lenOf]
  · cases hc; cases hx with | str _ s hs => rw [len_eq, ← hs, ofBytes_length]; simp [Builtin.lenOf]
  · cases hc

theorem srcA_run (r : RH σ h w) {a : AV} {x : Value} {s k : Nat} {new : List AV} (hs : srcA h s a = some new) (hc : cntA a = some k) (hx : RV σ a x) (h0 : 0 < s) {m : Nat} (hm : m ≤ k) :
    new.length = k * s ∧ ∃ vs : List Value, (Builtin.firstCells s m x).run P w = .ok vs.toArray w ∧ RVs σ (new.take (m * s)) vs ∧ vs.length = m * s ∧ ∀ v ∈ vs, v.oneCell' = true := by
  unfold srcA at hs
  split at hs
  · cases hs
    simp only [cntA, Option.some.injEq] at hc
    subst hc
    cases hx
    have : m = 0 := by omega
    subst this
    exact ⟨by simp, [], by simp [Builtin.firstCells], by simpa using RVs.nil, by simp, by simp⟩
  · cases hs
    simp only [cntA, Option.some.injEq] at hc
    subst hc
    cases hx with | esl a c =>
    have : m = 0 := by omega
    subst this
    exact ⟨by simp, [], by simp [Builtin.firstCells, loadCells, loadCellsFrom], by simpa using RVs.nil, by simp, by simp⟩
  · rename_i b o n s' cap
    rw [beq_dec] at hs
    by_cases e : s = s'
    · subst e
      simp only [decide_true, cond_true] at hs
      simp only [cntA, Option.some.injEq] at hc
      subst hc
      obtain ⟨L, c, hL, rfl, _⟩ := slice_place hx
      have hlen : new.length = n * s := by
        obtain ⟨vs, k1, _, k3, _⟩ := ldCells_run (P := P) r hs hL
        rw [k3.length, k1]
      refine ⟨hlen, ?_⟩
      have hms : m * s ≤ n * s := Nat.mul_le_mul_right s hm
      have hs' : ldCells h b o (m * s) = some (new.take (m * s)) := by
        unfold ldCells at hs ⊢
        split at hs
        · rename_i l e fz raw hb
          rw [ble_dec, len_eq] at hs
          by_cases hle : o + n * s ≤ l.length
          · simp only [hle, decide_true, cond_true, Option.some.injEq, tk_eq, drp_eq] at hs
            rw [ble_dec, len_eq]
            have : o + m * s ≤ l.length := by omega
            simp only [this, decide_true, cond_true, tk_eq, drp_eq]
            rw [← hs, List.take_take, Nat.min_eq_left hms]
          · simp [hle] at hs
        · cases hs
      obtain ⟨vs, k1, k2, k3, k4, _⟩ := ldCells_run (P := P) r hs' hL
      exact ⟨vs, by simpa [Builtin.firstCells] using k2, k3, k1, k4⟩
    · simp [e] at hs
  · rename_i l
    rw [beq_dec] at hs
    by_cases e : s = 1
    · subst e
      simp only [decide_true, cond_true, Option.some.injEq] at hs
      simp only [cntA, Option.some.injEq, len_eq] at hc
      subst hc
      subst hs
      cases hx with | str _ s hs =>
      subst hs
      rw [ofBytes_length] at hm
      refine ⟨by rw [toBytesA_length, Nat.mul_one], (s.data.toList.take m).map fun b => Value.int .u8 b.toNat, ?_, ?_, ?_, ?_⟩
      · simp only [Builtin.firstCells, Sem.run_pure, ByteArray.data_extract]
        congr 1
        apply Array.ext'
        simp [Array.toList_extract, List.extract_eq_take_drop, List.map_take]
      · have := (toBytesA_rel (σ := σ) s.data.toList).take (m * 1)
        rw [Nat.mul_one] at this ⊢
        rw [List.map_take]
        exact this
      · have : s.data.toList.length = s.size := by simp
        simp; omega
      · intro v hv
        simp only [List.mem_map] at hv
        obtain ⟨b, _, rfl⟩ := hv
        rfl
    · simp [e] at hs
  · cases hs

theorem growBy_le (n : Nat) : ∀ (r c : Nat), 256 ≤ c → c ≤ 2 * n → Builtin.growBy n r c ≤ 2 * n
  | 0, c, _, h => h
  | r + 1, c, hc, h => by
    unfold Builtin.growBy
    split
    · exact h
    · exact growBy_le n r _ (by omega) (by omega)
theorem nextslicecap_le {n c : Nat} (h : c < n) : Builtin.nextslicecap n c ≤ 2 * n := by
  unfold Builtin.nextslicecap
  split
  · omega
  · split
    · omega
    · exact growBy_le n 4 c (by omega) (by omega)

theorem fzOff_le (fz o : Nat) : fz ≤ o + fzOff fz o := by
  unfold fzOff
  rw [beq_dec, blt_dec]
  by_cases h : fz = 0
  · omega
  · by_cases h' : o < fz
    · simp only [h, h', decide_false, decide_true, cond_false, cond_true]; omega
    · simp only [h, h', decide_false, cond_false]; omega
theorem fzOff_pos {fz o : Nat} (h : 0 < fz) : 0 < fzOff fz o := by
  unfold fzOff
  rw [beq_dec, blt_dec]
  have h0 : ¬ fz = 0 := by omega
  by_cases h' : o < fz
  · simp only [h0, h', decide_false, decide_true, cond_false, cond_true]; omega
  · simp only [h0, h', decide_false, cond_false]; omega
theorem roomOk_some {e : TypeId} {n : Nat} (hr : roomOk P e n = true) : ∃ i, P.info? e = some i ∧ n * i.bytes ≤ 140737488355328 ∧ n < p63 ∧ 0 < i.bytes := by
  unfold roomOk at hr
  split at hr
  · rename_i by' hb
    obtain ⟨i, hi, rfl⟩ := byOf_some hb
    simp only [ble_dec, blt_dec, Bool.and_eq_true, decide_eq_true_eq] at hr
    exact ⟨i, hi, hr.1.1, hr.1.2, hr.2⟩
  · cases hr

theorem zeroCells_one {zv : Value} (h1 : ∀ v ∈ zv.cells.toList, v.oneCell' = true) (n : Nat) (h0 : 0 < zv.cells.size) : ∀ v ∈ (Builtin.zeroCells zv.cells n).toList, v.oneCell' = true := by
  intro v hv
  simp only [Builtin.zeroCells, Array.toList_map, List.mem_map] at hv
  obtain ⟨i, _, rfl⟩ := hv
  have hm : i % zv.cells.size < zv.cells.size := Nat.mod_lt _ h0
  refine h1 _ ?_
  rw [getElem!_pos zv.cells _ hm, Array.mem_toList_iff]
  exact Array.getElem_mem hm

theorem noInt_run {ts : Array TypeId} {t : TypeId} {l : List TypeId} (hts : ts.toList = t :: l) (hn : noInt P l = true) :
    ts[1]? = none ∨ ∃ u d, ts[1]? = some u ∧ P.underlying u = some d ∧ (match d with | .int _ => true | _ => false) = false := by
  have h1 : ts[1]? = l[0]? := by rw [← Array.getElem?_toList, hts]; simp
  rw [h1]
  cases l with
  | nil => exact .inl (by simp)
  | cons u l =>
    simp only [noInt] at hn
    split at hn
    · cases hn
    · rename_i d hni hu
      refine .inr ⟨u, d, by simp, hu, ?_⟩
      cases d <;> first | rfl | exact (hni _ rfl).elim
    · cases hn

theorem append_fits {e : TypeId} {s k : Nat} {nv : Array Value} {ts : Array TypeId} {t : TypeId} {l : List TypeId} {ty : TypeId} {base : Option Addr} {sLen sCap : Nat} {x : Value} {args : Array Value}
    (hts : ts.toList = t :: l) (hni : noInt P l = true) (hu : P.underlying t = some (.slice e)) (hs : szOf P e = some s)
    (ha0 : args[0]? = some (.slice base sLen sCap)) (ha1 : args[1]? = some x) (hlen : (Builtin.lenOf x).run P w = .ok k w) (hfit : sLen + k ≤ sCap)
    (hnew : (Builtin.firstCells s k x).run P w = .ok nv w) :
    (Builtin.append_ ts ty args).run P w = match base with
      | some a => ((storeCells (a.add (sLen * s)) nv.toList).run P w).andThen fun _ w' => .ok (.slice base (sLen + k) sCap) w'
      | none => .ok (.slice base (sLen + k) sCap) w := by
  have ht0 : ts[0]? = some t := by rw [← Array.getElem?_toList, hts]; simp
  rcases noInt_run hts hni with h1 | ⟨u, d, h1, h2, h3⟩
  · unfold Builtin.append_
    simp only [ht0, ha0, ha1, h1, Sem.run_bind, run_underlying hu, Result.andThen_ok, run_sizeOf' hs, Sem.run_pure, Bool.false_eq_true, if_false, hlen, hfit, if_true, Bool.not_false, hnew]
    cases base <;> simp
  · cases d <;> first
      | (exfalso; revert h3; simp; done)
      | (unfold Builtin.append_
         simp only [ht0, ha0, ha1, h1, Sem.run_bind, run_underlying hu, run_underlying h2, Result.andThen_ok, run_sizeOf' hs, Sem.run_pure, Bool.false_eq_true, if_false, hlen, hfit, if_true, Bool.not_false, hnew]
         cases base <;> simp)

theorem append_grows {e : TypeId} {s k : Nat} {ov nv : Array Value} {ts : Array TypeId} {t : TypeId} {l : List TypeId} {ty : TypeId} {base : Option Addr} {sLen sCap : Nat} {x : Value} {args : Array Value} {i : TypeInfo} {zv : Value} {cap : Nat} {w1 : World}
    (hts : ts.toList = t :: l) (hni : noInt P l = true) (hu : P.underlying t = some (.slice e)) (hs : szOf P e = some s) (hi : P.info? e = some i)
    (ha0 : args[0]? = some (.slice base sLen sCap)) (ha1 : args[1]? = some x) (hlen : (Builtin.lenOf x).run P w = .ok k w) (hgt : ¬ sLen + k ≤ sCap)
    (hmax : ¬ ((sLen + k : Nat) : Int) > IntKind.i64.max) (h48 : ¬ Builtin.nextslicecap (sLen + k) sCap * i.bytes > 2 ^ 48)
    (hch : (choose (.appendCap (sLen + k) sCap e)).run P w = .ok cap w1)
    (hold : (Builtin.firstCells s sLen (.slice base sLen sCap)).run P w1 = .ok ov w1) (hnew : (Builtin.firstCells s k x).run P w1 = .ok nv w1) (hz : (zeroValue e).run P w1 = .ok zv w1) :
    (Builtin.append_ ts ty args).run P w = ((newRow e (ov ++ nv ++ Builtin.zeroCells zv.cells (cap - (sLen + k)))).run P w1).andThen fun a w' => .ok (.slice (some a) (sLen + k) cap) w' := by
  have ht0 : ts[0]? = some t := by rw [← Array.getElem?_toList, hts]; simp
  rcases noInt_run hts hni with h1 | ⟨u, d, h1, h2, h3⟩
  · unfold Builtin.append_
    simp only [ht0, ha0, ha1, h1, Sem.run_bind, run_underlying hu, Result.andThen_ok, run_sizeOf' hs, Sem.run_pure, Bool.false_eq_true, if_false, hlen, hgt, run_typeInfo' hi, hmax, false_and, h48, hch, run_askRoom, hold, hnew, hz, Bool.not_false, if_true]
  · cases d <;> first
      | (exfalso; revert h3; simp; done)
      | (unfold Builtin.append_
         simp only [ht0, ha0, ha1, h1, Sem.run_bind, run_underlying hu, run_underlying h2, Result.andThen_ok, run_sizeOf' hs, Sem.run_pure, Bool.false_eq_true, if_false, hlen, hgt, run_typeInfo' hi, hmax, false_and, h48, hch, run_askRoom, hold, hnew, hz, Bool.not_false, if_true])

theorem Ext.drop {N : Nat → Prop} (r : RH σ h w) (i : Nat) {A : AB} (hi : h.get i = some A) (hro : A.ro = false) : Ext N σ h w σ (h.del i) w := by
  have get : ∀ j B, (h.del i).get j = some B → h.get j = some B := fun j B hj => by
    rw [Tr.get_del] at hj
    by_cases e : j = i
    · simp [e] at hj
    · simpa [e] using hj
  exact ⟨Map.le_refl _, ⟨fun j B hj => r.blk j B (get j B hj), fun j k B C L M hj hk => r.inj j k B C L M (get j B hj) (get k C hk), r.old⟩, Nat.le_refl _, fun _ _ _ => rfl, fun _ _ e => .inl e,
    fun j B _ hj _ => ⟨B, get j B hj⟩, Rest.refl w, fun j B _ hj hB _ => ⟨rfl, by
      rw [Tr.get_del, if_neg]
      · exact hj
      · intro e
        subst e
        rw [hi] at hj
        cases hj
        rw [hro] at hB
        cases hB⟩⟩

theorem loadCells_drawn (d : Nat) (a : Addr) : ∀ (n i : Nat) (acc vs : Array Value), (loadCellsFrom a i n acc).run P w = .ok vs w → (loadCellsFrom a i n acc).run P { w with drawn := d } = .ok vs { w with drawn := d }
  | 0, i, acc, vs, hl => by simp [loadCellsFrom] at hl ⊢; exact hl
  | n + 1, i, acc, vs, hl => by
    simp only [loadCellsFrom, Sem.run_bind, run_load] at hl ⊢
    have e1 : World.cell? { w with drawn := d } (a.add i) = w.cell? (a.add i) := rfl
    have e2 : World.farLoad P { w with drawn := d } (a.add i) (Mode.plain == Mode.atomic) = w.farLoad P (a.add i) (Mode.plain == Mode.atomic) := rfl
    rw [e1, e2]
    cases hc : w.cell? (a.add i) with
    | some v => rw [hc] at hl; simp only [Result.andThen_ok] at hl ⊢; exact loadCells_drawn d a n (i + 1) _ vs hl
    | none =>
      rw [hc] at hl
      simp only at hl ⊢
      cases hf : w.farLoad P (a.add i) (Mode.plain == Mode.atomic) with
      | ok vl => rw [hf] at hl; simp only [Result.andThen_ok] at hl ⊢; exact loadCells_drawn d a n (i + 1) _ vs hl
      | error e => rw [hf] at hl; simp at hl
theorem firstCells_drawn (d s m : Nat) {y : Value} {vs : Array Value} (hl : (Builtin.firstCells s m y).run P w = .ok vs w) : (Builtin.firstCells s m y).run P { w with drawn := d } = .ok vs { w with drawn := d } := by
  unfold Builtin.firstCells at hl ⊢
  split at hl
  · exact loadCells_drawn d _ _ _ _ _ hl
  · simp at hl ⊢; exact hl
  · simp at hl ⊢; exact hl
  · simp at hl

theorem growA_run (r : RH σ h w) {nid : Nat} (hn : σ nid = none) {e : TypeId} {s k n : Nat} {old new : List AV} {ov nv : List Value} {ts : Array TypeId} {t : TypeId} {l : List TypeId} {ty : TypeId} {base : Option Addr} {sLen sCap : Nat} {x : Value} {args : Array Value}
    (hts : ts.toList = t :: l) (hni : noInt P l = true) (hu : P.underlying t = some (.slice e)) (hs : szOf P e = some s) (h0 : 0 < s)
    (ha0 : args[0]? = some (.slice base sLen sCap)) (ha1 : args[1]? = some x) (hlen : (Builtin.lenOf x).run P w = .ok k w) (hneed : sLen + k = n) (hgt : sCap < n)
    (hold : (Builtin.firstCells s sLen (.slice base sLen sCap)).run P w = .ok ov.toArray w) (hov : RVs σ old ov) (hol : ov.length = sLen * s) (ho1 : ∀ v ∈ ov, v.oneCell' = true)
    (hnew : (Builtin.firstCells s k x).run P w = .ok nv.toArray w) (hnv : RVs σ new nv) (hnl : nv.length = k * s) (hn1 : ∀ v ∈ nv, v.oneCell' = true) (fz : Nat) (raw : Bool) :
    NXok P σ h w nid (growA P e s n (old ++ new) fz raw h nid) ((do pure (Next.value (← Builtin.append_ ts ty args)) : Sem Next).run P w) := by
  unfold growA
  split
  · rename_i z hz
    obtain ⟨zv, hz1, hz2⟩ := zrOf_some (σ := σ) hz w
    split
    · rename_i zc hc
      obtain ⟨q1, q2⟩ := cells_rel hz2 hc
      rw [beq_dec, len_eq]
      by_cases hok : zc.length = s ∧ roomOk P e n = true
      · obtain ⟨o1, o2⟩ := hok
        simp only [o1, o2, decide_true, Bool.and_self, cond_true]
        obtain ⟨i, hi, hb1, hb2, hb3⟩ := roomOk_some o2
        simp only [p63] at hb2
        have hzs : zv.cells.size = s := by have := q1.length; simp at this; omega
        let q : Question := .appendCap n sCap e
        let cap := q.cut (w.tape w.drawn q)
        have hcap : n ≤ cap := by simp only [cap, q, Question.cut]; omega
        let w1 : World := { w with drawn := w.drawn + 1 }
        let rest := Builtin.zeroCells zv.cells (cap - n)
        have hrs : rest.size = (cap - n) * s := by simp [rest, Builtin.zeroCells, hzs]
        let c : Array Value := ov.toArray ++ nv.toArray ++ rest
        have hcs : c.size = cap * s := by
          simp only [c, Array.size_append, List.size_toArray, hol, hnl, hrs]
          rw [← Nat.add_mul, ← Nat.add_mul]
          congr 1
          omega
        let w' : World := { w1 with heap := w.heap.push (.cells c e (0, 0)) }
        have r1 : RH σ h w1 := r.of_heap rfl
        have hz1' : (zeroValue e).run P w1 = .ok zv w1 := by
          obtain ⟨zv', k1, _⟩ := zrOf_some (σ := σ) hz w1
          have : zv' = zv := by
            simp only [zeroValue, Sem.run_bind, run_typeInfo' hi, Result.andThen_ok] at k1 hz1
            cases hzi : i.zero with
            | none => rw [hzi] at hz1; simp at hz1
            | some v => rw [hzi] at hz1 k1; simp at hz1 k1; rw [← k1, hz1]
          rw [← this]; exact k1
        refine ⟨.slice (some ⟨w.heap.size, 0, none⟩) n cap, w', σ.put nid ⟨w.heap.size, 0, c.size⟩, ?_, ?_, ?_⟩
        · have h48 : ¬ Builtin.nextslicecap n sCap * i.bytes > 2 ^ 48 := by
            have := Nat.mul_le_mul_right i.bytes (nextslicecap_le hgt)
            have e : 2 * n * i.bytes = 2 * (n * i.bytes) := by rw [Nat.mul_assoc]
            omega
          have hmax : IntKind.i64.max = 9223372036854775807 := by decide
          have hold' := firstCells_drawn (P := P) (w.drawn + 1) s sLen hold
          have hnew' := firstCells_drawn (P := P) (w.drawn + 1) s k hnew
          have hch : (choose q).run P w = .ok cap w1 := by simp [choose, q, Question.forced, Sem.run, cap, w1]
          subst hneed
          have := append_grows (ty := ty) hts hni hu hs hi ha0 ha1 hlen (by omega) (by omega) h48 hch hold' hnew' hz1'
          simp only [Sem.run_bind, this, newRow, run_newObj, Result.andThen_ok, Sem.run_pure]
          rfl
        · have := RV.slu (σ := σ.put nid ⟨w.heap.size, 0, c.size⟩) nid 0 n s cap ⟨w.heap.size, 0, c.size⟩ (Map.put_same _ _ _) hcap h0 (by simp [hcs])
          simpa using this
        · have hle := Map.le_put (l := ⟨w.heap.size, 0, c.size⟩) hn
          refine Ext.alloc r hn c.size _ (.cells c e) w' rfl ⟨rfl, rfl, rfl⟩ ?_
          have hlen' : (old ++ new).length = n * s := by
            rw [List.length_append, hov.length, hnv.length, hol, hnl, ← Nat.add_mul, hneed]
          refine .cells _ e fz raw c 0 0 (by simp [w']) (Nat.le_refl _) ?_ (fun j a hj => ?_) (fun j v _ _ hj => ?_) (fun j _ _ => by omega) (fun _ => .inl rfl) (.inl rfl)
          · rw [hlen', hcs, Nat.zero_add]; exact Nat.mul_le_mul_right s hcap
          · obtain ⟨v, k1, k2⟩ := (hov.app hnv).get hj
            refine ⟨v, ?_, k2.mono hle⟩
            have hjl : j < (ov ++ nv).length := by
              rcases Nat.lt_or_ge j (ov ++ nv).length with h | h
              · exact h
              · rw [List.getElem?_eq_none h] at k1; cases k1
            simp only [c, Nat.zero_add]
            rw [Array.getElem?_append_left (by simpa using hjl), ← Array.getElem?_toList]
            simpa using k1
          · have hm := Array.mem_of_getElem? hj
            simp only [c, Array.mem_append, List.mem_toArray] at hm
            rcases hm with (hm | hm) | hm
            · exact ho1 v hm
            · exact hn1 v hm
            · exact zeroCells_one q2 (cap - n) (by omega) v (by rw [Array.mem_toList_iff]; exact hm)
      · have : (decide (zc.length = s) && roomOk P e n) = false := by
          rw [Bool.eq_false_iff]; simp only [ne_eq, Bool.and_eq_true, decide_eq_true_eq]; exact hok
        rw [this]; trivial
    · trivial
  · trivial

theorem appendTo_run (r : RH σ h w) {nid : Nat} (hn : σ nid = none) {e : TypeId} {s k : Nat} {new : List AV} {d a : AV} {x y : Value} {ts : Array TypeId} {t : TypeId} {l : List TypeId} {ty : TypeId} {args : Array Value}
    (hts : ts.toList = t :: l) (hni : noInt P l = true) (hu : P.underlying t = some (.slice e)) (hs : szOf P e = some s) (h0 : 0 < s)
    (ha0 : args[0]? = some y) (ha1 : args[1]? = some x) (hy : RV σ d y) (hx : RV σ a x) (hc : cntA a = some k) (hsrc : srcA h s a = some new) :
    NXok P σ h w nid (appendTo P e s k new d h nid) ((do pure (Next.value (← Builtin.append_ ts ty args)) : Sem Next).run P w) := by
  have hlen := cntA_run (P := P) hc hx w
  obtain ⟨hnl, nv, n1, n2, n3, n4⟩ := srcA_run (P := P) r hsrc hc hx h0 (Nat.le_refl k)
  rw [List.take_of_length_le (by omega)] at n2
  unfold appendTo
  split
  · -- nil
    cases hy
    rw [beq_dec]
    by_cases hk : k = 0
    · subst hk
      simp only [decide_true, cond_true]
      refine ⟨.slice none 0 0, ?_, .nils⟩
      simp only [Sem.run_bind, append_fits hts hni hu hs ha0 ha1 hlen (Nat.le_refl _) n1, Result.andThen_ok, Sem.run_pure]
    · simp only [hk, decide_false, cond_false]
      have := growA_run (P := P) (ty := ty) (old := []) (ov := []) (n := k) r hn hts hni hu hs h0 ha0 ha1 hlen (by omega) (by omega) (by simp [Builtin.firstCells]) .nil (by simp) (by simp) n1 n2 n3 n4 0 false
      simpa using this
  · cases hy with | esl ad c =>
    rw [beq_dec]
    by_cases hk : k = 0
    · subst hk
      simp only [decide_true, cond_true]
      have hnv : nv = [] := List.length_eq_zero_iff.1 (by omega)
      refine ⟨.slice (some ad) 0 c, ?_, .esl ad c⟩
      have := append_fits (ty := ty) hts hni hu hs ha0 ha1 hlen (by omega) n1
      simp only [Sem.run_bind, this, hnv, storeCells, Sem.run_pure, Result.andThen_ok]
    · simp only [hk, decide_false, cond_false]; trivial
  · rename_i b o n s' cap
    rw [beq_dec]
    by_cases e1 : s = s'
    · subst e1
      simp only [decide_true, cond_true]
      obtain ⟨L, c, hL, rfl, hnc, _, hle, hcap⟩ := slice_place hy
      rw [beq_dec]
      by_cases hk : k = 0
      · subst hk
        simp only [decide_true, cond_true]
        have hnv : nv = [] := List.length_eq_zero_iff.1 (by omega)
        refine ⟨_, ?_, hy⟩
        have := append_fits (ty := ty) hts hni hu hs ha0 ha1 hlen (by omega) n1
        simp only [Sem.run_bind, this, hnv, storeCells, Sem.run_pure, Result.andThen_ok]
        rfl
      · simp only [hk, decide_false, cond_false]
        split
        · rename_i lb e' fz raw cl hb hcl
          have hclc := capLo_le r hcl hL h0 hcap
          obtain ⟨cc, lo, hi, hh, hcx, hclen, hcv, hc1, hcf, hcr⟩ := r.cells hb hL
          have hmul : (n + k) * s ≤ c * s ∨ c < n + k := by
            rcases Nat.lt_or_ge c (n + k) with h | h
            · exact .inr h
            · exact .inl (Nat.mul_le_mul_right s h)
          have hadd : (n + k) * s = n * s + k * s := Nat.add_mul n k s
          -- what stores the new cells where there is room
          have inplace : n + k ≤ c → fz ≤ o + n * s → ∃ w' c', (Builtin.append_ ts ty args).run P w = .ok (.slice (some ⟨L.b, L.o + o, none⟩) (n + k) c) w' ∧ Upd L.b w w' ∧
              w'.heap[L.b]? = some (.cells c' e' (lo, hi)) ∧ c'.size = cc.size ∧ ∀ j, c'[j]? = if L.o + (o + n * s) ≤ j ∧ j < L.o + (o + n * s) + k * s then nv[j - (L.o + (o + n * s))]? else cc[j]? := by
            intro hfit hfz
            have hms : (n + k) * s ≤ c * s := Nat.mul_le_mul_right s hfit
            obtain ⟨w', c', k1, k2, k3, k4, k5⟩ := run_storeCells_any P L.b (L.o + (o + n * s)) e' lo hi nv 0 w cc hh (by omega) n4 (fun j hj hj' => hcf j (by omega) (by omega))
            refine ⟨w', c', ?_, k2, k3, k4, fun j => by rw [k5 j, n3]; simp only [Nat.add_zero]⟩
            have := append_fits (ty := ty) hts hni hu hs ha0 ha1 hlen hfit n1
            rw [this]
            simp only [add_eq]
            rw [show L.o + o + n * s = L.o + (o + n * s) by omega, k1]
            rfl
          rw [ble_dec]
          by_cases hfit : n + k ≤ cl
          · simp only [hfit, decide_true, cond_true]
            rw [ble_dec, ble_dec, len_eq]
            by_cases hok : o + (n + k) * s ≤ lb.length ∧ fz ≤ o + n * s
            · obtain ⟨ok1, ok2⟩ := hok
              simp only [ok1, ok2, decide_true, Bool.and_self, cond_true]
              obtain ⟨w', c', k1, k2, k3, k4, k5⟩ := inplace (by omega) ok2
              refine ⟨.value (.slice (some ⟨L.b, L.o + o, none⟩) (n + k) c), .slice (some ⟨L.b, L.o + o, none⟩) (n + k) c, w', by simp [k1], .inl rfl, ?_, ?_⟩
              · cases cap with
                | some c' => simp only [CapIs] at hcap; subst hcap; exact .slx _ _ _ _ _ L hL (by omega) h0 hle
                | none => exact .slu _ _ _ _ _ L hL (by omega) h0 hcap
              · refine Ext.upd r hb hL (AB.ro_of _ (by omega)) k2 ?_
                have hseg := setSeg_eq lb (o + n * s) new (by rw [hnl]; omega)
                refine .cells _ e' fz raw c' lo hi k3 (by omega) (by rw [hseg]; simp [hnl]; omega) (fun i a hi' => ?_) (fun i v hi1 hi2 hi3 => ?_) hcf hcr (.inl (r.org hb hL (.inr (by omega))))
                · rw [hseg] at hi'
                  rw [k5]
                  by_cases hin : o + n * s ≤ i ∧ i < o + n * s + k * s
                  · rw [if_pos (by omega)]
                    rw [List.append_assoc, List.getElem?_append_right (by simp; omega), List.getElem?_append_left (by simp [hnl]; omega)] at hi'
                    have : min (o + n * s) lb.length = o + n * s := by omega
                    simp only [List.length_take, this] at hi'
                    obtain ⟨v, q1, q2⟩ := n2.get hi'
                    exact ⟨v, by rw [show L.o + i - (L.o + (o + n * s)) = i - (o + n * s) by omega]; exact q1, q2⟩
                  · rw [if_neg (by omega)]
                    refine hcv i a ?_
                    by_cases hlt : i < o + n * s
                    · rw [List.append_assoc, List.getElem?_append_left (by simp; omega), List.getElem?_take] at hi'
                      simpa [hlt] using hi'
                    · rw [List.getElem?_append_right (by simp [hnl]; omega), List.getElem?_drop] at hi'
                      have : min (o + n * s) lb.length = o + n * s := by omega
                      simp only [List.length_append, List.length_take, this, hnl] at hi'
                      rw [show o + n * s + k * s + (i - (o + n * s + k * s)) = i by omega] at hi'
                      exact hi'
                · rw [k5] at hi3
                  split at hi3
                  · exact n4 v (List.mem_of_getElem? hi3)
                  · exact hc1 i v hi1 hi2 hi3
            · have : (decide (o + (n + k) * s ≤ lb.length) && decide (fz ≤ o + n * s)) = false := by
                rw [Bool.eq_false_iff]; simp only [ne_eq, Bool.and_eq_true, decide_eq_true_eq]; exact hok
              rw [this]; trivial
          · simp only [hfit, decide_false, cond_false]
            rw [ble_dec, len_eq]
            by_cases hol : o + n * s ≤ lb.length
            · simp only [hol, decide_true, cond_true]
              have hld : ldCells h b o (n * s) = some (tk (n * s) (drp lb o)) := by
                unfold ldCells
                rw [hb]
                simp only [ble_dec, len_eq, hol, decide_true, cond_true]
              obtain ⟨ov, o1, o2, o3, o4, _⟩ := ldCells_run (P := P) r hld hL
              have hfirst : (Builtin.firstCells s n (.slice (some ⟨L.b, L.o + o, none⟩) n c)).run P w = .ok ov.toArray w := by simpa [Builtin.firstCells] using o2
              rw [app_eq]
              split
              · rename_i c'
                simp only [CapIs] at hcap
                subst hcap
                have hcl' : cl = c' := by simp only [capLo, Option.some.injEq] at hcl; exact hcl.symm
                exact growA_run (P := P) (ty := ty) r hn hts hni hu hs h0 ha0 ha1 hlen rfl (by omega) hfirst o3 o1 o4 n1 n2 n3 n4 0 false
              · rw [ble_dec, beq_dec]
                by_cases hok : fz ≤ o + n * s ∧ e = e'
                · obtain ⟨ok1, rfl⟩ := hok
                  simp only [ok1, decide_true, Bool.and_self, cond_true]
                  rw [beq_dec]
                  by_cases ho0 : o = 0
                  case neg => simp only [ho0, decide_false, cond_false]; trivial
                  rw [decide_eq_true ho0, cond_true]
                  rcases Nat.lt_or_ge c (n + k) with hgt | hfitc
                  · -- it grows
                    have r' := (Ext.drop (N := fun _ => False) r b hb (AB.ro_of _ (by omega))).rh
                    have hg := growA_run (P := P) (ty := ty) r' hn hts hni hu hs h0 ha0 ha1 hlen rfl hgt hfirst o3 o1 o4 n1 n2 n3 n4 (fzOff fz o) raw
                    unfold NXok at hg ⊢
                    split at hg
                    · exact hg
                    · obtain ⟨m, u, w', k1, k2, k3, k4⟩ := hg
                      exact ⟨m, u, w', k1, k2, k3, (Ext.drop (N := fun _ => False) r b hb (AB.ro_of _ (by omega))).trans k4 (fun _ h => h) (fun _ h => h)⟩
                    · obtain ⟨u, w', σ', k1, k2, k3⟩ := hg
                      exact ⟨u, w', σ', k1, k2, (Ext.drop (N := fun _ => False) r b hb (AB.ro_of _ (by omega))).trans k3 (fun _ h => h.elim) (fun _ h => h)⟩
                    · exact hg
                    · trivial
                  · -- it fits
                    unfold growA
                    split
                    · rename_i z hz
                      split
                      · rename_i zc hzc
                        rw [beq_dec, len_eq]
                        by_cases hzok : zc.length = s ∧ roomOk P e (n + k) = true
                        · simp only [hzok.1, hzok.2, decide_true, Bool.and_self, cond_true]
                          obtain ⟨w', c', k1, k2, k3, k4, k5⟩ := inplace hfitc ok1
                          have hms : (n + k) * s ≤ c * s := Nat.mul_le_mul_right s hfitc
                          have hmm : L.o + o + c * s = L.x := hcap
                          refine ⟨.slice (some ⟨L.b, L.o + o, none⟩) (n + k) c, w', σ.put nid ⟨L.b, L.o + o, L.x⟩, by simp [k1], ?_, ?_⟩
                          · have := RV.slu (σ := σ.put nid ⟨L.b, L.o + o, L.x⟩) nid 0 (n + k) s c _ (Map.put_same _ _ _) hfitc h0 (by simpa using hmm)
                            simpa using this
                          · have hle' := Map.le_put (l := ⟨L.b, L.o + o, L.x⟩) hn
                            refine Ext.move r hb hL (AB.ro_of _ (by omega)) hn rfl k2 ?_
                            have hlen' : (tk (n * s) (drp lb o) ++ new).length = (n + k) * s := by
                              rw [List.length_append, o3.length, o1, hnl]; omega
                            have hfo := fzOff_le fz o
                            refine .cells _ e (fzOff fz o) raw c' lo hi k3 (by simp only; omega) (by simp only; omega) (fun i a hi' => ?_) (fun i v hi1 hi2 hi3 => ?_) (fun i hi1 hi2 => hcf i (by simp only at hi1; omega) hi2) (fun hr => ?_) (.inl (by have := r.org hb hL (.inr (by omega)); simp only; omega))
                            · simp only
                              rw [k5]
                              by_cases hin : n * s ≤ i
                              · have hi2 : i < (n + k) * s := by
                                  rcases Nat.lt_or_ge i ((n + k) * s) with h | h
                                  · exact h
                                  · rw [List.getElem?_eq_none (by omega)] at hi'; cases hi'
                                rw [if_pos (by omega)]
                                rw [List.getElem?_append_right (by rw [o3.length, o1]; exact hin), o3.length, o1] at hi'
                                obtain ⟨v, q1, q2⟩ := n2.get hi'
                                exact ⟨v, by rw [show L.o + o + i - (L.o + (o + n * s)) = i - n * s by omega]; exact q1, q2.mono hle'⟩
                              · rw [if_neg (by omega)]
                                rw [List.getElem?_append_left (by rw [o3.length, o1]; omega), tk_eq, drp_eq, List.getElem?_take, if_pos (by omega), List.getElem?_drop] at hi'
                                obtain ⟨v, q1, q2⟩ := hcv (o + i) a hi'
                                exact ⟨v, by rw [Nat.add_assoc]; exact q1, q2.mono hle'⟩
                            · simp only at hi1 hi2
                              rw [k5] at hi3
                              split at hi3
                              · exact n4 v (List.mem_of_getElem? hi3)
                              · exact hc1 i v (by omega) hi2 hi3
                            · simp only
                              rcases hcr hr with e | ⟨e0, e⟩
                              · exact .inl e
                              · exact .inr ⟨fzOff_pos e0, by omega⟩
                        · have : (decide (zc.length = s) && roomOk P e (n + k)) = false := by
                            rw [Bool.eq_false_iff]; simp only [ne_eq, Bool.and_eq_true, decide_eq_true_eq]; exact hzok
                          rw [this]; trivial
                      · trivial
                    · trivial
                · have : (decide (fz ≤ o + n * s) && decide (e = e')) = false := by
                    rw [Bool.eq_false_iff]; simp only [ne_eq, Bool.and_eq_true, decide_eq_true_eq]; exact hok
                  rw [this]; trivial
            · simp only [hol, decide_false, cond_false]; trivial
        · trivial
    · simp only [e1, decide_false, cond_false]; trivial
  · trivial

theorem appendA_run (r : RH σ h w) {nid : Nat} (hn : σ nid = none) {ts : Array TypeId} {d a : AV} {x y : Value} {ty : TypeId} {args : Array Value}
    (ha0 : args[0]? = some y) (ha1 : args[1]? = some x) (hy : RV σ d y) (hx : RV σ a x) :
    NXok P σ h w nid (appendA P ts.toList d a h nid) ((do pure (Next.value (← Builtin.append_ ts ty args)) : Sem Next).run P w) := by
  unfold appendA
  split
  · rename_i t l hts
    split
    · rename_i e hu
      split
      · rename_i s k hs hk
        rw [blt_dec]
        by_cases hok : 0 < s ∧ noInt P l = true
        · obtain ⟨h0, hni⟩ := hok
          simp only [h0, hni, decide_true, Bool.and_self, cond_true]
          split
          · trivial
          · rename_i new hsrc
            exact appendTo_run r hn hts hni hu hs h0 ha0 ha1 hy hx hk hsrc
        · have : (decide (0 < s) && noInt P l) = false := by
            rw [Bool.eq_false_iff]; simp only [ne_eq, Bool.and_eq_true, decide_eq_true_eq]; exact hok
          rw [this]; trivial
      · trivial
    · trivial
  · trivial

end
end Go.Ev

namespace Go.Ev

section
variable {P : Program} {σ : Map} {h : H} {w : World}

theorem copyA_run (r : RH σ h w) {ts : Array TypeId} {d a : AV} {x y : Value} {ty : TypeId} {args : Array Value} (nid : Nat)
    (ha0 : args[0]? = some y) (ha1 : args[1]? = some x) (hy : RV σ d y) (hx : RV σ a x) :
    NXok P σ h w nid (copyA P ts.toList d a h) ((do pure (Next.value (← Builtin.copy_ ts ty args)) : Sem Next).run P w) := by
  unfold copyA
  split
  · rename_i t l n k hts hn hk
    have ht0 : ts[0]? = some t := by rw [← Array.getElem?_toList, hts]; simp
    split
    · rename_i e hu
      split
      · rename_i s hs
        rw [blt_dec]
        by_cases h0 : 0 < s
        · simp only [h0, decide_true, cond_true]
          have hm : (bif Nat.ble n k then n else k) = Nat.min k n := by
            rw [ble_dec]
            by_cases h : n ≤ k
            · simp [h, Nat.min_def] <;> omega
            · simp [h, Nat.min_def] <;> omega
          rw [hm]
          split
          · rename_i new hsrc
            have hmk : Nat.min k n ≤ k := Nat.min_le_left k n
            obtain ⟨hnl, nv, n1, n2, n3, n4⟩ := srcA_run (P := P) r hsrc hk hx h0 hmk
            have hlen := cntA_run (P := P) hk hx w
            split
            · rename_i b o n' s' cap
              simp only [cntA, Option.some.injEq] at hn
              subst hn
              rw [beq_dec]
              by_cases e1 : s = s'
              · subst e1
                simp only [decide_true, cond_true]
                obtain ⟨L, c, hL, rfl, _⟩ := slice_place hy
                split
                · rename_i h' hst
                  rw [tk_eq] at hst
                  obtain ⟨w', k1, k2⟩ := stCells_run (P := P) r hst hL n2 n4 (fun _ => False)
                  refine ⟨.value (goInt (Nat.min k n')), goInt (Nat.min k n'), w', ?_, .inl rfl, .int _ _, k2⟩
                  simp only [Builtin.copy_, ht0, ha0, ha1, Sem.run_bind, run_underlying hu, Result.andThen_ok, hlen, run_sizeOf' hs, n1, k1, Sem.run_pure]
                · trivial
              · simp only [e1, decide_false, cond_false]; trivial
            · cases hy
              simp only [cntA, Option.some.injEq] at hn
              subst hn
              refine ⟨goInt 0, ?_, .int _ _⟩
              simp only [Nat.min_zero] at n1
              have n1' : (Builtin.firstCells s (Nat.min k 0) x).run P w = .ok nv.toArray w := by simpa using n1
              simp only [Builtin.copy_, ht0, ha0, ha1, Sem.run_bind, run_underlying hu, Result.andThen_ok, hlen, run_sizeOf' hs, n1', Sem.run_pure]
              simp
            · cases hy with | esl ad c =>
              simp only [cntA, Option.some.injEq] at hn
              subst hn
              have hnv : nv = [] := List.length_eq_zero_iff.1 (by rw [n3]; simp)
              refine ⟨goInt 0, ?_, .int _ _⟩
              have n1' : (Builtin.firstCells s (Nat.min k 0) x).run P w = .ok #[] w := by rw [n1, hnv]
              simp only [Builtin.copy_, ht0, ha0, ha1, Sem.run_bind, run_underlying hu, Result.andThen_ok, hlen, run_sizeOf' hs, n1', Sem.run_pure]
              simp [storeCells]
            · trivial
          · trivial
        · simp only [h0, decide_false, cond_false]; trivial
      · trivial
    · trivial
  · trivial

theorem zeroCells_rel {zc : List AV} {zv : Value} (hz : RVs σ zc zv.cells.toList) (h1 : ∀ v ∈ zv.cells.toList, v.oneCell' = true) {s : Nat} (hs : zc.length = s) (h0 : 0 < s) (n : Nat) :
    RVs σ (reps n zc) (Builtin.zeroCells zv.cells n).toList ∧ (∀ v ∈ (Builtin.zeroCells zv.cells n).toList, v.oneCell' = true) := by
  have hzl : zv.cells.size = s := by have := hz.length; simp at this; omega
  have := zeros_rel hz h1 hs h0 n
  unfold Builtin.zeroCells
  rw [hzl] at this ⊢
  exact this

theorem clearA_run (r : RH σ h w) {t : TypeId} {ts : Array TypeId} {a : AV} {x : Value} {xs : Array Value} (ht : ts[0]? = some t) (hxs : xs[0]? = some x) (hx : RV σ a x) (ty : TypeId) (nid : Nat) :
    NXok P σ h w nid (clearA P t a h) ((do pure (Next.value (← Builtin.clear_ ts ty xs)) : Sem Next).run P w) := by
  unfold clearA
  split
  · rename_i e hu
    cases hx
    refine ⟨.tuple #[], ?_, .tup [] #[] .nil⟩
    simp [Builtin.clear_, ht, hxs, run_underlying hu]
  · rename_i e hu
    cases hx
    refine ⟨.tuple #[], ?_, .tup [] #[] .nil⟩
    simp [Builtin.clear_, ht, hxs, run_underlying hu]
  · rename_i e b o n s cap hu
    obtain ⟨L, c, hL, rfl, _, h0, _⟩ := slice_place hx
    split
    · rename_i z hz
      obtain ⟨zv, hz1, hz2⟩ := zrOf_some (σ := σ) hz w
      split
      · rename_i zc hzc
        obtain ⟨q1, q2⟩ := cells_rel hz2 hzc
        rw [beq_dec, len_eq]
        by_cases hzl : zc.length = s
        · simp only [hzl, decide_true, cond_true]
          split
          · rename_i h' hst
            obtain ⟨p1, p2⟩ := zeroCells_rel q1 q2 hzl h0 n
            obtain ⟨w', k1, k2⟩ := stCells_run (P := P) r hst hL p1 p2 (fun _ => False)
            refine ⟨.value (.tuple #[]), .tuple #[], w', ?_, .inl rfl, .tup [] #[] .nil, k2⟩
            cases n with
            | zero =>
              have hemp : (Builtin.zeroCells zv.cells 0).toList = [] := by simp [Builtin.zeroCells]
              rw [hemp] at k1
              simp only [storeCells, Sem.run_pure, Result.ok.injEq, true_and] at k1
              subst k1
              simp [Builtin.clear_, ht, hxs, run_underlying hu]
            | succ n =>
              simp only [Builtin.clear_, ht, hxs, Sem.run_bind, run_underlying hu, Result.andThen_ok, hz1, k1, Sem.run_pure]
          · trivial
        · simp only [hzl, decide_false, cond_false]; trivial
      · trivial
    · trivial
  · rename_i k e b hu
    cases hx with | map _ L hL =>
    split
    · rename_i es hb
      obtain ⟨m, clock, hh, he⟩ := r.mapAt hb hL
      have hlt : L.b < w.heap.size := r.old b L hL
      refine ⟨.value (.tuple #[]), .tuple #[], { w with heap := w.heap.setIfInBounds L.b (.map #[] clock) }, ?_, .inl rfl, .tup [] #[] .nil, ?_⟩
      · simp [Builtin.clear_, ht, hxs, run_underlying hu, getObj, setObj, Sem.run, hh]
      · refine Ext.upd r hb hL rfl ⟨by simp, fun c hc => by simp [Array.getElem?_setIfInBounds_ne (Ne.symm hc)], Rest.refl _⟩ ?_
        exact .map [] #[] clock (by simp [hlt]) .nil
    · trivial
  · trivial

theorem RVs.head {a : AV} {l : List AV} {m : List Value} (h : RVs σ (a :: l) m) : ∃ x m', m = x :: m' ∧ RV σ a x ∧ RVs σ l m' := by
  cases h with | cons _ v _ m h hl => exact ⟨v, m, rfl, h, hl⟩

theorem dataA_run (nid : Nat) {a : AV} {x : Value} (hx : RV σ a x) (ts : Array TypeId) (ty : TypeId) :
    NXok P σ h w nid (dataA a) ((do pure (Next.value (← Builtin.unsafeSliceData_ ts ty #[x])) : Sem Next).run P w) := by
  unfold dataA
  split
  · cases hx
    exact ⟨.pointer none, rfl, .nilp⟩
  · rename_i b o n s cp
    rw [blt_dec]
    by_cases hn : 0 < n
    · rw [decide_eq_true hn, cond_true]
      have main : ∀ (L : Loc) (c : Nat), σ b = some L → n ≤ c → NXok P σ h w nid (.val (.ptr b o)) ((do pure (Next.value (← Builtin.unsafeSliceData_ ts ty #[.slice (some ⟨L.b, L.o + o, none⟩) n c])) : Sem Next).run P w) := by
        intro L c hL hc
        exact ⟨.pointer (some ⟨L.b, L.o + o, none⟩), by simp only [Sem.run_bind, Lib.run_unsafeSliceData_row w ts ty _ n c (by omega), Result.andThen_ok, Sem.run_pure], .ptr b o L hL⟩
      cases hx with
      | slx _ _ _ _ c L hL hc _ _ => exact main L c hL hc
      | slu _ _ _ _ c L hL hc _ _ => exact main L c hL hc
    · simp only [hn, decide_false, cond_false]; trivial
  · trivial

theorem strA_run (r : RH σ h w) (nid : Nat) (ts : Array TypeId) {p n : AV} {x y : Value} (hx : RV σ p x) (hy : RV σ n y) (ty : TypeId) :
    NXok P σ h w nid (strA P ts.toList p n h) ((do pure (Next.value (← Builtin.unsafeString_ ts ty #[x, y])) : Sem Next).run P w) := by
  unfold strA
  split
  · rename_i t t' hts
    have ets : ts = #[t, t'] := by cases ts; simp_all
    subst ets
    cases hx
    cases hy
    exact ⟨.string .empty, by rw [Sem.run_bind]; erw [Lib.run_unsafeString_none w t t' ty none]; rfl, .str _ _ rfl⟩
  · rename_i t t' b m hts
    have ets : ts = #[t, t'] := by cases ts; simp_all
    subst ets
    cases hx with | ptr _ _ L hL =>
    cases hy
    split
    · rename_i u l e fz hu hb
      split
      · rename_i bs hsz hbs
        rw [beq_dec, beq_dec, blt_dec, len_eq]
        by_cases hok : e = u ∧ bs.length = m + 1 ∧ m + 1 < p63
        · obtain ⟨rfl, hlen, hlt⟩ := hok
          simp only [hlen, hlt, decide_true, Bool.and_self, cond_true]
          obtain ⟨c, lo, hi, hh, h1, h2, h3, h4, h5, h6⟩ := r.cells hb hL
          have hL0 := r.org hb hL (.inl rfl)
          rw [tk_eq] at hbs
          have hcs := cellsOf_some hsz
          have hsh : w.shape? L.b = some (e, c.size) := by simp [World.shape?, hh]
          have hvs : ∃ vs, RVs σ (l.take (m + 1)) vs ∧ ∀ (j : Nat) v, vs[j]? = some v → w.cell? ⟨L.b, j, none⟩ = some v := by
            refine ⟨(List.range (l.take (m + 1)).length).map (fun j => (c[L.o + j]?).getD undef), RVs.of_get (by simp) fun i a v hi hv => ?_, fun j v hj => ?_⟩
            · have hi2 : l[i]? = some a := by
                rw [List.getElem?_take] at hi
                split at hi
                · exact hi
                · cases hi
              obtain ⟨v', q1, q2⟩ := h3 _ a hi2
              rw [List.getElem?_map] at hv
              have hlt' : i < (l.take (m + 1)).length := (List.getElem?_eq_some_iff.1 hi).1
              rw [List.getElem?_range hlt'] at hv
              simp only [Option.map_some, Option.some.injEq] at hv
              rw [q1] at hv
              simp only [Option.getD_some] at hv
              rw [← hv]
              exact q2
            · rw [List.getElem?_map] at hj
              obtain ⟨i, hi, hv⟩ := Option.map_eq_some_iff.1 hj
              obtain ⟨hi1, hi2⟩ := List.getElem?_eq_some_iff.1 hi
              simp only [List.getElem_range] at hi2
              subst hi2
              simp only [List.length_range] at hi1
              have ha : (l.take (m + 1))[j]? = some (l.take (m + 1))[j] := List.getElem?_eq_getElem hi1
              rw [List.getElem?_take] at ha
              split at ha
              · obtain ⟨v', q1, _⟩ := h3 _ _ ha
                rw [q1] at hv
                rw [hL0, Nat.zero_add] at q1
                rw [cell?_eq hh, q1]
                simpa using hv
              · cases ha
          obtain ⟨vs, hvr, hcell⟩ := hvs
          obtain ⟨us, e1, e2⟩ := bytesA_u8 hbs hvr
          have hus : us.length = m + 1 := by rw [← hlen, ← e2]; simp
          have hll : m + 1 ≤ l.length := by
            have := hvr.length
            rw [e1] at this
            simp at this
            omega
          have hlt' : m + 1 < 9223372036854775808 := hlt
          have hrun := Lib.run_unsafeString_row (P := P) w t t' ty e hu hcs L.b c.size hsh us (by intro e; rw [e] at hus; cases hus) (by omega) (by omega) (fun j x hj => by
            rw [add_eq, Nat.zero_add]
            refine hcell j _ ?_
            rw [e1, List.getElem?_map, hj]
            rfl)
          rw [hus] at hrun
          have hup : Upd L.b w (w.freeze ⟨L.b, 0, none⟩ (m + 1)) := by
            refine ⟨by simp [World.freeze], fun d hd => ?_, ?_⟩
            · simp only [World.freeze, Nat.add_one_ne_zero, if_false, Array.getElem?_modify, Ne.symm hd]
            · simp [World.freeze, Rest]
          have hadr : (⟨L.b, L.o + 0, none⟩ : Addr) = ⟨L.b, 0, none⟩ := by rw [hL0]
          rw [hadr]
          refine ⟨.value (.string ⟨us.toArray⟩), .string ⟨us.toArray⟩, w.freeze ⟨L.b, 0, none⟩ (m + 1), ?_, .inl rfl, .str _ _ (by rw [ofBytes_mk, e2]), ?_⟩
          · rw [Sem.run_bind]
            erw [hrun]
            rfl
          · refine Ext.upd r hb hL rfl hup ?_
            have hfz' : (bif Nat.ble fz (m + 1) then m + 1 else fz) = max fz (m + 1) := by
              rw [ble_dec]
              by_cases hc : fz ≤ m + 1
              · rw [decide_eq_true hc, cond_true]; omega
              · simp only [hc, decide_false, cond_false]; omega
            rw [hfz']
            refine .cells l e _ false c (if lo = hi then 0 else min lo 0) (if lo = hi then 0 + (m + 1) else max hi (0 + (m + 1))) ?_ h1 h2 h3 h4 (fun i hi1 hi2 => ?_) (fun _ => .inr ⟨by omega, ?_⟩) (.inl hL0)
            · simp only [World.freeze, Nat.add_one_ne_zero, if_false, Array.getElem?_modify, if_true, hh, Option.map_some, beq_iff_eq]
              split <;> rfl
            · rcases h6 rfl with e | ⟨e, e'⟩
              · rw [if_pos e, if_pos e]; omega
              · split <;> omega
            · rcases h6 rfl with e | ⟨e, e'⟩
              · rw [if_pos e]; omega
              · split <;> omega
        · have : (decide (e = u) && decide (bs.length = m + 1) && decide (m + 1 < p63)) = false := by
            rw [Bool.eq_false_iff]; simp only [ne_eq, Bool.and_eq_true, decide_eq_true_eq]; exact fun h => hok ⟨h.1.1, h.1.2, h.2⟩
          rw [this]; trivial
      · trivial
    · trivial
  · trivial

theorem builtinA_run (r : RH σ h w) {nid : Nat} (hn : σ nid = none) (b : Builtin) (ts : Array TypeId) (ty : TypeId) (consts : Array Bool) {args : List AV} {vs : Array Value} (hv : RVs σ args vs.toList) :
    NXok P σ h w nid (builtinA P b ts.toList args h nid) ((builtin b ts ty consts vs).run P w) := by
  have get0 : ∀ {x : Value} {m : List Value}, vs.toList = x :: m → vs[0]? = some x := fun e => by rw [← Array.getElem?_toList, e]; simp
  have get1 : ∀ {x y : Value} {m : List Value}, vs.toList = x :: y :: m → vs[1]? = some y := fun e => by rw [← Array.getElem?_toList, e]; simp
  have t0 : ∀ {t : TypeId} {l : List TypeId}, ts.toList = t :: l → ts[0]? = some t := fun e => by rw [← Array.getElem?_toList, e]; simp
  unfold builtinA
  split
  · obtain ⟨x, m, e, hx, _⟩ := hv.head
    split
    · rename_i t l hts
      exact lenA_run r (t0 hts) (get0 e) hx ty nid
    · trivial
  · obtain ⟨x, m, e, hx, _⟩ := hv.head
    split
    · rename_i t l hts
      exact capA_run (t0 hts) (get0 e) hx ty nid
    · trivial
  · obtain ⟨x, m, e, hx, hm⟩ := hv.head
    obtain ⟨y, m', e', hy, _⟩ := hm.head
    subst e'
    exact appendA_run r hn (get0 e) (get1 e) hx hy
  · obtain ⟨x, m, e, hx, hm⟩ := hv.head
    obtain ⟨y, m', e', hy, _⟩ := hm.head
    subst e'
    exact copyA_run r nid (get0 e) (get1 e) hx hy
  · obtain ⟨x, m, e, hx, _⟩ := hv.head
    split
    · rename_i t l hts
      exact clearA_run r (t0 hts) (get0 e) hx ty nid
    · trivial
  · obtain ⟨x, m, e, hx, hm⟩ := hv.head
    refine optV_ok fun v hf => ?_
    obtain ⟨u, k1, k2⟩ := foldA_run (P := P) (g := Builtin.max2) (fun h1 h2 h3 w => max2A_run h1 h2 h3 w) hf hx hm w
    exact ⟨u, by simp [builtin, Builtin.max_, e, k1], k2⟩
  · obtain ⟨x, m, e, hx, hm⟩ := hv.head
    refine optV_ok fun v hf => ?_
    obtain ⟨u, k1, k2⟩ := foldA_run (P := P) (g := Builtin.min2) (fun h1 h2 h3 w => min2A_run h1 h2 h3 w) hf hx hm w
    exact ⟨u, by simp [builtin, Builtin.min_, e, k1], k2⟩
  · obtain ⟨x, m, e, hx, hm⟩ := hv.head
    cases hm
    have ev : vs = #[x] := by cases vs; simp_all
    subst ev
    exact dataA_run nid hx ts ty
  · obtain ⟨x, m, e, hx, hm⟩ := hv.head
    obtain ⟨y, m', e', hy, hm'⟩ := hm.head
    cases hm'
    subst e'
    have ev : vs = #[x, y] := by cases vs; simp_all
    subst ev
    exact strA_run r nid ts hx hy ty
  · trivial

theorem rds_rel {env : Env} {ρ : Operand → Value} {l : List Operand} (h : ∀ x ∈ l, RV σ (rd env x) (ρ x)) : RVs σ (l.map (rd env)) (l.map ρ) := RVs.map _ _ l h

theorem callA_run (r : RH σ h w) {nid : Nat} (hn : σ nid = none) (c : Call) (ty : TypeId) {env : Env} {ρ : Operand → Value} (hρ : ∀ x ∈ c.operands, RV σ (rd env x) (ρ x)) :
    NXok P σ h w nid (callA P env c h nid) ((do let d ← resolve ρ c ty; invoke d.target d.args : Sem Next).run P w) := by
  have hargs : RVs σ (c.args.toList.map (rd env)) (c.args.map ρ).toList := by
    rw [Array.toList_map]
    exact rds_rel fun x hx => hρ x (by simp only [Call.operands, Array.mem_append]; exact .inr (Array.mem_toList_iff.1 hx))
  unfold callA
  split
  · rename_i b hc
    simp only [resolve, hc, pure_bind, invoke]
    exact builtinA_run r hn b c.argTypes ty _ hargs
  · rename_i f hc
    have hf := hρ f (by simp [Call.operands, hc])
    split
    · rename_i g first cap hrd
      rw [hrd] at hf
      generalize hff : ρ f = fv at hf
      cases hf with | func _ _ _ f' c' hf' hc' =>
      refine ⟨f'.toList ++ ((c.args.map ρ).toList ++ c'.toList), ?_, ?_⟩
      · rw [app_eq, app_eq]
        exact hf'.app (hargs.app hc')
      · simp only [resolve, hc, hff, Deferred.ofValue, pure_bind, invoke]
        congr 2
        apply Array.ext'
        simp
    · trivial
  · trivial

theorem opA_run (r : RH σ h w) {nid : Nat} (hn : σ nid = none) (o : Oper) {env : Env} {ρ : Operand → Value} (hρ : ∀ x ∈ o.op.operands, RV σ (rd env x) (ρ x)) :
    NXok P σ h w nid (opA P o.op env h nid) ((execOp ρ o).run P w) := by
  obtain ⟨dst, op, ty, pos, after, guard⟩ := o
  simp only at hρ ⊢
  have hro : ∀ {x : Option Operand}, (∀ y ∈ x, RV σ (rd env y) (ρ y)) → RO σ (rdO env x) (x.map ρ) := fun {x} hx => by
    cases x with
    | none => trivial
    | some x => exact hx x rfl
  have hparts : ∀ (ps : Array (Nat × Operand)), (∀ x ∈ (ps.toList.map (·.2)).toArray, RV σ (rd env x) (ρ x)) →
      (ps.toList.map fun p => (p.1, rd env p.2)).length = (ps.map fun (i, x) => (i, ρ x)).toList.length ∧
      ∀ (i : Nat) p q, (ps.toList.map fun p => (p.1, rd env p.2))[i]? = some p → (ps.map fun (i, x) => (i, ρ x)).toList[i]? = some q → p.1 = q.1 ∧ RV σ p.2 q.2 := by
    intro ps hps
    refine ⟨by simp, fun i p q h1 h2 => ?_⟩
    simp only [List.getElem?_map, Option.map_eq_some_iff, Array.toList_map] at h1 h2
    obtain ⟨a, ha, rfl⟩ := h1
    obtain ⟨b, hb, rfl⟩ := h2
    rw [ha] at hb
    cases hb
    refine ⟨rfl, hps a.2 ?_⟩
    simp only [List.mem_toArray, List.mem_map]
    exact ⟨a, List.mem_of_getElem? ha, rfl⟩
  cases op <;> simp only [opA]
  case move x => exact ⟨ρ x, by simp [execOp], hρ x (by simp [Op.operands])⟩
  case assign x => exact ⟨ρ x, by simp [execOp], hρ x (by simp [Op.operands])⟩
  case pick c a b =>
    have hc := hρ c (by simp [Op.operands])
    split
    · rename_i t hrd
      rw [hrd] at hc
      generalize hcc : ρ c = cv at hc
      cases hc
      refine ⟨if t then ρ a else ρ b, by simp [execOp, hcc, asBool], ?_⟩
      cases t
      · simpa using hρ b (by simp [Op.operands])
      · simpa using hρ a (by simp [Op.operands])
    · trivial
  case alloc e =>
    split
    · rename_i z hz
      obtain ⟨zv, hz1, hz2⟩ := zrOf_some (σ := σ) hz w
      have := newVarA_run (P := P) r hn e hz2 (fun a => .pointer (some a)) rfl
      simpa [execOp, Instr.alloc, hz1] using this
    · trivial
  case box e x =>
    have := newVarA_run (P := P) r hn e (hρ x (by simp [Op.operands])) (fun a => .pointer (some a)) rfl
    simpa [execOp, Instr.box] using this
  case build t ps =>
    refine optV_ok fun v hv => ?_
    obtain ⟨h1, h2⟩ := hparts ps (by simpa [Op.operands] using hρ)
    obtain ⟨u, k1, k2⟩ := buildA_run hv h1 h2 w
    exact ⟨u, by simp only [execOp, Sem.run_bind, k1, Result.andThen_ok, Sem.run_pure], k2⟩
  case buildSlice t n ps =>
    obtain ⟨h1, h2⟩ := hparts ps (by simpa [Op.operands] using hρ)
    exact buildSl_run r hn h1 h2
  case load t a =>
    refine optV_ok fun v hv => ?_
    obtain ⟨u, k1, k2⟩ := ld_run (P := P) r hv (hρ a (by simp [Op.operands]))
    exact ⟨u, by simp only [execOp, Sem.run_bind, k1, Result.andThen_ok, Sem.run_pure], k2⟩
  case store t a x =>
    split
    · rename_i h' hs
      obtain ⟨w', k1, k2⟩ := st_run (P := P) r hs (hρ a (by simp [Op.operands])) (hρ x (by simp [Op.operands])) (fun _ => False)
      exact ⟨.skip, undef, w', by simp only [execOp, Sem.run_bind, k1, Result.andThen_ok, Sem.run_pure], .inr ⟨rfl, rfl⟩, RV.undef, k2⟩
    · trivial
  case nilCheck x =>
    have hx := hρ x (by simp [Op.operands])
    split
    · rename_i b o hrd
      rw [hrd] at hx
      generalize hxx : ρ x = xv at hx
      have hx' := hx
      cases hx with | ptr _ _ L hL =>
      exact ⟨_, by simp [execOp, hxx], hx'⟩
    · rename_i t v hrd
      rw [hrd] at hx
      generalize hxx : ρ x = xv at hx
      have hx' := hx
      cases hx
      exact ⟨_, by simp [execOp, hxx], hx'⟩
    · rename_i f a b hrd
      rw [hrd] at hx
      generalize hxx : ρ x = xv at hx
      have hx' := hx
      cases hx
      exact ⟨_, by simp [execOp, hxx], hx'⟩
    · trivial
  case binOp op t x y ty' =>
    refine optV_ok fun v hv => ?_
    obtain ⟨u, k1, k2⟩ := binA_run hv (hρ x (by simp [Op.operands])) (hρ y (by simp [Op.operands])) w
    exact ⟨u, by simp only [execOp, Sem.run_bind] at k1 ⊢; rw [k1]; rfl, k2⟩
  case unOp op t x =>
    refine optV_ok fun v hv => ?_
    obtain ⟨u, k1, k2⟩ := unA_run (P := P) hv (hρ x (by simp [Op.operands])) w
    exact ⟨u, by simp only [execOp, Sem.run_bind, k1, Result.andThen_ok, Sem.run_pure], k2⟩
  case convert s d x => exact convA_run r hn (hρ x (by simp [Op.operands]))
  case makeInterface t x =>
    split
    · trivial
    · rename_i u hni hu
      refine ⟨.iface t (ρ x), ?_, .ifc _ _ _ (hρ x (by simp [Op.operands]))⟩
      cases u <;> first | exact (hni _ rfl).elim | (simp [execOp, Instr.makeInterface, run_underlying hu])
    · trivial
  case makeFunc fn fs cs =>
    refine ⟨.func fn (fs.map ρ) (cs.map ρ), by simp [execOp, Instr.makeFunc], .func _ _ _ _ _ ?_ ?_⟩
    · rw [Array.toList_map]; exact rds_rel fun x hx => hρ x (by simp only [Op.operands, Array.mem_append]; exact .inl (Array.mem_toList_iff.1 hx))
    · rw [Array.toList_map]; exact rds_rel fun x hx => hρ x (by simp only [Op.operands, Array.mem_append]; exact .inr (Array.mem_toList_iff.1 hx))
  case makeMap t rr =>
    cases rr with
    | some _ => trivial
    | none =>
      refine ⟨.map (some w.heap.size), { w with heap := w.heap.push (.map #[] 0) }, σ.put nid ⟨w.heap.size, 0, 0⟩, by simp [execOp, Instr.makeMap], ?_, ?_⟩
      · have := RV.map (σ := σ.put nid ⟨w.heap.size, 0, 0⟩) nid _ (Map.put_same _ _ _)
        simpa using this
      · exact Ext.alloc r hn 0 _ (.map #[] 0) _ rfl (Rest.refl _) (.map [] #[] 0 (by simp) .nil)
  case makeSlice t l c => exact makeSl_run r hn (hρ l (by simp [Op.operands])) (hρ c (by simp [Op.operands]))
  case slice t x lo hi mx =>
    refine sliceA_run r (hρ x (by simp [Op.operands])) (hro fun y hy => hρ y ?_) (hro fun y hy => hρ y ?_) (hro fun y hy => hρ y ?_) nid
    · cases hy; simp [Op.operands]
    · cases hy; simp [Op.operands]
    · cases hy; simp [Op.operands]
  case fieldAddr s x f => exact fieldAt_run (hρ x (by simp [Op.operands])) f nid
  case field t x f => exact fieldV_run (hρ x (by simp [Op.operands])) f nid
  case indexAddr t x i => exact indexAt_run (hρ x (by simp [Op.operands])) (hρ i (by simp [Op.operands])) nid
  case index t x i => exact indexV_run (hρ x (by simp [Op.operands])) (hρ i (by simp [Op.operands])) nid
  case lookup t x i ok => exact lookA_run r (hρ x (by simp [Op.operands])) (hρ i (by simp [Op.operands])) ok nid
  case mapUpdate t m k x => exact updA_run r (hρ m (by simp [Op.operands])) (hρ k (by simp [Op.operands])) (hρ x (by simp [Op.operands])) nid
  case insert t m k x => exact updA_run r (hρ m (by simp [Op.operands])) (hρ k (by simp [Op.operands])) (hρ x (by simp [Op.operands])) nid
  case range t x => exact rangeA_run r hn (hρ x (by simp [Op.operands]))
  case next it s => exact nextA_run r (hρ it (by simp [Op.operands])) s ty nid
  case typeAssert x xt a ok => exact assertA_run (hρ x (by simp [Op.operands])) xt a ok nid
  case extract t i =>
    have ht := hρ t (by simp [Op.operands])
    split
    · rename_i l hrd
      rw [hrd] at ht
      generalize htt : ρ t = tv at ht
      cases ht with | tup _ cs hcs =>
      refine optV_ok fun v hv => ?_
      rw [nth_eq] at hv
      obtain ⟨u, k1, k2⟩ := hcs.get hv
      rw [Array.getElem?_toList] at k1
      exact ⟨u, by simp [execOp, htt, Instr.extract, k1], k2⟩
    · trivial
  case call c => exact callA_run r hn c ty (by simpa [Op.operands] using hρ)
  all_goals trivial

end
end Go.Ev

namespace Go.Ev

section
variable {P : Program}

def Bd (σ : Map) (nx : Nat) : Prop := ∀ i, nx ≤ i → σ i = none
def GlobOk (P : Program) (σ : Map) : Prop := ∀ g, g < P.globals.size → ∃ x, σ g = some ⟨g, 0, x⟩
abbrev Rg (nx nx' : Nat) : Nat → Prop := fun i => nx ≤ i ∧ i < nx'

theorem GlobOk.mono {σ τ : Map} (h : σ.le τ) (g : GlobOk P σ) : GlobOk P τ := fun i hi => let ⟨x, e⟩ := g i hi; ⟨x, h _ _ e⟩
theorem Bd.ext {σ τ : Map} {h h' : H} {w w' : World} {N : Nat → Prop} {nx nx' : Nat} (b : Bd σ nx) (e : Ext N σ h w τ h' w') (hle : nx ≤ nx') (hN : ∀ i, N i → i < nx') : Bd τ nx' := fun i hi => by
  cases ht : τ i with
  | none => rfl
  | some L =>
    rcases e.loc i L ht with h1 | ⟨h1, _⟩
    · rw [b i (by omega)] at h1; cases h1
    · have := hN i h1; omega

structure St (P : Program) (n : Nat) (σ : Map) (env : Env) (h : H) (nx : Nat) (a : Act) (w : World) : Prop where
  re : RE σ env a.tmps
  rh : RH σ h w
  bd : Bd σ nx
  gl : GlobOk P σ
  df : a.defers = []
  sz : n ≤ a.tmps.size

def CallOk (P : Program) (f : FuncId) (vs : Array Value) (w : World) (R : Value → World → Prop) : Prop :=
  ((callFunc f vs).run P w = .ok (.enter f vs) w ∧ Calls P f vs w (fun e w' => ∃ u, e = .returned u ∧ R u w')) ∨ ∃ u w', (callFunc f vs).run P w = .ok (.value u) w' ∧ R u w'
def CallSound (P : Program) (cal : CallF) : Prop :=
  ∀ f args h nx v h' nx', cal f args h nx = .ok v h' nx' → ∀ σ w (vs : List Value), RH σ h w → Bd σ nx → GlobOk P σ → RVs σ args vs →
    CallOk P f vs.toArray w (fun u w' => ∃ σ', Ext (Rg nx nx') σ h w σ' h' w' ∧ nx ≤ nx' ∧ RV σ' v u)

theorem CallOk.mono {f : FuncId} {vs : Array Value} {w : World} {R R' : Value → World → Prop} (h : CallOk P f vs w R) (hr : ∀ u w', R u w' → R' u w') : CallOk P f vs w R' := by
  rcases h with ⟨h1, h2⟩ | ⟨u, w', h1, h2⟩
  · exact .inl ⟨h1, h2.mono fun e w' ⟨u, e1, e2⟩ => ⟨u, e1, hr u w' e2⟩⟩
  · exact .inr ⟨u, w', h1, hr u w' h2⟩

def RSpost (P : Program) (n : Nat) (σ : Map) (h : H) (nx : Nat) (w : World) : RS → Exit → Act → World → Prop
  | .norm env' h' nx', e, a', w' => e = .normal ∧ ∃ σ', Ext (Rg nx nx') σ h w σ' h' w' ∧ nx ≤ nx' ∧ St P n σ' env' h' nx' a' w'
  | .exit id env' h' nx', e, a', w' => e = .exit id ∧ ∃ σ', Ext (Rg nx nx') σ h w σ' h' w' ∧ nx ≤ nx' ∧ St P n σ' env' h' nx' a' w'
  | .ret env' h' nx', e, a', w' => e = .ret ∧ ∃ σ', Ext (Rg nx nx') σ h w σ' h' w' ∧ nx ≤ nx' ∧ St P n σ' env' h' nx' a' w'
  | .bad, _, _, _ => False

theorem RSpost.trans {n : Nat} {σ τ : Map} {h h1 : H} {nx nx1 : Nat} {w w1 : World} (e : Ext (Rg nx nx1) σ h w τ h1 w1) (hle : nx ≤ nx1) {r : RS} {x : Exit} {a' : Act} {w' : World}
    (hp : RSpost P n τ h1 nx1 w1 r x a' w') : RSpost P n σ h nx w r x a' w' := by
  cases r with
  | norm env' h' nx' => obtain ⟨e1, σ', e2, e3, e4⟩ := hp; exact ⟨e1, σ', e.trans e2 (fun i hi => ⟨hi.1, by have := hi.2; omega⟩) (fun i hi => ⟨by have := hi.1; omega, hi.2⟩), by omega, e4⟩
  | exit id env' h' nx' => obtain ⟨e1, σ', e2, e3, e4⟩ := hp; exact ⟨e1, σ', e.trans e2 (fun i hi => ⟨hi.1, by have := hi.2; omega⟩) (fun i hi => ⟨by have := hi.1; omega, hi.2⟩), by omega, e4⟩
  | ret env' h' nx' => obtain ⟨e1, σ', e2, e3, e4⟩ := hp; exact ⟨e1, σ', e.trans e2 (fun i hi => ⟨hi.1, by have := hi.2; omega⟩) (fun i hi => ⟨by have := hi.1; omega, hi.2⟩), by omega, e4⟩
  | bad => exact hp.elim

theorem rd_rel {σ : Map} {env : Env} {a : Act} (hre : RE σ env a.tmps) (hg : GlobOk P σ) {x : Operand} (hx : operandOk P.globals.size x = true) : RV σ (rd env x) (a.eval x) := by
  cases x with
  | tmp t => exact hre t
  | const v =>
    simp only [rd, Act.eval]
    split
    · rename_i b hb; exact ofV_rel 4 v b hb
    · exact .junk _
  | global g =>
    simp only [operandOk, blt_dec, decide_eq_true_eq] at hx
    obtain ⟨x, hs⟩ := hg g hx
    have := RV.ptr (σ := σ) g 0 _ hs
    simpa [rd, Act.eval] using this
  | func f => exact .func _ _ _ _ _ .nil .nil

theorem wanted_rel {σ : Map} {env : Env} {ops : Array Oper} {tmps : Array Value} (hre : RE σ env tmps) {o : Oper} {b : Bool} (hw : wantedA ops env o.guard = some b) : Region.wanted o (yielded ops tmps) = b := by
  unfold wantedA at hw
  unfold Region.wanted
  split at hw
  · rename_i hg; rw [hg]; simpa using hw
  · rename_i j want hg
    rw [hg]
    simp only
    split at hw
    · rename_i hj; simp only [Option.some.injEq] at hw; subst hw; simp [yielded, hj]
    · rename_i oj hj
      split at hw
      · rename_i hd; simp only [Option.some.injEq] at hw; subst hw; simp [yielded, hj, hd]
      · rename_i d hd
        have hd' := hre d
        split at hw
        · rename_i c hc
          rw [hc] at hd'
          simp only at hd'
          simp only [Option.some.injEq] at hw
          subst hw
          generalize hv : tmps.getD d undef = v at hd'
          cases hd'
          have hlt : d < tmps.size := by
            rcases Nat.lt_or_ge d tmps.size with h | h
            · exact h
            · simp [Array.getD, Nat.not_lt.2 h, undef] at hv
          have : tmps[d]? = some (.bool c) := by
            rw [Array.getElem?_eq_getElem hlt]
            simp [Array.getD, hlt] at hv
            rw [hv]
          simp [yielded, hj, hd, this]
        · cases hw
        · rename_i hnb hnj
          simp only [Option.some.injEq] at hw
          subst hw
          have : yielded ops tmps j = none := by
            unfold yielded
            simp only [hj, Option.bind_some, hd]
            split
            · rename_i c hc
              exfalso
              have hv : tmps.getD d undef = .bool c := by simp [Array.getD_eq_getD_getElem?, hc]
              rw [hv] at hd'
              cases hg : env.get d with
              | none => rw [hg] at hd'; cases hd'
              | some v =>
                rw [hg] at hd'
                simp only at hd'
                cases hd' with
                | bool => exact hnb _ hg
                | junk => exact hnj hg
            · rfl
          rw [this]
          rfl

theorem St.put {n : Nat} {σ τ : Map} {env : Env} {h h' : H} {nx nx' : Nat} {a : Act} {w w' : World} {N : Nat → Prop} (s : St P n σ env h nx a w) (e : Ext N σ h w τ h' w') (hle : nx ≤ nx') (hN : ∀ i, N i → i < nx')
    {o : Oper} (ho : operOk P n o = true) {v : AV} {u : Value} (hv : RV τ v u) : St P n τ (putA env o.dst v) h' nx' (a.put o.dst u) w' where
  re := by
    have hlt : ∀ t, o.dst = some t → t < a.tmps.size := fun t ht => by
      simp only [operOk, Bool.and_eq_true] at ho
      rw [ht] at ho
      simp only [blt_dec, decide_eq_true_eq] at ho
      exact Nat.lt_of_lt_of_le ho.1 s.sz
    cases hd : o.dst with
    | none => exact s.re.mono e.le
    | some d => exact RE.put (d := some d) (s.re.mono e.le) (fun t ht => hlt t (by rw [hd, ht])) hv
  rh := e.rh
  bd := s.bd.ext e hle hN
  gl := s.gl.mono e.le
  df := by cases hd : o.dst <;> simp [Act.put, s.df]
  sz := by cases hd : o.dst <;> simp [Act.put, s.sz]

theorem operOk_ops {n : Nat} {o : Oper} (ho : operOk P n o = true) : ∀ x ∈ o.op.operands, operandOk P.globals.size x = true := by
  simp only [operOk, Bool.and_eq_true, List.all_eq_true] at ho
  exact fun x hx => ho.2 x (Array.mem_toList_iff.2 hx)

theorem op_wp {cal : CallF} (hcal : CallSound P cal) {n : Nat} {σ : Map} {env : Env} {h : H} {nx : Nat} {a : Act} {w : World} (s : St P n σ env h nx a w) {o : Oper} (ho : operOk P n o = true) {nid : Nat} (hn : σ nid = none)
    {Q : Exit → Act → World → Prop} {K : Act → World → Prop}
    (hval : ∀ v, opA P o.op env h nid = .val v → ∀ u, RV σ v u → K (a.put o.dst u) w)
    (hupd : ∀ v h', opA P o.op env h nid = .upd v h' → ∀ u w', RV σ v u → Ext (fun _ => False) σ h w σ h' w' → K (a.put o.dst u) w')
    (hnew : ∀ v h', opA P o.op env h nid = .new v h' → ∀ u w' σ', RV σ' v u → Ext (· = nid) σ h w σ' h' w' → K (a.put o.dst u) w')
    (hcl : ∀ f args, opA P o.op env h nid = .call f args → ∃ v h' nx', cal f args h nx = .ok v h' nx' ∧ ∀ u w' σ', RV σ' v u → Ext (Rg nx nx') σ h w σ' h' w' → nx ≤ nx' → K (a.put o.dst u) w')
    (hbad : opA P o.op env h nid ≠ .bad) : o.wp P a w K Q := by
  have hop := opA_run (P := P) s.rh hn o (fun x hx => rd_rel s.re s.gl (operOk_ops ho x hx))
  unfold Oper.wp
  cases hr : opA P o.op env h nid with
  | val v =>
    rw [hr] at hop
    obtain ⟨u, h1, h2⟩ := hop
    rw [h1]
    exact hval v hr u h2
  | upd v h' =>
    rw [hr] at hop
    obtain ⟨m, u, w', h1, h2, h3, h4⟩ := hop
    rw [h1]
    rcases h2 with rfl | ⟨rfl, rfl⟩
    · exact hupd v h' hr u w' h3 h4
    · exact hupd v h' hr undef w' h3 h4
  | new v h' =>
    rw [hr] at hop
    obtain ⟨u, w', σ', h1, h2, h3⟩ := hop
    rw [h1]
    exact hnew v h' hr u w' σ' h2 h3
  | call f args =>
    rw [hr] at hop
    obtain ⟨vs, h1, h2⟩ := hop
    obtain ⟨v, h', nx', h3, h4⟩ := hcl f args hr
    rw [h2]
    rcases hcal f args h nx v h' nx' h3 σ w vs s.rh s.bd s.gl h1 with ⟨h5, h6⟩ | ⟨u, w', h5, σ', h6, h7, h8⟩
    · rw [h5]
      refine h6.mono ?_
      rintro e w' ⟨u, rfl, σ', h7, h8, h9⟩
      exact h4 u w' σ' h9 h7 h8
    · rw [h5]
      exact h4 u w' σ' h8 h6 h7
  | bad => exact absurd hr hbad

theorem wpOps_mono {P : Program} {ops : Array Oper} {Q Q' : Exit → Act → World → Prop} (hq : ∀ x a w, Q x a w → Q' x a w) : ∀ {l : List Nat} {a : Act} {w : World}, wpOps P ops Q l a w → wpOps P ops Q' l a w := by
  intro l
  induction l with
  | nil => intro a w h; exact hq _ _ _ h
  | cons i l ih =>
    intro a w h
    rw [wpOps_cons] at h ⊢
    have lets : LetsOut Q → LetsOut Q' := fun ⟨a, w, h⟩ => ⟨a, w, hq _ _ _ h⟩
    unfold wpOp at h ⊢
    split
    · rename_i ho; rw [ho] at h; exact ih h
    · rename_i o ho
      rw [ho] at h
      simp only at h
      split
      · rename_i hw
        rw [if_pos hw] at h
        rcases h with h | ⟨h1, h2⟩
        · refine .inl ?_
          unfold Oper.wp at h ⊢
          generalize (execOp a.eval o).run P w = r at *
          cases r with
          | ok x w' =>
            cases x <;> simp only [Oper.upon] at h ⊢ <;>
              first
                | exact ih h
                | exact Calls.mono h (fun e w'' he => by cases e <;> first | exact ih he | exact hq _ _ _ he | exact lets he)
                | exact Rows.mono h (fun _ _ he => ih he)
          | halt x w' => cases x <;> simp only [Oper.upon] at h ⊢ <;> exact hq _ _ _ h
        · exact .inr ⟨h1, lets h2⟩
      · rename_i hw
        rw [if_neg hw] at h
        exact ih h

theorem evOps_sound {cal : CallF} (hcal : CallSound P cal) {n : Nat} {ops : Array Oper} (hok : ops.toList.all (operOk P n) = true) : ∀ (m k : Nat), k + m = ops.size → ∀ (σ : Map) (env : Env) (h : H) (nx : Nat) (a : Act) (w : World),
    St P n σ env h nx a w → evOps P cal ops (ops.toList.drop k) env h nx ≠ .bad →
    wpOps P ops (RSpost P n σ h nx w (evOps P cal ops (ops.toList.drop k) env h nx)) (List.range' k m) a w
  | 0, k, hk, σ, env, h, nx, a, w, s, hne => by
    have : ops.toList.drop k = [] := List.drop_eq_nil_of_le (by simp; omega)
    rw [this]
    simp only [List.range'_zero, wpOps, evOps]
    exact ⟨rfl, σ, Ext.refl s.rh, Nat.le_refl _, s⟩
  | m + 1, k, hk, σ, env, h, nx, a, w, s, hne => by
    have hlt : k < ops.size := by omega
    have hd : ops.toList.drop k = ops[k] :: ops.toList.drop (k + 1) := by
      rw [List.drop_eq_getElem_cons (by simpa using hlt)]
      simp
    rw [hd] at hne ⊢
    have hget : ops[k]? = some ops[k] := Array.getElem?_eq_getElem hlt
    have ho : operOk P n ops[k] = true := List.all_eq_true.1 hok _ (by simp)
    simp only [List.range'_succ, wpOps, hget]
    unfold evOps at hne ⊢
    have next : ∀ {τ : Map} {h' : H} {nx' : Nat} {w' : World} {v : AV} {u : Value} {N : Nat → Prop}, Ext N σ h w τ h' w' → nx ≤ nx' → (∀ i, N i → nx ≤ i ∧ i < nx') → RV τ v u →
        evOps P cal ops (ops.toList.drop (k + 1)) (putA env ops[k].dst v) h' nx' ≠ .bad →
        wpOps P ops (RSpost P n σ h nx w (evOps P cal ops (ops.toList.drop (k + 1)) (putA env ops[k].dst v) h' nx')) (List.range' (k + 1) m) (a.put ops[k].dst u) w' := by
      intro τ h' nx' w' v u N e hle hN hv hne'
      have := evOps_sound hcal hok m (k + 1) (by omega) τ _ h' nx' (a.put ops[k].dst u) w' (s.put e hle (fun i hi => (hN i hi).2) ho hv) hne'
      refine wpOps_mono (fun x a' w'' hp => RSpost.trans (e.weaken hN) hle hp) this
    split at hne
    · rename_i hw
      rw [wanted_rel s.re hw]
      simp only [if_true, hw]
      refine .inl ?_
      refine op_wp hcal s ho (s.bd nx (Nat.le_refl _)) ?_ ?_ ?_ ?_ ?_
      · intro v hr u hv
        rw [hr] at hne ⊢
        exact next (N := fun _ => False) (Ext.refl s.rh) (Nat.le_refl _) (fun _ h => h.elim) hv hne
      · intro v h' hr u w' hv e
        rw [hr] at hne ⊢
        exact next e (Nat.le_refl _) (fun _ h => h.elim) hv hne
      · intro v h' hr u w' σ' hv e
        rw [hr] at hne ⊢
        exact next e (Nat.le_succ _) (fun i hi => by subst hi; exact ⟨Nat.le_refl _, Nat.lt_succ_self _⟩) hv hne
      · intro f args hr
        rw [hr] at hne
        simp only at hne
        split at hne
        · rename_i v h' nx' hc
          refine ⟨v, h', nx', hc, fun u w' σ' hv e hle => ?_⟩
          rw [hr]
          simp only [hc]
          exact next e hle (fun i hi => hi) hv hne
        · exact absurd rfl hne
      · intro hr
        rw [hr] at hne
        exact hne rfl
    · rename_i hw
      rw [wanted_rel s.re hw]
      simp only [Bool.false_eq_true, if_false, hw]
      exact next (N := fun _ => False) (Ext.refl s.rh) (Nat.le_refl _) (fun _ h => h.elim) RV.undef hne
    · exact absurd rfl hne

end
end Go.Ev

namespace Go.Ev

section
variable {P : Program}

def Sub (h g : H) : Prop := ∀ i A, h.get i = some A → g.get i = some A

theorem RH.sub {σ : Map} {h g : H} {w : World} (r : RH σ g w) (s : Sub h g) : RH σ h w :=
  ⟨fun i A hi => r.blk i A (s i A hi), fun i j A B L M hi hj => r.inj i j A B L M (s i A hi) (s j B hj), r.old⟩

theorem Ext.frame {N : Nat → Prop} {σ τ : Map} {h h' g g' : H} {w w' : World} (e : Ext N σ h w τ h' w') (hsub : Sub h g) (rg : RH σ g w)
    (hg' : ∀ i A, g'.get i = some A → h'.get i = some A ∨ (h.get i = none ∧ g.get i = some A))
    (hk1 : ∀ i A, h'.get i = some A → A.ro = true → g'.get i = some A) (hk2 : ∀ i A, h.get i = none → g.get i = some A → A.ro = true → g'.get i = some A) : Ext N σ g w τ g' w' := by
  have heap : ∀ i A, h.get i = none → g.get i = some A → ∀ L, σ i = some L → w'.heap[L.b]? = w.heap[L.b]? := by
    intro i A hn hi L hL
    refine e.unch L.b (rg.old i L hL) fun j B M hj hM hb => ?_
    have := rg.inj j i B A M L (hsub j B hj) hi hM hL hb
    subst this
    rw [hn] at hj
    cases hj
  refine ⟨e.le, ⟨fun i A hi => ?_, fun i j A B L M hi hj hL hM hb => ?_, e.rh.old⟩, e.size, fun B hB hno => e.unch B hB fun i A L hi hL => hno i A L (hsub i A hi) hL, fun i L hL => ?_, fun i A L hi hL => ?_, e.rest, fun i A L hi hA hL => ?_⟩
  rotate_right
  · cases hh : h.get i with
    | none => exact ⟨heap i A hh hi L hL, hk2 i A hh hi hA⟩
    | some B =>
      have := hsub i B hh
      rw [hi] at this
      cases this
      obtain ⟨k1, k2⟩ := e.keep i A L hh hA hL
      exact ⟨k1, hk1 i A k2 hA⟩
  · rcases hg' i A hi with h1 | ⟨h1, h2⟩
    · exact e.rh.blk i A h1
    · obtain ⟨L, k1, k2⟩ := rg.blk i A h2
      exact ⟨L, e.le i L k1, k2.mono e.le (heap i A h1 h2 L k1)⟩
  · have mixed : ∀ i j A B L M, h'.get i = some A → h.get j = none → g.get j = some B → τ i = some L → τ j = some M → L.b = M.b → i = j := by
      intro i j A B L M hi hn hj hL hM hb
      obtain ⟨M', k1, _⟩ := rg.blk j B hj
      have : M' = M := by have := e.le j M' k1; rw [hM] at this; exact (Option.some.inj this).symm
      subst this
      rcases e.loc i L hL with k2 | ⟨_, k2 | ⟨k, C, K, k3, k4, k5⟩⟩
      · obtain ⟨A0, hA0⟩ := e.live i A L hi k2
        exact rg.inj i j A0 B L M' (hsub i A0 hA0) hj k2 k1 hb
      · have := rg.old j M' k1; omega
      · have := rg.inj k j C B K M' (hsub k C k3) hj k4 k1 (k5.trans hb)
        subst this
        rw [hn] at k3
        cases k3
    rcases hg' i A hi with h1 | ⟨h1, h2⟩ <;> rcases hg' j B hj with h3 | ⟨h3, h4⟩
    · exact e.rh.inj i j A B L M h1 h3 hL hM hb
    · exact mixed i j A B L M h1 h3 h4 hL hM hb
    · exact (mixed j i B A M L h3 h1 h2 hM hL hb.symm).symm
    · obtain ⟨L', k1, _⟩ := rg.blk i A h2
      obtain ⟨M', k2, _⟩ := rg.blk j B h4
      have e1 : L' = L := by have := e.le i L' k1; rw [hL] at this; exact (Option.some.inj this).symm
      have e2 : M' = M := by have := e.le j M' k2; rw [hM] at this; exact (Option.some.inj this).symm
      subst e1; subst e2
      exact rg.inj i j A B L' M' h2 h4 k1 k2 hb
  · rcases e.loc i L hL with h1 | ⟨n, h1 | ⟨j, A, M, h2, h3⟩⟩
    · exact .inl h1
    · exact .inr ⟨n, .inl h1⟩
    · exact .inr ⟨n, .inr ⟨j, A, M, hsub j A h2, h3⟩⟩
  · rcases hg' i A hi with h1 | ⟨_, h2⟩
    · obtain ⟨A0, hA0⟩ := e.live i A L h1 hL; exact ⟨A0, hsub i A0 hA0⟩
    · exact ⟨A, h2⟩

theorem Ext.sub {N : Nat → Prop} {σ τ : Map} {h h' g' : H} {w w' : World} (e : Ext N σ h w τ h' w') (rh : RH σ h w) (s : Sub g' h') (hk : ∀ i A, h'.get i = some A → A.ro = true → g'.get i = some A) : Ext N σ h w τ g' w' :=
  e.frame (fun _ _ h => h) rh (fun i A hi => .inl (s i A hi)) hk fun i A h1 h2 _ => by rw [h1] at h2; cases h2

theorem cls_p {op : Op} (hc : clsOf op = .p) (env : Env) (h h' : H) (i j : Nat) : opA P op env h i = opA P op env h' j := by
  cases op <;> simp only [clsOf, reduceCtorEq] at hc <;> first | rfl | (split at hc <;> cases hc) | (generalize Nat.beq _ _ = t at hc; cases t <;> cases hc)

theorem ldCells_mono {h g : H} (s : Sub h g) {b o n : Nat} {l : List AV} (hl : ldCells h b o n = some l) : ldCells g b o n = some l := by
  unfold ldCells at hl ⊢
  split at hl
  · rename_i l' e fz raw hb
    rw [s _ _ hb]
    exact hl
  · cases hl
theorem capLo_mono {h g : H} (s : Sub h g) {b o k : Nat} {cap : Option Nat} {c : Nat} (hl : capLo h b o k cap = some c) : capLo g b o k cap = some c := by
  unfold capLo at hl ⊢
  split at hl
  · exact hl
  · split at hl
    · rename_i l' e fz raw hb
      rw [s _ _ hb]
      exact hl
    · cases hl
theorem ld_mono {h g : H} (s : Sub h g) {t : TypeId} {a v : AV} (hl : ld P h t a = some v) : ld P g t a = some v := by
  unfold ld at hl ⊢
  split at hl
  · rename_i b o
    split at hl
    · split at hl
      · split at hl
        · rename_i l hc
          simp only [ldCells_mono s hc]
          exact hl
        · cases hl
      · cases hl
    · split at hl
      · rename_i l e fz raw hb
        rw [s _ _ hb]
        exact hl
      · cases hl
    · cases hl
  · cases hl
theorem slice2_mono {h g : H} (s : Sub h g) {b o n k : Nat} {cap : Option Nat} {lo hi : Option AV} {v : AV} (hl : slice2 h b o n k cap lo hi = .val v) : slice2 g b o n k cap lo hi = .val v := by
  unfold slice2 at hl ⊢
  split at hl
  · rename_i cl l r hc hl' hr
    rw [capLo_mono s hc]
    simp only [hl', hr]
    exact hl
  · cases hl
theorem slice3_mono {h g : H} (s : Sub h g) {b o n k : Nat} {cap : Option Nat} {lo : Option AV} {hi mx v : AV} (hl : slice3 h b o n k cap lo hi mx = .val v) : slice3 g b o n k cap lo hi mx = .val v := by
  unfold slice3 at hl ⊢
  split at hl
  · rename_i cl l r m hc hl' hr hm
    rw [capLo_mono s hc]
    simp only [hl', hr, hm]
    exact hl
  · cases hl
theorem sliceA_mono {h g : H} (s : Sub h g) {t : TypeId} {x : AV} {lo hi mx : Option AV} {v : AV} (hl : sliceA P t x lo hi mx h = .val v) : sliceA P t x lo hi mx g = .val v := by
  unfold sliceA at hl ⊢
  split at hl
  · rename_i hu; exact hl
  · rename_i hu; exact hl
  · rename_i hu; exact hl
  · rename_i e b o n k cap hu
    split at hl
    · rename_i s' hs
      cases hb : Nat.beq k s' with
      | false => simp only [hb, cond_false] at hl; cases hl
      | true =>
        simp only [hb, cond_true] at hl ⊢
        split at hl
        · exact slice2_mono s hl
        · exact slice3_mono s hl
        · cases hl
    · cases hl
  · rename_i n e b o hu
    split at hl
    · rename_i k l e' fz raw hs hb
      rw [s _ _ hb]
      cases hc : (Nat.blt 0 k && Nat.ble (o + n * k) (len l)) with
      | false => simp only [hc, cond_false] at hl; cases hl
      | true =>
        simp only [hc, cond_true] at hl
        split at hl
        · simp only [hs, hc, cond_true]; exact slice2_mono s hl
        · cases hl
    · cases hl
  · cases hl
theorem lookA_mono {h g : H} (s : Sub h g) {t : TypeId} {x i : AV} {ok : Bool} {v : AV} (hl : lookA P t x i ok h = .val v) : lookA P t x i ok g = .val v := by
  unfold lookA at hl ⊢
  split at hl
  · rename_i kt et hu
    cases hk : simpleKey P 10 kt i with
    | false => simp only [hk, cond_false] at hl; cases hl
    | true =>
      simp only [hk, cond_true] at hl ⊢
      cases x <;> simp only at hl ⊢ <;> try exact hl
      rename_i b
      cases hb : h.get b with
      | none => rw [hb] at hl; simp only at hl; cases hl
      | some B =>
        rw [s _ _ hb]
        rw [hb] at hl
        exact hl
  · cases hl
theorem lenA_mono {h g : H} (s : Sub h g) {t : TypeId} {x v : AV} (hl : lenA P t x h = .val v) : lenA P t x g = .val v := by
  unfold lenA at hl ⊢
  cases hu : P.underlying t with
  | none => rw [hu] at hl; cases hl
  | some u =>
    rw [hu] at hl
    cases u <;> simp only at hl ⊢ <;> try exact hl
    cases x <;> simp only at hl ⊢ <;> try exact hl
    rename_i b
    cases hb : h.get b with
    | none => rw [hb] at hl; cases hl
    | some B => rw [s _ _ hb]; rw [hb] at hl; exact hl
theorem convA_mono {h g : H} (s : Sub h g) {a b : TypeId} {x v : AV} {i j : Nat} (hl : convA P a b x h i = .val v) : convA P a b x g j = .val v := by
  unfold convA at hl ⊢
  split at hl
  · rename_i hu; exact hl
  · rename_i hu; exact hl
  · rename_i hu; exact hl
  · rename_i hu; exact hl
  · rename_i hu; exact hl
  · rename_i b' o n k cap hu
    split at hl
    · rename_i e hs
      split at hl
      · rename_i l he hc
        rw [ldCells_mono s hc]
        simp only [he]
        exact hl
      · cases hl
    · cases hl
  · rename_i hu
    split at hl
    · cases hl
    · cases hl
  · split at hl
    · rename_i hs hb
      rw [s _ _ hb, hs]
      exact hl
    · cases hl
  · split at hl
    · rename_i hs hb
      rw [s _ _ hb, hs]
      exact hl
    · cases hl
  · split at hl
    · cases hl
    · cases hl
  · cases hl

theorem cls_r {op : Op} (hc : clsOf op = .r ∨ clsOf op = .f) {env : Env} {h g : H} (s : Sub h g) {i : Nat} (j : Nat) {v : AV} (hv : opA P op env h i = .val v) : opA P op env g j = .val v := by
  cases op <;> simp only [clsOf, reduceCtorEq, or_false, false_or, or_self] at hc <;> simp only [opA] at hv ⊢
  case alloc e =>
    split at hv
    · unfold newVarA at hv; split at hv <;> cases hv
    · cases hv
  case box e x => unfold newVarA at hv; split at hv <;> cases hv
  case buildSlice t n ps =>
    exfalso
    unfold buildSl at hv
    split at hv
    · split at hv
      · split at hv
        · rename_i s' z hs hz zc hzc
          generalize (_ && _) = bb at hv
          cases bb with
          | false => cases hv
          | true => simp only [cond_true] at hv; split at hv <;> cases hv
        · cases hv
      · cases hv
    · cases hv
  case load t a =>
    cases hl : ld P h t (rd env a) with
    | none => rw [hl] at hv; cases hv
    | some u => rw [ld_mono s hl]; rw [hl] at hv; exact hv
  case convert a b x => exact convA_mono s hv
  case makeMap t r => split at hv <;> cases hv
  case makeSlice t l c =>
    exfalso
    unfold makeSl at hv
    split at hv
    · split at hv
      · split at hv
        · rename_i l' c' e hu s' b' z hs hb hz zc hzc _
          generalize (Nat.blt 0 _ && Nat.beq (len _) _ && Nat.ble _ _ && Nat.ble (_ * _) 140737488355328 && Nat.blt _ p63) = bb at hv
          cases bb <;> cases hv
        · cases hv
      · cases hv
    · cases hv
  case slice t x lo hi mx => exact sliceA_mono s hv
  case lookup t x i' ok => exact lookA_mono s hv
  case range t x => unfold rangeA at hv; split at hv <;> cases hv
  case call c =>
    unfold callA at hv ⊢
    cases hcal : c.callee with
    | builtin b =>
      rw [hcal] at hv hc
      simp only at hv hc ⊢
      cases b <;> simp only [reduceCtorEq, or_false, false_or, or_self] at hc
      case len =>
        cases hl : List.map (rd env) c.args.toList with
        | nil => rw [hl] at hv; exact hv
        | cons x l =>
          rw [hl] at hv
          simp only [builtinA] at hv ⊢
          split at hv
          · exact lenA_mono s hv
          · cases hv
      all_goals
        cases hl : List.map (rd env) c.args.toList with
        | nil => rw [hl] at hv; exact hv
        | cons x l => rw [hl] at hv; cases l <;> exact hv
    | _ => rw [hcal] at hc; simp at hc

theorem newVarA_any {e : TypeId} {x : AV} {i : Nat} {v : AV} {h1 : H} (hv : newVarA P e x .e i = .new v h1) : ∃ blk, h1.get i = some blk ∧ ∀ h, newVarA P e x h i = .new v (h.set i blk) := by
  unfold newVarA at hv
  split at hv
  · rename_i cs hc
    cases hv
    exact ⟨.cells cs e 0 false, by simp [Tr.get_set], fun h => by simp [newVarA, hc]⟩
  · cases hv
theorem cls_f {op : Op} (hc : clsOf op = .f) {env : Env} {i : Nat} {v : AV} {h1 : H} {blk : AB} (hv : opA P op env .e i = .new v h1) (hb : h1.get i = some blk) (h : H) : opA P op env h i = .new v (h.set i blk) := by
  have fin : ∀ {B : AB}, h1 = (Tr.e : H).set i B → B = blk := fun {B} e => by
    subst e
    simp [Tr.get_set] at hb
    exact hb
  cases op <;> simp only [clsOf, reduceCtorEq] at hc <;> simp only [opA] at hv ⊢
  case alloc e =>
    split at hv
    · rename_i z hz
      obtain ⟨B, k1, k2⟩ := newVarA_any hv
      rw [hb] at k1
      cases k1
      exact k2 h
    · cases hv
  case box e x =>
    obtain ⟨B, k1, k2⟩ := newVarA_any hv
    rw [hb] at k1
    cases k1
    exact k2 h
  case buildSlice t n ps =>
    unfold buildSl at hv ⊢
    split at hv
    · rename_i e hu
      split at hv
      · rename_i s' z hs hz
        split at hv
        · rename_i zc hzc
          cases hbb : (Nat.blt 0 s' && Nat.ble (n * s') 16777216 && Nat.beq (len zc) s') with
          | false => rw [hbb] at hv; cases hv
          | true =>
            rw [hbb] at hv
            simp only [cond_true] at hv ⊢
            split at hv
            · rename_i cs hcs
              cases hv
              rw [fin rfl]
            · cases hv
        · cases hv
      · cases hv
    · cases hv
  case convert a b x =>
    unfold convA at hv ⊢
    split at hv
    · split at hv <;> cases hv
    · split at hv <;> cases hv
    · split at hv <;> cases hv
    · split at hv
      · split at hv <;> cases hv
      · cases hv
    · split at hv
      · split at hv <;> cases hv
      · cases hv
    · exfalso
      split at hv
      · split at hv
        · rename_i hl
          simp [ldCells, Tr.get_e] at hl
        · cases hv
      · cases hv
    · rename_i e l hu
      split at hv
      · cases hv
        rw [fin rfl]
      · cases hv
    · exfalso
      split at hv
      · rename_i hb
        simp [Tr.get_e] at hb
      · cases hv
    · exfalso
      split at hv
      · rename_i hb
        simp [Tr.get_e] at hb
      · cases hv
    · exfalso
      split at hv
      · cases hv
      · cases hv
    · cases hv
  case makeMap t r =>
    split at hv
    · cases hv
      rw [fin rfl]
    · cases hv
  case makeSlice t l c =>
    unfold makeSl at hv ⊢
    split at hv
    · rename_i k l' k' c' e hl hc' hu
      split at hv
      · rename_i s' b' z hs hby hz
        split at hv
        · rename_i zc hzc
          generalize (Nat.blt 0 s' && Nat.beq (len zc) s' && Nat.ble l' c' && Nat.ble (b' * c') 140737488355328 && Nat.blt c' p63) = bb at hv ⊢
          cases bb with
          | false => cases hv
          | true =>
            simp only [cond_true] at hv ⊢
            cases hv
            rw [fin rfl]
        · cases hv
      · cases hv
    · cases hv
  case range t x =>
    unfold rangeA at hv ⊢
    split at hv
    · rename_i l hu
      cases hv
      rw [fin rfl]
    · cases hv
  case call c => split at hc <;> cases hc

theorem eqAV_eq : ∀ (n : Nat) (a b : AV), eqAV n a b = true → a = b
  | 0, a, b, h => by simp [eqAV] at h
  | n + 1, a, b, h => by
    have lst : ∀ (l m : List AV), (bif Nat.beq (len l) (len m) then (l.zip m).all fun p => eqAV n p.1 p.2 else false) = true → l = m := by
      intro l m hl
      rw [beq_dec, len_eq, len_eq] at hl
      by_cases e : l.length = m.length
      · simp only [e, decide_true, cond_true] at hl
        induction l generalizing m with
        | nil => cases m with | nil => rfl | cons _ _ => simp at e
        | cons a l ih =>
          cases m with
          | nil => simp at e
          | cons b m =>
            simp only [List.zip_cons_cons, List.all_cons, Bool.and_eq_true] at hl
            have em : l.length = m.length := by simpa using e
            rw [eqAV_eq n a b hl.1, ih m em hl.2]
      · simp [e] at hl
    unfold eqAV at h
    simp only at h
    split at h
    case h_1 => simp at h; rw [h]
    case h_2 =>
      rw [ieq_eq] at h
      simp only [Bool.and_eq_true, decide_eq_true_eq] at h
      rw [(keq_iff _ _).1 h.1, h.2]
    case h_3 => rw [eqL_eq] at h; simp at h; rw [h]
    case h_4 => rfl
    case h_5 => simp only [beq_dec, Bool.and_eq_true, decide_eq_true_eq] at h; rw [h.1, h.2]
    case h_6 => rfl
    case h_7 => rfl
    case h_8 c b j m t d =>
      simp only [beq_dec, Bool.and_eq_true, decide_eq_true_eq] at h
      obtain ⟨⟨⟨⟨h1, h2⟩, h3⟩, h4⟩, h5⟩ := h
      rw [h1, h2, h3, h4]
      congr 1
      split at h5
      · rfl
      · simp at h5; rw [h5]
      · cases h5
    case h_9 => rfl
    case h_10 => simp only [beq_dec, decide_eq_true_eq] at h; rw [h]
    case h_11 => rfl
    case h_12 => rfl
    case h_13 =>
      simp only [beq_dec, Bool.and_eq_true, decide_eq_true_eq] at h
      rw [h.1, eqAV_eq n _ _ h.2]
    case h_14 => rw [lst _ _ h]
    case h_15 => rw [lst _ _ h]
    case h_16 => cases h

theorem chk_val {op : Op} {env : Env} {v : AV} {h : H} (hc : chk P op env v h = true) : opA P op env h 0 = .val v := by
  unfold chk at hc
  split at hc
  · rename_i v' hv
    rw [hv, eqAV_eq 10 v v' hc]
  · cases hc

end
end Go.Ev

namespace Go.Ev

section
variable {P : Program}

theorem op_wp0 {cal : CallF} (hcal : CallSound P cal) {σ : Map} {env : Env} {h : H} {nx : Nat} {a : Act} {w : World} (rh : RH σ h w) (bd : Bd σ nx) (gl : GlobOk P σ) {o : Oper}
    (hx : ∀ x ∈ o.op.operands, RV σ (rd env x) (a.eval x)) {nid : Nat} (hn : σ nid = none)
    {Q : Exit → Act → World → Prop} {K : Act → World → Prop}
    (hval : ∀ v, opA P o.op env h nid = .val v → ∀ u, RV σ v u → K (a.put o.dst u) w)
    (hupd : ∀ v h', opA P o.op env h nid = .upd v h' → ∀ u w', RV σ v u → Ext (fun _ => False) σ h w σ h' w' → K (a.put o.dst u) w')
    (hnew : ∀ v h', opA P o.op env h nid = .new v h' → ∀ u w' σ', RV σ' v u → Ext (· = nid) σ h w σ' h' w' → K (a.put o.dst u) w')
    (hcl : ∀ f args, opA P o.op env h nid = .call f args → ∃ v h' nx', cal f args h nx = .ok v h' nx' ∧ ∀ u w' σ', RV σ' v u → Ext (Rg nx nx') σ h w σ' h' w' → nx ≤ nx' → K (a.put o.dst u) w')
    (hbad : opA P o.op env h nid ≠ .bad) : o.wp P a w K Q := by
  have hop := opA_run (P := P) rh hn o hx
  unfold Oper.wp
  cases hr : opA P o.op env h nid with
  | val v =>
    rw [hr] at hop
    obtain ⟨u, h1, h2⟩ := hop
    rw [h1]
    exact hval v hr u h2
  | upd v h' =>
    rw [hr] at hop
    obtain ⟨m, u, w', h1, h2, h3, h4⟩ := hop
    rw [h1]
    rcases h2 with rfl | ⟨rfl, rfl⟩
    · exact hupd v h' hr u w' h3 h4
    · exact hupd v h' hr undef w' h3 h4
  | new v h' =>
    rw [hr] at hop
    obtain ⟨u, w', σ', h1, h2, h3⟩ := hop
    rw [h1]
    exact hnew v h' hr u w' σ' h2 h3
  | call f args =>
    rw [hr] at hop
    obtain ⟨vs, h1, h2⟩ := hop
    obtain ⟨v, h', nx', h3, h4⟩ := hcl f args hr
    rw [h2]
    rcases hcal f args h nx v h' nx' h3 σ w vs rh bd gl h1 with ⟨h5, h6⟩ | ⟨u, w', h5, σ', h6, h7, h8⟩
    · rw [h5]
      refine h6.mono ?_
      rintro e w' ⟨u, rfl, σ', h7, h8, h9⟩
      exact h4 u w' σ' h9 h7 h8
    · rw [h5]
      exact h4 u w' σ' h8 h6 h7
  | bad => exact absurd hr hbad

section
variable {base ab : Nat} {sel : Nat → Bool} {b : H}
theorem extH_cases : ∀ {fs : List (Nat × AB)} {k : Nat} {A : AB}, (extH base ab sel b fs).get k = some A →
    (∃ f, (f, A) ∈ fs ∧ Nat.testBit ab f = false ∧ sel f = true ∧ k = base + f) ∨ (b.get k = some A ∧ ∀ f B, (f, B) ∈ fs → Nat.testBit ab f = false → sel f = true → k ≠ base + f)
  | [], k, A, h => .inr ⟨h, fun _ _ hm => by cases hm⟩
  | (g, B) :: fs, k, A, h => by
    unfold extH at h
    have rest : (extH base ab sel b fs).get k = some A → (Nat.testBit ab g = false → sel g = true → k ≠ base + g) → (∃ f, (f, A) ∈ (g, B) :: fs ∧ Nat.testBit ab f = false ∧ sel f = true ∧ k = base + f) ∨ (b.get k = some A ∧ ∀ f C, (f, C) ∈ (g, B) :: fs → Nat.testBit ab f = false → sel f = true → k ≠ base + f) := by
      intro h hne
      rcases extH_cases h with ⟨f, h1, h2⟩ | ⟨h1, h2⟩
      · exact .inl ⟨f, .tail _ h1, h2⟩
      · refine .inr ⟨h1, fun f C hm hl hs => ?_⟩
        rcases List.mem_cons.1 hm with e | hm
        · cases e; exact hne hl hs
        · exact h2 f C hm hl hs
    by_cases c : Nat.testBit ab g = false ∧ sel g = true
    · rw [c.1, c.2] at h
      simp only [Bool.not_false, Bool.and_self, cond_true] at h
      rw [Tr.get_set] at h
      by_cases e : k = base + g
      · simp only [e, if_true, Option.some.injEq] at h
        exact .inl ⟨g, by rw [h]; exact .head _, c.1, c.2, e⟩
      · simp only [e, if_false] at h
        exact rest h fun _ _ => e
    · have : (!Nat.testBit ab g && sel g) = false := by
        cases hs : sel g with
        | false => simp
        | true => simp [hs] at c; simpa using c
      rw [this, cond_false] at h
      exact rest h fun h1 h2 => absurd ⟨h1, h2⟩ c
theorem extH_old : ∀ {fs : List (Nat × AB)} {k : Nat}, (∀ f B, (f, B) ∈ fs → Nat.testBit ab f = false → sel f = true → k ≠ base + f) → (extH base ab sel b fs).get k = b.get k
  | [], k, _ => rfl
  | (g, B) :: fs, k, h => by
    unfold extH
    have ih := extH_old (fs := fs) (k := k) fun f C hm => h f C (.tail _ hm)
    cases hc : (!Nat.testBit ab g && sel g) with
    | false => simpa using ih
    | true =>
      simp only [Bool.and_eq_true, Bool.not_eq_true'] at hc
      rw [cond_true, Tr.get_set, if_neg (h g B (.head _) hc.1 hc.2), ih]
theorem extH_new : ∀ {fs : List (Nat × AB)}, fs.Pairwise (fun x y => y.1 < x.1) → ∀ {f : Nat} {A : AB}, (f, A) ∈ fs → Nat.testBit ab f = false → sel f = true → (extH base ab sel b fs).get (base + f) = some A
  | (g, B) :: fs, hp, f, A, hm, hl, hs => by
    unfold extH
    rw [List.pairwise_cons] at hp
    rcases List.mem_cons.1 hm with e | hm
    · cases e
      simp only [hl, hs, Bool.not_false, Bool.and_self, cond_true, Tr.get_set, if_true]
    · have ih := extH_new hp.2 hm hl hs
      have := hp.1 _ hm
      cases (!Nat.testBit ab g && sel g) with
      | false => exact ih
      | true => rw [cond_true, Tr.get_set, if_neg (by omega), ih]
theorem extH_sub {fs gs : List (Nat × AB)} {sel' : Nat → Bool} (hp : gs.Pairwise (fun x y => y.1 < x.1)) (hm : ∀ f A, (f, A) ∈ fs → Nat.testBit ab f = false → sel f = true → (f, A) ∈ gs ∧ sel' f = true)
    (hn : ∀ f A, (f, A) ∈ gs → Nat.testBit ab f = false → b.get (base + f) = none) : Sub (extH base ab sel b fs) (extH base ab sel' b gs) := by
  intro k A hk
  rcases extH_cases hk with ⟨f, h1, h2, h3, rfl⟩ | ⟨h1, h2⟩
  · obtain ⟨h4, h5⟩ := hm f A h1 h2 h3
    exact extH_new hp h4 h2 h5
  · rw [extH_old, h1]
    intro f B hf hl hs e
    rw [e, hn f B hf hl] at h1
    cases h1
end

inductive Wr (cal : CallF) (h0 : H) (nx0 : Nat) : NX → AV → H → Nat → Prop where
  | val (v : AV) : Wr cal h0 nx0 (.val v) v h0 nx0
  | upd (v : AV) (h : H) : Wr cal h0 nx0 (.upd v h) v h nx0
  | new (v : AV) (h : H) : Wr cal h0 nx0 (.new v h) v h nx0
  | call (f : FuncId) (args : List AV) (v : AV) (h : H) (nx : Nat) (hc : cal f args h0 nx0 = .ok v h nx) : Wr cal h0 nx0 (.call f args) v h nx

inductive Kind (P : Program) (cal : CallF) (ops : Array Oper) (base : Nat) (o : Oper) (m : Nat) (s : DState) : DState → Prop where
  | skip (hw : wantedA ops s.env o.guard = some false) : Kind P cal ops base o m s { s with i := s.i + 1, env := putA s.env o.dst undefA }
  | pure (v : AV) (hw : wantedA ops s.env o.guard = some true) (hc : clsOf o.op = .p) (hv : opA P o.op s.env .e 0 = .val v) : Kind P cal ops base o m s { s with i := s.i + 1, env := putA s.env o.dst v }
  | read (v : AV) (hw : wantedA ops s.env o.guard = some true) (hc : clsOf o.op = .r ∨ clsOf o.op = .f) (hv : opA P o.op s.env (extH base s.pr.ab (Nat.testBit m) s.pr.b s.fs) 0 = .val v)
      (hb : chkBack P base m s.fs o.op s.env v s.pr.lo s.old = true) : Kind P cal ops base o m s { s with i := s.i + 1, env := putA s.env o.dst v, rs := ⟨s.i, o.op, s.env, v⟩ :: s.rs }
  | fresh (v : AV) (h1 : H) (blk : AB) (hw : wantedA ops s.env o.guard = some true) (hc : clsOf o.op = .f) (hv : opA P o.op s.env .e (base + s.i) = .new v h1) (hb : h1.get (base + s.i) = some blk) :
      Kind P cal ops base o m s { s with i := s.i + 1, env := putA s.env o.dst v, fs := (s.i, blk) :: s.fs }
  | write (v : AV) (h : H) (nx : Nat) (hw : wantedA ops s.env o.guard = some true) (h1 : ∀ p ∈ s.pr :: s.old, p.lo = 0 ∨ Nat.testBit m (p.lo - 1) = true) 
      (hv : Wr cal (extH base s.pr.ab (Nat.testBit m) s.pr.b s.fs) s.pr.nx (opA P o.op s.env (extH base s.pr.ab (Nat.testBit m) s.pr.b s.fs) (base + s.i)) v h nx)
      (h3 : ∀ r ∈ s.rs, Nat.testBit m r.i = true ∨ chk P r.op r.env r.v h = true) :
      Kind P cal ops base o m s { i := s.i + 1, env := putA s.env o.dst v, fs := s.fs, pr := ⟨s.i + 1, Nat.lor (Nat.lor s.pr.ab m) (Nat.pow 2 s.i), h, nx⟩, old := s.pr :: s.old, rs := s.rs }

theorem stepD_kind {cal : CallF} {ops : Array Oper} {base : Nat} {o : Oper} {m : Nat} {s s' : DState} (hs : stepD P cal ops base o m s = some s') : Kind P cal ops base o m s s' := by
  have hread : wantedA ops s.env o.guard = some true → (clsOf o.op = .r ∨ clsOf o.op = .f) → readD P base o m s = some s' → Kind P cal ops base o m s s' := by
    intro hw hc hr
    unfold readD at hr
    split at hr
    · rename_i v hv
      cases hb : chkBack P base m s.fs o.op s.env v s.pr.lo s.old with
      | false => rw [hb] at hr; cases hr
      | true => rw [hb] at hr; cases hr; exact .read v hw hc hv hb
    · cases hr
  unfold stepD at hs
  split at hs
  · rename_i hw
    split at hs
    · rename_i hc
      split at hs
      · rename_i v hv
        cases hs
        exact .pure v hw hc hv
      · cases hs
    · rename_i hc
      exact hread hw (.inl hc) hs
    · rename_i hc
      split at hs
      · rename_i v h hv
        split at hs
        · rename_i blk hb
          cases hs
          exact .fresh v h blk hw hc hv hb
        · cases hs
      · exact hread hw (.inr hc) hs
    · rename_i hc
      unfold writeD at hs
      generalize hg : ((s.pr :: s.old).all (fun p => Nat.beq p.lo 0 || Nat.testBit m (p.lo - 1))) = g at hs
      cases g with
      | false => cases hs
      | true =>
        rw [cond_true] at hs
        simp only [List.all_eq_true, Bool.or_eq_true, beq_dec, decide_eq_true_eq] at hg
        have fin : ∀ {v h nx}, wroteD P o m s v h nx = some s' → Wr cal (extH base s.pr.ab (Nat.testBit m) s.pr.b s.fs) s.pr.nx (opA P o.op s.env (extH base s.pr.ab (Nat.testBit m) s.pr.b s.fs) (base + s.i)) v h nx → Kind P cal ops base o m s s' := by
          intro v h nx hd hv
          unfold wroteD at hd
          generalize hr : (s.rs.all (fun r => Nat.testBit m r.i || chk P r.op r.env r.v h)) = r at hd
          cases r with
          | false => cases hd
          | true =>
            cases hd
            simp only [List.all_eq_true, Bool.or_eq_true] at hr
            exact .write v h nx hw hg hv hr
        split at hs
        · rename_i v hv; exact fin hs (by rw [hv]; exact .val v)
        · rename_i v h hv; exact fin hs (by rw [hv]; exact .upd v h)
        · rename_i v h hv; exact fin hs (by rw [hv]; exact .new v h)
        · rename_i f args hv
          split at hs
          · rename_i v h nx hc; exact fin hs (by rw [hv]; exact .call f args v h nx hc)
          · cases hs
        · cases hs
  · rename_i hw
    cases hs
    exact .skip hw
  · cases hs

theorem evDraw_chain {cal : CallF} {ops : Array Oper} {base : Nat} : ∀ (os : List Oper) (ms : List Nat) (s : DState), evDraw P cal ops base os ms s ≠ .bad →
    ∃ S : Nat → DState, S 0 = s ∧ (∀ i o, os[i]? = some o → ∃ m, ms[i]? = some m ∧ Kind P cal ops base o m (S i) (S (i + 1))) ∧
      evDraw P cal ops base os ms s = .norm (S os.length).env (extH base (S os.length).pr.ab (fun _ => true) (S os.length).pr.b (S os.length).fs) (S os.length).pr.nx
  | [], ms, s, _ => ⟨fun _ => s, rfl, fun i o h => by simp at h, by cases ms <;> rfl⟩
  | o :: os, [], s, h => absurd rfl h
  | o :: os, m :: ms, s, h => by
    unfold evDraw at h ⊢
    split at h
    · rename_i s' hs
      obtain ⟨S, h1, h2, h3⟩ := evDraw_chain os ms s' h
      refine ⟨fun | 0 => s | k + 1 => S k, rfl, fun i o' ho => ?_, h3⟩
      cases i with
      | zero =>
        cases ho
        exact ⟨m, rfl, by simp only; rw [h1]; exact stepD_kind hs⟩
      | succ k => exact h2 k o' ho
    · exact absurd rfl h

theorem maskOf_bit {acc : List Nat} : ∀ {es : List Edge} {j : Nat}, Nat.testBit (maskOf acc es) j = true → ∃ e ∈ es, Region.binds .any e = true ∧ (j = e.on ∨ ∃ m, acc[e.on]? = some m ∧ Nat.testBit m j = true)
  | [], j, h => by simp [maskOf] at h
  | e :: es, j, h => by
    unfold maskOf at h
    cases hb : Region.binds .any e with
    | false =>
      rw [hb, cond_false] at h
      obtain ⟨e', h1, h2⟩ := maskOf_bit h
      exact ⟨e', .tail _ h1, h2⟩
    | true =>
      rw [hb, cond_true, nth_eq] at h
      change Nat.testBit ((2 ^ e.on ||| _) ||| _) j = true at h
      rw [Nat.testBit_or, Nat.testBit_or, Bool.or_eq_true, Bool.or_eq_true] at h
      rcases h with (h | h) | h
      · rw [Nat.testBit_two_pow] at h
        exact ⟨e, .head _, hb, .inl (by simpa [eq_comm] using h)⟩
      · refine ⟨e, .head _, hb, .inr ?_⟩
        split at h
        · rename_i m hm; exact ⟨m, hm, h⟩
        · simp at h
      · obtain ⟨e', h1, h2⟩ := maskOf_bit h
        exact ⟨e', .tail _ h1, h2⟩
theorem masks_pre : ∀ (os : List Oper) (acc : List Nat) (k : Nat), k < acc.length → (masks os acc)[k]? = acc[k]?
  | [], acc, k, _ => rfl
  | o :: os, acc, k, h => by
    unfold masks
    rw [masks_pre os _ k (by rw [app_eq]; simp; omega), app_eq, List.getElem?_append_left h]
theorem masks_get : ∀ (os : List Oper) (acc : List Nat) (i : Nat) (o : Oper), os[i]? = some o →
    ∃ m, (masks os acc)[acc.length + i]? = some m ∧ ∀ j, Nat.testBit m j = true → ∃ e ∈ o.after.toList, Region.binds .any e = true ∧ (j = e.on ∨ ∃ m', e.on < acc.length + i ∧ (masks os acc)[e.on]? = some m' ∧ Nat.testBit m' j = true)
  | [], acc, i, o, h => by cases h
  | o' :: os, acc, 0, o, h => by
    cases h
    unfold masks
    refine ⟨maskOf acc o'.after.toList, ?_, fun j hj => ?_⟩
    · rw [masks_pre _ _ _ (by rw [app_eq]; simp), app_eq, Nat.add_zero, List.getElem?_append_right (Nat.le_refl _)]
      simp
    · obtain ⟨e, h1, h2, h3 | ⟨m, h3, h4⟩⟩ := maskOf_bit hj
      · exact ⟨e, h1, h2, .inl h3⟩
      · have hlt : e.on < acc.length := (List.getElem?_eq_some_iff.1 h3).1
        refine ⟨e, h1, h2, .inr ⟨m, by omega, ?_, h4⟩⟩
        rw [masks_pre _ _ _ (by rw [app_eq]; simp; omega), app_eq, List.getElem?_append_left hlt, h3]
  | o' :: os, acc, i + 1, o, h => by
    unfold masks
    obtain ⟨m, h1, h2⟩ := masks_get os (app acc [maskOf acc o'.after.toList]) i o h
    have hl : (app acc [maskOf acc o'.after.toList]).length = acc.length + 1 := by rw [app_eq]; simp
    rw [hl] at h1 h2
    have e1 : acc.length + (i + 1) = acc.length + 1 + i := by omega
    rw [e1]
    exact ⟨m, h1, h2⟩

end
end Go.Ev

namespace Go.Ev

section
variable {P : Program}

structure Way (P : Program) (cal : CallF) (ops : Array Oper) (base : Nat) (env0 : Env) (h0 : H) (S : Nat → DState) : Prop where
  s0 : S 0 = ⟨0, env0, [], ⟨0, 0, h0, base + ops.size⟩, [], []⟩
  st : ∀ i o, ops[i]? = some o → ∃ m, (masks ops.toList [])[i]? = some m ∧ Kind P cal ops base o m (S i) (S (i + 1))

section
variable {cal : CallF} {ops : Array Oper} {base : Nat} {env0 : Env} {h0 : H} {S : Nat → DState}

theorem Way.step (W : Way P cal ops base env0 h0 S) {i : Nat} (hi : i < ops.size) : ∃ o m, ops[i]? = some o ∧ (masks ops.toList [])[i]? = some m ∧ Kind P cal ops base o m (S i) (S (i + 1)) := by
  have ho : ops[i]? = some ops[i] := Array.getElem?_eq_getElem hi
  obtain ⟨m, h1, h2⟩ := W.st i _ ho
  exact ⟨_, m, ho, h1, h2⟩

def IsW (S : Nat → DState) (j : Nat) : Prop := (S (j + 1)).pr.lo = j + 1

structure Plain (S : Nat → DState) (i : Nat) : Prop where
  ix : (S i).i = i
  lo : (S i).pr.lo ≤ i
  fs : (S i).fs.Pairwise (fun x y => y.1 < x.1)
  fl : ∀ f A, (f, A) ∈ (S i).fs → f < i

theorem Way.plain (W : Way P cal ops base env0 h0 S) : ∀ i, i ≤ ops.size → Plain S i
  | 0, _ => by
    constructor <;> rw [W.s0] <;> simp
  | i + 1, hi => by
    have p := W.plain i (by omega)
    obtain ⟨o, m, _, _, k⟩ := W.step (i := i) (by omega)
    generalize hs : S (i + 1) = s' at k
    have hi := p.ix
    have hl := p.lo
    cases k
    case fresh v h1 blk _ _ _ _ =>
      constructor <;> rw [hs] <;> simp only
      · omega
      · omega
      · rw [List.pairwise_cons]
        exact ⟨fun x hx => by have := p.fl x.1 x.2 hx; omega, p.fs⟩
      · intro f A hm
        rcases List.mem_cons.1 hm with e | hm
        · cases e; omega
        · have := p.fl f A hm; omega
    all_goals
      constructor <;> rw [hs] <;> simp only
      · omega
      · omega
      · exact p.fs
      · exact fun f A hm => by have := p.fl f A hm; omega

theorem Way.w_or (W : Way P cal ops base env0 h0 S) {i : Nat} (hi : i < ops.size) :
    (IsW S i ∧ (S (i + 1)).old = (S i).pr :: (S i).old ∧ (S (i + 1)).fs = (S i).fs ∧ (S (i + 1)).rs = (S i).rs) ∨
    (¬ IsW S i ∧ (S (i + 1)).pr = (S i).pr ∧ (S (i + 1)).old = (S i).old) := by
  have p := W.plain i (by omega)
  obtain ⟨o, m, _, _, k⟩ := W.step (i := i) (by omega)
  have hlo := p.lo
  have hI := p.ix
  unfold IsW
  generalize S (i + 1) = s' at k
  cases k
  case write => exact .inl ⟨by simp only; omega, rfl, rfl, rfl⟩
  all_goals exact .inr ⟨by simp only; omega, rfl, rfl⟩

theorem Way.pr_same (W : Way P cal ops base env0 h0 S) {q : Nat} : ∀ i, q ≤ i → i ≤ ops.size → (∀ j, q ≤ j → j < i → ¬ IsW S j) → (S i).pr = (S q).pr ∧ (S i).old = (S q).old
  | 0, hq, _, _ => by have : q = 0 := by omega
                      subst this; exact ⟨rfl, rfl⟩
  | i + 1, hq, hi, hn => by
    by_cases e : q = i + 1
    · subst e; exact ⟨rfl, rfl⟩
    · rcases W.w_or (i := i) (by omega) with ⟨h, _⟩ | ⟨_, h1, h2⟩
      · exact absurd h (hn i (by omega) (by omega))
      · obtain ⟨h3, h4⟩ := W.pr_same i (by omega) (by omega) fun j h1 h2 => hn j h1 (by omega)
        exact ⟨h1.trans h3, h2.trans h4⟩

theorem Way.last (W : Way P cal ops base env0 h0 S) : ∀ i, i ≤ ops.size → (S i).pr = (S (S i).pr.lo).pr ∧ (S i).old = (S (S i).pr.lo).old ∧ ((S i).pr.lo = 0 ∨ (0 < (S i).pr.lo ∧ IsW S ((S i).pr.lo - 1))) ∧ (∀ j, (S i).pr.lo ≤ j → j < i → ¬ IsW S j)
  | 0, _ => by
    have : (S 0).pr.lo = 0 := by rw [W.s0]
    rw [this]
    exact ⟨rfl, rfl, .inl rfl, fun j _ h => by omega⟩
  | i + 1, hi => by
    rcases W.w_or (i := i) (by omega) with ⟨h, h2, _⟩ | ⟨hn, h1, h2⟩
    · have hl : (S (i + 1)).pr.lo = i + 1 := h
      rw [hl]
      exact ⟨rfl, rfl, .inr ⟨by omega, h⟩, fun j h1 h2 => by omega⟩
    · obtain ⟨k1, k2, k3, k4⟩ := W.last i (by omega)
      rw [h1, h2]
      refine ⟨k1, k2, k3, fun j hj hj' => ?_⟩
      by_cases e : j = i
      · subst e; exact hn
      · exact k4 j hj (by omega)

theorem Way.lo_mono (W : Way P cal ops base env0 h0 S) {i : Nat} : ∀ j, i ≤ j → j ≤ ops.size → (S i).pr.lo ≤ (S j).pr.lo
  | 0, h, _ => by have : i = 0 := by omega
                  subst this; exact Nat.le_refl _
  | j + 1, h, hj => by
    by_cases e : i = j + 1
    · subst e; exact Nat.le_refl _
    · have ih := W.lo_mono (i := i) j (by omega) (by omega)
      have := (W.plain j (by omega)).lo
      rcases W.w_or (i := j) (by omega) with ⟨h, _⟩ | ⟨_, h1, _⟩
      · unfold IsW at h; omega
      · rw [h1]; exact ih

theorem Way.all_w (W : Way P cal ops base env0 h0 S) : ∀ i, i ≤ ops.size → ∀ j, j < i → IsW S j → ∃ p ∈ (S i).pr :: (S i).old, p.lo = j + 1
  | 0, _, j, h, _ => by omega
  | i + 1, hi, j, hj, hw => by
    rcases W.w_or (i := i) (by omega) with ⟨h, h2, _⟩ | ⟨hn, h1, h2⟩
    · by_cases e : j = i
      · subst e; exact ⟨_, .head _, h⟩
      · obtain ⟨p, h3, h4⟩ := W.all_w i (by omega) j (by omega) hw
        exact ⟨p, by rw [h2]; exact .tail _ h3, h4⟩
    · by_cases e : j = i
      · subst e; exact absurd hw hn
      · rw [h1, h2]; exact W.all_w i (by omega) j (by omega) hw

theorem Way.fs_fwd (W : Way P cal ops base env0 h0 S) {i : Nat} {x : Nat × AB} : ∀ j, i ≤ j → j ≤ ops.size → x ∈ (S i).fs → x ∈ (S j).fs
  | 0, h, _, hx => by have : i = 0 := by omega
                      subst this; exact hx
  | j + 1, h, hj, hx => by
    by_cases e : i = j + 1
    · subst e; exact hx
    · have ih := W.fs_fwd j (by omega) (by omega) hx
      obtain ⟨o, m, _, _, k⟩ := W.step (i := j) (by omega)
      generalize S (j + 1) = s' at k
      cases k
      case fresh => exact .tail _ ih
      all_goals exact ih
theorem Way.fs_back (W : Way P cal ops base env0 h0 S) {i : Nat} {x : Nat × AB} (hlt : x.1 < i) : ∀ j, i ≤ j → j ≤ ops.size → x ∈ (S j).fs → x ∈ (S i).fs
  | 0, h, _, hx => by have : i = 0 := by omega
                      subst this; exact hx
  | j + 1, h, hj, hx => by
    by_cases e : i = j + 1
    · subst e; exact hx
    · have p := (W.plain j (by omega)).ix
      refine W.fs_back hlt j (by omega) (by omega) ?_
      obtain ⟨o, m, _, _, k⟩ := W.step (i := j) (by omega)
      generalize S (j + 1) = s' at k hx
      cases k
      case fresh =>
        rcases List.mem_cons.1 hx with e | h
        · subst e; simp only at hlt; omega
        · exact h
      all_goals exact hx
theorem Way.rs_fwd (W : Way P cal ops base env0 h0 S) {i : Nat} {r : RD} : ∀ j, i ≤ j → j ≤ ops.size → r ∈ (S i).rs → r ∈ (S j).rs
  | 0, h, _, hx => by have : i = 0 := by omega
                      subst this; exact hx
  | j + 1, h, hj, hx => by
    by_cases e : i = j + 1
    · subst e; exact hx
    · have ih := W.rs_fwd j (by omega) (by omega) hx
      obtain ⟨o, m, _, _, k⟩ := W.step (i := j) (by omega)
      generalize S (j + 1) = s' at k
      cases k
      case read => exact .tail _ ih
      all_goals exact ih

theorem putA_get {env : Env} {d : Option Tmp} {v : AV} {t : Nat} : (putA env d v).get t = if d = some t then some v else env.get t := by
  cases d with
  | none => simp [putA]
  | some d => simp only [putA, Tr.get_set, Option.some.injEq, eq_comm (a := t)]

theorem Way.put (W : Way P cal ops base env0 h0 S) {i : Nat} {o : Oper} (ho : ops[i]? = some o) : ∃ v, (S (i + 1)).env = putA (S i).env o.dst v := by
  obtain ⟨m, _, k⟩ := W.st i o ho
  generalize S (i + 1) = s' at k
  cases k
  all_goals exact ⟨_, rfl⟩

theorem Way.env_old (W : Way P cal ops base env0 h0 S) {t : Nat} {k : Nat} : ∀ i, k ≤ i → i ≤ ops.size → (∀ j o, k ≤ j → j < i → ops[j]? = some o → o.dst ≠ some t) → (S i).env.get t = (S k).env.get t
  | 0, hk, _, _ => by have : k = 0 := by omega
                      subst this; rfl
  | i + 1, hk, hi, hn => by
    by_cases e : k = i + 1
    · subst e; rfl
    · have ho : ops[i]? = some ops[i] := Array.getElem?_eq_getElem (by omega)
      obtain ⟨v, hv⟩ := W.put ho
      rw [hv, putA_get, if_neg (hn i _ (by omega) (by omega) ho)]
      exact W.env_old i (by omega) (by omega) fun j o h1 h2 => hn j o h1 (by omega)

theorem Way.back (W : Way P cal ops base env0 h0 S) {m q : Nat} {fs : List (Nat × AB)} {op : Op} {env : Env} {v : AV} (hq : (S q).pr.lo = q) (hm : ∀ j, q ≤ j → j < ops.size → IsW S j → Nat.testBit m j = false) : ∀ i, q ≤ i → i ≤ ops.size → q < (S i).pr.lo →
    chkBack P base m fs op env v (S i).pr.lo (S i).old = true → chk P op env v (extH base (S q).pr.ab (Nat.testBit m) (S q).pr.b fs) = true
  | 0, h, _, hl, _ => by
    have : q = 0 := by omega
    subst this; omega
  | i + 1, h, hi, hl, hc => by
    rcases W.w_or (i := i) (by omega) with ⟨hw, h2, _⟩ | ⟨hn, h1, h2⟩
    · have hlo : (S (i + 1)).pr.lo = i + 1 := hw
      rw [hlo, h2] at hc
      rw [hlo] at hl
      unfold chkBack at hc
      rw [Nat.add_sub_cancel, hm i (by omega) (by omega) hw, Bool.false_or, Bool.and_eq_true] at hc
      have hmono := W.lo_mono (i := q) i (by omega) (by omega)
      rw [hq] at hmono
      by_cases e : q = (S i).pr.lo
      · have hl := (W.last i (by omega)).1
        rw [← e] at hl hc
        rw [hl] at hc
        exact hc.1
      · exact W.back hq hm i (by omega) (by omega) (by omega) hc.2
    · have hmono := W.lo_mono (i := q) i (by have := (W.plain i (by omega)).lo; rw [h1] at hl; omega) (by omega)
      rw [h1, h2] at hc
      rw [h1] at hl
      exact W.back hq hm i (by have := (W.plain i (by omega)).lo; omega) (by omega) hl hc
end

theorem drawOk_spec {ops : Array Oper} (h : drawOk ops = true) :
    (∀ i o, ops[i]? = some o → ∀ e ∈ o.after, Region.binds .any e = true → e.on < i) ∧
    (∀ i o i' o' d, ops[i]? = some o → ops[i']? = some o' → i ≠ i' → o.dst = some d → o'.dst ≠ some d ∧
      (d ∈ looksA ops o' → ∃ m m', (masks ops.toList [])[i]? = some m ∧ (masks ops.toList [])[i']? = some m' ∧ (if i < i' then Nat.testBit m' i = true else Nat.testBit m i' = true))) := by
  unfold drawOk at h
  simp only [List.all_eq_true, Bool.and_eq_true] at h
  have mem : ∀ {i o}, ops[i]? = some o → (o, i) ∈ ops.toList.zipIdx := fun {i o} ho => by
    rw [List.mk_mem_zipIdx_iff_getElem?]
    simpa using ho
  constructor
  · intro i o ho e he hb
    have := (h (o, i) (mem ho)).1 e (Array.mem_toList_iff.2 he)
    simpa [hb, blt_dec] using this
  · intro i o i' o' d ho ho' hne hd
    have := (h (o, i) (mem ho)).2 (o', i') (mem ho')
    simp only [apartD, beq_dec, hne, decide_false, Bool.false_or, hd, Bool.and_eq_true, Bool.or_eq_true, List.all_eq_true, nth_eq] at this
    refine ⟨fun e => ?_, fun hl => ?_⟩
    · have := this.1
      rw [e] at this
      simp [beq_dec] at this
    · rcases this.2 with h1 | h1
      · have := h1 d hl
        simp [beq_dec] at this
      · split at h1
        · rename_i m m' hm hm'
          refine ⟨m, m', hm, hm', ?_⟩
          rw [blt_dec] at h1
          by_cases c : i < i'
          · rw [if_pos c]; simpa [c] using h1
          · rw [if_neg c]; simpa [c] using h1
        · cases h1

theorem wantedA_congr {ops : Array Oper} {env env' : Env} {o : Oper} (h : ∀ t ∈ looksA ops o, env.get t = env'.get t) : wantedA ops env o.guard = wantedA ops env' o.guard := by
  unfold wantedA
  cases hg : o.guard with
  | none => rfl
  | some p =>
    obtain ⟨j, want⟩ := p
    simp only
    cases hj : ops[j]? with
    | none => rfl
    | some oj =>
      simp only
      cases hd : oj.dst with
      | none => rfl
      | some d =>
        simp only
        rw [h d (List.mem_append_right _ (by simp [hg, hj, hd]))]
theorem rd_congr {ops : Array Oper} {env env' : Env} {o : Oper} (h : ∀ t ∈ looksA ops o, env.get t = env'.get t) : ∀ x ∈ o.op.operands, rd env x = rd env' x := by
  intro x hx
  cases x with
  | tmp t =>
    simp only [rd]
    rw [h t (List.mem_append_left _ (List.mem_filterMap.2 ⟨.tmp t, Array.mem_toList_iff.2 hx, rfl⟩))]
  | const v => rfl
  | global g => rfl
  | func f => rfl

end
end Go.Ev

namespace Go.Ev

section
variable {P : Program}

structure Inv (P : Program) (ops : Array Oper) (base N : Nat) (env0 : Env) (h0 : H) (S : Nat → DState) (σ0 : Map) (w0 : World) (D : Nat → Bool) (q : Nat) (σ : Map) (env : Env) (a : Act) (w : World) : Prop where
  en : ∀ j o t, ops[j]? = some o → o.dst = some t → D j = true → env.get t = (S ops.size).env.get t
  e0 : ∀ t, (∀ j o, ops[j]? = some o → o.dst = some t → D j = false) → env.get t = env0.get t
  st : St P N σ env (extH base (S q).pr.ab D (S q).pr.b (S ops.size).fs) (S q).pr.nx a w
  qn : q ≤ ops.size
  ql : (S q).pr.lo = q
  qw : ∀ j, j < ops.size → IsW S j → (D j = true ↔ j < q)
  ext : Ext (Rg base (S q).pr.nx) σ0 h0 w0 σ (extH base (S q).pr.ab D (S q).pr.b (S ops.size).fs) w
  nx : base + ops.size ≤ (S q).pr.nx
  fr : ∀ i, i < ops.size → D i = false → σ (base + i) = none
  bn : ∀ f, f < ops.size → Nat.testBit (S q).pr.ab f = false → (S q).pr.b.get (base + f) = none
  ab : ∀ f, Nat.testBit (S q).pr.ab f = true → D f = true
  cl : ∀ i m, D i = true → (masks ops.toList [])[i]? = some m → ∀ j, Nat.testBit m j = true → D j = true

section
variable {cal : CallF} {ops : Array Oper} {base N : Nat} {env0 : Env} {h0 : H} {S : Nat → DState} {σ0 : Map} {w0 : World} {D : Nat → Bool} {q : Nat} {σ : Map} {env : Env} {a : Act} {w : World}

theorem masks_at {i : Nat} {o : Oper} {m : Nat} (ho : ops[i]? = some o) (hm : (masks ops.toList [])[i]? = some m) :
    ∀ j, Nat.testBit m j = true → ∃ e ∈ o.after, Region.binds .any e = true ∧ (j = e.on ∨ ∃ m', (masks ops.toList [])[e.on]? = some m' ∧ Nat.testBit m' j = true) := by
  obtain ⟨m', h1, h2⟩ := masks_get ops.toList [] i o (by simpa using ho)
  simp only [List.length_nil, Nat.zero_add] at h1 h2
  rw [hm] at h1
  cases h1
  intro j hj
  obtain ⟨e, h3, h4, h5 | ⟨m', _, h6, h7⟩⟩ := h2 j hj
  · exact ⟨e, Array.mem_toList_iff.1 h3, h4, .inl h5⟩
  · exact ⟨e, Array.mem_toList_iff.1 h3, h4, .inr ⟨m', h6, h7⟩⟩

theorem masks_lt (hd : drawOk ops = true) : ∀ (n i : Nat), i < n → ∀ (m : Nat), (masks ops.toList [])[i]? = some m → ∀ (o : Oper), ops[i]? = some o → ∀ j, Nat.testBit m j = true → j < i
  | 0, _, h, _, _, _, _, _, _ => absurd h (Nat.not_lt_zero _)
  | n + 1, i, h, m, hm, o, ho, j, hj => by
    obtain ⟨e, h1, h2, rfl | ⟨m', h3, h4⟩⟩ := masks_at ho hm j hj
    · exact (drawOk_spec hd).1 i o ho e h1 h2
    · have hlt := (drawOk_spec hd).1 i o ho e h1 h2
      have hin : i < ops.size := (Array.getElem?_eq_some_iff.1 ho).1
      have ho' : ops[e.on]? = some ops[e.on] := Array.getElem?_eq_getElem (by omega)
      have := masks_lt hd n e.on (by omega) m' h3 _ ho' j h4
      omega

theorem Inv.mask (I : Inv P ops base N env0 h0 S σ0 w0 D q σ env a w) {i : Nat} {o : Oper} {m : Nat} (ho : ops[i]? = some o) (hm : (masks ops.toList [])[i]? = some m)
    (hr : ∀ e ∈ o.after, Region.binds .any e = true → D e.on = true) : ∀ j, Nat.testBit m j = true → D j = true := by
  intro j hj
  obtain ⟨e, h1, h2, rfl | ⟨m', h3, h4⟩⟩ := masks_at ho hm j hj
  · exact hr e h1 h2
  · exact I.cl e.on m' (hr e h1 h2) h3 j h4

theorem Inv.looks (I : Inv P ops base N env0 h0 S σ0 w0 D q σ env a w) (W : Way P cal ops base env0 h0 S) (hd : drawOk ops = true) {i : Nat} {o : Oper} {m : Nat} (ho : ops[i]? = some o) (hm : (masks ops.toList [])[i]? = some m)
    (hi : D i = false) (hm' : ∀ j, Nat.testBit m j = true → D j = true) : ∀ t ∈ looksA ops o, env.get t = (S i).env.get t := by
  intro t ht
  obtain ⟨_, ap⟩ := drawOk_spec hd
  have hin : i < ops.size := (Array.getElem?_eq_some_iff.1 ho).1
  have e00 : (S 0).env.get t = env0.get t := by rw [W.s0]
  by_cases hex : ∃ (j : Nat) (oj : Oper), ops[j]? = some oj ∧ oj.dst = some t
  · obtain ⟨j, oj, hj, hdj⟩ := hex
    have hjn : j < ops.size := (Array.getElem?_eq_some_iff.1 hj).1
    have uniq : ∀ k ok, ops[k]? = some ok → ok.dst = some t → k = j := by
      intro k ok hk hdk
      rcases Nat.decEq k j with hne | heq
      · exact absurd hdk (ap j oj k ok t hj hk (Ne.symm hne) hdj).1
      · exact heq
    by_cases eji : j = i
    · subst eji
      rw [I.e0 t fun k ok hk hdk => by rw [uniq k ok hk hdk]; exact hi, ← e00]
      exact (W.env_old _ (by omega) (by omega) fun k ok _ hk' hk hdk => by have := uniq k ok hk hdk; omega).symm
    · obtain ⟨m1, m2, h1, h2, h3⟩ := (ap j oj i o t hj ho eji hdj).2 ht
      rw [hm] at h2
      cases h2
      by_cases c : j < i
      · rw [if_pos c] at h3
        rw [I.en j oj t hj hdj (hm' j h3), W.env_old (k := j + 1) ops.size (by omega) (Nat.le_refl _) fun k ok h1 _ hk hdk => by have := uniq k ok hk hdk; omega]
        exact (W.env_old i (by omega) (by omega) fun k ok h1 _ hk hdk => by have := uniq k ok hk hdk; omega).symm
      · rw [if_neg c] at h3
        have hDj : D j = false := by
          cases hc : D j with
          | false => rfl
          | true => rw [I.cl j m1 hc h1 i h3] at hi; cases hi
        rw [I.e0 t fun k ok hk hdk => by rw [uniq k ok hk hdk]; exact hDj, ← e00]
        exact (W.env_old _ (by omega) (by omega) fun k ok _ hk' hk hdk => by have := uniq k ok hk hdk; omega).symm
  · rw [I.e0 t fun k ok hk hdk => absurd ⟨k, ok, hk, hdk⟩ hex, ← e00]
    exact (W.env_old _ (by omega) (by omega) fun k ok _ _ hk hdk => hex ⟨k, ok, hk, hdk⟩).symm

theorem Inv.next (I : Inv P ops base N env0 h0 S σ0 w0 D q σ env a w) (W : Way P cal ops base env0 h0 S) (hd : drawOk ops = true) {i : Nat} {o : Oper} {m : Nat} (ho : ops[i]? = some o) (hok : operOk P N o = true) (hm : (masks ops.toList [])[i]? = some m)
    (hi : D i = false) (hm' : ∀ j, Nat.testBit m j = true → D j = true)
    {v : AV} {u : Value} {q' : Nat} {τ : Map} {w' : World} {D' : Nat → Bool} (hD' : ∀ j, D' j = (D j || decide (j = i))) (hv : (S (i + 1)).env = putA (S i).env o.dst v) (hu : RV τ v u)
    {M : Nat → Prop} (e : Ext M σ (extH base (S q).pr.ab D (S q).pr.b (S ops.size).fs) w τ (extH base (S q').pr.ab D' (S q').pr.b (S ops.size).fs) w') (hM : ∀ k, M k → k = base + i ∨ (S q).pr.nx ≤ k ∧ k < (S q').pr.nx)
    (hq : q' ≤ ops.size) (hql : (S q').pr.lo = q') (hqw : ∀ j, j < ops.size → IsW S j → (D' j = true ↔ j < q')) (hnx : (S q).pr.nx ≤ (S q').pr.nx)
    (hbn : ∀ f, f < ops.size → Nat.testBit (S q').pr.ab f = false → (S q').pr.b.get (base + f) = none) (hab : ∀ f, Nat.testBit (S q').pr.ab f = true → D' f = true) :
    Inv P ops base N env0 h0 S σ0 w0 D' q' τ (putA env o.dst v) (a.put o.dst u) w' := by
  have hin : i < ops.size := (Array.getElem?_eq_some_iff.1 ho).1
  obtain ⟨_, ap⟩ := drawOk_spec hd
  have hnx0 := I.nx
  refine ⟨?_, ?_, I.st.put e hnx (fun k hk => by rcases hM k hk with h | h <;> omega) hok hu, hq, hql, hqw, ?_, by omega, ?_, hbn, hab, ?_⟩
  · intro j oj t hj hdj hDj
    rw [putA_get]
    rw [hD'] at hDj
    by_cases eij : j = i
    · subst eij
      rw [ho] at hj
      cases hj
      rw [if_pos hdj, W.env_old (k := j + 1) ops.size (by omega) (Nat.le_refl _) fun k ok h1 _ hk hdk => (ap j o k ok t ho hk (by omega) hdj).1 hdk, hv, putA_get, if_pos hdj]
    · rw [if_neg (fun hdi => (ap j oj i o t hj ho eij hdj).1 hdi)]
      exact I.en j oj t hj hdj (by simpa [eij] using hDj)
  · intro t ht
    rw [putA_get]
    have hne : o.dst ≠ some t := fun hdi => by have := ht i o ho hdi; rw [hD'] at this; simp at this
    rw [if_neg hne]
    exact I.e0 t fun j oj hj hdj => by have := ht j oj hj hdj; rw [hD'] at this; simp at this; exact this.1
  · exact I.ext.trans e (fun k hk => ⟨hk.1, by have := hk.2; omega⟩) (fun k hk => by rcases hM k hk with h | h <;> constructor <;> omega)
  · intro j hj hDj
    rw [hD'] at hDj
    simp only [Bool.or_eq_false_iff, decide_eq_false_iff_not] at hDj
    have hσ := I.fr j hj hDj.1
    cases hτ : τ (base + j) with
    | none => rfl
    | some L =>
      rcases e.loc _ L hτ with h1 | ⟨h1, _⟩
      · rw [hσ] at h1; cases h1
      · rcases hM _ h1 with h | h <;> omega
  · intro j m1 hj hm1 k hk
    rw [hD'] at hj ⊢
    simp only [Bool.or_eq_true, decide_eq_true_eq] at hj ⊢
    rcases hj with hj | rfl
    · exact .inl (I.cl j m1 hj hm1 k hk)
    · rw [hm] at hm1
      cases hm1
      exact .inl (hm' k hk)

end
end
end Go.Ev

namespace Go.Ev

section
variable {P : Program}
variable {cal : CallF} {ops : Array Oper} {base N : Nat} {env0 : Env} {h0 : H} {S : Nat → DState} {σ0 : Map} {w0 : World} {D : Nat → Bool} {q : Nat} {σ : Map} {env : Env} {a : Act} {w : World}

theorem op_wp_val {cal : CallF} (hcal : CallSound P cal) {σ : Map} {env : Env} {h : H} {nx : Nat} {a : Act} {w : World} (rh : RH σ h w) (bd : Bd σ nx) (gl : GlobOk P σ) {o : Oper}
    (hx : ∀ x ∈ o.op.operands, RV σ (rd env x) (a.eval x)) {nid : Nat} (hn : σ nid = none) {v : AV} (hv : opA P o.op env h nid = .val v)
    {Q : Exit → Act → World → Prop} {K : Act → World → Prop} (hk : ∀ u, RV σ v u → K (a.put o.dst u) w) : o.wp P a w K Q := by
  refine op_wp0 hcal rh bd gl hx hn ?_ ?_ ?_ ?_ ?_
  · intro v' h' u hu; rw [hv] at h'; cases h'; exact hk u hu
  · intro v' h' hh; rw [hv] at hh; cases hh
  · intro v' h' hh; rw [hv] at hh; cases hh
  · intro f args hh; rw [hv] at hh; cases hh
  · rw [hv]; exact NX.noConfusion

theorem Way.same_fs (W : Way P cal ops base env0 h0 S) {i : Nat} (hi : i < ops.size) (h : (S (i + 1)).fs = (S i).fs) : ∀ f A, (f, A) ∈ (S ops.size).fs → f ≠ i := by
  intro f A hf e
  subst e
  have := W.fs_back (i := f + 1) (x := (f, A)) (by simp) ops.size (by omega) (Nat.le_refl _) hf
  rw [h] at this
  have := (W.plain f (by omega)).fl f A this
  omega

theorem Inv.subs (I : Inv P ops base N env0 h0 S σ0 w0 D q σ env a w) (W : Way P cal ops base env0 h0 S) {sel sel' : Nat → Bool} {fs : List (Nat × AB)} (h : ∀ f A, (f, A) ∈ fs → Nat.testBit (S q).pr.ab f = false → sel f = true → (f, A) ∈ (S ops.size).fs ∧ sel' f = true) :
    Sub (extH base (S q).pr.ab sel (S q).pr.b fs) (extH base (S q).pr.ab sel' (S q).pr.b (S ops.size).fs) := by
  have p := W.plain ops.size (Nat.le_refl _)
  exact extH_sub p.fs h fun f A hf hq => I.bn f (p.fl f A hf) hq

theorem Inv.wrote (I : Inv P ops base N env0 h0 S σ0 w0 D q σ env a w) (W : Way P cal ops base env0 h0 S) : q = 0 ∨ (0 < q ∧ IsW S (q - 1) ∧ D (q - 1) = true) := by
  have := (W.last q I.qn).2.2.1
  rw [I.ql] at this
  rcases this with h | ⟨h1, h2⟩
  · exact .inl h
  · have := I.qn
    exact .inr ⟨h1, h2, (I.qw (q - 1) (by omega) h2).2 (by omega)⟩

theorem wpOp_of {Q : Exit → Act → World → Prop} {K : Act → World → Prop} {i : Nat} {o : Oper} (ho : ops[i]? = some o) (hw : Region.wanted o (yielded ops a.tmps) = true) (h : o.wp P a w K Q) : wpOp P ops Q i K a w := by
  unfold wpOp
  rw [ho]
  simp only [hw, if_true]
  exact .inl h

theorem Inv.step (hcal : CallSound P cal) (I : Inv P ops base N env0 h0 S σ0 w0 D q σ env a w) (W : Way P cal ops base env0 h0 S) (hd : drawOk ops = true) {i : Nat} {o : Oper} (ho : ops[i]? = some o) (hok : operOk P N o = true)
    (hi : D i = false) (hr : ∀ e ∈ o.after, Region.binds .any e = true → D e.on = true) {Q : Exit → Act → World → Prop} {K : Act → World → Prop}
    (hK : ∀ q' τ env' a' w', Inv P ops base N env0 h0 S σ0 w0 (fun j => D j || decide (j = i)) q' τ env' a' w' → K a' w') : wpOp P ops Q i K a w := by
  have hin : i < ops.size := (Array.getElem?_eq_some_iff.1 ho).1
  obtain ⟨m, hm, k⟩ := W.st i o ho
  have hm' := I.mask ho hm hr
  have lk := I.looks W hd ho hm hi hm'
  have hwant := wantedA_congr lk
  have hops : ∀ x ∈ o.op.operands, RV σ (rd (S i).env x) (a.eval x) := fun x hx => by
    rw [← rd_congr lk x hx]
    exact rd_rel I.st.re I.st.gl (operOk_ops hok x hx)
  have hσ := I.fr i hin hi
  have pl := W.plain i (by omega)
  have pn := W.plain ops.size (Nat.le_refl _)
  have qn := I.qn
  have hlo := pl.lo
  have hix := pl.ix
  have hlast := W.last i (by omega)
  -- what no write needs
  have still : (S (i + 1)).fs = (S i).fs → (S (i + 1)).pr = (S i).pr → ∀ v u, (S (i + 1)).env = putA (S i).env o.dst v → RV σ v u → K (a.put o.dst u) w := by
    intro hfs hpr v u hv hu
    have nw : ¬ IsW S i := by unfold IsW; rw [hpr]; omega
    have hne := W.same_fs hin hfs
    refine hK q σ _ _ _ (I.next W hd ho hok hm hi hm' (fun j => rfl) hv hu (M := fun _ => False) ((Ext.refl I.st.rh).sub I.st.rh (I.subs W fun f A hf hq hs => ⟨hf, ?_⟩) (fun k A h1 _ => I.subs W (sel := D) (sel' := fun j => D j || decide (j = i)) (fun f A hf _ hs => ⟨hf, by simp [hs]⟩) k A h1)) (fun _ h => h.elim) I.qn I.ql ?_ (Nat.le_refl _) I.bn (fun f hf => by simp [I.ab f hf]))
    · simpa [hne f A hf] using hs
    · intro j hj hw
      have : j ≠ i := fun e => nw (e ▸ hw)
      simp only [this, decide_false, Bool.or_false]
      exact I.qw j hj hw
  have hsub : ∀ f A, (f, A) ∈ (S i).fs → Nat.testBit (S q).pr.ab f = false → Nat.testBit m f = true → (f, A) ∈ (S ops.size).fs ∧ D f = true :=
    fun f A hf _ hs => ⟨W.fs_fwd ops.size (by omega) (Nat.le_refl _) hf, hm' f hs⟩
  generalize hs : S (i + 1) = s' at k still
  cases k
  case skip hw =>
    unfold wpOp
    rw [ho]
    rw [← hwant] at hw
    simp only [wanted_rel I.st.re hw, Bool.false_eq_true, if_false]
    exact still rfl rfl undefA undef rfl RV.undef
  case pure v hw hc hv =>
    rw [← hwant] at hw
    refine wpOp_of ho (wanted_rel I.st.re hw) ?_
    refine op_wp_val hcal I.st.rh I.st.bd I.st.gl hops hσ ((cls_p hc _ _ _ _ _).trans hv) fun u hu => still rfl rfl v u rfl hu
  case read v hw hc hv hb =>
    rw [← hwant] at hw
    refine wpOp_of ho (wanted_rel I.st.re hw) ?_
    have nw : ¬ IsW S i := by unfold IsW; rw [hs]; simp only; omega
    have read : opA P o.op (S i).env (extH base (S q).pr.ab D (S q).pr.b (S ops.size).fs) (base + i) = .val v := by
      rcases Nat.lt_trichotomy q (S i).pr.lo with hlt | heq | hgt
      · refine cls_r hc (I.subs W hsub) _ (chk_val (W.back I.ql ?_ i (by omega) (by omega) hlt hb))
        intro j h1 h2 h3
        cases ht : Nat.testBit m j with
        | false => rfl
        | true => have := (I.qw j h2 h3).1 (hm' j ht); omega
      · rw [← heq] at hlast
        rw [hlast.1] at hv
        exact cls_r hc (I.subs W hsub) _ hv
      · rcases I.wrote W with h1 | ⟨h1, h2, h3⟩
        · omega
        · have hge : i < q - 1 := by
            rcases Nat.lt_or_ge i (q - 1) with h | h
            · exact h
            · exfalso
              by_cases e : q - 1 = i
              · exact nw (e ▸ h2)
              · exact hlast.2.2.2 (q - 1) (by omega) (by omega) h2
          have hrs : ⟨i, o.op, (S i).env, v⟩ ∈ (S (q - 1)).rs := W.rs_fwd (i := i + 1) (q - 1) (by omega) (by omega) (by rw [hs]; simp only [hix]; exact .head _)
          obtain ⟨o2, m2, ho2, hm2, k2⟩ := W.step (i := q - 1) (by omega)
          have e1 : q - 1 + 1 = q := by omega
          rw [e1] at k2
          have hlo2 := (W.plain (q - 1) (by omega)).lo
          have hql := I.ql
          have hsub2 : Sub (S q).pr.b (extH base (S q).pr.ab D (S q).pr.b (S ops.size).fs) := I.subs W (sel := D) (fs := []) fun f A hf => by cases hf
          refine cls_r hc hsub2 (i := 0) _ ?_
          generalize S q = s2 at k2 hql
          cases k2
          case write v2 h nx2 hw2 h12 hv2 h32 =>
            rcases h32 _ hrs with h4 | h4
            · have := I.cl (q - 1) m2 h3 hm2 i h4
              rw [hi] at this
              cases this
            · exact chk_val h4
          all_goals simp only at hql; omega
    refine op_wp_val hcal I.st.rh I.st.bd I.st.gl hops hσ read fun u hu => still rfl rfl v u rfl hu
  case fresh v h1 blk hw hc hv hb =>
    rw [← hwant] at hw
    refine wpOp_of ho (wanted_rel I.st.re hw) ?_
    have nw : ¬ IsW S i := by unfold IsW; rw [hs]; simp only; omega
    have hfs1 : (i, blk) ∈ (S (i + 1)).fs := by rw [hs]; simp only [hix]; exact .head _
    have hfs : (i, blk) ∈ (S ops.size).fs := W.fs_fwd ops.size (by omega) (Nat.le_refl _) hfs1
    have hqi : Nat.testBit (S q).pr.ab i = false := by
      cases hc : Nat.testBit (S q).pr.ab i with
      | false => rfl
      | true => rw [I.ab i hc] at hi; cases hi
    rw [hix] at hv hb
    have hnew := cls_f hc hv hb (extH base (S q).pr.ab D (S q).pr.b (S ops.size).fs)
    refine op_wp0 hcal I.st.rh I.st.bd I.st.gl hops hσ ?_ ?_ ?_ ?_ ?_
    · intro v' hh; rw [hnew] at hh; cases hh
    · intro v' h' hh; rw [hnew] at hh; cases hh
    · intro v' h' hh u w' τ hu e
      rw [hnew] at hh
      cases hh
      refine hK q τ _ _ _ (I.next W hd ho hok hm hi hm' (fun j => rfl) (by rw [hs]) hu (M := (· = base + i)) (e.sub I.st.rh ?_ ?_) (fun _ h => .inl h) I.qn I.ql ?_ (Nat.le_refl _) I.bn (fun f hf => by simp [I.ab f hf]))
      · intro k A hk
        have hnew' : (extH base (S q).pr.ab (fun j => D j || decide (j = i)) (S q).pr.b (S ops.size).fs).get (base + i) = some blk := extH_new pn.fs hfs hqi (by simp)
        rw [Tr.get_set]
        by_cases ek : k = base + i
        · subst ek
          rw [hnew'] at hk
          rw [if_pos rfl, hk]
        · rw [if_neg ek]
          rcases extH_cases hk with ⟨f, h2, h3, h4, rfl⟩ | ⟨h2, h3⟩
          · refine extH_new pn.fs h2 h3 ?_
            have : f ≠ i := fun e => ek (by rw [e])
            simpa [this] using h4
          · rw [extH_old, h2]
            exact fun f B hf hq hs => h3 f B hf hq (by simp [hs])
      · intro k A hk _
        have hnew' : (extH base (S q).pr.ab (fun j => D j || decide (j = i)) (S q).pr.b (S ops.size).fs).get (base + i) = some blk := extH_new pn.fs hfs hqi (by simp)
        rw [Tr.get_set] at hk
        by_cases ek : k = base + i
        · subst ek
          rw [if_pos rfl] at hk
          rw [hnew', hk]
        · rw [if_neg ek] at hk
          exact I.subs W (sel := D) (sel' := fun j => D j || decide (j = i)) (fun f A hf _ hs => ⟨hf, by simp [hs]⟩) k A hk
      · intro j hj hw'
        have : j ≠ i := fun e => nw (e ▸ hw')
        simp only [this, decide_false, Bool.or_false]
        exact I.qw j hj hw'
    · intro f args hh; rw [hnew] at hh; cases hh
    · rw [hnew]; exact NX.noConfusion
  case write v h nx hw h1 hv h3 =>
    rw [← hwant] at hw
    refine wpOp_of ho (wanted_rel I.st.re hw) ?_
    have isw : IsW S i := by unfold IsW; rw [hs]; simp only; omega
    have hqi : q ≤ i := by
      rcases Nat.lt_or_ge i q with h | h
      · have := (I.qw i hin isw).2 h
        rw [hi] at this
        cases this
      · exact h
    have hnow : ∀ j, q ≤ j → j < i → ¬ IsW S j := by
      intro j h4 h5 h6
      obtain ⟨p, h7, h8⟩ := W.all_w i (by omega) j h5 h6
      rcases h1 p h7 with h9 | h9
      · omega
      · rw [h8, Nat.add_sub_cancel] at h9
        have := (I.qw j (by omega) h6).1 (hm' j h9)
        omega
    have hpr := (W.pr_same i hqi (by omega) hnow).1
    rw [hpr] at hv
    have hsubW : Sub (extH base (S q).pr.ab (Nat.testBit m) (S q).pr.b (S i).fs) (extH base (S q).pr.ab D (S q).pr.b (S ops.size).fs) := I.subs W hsub
    have rhW := I.st.rh.sub hsubW
    have epr : (S (i + 1)).pr = ⟨i + 1, Nat.lor (Nat.lor (S q).pr.ab m) (Nat.pow 2 i), h, nx⟩ := by rw [hs]; simp only [hix, hpr]
    have hnx := I.nx
    have fin : ∀ {M : Nat → Prop} {τ : Map} {w' : World} {u : Value}, Ext M σ (extH base (S q).pr.ab (Nat.testBit m) (S q).pr.b (S i).fs) w τ h w' → (∀ k, M k → k = base + i ∨ (S q).pr.nx ≤ k ∧ k < nx) → RV τ v u → (S q).pr.nx ≤ nx → K (a.put o.dst u) w' := by
      intro M τ w' u e hM hu hle
      have bits : ∀ f, Nat.testBit (Nat.lor (Nat.lor (S q).pr.ab m) (Nat.pow 2 i)) f = (Nat.testBit (S q).pr.ab f || Nat.testBit m f || decide (i = f)) := fun f => by
        change Nat.testBit (((S q).pr.ab ||| m) ||| 2 ^ i) f = _
        rw [Nat.testBit_or, Nat.testBit_or, Nat.testBit_two_pow]
      have old : ∀ f, f < ops.size → Nat.testBit (Nat.lor (Nat.lor (S q).pr.ab m) (Nat.pow 2 i)) f = false → (extH base (S q).pr.ab (Nat.testBit m) (S q).pr.b (S i).fs).get (base + f) = none := by
        intro f h4 h5
        rw [bits] at h5
        simp only [Bool.or_eq_false_iff, decide_eq_false_iff_not] at h5
        cases hg : (extH base (S q).pr.ab (Nat.testBit m) (S q).pr.b (S i).fs).get (base + f) with
        | none => rfl
        | some A =>
          rcases extH_cases hg with ⟨f', h6, _, h8, h7⟩ | ⟨h6, _⟩
          · have : f' = f := by omega
            subst this
            rw [h5.1.2] at h8
            cases h8
          · rw [I.bn f h4 h5.1.1] at h6; cases h6
      have hbn : ∀ f, f < ops.size → Nat.testBit (Nat.lor (Nat.lor (S q).pr.ab m) (Nat.pow 2 i)) f = false → h.get (base + f) = none := by
        intro f h4 h5
        cases hg : h.get (base + f) with
        | none => rfl
        | some A =>
          obtain ⟨L, h6, _⟩ := e.rh.blk _ A hg
          rcases e.loc _ L h6 with h7 | ⟨h7, _⟩
          · obtain ⟨A0, h8⟩ := e.live _ A L hg h7
            rw [old f h4 h5] at h8
            cases h8
          · rw [bits] at h5
            simp only [Bool.or_eq_false_iff, decide_eq_false_iff_not] at h5
            rcases hM _ h7 with h8 | h8 <;> omega
      have e2 : Ext M σ (extH base (S q).pr.ab D (S q).pr.b (S ops.size).fs) w τ (extH base (S (i + 1)).pr.ab (fun j => D j || decide (j = i)) (S (i + 1)).pr.b (S ops.size).fs) w' := by
        rw [epr]
        refine e.frame hsubW I.st.rh (fun k A hk => ?_) (fun k A hk _ => ?_) (fun k A h1 hk _ => ?_)
        rotate_left
        · refine (extH_old fun f B hf h5 _ ek => ?_).trans hk
          rw [ek, hbn f (pn.fl f B hf) h5] at hk
          cases hk
        · rcases extH_cases hk with ⟨f, h4, h5, h6, rfl⟩ | ⟨h4, h6⟩
          · refine extH_new pn.fs h4 ?_ (by simp [h6])
            have hne : f ≠ i := fun e => by
              subst e
              rw [hi] at h6
              cases h6
            rw [bits, h5]
            simp only [Bool.false_or, Bool.or_eq_false_iff, decide_eq_false_iff_not]
            refine ⟨?_, fun e => hne e.symm⟩
            cases ht : Nat.testBit m f with
            | false => rfl
            | true =>
              exfalso
              have hin' : (f, A) ∈ (S i).fs := W.fs_back (x := (f, A)) (by exact masks_lt hd (i + 1) i (by omega) m hm o ho f ht) ops.size (by omega) (Nat.le_refl _) h4
              rw [extH_new pl.fs hin' h5 ht] at h1
              cases h1
          · exfalso
            have : (extH base (S q).pr.ab (Nat.testBit m) (S q).pr.b (S i).fs).get k = (S q).pr.b.get k := extH_old fun f B hf h7 h8 => h6 f B (hsub f B hf h7 h8).1 h7 (hsub f B hf h7 h8).2
            rw [this, h4] at h1
            cases h1
        rcases extH_cases hk with ⟨f, h4, h5, h6, rfl⟩ | ⟨h4, _⟩
        · have hf := pn.fl f A h4
          have h7 := h5
          rw [bits] at h7
          simp only [Bool.or_eq_false_iff, decide_eq_false_iff_not] at h7
          have hne : f ≠ i := fun e => h7.2 e.symm
          exact .inr ⟨old f hf h5, extH_new pn.fs h4 h7.1.1 (by simpa [hne] using h6)⟩
        · exact .inl h4
      refine hK (i + 1) τ _ _ _ (I.next W hd ho hok hm hi hm' (fun j => rfl) (by rw [hs]) hu e2 (by rw [epr]; exact hM) (by omega) (by rw [epr]) ?_ (by rw [epr]; exact hle) (by rw [epr]; exact hbn) ?_)
      rotate_left
      · rw [epr]
        intro f hf
        rw [bits] at hf
        simp only [Bool.or_eq_true, decide_eq_true_eq] at hf ⊢
        rcases hf with (h4 | h4) | h4
        · exact .inl (I.ab f h4)
        · exact .inl (hm' f h4)
        · exact .inr h4.symm
      intro j hj hw'
      by_cases e : j = i
      · subst e; simp
      · simp only [e, decide_false, Bool.or_false]
        rw [I.qw j hj hw']
        constructor
        · omega
        · intro h4
          rcases Nat.lt_or_ge j q with h5 | h5
          · exact h5
          · exact absurd hw' (hnow j h5 (by omega))
    rw [hix] at hv
    generalize hop : opA P o.op (S i).env (extH base (S q).pr.ab (Nat.testBit m) (S q).pr.b (S i).fs) (base + i) = r at hv
    refine op_wp0 hcal rhW I.st.bd I.st.gl hops hσ ?_ ?_ ?_ ?_ ?_
    · intro v' hh u hu
      rw [hop] at hh
      subst hh
      cases hv
      exact fin (M := fun _ => False) (Ext.refl rhW) (fun _ h => h.elim) hu (Nat.le_refl _)
    · intro v' h' hh u w' hu e
      rw [hop] at hh
      subst hh
      cases hv
      exact fin e (fun _ h => h.elim) hu (Nat.le_refl _)
    · intro v' h' hh u w' τ hu e
      rw [hop] at hh
      subst hh
      cases hv
      exact fin e (fun _ h => .inl h) hu (Nat.le_refl _)
    · intro f args hh
      rw [hop] at hh
      subst hh
      cases hv
      rename_i hc
      exact ⟨v, h, nx, hc, fun u w' τ hu e hle => fin e (fun _ h => .inr h) hu hle⟩
    · intro hh
      rw [hop] at hh
      subst hh
      cases hv

end
end Go.Ev

namespace Go.Ev

section
variable {P : Program}
variable {cal : CallF} {ops : Array Oper} {base N : Nat} {env0 : Env} {h0 : H} {S : Nat → DState} {σ0 : Map} {w0 : World}

def cnt (D : Nat → Bool) : Nat → Nat
  | 0 => 0
  | n + 1 => cnt D n + if D n then 0 else 1
theorem cnt_zero {D : Nat → Bool} : ∀ {n : Nat}, cnt D n = 0 → ∀ i, i < n → D i = true
  | n + 1, h, i, hi => by
    unfold cnt at h
    by_cases e : i = n
    · subst e
      cases hd : D i with
      | true => rfl
      | false => rw [hd] at h; simp at h
    · exact cnt_zero (n := n) (by omega) i (by omega)
theorem cnt_put {D : Nat → Bool} {i : Nat} (hd : D i = false) : ∀ {n : Nat}, (n ≤ i → cnt (fun j => D j || decide (j = i)) n = cnt D n) ∧ (i < n → cnt (fun j => D j || decide (j = i)) n + 1 = cnt D n)
  | 0 => ⟨fun _ => rfl, fun h => by omega⟩
  | n + 1 => by
    obtain ⟨h1, h2⟩ := cnt_put (D := D) (i := i) hd (n := n)
    constructor
    · intro h
      have e : n ≠ i := by omega
      simp only [cnt, e, decide_false, Bool.or_false]
      rw [h1 (by omega)]
    · intro h
      by_cases e : n = i
      · subst e
        simp only [cnt, decide_true, Bool.or_true, if_true, hd, Bool.false_eq_true, if_false]
        rw [h1 (Nat.le_refl _)]
      · simp only [cnt, e, decide_false, Bool.or_false]
        have := h2 (by omega)
        omega

theorem ready_nil {ops : Array Oper} (hd : drawOk ops = true) {listed : Array Bool} (hl : listed.size = ops.size) (hr : Region.ready .any ops listed = []) : ∀ i, i < ops.size → listed.getD i false = true := by
  intro i
  induction i using Nat.strongRecOn with
  | _ i ih =>
    intro hi
    cases hc : listed.getD i false with
    | true => rfl
    | false =>
      exfalso
      have hm : i ∈ Region.ready .any ops listed := by
        rw [mem_ready]
        refine ⟨?_, ops[i], Array.getElem?_eq_getElem hi, fun e he hb => ?_⟩
        · simp only [Array.getD, hl, hi, dite_true] at hc ⊢; exact hc
        · have hlt := (drawOk_spec hd).1 i _ (Array.getElem?_eq_getElem hi) e he hb
          exact ih e.on hlt (by omega)
      rw [hr] at hm
      cases hm

theorem draw_run (hcal : CallSound P cal) (W : Way P cal ops base env0 h0 S) (hd : drawOk ops = true) (hok : ops.toList.all (operOk P N) = true) {Q : Exit → Act → World → Prop}
    (hQ : ∀ D q σ env a w, (∀ i, i < ops.size → D i = true) → Inv P ops base N env0 h0 S σ0 w0 D q σ env a w → Q .normal a w) :
    ∀ (fuel : Nat) (listed : Array Bool), listed.size = ops.size → cnt (fun j => listed.getD j false) ops.size ≤ fuel → ∀ q σ env a w, Inv P ops base N env0 h0 S σ0 w0 (fun j => listed.getD j false) q σ env a w →
    wpAny P .any ops Q fuel listed a w
  | 0, listed, hl, hc, q, σ, env, a, w, I => by
    have all := cnt_zero (Nat.le_zero.1 hc)
    refine ⟨?_, hQ _ q σ env a w all I⟩
    cases hr : Region.ready .any ops listed with
    | nil => rfl
    | cons i l =>
      exfalso
      have hm : i ∈ Region.ready .any ops listed := by rw [hr]; exact .head _
      obtain ⟨h1, o, ho, _⟩ := mem_ready.1 hm
      have hi : i < ops.size := (Array.getElem?_eq_some_iff.1 ho).1
      have := all i hi
      simp only [Array.getD, hl, hi, dite_true] at h1 this
      rw [h1] at this
      cases this
  | fuel + 1, listed, hl, hc, q, σ, env, a, w, I => by
    refine ⟨fun hr => hQ _ q σ env a w (ready_nil hd hl hr) I, fun i hm => ?_⟩
    obtain ⟨h1, o, ho, h2⟩ := mem_ready.1 hm
    have hi : i < ops.size := (Array.getElem?_eq_some_iff.1 ho).1
    have hDi : listed.getD i false = false := by simp only [Array.getD, hl, hi, dite_true] at h1 ⊢; exact h1
    have hoo : operOk P N o = true := List.all_eq_true.1 hok _ (by
      have := (Array.getElem?_eq_some_iff.1 ho).2
      rw [← this]
      simp)
    refine I.step hcal W hd ho hoo hDi h2 fun q' τ env' a' w' I' => ?_
    have eD : (fun j => (listed.setIfInBounds i true).getD j false) = fun j => listed.getD j false || decide (j = i) := by
      funext j
      by_cases e : j = i
      · subst e; simp [Array.getD, hl, hi]
      · rw [getD_set_ne false (Ne.symm e)]; simp [e]
    refine draw_run hcal W hd hok hQ fuel _ (by simpa using hl) ?_ q' τ env' a' w' (by rw [eD]; exact I')
    rw [eD]
    have := (cnt_put (D := fun j => listed.getD j false) hDi (n := ops.size)).2 hi
    omega

theorem evDraw_sound (hcal : CallSound P cal) {n : Nat} {ops : Array Oper} (hok : ops.toList.all (operOk P n) = true) (hd : drawOk ops = true) (hm : P.follows .mixedOrders = true) {id : Nat} {σ : Map} {env : Env} {h : H} {nx : Nat} {a : Act} {w : World}
    (s : St P n σ env h nx a w) (hne : evDraw P cal ops nx ops.toList (masks ops.toList []) ⟨0, env, [], ⟨0, 0, h, nx + ops.size⟩, [], []⟩ ≠ .bad) :
    (Code.region id ops true).wp P (RSpost P n σ h nx w (evDraw P cal ops nx ops.toList (masks ops.toList []) ⟨0, env, [], ⟨0, 0, h, nx + ops.size⟩, [], []⟩)) a w := by
  obtain ⟨S, h1, h2, h3⟩ := evDraw_chain _ _ _ hne
  have W : Way P cal ops nx env h S := ⟨h1, fun i o ho => h2 i o (by simpa using ho)⟩
  rw [h3]
  simp only [Array.length_toList]
  refine wp_region_any hm ?_
  have e0 : Ext (Rg nx (nx + ops.size)) σ h w σ h { w with drawn := w.drawn + 1 } := Ext.of_heap s.rh rfl ⟨rfl, rfl, rfl⟩
  have hfalse : ∀ j, (Array.replicate ops.size false).getD j false = false := by
    intro j
    simp only [Array.getD, Array.size_replicate]
    split
    · simp
    · rfl
  have hb : ∀ f, h.get (nx + f) = none := fun f => by
    cases hg : h.get (nx + f) with
    | none => rfl
    | some A =>
      obtain ⟨L, h4, _⟩ := s.rh.blk _ A hg
      rw [s.bd (nx + f) (by omega)] at h4
      cases h4
  have hsub : Sub (extH nx 0 (fun j => (Array.replicate ops.size false).getD j false) h (S ops.size).fs) h := fun k A hk => by
    rcases extH_cases hk with ⟨f, _, _, h4, _⟩ | ⟨h4, _⟩
    · rw [hfalse] at h4; cases h4
    · exact h4
  have I : Inv P ops nx n env h S σ w (fun j => (Array.replicate ops.size false).getD j false) 0 σ env a { w with drawn := w.drawn + 1 } := by
    constructor
    · intro j o t _ _ hD; rw [hfalse] at hD; cases hD
    · intro t _; rfl
    · rw [W.s0]; exact ⟨s.re, (s.rh.sub hsub).of_heap rfl, fun i hi => s.bd i (by simp only at hi; omega), s.gl, s.df, s.sz⟩
    · omega
    · rw [W.s0]
    · intro j _ _
      rw [hfalse]
      simp
    · rw [W.s0]; exact e0.sub s.rh hsub fun k A h1 _ => (extH_old fun f B _ _ h4 => by rw [hfalse] at h4; cases h4).trans h1
    · rw [W.s0]; exact Nat.le_refl _
    · intro i _ _; exact s.bd _ (by omega)
    · intro f _ _; rw [W.s0]; exact hb f
    · intro f hf; rw [W.s0] at hf; simp at hf
    · intro i m hD; rw [hfalse] at hD; cases hD
  refine draw_run hcal W hd hok ?_ ops.size (Array.replicate ops.size false) (by simp) ?_ 0 σ env a _ I
  · intro D q τ env' a' w' all J
    have hnow : ∀ j, q ≤ j → j < ops.size → ¬ IsW S j := fun j h4 h5 h6 => by
      have := (J.qw j h5 h6).1 (all j h5)
      omega
    have hpr := (W.pr_same ops.size J.qn (Nat.le_refl _) hnow).1
    have hs : Sub (extH nx (S ops.size).pr.ab (fun _ => true) (S ops.size).pr.b (S ops.size).fs) (extH nx (S q).pr.ab D (S q).pr.b (S ops.size).fs) := by
      rw [hpr]
      exact J.subs W fun f A hf _ _ => ⟨hf, all f ((W.plain ops.size (Nat.le_refl _)).fl f A hf)⟩
    have hs2 : ∀ k A, (extH nx (S q).pr.ab D (S q).pr.b (S ops.size).fs).get k = some A → A.ro = true → (extH nx (S ops.size).pr.ab (fun _ => true) (S ops.size).pr.b (S ops.size).fs).get k = some A := fun k A h1 _ => by
      rw [hpr]
      exact J.subs W (sel := D) (sel' := fun _ => true) (fun f A hf _ _ => ⟨hf, rfl⟩) k A h1
    have st := J.st
    rw [hpr]
    rw [hpr] at hs hs2
    refine ⟨rfl, τ, J.ext.sub s.rh hs hs2, by have := J.nx; omega, ⟨fun t => ?_, J.st.rh.sub hs, J.st.bd, J.st.gl, J.st.df, J.st.sz⟩⟩
    have ht := J.st.re t
    have : env'.get t = (S ops.size).env.get t := by
      by_cases hex : ∃ (j : Nat) (oj : Oper), ops[j]? = some oj ∧ oj.dst = some t
      · obtain ⟨j, oj, hj, hdj⟩ := hex
        exact J.en j oj t hj hdj (all j (Array.getElem?_eq_some_iff.1 hj).1)
      · rw [J.e0 t fun k ok hk hdk => absurd ⟨k, ok, hk, hdk⟩ hex, W.env_old (k := 0) ops.size (by omega) (Nat.le_refl _) fun k ok _ _ hk hdk => hex ⟨k, ok, hk, hdk⟩, W.s0]
    rw [this] at ht
    exact ht
  · have : ∀ k, cnt (fun j => (Array.replicate ops.size false).getD j false) k = k := by
      intro k
      induction k with
      | zero => rfl
      | succ k ih => unfold cnt; rw [ih, hfalse]; simp
    rw [this]
    exact Nat.le_refl _

end
end Go.Ev

namespace Go.Ev

section
variable {P : Program}

theorem then_of {n : Nat} {σ : Map} {h : H} {nx : Nat} {w : World} {r : RS} {Q : Exit → Act → World → Prop} {K : Act → World → Prop} {e : Exit} {a' : Act} {w' : World}
    (hp : RSpost P n σ h nx w r e a' w') (hn : ∀ env' h' nx', r = .norm env' h' nx' → RSpost P n σ h nx w r .normal a' w' → K a' w')
    (hq : (∀ env' h' nx', r ≠ .norm env' h' nx') → Q e a' w') : Exit.then K Q e a' w' := by
  cases r with
  | norm env' h' nx' =>
    have he := hp.1
    subst he
    exact hn env' h' nx' rfl hp
  | exit id env' h' nx' =>
    have he := hp.1
    subst he
    exact hq (fun _ _ _ => RS.noConfusion)
  | ret env' h' nx' =>
    have he := hp.1
    subst he
    exact hq (fun _ _ _ => RS.noConfusion)
  | bad => exact hp.elim

theorem rounds_mono {P : Program} {c : Code} {Q Q' : Exit → Act → World → Prop} (hq : ∀ e a w, Q e a w → Q' e a w) : ∀ n a w, Code.rounds P c Q n a w → Code.rounds P c Q' n a w
  | 0, _, _, h => h
  | n + 1, a, w, h => by
    rw [rounds_succ] at h ⊢
    refine wp_mono h fun e a' w' hp => ?_
    cases e with
    | normal => exact rounds_mono hq n a' w' hp
    | _ => exact hq _ _ _ hp

theorem evC_both {cal : CallF} (hcal : CallSound P cal) {n : Nat} : ∀ f : Nat,
    (∀ (c : Code), codeOk P n c = true → ∀ (σ : Map) (env : Env) (h : H) (nx : Nat) (a : Act) (w : World), St P n σ env h nx a w → evC P cal f c env h nx ≠ .bad → c.wp P (RSpost P n σ h nx w (evC P cal f c env h nx)) a w) ∧
    (∀ (c : Code), codeOk P n c = true → ∀ (σ : Map) (env : Env) (h : H) (nx : Nat) (a : Act) (w : World), St P n σ env h nx a w → evC P cal f (.loop c) env h nx ≠ .bad → Code.rounds P c (RSpost P n σ h nx w (evC P cal f (.loop c) env h nx)) f a w)
  | 0 => ⟨fun _ _ _ _ _ _ _ _ _ hne => absurd rfl hne, fun _ _ _ _ _ _ _ _ _ hne => absurd rfl hne⟩
  | f + 1 => by
    obtain ⟨ih, il⟩ := evC_both hcal (n := n) f
    have loop : ∀ (c : Code), codeOk P n c = true → ∀ (σ : Map) (env : Env) (h : H) (nx : Nat) (a : Act) (w : World), St P n σ env h nx a w → evC P cal (f + 1) (.loop c) env h nx ≠ .bad →
        Code.rounds P c (RSpost P n σ h nx w (evC P cal (f + 1) (.loop c) env h nx)) (f + 1) a w := by
      intro c hc σ env h nx a w s hne
      rw [rounds_succ]
      unfold evC at hne ⊢
      simp only at hne ⊢
      have hne1 : evC P cal f c env h nx ≠ .bad := fun e => by rw [e] at hne; exact hne rfl
      refine wp_mono (ih c hc σ env h nx a w s hne1) fun e a' w' hp => ?_
      refine then_of hp (fun env' h' nx' hr hp' => ?_) (fun hnn => ?_)
      · rw [hr] at hp' hne ⊢
        obtain ⟨_, τ, e1, hle, s'⟩ := hp'
        have := il c hc τ env' h' nx' a' w' s' hne
        exact rounds_mono (fun e a'' w'' hp'' => RSpost.trans e1 hle hp'') f a' w' this
      · generalize evC P cal f c env h nx = r at hp hnn ⊢
        cases r with
        | norm env' h' nx' => exact absurd rfl (hnn env' h' nx')
        | _ => exact hp
    refine ⟨fun c hc σ env h nx a w s hne => ?_, loop⟩
    cases c with
    | skip => exact wp_skip ⟨rfl, σ, Ext.refl s.rh, Nat.le_refl _, s⟩
    | label l => exact wp_label ⟨rfl, σ, Ext.refl s.rh, Nat.le_refl _, s⟩
    | ret => exact wp_ret ⟨rfl, σ, Ext.refl s.rh, Nat.le_refl _, s⟩
    | exit id => exact wp_exit ⟨rfl, σ, Ext.refl s.rh, Nat.le_refl _, s⟩
    | seq x y =>
      simp only [codeOk, Bool.and_eq_true] at hc
      unfold evC at hne ⊢
      simp only at hne ⊢
      have hne1 : evC P cal f x env h nx ≠ .bad := fun e => by rw [e] at hne; exact hne rfl
      refine wp_seq (wp_mono (ih x hc.1 σ env h nx a w s hne1) fun e a' w' hp => ?_)
      refine then_of hp (fun env' h' nx' hr hp' => ?_) (fun hnn => ?_)
      · rw [hr] at hp' hne ⊢
        obtain ⟨_, τ, e1, hle, s'⟩ := hp'
        exact wp_mono (ih y hc.2 τ env' h' nx' a' w' s' hne) fun e a'' w'' hp'' => RSpost.trans e1 hle hp''
      · generalize evC P cal f x env h nx = r at hp hnn ⊢
        cases r with
        | norm env' h' nx' => exact absurd rfl (hnn env' h' nx')
        | _ => exact hp
    | cond c x y =>
      simp only [codeOk, Bool.and_eq_true] at hc
      unfold evC at hne ⊢
      have hr := rd_rel s.re s.gl hc.1.1
      simp only at hne ⊢
      split at hne
      · rename_i hb
        rw [hb] at hr
        generalize hv : a.eval c = v at hr
        cases hr
        exact wp_cond_true hv (ih x hc.1.2 σ env h nx a w s hne)
      · rename_i hb
        rw [hb] at hr
        generalize hv : a.eval c = v at hr
        cases hr
        exact wp_cond_false hv (ih y hc.2 σ env h nx a w s hne)
      · exact absurd rfl hne
    | block id x =>
      simp only [codeOk] at hc
      unfold evC at hne ⊢
      simp only at hne ⊢
      have hne1 : evC P cal f x env h nx ≠ .bad := fun e => by rw [e] at hne; exact hne rfl
      refine wp_block (wp_mono (ih x hc σ env h nx a w s hne1) fun e a' w' hp => ?_)
      generalize evC P cal f x env h nx = r at hp
      cases r with
      | exit id' env' h' nx' =>
        obtain ⟨he, rest⟩ := hp
        subst he
        simp only [Exit.inBlock, beq_dec]
        by_cases ei : id' = id
        · subst ei
          simp only [if_true, decide_true, cond_true]
          exact ⟨rfl, rest⟩
        · have e2 : ¬ id = id' := fun h => ei h.symm
          simp only [ei, e2, if_false, decide_false, cond_false]
          exact ⟨rfl, rest⟩
      | norm env' h' nx' =>
        have he := hp.1
        subst he
        exact hp
      | ret env' h' nx' =>
        have he := hp.1
        subst he
        exact hp
      | bad => exact hp.elim
    | loop c =>
      simp only [codeOk] at hc
      exact wp_loop_rounds (f + 1) (loop c hc σ env h nx a w s hne)
    | scope x =>
      simp only [codeOk] at hc
      unfold evC at hne ⊢
      simp only at hne ⊢
      refine wp_scope_straight (wp_mono (ih x hc σ env h nx a w s hne) fun e a' w' hp => ?_)
      generalize evC P cal f x env h nx = r at hp
      cases r with
      | exit id' env' h' nx' =>
        have he := hp.1
        subst he
        exact hp
      | norm env' h' nx' =>
        have he := hp.1
        subst he
        exact hp
      | ret env' h' nx' =>
        have he := hp.1
        subst he
        exact hp
      | bad => exact hp.elim
    | region id ops draw =>
      simp only [codeOk] at hc
      cases draw with
      | false =>
        unfold evC at hne ⊢
        refine wp_region ?_
        have := evOps_sound hcal hc ops.size 0 (by omega) σ env h nx a w s (by simpa using hne)
        rw [List.range_eq_range']
        simpa using this
      | true =>
        unfold evC at hne ⊢
        simp only at hne ⊢
        cases hd : (drawOk ops && P.follows .mixedOrders) with
        | false => rw [hd] at hne; exact absurd rfl hne
        | true =>
          rw [hd, cond_true] at hne
          rw [cond_true]
          simp only [Bool.and_eq_true] at hd
          exact evDraw_sound hcal hc hd.1 hd.2 s hne
    | _ => exact absurd rfl hne

def resM (tmps : Array Value) : ResultVar → Sem Value
  | .tmp t => pure (tmps.getD t undef)
  | .cell a t => do loadVar t (← asAddr (tmps.getD a undef))
theorem ld_ptr {σ : Map} {h : H} {t : TypeId} {A v : AV} {x : Value} (hv : ld P h t A = some v) (hb : RV σ A x) : ∃ p, x = .pointer (some p) := by
  unfold ld at hv
  split at hv
  · cases hb
    exact ⟨_, rfl⟩
  · cases hv
theorem resA_run {σ : Map} {env : Env} {h : H} {tmps : Array Value} {w : World} (re : RE σ env tmps) (rh : RH σ h w) : ∀ (l : List ResultVar) (r : List AV), resA P env h l = some r →
    ∃ vs, (l.mapM (resM tmps)).run P w = .ok vs w ∧ RVs σ r vs
  | [], r, hr => by cases hr; exact ⟨[], by simp [resM], .nil⟩
  | .tmp t :: l, r, hr => by
    unfold resA at hr
    split at hr
    · rename_i r' hr'
      cases hr
      obtain ⟨vs, h1, h2⟩ := resA_run re rh l r' hr'
      exact ⟨tmps.getD t undef :: vs, by simp [resM, h1], .cons _ _ _ _ (re t) h2⟩
    · cases hr
  | .cell b t :: l, r, hr => by
    unfold resA at hr
    split at hr
    · rename_i v r' hv hr'
      cases hr
      obtain ⟨vs, h1, h2⟩ := resA_run re rh l r' hr'
      have hb := re b
      obtain ⟨u, h3, h4⟩ := ld_run (P := P) rh hv hb
      refine ⟨u :: vs, ?_, .cons _ _ _ _ h4 h2⟩
      generalize hx : tmps.getD b undef = x at hb h3
      have hp : ∃ p, x = .pointer (some p) := ld_ptr hv hb
      obtain ⟨p, rfl⟩ := hp
      have h5 : (loadVar t p).run P w = .ok u w := by simpa [Instr.loadAt, Instr.sureAddr] using h3
      have h6 : (resM tmps (.cell b t)).run P w = .ok u w := by
        simp only [resM, hx, asAddr]
        simpa using h5
      simp [h6, h1]
    · cases hr

theorem results_eq (fn : Func) (tmps : Array Value) : results fn tmps = (do
    let vs ← fn.results.mapM (resM tmps)
    pure (if h : vs.size = 1 then vs[0] else .tuple vs)) := by
  unfold results
  congr 1

theorem retA_run {fn : Func} {σ : Map} {env : Env} {h : H} {nx nx' : Nat} {tmps : Array Value} {w : World} {v : AV} {h' : H} (re : RE σ env tmps) (rh : RH σ h w) (hr : retA P fn env h nx = .ok v h' nx') :
    h' = h ∧ nx' = nx ∧ ∃ u, (results fn tmps).run P w = .ok u w ∧ RV σ v u := by
  unfold retA at hr
  have key : ∀ r, resA P env h fn.results.toList = some r → ∃ vs, RVs σ r vs ∧ (results fn tmps).run P w = .ok (if h : vs.toArray.size = 1 then vs.toArray[0] else .tuple vs.toArray) w := by
    intro r hr
    obtain ⟨vs, h1, h2⟩ := resA_run re rh _ r hr
    refine ⟨vs, h2, ?_⟩
    rw [results_eq, Array.mapM_eq_mapM_toList]
    simp [h1]
  split at hr
  · rename_i v' hv
    cases hr
    obtain ⟨vs, h1, h2⟩ := key _ hv
    refine ⟨rfl, rfl, ?_⟩
    cases h1 with
    | cons _ u _ m h3 h4 =>
      cases h4
      exact ⟨u, by simpa using h2, h3⟩
  · rename_i vs' hne hv
    cases hr
    obtain ⟨vs, h1, h2⟩ := key _ hv
    refine ⟨rfl, rfl, ?_⟩
    have hl := h1.length
    have : vs.toArray.size ≠ 1 := by
      simp only [List.size_toArray]
      intro e
      rw [e] at hl
      obtain ⟨x, hx⟩ := List.length_eq_one_iff.1 hl
      exact hne x hx
    exact ⟨.tuple vs.toArray, by rw [h2, dif_neg this], .tup _ _ (by simpa using h1)⟩
  · cases hr

theorem envOf_get : ∀ (l : List AV) (i : Nat) (env : Env) (t : Nat), (envOf l i env).get t = if i ≤ t ∧ t < i + l.length then l[t - i]? else env.get t
  | [], i, env, t => by
    rw [if_neg (by simp only [List.length_nil]; omega)]
    rfl
  | v :: l, i, env, t => by
    unfold envOf
    rw [envOf_get l (Nat.succ i)]
    simp only [List.length_cons]
    by_cases h1 : t = i
    · subst h1
      rw [if_neg (by omega), if_pos (by omega), Tr.get_set]
      simp
    · by_cases h2 : Nat.succ i ≤ t ∧ t < Nat.succ i + l.length
      · rw [if_pos h2, if_pos (by omega)]
        have : t - i = (t - Nat.succ i) + 1 := by omega
        rw [this]
        simp
      · rw [if_neg h2, if_neg (by omega), Tr.get_set, if_neg h1]

theorem envOf_re {σ : Map} {l : List AV} {vs : List Value} (h : RVs σ l vs) (n : Nat) : RE σ (envOf l 0 .e) (vs.toArray ++ Array.replicate n undef) := by
  intro t
  rw [envOf_get]
  simp only [Nat.zero_le, true_and, Nat.zero_add, Nat.sub_zero]
  have hl := h.length
  by_cases ht : t < l.length
  · rw [if_pos ht]
    have h1 : l[t]? = some l[t] := List.getElem?_eq_getElem ht
    obtain ⟨v, h2, h3⟩ := h.get h1
    rw [h1]
    simp only
    have : (vs.toArray ++ Array.replicate n undef).getD t undef = v := by
      rw [Array.getD_eq_getD_getElem?, Array.getElem?_append_left (by simp; omega)]
      simp [h2]
    rw [this]
    exact h3
  · rw [if_neg ht, Tr.get_e]
    simp only
    have : (vs.toArray ++ Array.replicate n undef).getD t undef = undef := by
      rw [Array.getD_eq_getD_getElem?, Array.getElem?_append_right (by simp; omega)]
      simp only [List.size_toArray, Array.getElem?_replicate]
      split <;> rfl
    rw [this]
    exact .undef

def OvrSound (P : Program) (X : Ovr) : Prop := CallSound P fun f args h nx => match X f with | some k => k args h nx | none => .bad

def noCount (P : Program) : Bool := P.funcs.toList.all fun fn => fn.body.isNone || !(fn.name == "runtime.NumGoroutine")

theorem evCall_sound {X : Ovr} (hX : OvrSound P X) (hc : noCount P = true) : ∀ n, CallSound P (evCall P X n)
  | 0 => fun f args h nx v h' nx' hr => by cases hr
  | n + 1 => by
    have ih := evCall_sound hX hc n
    intro f args h nx v h' nx' hr σ w vs rh bd gl hvs
    unfold evCall at hr
    split at hr
    · rename_i k hk
      exact hX f args h nx v h' nx' (by simp only [hk]; exact hr) σ w vs rh bd gl hvs
    · split at hr
      · cases hr
      · rename_i fn hf
        split at hr
        · cases hr
        · rename_i c hb
          cases hok : codeOk P fn.ntmps c with
          | false => rw [hok] at hr; cases hr
          | true =>
            rw [hok, cond_true] at hr
            have hname : (fn.name == "runtime.NumGoroutine") = false := by
              have := List.all_eq_true.1 hc fn (by
                have := (Array.getElem?_eq_some_iff.1 hf).2
                rw [← this]
                simp)
              simpa [hb] using this
            have hent : (callFunc f vs.toArray).run P w = .ok (.enter f vs.toArray) w := by
              have h1 : fn.name ≠ "runtime.NumGoroutine" := by simpa using hname
              simp [callFunc, hf, h1, hb]
            refine .inl ⟨hent, calls_of_wp hf hb ?_⟩
            have s : St P fn.ntmps σ (envOf args 0 .e) h nx { tmps := vs.toArray ++ Array.replicate (fn.ntmps - vs.toArray.size) undef, defers := [] } w :=
              ⟨envOf_re hvs _, rh, bd, gl, rfl, by simp; omega⟩
            have hne : evC P (evCall P X n) n c (envOf args 0 .e) h nx ≠ .bad := fun e => by rw [e] at hr; cases hr
            refine wp_mono ((evC_both ih n).1 c hok σ _ h nx _ w s hne) fun e a' w' hp => ?_
            generalize evC P (evCall P X n) n c (envOf args 0 .e) h nx = r at hp hr
            cases r with
            | norm env1 h1 nx1 =>
              obtain ⟨he, τ, e1, hle, s1⟩ := hp
              subst he
              obtain ⟨k1, k2, u, k3, k4⟩ := retA_run s1.re s1.rh hr
              subst k1 k2
              exact ⟨s1.df, u, k3, u, rfl, τ, e1, hle, k4⟩
            | ret env1 h1 nx1 =>
              obtain ⟨he, τ, e1, hle, s1⟩ := hp
              subst he
              obtain ⟨k1, k2, u, k3, k4⟩ := retA_run s1.re s1.rh hr
              subst k1 k2
              exact ⟨s1.df, u, k3, u, rfl, τ, e1, hle, k4⟩
            | exit id env1 h1 nx1 => cases hr
            | bad => exact hp.elim

end
end Go.Ev

namespace Go.Ev

abbrev Ent := List AV → H → Nat → CR
def ovr : List (Nat × Ent) → Ovr
  | [] => fun _ => none
  | p :: l => fun f => bif Nat.beq f p.1 then some p.2 else ovr l f

def EntryOk (P : Program) (f : FuncId) (k : Ent) : Prop :=
  ∀ args h nx v h' nx', k args h nx = .ok v h' nx' → ∀ σ w (vs : List Value), RH σ h w → Bd σ nx → GlobOk P σ → RVs σ args vs →
    CallOk P f vs.toArray w (fun u w' => ∃ σ', Ext (Rg nx nx') σ h w σ' h' w' ∧ nx ≤ nx' ∧ RV σ' v u)

theorem ovr_sound {P : Program} : ∀ {l : List (Nat × Ent)}, (∀ p ∈ l, EntryOk P p.1 p.2) → OvrSound P (ovr l)
  | [], _ => fun f args h nx v h' nx' hr => by cases hr
  | p :: l, hl => fun f args h nx v h' nx' hr => by
    unfold ovr at hr
    dsimp only at hr
    rw [beq_dec] at hr
    by_cases e : f = p.1
    · subst e
      simp only [decide_true, cond_true] at hr
      exact hl p (.head _) args h nx v h' nx' hr
    · simp only [e, decide_false, cond_false] at hr
      exact ovr_sound (fun q hq => hl q (.tail _ hq)) f args h nx v h' nx' hr

theorem EntryOk.of_eval {P : Program} {X : Ovr} (hX : OvrSound P X) (hc : noCount P = true) {f : FuncId} {k : Ent}
    (hk : ∀ args h nx v h' nx', k args h nx = .ok v h' nx' → ∃ n, evCall P X n f args h nx = .ok v h' nx') : EntryOk P f k := by
  intro args h nx v h' nx' hr
  obtain ⟨n, hn⟩ := hk args h nx v h' nx' hr
  exact evCall_sound hX hc n f args h nx v h' nx' hn

section
variable {P : Program}

def intA : Option Nat → AV
  | some n => .int .i64 (.ofNat n)
  | none => .int .i64 (.negSucc 0)
def idxB (c : Nat) : List Nat → Nat → Option Nat
  | [], _ => none
  | x :: l, i => bif Nat.beq x c then some i else idxB c l (Nat.succ i)
def cntB (c : Nat) : List Nat → Nat → Nat
  | [], n => n
  | x :: l, n => cntB c l (bif Nat.beq x c then Nat.succ n else n)
def isPre : List Nat → List Nat → Bool
  | [], _ => true
  | _ :: _, [] => false
  | a :: l, b :: m => bif Nat.beq a b then isPre l m else false
def idxS (p : List Nat) : List Nat → Nat → Option Nat
  | [], i => (match p with | [] => some i | _ => none)
  | x :: l, i => bif isPre p (x :: l) then some i else idxS p l (Nat.succ i)

theorem u8_eq (x : UInt8) (c : Nat) (hc : c < 256) : Nat.beq x.toNat c = (x == UInt8.ofNat c) := by
  rw [beq_dec, Bool.eq_iff_iff]
  simp only [decide_eq_true_eq, beq_iff_eq]
  constructor
  · intro h; rw [← h]; simp
  · intro h; rw [h]; simp; omega

theorem idxB_eq (c : Nat) (hc : c < 256) : ∀ (l : List UInt8) (i : Nat), intA (idxB c (l.map (·.toNat)) i) = .int .i64 (if Lib.indexByte l (UInt8.ofNat c) = -1 then -1 else Lib.indexByte l (UInt8.ofNat c) + i)
  | [], i => rfl
  | x :: l, i => by
    simp only [List.map_cons, idxB, u8_eq x c hc, Lib.indexByte]
    rcases Bool.eq_false_or_eq_true (x == UInt8.ofNat c) with hx | hx
    · simp only [hx, cond_true, if_true, intA]
      simp
    · simp only [hx, cond_false, Bool.false_eq_true, if_false]
      rw [idxB_eq c hc l (Nat.succ i)]
      have := Lib.indexByte_ge l (UInt8.ofNat c)
      by_cases e : Lib.indexByte l (UInt8.ofNat c) = -1
      · simp [e]
      · have e2 : (Lib.indexByte l (UInt8.ofNat c) == -1) = false := by simpa using e
        simp only [e, e2, if_false, Bool.false_eq_true]
        rw [if_neg (by omega)]
        congr 1
        simp only [Nat.succ_eq_add_one, Int.natCast_add]
        omega
theorem cntB_eq (c : Nat) (hc : c < 256) : ∀ (l : List UInt8) (n : Nat), cntB c (l.map (·.toNat)) n = n + Lib.countByte l (UInt8.ofNat c)
  | [], n => by simp [cntB, Lib.countByte]
  | x :: l, n => by
    simp only [List.map_cons, cntB, u8_eq x c hc]
    rw [cntB_eq c hc l]
    simp only [Lib.countByte, List.count_cons]
    cases hx : (x == UInt8.ofNat c) <;> simp <;> omega
theorem isPre_eq : ∀ (p l : List UInt8), isPre (p.map (·.toNat)) (l.map (·.toNat)) = p.isPrefixOf l
  | [], l => by simp [isPre]
  | a :: p, [] => rfl
  | a :: p, b :: l => by
    simp only [List.map_cons, isPre, List.isPrefixOf, isPre_eq p l, beq_dec]
    have : (a == b) = decide (a.toNat = b.toNat) := by
      rw [Bool.eq_iff_iff]; simp [UInt8.toNat_inj]
    rw [this]
    cases decide (a.toNat = b.toNat) <;> rfl
theorem idxS_eq (p : List UInt8) : ∀ (l : List UInt8) (i : Nat), intA (idxS (p.map (·.toNat)) (l.map (·.toNat)) i) = .int .i64 (if Lib.index l p = -1 then -1 else Lib.index l p + i)
  | [], i => by
    cases p with
    | nil => simp [idxS, intA, Lib.index]
    | cons a p => simp [idxS, intA, Lib.index]
  | x :: l, i => by
    have hp := isPre_eq p (x :: l)
    simp only [List.map_cons] at hp
    simp only [List.map_cons, idxS, hp, Lib.index]
    rcases Bool.eq_false_or_eq_true (p.isPrefixOf (x :: l)) with hx | hx
    · simp only [hx, cond_true, if_true, intA]
      simp
    · simp only [hx, cond_false, Bool.false_eq_true, if_false]
      rw [idxS_eq p l (Nat.succ i)]
      have := Lib.index_ge l p
      by_cases e : Lib.index l p = -1
      · simp [e]
      · have e2 : (Lib.index l p == -1) = false := by simpa using e
        simp only [e, e2, if_false, Bool.false_eq_true]
        rw [if_neg (by omega)]
        congr 1
        simp only [Nat.succ_eq_add_one, Int.natCast_add]
        omega

def kNoEsc : Ent := fun args h nx => match args with
  | [.ptr b o] => .ok (.ptr b o) h nx
  | _ => .bad
def kIdxByte : Ent := fun args h nx => match args with
  | [.str s, .int .u8 (.ofNat c)] => bif Nat.blt c 256 then .ok (intA (idxB c s 0)) h nx else .bad
  | _ => .bad
def kCount : Ent := fun args h nx => match args with
  | [.str s, .int .u8 (.ofNat c)] => bif Nat.blt c 256 then .ok (.int .i64 (.ofNat (cntB c s 0))) h nx else .bad
  | _ => .bad
def kIndex (g : Nat) : Ent := fun args h nx => match args with
  | [.str s, .str p] => (match h.get g with
    | some (.cells (.int .i64 _ :: _) _ _ _) => bif Nat.blt (len s) 4294967281 then .ok (intA (idxS p s 0)) h nx else .bad
    | _ => .bad)
  | _ => .bad

structure IsExt (P : Program) (f : FuncId) (e : Array Value → Sem Value) : Prop where
  run : ∀ args w, (callFunc f args).run P w = ((e args).run P w).andThen fun v w' => .ok (.value v) w'

theorem kNoEsc_ok {f : FuncId} (he : IsExt P f Extern.AbiNoEscape.same) : EntryOk P f kNoEsc := by
  intro args h nx v h' nx' hr σ w vs rh bd gl hvs
  unfold kNoEsc at hr
  split at hr
  · cases hr
    cases hvs with | cons _ x _ m hx hm =>
    cases hm
    exact .inr ⟨x, w, by rw [he.run, Lib.run_noEscape]; rfl, σ, Ext.refl rh, Nat.le_refl _, hx⟩
  · cases hr
theorem ofBytes_eq (s : ByteArray) : ofBytes s = s.data.toList.map (·.toNat) := rfl
theorem kIdxByte_ok {f : FuncId} (he : IsExt P f Extern.BytealgIndexByte.indexByte) : EntryOk P f kIdxByte := by
  intro args h nx v h' nx' hr σ w vs rh bd gl hvs
  unfold kIdxByte at hr
  split at hr
  · rename_i s c
    rw [blt_dec] at hr
    by_cases hc : c < 256
    · simp only [hc, decide_true, cond_true] at hr
      cases hr
      cases hvs with | cons _ x _ m hx hm =>
      cases hm with | cons _ y _ m' hy hm' =>
      cases hm'
      cases hy
      cases hx with | str _ b hb =>
      refine .inr ⟨.int .i64 (Lib.indexByte b.data.toList (UInt8.ofNat c)), w, ?_, σ, Ext.refl rh, Nat.le_refl _, ?_⟩
      · rw [he.run, Lib.run_indexByteString]
        rfl
      · rw [← hb, ofBytes_eq, idxB_eq c hc]
        have e : (if Lib.indexByte b.data.toList (UInt8.ofNat c) = -1 then (-1 : Int) else Lib.indexByte b.data.toList (UInt8.ofNat c) + (0 : Nat)) = Lib.indexByte b.data.toList (UInt8.ofNat c) := by
          split <;> omega
        rw [e]
        exact .int _ _
    · simp [hc] at hr
  · cases hr
theorem kCount_ok {f : FuncId} (he : IsExt P f Extern.BytealgCount.count) : EntryOk P f kCount := by
  intro args h nx v h' nx' hr σ w vs rh bd gl hvs
  unfold kCount at hr
  split at hr
  · rename_i s c
    rw [blt_dec] at hr
    by_cases hc : c < 256
    · simp only [hc, decide_true, cond_true] at hr
      cases hr
      cases hvs with | cons _ x _ m hx hm =>
      cases hm with | cons _ y _ m' hy hm' =>
      cases hm'
      cases hy
      cases hx with | str _ b hb =>
      refine .inr ⟨.int .i64 (Lib.countByte b.data.toList (UInt8.ofNat c)), w, ?_, σ, Ext.refl rh, Nat.le_refl _, ?_⟩
      · rw [he.run, Lib.run_countString]
        rfl
      · rw [← hb, ofBytes_eq, cntB_eq c hc, Nat.zero_add]
        exact .int _ _
    · simp [hc] at hr
  · cases hr

theorem kIndex_ok {f : FuncId} {g : Nat} {ρ : Shelf.Ren} (L : Go.Proofs.Lays.n219 P ρ) (hf : ρ.f 219 = f) (hg : ρ.g 1 = g) (hlt : g < P.globals.size) : EntryOk P f (kIndex g) := by
  intro args h nx v h' nx' hr σ w vs rh bd gl hvs
  unfold kIndex at hr
  split at hr
  · rename_i s p
    split at hr
    · rename_i m l e fz raw hb
      rw [blt_dec] at hr
      by_cases hs : len s < 4294967281
      · rw [decide_eq_true hs, cond_true] at hr
        cases hr
        cases hvs with | cons _ x _ m1 hx hm =>
        cases hm with | cons _ y _ m' hy hm' =>
        cases hm'
        cases hx with | str _ b hb1 =>
        cases hy with | str _ b' hb2 =>
        obtain ⟨xx, hL⟩ := gl g hlt
        obtain ⟨c, lo, hi, hh, _, _, hv, _⟩ := rh.cells hb hL
        obtain ⟨u, hu, hru⟩ := hv 0 _ rfl
        cases hru
        have hcell : w.cell? ⟨ρ.g 1, 0, none⟩ = some (.int .i64 m) := by rw [hg, cell?_eq hh]; exact hu
        have hsz : b.size < 4294967281 := by
          rw [len_eq, ← hb1, ofBytes_length] at hs
          exact hs
        have hc := Go.Proofs.Any.stringslite_Index L b b' m w hsz hcell
        rw [hf] at hc
        have hent : (callFunc f #[.string b, .string b']).run P w = .ok (.enter f #[.string b, .string b']) w := by
          have := Go.Proofs.enters_of L.f219 (by kernel_rfl) rfl #[.string b, .string b'] w
          rw [hf] at this
          exact this
        refine .inl ⟨hent, hc.mono ?_⟩
        rintro e w' ⟨rfl, rfl⟩
        refine ⟨_, rfl, σ, Ext.refl rh, Nat.le_refl _, ?_⟩
        rw [← hb1, ← hb2, ofBytes_eq, ofBytes_eq, idxS_eq]
        have e : (if Lib.index b.data.toList b'.data.toList = -1 then (-1 : Int) else Lib.index b.data.toList b'.data.toList + (0 : Nat)) = Lib.index b.data.toList b'.data.toList := by
          split <;> omega
        rw [e]
        exact .int _ _
      · simp [hs] at hr
    · cases hr
  · cases hr

end
end Go.Ev

namespace Go.Ev
open Go.RowKit

section
variable {P : Program}

structure Tab where
  g : Nat
  l : List AV
  e : TypeId

def Tab.blk (t : Tab) : AB := .cells t.l t.e (Nat.succ (len t.l)) true
def tabs : List Tab → H → H
  | [], h => h
  | t :: r, h => (tabs r h).set t.g t.blk

def isInt : AV → Bool
  | .int _ _ => true
  | _ => false
structure TabOk (P : Program) (W : World) (t : Tab) : Prop where
  lt : t.g < P.globals.size
  blk : ∃ c : Array Value, W.heap[t.g]? = some (.cells c t.e (0, 0)) ∧ t.l.length ≤ c.size ∧ ∀ (i : Nat) (a : AV), t.l[i]? = some a → ∃ k n, a = AV.int k n ∧ c[i]? = some (Value.int k n)

theorem tabs_get : ∀ {L : List Tab} {h : H} {i : Nat} {A : AB}, (tabs L h).get i = some A → (∃ t : Tab, t ∈ L ∧ i = t.g ∧ A = t.blk) ∨ ((∀ t ∈ L, i ≠ t.g) ∧ h.get i = some A)
  | [], h, i, A, e => .inr ⟨fun t (ht : t ∈ ([] : List Tab)) => absurd ht (List.not_mem_nil), e⟩
  | t :: L, h, i, A, e => by
    unfold tabs at e
    rw [Tr.get_set] at e
    by_cases hi : i = t.g
    · simp only [hi, if_true, Option.some.injEq] at e
      exact .inl ⟨t, .head _, hi, e.symm⟩
    · simp only [hi, if_false] at e
      rcases tabs_get e with ⟨u, h1, h2⟩ | ⟨h1, h2⟩
      · exact .inl ⟨u, .tail _ h1, h2⟩
      · refine .inr ⟨fun u hu => ?_, h2⟩
        rcases List.mem_cons.1 hu with rfl | hu
        · exact hi
        · exact h1 u hu

def lenAt : List Tab → Nat → Nat
  | [], _ => 0
  | t :: L, i => if i = t.g then t.l.length else lenAt L i
def mapOf (P : Program) (L : List Tab) : Map := fun i => if i < P.globals.size then some ⟨i, 0, lenAt L i⟩ else none

theorem tab_ro (t : Tab) : t.blk.ro = true := by
  show Nat.blt (len t.l) (Nat.succ (len t.l)) = true
  rw [blt_dec]
  simp

theorem start_ok {W : World} {L : List Tab} (hs : P.globals.size ≤ W.heap.size) (hnd : (L.map (·.g)).Nodup) (hL : ∀ t ∈ L, TabOk P W t) :
    RH (mapOf P L) (tabs L .e) W ∧ Bd (mapOf P L) P.globals.size ∧ GlobOk P (mapOf P L) := by
  have hmap : ∀ i, i < P.globals.size → mapOf P L i = some ⟨i, 0, lenAt L i⟩ := fun i hi => if_pos hi
  have hlen : ∀ {L : List Tab}, (L.map (·.g)).Nodup → ∀ t ∈ L, lenAt L t.g = t.l.length := by
    intro L hnd
    induction L with
    | nil => intro t ht; cases ht
    | cons u L ih =>
      intro t ht
      rw [List.map_cons, List.nodup_cons] at hnd
      rcases List.mem_cons.1 ht with rfl | h1
      · simp [lenAt]
      · have hne : t.g ≠ u.g := fun e => hnd.1 (by rw [← e]; exact List.mem_map_of_mem h1)
        simp only [lenAt, hne, if_false]
        exact ih hnd.2 t h1
  refine ⟨⟨fun i A hi => ?_, fun i j A B M M' hi hj hM hM' e => ?_, fun i M hi => ?_⟩, fun i hi => ?_, fun g hg => ⟨_, hmap g hg⟩⟩
  · rcases tabs_get hi with ⟨t, ht, rfl, rfl⟩ | ⟨_, h1⟩
    · obtain ⟨c, h1, h2, h3⟩ := (hL t ht).blk
      refine ⟨_, hmap _ (hL t ht).lt, ?_⟩
      rw [hlen hnd t ht]
      refine .cells t.l t.e _ true c 0 0 h1 h2 (by simp) (fun i a ha => ?_) (fun i v _ hi hc => ?_) (fun i _ _ => by omega) (fun e => by cases e) (.inl rfl)
      · obtain ⟨k, n, rfl, h4⟩ := h3 i a ha
        exact ⟨_, by simpa using h4, .int _ _⟩
      · simp only at hi
        obtain ⟨k, n, _, h4⟩ := h3 i t.l[i] (List.getElem?_eq_getElem hi)
        rw [h4] at hc
        cases hc
        rfl
    · rw [Tr.get_e] at h1; cases h1
  · rcases tabs_get hi with ⟨t, ht, rfl, rfl⟩ | ⟨_, h1⟩
    · rcases tabs_get hj with ⟨u, hu, rfl, rfl⟩ | ⟨_, h1⟩
      · rw [hmap _ (hL t ht).lt] at hM
        rw [hmap _ (hL u hu).lt] at hM'
        cases hM
        cases hM'
        exact e
      · rw [Tr.get_e] at h1; cases h1
    · rw [Tr.get_e] at h1; cases h1
  · unfold mapOf at hi
    split at hi
    · cases hi
      simp only
      omega
    · cases hi
  · exact if_neg (by omega)

theorem Ext.below {N : Nat → Prop} {L : List Tab} {σ' : Map} {h' : H} {W w' : World} (hL : ∀ t ∈ L, TabOk P W t) (e : Ext N (mapOf P L) (tabs L .e) W σ' h' w') : Below W.heap.size W w' := by
  refine ⟨e.rest.1, e.rest.2.2, e.rest.2.1, e.size, fun k hk => ?_⟩
  by_cases hin : ∃ t ∈ L, t.g = k
  · obtain ⟨t, ht, rfl⟩ := hin
    have hM : mapOf P L t.g = some ⟨t.g, 0, lenAt L t.g⟩ := if_pos (hL t ht).lt
    cases hg : (tabs L .e).get t.g with
    | none =>
      exfalso
      have : ∀ {L : List Tab}, t ∈ L → (tabs L .e).get t.g ≠ none := by
        intro L
        induction L with
        | nil => intro h; cases h
        | cons u L ih =>
          intro h
          unfold tabs
          rw [Tr.get_set]
          by_cases e : t.g = u.g
          · rw [if_pos e]; exact fun h => by cases h
          · rw [if_neg e]
            rcases List.mem_cons.1 h with rfl | h
            · exact absurd rfl e
            · exact ih h
      exact this ht hg
    | some A =>
      have hro : A.ro = true := by
        rcases tabs_get hg with ⟨u, _, _, rfl⟩ | ⟨_, h1⟩
        · exact tab_ro u
        · rw [Tr.get_e] at h1; cases h1
      exact (e.keep _ A _ hg hro hM).1
  · refine e.unch k hk fun i A M hi hM hb => hin ?_
    rcases tabs_get hi with ⟨t, ht, rfl, _⟩ | ⟨_, h1⟩
    · have : mapOf P L t.g = some ⟨t.g, 0, lenAt L t.g⟩ := if_pos (hL t ht).lt
      rw [this] at hM
      cases hM
      exact ⟨t, ht, hb⟩
    · rw [Tr.get_e] at h1; cases h1

theorem run_ok {X : Ovr} (hX : OvrSound P X) (hc : noCount P = true) {f : FuncId} {fn : Func} {c : Code} (hf : P.funcs[f]? = some fn) (hb : fn.body = some c) {n : Nat} {L : List Tab} {W : World} (hs : P.globals.size ≤ W.heap.size) (hnd : (L.map (·.g)).Nodup) (hL : ∀ t ∈ L, TabOk P W t)
    {args : List AV} {vs : List Value} (ha : ∀ σ, RVs σ args vs) {h' : H} {nx' : Nat} (hr : evCall P X n f args (tabs L .e) P.globals.size = .ok (.bool true) h' nx') :
    Calls P f vs.toArray W (fun e w' => e = .returned (.bool true) ∧ Below W.heap.size W w') := by
  obtain ⟨rh, bd, gl⟩ := start_ok hs hnd hL
  have key := evCall_sound hX hc n f args _ _ _ h' nx' hr _ W vs rh bd gl (ha _)
  rcases key with ⟨_, h2⟩ | ⟨u, w', h1, _⟩
  · refine h2.mono ?_
    rintro e w' ⟨u, rfl, σ', h3, _, h4⟩
    cases h4
    exact ⟨rfl, h3.below hL⟩
  · exfalso
    have h5 : fn.name = "runtime.NumGoroutine" ∨ (callFunc f vs.toArray).run P W = .ok (.enter f vs.toArray) W := by
      by_cases h1 : fn.name = "runtime.NumGoroutine"
      · exact .inl h1
      · exact .inr (by simp [callFunc, hf, h1, hb])
    rcases h5 with h5 | h5
    · have := List.all_eq_true.1 hc fn (by
        have := (Array.getElem?_eq_some_iff.1 hf).2
        rw [← this]
        simp)
      simp [hb, h5] at this
    · rw [h5] at h1
      cases h1

theorem shape_block {W : World} (h : W.ShapedOpen P) {g : Nat} {t : TypeId} {n : Nat} (hg : g < P.globals.size) (hz : (((begin P (fun _ _ => 0) default).world.heap[g]?).bind Obj.row?).map (fun x => (x.1.size, x.2)) = some (n, t)) :
    ∃ cs, W.heap[g]? = some (.cells cs t (0, 0)) ∧ cs.size = n ∧ (P.buildable t = true → Row.ok P W .any 0 t cs) := by
  obtain ⟨⟨zero, t'⟩, hz1, hz2⟩ := Option.map_eq_some_iff.1 hz
  cases hz2
  exact h.1 g zero _ hg hz1
theorem shape_size {W : World} (h : W.ShapedOpen P) {g : Nat} {t : TypeId} {n : Nat} (h1 : g + 1 = P.globals.size) (hz : (((begin P (fun _ _ => 0) default).world.heap[g]?).bind Obj.row?).map (fun x => (x.1.size, x.2)) = some (n, t)) :
    P.globals.size ≤ W.heap.size := by
  obtain ⟨cs, hb, _⟩ := shape_block h (by omega) hz
  have := (Array.getElem?_eq_some_iff.1 hb).1
  omega
theorem shape_int {W : World} (h : W.ShapedOpen P) {g : Nat} {t : TypeId} {k : IntKind} (hg : g < P.globals.size) (hz : (((begin P (fun _ _ => 0) default).world.heap[g]?).bind Obj.row?).map (fun x => (x.1.size, x.2)) = some (1, t))
    (hb : P.buildable t = true) (hu : P.underlying t = some (.int k)) (hct : P.cellTypes P.depth t = some [t]) : ∃ m, W.heap[g]? = some (.cells #[.int k m] t (0, 0)) := by
  obtain ⟨cs, h1, h2, h3⟩ := shape_block h hg hz
  obtain ⟨ts, k1, _, k2⟩ := h3 hb
  rw [hct] at k1
  cases k1
  have e : cs = #[cs[0]'(by omega)] := by
    apply Array.ext
    · simpa using h2
    · intro i hi hi'
      have : i = 0 := by omega
      subst this
      rfl
  obtain ⟨u, k3, k4⟩ := k2 0 (cs[0]'(by omega)) (by simp [h2])
  simp only [Nat.zero_mod, List.getElem?_cons_zero, Option.some.injEq] at k3
  subst k3
  generalize cs[0]'(by omega) = v at e k4
  subst e
  unfold Cell.ok at k4
  rw [hu] at k4
  cases v <;> simp only at k4
  obtain ⟨rfl, _⟩ := k4
  exact ⟨_, h1⟩

def intTab (g : Nat) (t : TypeId) (k : IntKind) (m : Int) : Tab := ⟨g, [.int k m], t⟩
theorem intTab_ok {W : World} {g : Nat} {t : TypeId} {k : IntKind} {m : Int} (hg : g < P.globals.size) (h : W.heap[g]? = some (.cells #[.int k m] t (0, 0))) : TabOk P W (intTab g t k m) :=
  ⟨hg, _, h, by simp [intTab], fun i a ha => by
    cases i with
    | zero => cases ha; exact ⟨k, m, rfl, rfl⟩
    | succ i => cases ha⟩
end

section
variable {P : Program}

theorem Ext.grown {N : Nat → Prop} {σ : Map} {h : H} {w w' : World} (r : RH σ h w) (hs : w.heap.size ≤ w'.heap.size) (hb : ∀ B, B < w.heap.size → w'.heap[B]? = w.heap[B]?) (hr : Rest w w') : Ext N σ h w σ h w' :=
  ⟨Map.le_refl _, ⟨fun i A hi => let ⟨L, h1, h2⟩ := r.blk i A hi; ⟨L, h1, h2.mono (Map.le_refl _) (hb _ (r.old i L h1))⟩, r.inj, fun i L hi => Nat.lt_of_lt_of_le (r.old i L hi) hs⟩, hs, fun B hB _ => hb B hB, fun _ _ h => .inl h,
    fun _ A _ h _ => ⟨A, h⟩, hr, fun i A L h1 _ h3 => ⟨hb _ (r.old i L h3), h1⟩⟩

def Map.low (σ : Map) (g : Nat) : Map := fun i => if i < g then σ i else none
theorem Map.low_le (σ : Map) (g : Nat) : (σ.low g).le σ := fun i l h => by
  unfold Map.low at h
  split at h
  · exact h
  · cases h
theorem Map.low_at {σ : Map} {g i : Nat} (h : i < g) : σ.low g i = σ i := by simp [Map.low, h]

theorem RB.ints {σ τ : Map} {w : World} {L : Loc} {l : List AV} {e : TypeId} {fz : Nat} {raw : Bool} (h1 : l.all isInt = true) (r : RB σ w L (.cells l e fz raw)) : RB τ w L (.cells l e fz raw) := by
  cases r with
  | cells _ _ _ _ c lo hi hh hx hl hv h1' hf hr ho =>
    refine .cells l e fz raw c lo hi hh hx hl (fun i a ha => ?_) h1' hf hr ho
    obtain ⟨v, k1, k2⟩ := hv i a ha
    have := List.all_eq_true.1 h1 a (List.mem_of_getElem? ha)
    cases a <;> simp only [isInt, Bool.false_eq_true] at this
    cases k2
    exact ⟨_, k1, .int _ _⟩

theorem told_call {X : Ovr} (hX : OvrSound P X) (hc : noCount P = true) {f : FuncId} {n : Nat} {L : List Tab} (hl : ∀ t ∈ L, t.l.all isInt = true) (hg : ∀ t ∈ L, t.g < P.globals.size)
    {h' : H} {nx' : Nat} (hrun : evCall P X n f [] (tabs L .e) P.globals.size = .ok (.bool true) h' nx') {h : H} {nx : Nat} (hsub : Sub (tabs L .e) h) {σ : Map} {w : World} (rh : RH σ h w) (gl : GlobOk P σ) :
    CallOk P f #[] w (fun u w' => Ext (Rg nx nx) σ h w σ h w' ∧ u = .bool true) := by
  have rh0 : RH (σ.low P.globals.size) (tabs L .e) w := by
    refine ⟨fun i A hi => ?_, fun i j A B M M' hi hj hM hM' e => rh.inj i j A B M M' (hsub i A hi) (hsub j B hj) (Map.low_le _ _ _ _ hM) (Map.low_le _ _ _ _ hM') e, fun i M hi => rh.old i M (Map.low_le _ _ _ _ hi)⟩
    obtain ⟨M, h1, h2⟩ := rh.blk i A (hsub i A hi)
    rcases tabs_get hi with ⟨t, ht, rfl, rfl⟩ | ⟨_, h3⟩
    · exact ⟨M, by rw [Map.low_at (hg t ht)]; exact h1, RB.ints (hl t ht) h2⟩
    · rw [Tr.get_e] at h3; cases h3
  have bd0 : Bd (σ.low P.globals.size) P.globals.size := fun i hi => by simp [Map.low, Nat.not_lt.2 hi]
  have gl0 : GlobOk P (σ.low P.globals.size) := fun i hi => by rw [Map.low_at hi]; exact gl i hi
  refine (evCall_sound hX hc n f [] _ _ _ h' nx' hrun _ w [] rh0 bd0 gl0 .nil).mono ?_
  rintro u w' ⟨τ, E, _, hu⟩
  cases hu
  refine ⟨Ext.grown rh E.size (fun B hB => ?_) E.rest, rfl⟩
  by_cases hin : ∃ i A M, (tabs L .e).get i = some A ∧ σ.low P.globals.size i = some M ∧ M.b = B
  · obtain ⟨i, A, M, h1, h2, rfl⟩ := hin
    have hro : A.ro = true := by
      rcases tabs_get h1 with ⟨u, _, _, rfl⟩ | ⟨_, h3⟩
      · exact tab_ro u
      · rw [Tr.get_e] at h3; cases h3
    exact (E.keep i A M h1 hro h2).1
  · exact E.unch B hB fun i A M h1 h2 h3 => hin ⟨i, A, M, h1, h2, h3⟩

open Classical in

noncomputable def kTold (L : List Tab) : Ent := fun args h nx => if args = [] ∧ Sub (tabs L .e) h then .ok (.bool true) h nx else .bad
theorem kTold_ok {X : Ovr} (hX : OvrSound P X) (hc : noCount P = true) {f : FuncId} {n : Nat} {L : List Tab} (hl : ∀ t ∈ L, t.l.all isInt = true) (hg : ∀ t ∈ L, t.g < P.globals.size)
    {h' : H} {nx' : Nat} (hrun : evCall P X n f [] (tabs L .e) P.globals.size = .ok (.bool true) h' nx') : EntryOk P f (kTold L) := by
  intro args h nx v h'' nx'' hr σ w vs rh bd gl hvs
  unfold kTold at hr
  split at hr
  · rename_i hc'
    obtain ⟨rfl, hsub⟩ := hc'
    cases hvs
    cases hr
    refine (told_call hX hc hl hg hrun (nx := nx) hsub rh gl).mono ?_
    rintro u w' ⟨E, rfl⟩
    exact ⟨σ, E, Nat.le_refl _, .bool true⟩
  · cases hr
theorem kTold_run {L : List Tab} {h : H} {nx : Nat} (hs : Sub (tabs L .e) h) : kTold L [] h nx = .ok (.bool true) h nx := if_pos ⟨rfl, hs⟩

def isTrue : CR → Bool
  | .ok (.bool b) _ _ => b
  | _ => false
theorem isTrue_ok {r : CR} (h : isTrue r = true) : ∃ h' nx', r = .ok (.bool true) h' nx' := by
  cases r with
  | ok v h' nx' =>
    cases v <;> simp only [isTrue, Bool.false_eq_true] at h
    subst h
    exact ⟨h', nx', rfl⟩
  | bad => cases h
end
end Go.Ev
namespace Go.Ev

def flatD : Nat → DataW Unit → List Value
  | 0, _ => []
  | n + 1, d => match d with
    | .lit (.int k z) => [.int k z]
    | .agg l => l.flatMap (flatD n)
    | .slice l _ => l.flatMap (flatD n)
    | _ => []
def sizeD : DataW Unit → Nat
  | .slice l _ => l.length
  | _ => 0
def putD (h : Array Obj) (g : Nat) (cs : Array Value) : Array Obj := h.modify g fun
  | .cells _ t frozen => .cells cs t frozen
  | o => o
section
open Go.RowKit Go.WideShapes Go.ChangeShapes
variable {H : Type} {enc : TypeId × Value → H} {P : Program}
theorem post_of_below {f : Func} {s : ChangeSpec} {apart fresh handsOn again : Bool} {W W' : World} {args : Array Value} {v : Value} {ds gs : List (DataW H)} {before pa pv : List MemPlace}
    (hW : DataW.Whole enc P f.params.toList s.vars apart W args.toList ds gs before)
    (hres : ∀ (b : Nat) (sp : Nat → Bool) (hd : Bool), DataW.TrodAll enc P W' b sp hd f.resultTypes.toList (v.resultList f.resultTypes.size) (s.fn H (ds ++ gs)).results [])
    (hargs : ∀ sp : Nat → Bool, (∀ p ∈ before, sp p.block = true) → DataW.TrodAll enc P W' 0 sp true f.params.toList args.toList (s.fn H (ds ++ gs)).args pa)
    (hvars : ∀ sp : Nat → Bool, (∀ p ∈ before, sp p.block = true) → DataW.TrodVars enc P W' sp s.vars (s.fn H (ds ++ gs)).vars pv)
    (hps : before = pa ++ pv) (hb : Below W.heap.size W W')
    (hok : ∀ (j : Nat) (t : TypeId) (r : Value), f.resultTypes[j]? = some t → (v.resultList f.resultTypes.size)[j]? = some r → Value.okWide P W' .any 0 t r) :
    s.post enc P f apart fresh handsOn again W args v W' := by
  have hlt : ∀ p ∈ before, p.block < W.heap.size := fun p hp => hW.lt p hp
  have hold : ∀ p ∈ before, (fun b => decide (b < W.heap.size)) p.block = true := fun p hp => by simpa using hlt p hp
  refine ⟨ds, gs, before, [], pa, pv, hW, hres _ _ _, hargs _ hold, hvars _ hold, World.keptBut_mono (fun p hp => ⟨hp, ?_⟩) (hb.frame (· ∈ before)), fun _ => ?_⟩
  · rw [hps, List.mem_append] at hp
    exact Or.inr hp
  · obtain ⟨_, _, _, _, _, hz, hn⟩ := hW
    refine ⟨hok, _, _, ([] ++ pa) ++ pv, ⟨[] ++ pa, pv, trodAll_append (hargs _ (fun _ _ => rfl)) (hres _ _ _), hvars _ (fun _ _ => rfl), rfl, ?_, ?_⟩, ?_⟩
    · intro b off hp
      have hin : MemPlace.cell b off ∈ before := by rw [hps]; simpa using hp
      rw [hb.frozen (hlt _ hin)]
      exact hz b off hin
    · intro ha
      have := hn ha
      rw [hps] at this
      simpa using this
    · intro p hp _
      rw [hps]
      simpa using hp
end
end Go.Ev

namespace Go.Ev
open Go.Lib Go.Proofs
set_option maxRecDepth 100000 in
theorem pinned_case : Pinned.caseRanges = caseData := by kernel_rfl

section
variable {P : Program} {w : World}
theorem case_slice {tS tR : TypeId} (hS : P.underlying tS = some (.slice tR)) (c5 : P.cellsOf tR = 5) (hrow : ∀ x, rowWf x = true → DataW.trod (fun _ => ()) P w 0 (fun _ => true) false 3 tR (cells5 x) = some (rowData x, [])) {R : Nat} {t : TypeId}
    (hb : w.heap[R]? = some (.cells caseCells5 t (0, 0))) :
    DataW.trod (fun _ => ()) P w 0 (fun _ => true) false 4 tS [.slice (some ⟨R, 0, none⟩) caseA.size caseA.size] = some (caseData, MemPlace.row ⟨R, 0, none⟩ (caseA.size * 5)) := by
  have hT := caseTab_of_block hb
  have helem : ∀ i ∈ List.range caseA.size, (w.cells? 0 ((⟨R, 0, none⟩ : Addr).add (i * 5)) 5).bind (DataW.trod (fun _ => ()) P w 0 (fun _ => true) false 3 tR) = some ((fun i => ((rowData (caseA.getD i (0, 0, 0, 0, 0)) : DataW Unit), ([] : List MemPlace))) i) := by
    intro i hi
    have hi' := List.mem_range.1 hi
    rw [case_cells5 hT i hi']
    exact hrow _ (caseA_wf i hi')
  have hn : caseA.size ≤ maxLen := by rw [caseA_size]; unfold maxLen; omega
  unfold DataW.trod
  simp only [hS, c5]
  rw [if_pos ⟨Nat.zero_le _, Nat.le_refl _, hn⟩, mapM_some _ _ _ helem]
  have := case_rows_data
  simp [Function.comp_def] at this ⊢
  rw [this]
  rfl

theorem case_int {i : Nat} {v : Value} (h : caseCells5[i]? = some v) : ∃ k n, v = .int k n := by
  have hm : v ∈ caseT.flatMap cells5 := by
    unfold caseCells5 at h
    rw [List.getElem?_toArray] at h
    exact List.mem_of_getElem? h
  obtain ⟨x, _, hx⟩ := List.mem_flatMap.1 hm
  simp only [cells5, List.mem_cons, List.mem_nil_iff, or_false] at hx
  rcases hx with rfl | rfl | rfl | rfl | rfl <;> exact ⟨_, _, rfl⟩

theorem case_in {g : Nat} {tS tR : TypeId} (hg : P.globalNamed "unicode.CaseRanges" = some g) (ht : (P.globals[g]?).map (·.type) = some tS) (hS : P.underlying tS = some (.slice tR)) (c5 : P.cellsOf tR = 5)
    (hrow : ∀ x, rowWf x = true → DataW.trod (fun _ => ()) P w 0 (fun _ => true) false 3 tR (cells5 x) = some (rowData x, [])) {R : Nat} {t : TypeId} (hne : g ≠ R)
    (hv : w.heap[g]? = some (.cells #[.slice (some ⟨R, 0, none⟩) caseA.size caseA.size] tS (0, 0))) (hb : w.heap[R]? = some (.cells caseCells5 t (0, 0))) : LaidIn P w [("unicode.CaseRanges", Pinned.caseRanges)] [g, R] := by
  have places : ∀ x ∈ MemPlace.row ⟨g, 0, none⟩ 1 ++ MemPlace.row ⟨R, 0, none⟩ (caseA.size * 5), x.block = g ∨ x.block = R := by
    intro x hx
    rcases List.mem_append.1 hx with hx | hx
    · unfold MemPlace.row at hx
      obtain ⟨i, _, rfl⟩ := List.mem_map.1 hx
      exact .inl rfl
    · unfold MemPlace.row at hx
      obtain ⟨i, _, rfl⟩ := List.mem_map.1 hx
      exact .inr rfl
  rw [pinned_case]
  refine LaidIn.one [g, R] hg ht (cs := #[.slice (some ⟨R, 0, none⟩) caseA.size caseA.size]) (by simp [World.var?, hg, hv]) (case_slice hS c5 hrow hb) ?_ ?_ ?_
  · refine List.nodup_append.2 ⟨rowP_nodup _ _, rowP_nodup _ _, fun x hx y hy e => ?_⟩
    subst e
    unfold MemPlace.row at hx hy
    obtain ⟨i, _, rfl⟩ := List.mem_map.1 hx
    obtain ⟨j, _, h⟩ := List.mem_map.1 hy
    simp at h
    exact hne h.1.symm
  · intro b off hp
    rcases places _ hp with e | e
    · simp only [MemPlace.block] at e
      subst e
      refine ⟨⟨_, _, hv⟩, fun u v hc => ?_⟩
      rw [Lib.cell_of_heap hv] at hc
      rcases off with _ | off
      · cases hc
      · cases hc
    · simp only [MemPlace.block] at e
      subst e
      refine ⟨⟨_, _, hb⟩, fun u v hc => ?_⟩
      rw [Lib.cell_of_heap hb] at hc
      obtain ⟨k, n, h⟩ := case_int hc
      cases h
  · intro x hx
    rcases places x hx with e | e <;> simp [e]
end
end Go.Ev

