/- TreeNexts is true for every list of numbers and every number, and what it rests on; no condition. -/
import Derived.LoopN
import Derived.Scope
import Derived.Laws.Sem
import Derived.Lib.Bytealg
import Derived.Lib.Index
import Derived.Shelf.Strings.Search2
import Derived.Below
import Derived.ShapedOpen
import Derived.ChangeSame
import Derived.RowKit
import Derived.OpenShut
import GoSem.PinnedTables
import Derived.Lib.LaidIn
import Derived.Lib.LaidCaseMet
import Derived.KernelRfl
import Derived.Test.YtpcbnpekdmobpaaGreatDoorNxA
set_option linter.unusedSimpArgs false
set_option linter.unusedVariables false
set_option linter.constructorNameAsVariable false
set_option linter.unnecessarySimpa false
namespace Go.Ev
section
variable {P : Program}
def Sub (h g : H) : Prop := ∀ i A, h.get i = some A → g.get i = some A
theorem RH.sub {σ : Map} {h g : H} {w : World} (r : RH σ g w) (s : Sub h g) : RH σ h w :=
  ⟨fun i A hi => r.blk i A (s i A hi), fun i j A B L M hi hj => r.inj i j A B L M (s i A hi) (s j B hj), r.old⟩
theorem Ext.frame {N : Nat → Prop} {σ τ : Map} {h h' g g' : H} {w w' : World} (e : Ext N σ h w τ h' w') (hsub : Sub h g) (rg : RH σ g w)
    (hg' : ∀ i A, g'.get i = some A → h'.get i = some A ∨ (h.get i = none ∧ g.get i = some A))
    (hk1 : ∀ i A, h'.get i = some A → A.ro = true → g'.get i = some A) (hk2 : ∀ i A, h.get i = none → g.get i = some A → A.ro = true → g'.get i = some A) : Ext N σ g w τ g' w' := by
  have heap : ∀ i A, h.get i = none → g.get i = some A → ∀ L, σ i = some L → w'.heap[L.b]? = w.heap[L.b]? := by
    intro i A hn hi L hL
    refine e.unch L.b (rg.old i L hL) fun j B M hj hM hb => ?_
    have := rg.inj j i B A M L (hsub j B hj) hi hM hL hb
    subst this
    rw [hn] at hj
    cases hj
  refine ⟨e.le, ⟨fun i A hi => ?_, fun i j A B L M hi hj hL hM hb => ?_, e.rh.old⟩, e.size, fun B hB hno => e.unch B hB fun i A L hi hL => hno i A L (hsub i A hi) hL, fun i L hL => ?_, fun i A L hi hL => ?_, e.rest, fun i A L hi hA hL => ?_⟩
  rotate_right
  · cases hh : h.get i with
    | none => exact ⟨heap i A hh hi L hL, hk2 i A hh hi hA⟩
    | some B =>
      have := hsub i B hh
      rw [hi] at this
      cases this
      obtain ⟨k1, k2⟩ := e.keep i A L hh hA hL
      exact ⟨k1, hk1 i A k2 hA⟩
  · rcases hg' i A hi with h1 | ⟨h1, h2⟩
    · exact e.rh.blk i A h1
    · obtain ⟨L, k1, k2⟩ := rg.blk i A h2
      exact ⟨L, e.le i L k1, k2.mono e.le (heap i A h1 h2 L k1)⟩
  · have mixed : ∀ i j A B L M, h'.get i = some A → h.get j = none → g.get j = some B → τ i = some L → τ j = some M → L.b = M.b → i = j := by
      intro i j A B L M hi hn hj hL hM hb
      obtain ⟨M', k1, _⟩ := rg.blk j B hj
      have : M' = M := by have := e.le j M' k1; rw [hM] at this; exact (Option.some.inj this).symm
      subst this
      rcases e.loc i L hL with k2 | ⟨_, k2 | ⟨k, C, K, k3, k4, k5⟩⟩
      · obtain ⟨A0, hA0⟩ := e.live i A L hi k2
        exact rg.inj i j A0 B L M' (hsub i A0 hA0) hj k2 k1 hb
      · have := rg.old j M' k1; omega
      · have := rg.inj k j C B K M' (hsub k C k3) hj k4 k1 (k5.trans hb)
        subst this
        rw [hn] at k3
        cases k3
    rcases hg' i A hi with h1 | ⟨h1, h2⟩ <;> rcases hg' j B hj with h3 | ⟨h3, h4⟩
    · exact e.rh.inj i j A B L M h1 h3 hL hM hb
    · exact mixed i j A B L M h1 h3 h4 hL hM hb
    · exact (mixed j i B A M L h3 h1 h2 hM hL hb.symm).symm
    · obtain ⟨L', k1, _⟩ := rg.blk i A h2
      obtain ⟨M', k2, _⟩ := rg.blk j B h4
      have e1 : L' = L := by have := e.le i L' k1; rw [hL] at this; exact (Option.some.inj this).symm
      have e2 : M' = M := by have := e.le j M' k2; rw [hM] at this; exact (Option.some.inj this).symm
      subst e1; subst e2
      exact rg.inj i j A B L' M' h2 h4 k1 k2 hb
  · rcases e.loc i L hL with h1 | ⟨n, h1 | ⟨j, A, M, h2, h3⟩⟩
    · exact .inl h1
    · exact .inr ⟨n, .inl h1⟩
    · exact .inr ⟨n, .inr ⟨j, A, M, hsub j A h2, h3⟩⟩
  · rcases hg' i A hi with h1 | ⟨_, h2⟩
    · obtain ⟨A0, hA0⟩ := e.live i A L h1 hL; exact ⟨A0, hsub i A0 hA0⟩
    · exact ⟨A, h2⟩
theorem Ext.sub {N : Nat → Prop} {σ τ : Map} {h h' g' : H} {w w' : World} (e : Ext N σ h w τ h' w') (rh : RH σ h w) (s : Sub g' h') (hk : ∀ i A, h'.get i = some A → A.ro = true → g'.get i = some A) : Ext N σ h w τ g' w' :=
  e.frame (fun _ _ h => h) rh (fun i A hi => .inl (s i A hi)) hk fun i A h1 h2 _ => by rw [h1] at h2; cases h2
theorem cls_p {op : Op} (hc : clsOf op = .p) (env : Env) (h h' : H) (i j : Nat) : opA P op env h i = opA P op env h' j := by
  cases op <;> simp only [clsOf, reduceCtorEq] at hc <;> first | rfl | (split at hc <;> cases hc) | (generalize Nat.beq _ _ = t at hc; cases t <;> cases hc)
theorem ldCells_mono {h g : H} (s : Sub h g) {b o n : Nat} {l : List AV} (hl : ldCells h b o n = some l) : ldCells g b o n = some l := by
  unfold ldCells at hl ⊢
  split at hl
  · rename_i l' e fz raw hb
    rw [s _ _ hb]
    exact hl
  · cases hl
theorem capLo_mono {h g : H} (s : Sub h g) {b o k : Nat} {cap : Option Nat} {c : Nat} (hl : capLo h b o k cap = some c) : capLo g b o k cap = some c := by
  unfold capLo at hl ⊢
  split at hl
  · exact hl
  · split at hl
    · rename_i l' e fz raw hb
      rw [s _ _ hb]
      exact hl
    · cases hl
theorem ld_mono {h g : H} (s : Sub h g) {t : TypeId} {a v : AV} (hl : ld P h t a = some v) : ld P g t a = some v := by
  unfold ld at hl ⊢
  split at hl
  · rename_i b o
    split at hl
    · split at hl
      · split at hl
        · rename_i l hc
          simp only [ldCells_mono s hc]
          exact hl
        · cases hl
      · cases hl
    · split at hl
      · rename_i l e fz raw hb
        rw [s _ _ hb]
        exact hl
      · cases hl
    · cases hl
  · cases hl
theorem slice2_mono {h g : H} (s : Sub h g) {b o n k : Nat} {cap : Option Nat} {lo hi : Option AV} {v : AV} (hl : slice2 h b o n k cap lo hi = .val v) : slice2 g b o n k cap lo hi = .val v := by
  unfold slice2 at hl ⊢
  split at hl
  · rename_i cl l r hc hl' hr
    rw [capLo_mono s hc]
    simp only [hl', hr]
    exact hl
  · cases hl
theorem slice3_mono {h g : H} (s : Sub h g) {b o n k : Nat} {cap : Option Nat} {lo : Option AV} {hi mx v : AV} (hl : slice3 h b o n k cap lo hi mx = .val v) : slice3 g b o n k cap lo hi mx = .val v := by
  unfold slice3 at hl ⊢
  split at hl
  · rename_i cl l r m hc hl' hr hm
    rw [capLo_mono s hc]
    simp only [hl', hr, hm]
    exact hl
  · cases hl
theorem sliceA_mono {h g : H} (s : Sub h g) {t : TypeId} {x : AV} {lo hi mx : Option AV} {v : AV} (hl : sliceA P t x lo hi mx h = .val v) : sliceA P t x lo hi mx g = .val v := by
  unfold sliceA at hl ⊢
  split at hl
  · rename_i hu; exact hl
  · rename_i hu; exact hl
  · rename_i hu; exact hl
  · rename_i e b o n k cap hu
    split at hl
    · rename_i s' hs
      cases hb : Nat.beq k s' with
      | false => simp only [hb, cond_false] at hl; cases hl
      | true =>
        simp only [hb, cond_true] at hl ⊢
        split at hl
        · exact slice2_mono s hl
        · exact slice3_mono s hl
        · cases hl
    · cases hl
  · rename_i n e b o hu
    split at hl
    · rename_i k l e' fz raw hs hb
      rw [s _ _ hb]
      cases hc : (Nat.blt 0 k && Nat.ble (o + n * k) (len l)) with
      | false => simp only [hc, cond_false] at hl; cases hl
      | true =>
        simp only [hc, cond_true] at hl
        split at hl
        · simp only [hs, hc, cond_true]; exact slice2_mono s hl
        · cases hl
    · cases hl
  · cases hl
theorem lookA_mono {h g : H} (s : Sub h g) {t : TypeId} {x i : AV} {ok : Bool} {v : AV} (hl : lookA P t x i ok h = .val v) : lookA P t x i ok g = .val v := by
  unfold lookA at hl ⊢
  split at hl
  · rename_i kt et hu
    cases hk : simpleKey P 10 kt i with
    | false => simp only [hk, cond_false] at hl; cases hl
    | true =>
      simp only [hk, cond_true] at hl ⊢
      cases x <;> simp only at hl ⊢ <;> try exact hl
      rename_i b
      cases hb : h.get b with
      | none => rw [hb] at hl; simp only at hl; cases hl
      | some B =>
        rw [s _ _ hb]
        rw [hb] at hl
        exact hl
  · cases hl
theorem lenA_mono {h g : H} (s : Sub h g) {t : TypeId} {x v : AV} (hl : lenA P t x h = .val v) : lenA P t x g = .val v := by
  unfold lenA at hl ⊢
  cases hu : P.underlying t with
  | none => rw [hu] at hl; cases hl
  | some u =>
    rw [hu] at hl
    cases u <;> simp only at hl ⊢ <;> try exact hl
    cases x <;> simp only at hl ⊢ <;> try exact hl
    rename_i b
    cases hb : h.get b with
    | none => rw [hb] at hl; cases hl
    | some B => rw [s _ _ hb]; rw [hb] at hl; exact hl
theorem convA_mono {h g : H} (s : Sub h g) {a b : TypeId} {x v : AV} {i j : Nat} (hl : convA P a b x h i = .val v) : convA P a b x g j = .val v := by
  unfold convA at hl ⊢
  split at hl
  · rename_i hu; exact hl
  · rename_i hu; exact hl
  · rename_i hu; exact hl
  · rename_i hu; exact hl
  · rename_i hu; exact hl
  · rename_i b' o n k cap hu
    split at hl
    · rename_i e hs
      split at hl
      · rename_i l he hc
        rw [ldCells_mono s hc]
        simp only [he]
        exact hl
      · cases hl
    · cases hl
  · rename_i hu
    split at hl
    · cases hl
    · cases hl
  · split at hl
    · rename_i hs hb
      rw [s _ _ hb, hs]
      exact hl
    · cases hl
  · split at hl
    · rename_i hs hb
      rw [s _ _ hb, hs]
      exact hl
    · cases hl
  · split at hl
    · cases hl
    · cases hl
  · cases hl
theorem cls_r {op : Op} (hc : clsOf op = .r ∨ clsOf op = .f) {env : Env} {h g : H} (s : Sub h g) {i : Nat} (j : Nat) {v : AV} (hv : opA P op env h i = .val v) : opA P op env g j = .val v := by
  cases op <;> simp only [clsOf, reduceCtorEq, or_false, false_or, or_self] at hc <;> simp only [opA] at hv ⊢
  case alloc e =>
    split at hv
    · unfold newVarA at hv; split at hv <;> cases hv
    · cases hv
  case box e x => unfold newVarA at hv; split at hv <;> cases hv
  case buildSlice t n ps =>
    exfalso
    unfold buildSl at hv
    split at hv
    · split at hv
      · split at hv
        · rename_i s' z hs hz zc hzc
          generalize (_ && _) = bb at hv
          cases bb with
          | false => cases hv
          | true => simp only [cond_true] at hv; split at hv <;> cases hv
        · cases hv
      · cases hv
    · cases hv
  case load t a =>
    cases hl : ld P h t (rd env a) with
    | none => rw [hl] at hv; cases hv
    | some u => rw [ld_mono s hl]; rw [hl] at hv; exact hv
  case convert a b x => exact convA_mono s hv
  case makeMap t r => split at hv <;> cases hv
  case makeSlice t l c =>
    exfalso
    unfold makeSl at hv
    split at hv
    · split at hv
      · split at hv
        · rename_i l' c' e hu s' b' z hs hb hz zc hzc _
          generalize (Nat.blt 0 _ && Nat.beq (len _) _ && Nat.ble _ _ && Nat.ble (_ * _) 140737488355328 && Nat.blt _ p63) = bb at hv
          cases bb <;> cases hv
        · cases hv
      · cases hv
    · cases hv
  case slice t x lo hi mx => exact sliceA_mono s hv
  case lookup t x i' ok => exact lookA_mono s hv
  case range t x => unfold rangeA at hv; split at hv <;> cases hv
  case call c =>
    unfold callA at hv ⊢
    cases hcal : c.callee with
    | builtin b =>
      rw [hcal] at hv hc
      simp only at hv hc ⊢
      cases b <;> simp only [reduceCtorEq, or_false, false_or, or_self] at hc
      case len =>
        cases hl : List.map (rd env) c.args.toList with
        | nil => rw [hl] at hv; exact hv
        | cons x l =>
          rw [hl] at hv
          simp only [builtinA] at hv ⊢
          split at hv
          · exact lenA_mono s hv
          · cases hv
      all_goals
        cases hl : List.map (rd env) c.args.toList with
        | nil => rw [hl] at hv; exact hv
        | cons x l => rw [hl] at hv; cases l <;> exact hv
    | _ => rw [hcal] at hc; simp at hc
theorem newVarA_any {e : TypeId} {x : AV} {i : Nat} {v : AV} {h1 : H} (hv : newVarA P e x .e i = .new v h1) : ∃ blk, h1.get i = some blk ∧ ∀ h, newVarA P e x h i = .new v (h.set i blk) := by
  unfold newVarA at hv
  split at hv
  · rename_i cs hc
    cases hv
    exact ⟨.cells cs e 0 false, by simp [Tr.get_set], fun h => by simp [newVarA, hc]⟩
  · cases hv
theorem cls_f {op : Op} (hc : clsOf op = .f) {env : Env} {i : Nat} {v : AV} {h1 : H} {blk : AB} (hv : opA P op env .e i = .new v h1) (hb : h1.get i = some blk) (h : H) : opA P op env h i = .new v (h.set i blk) := by
  have fin : ∀ {B : AB}, h1 = (Tr.e : H).set i B → B = blk := fun {B} e => by
    subst e
    simp [Tr.get_set] at hb
    exact hb
  cases op <;> simp only [clsOf, reduceCtorEq] at hc <;> simp only [opA] at hv ⊢
  case alloc e =>
    split at hv
    · rename_i z hz
      obtain ⟨B, k1, k2⟩ := newVarA_any hv
      rw [hb] at k1
      cases k1
      exact k2 h
    · cases hv
  case box e x =>
    obtain ⟨B, k1, k2⟩ := newVarA_any hv
    rw [hb] at k1
    cases k1
    exact k2 h
  case buildSlice t n ps =>
    unfold buildSl at hv ⊢
    split at hv
    · rename_i e hu
      split at hv
      · rename_i s' z hs hz
        split at hv
        · rename_i zc hzc
          cases hbb : (Nat.blt 0 s' && Nat.ble (n * s') 16777216 && Nat.beq (len zc) s') with
          | false => rw [hbb] at hv; cases hv
          | true =>
            rw [hbb] at hv
            simp only [cond_true] at hv ⊢
            split at hv
            · rename_i cs hcs
              cases hv
              rw [fin rfl]
            · cases hv
        · cases hv
      · cases hv
    · cases hv
  case convert a b x =>
    unfold convA at hv ⊢
    split at hv
    · split at hv <;> cases hv
    · split at hv <;> cases hv
    · split at hv <;> cases hv
    · split at hv
      · split at hv <;> cases hv
      · cases hv
    · split at hv
      · split at hv <;> cases hv
      · cases hv
    · exfalso
      split at hv
      · split at hv
        · rename_i hl
          simp [ldCells, Tr.get_e] at hl
        · cases hv
      · cases hv
    · rename_i e l hu
      split at hv
      · cases hv
        rw [fin rfl]
      · cases hv
    · exfalso
      split at hv
      · rename_i hb
        simp [Tr.get_e] at hb
      · cases hv
    · exfalso
      split at hv
      · rename_i hb
        simp [Tr.get_e] at hb
      · cases hv
    · exfalso
      split at hv
      · cases hv
      · cases hv
    · cases hv
  case makeMap t r =>
    split at hv
    · cases hv
      rw [fin rfl]
    · cases hv
  case makeSlice t l c =>
    unfold makeSl at hv ⊢
    split at hv
    · rename_i k l' k' c' e hl hc' hu
      split at hv
      · rename_i s' b' z hs hby hz
        split at hv
        · rename_i zc hzc
          generalize (Nat.blt 0 s' && Nat.beq (len zc) s' && Nat.ble l' c' && Nat.ble (b' * c') 140737488355328 && Nat.blt c' p63) = bb at hv ⊢
          cases bb with
          | false => cases hv
          | true =>
            simp only [cond_true] at hv ⊢
            cases hv
            rw [fin rfl]
        · cases hv
      · cases hv
    · cases hv
  case range t x =>
    unfold rangeA at hv ⊢
    split at hv
    · rename_i l hu
      cases hv
      rw [fin rfl]
    · cases hv
  case call c => split at hc <;> cases hc
theorem eqAV_eq : ∀ (n : Nat) (a b : AV), eqAV n a b = true → a = b
  | 0, a, b, h => by simp [eqAV] at h
  | n + 1, a, b, h => by
    have lst : ∀ (l m : List AV), (bif Nat.beq (len l) (len m) then (l.zip m).all fun p => eqAV n p.1 p.2 else false) = true → l = m := by
      intro l m hl
      rw [beq_dec, len_eq, len_eq] at hl
      by_cases e : l.length = m.length
      · simp only [e, decide_true, cond_true] at hl
        induction l generalizing m with
        | nil => cases m with | nil => rfl | cons _ _ => simp at e
        | cons a l ih =>
          cases m with
          | nil => simp at e
          | cons b m =>
            simp only [List.zip_cons_cons, List.all_cons, Bool.and_eq_true] at hl
            have em : l.length = m.length := by simpa using e
            rw [eqAV_eq n a b hl.1, ih m em hl.2]
      · simp [e] at hl
    unfold eqAV at h
    simp only at h
    split at h
    case h_1 => simp at h; rw [h]
    case h_2 =>
      rw [ieq_eq] at h
      simp only [Bool.and_eq_true, decide_eq_true_eq] at h
      rw [(keq_iff _ _).1 h.1, h.2]
    case h_3 => rw [eqL_eq] at h; simp at h; rw [h]
    case h_4 => rfl
    case h_5 => simp only [beq_dec, Bool.and_eq_true, decide_eq_true_eq] at h; rw [h.1, h.2]
    case h_6 => rfl
    case h_7 => rfl
    case h_8 c b j m t d =>
      simp only [beq_dec, Bool.and_eq_true, decide_eq_true_eq] at h
      obtain ⟨⟨⟨⟨h1, h2⟩, h3⟩, h4⟩, h5⟩ := h
      rw [h1, h2, h3, h4]
      congr 1
      split at h5
      · rfl
      · simp at h5; rw [h5]
      · cases h5
    case h_9 => rfl
    case h_10 => simp only [beq_dec, decide_eq_true_eq] at h; rw [h]
    case h_11 => rfl
    case h_12 => rfl
    case h_13 =>
      simp only [beq_dec, Bool.and_eq_true, decide_eq_true_eq] at h
      rw [h.1, eqAV_eq n _ _ h.2]
    case h_14 => rw [lst _ _ h]
    case h_15 => rw [lst _ _ h]
    case h_16 => cases h
theorem chk_val {op : Op} {env : Env} {v : AV} {h : H} (hc : chk P op env v h = true) : opA P op env h 0 = .val v := by
  unfold chk at hc
  split at hc
  · rename_i v' hv
    rw [hv, eqAV_eq 10 v v' hc]
  · cases hc
end
end Go.Ev
namespace Go.Ev
section
variable {P : Program}
theorem op_wp0 {cal : CallF} (hcal : CallSound P cal) {σ : Map} {env : Env} {h : H} {nx : Nat} {a : Act} {w : World} (rh : RH σ h w) (bd : Bd σ nx) (gl : GlobOk P σ) {o : Oper}
    (hx : ∀ x ∈ o.op.operands, RV σ (rd env x) (a.eval x)) {nid : Nat} (hn : σ nid = none)
    {Q : Exit → Act → World → Prop} {K : Act → World → Prop}
    (hval : ∀ v, opA P o.op env h nid = .val v → ∀ u, RV σ v u → K (a.put o.dst u) w)
    (hupd : ∀ v h', opA P o.op env h nid = .upd v h' → ∀ u w', RV σ v u → Ext (fun _ => False) σ h w σ h' w' → K (a.put o.dst u) w')
    (hnew : ∀ v h', opA P o.op env h nid = .new v h' → ∀ u w' σ', RV σ' v u → Ext (· = nid) σ h w σ' h' w' → K (a.put o.dst u) w')
    (hcl : ∀ f args, opA P o.op env h nid = .call f args → ∃ v h' nx', cal f args h nx = .ok v h' nx' ∧ ∀ u w' σ', RV σ' v u → Ext (Rg nx nx') σ h w σ' h' w' → nx ≤ nx' → K (a.put o.dst u) w')
    (hbad : opA P o.op env h nid ≠ .bad) : o.wp P a w K Q := by
  have hop := opA_run (P := P) rh hn o hx
  unfold Oper.wp
  cases hr : opA P o.op env h nid with
  | val v =>
    rw [hr] at hop
    obtain ⟨u, h1, h2⟩ := hop
    rw [h1]
    exact hval v hr u h2
  | upd v h' =>
    rw [hr] at hop
    obtain ⟨m, u, w', h1, h2, h3, h4⟩ := hop
    rw [h1]
    rcases h2 with rfl | ⟨rfl, rfl⟩
    · exact hupd v h' hr u w' h3 h4
    · exact hupd v h' hr undef w' h3 h4
  | new v h' =>
    rw [hr] at hop
    obtain ⟨u, w', σ', h1, h2, h3⟩ := hop
    rw [h1]
    exact hnew v h' hr u w' σ' h2 h3
  | call f args =>
    rw [hr] at hop
    obtain ⟨vs, h1, h2⟩ := hop
    obtain ⟨v, h', nx', h3, h4⟩ := hcl f args hr
    rw [h2]
    rcases hcal f args h nx v h' nx' h3 σ w vs rh bd gl h1 with ⟨h5, h6⟩ | ⟨u, w', h5, σ', h6, h7, h8⟩
    · rw [h5]
      refine h6.mono ?_
      rintro e w' ⟨u, rfl, σ', h7, h8, h9⟩
      exact h4 u w' σ' h9 h7 h8
    · rw [h5]
      exact h4 u w' σ' h8 h6 h7
  | bad => exact absurd hr hbad
section
variable {base ab : Nat} {sel : Nat → Bool} {b : H}
theorem extH_cases : ∀ {fs : List (Nat × AB)} {k : Nat} {A : AB}, (extH base ab sel b fs).get k = some A →
    (∃ f, (f, A) ∈ fs ∧ Nat.testBit ab f = false ∧ sel f = true ∧ k = base + f) ∨ (b.get k = some A ∧ ∀ f B, (f, B) ∈ fs → Nat.testBit ab f = false → sel f = true → k ≠ base + f)
  | [], k, A, h => .inr ⟨h, fun _ _ hm => by cases hm⟩
  | (g, B) :: fs, k, A, h => by
    unfold extH at h
    have rest : (extH base ab sel b fs).get k = some A → (Nat.testBit ab g = false → sel g = true → k ≠ base + g) → (∃ f, (f, A) ∈ (g, B) :: fs ∧ Nat.testBit ab f = false ∧ sel f = true ∧ k = base + f) ∨ (b.get k = some A ∧ ∀ f C, (f, C) ∈ (g, B) :: fs → Nat.testBit ab f = false → sel f = true → k ≠ base + f) := by
      intro h hne
      rcases extH_cases h with ⟨f, h1, h2⟩ | ⟨h1, h2⟩
      · exact .inl ⟨f, .tail _ h1, h2⟩
      · refine .inr ⟨h1, fun f C hm hl hs => ?_⟩
        rcases List.mem_cons.1 hm with e | hm
        · cases e; exact hne hl hs
        · exact h2 f C hm hl hs
    by_cases c : Nat.testBit ab g = false ∧ sel g = true
    · rw [c.1, c.2] at h
      simp only [Bool.not_false, Bool.and_self, cond_true] at h
      rw [Tr.get_set] at h
      by_cases e : k = base + g
      · simp only [e, if_true, Option.some.injEq] at h
        exact .inl ⟨g, by rw [h]; exact .head _, c.1, c.2, e⟩
      · simp only [e, if_false] at h
        exact rest h fun _ _ => e
    · have : (!Nat.testBit ab g && sel g) = false := by
        cases hs : sel g with
        | false => simp
        | true => simp [hs] at c; simpa using c
      rw [this, cond_false] at h
      exact rest h fun h1 h2 => absurd ⟨h1, h2⟩ c
theorem extH_old : ∀ {fs : List (Nat × AB)} {k : Nat}, (∀ f B, (f, B) ∈ fs → Nat.testBit ab f = false → sel f = true → k ≠ base + f) → (extH base ab sel b fs).get k = b.get k
  | [], k, _ => rfl
  | (g, B) :: fs, k, h => by
    unfold extH
    have ih := extH_old (fs := fs) (k := k) fun f C hm => h f C (.tail _ hm)
    cases hc : (!Nat.testBit ab g && sel g) with
    | false => simpa using ih
    | true =>
      simp only [Bool.and_eq_true, Bool.not_eq_true'] at hc
      rw [cond_true, Tr.get_set, if_neg (h g B (.head _) hc.1 hc.2), ih]
theorem extH_new : ∀ {fs : List (Nat × AB)}, fs.Pairwise (fun x y => y.1 < x.1) → ∀ {f : Nat} {A : AB}, (f, A) ∈ fs → Nat.testBit ab f = false → sel f = true → (extH base ab sel b fs).get (base + f) = some A
  | (g, B) :: fs, hp, f, A, hm, hl, hs => by
    unfold extH
    rw [List.pairwise_cons] at hp
    rcases List.mem_cons.1 hm with e | hm
    · cases e
      simp only [hl, hs, Bool.not_false, Bool.and_self, cond_true, Tr.get_set, if_true]
    · have ih := extH_new hp.2 hm hl hs
      have := hp.1 _ hm
      cases (!Nat.testBit ab g && sel g) with
      | false => exact ih
      | true => rw [cond_true, Tr.get_set, if_neg (by omega), ih]
theorem extH_sub {fs gs : List (Nat × AB)} {sel' : Nat → Bool} (hp : gs.Pairwise (fun x y => y.1 < x.1)) (hm : ∀ f A, (f, A) ∈ fs → Nat.testBit ab f = false → sel f = true → (f, A) ∈ gs ∧ sel' f = true)
    (hn : ∀ f A, (f, A) ∈ gs → Nat.testBit ab f = false → b.get (base + f) = none) : Sub (extH base ab sel b fs) (extH base ab sel' b gs) := by
  intro k A hk
  rcases extH_cases hk with ⟨f, h1, h2, h3, rfl⟩ | ⟨h1, h2⟩
  · obtain ⟨h4, h5⟩ := hm f A h1 h2 h3
    exact extH_new hp h4 h2 h5
  · rw [extH_old, h1]
    intro f B hf hl hs e
    rw [e, hn f B hf hl] at h1
    cases h1
end
inductive Wr (cal : CallF) (h0 : H) (nx0 : Nat) : NX → AV → H → Nat → Prop where
  | val (v : AV) : Wr cal h0 nx0 (.val v) v h0 nx0
  | upd (v : AV) (h : H) : Wr cal h0 nx0 (.upd v h) v h nx0
  | new (v : AV) (h : H) : Wr cal h0 nx0 (.new v h) v h nx0
  | call (f : FuncId) (args : List AV) (v : AV) (h : H) (nx : Nat) (hc : cal f args h0 nx0 = .ok v h nx) : Wr cal h0 nx0 (.call f args) v h nx
inductive Kind (P : Program) (cal : CallF) (ops : Array Oper) (base : Nat) (o : Oper) (m : Nat) (s : DState) : DState → Prop where
  | skip (hw : wantedA ops s.env o.guard = some false) : Kind P cal ops base o m s { s with i := s.i + 1, env := putA s.env o.dst undefA }
  | pure (v : AV) (hw : wantedA ops s.env o.guard = some true) (hc : clsOf o.op = .p) (hv : opA P o.op s.env .e 0 = .val v) : Kind P cal ops base o m s { s with i := s.i + 1, env := putA s.env o.dst v }
  | read (v : AV) (hw : wantedA ops s.env o.guard = some true) (hc : clsOf o.op = .r ∨ clsOf o.op = .f) (hv : opA P o.op s.env (extH base s.pr.ab (Nat.testBit m) s.pr.b s.fs) 0 = .val v)
      (hb : chkBack P base m s.fs o.op s.env v s.pr.lo s.old = true) : Kind P cal ops base o m s { s with i := s.i + 1, env := putA s.env o.dst v, rs := ⟨s.i, o.op, s.env, v⟩ :: s.rs }
  | fresh (v : AV) (h1 : H) (blk : AB) (hw : wantedA ops s.env o.guard = some true) (hc : clsOf o.op = .f) (hv : opA P o.op s.env .e (base + s.i) = .new v h1) (hb : h1.get (base + s.i) = some blk) :
      Kind P cal ops base o m s { s with i := s.i + 1, env := putA s.env o.dst v, fs := (s.i, blk) :: s.fs }
  | write (v : AV) (h : H) (nx : Nat) (hw : wantedA ops s.env o.guard = some true) (h1 : ∀ p ∈ s.pr :: s.old, p.lo = 0 ∨ Nat.testBit m (p.lo - 1) = true)
      (hv : Wr cal (extH base s.pr.ab (Nat.testBit m) s.pr.b s.fs) s.pr.nx (opA P o.op s.env (extH base s.pr.ab (Nat.testBit m) s.pr.b s.fs) (base + s.i)) v h nx)
      (h3 : ∀ r ∈ s.rs, Nat.testBit m r.i = true ∨ chk P r.op r.env r.v h = true) :
      Kind P cal ops base o m s { i := s.i + 1, env := putA s.env o.dst v, fs := s.fs, pr := ⟨s.i + 1, Nat.lor (Nat.lor s.pr.ab m) (Nat.pow 2 s.i), h, nx⟩, old := s.pr :: s.old, rs := s.rs }
theorem stepD_kind {cal : CallF} {ops : Array Oper} {base : Nat} {o : Oper} {m : Nat} {s s' : DState} (hs : stepD P cal ops base o m s = some s') : Kind P cal ops base o m s s' := by
  have hread : wantedA ops s.env o.guard = some true → (clsOf o.op = .r ∨ clsOf o.op = .f) → readD P base o m s = some s' → Kind P cal ops base o m s s' := by
    intro hw hc hr
    unfold readD at hr
    split at hr
    · rename_i v hv
      cases hb : chkBack P base m s.fs o.op s.env v s.pr.lo s.old with
      | false => rw [hb] at hr; cases hr
      | true => rw [hb] at hr; cases hr; exact .read v hw hc hv hb
    · cases hr
  unfold stepD at hs
  split at hs
  · rename_i hw
    split at hs
    · rename_i hc
      split at hs
      · rename_i v hv
        cases hs
        exact .pure v hw hc hv
      · cases hs
    · rename_i hc
      exact hread hw (.inl hc) hs
    · rename_i hc
      split at hs
      · rename_i v h hv
        split at hs
        · rename_i blk hb
          cases hs
          exact .fresh v h blk hw hc hv hb
        · cases hs
      · exact hread hw (.inr hc) hs
    · rename_i hc
      unfold writeD at hs
      generalize hg : ((s.pr :: s.old).all (fun p => Nat.beq p.lo 0 || Nat.testBit m (p.lo - 1))) = g at hs
      cases g with
      | false => cases hs
      | true =>
        rw [cond_true] at hs
        simp only [List.all_eq_true, Bool.or_eq_true, beq_dec, decide_eq_true_eq] at hg
        have fin : ∀ {v h nx}, wroteD P o m s v h nx = some s' → Wr cal (extH base s.pr.ab (Nat.testBit m) s.pr.b s.fs) s.pr.nx (opA P o.op s.env (extH base s.pr.ab (Nat.testBit m) s.pr.b s.fs) (base + s.i)) v h nx → Kind P cal ops base o m s s' := by
          intro v h nx hd hv
          unfold wroteD at hd
          generalize hr : (s.rs.all (fun r => Nat.testBit m r.i || chk P r.op r.env r.v h)) = r at hd
          cases r with
          | false => cases hd
          | true =>
            cases hd
            simp only [List.all_eq_true, Bool.or_eq_true] at hr
            exact .write v h nx hw hg hv hr
        split at hs
        · rename_i v hv; exact fin hs (by rw [hv]; exact .val v)
        · rename_i v h hv; exact fin hs (by rw [hv]; exact .upd v h)
        · rename_i v h hv; exact fin hs (by rw [hv]; exact .new v h)
        · rename_i f args hv
          split at hs
          · rename_i v h nx hc; exact fin hs (by rw [hv]; exact .call f args v h nx hc)
          · cases hs
        · cases hs
  · rename_i hw
    cases hs
    exact .skip hw
  · cases hs
theorem evDraw_chain {cal : CallF} {ops : Array Oper} {base : Nat} : ∀ (os : List Oper) (ms : List Nat) (s : DState), evDraw P cal ops base os ms s ≠ .bad →
    ∃ S : Nat → DState, S 0 = s ∧ (∀ i o, os[i]? = some o → ∃ m, ms[i]? = some m ∧ Kind P cal ops base o m (S i) (S (i + 1))) ∧
      evDraw P cal ops base os ms s = .norm (S os.length).env (extH base (S os.length).pr.ab (fun _ => true) (S os.length).pr.b (S os.length).fs) (S os.length).pr.nx
  | [], ms, s, _ => ⟨fun _ => s, rfl, fun i o h => by simp at h, by cases ms <;> rfl⟩
  | o :: os, [], s, h => absurd rfl h
  | o :: os, m :: ms, s, h => by
    unfold evDraw at h ⊢
    split at h
    · rename_i s' hs
      obtain ⟨S, h1, h2, h3⟩ := evDraw_chain os ms s' h
      refine ⟨fun | 0 => s | k + 1 => S k, rfl, fun i o' ho => ?_, h3⟩
      cases i with
      | zero =>
        cases ho
        exact ⟨m, rfl, by simp only; rw [h1]; exact stepD_kind hs⟩
      | succ k => exact h2 k o' ho
    · exact absurd rfl h
theorem maskOf_bit {acc : List Nat} : ∀ {es : List Edge} {j : Nat}, Nat.testBit (maskOf acc es) j = true → ∃ e ∈ es, Region.binds .any e = true ∧ (j = e.on ∨ ∃ m, acc[e.on]? = some m ∧ Nat.testBit m j = true)
  | [], j, h => by simp [maskOf] at h
  | e :: es, j, h => by
    unfold maskOf at h
    cases hb : Region.binds .any e with
    | false =>
      rw [hb, cond_false] at h
      obtain ⟨e', h1, h2⟩ := maskOf_bit h
      exact ⟨e', .tail _ h1, h2⟩
    | true =>
      rw [hb, cond_true, nth_eq] at h
      change Nat.testBit ((2 ^ e.on ||| _) ||| _) j = true at h
      rw [Nat.testBit_or, Nat.testBit_or, Bool.or_eq_true, Bool.or_eq_true] at h
      rcases h with (h | h) | h
      · rw [Nat.testBit_two_pow] at h
        exact ⟨e, .head _, hb, .inl (by simpa [eq_comm] using h)⟩
      · refine ⟨e, .head _, hb, .inr ?_⟩
        split at h
        · rename_i m hm; exact ⟨m, hm, h⟩
        · simp at h
      · obtain ⟨e', h1, h2⟩ := maskOf_bit h
        exact ⟨e', .tail _ h1, h2⟩
theorem masks_pre : ∀ (os : List Oper) (acc : List Nat) (k : Nat), k < acc.length → (masks os acc)[k]? = acc[k]?
  | [], acc, k, _ => rfl
  | o :: os, acc, k, h => by
    unfold masks
    rw [masks_pre os _ k (by rw [app_eq]; simp; omega), app_eq, List.getElem?_append_left h]
theorem masks_get : ∀ (os : List Oper) (acc : List Nat) (i : Nat) (o : Oper), os[i]? = some o →
    ∃ m, (masks os acc)[acc.length + i]? = some m ∧ ∀ j, Nat.testBit m j = true → ∃ e ∈ o.after.toList, Region.binds .any e = true ∧ (j = e.on ∨ ∃ m', e.on < acc.length + i ∧ (masks os acc)[e.on]? = some m' ∧ Nat.testBit m' j = true)
  | [], acc, i, o, h => by cases h
  | o' :: os, acc, 0, o, h => by
    cases h
    unfold masks
    refine ⟨maskOf acc o'.after.toList, ?_, fun j hj => ?_⟩
    · rw [masks_pre _ _ _ (by rw [app_eq]; simp), app_eq, Nat.add_zero, List.getElem?_append_right (Nat.le_refl _)]
      simp
    · obtain ⟨e, h1, h2, h3 | ⟨m, h3, h4⟩⟩ := maskOf_bit hj
      · exact ⟨e, h1, h2, .inl h3⟩
      · have hlt : e.on < acc.length := (List.getElem?_eq_some_iff.1 h3).1
        refine ⟨e, h1, h2, .inr ⟨m, by omega, ?_, h4⟩⟩
        rw [masks_pre _ _ _ (by rw [app_eq]; simp; omega), app_eq, List.getElem?_append_left hlt, h3]
  | o' :: os, acc, i + 1, o, h => by
    unfold masks
    obtain ⟨m, h1, h2⟩ := masks_get os (app acc [maskOf acc o'.after.toList]) i o h
    have hl : (app acc [maskOf acc o'.after.toList]).length = acc.length + 1 := by rw [app_eq]; simp
    rw [hl] at h1 h2
    have e1 : acc.length + (i + 1) = acc.length + 1 + i := by omega
    rw [e1]
    exact ⟨m, h1, h2⟩
end
end Go.Ev
namespace Go.Ev
section
variable {P : Program}
structure Way (P : Program) (cal : CallF) (ops : Array Oper) (base : Nat) (env0 : Env) (h0 : H) (S : Nat → DState) : Prop where
  s0 : S 0 = ⟨0, env0, [], ⟨0, 0, h0, base + ops.size⟩, [], []⟩
  st : ∀ i o, ops[i]? = some o → ∃ m, (masks ops.toList [])[i]? = some m ∧ Kind P cal ops base o m (S i) (S (i + 1))
section
variable {cal : CallF} {ops : Array Oper} {base : Nat} {env0 : Env} {h0 : H} {S : Nat → DState}
theorem Way.step (W : Way P cal ops base env0 h0 S) {i : Nat} (hi : i < ops.size) : ∃ o m, ops[i]? = some o ∧ (masks ops.toList [])[i]? = some m ∧ Kind P cal ops base o m (S i) (S (i + 1)) := by
  have ho : ops[i]? = some ops[i] := Array.getElem?_eq_getElem hi
  obtain ⟨m, h1, h2⟩ := W.st i _ ho
  exact ⟨_, m, ho, h1, h2⟩
def IsW (S : Nat → DState) (j : Nat) : Prop := (S (j + 1)).pr.lo = j + 1
structure Plain (S : Nat → DState) (i : Nat) : Prop where
  ix : (S i).i = i
  lo : (S i).pr.lo ≤ i
  fs : (S i).fs.Pairwise (fun x y => y.1 < x.1)
  fl : ∀ f A, (f, A) ∈ (S i).fs → f < i
theorem Way.plain (W : Way P cal ops base env0 h0 S) : ∀ i, i ≤ ops.size → Plain S i
  | 0, _ => by
    constructor <;> rw [W.s0] <;> simp
  | i + 1, hi => by
    have p := W.plain i (by omega)
    obtain ⟨o, m, _, _, k⟩ := W.step (i := i) (by omega)
    generalize hs : S (i + 1) = s' at k
    have hi := p.ix
    have hl := p.lo
    cases k
    case fresh v h1 blk _ _ _ _ =>
      constructor <;> rw [hs] <;> simp only
      · omega
      · omega
      · rw [List.pairwise_cons]
        exact ⟨fun x hx => by have := p.fl x.1 x.2 hx; omega, p.fs⟩
      · intro f A hm
        rcases List.mem_cons.1 hm with e | hm
        · cases e; omega
        · have := p.fl f A hm; omega
    all_goals
      constructor <;> rw [hs] <;> simp only
      · omega
      · omega
      · exact p.fs
      · exact fun f A hm => by have := p.fl f A hm; omega
theorem Way.w_or (W : Way P cal ops base env0 h0 S) {i : Nat} (hi : i < ops.size) :
    (IsW S i ∧ (S (i + 1)).old = (S i).pr :: (S i).old ∧ (S (i + 1)).fs = (S i).fs ∧ (S (i + 1)).rs = (S i).rs) ∨
    (¬ IsW S i ∧ (S (i + 1)).pr = (S i).pr ∧ (S (i + 1)).old = (S i).old) := by
  have p := W.plain i (by omega)
  obtain ⟨o, m, _, _, k⟩ := W.step (i := i) (by omega)
  have hlo := p.lo
  have hI := p.ix
  unfold IsW
  generalize S (i + 1) = s' at k
  cases k
  case write => exact .inl ⟨by simp only; omega, rfl, rfl, rfl⟩
  all_goals exact .inr ⟨by simp only; omega, rfl, rfl⟩
theorem Way.pr_same (W : Way P cal ops base env0 h0 S) {q : Nat} : ∀ i, q ≤ i → i ≤ ops.size → (∀ j, q ≤ j → j < i → ¬ IsW S j) → (S i).pr = (S q).pr ∧ (S i).old = (S q).old
  | 0, hq, _, _ => by have : q = 0 := by omega
                      subst this; exact ⟨rfl, rfl⟩
  | i + 1, hq, hi, hn => by
    by_cases e : q = i + 1
    · subst e; exact ⟨rfl, rfl⟩
    · rcases W.w_or (i := i) (by omega) with ⟨h, _⟩ | ⟨_, h1, h2⟩
      · exact absurd h (hn i (by omega) (by omega))
      · obtain ⟨h3, h4⟩ := W.pr_same i (by omega) (by omega) fun j h1 h2 => hn j h1 (by omega)
        exact ⟨h1.trans h3, h2.trans h4⟩
theorem Way.last (W : Way P cal ops base env0 h0 S) : ∀ i, i ≤ ops.size → (S i).pr = (S (S i).pr.lo).pr ∧ (S i).old = (S (S i).pr.lo).old ∧ ((S i).pr.lo = 0 ∨ (0 < (S i).pr.lo ∧ IsW S ((S i).pr.lo - 1))) ∧ (∀ j, (S i).pr.lo ≤ j → j < i → ¬ IsW S j)
  | 0, _ => by
    have : (S 0).pr.lo = 0 := by rw [W.s0]
    rw [this]
    exact ⟨rfl, rfl, .inl rfl, fun j _ h => by omega⟩
  | i + 1, hi => by
    rcases W.w_or (i := i) (by omega) with ⟨h, h2, _⟩ | ⟨hn, h1, h2⟩
    · have hl : (S (i + 1)).pr.lo = i + 1 := h
      rw [hl]
      exact ⟨rfl, rfl, .inr ⟨by omega, h⟩, fun j h1 h2 => by omega⟩
    · obtain ⟨k1, k2, k3, k4⟩ := W.last i (by omega)
      rw [h1, h2]
      refine ⟨k1, k2, k3, fun j hj hj' => ?_⟩
      by_cases e : j = i
      · subst e; exact hn
      · exact k4 j hj (by omega)
theorem Way.lo_mono (W : Way P cal ops base env0 h0 S) {i : Nat} : ∀ j, i ≤ j → j ≤ ops.size → (S i).pr.lo ≤ (S j).pr.lo
  | 0, h, _ => by have : i = 0 := by omega
                  subst this; exact Nat.le_refl _
  | j + 1, h, hj => by
    by_cases e : i = j + 1
    · subst e; exact Nat.le_refl _
    · have ih := W.lo_mono (i := i) j (by omega) (by omega)
      have := (W.plain j (by omega)).lo
      rcases W.w_or (i := j) (by omega) with ⟨h, _⟩ | ⟨_, h1, _⟩
      · unfold IsW at h; omega
      · rw [h1]; exact ih
theorem Way.all_w (W : Way P cal ops base env0 h0 S) : ∀ i, i ≤ ops.size → ∀ j, j < i → IsW S j → ∃ p ∈ (S i).pr :: (S i).old, p.lo = j + 1
  | 0, _, j, h, _ => by omega
  | i + 1, hi, j, hj, hw => by
    rcases W.w_or (i := i) (by omega) with ⟨h, h2, _⟩ | ⟨hn, h1, h2⟩
    · by_cases e : j = i
      · subst e; exact ⟨_, .head _, h⟩
      · obtain ⟨p, h3, h4⟩ := W.all_w i (by omega) j (by omega) hw
        exact ⟨p, by rw [h2]; exact .tail _ h3, h4⟩
    · by_cases e : j = i
      · subst e; exact absurd hw hn
      · rw [h1, h2]; exact W.all_w i (by omega) j (by omega) hw
theorem Way.fs_fwd (W : Way P cal ops base env0 h0 S) {i : Nat} {x : Nat × AB} : ∀ j, i ≤ j → j ≤ ops.size → x ∈ (S i).fs → x ∈ (S j).fs
  | 0, h, _, hx => by have : i = 0 := by omega
                      subst this; exact hx
  | j + 1, h, hj, hx => by
    by_cases e : i = j + 1
    · subst e; exact hx
    · have ih := W.fs_fwd j (by omega) (by omega) hx
      obtain ⟨o, m, _, _, k⟩ := W.step (i := j) (by omega)
      generalize S (j + 1) = s' at k
      cases k
      case fresh => exact .tail _ ih
      all_goals exact ih
theorem Way.fs_back (W : Way P cal ops base env0 h0 S) {i : Nat} {x : Nat × AB} (hlt : x.1 < i) : ∀ j, i ≤ j → j ≤ ops.size → x ∈ (S j).fs → x ∈ (S i).fs
  | 0, h, _, hx => by have : i = 0 := by omega
                      subst this; exact hx
  | j + 1, h, hj, hx => by
    by_cases e : i = j + 1
    · subst e; exact hx
    · have p := (W.plain j (by omega)).ix
      refine W.fs_back hlt j (by omega) (by omega) ?_
      obtain ⟨o, m, _, _, k⟩ := W.step (i := j) (by omega)
      generalize S (j + 1) = s' at k hx
      cases k
      case fresh =>
        rcases List.mem_cons.1 hx with e | h
        · subst e; simp only at hlt; omega
        · exact h
      all_goals exact hx
theorem Way.rs_fwd (W : Way P cal ops base env0 h0 S) {i : Nat} {r : RD} : ∀ j, i ≤ j → j ≤ ops.size → r ∈ (S i).rs → r ∈ (S j).rs
  | 0, h, _, hx => by have : i = 0 := by omega
                      subst this; exact hx
  | j + 1, h, hj, hx => by
    by_cases e : i = j + 1
    · subst e; exact hx
    · have ih := W.rs_fwd j (by omega) (by omega) hx
      obtain ⟨o, m, _, _, k⟩ := W.step (i := j) (by omega)
      generalize S (j + 1) = s' at k
      cases k
      case read => exact .tail _ ih
      all_goals exact ih
theorem putA_get {env : Env} {d : Option Tmp} {v : AV} {t : Nat} : (putA env d v).get t = if d = some t then some v else env.get t := by
  cases d with
  | none => simp [putA]
  | some d => simp only [putA, Tr.get_set, Option.some.injEq, eq_comm (a := t)]
theorem Way.put (W : Way P cal ops base env0 h0 S) {i : Nat} {o : Oper} (ho : ops[i]? = some o) : ∃ v, (S (i + 1)).env = putA (S i).env o.dst v := by
  obtain ⟨m, _, k⟩ := W.st i o ho
  generalize S (i + 1) = s' at k
  cases k
  all_goals exact ⟨_, rfl⟩
theorem Way.env_old (W : Way P cal ops base env0 h0 S) {t : Nat} {k : Nat} : ∀ i, k ≤ i → i ≤ ops.size → (∀ j o, k ≤ j → j < i → ops[j]? = some o → o.dst ≠ some t) → (S i).env.get t = (S k).env.get t
  | 0, hk, _, _ => by have : k = 0 := by omega
                      subst this; rfl
  | i + 1, hk, hi, hn => by
    by_cases e : k = i + 1
    · subst e; rfl
    · have ho : ops[i]? = some ops[i] := Array.getElem?_eq_getElem (by omega)
      obtain ⟨v, hv⟩ := W.put ho
      rw [hv, putA_get, if_neg (hn i _ (by omega) (by omega) ho)]
      exact W.env_old i (by omega) (by omega) fun j o h1 h2 => hn j o h1 (by omega)
theorem Way.back (W : Way P cal ops base env0 h0 S) {m q : Nat} {fs : List (Nat × AB)} {op : Op} {env : Env} {v : AV} (hq : (S q).pr.lo = q) (hm : ∀ j, q ≤ j → j < ops.size → IsW S j → Nat.testBit m j = false) : ∀ i, q ≤ i → i ≤ ops.size → q < (S i).pr.lo →
    chkBack P base m fs op env v (S i).pr.lo (S i).old = true → chk P op env v (extH base (S q).pr.ab (Nat.testBit m) (S q).pr.b fs) = true
  | 0, h, _, hl, _ => by
    have : q = 0 := by omega
    subst this; omega
  | i + 1, h, hi, hl, hc => by
    rcases W.w_or (i := i) (by omega) with ⟨hw, h2, _⟩ | ⟨hn, h1, h2⟩
    · have hlo : (S (i + 1)).pr.lo = i + 1 := hw
      rw [hlo, h2] at hc
      rw [hlo] at hl
      unfold chkBack at hc
      rw [Nat.add_sub_cancel, hm i (by omega) (by omega) hw, Bool.false_or, Bool.and_eq_true] at hc
      have hmono := W.lo_mono (i := q) i (by omega) (by omega)
      rw [hq] at hmono
      by_cases e : q = (S i).pr.lo
      · have hl := (W.last i (by omega)).1
        rw [← e] at hl hc
        rw [hl] at hc
        exact hc.1
      · exact W.back hq hm i (by omega) (by omega) (by omega) hc.2
    · have hmono := W.lo_mono (i := q) i (by have := (W.plain i (by omega)).lo; rw [h1] at hl; omega) (by omega)
      rw [h1, h2] at hc
      rw [h1] at hl
      exact W.back hq hm i (by have := (W.plain i (by omega)).lo; omega) (by omega) hl hc
end
theorem drawOk_spec {ops : Array Oper} (h : drawOk ops = true) :
    (∀ i o, ops[i]? = some o → ∀ e ∈ o.after, Region.binds .any e = true → e.on < i) ∧
    (∀ i o i' o' d, ops[i]? = some o → ops[i']? = some o' → i ≠ i' → o.dst = some d → o'.dst ≠ some d ∧
      (d ∈ looksA ops o' → ∃ m m', (masks ops.toList [])[i]? = some m ∧ (masks ops.toList [])[i']? = some m' ∧ (if i < i' then Nat.testBit m' i = true else Nat.testBit m i' = true))) := by
  unfold drawOk at h
  simp only [List.all_eq_true, Bool.and_eq_true] at h
  have mem : ∀ {i o}, ops[i]? = some o → (o, i) ∈ ops.toList.zipIdx := fun {i o} ho => by
    rw [List.mk_mem_zipIdx_iff_getElem?]
    simpa using ho
  constructor
  · intro i o ho e he hb
    have := (h (o, i) (mem ho)).1 e (Array.mem_toList_iff.2 he)
    simpa [hb, blt_dec] using this
  · intro i o i' o' d ho ho' hne hd
    have := (h (o, i) (mem ho)).2 (o', i') (mem ho')
    simp only [apartD, beq_dec, hne, decide_false, Bool.false_or, hd, Bool.and_eq_true, Bool.or_eq_true, List.all_eq_true, nth_eq] at this
    refine ⟨fun e => ?_, fun hl => ?_⟩
    · have := this.1
      rw [e] at this
      simp [beq_dec] at this
    · rcases this.2 with h1 | h1
      · have := h1 d hl
        simp [beq_dec] at this
      · split at h1
        · rename_i m m' hm hm'
          refine ⟨m, m', hm, hm', ?_⟩
          rw [blt_dec] at h1
          by_cases c : i < i'
          · rw [if_pos c]; simpa [c] using h1
          · rw [if_neg c]; simpa [c] using h1
        · cases h1
theorem wantedA_congr {ops : Array Oper} {env env' : Env} {o : Oper} (h : ∀ t ∈ looksA ops o, env.get t = env'.get t) : wantedA ops env o.guard = wantedA ops env' o.guard := by
  unfold wantedA
  cases hg : o.guard with
  | none => rfl
  | some p =>
    obtain ⟨j, want⟩ := p
    simp only
    cases hj : ops[j]? with
    | none => rfl
    | some oj =>
      simp only
      cases hd : oj.dst with
      | none => rfl
      | some d =>
        simp only
        rw [h d (List.mem_append_right _ (by simp [hg, hj, hd]))]
theorem rd_congr {ops : Array Oper} {env env' : Env} {o : Oper} (h : ∀ t ∈ looksA ops o, env.get t = env'.get t) : ∀ x ∈ o.op.operands, rd env x = rd env' x := by
  intro x hx
  cases x with
  | tmp t =>
    simp only [rd]
    rw [h t (List.mem_append_left _ (List.mem_filterMap.2 ⟨.tmp t, Array.mem_toList_iff.2 hx, rfl⟩))]
  | const v => rfl
  | global g => rfl
  | func f => rfl
end
end Go.Ev
namespace Go.Ev
section
variable {P : Program}
structure Inv (P : Program) (ops : Array Oper) (base N : Nat) (env0 : Env) (h0 : H) (S : Nat → DState) (σ0 : Map) (w0 : World) (D : Nat → Bool) (q : Nat) (σ : Map) (env : Env) (a : Act) (w : World) : Prop where
  en : ∀ j o t, ops[j]? = some o → o.dst = some t → D j = true → env.get t = (S ops.size).env.get t
  e0 : ∀ t, (∀ j o, ops[j]? = some o → o.dst = some t → D j = false) → env.get t = env0.get t
  st : St P N σ env (extH base (S q).pr.ab D (S q).pr.b (S ops.size).fs) (S q).pr.nx a w
  qn : q ≤ ops.size
  ql : (S q).pr.lo = q
  qw : ∀ j, j < ops.size → IsW S j → (D j = true ↔ j < q)
  ext : Ext (Rg base (S q).pr.nx) σ0 h0 w0 σ (extH base (S q).pr.ab D (S q).pr.b (S ops.size).fs) w
  nx : base + ops.size ≤ (S q).pr.nx
  fr : ∀ i, i < ops.size → D i = false → σ (base + i) = none
  bn : ∀ f, f < ops.size → Nat.testBit (S q).pr.ab f = false → (S q).pr.b.get (base + f) = none
  ab : ∀ f, Nat.testBit (S q).pr.ab f = true → D f = true
  cl : ∀ i m, D i = true → (masks ops.toList [])[i]? = some m → ∀ j, Nat.testBit m j = true → D j = true
section
variable {cal : CallF} {ops : Array Oper} {base N : Nat} {env0 : Env} {h0 : H} {S : Nat → DState} {σ0 : Map} {w0 : World} {D : Nat → Bool} {q : Nat} {σ : Map} {env : Env} {a : Act} {w : World}
theorem masks_at {i : Nat} {o : Oper} {m : Nat} (ho : ops[i]? = some o) (hm : (masks ops.toList [])[i]? = some m) :
    ∀ j, Nat.testBit m j = true → ∃ e ∈ o.after, Region.binds .any e = true ∧ (j = e.on ∨ ∃ m', (masks ops.toList [])[e.on]? = some m' ∧ Nat.testBit m' j = true) := by
  obtain ⟨m', h1, h2⟩ := masks_get ops.toList [] i o (by simpa using ho)
  simp only [List.length_nil, Nat.zero_add] at h1 h2
  rw [hm] at h1
  cases h1
  intro j hj
  obtain ⟨e, h3, h4, h5 | ⟨m', _, h6, h7⟩⟩ := h2 j hj
  · exact ⟨e, Array.mem_toList_iff.1 h3, h4, .inl h5⟩
  · exact ⟨e, Array.mem_toList_iff.1 h3, h4, .inr ⟨m', h6, h7⟩⟩
theorem masks_lt (hd : drawOk ops = true) : ∀ (n i : Nat), i < n → ∀ (m : Nat), (masks ops.toList [])[i]? = some m → ∀ (o : Oper), ops[i]? = some o → ∀ j, Nat.testBit m j = true → j < i
  | 0, _, h, _, _, _, _, _, _ => absurd h (Nat.not_lt_zero _)
  | n + 1, i, h, m, hm, o, ho, j, hj => by
    obtain ⟨e, h1, h2, rfl | ⟨m', h3, h4⟩⟩ := masks_at ho hm j hj
    · exact (drawOk_spec hd).1 i o ho e h1 h2
    · have hlt := (drawOk_spec hd).1 i o ho e h1 h2
      have hin : i < ops.size := (Array.getElem?_eq_some_iff.1 ho).1
      have ho' : ops[e.on]? = some ops[e.on] := Array.getElem?_eq_getElem (by omega)
      have := masks_lt hd n e.on (by omega) m' h3 _ ho' j h4
      omega
theorem Inv.mask (I : Inv P ops base N env0 h0 S σ0 w0 D q σ env a w) {i : Nat} {o : Oper} {m : Nat} (ho : ops[i]? = some o) (hm : (masks ops.toList [])[i]? = some m)
    (hr : ∀ e ∈ o.after, Region.binds .any e = true → D e.on = true) : ∀ j, Nat.testBit m j = true → D j = true := by
  intro j hj
  obtain ⟨e, h1, h2, rfl | ⟨m', h3, h4⟩⟩ := masks_at ho hm j hj
  · exact hr e h1 h2
  · exact I.cl e.on m' (hr e h1 h2) h3 j h4
theorem Inv.looks (I : Inv P ops base N env0 h0 S σ0 w0 D q σ env a w) (W : Way P cal ops base env0 h0 S) (hd : drawOk ops = true) {i : Nat} {o : Oper} {m : Nat} (ho : ops[i]? = some o) (hm : (masks ops.toList [])[i]? = some m)
    (hi : D i = false) (hm' : ∀ j, Nat.testBit m j = true → D j = true) : ∀ t ∈ looksA ops o, env.get t = (S i).env.get t := by
  intro t ht
  obtain ⟨_, ap⟩ := drawOk_spec hd
  have hin : i < ops.size := (Array.getElem?_eq_some_iff.1 ho).1
  have e00 : (S 0).env.get t = env0.get t := by rw [W.s0]
  by_cases hex : ∃ (j : Nat) (oj : Oper), ops[j]? = some oj ∧ oj.dst = some t
  · obtain ⟨j, oj, hj, hdj⟩ := hex
    have hjn : j < ops.size := (Array.getElem?_eq_some_iff.1 hj).1
    have uniq : ∀ k ok, ops[k]? = some ok → ok.dst = some t → k = j := by
      intro k ok hk hdk
      rcases Nat.decEq k j with hne | heq
      · exact absurd hdk (ap j oj k ok t hj hk (Ne.symm hne) hdj).1
      · exact heq
    by_cases eji : j = i
    · subst eji
      rw [I.e0 t fun k ok hk hdk => by rw [uniq k ok hk hdk]; exact hi, ← e00]
      exact (W.env_old _ (by omega) (by omega) fun k ok _ hk' hk hdk => by have := uniq k ok hk hdk; omega).symm
    · obtain ⟨m1, m2, h1, h2, h3⟩ := (ap j oj i o t hj ho eji hdj).2 ht
      rw [hm] at h2
      cases h2
      by_cases c : j < i
      · rw [if_pos c] at h3
        rw [I.en j oj t hj hdj (hm' j h3), W.env_old (k := j + 1) ops.size (by omega) (Nat.le_refl _) fun k ok h1 _ hk hdk => by have := uniq k ok hk hdk; omega]
        exact (W.env_old i (by omega) (by omega) fun k ok h1 _ hk hdk => by have := uniq k ok hk hdk; omega).symm
      · rw [if_neg c] at h3
        have hDj : D j = false := by
          cases hc : D j with
          | false => rfl
          | true => rw [I.cl j m1 hc h1 i h3] at hi; cases hi
        rw [I.e0 t fun k ok hk hdk => by rw [uniq k ok hk hdk]; exact hDj, ← e00]
        exact (W.env_old _ (by omega) (by omega) fun k ok _ hk' hk hdk => by have := uniq k ok hk hdk; omega).symm
  · rw [I.e0 t fun k ok hk hdk => absurd ⟨k, ok, hk, hdk⟩ hex, ← e00]
    exact (W.env_old _ (by omega) (by omega) fun k ok _ _ hk hdk => hex ⟨k, ok, hk, hdk⟩).symm
theorem Inv.next (I : Inv P ops base N env0 h0 S σ0 w0 D q σ env a w) (W : Way P cal ops base env0 h0 S) (hd : drawOk ops = true) {i : Nat} {o : Oper} {m : Nat} (ho : ops[i]? = some o) (hok : operOk P N o = true) (hm : (masks ops.toList [])[i]? = some m)
    (hi : D i = false) (hm' : ∀ j, Nat.testBit m j = true → D j = true)
    {v : AV} {u : Value} {q' : Nat} {τ : Map} {w' : World} {D' : Nat → Bool} (hD' : ∀ j, D' j = (D j || decide (j = i))) (hv : (S (i + 1)).env = putA (S i).env o.dst v) (hu : RV τ v u)
    {M : Nat → Prop} (e : Ext M σ (extH base (S q).pr.ab D (S q).pr.b (S ops.size).fs) w τ (extH base (S q').pr.ab D' (S q').pr.b (S ops.size).fs) w') (hM : ∀ k, M k → k = base + i ∨ (S q).pr.nx ≤ k ∧ k < (S q').pr.nx)
    (hq : q' ≤ ops.size) (hql : (S q').pr.lo = q') (hqw : ∀ j, j < ops.size → IsW S j → (D' j = true ↔ j < q')) (hnx : (S q).pr.nx ≤ (S q').pr.nx)
    (hbn : ∀ f, f < ops.size → Nat.testBit (S q').pr.ab f = false → (S q').pr.b.get (base + f) = none) (hab : ∀ f, Nat.testBit (S q').pr.ab f = true → D' f = true) :
    Inv P ops base N env0 h0 S σ0 w0 D' q' τ (putA env o.dst v) (a.put o.dst u) w' := by
  have hin : i < ops.size := (Array.getElem?_eq_some_iff.1 ho).1
  obtain ⟨_, ap⟩ := drawOk_spec hd
  have hnx0 := I.nx
  refine ⟨?_, ?_, I.st.put e hnx (fun k hk => by rcases hM k hk with h | h <;> omega) hok hu, hq, hql, hqw, ?_, by omega, ?_, hbn, hab, ?_⟩
  · intro j oj t hj hdj hDj
    rw [putA_get]
    rw [hD'] at hDj
    by_cases eij : j = i
    · subst eij
      rw [ho] at hj
      cases hj
      rw [if_pos hdj, W.env_old (k := j + 1) ops.size (by omega) (Nat.le_refl _) fun k ok h1 _ hk hdk => (ap j o k ok t ho hk (by omega) hdj).1 hdk, hv, putA_get, if_pos hdj]
    · rw [if_neg (fun hdi => (ap j oj i o t hj ho eij hdj).1 hdi)]
      exact I.en j oj t hj hdj (by simpa [eij] using hDj)
  · intro t ht
    rw [putA_get]
    have hne : o.dst ≠ some t := fun hdi => by have := ht i o ho hdi; rw [hD'] at this; simp at this
    rw [if_neg hne]
    exact I.e0 t fun j oj hj hdj => by have := ht j oj hj hdj; rw [hD'] at this; simp at this; exact this.1
  · exact I.ext.trans e (fun k hk => ⟨hk.1, by have := hk.2; omega⟩) (fun k hk => by rcases hM k hk with h | h <;> constructor <;> omega)
  · intro j hj hDj
    rw [hD'] at hDj
    simp only [Bool.or_eq_false_iff, decide_eq_false_iff_not] at hDj
    have hσ := I.fr j hj hDj.1
    cases hτ : τ (base + j) with
    | none => rfl
    | some L =>
      rcases e.loc _ L hτ with h1 | ⟨h1, _⟩
      · rw [hσ] at h1; cases h1
      · rcases hM _ h1 with h | h <;> omega
  · intro j m1 hj hm1 k hk
    rw [hD'] at hj ⊢
    simp only [Bool.or_eq_true, decide_eq_true_eq] at hj ⊢
    rcases hj with hj | rfl
    · exact .inl (I.cl j m1 hj hm1 k hk)
    · rw [hm] at hm1
      cases hm1
      exact .inl (hm' k hk)
end
end
end Go.Ev
namespace Go.Ev
section
variable {P : Program}
variable {cal : CallF} {ops : Array Oper} {base N : Nat} {env0 : Env} {h0 : H} {S : Nat → DState} {σ0 : Map} {w0 : World} {D : Nat → Bool} {q : Nat} {σ : Map} {env : Env} {a : Act} {w : World}
theorem op_wp_val {cal : CallF} (hcal : CallSound P cal) {σ : Map} {env : Env} {h : H} {nx : Nat} {a : Act} {w : World} (rh : RH σ h w) (bd : Bd σ nx) (gl : GlobOk P σ) {o : Oper}
    (hx : ∀ x ∈ o.op.operands, RV σ (rd env x) (a.eval x)) {nid : Nat} (hn : σ nid = none) {v : AV} (hv : opA P o.op env h nid = .val v)
    {Q : Exit → Act → World → Prop} {K : Act → World → Prop} (hk : ∀ u, RV σ v u → K (a.put o.dst u) w) : o.wp P a w K Q := by
  refine op_wp0 hcal rh bd gl hx hn ?_ ?_ ?_ ?_ ?_
  · intro v' h' u hu; rw [hv] at h'; cases h'; exact hk u hu
  · intro v' h' hh; rw [hv] at hh; cases hh
  · intro v' h' hh; rw [hv] at hh; cases hh
  · intro f args hh; rw [hv] at hh; cases hh
  · rw [hv]; exact NX.noConfusion
theorem Way.same_fs (W : Way P cal ops base env0 h0 S) {i : Nat} (hi : i < ops.size) (h : (S (i + 1)).fs = (S i).fs) : ∀ f A, (f, A) ∈ (S ops.size).fs → f ≠ i := by
  intro f A hf e
  subst e
  have := W.fs_back (i := f + 1) (x := (f, A)) (by simp) ops.size (by omega) (Nat.le_refl _) hf
  rw [h] at this
  have := (W.plain f (by omega)).fl f A this
  omega
theorem Inv.subs (I : Inv P ops base N env0 h0 S σ0 w0 D q σ env a w) (W : Way P cal ops base env0 h0 S) {sel sel' : Nat → Bool} {fs : List (Nat × AB)} (h : ∀ f A, (f, A) ∈ fs → Nat.testBit (S q).pr.ab f = false → sel f = true → (f, A) ∈ (S ops.size).fs ∧ sel' f = true) :
    Sub (extH base (S q).pr.ab sel (S q).pr.b fs) (extH base (S q).pr.ab sel' (S q).pr.b (S ops.size).fs) := by
  have p := W.plain ops.size (Nat.le_refl _)
  exact extH_sub p.fs h fun f A hf hq => I.bn f (p.fl f A hf) hq
theorem Inv.wrote (I : Inv P ops base N env0 h0 S σ0 w0 D q σ env a w) (W : Way P cal ops base env0 h0 S) : q = 0 ∨ (0 < q ∧ IsW S (q - 1) ∧ D (q - 1) = true) := by
  have := (W.last q I.qn).2.2.1
  rw [I.ql] at this
  rcases this with h | ⟨h1, h2⟩
  · exact .inl h
  · have := I.qn
    exact .inr ⟨h1, h2, (I.qw (q - 1) (by omega) h2).2 (by omega)⟩
theorem wpOp_of {Q : Exit → Act → World → Prop} {K : Act → World → Prop} {i : Nat} {o : Oper} (ho : ops[i]? = some o) (hw : Region.wanted o (yielded ops a.tmps) = true) (h : o.wp P a w K Q) : wpOp P ops Q i K a w := by
  unfold wpOp
  rw [ho]
  simp only [hw, if_true]
  exact .inl h
theorem Inv.step (hcal : CallSound P cal) (I : Inv P ops base N env0 h0 S σ0 w0 D q σ env a w) (W : Way P cal ops base env0 h0 S) (hd : drawOk ops = true) {i : Nat} {o : Oper} (ho : ops[i]? = some o) (hok : operOk P N o = true)
    (hi : D i = false) (hr : ∀ e ∈ o.after, Region.binds .any e = true → D e.on = true) {Q : Exit → Act → World → Prop} {K : Act → World → Prop}
    (hK : ∀ q' τ env' a' w', Inv P ops base N env0 h0 S σ0 w0 (fun j => D j || decide (j = i)) q' τ env' a' w' → K a' w') : wpOp P ops Q i K a w := by
  have hin : i < ops.size := (Array.getElem?_eq_some_iff.1 ho).1
  obtain ⟨m, hm, k⟩ := W.st i o ho
  have hm' := I.mask ho hm hr
  have lk := I.looks W hd ho hm hi hm'
  have hwant := wantedA_congr lk
  have hops : ∀ x ∈ o.op.operands, RV σ (rd (S i).env x) (a.eval x) := fun x hx => by
    rw [← rd_congr lk x hx]
    exact rd_rel I.st.re I.st.gl (operOk_ops hok x hx)
  have hσ := I.fr i hin hi
  have pl := W.plain i (by omega)
  have pn := W.plain ops.size (Nat.le_refl _)
  have qn := I.qn
  have hlo := pl.lo
  have hix := pl.ix
  have hlast := W.last i (by omega)
  have still : (S (i + 1)).fs = (S i).fs → (S (i + 1)).pr = (S i).pr → ∀ v u, (S (i + 1)).env = putA (S i).env o.dst v → RV σ v u → K (a.put o.dst u) w := by
    intro hfs hpr v u hv hu
    have nw : ¬ IsW S i := by unfold IsW; rw [hpr]; omega
    have hne := W.same_fs hin hfs
    refine hK q σ _ _ _ (I.next W hd ho hok hm hi hm' (fun j => rfl) hv hu (M := fun _ => False) ((Ext.refl I.st.rh).sub I.st.rh (I.subs W fun f A hf hq hs => ⟨hf, ?_⟩) (fun k A h1 _ => I.subs W (sel := D) (sel' := fun j => D j || decide (j = i)) (fun f A hf _ hs => ⟨hf, by simp [hs]⟩) k A h1)) (fun _ h => h.elim) I.qn I.ql ?_ (Nat.le_refl _) I.bn (fun f hf => by simp [I.ab f hf]))
    · simpa [hne f A hf] using hs
    · intro j hj hw
      have : j ≠ i := fun e => nw (e ▸ hw)
      simp only [this, decide_false, Bool.or_false]
      exact I.qw j hj hw
  have hsub : ∀ f A, (f, A) ∈ (S i).fs → Nat.testBit (S q).pr.ab f = false → Nat.testBit m f = true → (f, A) ∈ (S ops.size).fs ∧ D f = true :=
    fun f A hf _ hs => ⟨W.fs_fwd ops.size (by omega) (Nat.le_refl _) hf, hm' f hs⟩
  generalize hs : S (i + 1) = s' at k still
  cases k
  case skip hw =>
    unfold wpOp
    rw [ho]
    rw [← hwant] at hw
    simp only [wanted_rel I.st.re hw, Bool.false_eq_true, if_false]
    exact still rfl rfl undefA undef rfl RV.undef
  case pure v hw hc hv =>
    rw [← hwant] at hw
    refine wpOp_of ho (wanted_rel I.st.re hw) ?_
    refine op_wp_val hcal I.st.rh I.st.bd I.st.gl hops hσ ((cls_p hc _ _ _ _ _).trans hv) fun u hu => still rfl rfl v u rfl hu
  case read v hw hc hv hb =>
    rw [← hwant] at hw
    refine wpOp_of ho (wanted_rel I.st.re hw) ?_
    have nw : ¬ IsW S i := by unfold IsW; rw [hs]; simp only; omega
    have read : opA P o.op (S i).env (extH base (S q).pr.ab D (S q).pr.b (S ops.size).fs) (base + i) = .val v := by
      rcases Nat.lt_trichotomy q (S i).pr.lo with hlt | heq | hgt
      · refine cls_r hc (I.subs W hsub) _ (chk_val (W.back I.ql ?_ i (by omega) (by omega) hlt hb))
        intro j h1 h2 h3
        cases ht : Nat.testBit m j with
        | false => rfl
        | true => have := (I.qw j h2 h3).1 (hm' j ht); omega
      · rw [← heq] at hlast
        rw [hlast.1] at hv
        exact cls_r hc (I.subs W hsub) _ hv
      · rcases I.wrote W with h1 | ⟨h1, h2, h3⟩
        · omega
        · have hge : i < q - 1 := by
            rcases Nat.lt_or_ge i (q - 1) with h | h
            · exact h
            · exfalso
              by_cases e : q - 1 = i
              · exact nw (e ▸ h2)
              · exact hlast.2.2.2 (q - 1) (by omega) (by omega) h2
          have hrs : ⟨i, o.op, (S i).env, v⟩ ∈ (S (q - 1)).rs := W.rs_fwd (i := i + 1) (q - 1) (by omega) (by omega) (by rw [hs]; simp only [hix]; exact .head _)
          obtain ⟨o2, m2, ho2, hm2, k2⟩ := W.step (i := q - 1) (by omega)
          have e1 : q - 1 + 1 = q := by omega
          rw [e1] at k2
          have hlo2 := (W.plain (q - 1) (by omega)).lo
          have hql := I.ql
          have hsub2 : Sub (S q).pr.b (extH base (S q).pr.ab D (S q).pr.b (S ops.size).fs) := I.subs W (sel := D) (fs := []) fun f A hf => by cases hf
          refine cls_r hc hsub2 (i := 0) _ ?_
          generalize S q = s2 at k2 hql
          cases k2
          case write v2 h nx2 hw2 h12 hv2 h32 =>
            rcases h32 _ hrs with h4 | h4
            · have := I.cl (q - 1) m2 h3 hm2 i h4
              rw [hi] at this
              cases this
            · exact chk_val h4
          all_goals simp only at hql; omega
    refine op_wp_val hcal I.st.rh I.st.bd I.st.gl hops hσ read fun u hu => still rfl rfl v u rfl hu
  case fresh v h1 blk hw hc hv hb =>
    rw [← hwant] at hw
    refine wpOp_of ho (wanted_rel I.st.re hw) ?_
    have nw : ¬ IsW S i := by unfold IsW; rw [hs]; simp only; omega
    have hfs1 : (i, blk) ∈ (S (i + 1)).fs := by rw [hs]; simp only [hix]; exact .head _
    have hfs : (i, blk) ∈ (S ops.size).fs := W.fs_fwd ops.size (by omega) (Nat.le_refl _) hfs1
    have hqi : Nat.testBit (S q).pr.ab i = false := by
      cases hc : Nat.testBit (S q).pr.ab i with
      | false => rfl
      | true => rw [I.ab i hc] at hi; cases hi
    rw [hix] at hv hb
    have hnew := cls_f hc hv hb (extH base (S q).pr.ab D (S q).pr.b (S ops.size).fs)
    refine op_wp0 hcal I.st.rh I.st.bd I.st.gl hops hσ ?_ ?_ ?_ ?_ ?_
    · intro v' hh; rw [hnew] at hh; cases hh
    · intro v' h' hh; rw [hnew] at hh; cases hh
    · intro v' h' hh u w' τ hu e
      rw [hnew] at hh
      cases hh
      refine hK q τ _ _ _ (I.next W hd ho hok hm hi hm' (fun j => rfl) (by rw [hs]) hu (M := (· = base + i)) (e.sub I.st.rh ?_ ?_) (fun _ h => .inl h) I.qn I.ql ?_ (Nat.le_refl _) I.bn (fun f hf => by simp [I.ab f hf]))
      · intro k A hk
        have hnew' : (extH base (S q).pr.ab (fun j => D j || decide (j = i)) (S q).pr.b (S ops.size).fs).get (base + i) = some blk := extH_new pn.fs hfs hqi (by simp)
        rw [Tr.get_set]
        by_cases ek : k = base + i
        · subst ek
          rw [hnew'] at hk
          rw [if_pos rfl, hk]
        · rw [if_neg ek]
          rcases extH_cases hk with ⟨f, h2, h3, h4, rfl⟩ | ⟨h2, h3⟩
          · refine extH_new pn.fs h2 h3 ?_
            have : f ≠ i := fun e => ek (by rw [e])
            simpa [this] using h4
          · rw [extH_old, h2]
            exact fun f B hf hq hs => h3 f B hf hq (by simp [hs])
      · intro k A hk _
        have hnew' : (extH base (S q).pr.ab (fun j => D j || decide (j = i)) (S q).pr.b (S ops.size).fs).get (base + i) = some blk := extH_new pn.fs hfs hqi (by simp)
        rw [Tr.get_set] at hk
        by_cases ek : k = base + i
        · subst ek
          rw [if_pos rfl] at hk
          rw [hnew', hk]
        · rw [if_neg ek] at hk
          exact I.subs W (sel := D) (sel' := fun j => D j || decide (j = i)) (fun f A hf _ hs => ⟨hf, by simp [hs]⟩) k A hk
      · intro j hj hw'
        have : j ≠ i := fun e => nw (e ▸ hw')
        simp only [this, decide_false, Bool.or_false]
        exact I.qw j hj hw'
    · intro f args hh; rw [hnew] at hh; cases hh
    · rw [hnew]; exact NX.noConfusion
  case write v h nx hw h1 hv h3 =>
    rw [← hwant] at hw
    refine wpOp_of ho (wanted_rel I.st.re hw) ?_
    have isw : IsW S i := by unfold IsW; rw [hs]; simp only; omega
    have hqi : q ≤ i := by
      rcases Nat.lt_or_ge i q with h | h
      · have := (I.qw i hin isw).2 h
        rw [hi] at this
        cases this
      · exact h
    have hnow : ∀ j, q ≤ j → j < i → ¬ IsW S j := by
      intro j h4 h5 h6
      obtain ⟨p, h7, h8⟩ := W.all_w i (by omega) j h5 h6
      rcases h1 p h7 with h9 | h9
      · omega
      · rw [h8, Nat.add_sub_cancel] at h9
        have := (I.qw j (by omega) h6).1 (hm' j h9)
        omega
    have hpr := (W.pr_same i hqi (by omega) hnow).1
    rw [hpr] at hv
    have hsubW : Sub (extH base (S q).pr.ab (Nat.testBit m) (S q).pr.b (S i).fs) (extH base (S q).pr.ab D (S q).pr.b (S ops.size).fs) := I.subs W hsub
    have rhW := I.st.rh.sub hsubW
    have epr : (S (i + 1)).pr = ⟨i + 1, Nat.lor (Nat.lor (S q).pr.ab m) (Nat.pow 2 i), h, nx⟩ := by rw [hs]; simp only [hix, hpr]
    have hnx := I.nx
    have fin : ∀ {M : Nat → Prop} {τ : Map} {w' : World} {u : Value}, Ext M σ (extH base (S q).pr.ab (Nat.testBit m) (S q).pr.b (S i).fs) w τ h w' → (∀ k, M k → k = base + i ∨ (S q).pr.nx ≤ k ∧ k < nx) → RV τ v u → (S q).pr.nx ≤ nx → K (a.put o.dst u) w' := by
      intro M τ w' u e hM hu hle
      have bits : ∀ f, Nat.testBit (Nat.lor (Nat.lor (S q).pr.ab m) (Nat.pow 2 i)) f = (Nat.testBit (S q).pr.ab f || Nat.testBit m f || decide (i = f)) := fun f => by
        change Nat.testBit (((S q).pr.ab ||| m) ||| 2 ^ i) f = _
        rw [Nat.testBit_or, Nat.testBit_or, Nat.testBit_two_pow]
      have old : ∀ f, f < ops.size → Nat.testBit (Nat.lor (Nat.lor (S q).pr.ab m) (Nat.pow 2 i)) f = false → (extH base (S q).pr.ab (Nat.testBit m) (S q).pr.b (S i).fs).get (base + f) = none := by
        intro f h4 h5
        rw [bits] at h5
        simp only [Bool.or_eq_false_iff, decide_eq_false_iff_not] at h5
        cases hg : (extH base (S q).pr.ab (Nat.testBit m) (S q).pr.b (S i).fs).get (base + f) with
        | none => rfl
        | some A =>
          rcases extH_cases hg with ⟨f', h6, _, h8, h7⟩ | ⟨h6, _⟩
          · have : f' = f := by omega
            subst this
            rw [h5.1.2] at h8
            cases h8
          · rw [I.bn f h4 h5.1.1] at h6; cases h6
      have hbn : ∀ f, f < ops.size → Nat.testBit (Nat.lor (Nat.lor (S q).pr.ab m) (Nat.pow 2 i)) f = false → h.get (base + f) = none := by
        intro f h4 h5
        cases hg : h.get (base + f) with
        | none => rfl
        | some A =>
          obtain ⟨L, h6, _⟩ := e.rh.blk _ A hg
          rcases e.loc _ L h6 with h7 | ⟨h7, _⟩
          · obtain ⟨A0, h8⟩ := e.live _ A L hg h7
            rw [old f h4 h5] at h8
            cases h8
          · rw [bits] at h5
            simp only [Bool.or_eq_false_iff, decide_eq_false_iff_not] at h5
            rcases hM _ h7 with h8 | h8 <;> omega
      have e2 : Ext M σ (extH base (S q).pr.ab D (S q).pr.b (S ops.size).fs) w τ (extH base (S (i + 1)).pr.ab (fun j => D j || decide (j = i)) (S (i + 1)).pr.b (S ops.size).fs) w' := by
        rw [epr]
        refine e.frame hsubW I.st.rh (fun k A hk => ?_) (fun k A hk _ => ?_) (fun k A h1 hk _ => ?_)
        rotate_left
        · refine (extH_old fun f B hf h5 _ ek => ?_).trans hk
          rw [ek, hbn f (pn.fl f B hf) h5] at hk
          cases hk
        · rcases extH_cases hk with ⟨f, h4, h5, h6, rfl⟩ | ⟨h4, h6⟩
          · refine extH_new pn.fs h4 ?_ (by simp [h6])
            have hne : f ≠ i := fun e => by
              subst e
              rw [hi] at h6
              cases h6
            rw [bits, h5]
            simp only [Bool.false_or, Bool.or_eq_false_iff, decide_eq_false_iff_not]
            refine ⟨?_, fun e => hne e.symm⟩
            cases ht : Nat.testBit m f with
            | false => rfl
            | true =>
              exfalso
              have hin' : (f, A) ∈ (S i).fs := W.fs_back (x := (f, A)) (by exact masks_lt hd (i + 1) i (by omega) m hm o ho f ht) ops.size (by omega) (Nat.le_refl _) h4
              rw [extH_new pl.fs hin' h5 ht] at h1
              cases h1
          · exfalso
            have : (extH base (S q).pr.ab (Nat.testBit m) (S q).pr.b (S i).fs).get k = (S q).pr.b.get k := extH_old fun f B hf h7 h8 => h6 f B (hsub f B hf h7 h8).1 h7 (hsub f B hf h7 h8).2
            rw [this, h4] at h1
            cases h1
        rcases extH_cases hk with ⟨f, h4, h5, h6, rfl⟩ | ⟨h4, _⟩
        · have hf := pn.fl f A h4
          have h7 := h5
          rw [bits] at h7
          simp only [Bool.or_eq_false_iff, decide_eq_false_iff_not] at h7
          have hne : f ≠ i := fun e => h7.2 e.symm
          exact .inr ⟨old f hf h5, extH_new pn.fs h4 h7.1.1 (by simpa [hne] using h6)⟩
        · exact .inl h4
      refine hK (i + 1) τ _ _ _ (I.next W hd ho hok hm hi hm' (fun j => rfl) (by rw [hs]) hu e2 (by rw [epr]; exact hM) (by omega) (by rw [epr]) ?_ (by rw [epr]; exact hle) (by rw [epr]; exact hbn) ?_)
      rotate_left
      · rw [epr]
        intro f hf
        rw [bits] at hf
        simp only [Bool.or_eq_true, decide_eq_true_eq] at hf ⊢
        rcases hf with (h4 | h4) | h4
        · exact .inl (I.ab f h4)
        · exact .inl (hm' f h4)
        · exact .inr h4.symm
      intro j hj hw'
      by_cases e : j = i
      · subst e; simp
      · simp only [e, decide_false, Bool.or_false]
        rw [I.qw j hj hw']
        constructor
        · omega
        · intro h4
          rcases Nat.lt_or_ge j q with h5 | h5
          · exact h5
          · exact absurd hw' (hnow j h5 (by omega))
    rw [hix] at hv
    generalize hop : opA P o.op (S i).env (extH base (S q).pr.ab (Nat.testBit m) (S q).pr.b (S i).fs) (base + i) = r at hv
    refine op_wp0 hcal rhW I.st.bd I.st.gl hops hσ ?_ ?_ ?_ ?_ ?_
    · intro v' hh u hu
      rw [hop] at hh
      subst hh
      cases hv
      exact fin (M := fun _ => False) (Ext.refl rhW) (fun _ h => h.elim) hu (Nat.le_refl _)
    · intro v' h' hh u w' hu e
      rw [hop] at hh
      subst hh
      cases hv
      exact fin e (fun _ h => h.elim) hu (Nat.le_refl _)
    · intro v' h' hh u w' τ hu e
      rw [hop] at hh
      subst hh
      cases hv
      exact fin e (fun _ h => .inl h) hu (Nat.le_refl _)
    · intro f args hh
      rw [hop] at hh
      subst hh
      cases hv
      rename_i hc
      exact ⟨v, h, nx, hc, fun u w' τ hu e hle => fin e (fun _ h => .inr h) hu hle⟩
    · intro hh
      rw [hop] at hh
      subst hh
      cases hv
end
end Go.Ev
namespace Go.Ev
section
variable {P : Program}
variable {cal : CallF} {ops : Array Oper} {base N : Nat} {env0 : Env} {h0 : H} {S : Nat → DState} {σ0 : Map} {w0 : World}
def cnt (D : Nat → Bool) : Nat → Nat
  | 0 => 0
  | n + 1 => cnt D n + if D n then 0 else 1
theorem cnt_zero {D : Nat → Bool} : ∀ {n : Nat}, cnt D n = 0 → ∀ i, i < n → D i = true
  | n + 1, h, i, hi => by
    unfold cnt at h
    by_cases e : i = n
    · subst e
      cases hd : D i with
      | true => rfl
      | false => rw [hd] at h; simp at h
    · exact cnt_zero (n := n) (by omega) i (by omega)
theorem cnt_put {D : Nat → Bool} {i : Nat} (hd : D i = false) : ∀ {n : Nat}, (n ≤ i → cnt (fun j => D j || decide (j = i)) n = cnt D n) ∧ (i < n → cnt (fun j => D j || decide (j = i)) n + 1 = cnt D n)
  | 0 => ⟨fun _ => rfl, fun h => by omega⟩
  | n + 1 => by
    obtain ⟨h1, h2⟩ := cnt_put (D := D) (i := i) hd (n := n)
    constructor
    · intro h
      have e : n ≠ i := by omega
      simp only [cnt, e, decide_false, Bool.or_false]
      rw [h1 (by omega)]
    · intro h
      by_cases e : n = i
      · subst e
        simp only [cnt, decide_true, Bool.or_true, if_true, hd, Bool.false_eq_true, if_false]
        rw [h1 (Nat.le_refl _)]
      · simp only [cnt, e, decide_false, Bool.or_false]
        have := h2 (by omega)
        omega
theorem ready_nil {ops : Array Oper} (hd : drawOk ops = true) {listed : Array Bool} (hl : listed.size = ops.size) (hr : Region.ready .any ops listed = []) : ∀ i, i < ops.size → listed.getD i false = true := by
  intro i
  induction i using Nat.strongRecOn with
  | _ i ih =>
    intro hi
    cases hc : listed.getD i false with
    | true => rfl
    | false =>
      exfalso
      have hm : i ∈ Region.ready .any ops listed := by
        rw [mem_ready]
        refine ⟨?_, ops[i], Array.getElem?_eq_getElem hi, fun e he hb => ?_⟩
        · simp only [Array.getD, hl, hi, dite_true] at hc ⊢; exact hc
        · have hlt := (drawOk_spec hd).1 i _ (Array.getElem?_eq_getElem hi) e he hb
          exact ih e.on hlt (by omega)
      rw [hr] at hm
      cases hm
theorem draw_run (hcal : CallSound P cal) (W : Way P cal ops base env0 h0 S) (hd : drawOk ops = true) (hok : ops.toList.all (operOk P N) = true) {Q : Exit → Act → World → Prop}
    (hQ : ∀ D q σ env a w, (∀ i, i < ops.size → D i = true) → Inv P ops base N env0 h0 S σ0 w0 D q σ env a w → Q .normal a w) :
    ∀ (fuel : Nat) (listed : Array Bool), listed.size = ops.size → cnt (fun j => listed.getD j false) ops.size ≤ fuel → ∀ q σ env a w, Inv P ops base N env0 h0 S σ0 w0 (fun j => listed.getD j false) q σ env a w →
    wpAny P .any ops Q fuel listed a w
  | 0, listed, hl, hc, q, σ, env, a, w, I => by
    have all := cnt_zero (Nat.le_zero.1 hc)
    refine ⟨?_, hQ _ q σ env a w all I⟩
    cases hr : Region.ready .any ops listed with
    | nil => rfl
    | cons i l =>
      exfalso
      have hm : i ∈ Region.ready .any ops listed := by rw [hr]; exact .head _
      obtain ⟨h1, o, ho, _⟩ := mem_ready.1 hm
      have hi : i < ops.size := (Array.getElem?_eq_some_iff.1 ho).1
      have := all i hi
      simp only [Array.getD, hl, hi, dite_true] at h1 this
      rw [h1] at this
      cases this
  | fuel + 1, listed, hl, hc, q, σ, env, a, w, I => by
    refine ⟨fun hr => hQ _ q σ env a w (ready_nil hd hl hr) I, fun i hm => ?_⟩
    obtain ⟨h1, o, ho, h2⟩ := mem_ready.1 hm
    have hi : i < ops.size := (Array.getElem?_eq_some_iff.1 ho).1
    have hDi : listed.getD i false = false := by simp only [Array.getD, hl, hi, dite_true] at h1 ⊢; exact h1
    have hoo : operOk P N o = true := List.all_eq_true.1 hok _ (by
      have := (Array.getElem?_eq_some_iff.1 ho).2
      rw [← this]
      simp)
    refine I.step hcal W hd ho hoo hDi h2 fun q' τ env' a' w' I' => ?_
    have eD : (fun j => (listed.setIfInBounds i true).getD j false) = fun j => listed.getD j false || decide (j = i) := by
      funext j
      by_cases e : j = i
      · subst e; simp [Array.getD, hl, hi]
      · rw [getD_set_ne false (Ne.symm e)]; simp [e]
    refine draw_run hcal W hd hok hQ fuel _ (by simpa using hl) ?_ q' τ env' a' w' (by rw [eD]; exact I')
    rw [eD]
    have := (cnt_put (D := fun j => listed.getD j false) hDi (n := ops.size)).2 hi
    omega
theorem evDraw_sound (hcal : CallSound P cal) {n : Nat} {ops : Array Oper} (hok : ops.toList.all (operOk P n) = true) (hd : drawOk ops = true) (hm : P.follows .mixedOrders = true) {id : Nat} {σ : Map} {env : Env} {h : H} {nx : Nat} {a : Act} {w : World}
    (s : St P n σ env h nx a w) (hne : evDraw P cal ops nx ops.toList (masks ops.toList []) ⟨0, env, [], ⟨0, 0, h, nx + ops.size⟩, [], []⟩ ≠ .bad) :
    (Code.region id ops true).wp P (RSpost P n σ h nx w (evDraw P cal ops nx ops.toList (masks ops.toList []) ⟨0, env, [], ⟨0, 0, h, nx + ops.size⟩, [], []⟩)) a w := by
  obtain ⟨S, h1, h2, h3⟩ := evDraw_chain _ _ _ hne
  have W : Way P cal ops nx env h S := ⟨h1, fun i o ho => h2 i o (by simpa using ho)⟩
  rw [h3]
  simp only [Array.length_toList]
  refine wp_region_any hm ?_
  have e0 : Ext (Rg nx (nx + ops.size)) σ h w σ h { w with drawn := w.drawn + 1 } := Ext.of_heap s.rh rfl ⟨rfl, rfl, rfl⟩
  have hfalse : ∀ j, (Array.replicate ops.size false).getD j false = false := by
    intro j
    simp only [Array.getD, Array.size_replicate]
    split
    · simp
    · rfl
  have hb : ∀ f, h.get (nx + f) = none := fun f => by
    cases hg : h.get (nx + f) with
    | none => rfl
    | some A =>
      obtain ⟨L, h4, _⟩ := s.rh.blk _ A hg
      rw [s.bd (nx + f) (by omega)] at h4
      cases h4
  have hsub : Sub (extH nx 0 (fun j => (Array.replicate ops.size false).getD j false) h (S ops.size).fs) h := fun k A hk => by
    rcases extH_cases hk with ⟨f, _, _, h4, _⟩ | ⟨h4, _⟩
    · rw [hfalse] at h4; cases h4
    · exact h4
  have I : Inv P ops nx n env h S σ w (fun j => (Array.replicate ops.size false).getD j false) 0 σ env a { w with drawn := w.drawn + 1 } := by
    constructor
    · intro j o t _ _ hD; rw [hfalse] at hD; cases hD
    · intro t _; rfl
    · rw [W.s0]; exact ⟨s.re, (s.rh.sub hsub).of_heap rfl, fun i hi => s.bd i (by simp only at hi; omega), s.gl, s.df, s.sz⟩
    · omega
    · rw [W.s0]
    · intro j _ _
      rw [hfalse]
      simp
    · rw [W.s0]; exact e0.sub s.rh hsub fun k A h1 _ => (extH_old fun f B _ _ h4 => by rw [hfalse] at h4; cases h4).trans h1
    · rw [W.s0]; exact Nat.le_refl _
    · intro i _ _; exact s.bd _ (by omega)
    · intro f _ _; rw [W.s0]; exact hb f
    · intro f hf; rw [W.s0] at hf; simp at hf
    · intro i m hD; rw [hfalse] at hD; cases hD
  refine draw_run hcal W hd hok ?_ ops.size (Array.replicate ops.size false) (by simp) ?_ 0 σ env a _ I
  · intro D q τ env' a' w' all J
    have hnow : ∀ j, q ≤ j → j < ops.size → ¬ IsW S j := fun j h4 h5 h6 => by
      have := (J.qw j h5 h6).1 (all j h5)
      omega
    have hpr := (W.pr_same ops.size J.qn (Nat.le_refl _) hnow).1
    have hs : Sub (extH nx (S ops.size).pr.ab (fun _ => true) (S ops.size).pr.b (S ops.size).fs) (extH nx (S q).pr.ab D (S q).pr.b (S ops.size).fs) := by
      rw [hpr]
      exact J.subs W fun f A hf _ _ => ⟨hf, all f ((W.plain ops.size (Nat.le_refl _)).fl f A hf)⟩
    have hs2 : ∀ k A, (extH nx (S q).pr.ab D (S q).pr.b (S ops.size).fs).get k = some A → A.ro = true → (extH nx (S ops.size).pr.ab (fun _ => true) (S ops.size).pr.b (S ops.size).fs).get k = some A := fun k A h1 _ => by
      rw [hpr]
      exact J.subs W (sel := D) (sel' := fun _ => true) (fun f A hf _ _ => ⟨hf, rfl⟩) k A h1
    have st := J.st
    rw [hpr]
    rw [hpr] at hs hs2
    refine ⟨rfl, τ, J.ext.sub s.rh hs hs2, by have := J.nx; omega, ⟨fun t => ?_, J.st.rh.sub hs, J.st.bd, J.st.gl, J.st.df, J.st.sz⟩⟩
    have ht := J.st.re t
    have : env'.get t = (S ops.size).env.get t := by
      by_cases hex : ∃ (j : Nat) (oj : Oper), ops[j]? = some oj ∧ oj.dst = some t
      · obtain ⟨j, oj, hj, hdj⟩ := hex
        exact J.en j oj t hj hdj (all j (Array.getElem?_eq_some_iff.1 hj).1)
      · rw [J.e0 t fun k ok hk hdk => absurd ⟨k, ok, hk, hdk⟩ hex, W.env_old (k := 0) ops.size (by omega) (Nat.le_refl _) fun k ok _ _ hk hdk => hex ⟨k, ok, hk, hdk⟩, W.s0]
    rw [this] at ht
    exact ht
  · have : ∀ k, cnt (fun j => (Array.replicate ops.size false).getD j false) k = k := by
      intro k
      induction k with
      | zero => rfl
      | succ k ih => unfold cnt; rw [ih, hfalse]; simp
    rw [this]
    exact Nat.le_refl _
end
end Go.Ev
namespace Go.Ev
section
variable {P : Program}
theorem then_of {n : Nat} {σ : Map} {h : H} {nx : Nat} {w : World} {r : RS} {Q : Exit → Act → World → Prop} {K : Act → World → Prop} {e : Exit} {a' : Act} {w' : World}
    (hp : RSpost P n σ h nx w r e a' w') (hn : ∀ env' h' nx', r = .norm env' h' nx' → RSpost P n σ h nx w r .normal a' w' → K a' w')
    (hq : (∀ env' h' nx', r ≠ .norm env' h' nx') → Q e a' w') : Exit.then K Q e a' w' := by
  cases r with
  | norm env' h' nx' =>
    have he := hp.1
    subst he
    exact hn env' h' nx' rfl hp
  | exit id env' h' nx' =>
    have he := hp.1
    subst he
    exact hq (fun _ _ _ => RS.noConfusion)
  | ret env' h' nx' =>
    have he := hp.1
    subst he
    exact hq (fun _ _ _ => RS.noConfusion)
  | bad => exact hp.elim
theorem rounds_mono {P : Program} {c : Code} {Q Q' : Exit → Act → World → Prop} (hq : ∀ e a w, Q e a w → Q' e a w) : ∀ n a w, Code.rounds P c Q n a w → Code.rounds P c Q' n a w
  | 0, _, _, h => h
  | n + 1, a, w, h => by
    rw [rounds_succ] at h ⊢
    refine wp_mono h fun e a' w' hp => ?_
    cases e with
    | normal => exact rounds_mono hq n a' w' hp
    | _ => exact hq _ _ _ hp
theorem evC_both {cal : CallF} (hcal : CallSound P cal) {n : Nat} : ∀ f : Nat,
    (∀ (c : Code), codeOk P n c = true → ∀ (σ : Map) (env : Env) (h : H) (nx : Nat) (a : Act) (w : World), St P n σ env h nx a w → evC P cal f c env h nx ≠ .bad → c.wp P (RSpost P n σ h nx w (evC P cal f c env h nx)) a w) ∧
    (∀ (c : Code), codeOk P n c = true → ∀ (σ : Map) (env : Env) (h : H) (nx : Nat) (a : Act) (w : World), St P n σ env h nx a w → evC P cal f (.loop c) env h nx ≠ .bad → Code.rounds P c (RSpost P n σ h nx w (evC P cal f (.loop c) env h nx)) f a w)
  | 0 => ⟨fun _ _ _ _ _ _ _ _ _ hne => absurd rfl hne, fun _ _ _ _ _ _ _ _ _ hne => absurd rfl hne⟩
  | f + 1 => by
    obtain ⟨ih, il⟩ := evC_both hcal (n := n) f
    have loop : ∀ (c : Code), codeOk P n c = true → ∀ (σ : Map) (env : Env) (h : H) (nx : Nat) (a : Act) (w : World), St P n σ env h nx a w → evC P cal (f + 1) (.loop c) env h nx ≠ .bad →
        Code.rounds P c (RSpost P n σ h nx w (evC P cal (f + 1) (.loop c) env h nx)) (f + 1) a w := by
      intro c hc σ env h nx a w s hne
      rw [rounds_succ]
      unfold evC at hne ⊢
      simp only at hne ⊢
      have hne1 : evC P cal f c env h nx ≠ .bad := fun e => by rw [e] at hne; exact hne rfl
      refine wp_mono (ih c hc σ env h nx a w s hne1) fun e a' w' hp => ?_
      refine then_of hp (fun env' h' nx' hr hp' => ?_) (fun hnn => ?_)
      · rw [hr] at hp' hne ⊢
        obtain ⟨_, τ, e1, hle, s'⟩ := hp'
        have := il c hc τ env' h' nx' a' w' s' hne
        exact rounds_mono (fun e a'' w'' hp'' => RSpost.trans e1 hle hp'') f a' w' this
      · generalize evC P cal f c env h nx = r at hp hnn ⊢
        cases r with
        | norm env' h' nx' => exact absurd rfl (hnn env' h' nx')
        | _ => exact hp
    refine ⟨fun c hc σ env h nx a w s hne => ?_, loop⟩
    cases c with
    | skip => exact wp_skip ⟨rfl, σ, Ext.refl s.rh, Nat.le_refl _, s⟩
    | label l => exact wp_label ⟨rfl, σ, Ext.refl s.rh, Nat.le_refl _, s⟩
    | ret => exact wp_ret ⟨rfl, σ, Ext.refl s.rh, Nat.le_refl _, s⟩
    | exit id => exact wp_exit ⟨rfl, σ, Ext.refl s.rh, Nat.le_refl _, s⟩
    | seq x y =>
      simp only [codeOk, Bool.and_eq_true] at hc
      unfold evC at hne ⊢
      simp only at hne ⊢
      have hne1 : evC P cal f x env h nx ≠ .bad := fun e => by rw [e] at hne; exact hne rfl
      refine wp_seq (wp_mono (ih x hc.1 σ env h nx a w s hne1) fun e a' w' hp => ?_)
      refine then_of hp (fun env' h' nx' hr hp' => ?_) (fun hnn => ?_)
      · rw [hr] at hp' hne ⊢
        obtain ⟨_, τ, e1, hle, s'⟩ := hp'
        exact wp_mono (ih y hc.2 τ env' h' nx' a' w' s' hne) fun e a'' w'' hp'' => RSpost.trans e1 hle hp''
      · generalize evC P cal f x env h nx = r at hp hnn ⊢
        cases r with
        | norm env' h' nx' => exact absurd rfl (hnn env' h' nx')
        | _ => exact hp
    | cond c x y =>
      simp only [codeOk, Bool.and_eq_true] at hc
      unfold evC at hne ⊢
      have hr := rd_rel s.re s.gl hc.1.1
      simp only at hne ⊢
      split at hne
      · rename_i hb
        rw [hb] at hr
        generalize hv : a.eval c = v at hr
        cases hr
        exact wp_cond_true hv (ih x hc.1.2 σ env h nx a w s hne)
      · rename_i hb
        rw [hb] at hr
        generalize hv : a.eval c = v at hr
        cases hr
        exact wp_cond_false hv (ih y hc.2 σ env h nx a w s hne)
      · exact absurd rfl hne
    | block id x =>
      simp only [codeOk] at hc
      unfold evC at hne ⊢
      simp only at hne ⊢
      have hne1 : evC P cal f x env h nx ≠ .bad := fun e => by rw [e] at hne; exact hne rfl
      refine wp_block (wp_mono (ih x hc σ env h nx a w s hne1) fun e a' w' hp => ?_)
      generalize evC P cal f x env h nx = r at hp
      cases r with
      | exit id' env' h' nx' =>
        obtain ⟨he, rest⟩ := hp
        subst he
        simp only [Exit.inBlock, beq_dec]
        by_cases ei : id' = id
        · subst ei
          simp only [if_true, decide_true, cond_true]
          exact ⟨rfl, rest⟩
        · have e2 : ¬ id = id' := fun h => ei h.symm
          simp only [ei, e2, if_false, decide_false, cond_false]
          exact ⟨rfl, rest⟩
      | norm env' h' nx' =>
        have he := hp.1
        subst he
        exact hp
      | ret env' h' nx' =>
        have he := hp.1
        subst he
        exact hp
      | bad => exact hp.elim
    | loop c =>
      simp only [codeOk] at hc
      exact wp_loop_rounds (f + 1) (loop c hc σ env h nx a w s hne)
    | scope x =>
      simp only [codeOk] at hc
      unfold evC at hne ⊢
      simp only at hne ⊢
      refine wp_scope_straight (wp_mono (ih x hc σ env h nx a w s hne) fun e a' w' hp => ?_)
      generalize evC P cal f x env h nx = r at hp
      cases r with
      | exit id' env' h' nx' =>
        have he := hp.1
        subst he
        exact hp
      | norm env' h' nx' =>
        have he := hp.1
        subst he
        exact hp
      | ret env' h' nx' =>
        have he := hp.1
        subst he
        exact hp
      | bad => exact hp.elim
    | region id ops draw =>
      simp only [codeOk] at hc
      cases draw with
      | false =>
        unfold evC at hne ⊢
        refine wp_region ?_
        have := evOps_sound hcal hc ops.size 0 (by omega) σ env h nx a w s (by simpa using hne)
        rw [List.range_eq_range']
        simpa using this
      | true =>
        unfold evC at hne ⊢
        simp only at hne ⊢
        cases hd : (drawOk ops && P.follows .mixedOrders) with
        | false => rw [hd] at hne; exact absurd rfl hne
        | true =>
          rw [hd, cond_true] at hne
          rw [cond_true]
          simp only [Bool.and_eq_true] at hd
          exact evDraw_sound hcal hc hd.1 hd.2 s hne
    | _ => exact absurd rfl hne
def resM (tmps : Array Value) : ResultVar → Sem Value
  | .tmp t => pure (tmps.getD t undef)
  | .cell a t => do loadVar t (← asAddr (tmps.getD a undef))
theorem ld_ptr {σ : Map} {h : H} {t : TypeId} {A v : AV} {x : Value} (hv : ld P h t A = some v) (hb : RV σ A x) : ∃ p, x = .pointer (some p) := by
  unfold ld at hv
  split at hv
  · cases hb
    exact ⟨_, rfl⟩
  · cases hv
theorem resA_run {σ : Map} {env : Env} {h : H} {tmps : Array Value} {w : World} (re : RE σ env tmps) (rh : RH σ h w) : ∀ (l : List ResultVar) (r : List AV), resA P env h l = some r →
    ∃ vs, (l.mapM (resM tmps)).run P w = .ok vs w ∧ RVs σ r vs
  | [], r, hr => by cases hr; exact ⟨[], by simp [resM], .nil⟩
  | .tmp t :: l, r, hr => by
    unfold resA at hr
    split at hr
    · rename_i r' hr'
      cases hr
      obtain ⟨vs, h1, h2⟩ := resA_run re rh l r' hr'
      exact ⟨tmps.getD t undef :: vs, by simp [resM, h1], .cons _ _ _ _ (re t) h2⟩
    · cases hr
  | .cell b t :: l, r, hr => by
    unfold resA at hr
    split at hr
    · rename_i v r' hv hr'
      cases hr
      obtain ⟨vs, h1, h2⟩ := resA_run re rh l r' hr'
      have hb := re b
      obtain ⟨u, h3, h4⟩ := ld_run (P := P) rh hv hb
      refine ⟨u :: vs, ?_, .cons _ _ _ _ h4 h2⟩
      generalize hx : tmps.getD b undef = x at hb h3
      have hp : ∃ p, x = .pointer (some p) := ld_ptr hv hb
      obtain ⟨p, rfl⟩ := hp
      have h5 : (loadVar t p).run P w = .ok u w := by simpa [Instr.loadAt, Instr.sureAddr] using h3
      have h6 : (resM tmps (.cell b t)).run P w = .ok u w := by
        simp only [resM, hx, asAddr]
        simpa using h5
      simp [h6, h1]
    · cases hr
theorem results_eq (fn : Func) (tmps : Array Value) : results fn tmps = (do
    let vs ← fn.results.mapM (resM tmps)
    pure (if h : vs.size = 1 then vs[0] else .tuple vs)) := by
  unfold results
  congr 1
theorem retA_run {fn : Func} {σ : Map} {env : Env} {h : H} {nx nx' : Nat} {tmps : Array Value} {w : World} {v : AV} {h' : H} (re : RE σ env tmps) (rh : RH σ h w) (hr : retA P fn env h nx = .ok v h' nx') :
    h' = h ∧ nx' = nx ∧ ∃ u, (results fn tmps).run P w = .ok u w ∧ RV σ v u := by
  unfold retA at hr
  have key : ∀ r, resA P env h fn.results.toList = some r → ∃ vs, RVs σ r vs ∧ (results fn tmps).run P w = .ok (if h : vs.toArray.size = 1 then vs.toArray[0] else .tuple vs.toArray) w := by
    intro r hr
    obtain ⟨vs, h1, h2⟩ := resA_run re rh _ r hr
    refine ⟨vs, h2, ?_⟩
    rw [results_eq, Array.mapM_eq_mapM_toList]
    simp [h1]
  split at hr
  · rename_i v' hv
    cases hr
    obtain ⟨vs, h1, h2⟩ := key _ hv
    refine ⟨rfl, rfl, ?_⟩
    cases h1 with
    | cons _ u _ m h3 h4 =>
      cases h4
      exact ⟨u, by simpa using h2, h3⟩
  · rename_i vs' hne hv
    cases hr
    obtain ⟨vs, h1, h2⟩ := key _ hv
    refine ⟨rfl, rfl, ?_⟩
    have hl := h1.length
    have : vs.toArray.size ≠ 1 := by
      simp only [List.size_toArray]
      intro e
      rw [e] at hl
      obtain ⟨x, hx⟩ := List.length_eq_one_iff.1 hl
      exact hne x hx
    exact ⟨.tuple vs.toArray, by rw [h2, dif_neg this], .tup _ _ (by simpa using h1)⟩
  · cases hr
theorem envOf_get : ∀ (l : List AV) (i : Nat) (env : Env) (t : Nat), (envOf l i env).get t = if i ≤ t ∧ t < i + l.length then l[t - i]? else env.get t
  | [], i, env, t => by
    rw [if_neg (by simp only [List.length_nil]; omega)]
    rfl
  | v :: l, i, env, t => by
    unfold envOf
    rw [envOf_get l (Nat.succ i)]
    simp only [List.length_cons]
    by_cases h1 : t = i
    · subst h1
      rw [if_neg (by omega), if_pos (by omega), Tr.get_set]
      simp
    · by_cases h2 : Nat.succ i ≤ t ∧ t < Nat.succ i + l.length
      · rw [if_pos h2, if_pos (by omega)]
        have : t - i = (t - Nat.succ i) + 1 := by omega
        rw [this]
        simp
      · rw [if_neg h2, if_neg (by omega), Tr.get_set, if_neg h1]
theorem envOf_re {σ : Map} {l : List AV} {vs : List Value} (h : RVs σ l vs) (n : Nat) : RE σ (envOf l 0 .e) (vs.toArray ++ Array.replicate n undef) := by
  intro t
  rw [envOf_get]
  simp only [Nat.zero_le, true_and, Nat.zero_add, Nat.sub_zero]
  have hl := h.length
  by_cases ht : t < l.length
  · rw [if_pos ht]
    have h1 : l[t]? = some l[t] := List.getElem?_eq_getElem ht
    obtain ⟨v, h2, h3⟩ := h.get h1
    rw [h1]
    simp only
    have : (vs.toArray ++ Array.replicate n undef).getD t undef = v := by
      rw [Array.getD_eq_getD_getElem?, Array.getElem?_append_left (by simp; omega)]
      simp [h2]
    rw [this]
    exact h3
  · rw [if_neg ht, Tr.get_e]
    simp only
    have : (vs.toArray ++ Array.replicate n undef).getD t undef = undef := by
      rw [Array.getD_eq_getD_getElem?, Array.getElem?_append_right (by simp; omega)]
      simp only [List.size_toArray, Array.getElem?_replicate]
      split <;> rfl
    rw [this]
    exact .undef
def OvrSound (P : Program) (X : Ovr) : Prop := CallSound P fun f args h nx => match X f with | some k => k args h nx | none => .bad
def noCount (P : Program) : Bool := P.funcs.toList.all fun fn => fn.body.isNone || !(fn.name == "runtime.NumGoroutine")
theorem evCall_sound {X : Ovr} (hX : OvrSound P X) (hc : noCount P = true) : ∀ n, CallSound P (evCall P X n)
  | 0 => fun f args h nx v h' nx' hr => by cases hr
  | n + 1 => by
    have ih := evCall_sound hX hc n
    intro f args h nx v h' nx' hr σ w vs rh bd gl hvs
    unfold evCall at hr
    split at hr
    · rename_i k hk
      exact hX f args h nx v h' nx' (by simp only [hk]; exact hr) σ w vs rh bd gl hvs
    · split at hr
      · cases hr
      · rename_i fn hf
        split at hr
        · cases hr
        · rename_i c hb
          cases hok : codeOk P fn.ntmps c with
          | false => rw [hok] at hr; cases hr
          | true =>
            rw [hok, cond_true] at hr
            have hname : (fn.name == "runtime.NumGoroutine") = false := by
              have := List.all_eq_true.1 hc fn (by
                have := (Array.getElem?_eq_some_iff.1 hf).2
                rw [← this]
                simp)
              simpa [hb] using this
            have hent : (callFunc f vs.toArray).run P w = .ok (.enter f vs.toArray) w := by
              have h1 : fn.name ≠ "runtime.NumGoroutine" := by simpa using hname
              simp [callFunc, hf, h1, hb]
            refine .inl ⟨hent, calls_of_wp hf hb ?_⟩
            have s : St P fn.ntmps σ (envOf args 0 .e) h nx { tmps := vs.toArray ++ Array.replicate (fn.ntmps - vs.toArray.size) undef, defers := [] } w :=
              ⟨envOf_re hvs _, rh, bd, gl, rfl, by simp; omega⟩
            have hne : evC P (evCall P X n) n c (envOf args 0 .e) h nx ≠ .bad := fun e => by rw [e] at hr; cases hr
            refine wp_mono ((evC_both ih n).1 c hok σ _ h nx _ w s hne) fun e a' w' hp => ?_
            generalize evC P (evCall P X n) n c (envOf args 0 .e) h nx = r at hp hr
            cases r with
            | norm env1 h1 nx1 =>
              obtain ⟨he, τ, e1, hle, s1⟩ := hp
              subst he
              obtain ⟨k1, k2, u, k3, k4⟩ := retA_run s1.re s1.rh hr
              subst k1 k2
              exact ⟨s1.df, u, k3, u, rfl, τ, e1, hle, k4⟩
            | ret env1 h1 nx1 =>
              obtain ⟨he, τ, e1, hle, s1⟩ := hp
              subst he
              obtain ⟨k1, k2, u, k3, k4⟩ := retA_run s1.re s1.rh hr
              subst k1 k2
              exact ⟨s1.df, u, k3, u, rfl, τ, e1, hle, k4⟩
            | exit id env1 h1 nx1 => cases hr
            | bad => exact hp.elim
end
end Go.Ev
namespace Go.Ev
abbrev Ent := List AV → H → Nat → CR
def ovr : List (Nat × Ent) → Ovr
  | [] => fun _ => none
  | p :: l => fun f => bif Nat.beq f p.1 then some p.2 else ovr l f
def EntryOk (P : Program) (f : FuncId) (k : Ent) : Prop :=
  ∀ args h nx v h' nx', k args h nx = .ok v h' nx' → ∀ σ w (vs : List Value), RH σ h w → Bd σ nx → GlobOk P σ → RVs σ args vs →
    CallOk P f vs.toArray w (fun u w' => ∃ σ', Ext (Rg nx nx') σ h w σ' h' w' ∧ nx ≤ nx' ∧ RV σ' v u)
theorem ovr_sound {P : Program} : ∀ {l : List (Nat × Ent)}, (∀ p ∈ l, EntryOk P p.1 p.2) → OvrSound P (ovr l)
  | [], _ => fun f args h nx v h' nx' hr => by cases hr
  | p :: l, hl => fun f args h nx v h' nx' hr => by
    unfold ovr at hr
    dsimp only at hr
    rw [beq_dec] at hr
    by_cases e : f = p.1
    · subst e
      simp only [decide_true, cond_true] at hr
      exact hl p (.head _) args h nx v h' nx' hr
    · simp only [e, decide_false, cond_false] at hr
      exact ovr_sound (fun q hq => hl q (.tail _ hq)) f args h nx v h' nx' hr
section
variable {P : Program}
def intA : Option Nat → AV
  | some n => .int .i64 (.ofNat n)
  | none => .int .i64 (.negSucc 0)
def idxB (c : Nat) : List Nat → Nat → Option Nat
  | [], _ => none
  | x :: l, i => bif Nat.beq x c then some i else idxB c l (Nat.succ i)
def isPre : List Nat → List Nat → Bool
  | [], _ => true
  | _ :: _, [] => false
  | a :: l, b :: m => bif Nat.beq a b then isPre l m else false
def idxS (p : List Nat) : List Nat → Nat → Option Nat
  | [], i => (match p with | [] => some i | _ => none)
  | x :: l, i => bif isPre p (x :: l) then some i else idxS p l (Nat.succ i)
theorem u8_eq (x : UInt8) (c : Nat) (hc : c < 256) : Nat.beq x.toNat c = (x == UInt8.ofNat c) := by
  rw [beq_dec, Bool.eq_iff_iff]
  simp only [decide_eq_true_eq, beq_iff_eq]
  constructor
  · intro h; rw [← h]; simp
  · intro h; rw [h]; simp; omega
theorem idxB_eq (c : Nat) (hc : c < 256) : ∀ (l : List UInt8) (i : Nat), intA (idxB c (l.map (·.toNat)) i) = .int .i64 (if Lib.indexByte l (UInt8.ofNat c) = -1 then -1 else Lib.indexByte l (UInt8.ofNat c) + i)
  | [], i => rfl
  | x :: l, i => by
    simp only [List.map_cons, idxB, u8_eq x c hc, Lib.indexByte]
    rcases Bool.eq_false_or_eq_true (x == UInt8.ofNat c) with hx | hx
    · simp only [hx, cond_true, if_true, intA]
      simp
    · simp only [hx, cond_false, Bool.false_eq_true, if_false]
      rw [idxB_eq c hc l (Nat.succ i)]
      have := Lib.indexByte_ge l (UInt8.ofNat c)
      by_cases e : Lib.indexByte l (UInt8.ofNat c) = -1
      · simp [e]
      · have e2 : (Lib.indexByte l (UInt8.ofNat c) == -1) = false := by simpa using e
        simp only [e, e2, if_false, Bool.false_eq_true]
        rw [if_neg (by omega)]
        congr 1
        simp only [Nat.succ_eq_add_one, Int.natCast_add]
        omega
theorem isPre_eq : ∀ (p l : List UInt8), isPre (p.map (·.toNat)) (l.map (·.toNat)) = p.isPrefixOf l
  | [], l => by simp [isPre]
  | a :: p, [] => rfl
  | a :: p, b :: l => by
    simp only [List.map_cons, isPre, List.isPrefixOf, isPre_eq p l, beq_dec]
    have : (a == b) = decide (a.toNat = b.toNat) := by
      rw [Bool.eq_iff_iff]; simp [UInt8.toNat_inj]
    rw [this]
    cases decide (a.toNat = b.toNat) <;> rfl
theorem idxS_eq (p : List UInt8) : ∀ (l : List UInt8) (i : Nat), intA (idxS (p.map (·.toNat)) (l.map (·.toNat)) i) = .int .i64 (if Lib.index l p = -1 then -1 else Lib.index l p + i)
  | [], i => by
    cases p with
    | nil => simp [idxS, intA, Lib.index]
    | cons a p => simp [idxS, intA, Lib.index]
  | x :: l, i => by
    have hp := isPre_eq p (x :: l)
    simp only [List.map_cons] at hp
    simp only [List.map_cons, idxS, hp, Lib.index]
    rcases Bool.eq_false_or_eq_true (p.isPrefixOf (x :: l)) with hx | hx
    · simp only [hx, cond_true, if_true, intA]
      simp
    · simp only [hx, cond_false, Bool.false_eq_true, if_false]
      rw [idxS_eq p l (Nat.succ i)]
      have := Lib.index_ge l p
      by_cases e : Lib.index l p = -1
      · simp [e]
      · have e2 : (Lib.index l p == -1) = false := by simpa using e
        simp only [e, e2, if_false, Bool.false_eq_true]
        rw [if_neg (by omega)]
        congr 1
        simp only [Nat.succ_eq_add_one, Int.natCast_add]
        omega
def kNoEsc : Ent := fun args h nx => match args with
  | [.ptr b o] => .ok (.ptr b o) h nx
  | _ => .bad
def kIdxByte : Ent := fun args h nx => match args with
  | [.str s, .int .u8 (.ofNat c)] => bif Nat.blt c 256 then .ok (intA (idxB c s 0)) h nx else .bad
  | _ => .bad
def kIndex (g : Nat) : Ent := fun args h nx => match args with
  | [.str s, .str p] => (match h.get g with
    | some (.cells (.int .i64 _ :: _) _ _ _) => bif Nat.blt (len s) 4294967281 then .ok (intA (idxS p s 0)) h nx else .bad
    | _ => .bad)
  | _ => .bad
structure IsExt (P : Program) (f : FuncId) (e : Array Value → Sem Value) : Prop where
  run : ∀ args w, (callFunc f args).run P w = ((e args).run P w).andThen fun v w' => .ok (.value v) w'
theorem kNoEsc_ok {f : FuncId} (he : IsExt P f Extern.AbiNoEscape.same) : EntryOk P f kNoEsc := by
  intro args h nx v h' nx' hr σ w vs rh bd gl hvs
  unfold kNoEsc at hr
  split at hr
  · cases hr
    cases hvs with | cons _ x _ m hx hm =>
    cases hm
    exact .inr ⟨x, w, by rw [he.run, Lib.run_noEscape]; rfl, σ, Ext.refl rh, Nat.le_refl _, hx⟩
  · cases hr
theorem ofBytes_eq (s : ByteArray) : ofBytes s = s.data.toList.map (·.toNat) := rfl
theorem kIdxByte_ok {f : FuncId} (he : IsExt P f Extern.BytealgIndexByte.indexByte) : EntryOk P f kIdxByte := by
  intro args h nx v h' nx' hr σ w vs rh bd gl hvs
  unfold kIdxByte at hr
  split at hr
  · rename_i s c
    rw [blt_dec] at hr
    by_cases hc : c < 256
    · simp only [hc, decide_true, cond_true] at hr
      cases hr
      cases hvs with | cons _ x _ m hx hm =>
      cases hm with | cons _ y _ m' hy hm' =>
      cases hm'
      cases hy
      cases hx with | str _ b hb =>
      refine .inr ⟨.int .i64 (Lib.indexByte b.data.toList (UInt8.ofNat c)), w, ?_, σ, Ext.refl rh, Nat.le_refl _, ?_⟩
      · rw [he.run, Lib.run_indexByteString]
        rfl
      · rw [← hb, ofBytes_eq, idxB_eq c hc]
        have e : (if Lib.indexByte b.data.toList (UInt8.ofNat c) = -1 then (-1 : Int) else Lib.indexByte b.data.toList (UInt8.ofNat c) + (0 : Nat)) = Lib.indexByte b.data.toList (UInt8.ofNat c) := by
          split <;> omega
        rw [e]
        exact .int _ _
    · simp [hc] at hr
  · cases hr
theorem kIndex_ok {f : FuncId} {g : Nat} {ρ : Shelf.Ren} (L : Go.Proofs.Lays.n219 P ρ) (hf : ρ.f 219 = f) (hg : ρ.g 1 = g) (hlt : g < P.globals.size) : EntryOk P f (kIndex g) := by
  intro args h nx v h' nx' hr σ w vs rh bd gl hvs
  unfold kIndex at hr
  split at hr
  · rename_i s p
    split at hr
    · rename_i m l e fz raw hb
      rw [blt_dec] at hr
      by_cases hs : len s < 4294967281
      · rw [decide_eq_true hs, cond_true] at hr
        cases hr
        cases hvs with | cons _ x _ m1 hx hm =>
        cases hm with | cons _ y _ m' hy hm' =>
        cases hm'
        cases hx with | str _ b hb1 =>
        cases hy with | str _ b' hb2 =>
        obtain ⟨xx, hL⟩ := gl g hlt
        obtain ⟨c, lo, hi, hh, _, _, hv, _⟩ := rh.cells hb hL
        obtain ⟨u, hu, hru⟩ := hv 0 _ rfl
        cases hru
        have hcell : w.cell? ⟨ρ.g 1, 0, none⟩ = some (.int .i64 m) := by rw [hg, cell?_eq hh]; exact hu
        have hsz : b.size < 4294967281 := by
          rw [len_eq, ← hb1, ofBytes_length] at hs
          exact hs
        have hc := Go.Proofs.Any.stringslite_Index L b b' m w hsz hcell
        rw [hf] at hc
        have hent : (callFunc f #[.string b, .string b']).run P w = .ok (.enter f #[.string b, .string b']) w := by
          have := Go.Proofs.enters_of L.f219 (by kernel_rfl) rfl #[.string b, .string b'] w
          rw [hf] at this
          exact this
        refine .inl ⟨hent, hc.mono ?_⟩
        rintro e w' ⟨rfl, rfl⟩
        refine ⟨_, rfl, σ, Ext.refl rh, Nat.le_refl _, ?_⟩
        rw [← hb1, ← hb2, ofBytes_eq, ofBytes_eq, idxS_eq]
        have e : (if Lib.index b.data.toList b'.data.toList = -1 then (-1 : Int) else Lib.index b.data.toList b'.data.toList + (0 : Nat)) = Lib.index b.data.toList b'.data.toList := by
          split <;> omega
        rw [e]
        exact .int _ _
      · simp [hs] at hr
    · cases hr
  · cases hr
end
end Go.Ev
namespace Go.Ev
open Go.RowKit
section
variable {P : Program}
structure Tab where
  g : Nat
  l : List AV
  e : TypeId
def Tab.blk (t : Tab) : AB := .cells t.l t.e (Nat.succ (len t.l)) true
def tabs : List Tab → H → H
  | [], h => h
  | t :: r, h => (tabs r h).set t.g t.blk
def isInt : AV → Bool
  | .int _ _ => true
  | _ => false
structure TabOk (P : Program) (W : World) (t : Tab) : Prop where
  lt : t.g < P.globals.size
  blk : ∃ c : Array Value, W.heap[t.g]? = some (.cells c t.e (0, 0)) ∧ t.l.length ≤ c.size ∧ ∀ (i : Nat) (a : AV), t.l[i]? = some a → ∃ k n, a = AV.int k n ∧ c[i]? = some (Value.int k n)
theorem tabs_get : ∀ {L : List Tab} {h : H} {i : Nat} {A : AB}, (tabs L h).get i = some A → (∃ t : Tab, t ∈ L ∧ i = t.g ∧ A = t.blk) ∨ ((∀ t ∈ L, i ≠ t.g) ∧ h.get i = some A)
  | [], h, i, A, e => .inr ⟨fun t (ht : t ∈ ([] : List Tab)) => absurd ht (List.not_mem_nil), e⟩
  | t :: L, h, i, A, e => by
    unfold tabs at e
    rw [Tr.get_set] at e
    by_cases hi : i = t.g
    · simp only [hi, if_true, Option.some.injEq] at e
      exact .inl ⟨t, .head _, hi, e.symm⟩
    · simp only [hi, if_false] at e
      rcases tabs_get e with ⟨u, h1, h2⟩ | ⟨h1, h2⟩
      · exact .inl ⟨u, .tail _ h1, h2⟩
      · refine .inr ⟨fun u hu => ?_, h2⟩
        rcases List.mem_cons.1 hu with rfl | hu
        · exact hi
        · exact h1 u hu
def lenAt : List Tab → Nat → Nat
  | [], _ => 0
  | t :: L, i => if i = t.g then t.l.length else lenAt L i
def mapOf (P : Program) (L : List Tab) : Map := fun i => if i < P.globals.size then some ⟨i, 0, lenAt L i⟩ else none
theorem tab_ro (t : Tab) : t.blk.ro = true := by
  show Nat.blt (len t.l) (Nat.succ (len t.l)) = true
  rw [blt_dec]
  simp
theorem start_ok {W : World} {L : List Tab} (hs : P.globals.size ≤ W.heap.size) (hnd : (L.map (·.g)).Nodup) (hL : ∀ t ∈ L, TabOk P W t) :
    RH (mapOf P L) (tabs L .e) W ∧ Bd (mapOf P L) P.globals.size ∧ GlobOk P (mapOf P L) := by
  have hmap : ∀ i, i < P.globals.size → mapOf P L i = some ⟨i, 0, lenAt L i⟩ := fun i hi => if_pos hi
  have hlen : ∀ {L : List Tab}, (L.map (·.g)).Nodup → ∀ t ∈ L, lenAt L t.g = t.l.length := by
    intro L hnd
    induction L with
    | nil => intro t ht; cases ht
    | cons u L ih =>
      intro t ht
      rw [List.map_cons, List.nodup_cons] at hnd
      rcases List.mem_cons.1 ht with rfl | h1
      · simp [lenAt]
      · have hne : t.g ≠ u.g := fun e => hnd.1 (by rw [← e]; exact List.mem_map_of_mem h1)
        simp only [lenAt, hne, if_false]
        exact ih hnd.2 t h1
  refine ⟨⟨fun i A hi => ?_, fun i j A B M M' hi hj hM hM' e => ?_, fun i M hi => ?_⟩, fun i hi => ?_, fun g hg => ⟨_, hmap g hg⟩⟩
  · rcases tabs_get hi with ⟨t, ht, rfl, rfl⟩ | ⟨_, h1⟩
    · obtain ⟨c, h1, h2, h3⟩ := (hL t ht).blk
      refine ⟨_, hmap _ (hL t ht).lt, ?_⟩
      rw [hlen hnd t ht]
      refine .cells t.l t.e _ true c 0 0 h1 h2 (by simp) (fun i a ha => ?_) (fun i v _ hi hc => ?_) (fun i _ _ => by omega) (fun e => by cases e) (.inl rfl)
      · obtain ⟨k, n, rfl, h4⟩ := h3 i a ha
        exact ⟨_, by simpa using h4, .int _ _⟩
      · simp only at hi
        obtain ⟨k, n, _, h4⟩ := h3 i t.l[i] (List.getElem?_eq_getElem hi)
        rw [h4] at hc
        cases hc
        rfl
    · rw [Tr.get_e] at h1; cases h1
  · rcases tabs_get hi with ⟨t, ht, rfl, rfl⟩ | ⟨_, h1⟩
    · rcases tabs_get hj with ⟨u, hu, rfl, rfl⟩ | ⟨_, h1⟩
      · rw [hmap _ (hL t ht).lt] at hM
        rw [hmap _ (hL u hu).lt] at hM'
        cases hM
        cases hM'
        exact e
      · rw [Tr.get_e] at h1; cases h1
    · rw [Tr.get_e] at h1; cases h1
  · unfold mapOf at hi
    split at hi
    · cases hi
      simp only
      omega
    · cases hi
  · exact if_neg (by omega)
theorem shape_block {W : World} (h : W.ShapedOpen P) {g : Nat} {t : TypeId} {n : Nat} (hg : g < P.globals.size) (hz : (((begin P (fun _ _ => 0) default).world.heap[g]?).bind Obj.row?).map (fun x => (x.1.size, x.2)) = some (n, t)) :
    ∃ cs, W.heap[g]? = some (.cells cs t (0, 0)) ∧ cs.size = n ∧ (P.buildable t = true → Row.ok P W .any 0 t cs) := by
  obtain ⟨⟨zero, t'⟩, hz1, hz2⟩ := Option.map_eq_some_iff.1 hz
  cases hz2
  exact h.1 g zero _ hg hz1
theorem shape_size {W : World} (h : W.ShapedOpen P) {g : Nat} {t : TypeId} {n : Nat} (h1 : g + 1 = P.globals.size) (hz : (((begin P (fun _ _ => 0) default).world.heap[g]?).bind Obj.row?).map (fun x => (x.1.size, x.2)) = some (n, t)) :
    P.globals.size ≤ W.heap.size := by
  obtain ⟨cs, hb, _⟩ := shape_block h (by omega) hz
  have := (Array.getElem?_eq_some_iff.1 hb).1
  omega
theorem shape_int {W : World} (h : W.ShapedOpen P) {g : Nat} {t : TypeId} {k : IntKind} (hg : g < P.globals.size) (hz : (((begin P (fun _ _ => 0) default).world.heap[g]?).bind Obj.row?).map (fun x => (x.1.size, x.2)) = some (1, t))
    (hb : P.buildable t = true) (hu : P.underlying t = some (.int k)) (hct : P.cellTypes P.depth t = some [t]) : ∃ m, W.heap[g]? = some (.cells #[.int k m] t (0, 0)) := by
  obtain ⟨cs, h1, h2, h3⟩ := shape_block h hg hz
  obtain ⟨ts, k1, _, k2⟩ := h3 hb
  rw [hct] at k1
  cases k1
  have e : cs = #[cs[0]'(by omega)] := by
    apply Array.ext
    · simpa using h2
    · intro i hi hi'
      have : i = 0 := by omega
      subst this
      rfl
  obtain ⟨u, k3, k4⟩ := k2 0 (cs[0]'(by omega)) (by simp [h2])
  simp only [Nat.zero_mod, List.getElem?_cons_zero, Option.some.injEq] at k3
  subst k3
  generalize cs[0]'(by omega) = v at e k4
  subst e
  unfold Cell.ok at k4
  rw [hu] at k4
  cases v <;> simp only at k4
  obtain ⟨rfl, _⟩ := k4
  exact ⟨_, h1⟩
def intTab (g : Nat) (t : TypeId) (k : IntKind) (m : Int) : Tab := ⟨g, [.int k m], t⟩
theorem intTab_ok {W : World} {g : Nat} {t : TypeId} {k : IntKind} {m : Int} (hg : g < P.globals.size) (h : W.heap[g]? = some (.cells #[.int k m] t (0, 0))) : TabOk P W (intTab g t k m) :=
  ⟨hg, _, h, by simp [intTab], fun i a ha => by
    cases i with
    | zero => cases ha; exact ⟨k, m, rfl, rfl⟩
    | succ i => cases ha⟩
end
section
variable {P : Program}
def Map.low (σ : Map) (g : Nat) : Map := fun i => if i < g then σ i else none
theorem Map.low_le (σ : Map) (g : Nat) : (σ.low g).le σ := fun i l h => by
  unfold Map.low at h
  split at h
  · exact h
  · cases h
theorem Map.low_at {σ : Map} {g i : Nat} (h : i < g) : σ.low g i = σ i := by simp [Map.low, h]
theorem RB.ints {σ τ : Map} {w : World} {L : Loc} {l : List AV} {e : TypeId} {fz : Nat} {raw : Bool} (h1 : l.all isInt = true) (r : RB σ w L (.cells l e fz raw)) : RB τ w L (.cells l e fz raw) := by
  cases r with
  | cells _ _ _ _ c lo hi hh hx hl hv h1' hf hr ho =>
    refine .cells l e fz raw c lo hi hh hx hl (fun i a ha => ?_) h1' hf hr ho
    obtain ⟨v, k1, k2⟩ := hv i a ha
    have := List.all_eq_true.1 h1 a (List.mem_of_getElem? ha)
    cases a <;> simp only [isInt, Bool.false_eq_true] at this
    cases k2
    exact ⟨_, k1, .int _ _⟩
end
end Go.Ev
namespace Go.Ev
def flatD : Nat → DataW Unit → List Value
  | 0, _ => []
  | n + 1, d => match d with
    | .lit (.int k z) => [.int k z]
    | .agg l => l.flatMap (flatD n)
    | .slice l _ => l.flatMap (flatD n)
    | _ => []
def sizeD : DataW Unit → Nat
  | .slice l _ => l.length
  | _ => 0
def putD (h : Array Obj) (g : Nat) (cs : Array Value) : Array Obj := h.modify g fun
  | .cells _ t frozen => .cells cs t frozen
  | o => o
section
open Go.RowKit Go.WideShapes Go.ChangeShapes
variable {H : Type} {enc : TypeId × Value → H} {P : Program}
theorem post_of_below {f : Func} {s : ChangeSpec} {apart fresh handsOn again : Bool} {W W' : World} {args : Array Value} {v : Value} {ds gs : List (DataW H)} {before pa pv : List MemPlace}
    (hW : DataW.Whole enc P f.params.toList s.vars apart W args.toList ds gs before)
    (hres : ∀ (b : Nat) (sp : Nat → Bool) (hd : Bool), DataW.TrodAll enc P W' b sp hd f.resultTypes.toList (v.resultList f.resultTypes.size) (s.fn H (ds ++ gs)).results [])
    (hargs : ∀ sp : Nat → Bool, (∀ p ∈ before, sp p.block = true) → DataW.TrodAll enc P W' 0 sp true f.params.toList args.toList (s.fn H (ds ++ gs)).args pa)
    (hvars : ∀ sp : Nat → Bool, (∀ p ∈ before, sp p.block = true) → DataW.TrodVars enc P W' sp s.vars (s.fn H (ds ++ gs)).vars pv)
    (hps : before = pa ++ pv) (hb : Below W.heap.size W W')
    (hok : ∀ (j : Nat) (t : TypeId) (r : Value), f.resultTypes[j]? = some t → (v.resultList f.resultTypes.size)[j]? = some r → Value.okWide P W' .any 0 t r) :
    s.post enc P f apart fresh handsOn again W args v W' := by
  have hlt : ∀ p ∈ before, p.block < W.heap.size := fun p hp => hW.lt p hp
  have hold : ∀ p ∈ before, (fun b => decide (b < W.heap.size)) p.block = true := fun p hp => by simpa using hlt p hp
  refine ⟨ds, gs, before, [], pa, pv, hW, hres _ _ _, hargs _ hold, hvars _ hold, World.keptBut_mono (fun p hp => ⟨hp, ?_⟩) (hb.frame (· ∈ before)), fun _ => ?_⟩
  · rw [hps, List.mem_append] at hp
    exact Or.inr hp
  · obtain ⟨_, _, _, _, _, hz, hn⟩ := hW
    refine ⟨hok, _, _, ([] ++ pa) ++ pv, ⟨[] ++ pa, pv, trodAll_append (hargs _ (fun _ _ => rfl)) (hres _ _ _), hvars _ (fun _ _ => rfl), rfl, ?_, ?_⟩, ?_⟩
    · intro b off hp
      have hin : MemPlace.cell b off ∈ before := by rw [hps]; simpa using hp
      rw [hb.frozen (hlt _ hin)]
      exact hz b off hin
    · intro ha
      have := hn ha
      rw [hps] at this
      simpa using this
    · intro p hp _
      rw [hps]
      simpa using hp
end
end Go.Ev
namespace Go.Ev
open Go.Lib Go.Proofs
set_option maxRecDepth 100000 in
theorem pinned_case : Pinned.caseRanges = caseData := by kernel_rfl
section
variable {P : Program} {w : World}
theorem case_slice {tS tR : TypeId} (hS : P.underlying tS = some (.slice tR)) (c5 : P.cellsOf tR = 5) (hrow : ∀ x, rowWf x = true → DataW.trod (fun _ => ()) P w 0 (fun _ => true) false 3 tR (cells5 x) = some (rowData x, [])) {R : Nat} {t : TypeId}
    (hb : w.heap[R]? = some (.cells caseCells5 t (0, 0))) :
    DataW.trod (fun _ => ()) P w 0 (fun _ => true) false 4 tS [.slice (some ⟨R, 0, none⟩) caseA.size caseA.size] = some (caseData, MemPlace.row ⟨R, 0, none⟩ (caseA.size * 5)) := by
  have hT := caseTab_of_block hb
  have helem : ∀ i ∈ List.range caseA.size, (w.cells? 0 ((⟨R, 0, none⟩ : Addr).add (i * 5)) 5).bind (DataW.trod (fun _ => ()) P w 0 (fun _ => true) false 3 tR) = some ((fun i => ((rowData (caseA.getD i (0, 0, 0, 0, 0)) : DataW Unit), ([] : List MemPlace))) i) := by
    intro i hi
    have hi' := List.mem_range.1 hi
    rw [case_cells5 hT i hi']
    exact hrow _ (caseA_wf i hi')
  have hn : caseA.size ≤ maxLen := by rw [caseA_size]; unfold maxLen; omega
  unfold DataW.trod
  simp only [hS, c5]
  rw [if_pos ⟨Nat.zero_le _, Nat.le_refl _, hn⟩, mapM_some _ _ _ helem]
  have := case_rows_data
  simp [Function.comp_def] at this ⊢
  rw [this]
  rfl
theorem case_int {i : Nat} {v : Value} (h : caseCells5[i]? = some v) : ∃ k n, v = .int k n := by
  have hm : v ∈ caseT.flatMap cells5 := by
    unfold caseCells5 at h
    rw [List.getElem?_toArray] at h
    exact List.mem_of_getElem? h
  obtain ⟨x, _, hx⟩ := List.mem_flatMap.1 hm
  simp only [cells5, List.mem_cons, List.mem_nil_iff, or_false] at hx
  rcases hx with rfl | rfl | rfl | rfl | rfl <;> exact ⟨_, _, rfl⟩
theorem case_in {g : Nat} {tS tR : TypeId} (hg : P.globalNamed "unicode.CaseRanges" = some g) (ht : (P.globals[g]?).map (·.type) = some tS) (hS : P.underlying tS = some (.slice tR)) (c5 : P.cellsOf tR = 5)
    (hrow : ∀ x, rowWf x = true → DataW.trod (fun _ => ()) P w 0 (fun _ => true) false 3 tR (cells5 x) = some (rowData x, [])) {R : Nat} {t : TypeId} (hne : g ≠ R)
    (hv : w.heap[g]? = some (.cells #[.slice (some ⟨R, 0, none⟩) caseA.size caseA.size] tS (0, 0))) (hb : w.heap[R]? = some (.cells caseCells5 t (0, 0))) : LaidIn P w [("unicode.CaseRanges", Pinned.caseRanges)] [g, R] := by
  have places : ∀ x ∈ MemPlace.row ⟨g, 0, none⟩ 1 ++ MemPlace.row ⟨R, 0, none⟩ (caseA.size * 5), x.block = g ∨ x.block = R := by
    intro x hx
    rcases List.mem_append.1 hx with hx | hx
    · unfold MemPlace.row at hx
      obtain ⟨i, _, rfl⟩ := List.mem_map.1 hx
      exact .inl rfl
    · unfold MemPlace.row at hx
      obtain ⟨i, _, rfl⟩ := List.mem_map.1 hx
      exact .inr rfl
  rw [pinned_case]
  refine LaidIn.one [g, R] hg ht (cs := #[.slice (some ⟨R, 0, none⟩) caseA.size caseA.size]) (by simp [World.var?, hg, hv]) (case_slice hS c5 hrow hb) ?_ ?_ ?_
  · refine List.nodup_append.2 ⟨rowP_nodup _ _, rowP_nodup _ _, fun x hx y hy e => ?_⟩
    subst e
    unfold MemPlace.row at hx hy
    obtain ⟨i, _, rfl⟩ := List.mem_map.1 hx
    obtain ⟨j, _, h⟩ := List.mem_map.1 hy
    simp at h
    exact hne h.1.symm
  · intro b off hp
    rcases places _ hp with e | e
    · simp only [MemPlace.block] at e
      subst e
      refine ⟨⟨_, _, hv⟩, fun u v hc => ?_⟩
      rw [Lib.cell_of_heap hv] at hc
      rcases off with _ | off
      · cases hc
      · cases hc
    · simp only [MemPlace.block] at e
      subst e
      refine ⟨⟨_, _, hb⟩, fun u v hc => ?_⟩
      rw [Lib.cell_of_heap hb] at hc
      obtain ⟨k, n, h⟩ := case_int hc
      cases h
  · intro x hx
    rcases places x hx with e | e <;> simp [e]
end
end Go.Ev
