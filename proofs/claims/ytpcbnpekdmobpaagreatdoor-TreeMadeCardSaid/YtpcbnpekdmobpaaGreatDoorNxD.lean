/- TreeNexts is true for every list of numbers and every number, and what it rests on; no condition. -/
import Derived.ChangeSlices
import Derived.OpenShut
import Derived.Test.YtpcbnpekdmobpaaGreatDoorNxC
set_option linter.unusedSimpArgs false
set_option linter.unusedVariables false
set_option linter.constructorNameAsVariable false
set_option linter.unnecessarySimpa false
namespace Go.VL
open Go.Ev
section
variable {P : Program} {X : Ovr} {G : Gt} {call : WCall}
theorem guard_ok {all : Array Oper} {v : VOper} {o : Oper} (h2 : chkG all v.guard o.guard = true) {w : Wd} {s : St} {e : Env} {h : H} {an : Nat} (er : ER w s.env e h an) {A B : St → Prop} (hk : guardK s v.guard A B) :
    ∃ s2, (s2 = s ∨ ∃ d c, lk s.env d = some (.bool c) ∧ s2 = ⟨(d, .bool c) :: s.env, s.vh, s.nx⟩) ∧ ((wantedA all e o.guard = some true ∧ A s2) ∨ (wantedA all e o.guard = some false ∧ B s2)) := by
  unfold guardK at hk
  split at hk
  · rename_i hgd
    rw [hgd] at h2
    have : o.guard = none := by cases hog : o.guard with | none => rfl | some q => rw [hog] at h2; cases h2
    exact ⟨s, .inl rfl, .inl ⟨by rw [this]; rfl, hk⟩⟩
  · rename_i dd b hgd
    rw [hgd] at h2
    cases hog : o.guard with
    | none => rw [hog] at h2; cases h2
    | some q =>
    obtain ⟨j, b'⟩ := q
    rw [hog] at h2
    simp only [chkG, Bool.and_eq_true, beq_iff_eq] at h2
    obtain ⟨rfl, h2⟩ := h2
    split at h2
    · rename_i oj hoj
      have hdj := optEq_ok h2
      have want : ∀ a, e.get dd = some a → wantedA all e (some (j, b)) = (match some a with | some (.bool c) => some (c == b) | some .junk => none | _ => some false) := fun a ha => by
        simp only [wantedA, hoj, hdj, ha]
        cases a <;> rfl
      split at hk
      · rename_i c hl
        obtain ⟨a, q1, q2⟩ := er.get hl rfl
        cases q2
        have hw : wantedA all e (some (j, b)) = some (c == b) := want _ q1
        refine ⟨⟨(dd, .bool c) :: s.env, s.vh, s.nx⟩, .inr ⟨dd, c, hl, rfl⟩, ?_⟩
        cases b with
        | true =>
          simp only [cond_true] at hk
          cases c with
          | true => exact .inl ⟨hw, hk.t rfl⟩
          | false => exact .inr ⟨hw, hk.f rfl⟩
        | false =>
          simp only [cond_false] at hk
          cases c with
          | true => exact .inr ⟨hw, hk.t rfl⟩
          | false => exact .inl ⟨hw, hk.f rfl⟩
      · rename_i l hl
        obtain ⟨a, q1, q2⟩ := er.get hl rfl
        cases q2
        exact ⟨s, .inl rfl, .inr ⟨want _ q1, hk⟩⟩
      · exact hk.elim
    · cases h2
theorem guard_at {w : Wd} {s s2 : St} {e : Env} {h : H} {an : Nat} (hr : HR w s.vh s.nx h an) (er : ER w s.env e h an) (h2 : s2 = s ∨ ∃ d c, lk s.env d = some (.bool c) ∧ s2 = ⟨(d, .bool c) :: s.env, s.vh, s.nx⟩) : At w s e h an w s2 e h an := by
  rcases h2 with rfl | ⟨d, c, hl, rfl⟩
  · exact ⟨hr, er, .refl fun i hi => .inl hi⟩
  · refine ⟨hr, er.again hl, .refl fun i hi => .inl (own_sub (fun t ht => ?_) (fun B C hb => ⟨C, hb⟩) i hi)⟩
    obtain ⟨v', r1, r2⟩ := ht
    rw [lk_cons] at r1
    split at r1
    · cases r1; cases r2
    · exact ⟨v', r1, r2⟩
structure EF (P : Program) (G : Gt) (rs : List Rec) (w : Wd) (h : H) (an : Nat) (j : Nat) (op : Op) (e : Env) (a : AV) (r : Rec) : Prop where
  fnd : recOf j rs = some r
  cop : cop P r.op op = true
  ncall : r.op.isCall = false
  cls : clsOf op = .p ∨ clsOf op = .r
  flat : Flat r.env
  er : ER w r.env e h an
  den : Den w r.v a
  eqn : r.v.eqn 8 = true
  val : opA P op e h 0 = .val a
  low : ∀ x, hop op = some x → ∀ q, topId (rd e x) = some q → q < an
  cal : calm G r.env r.op = true → ∀ x, hop op = some x → ∀ q, topId (rd e x) = some q → ∃ L, w.K q = some L
theorem Flat.er {w w' : Wd} {env : VEnv} {e : Env} {h h' : H} {an an' : Nat} (hf : Flat env) (er : ER w env e h an) (hw : w.le w') : ER w' env e h' an' :=
  er.mono hw fun t i hl _ => (hf.noLoc t hl).elim
theorem EF.mono {rs : List Rec} {w w' : Wd} {h : H} {an j : Nat} {op : Op} {e : Env} {a : AV} {r : Rec} (E : EF P G rs w h an j op e a r) (hw : w.le w') : EF P G rs w' h an j op e a r :=
  ⟨E.fnd, E.cop, E.ncall, E.cls, E.flat, E.flat.er E.er hw, E.den.mono hw, E.eqn, E.val, E.low, fun hc x hx q hq => let ⟨L, hL⟩ := E.cal hc x hx q hq; ⟨L, hw.K _ _ hL⟩⟩
inductive Early (all : Array Oper) (rs : List Rec) (E : Nat → Op → Env → AV → Rec → Prop) : List VOper → List Oper → Nat → Env → Prop where
  | nil (i : Nat) (e : Env) : Early all rs E [] [] i e
  | late (v : VOper) (o : Oper) (vs : List VOper) (os : List Oper) (i : Nat) (e : Env) (ck : List Nat) (ht : v.tg = .n ck) (h : Early all rs E vs os (i + 1) e) : Early all rs E (v :: vs) (o :: os) i e
  | no (v : VOper) (o : Oper) (vs : List VOper) (os : List Oper) (i : Nat) (e : Env) (ht : v.tg = .e) (hr : recOf i rs = none) (hw : wantedA all e o.guard = some false) (h : Early all rs E vs os (i + 1) (putA e o.dst undefA)) : Early all rs E (v :: vs) (o :: os) i e
  | yes (v : VOper) (o : Oper) (vs : List VOper) (os : List Oper) (i : Nat) (e : Env) (r : Rec) (a : AV) (ht : v.tg = .e) (hw : wantedA all e o.guard = some true) (hE : E i o.op e a r) (h : Early all rs E vs os (i + 1) (putA e o.dst a)) : Early all rs E (v :: vs) (o :: os) i e
theorem Flat.put {s : St} (hf : Flat s.env) {v : V} (hv : flatV v = true) (d : Option Nat) : Flat (put s d v).env := by
  cases d with
  | none => exact hf
  | some d =>
    intro t u hu
    have hu : lk (putV s.env d v) t = some u := hu
    rw [lk_putV] at hu
    split at hu
    · cases hu
      cases v <;> first | exact hv | cases hv
    · have : v.isLoc = false := by cases v <;> first | rfl | cases hv
      rw [this] at hu
      exact hf t u hu
theorem eqn_flat {n : Nat} {v : V} (h : V.eqn n v = true) : flatV v = true := by
  cases n with
  | zero => cases h
  | succ n => cases v <;> first | rfl | cases h
theorem eqn_den {n : Nat} {v : V} (h : V.eqn n v = true) {w : Wd} {env : VEnv} {e : Env} {g : H} {an : Nat} {a : AV} (hr : ResR w env e g an v a) : Den w v a := by
  cases n with
  | zero => cases h
  | succ n => cases v <;> first | exact hr | cases h
theorem ownB_own {w : Wd} {vh : VH} {env : VEnv} {e : Env} {i : Nat} (hf : Flat env) (h : own w vh env e i) : ownB w vh i := by
  rcases h with h | ⟨t, ht, _⟩
  · exact h
  · exact (hf.noLoc t ht).elim
theorem notCall {vo : VOp} {o : Op} (hc : cop P vo o = true) (hcl : clsOf o ≠ .w) : vo.isCall = false := by
  cases hcc : vo.isCall with
  | false => rfl
  | true => exact (hcl (call_w hc hcc).1).elim
theorem onlyV_val {nx : NX} (h : NX.onlyV nx = true) {w : Wd} {s : St} {e : Env} {hh : H} {an nid : Nat} {v : V} {s' : St} {a : AV} {h' : H} {an' : Nat} {w' : Wd} (r : OpRes w s e hh an nid nx v s' a h' an' w') : nx = .val a ∧ h' = hh ∧ an' = an := by
  rcases r.nx with q | ⟨q, _⟩ | ⟨q, _⟩
  · exact q
  · rw [q] at h; cases h
  · rw [q] at h; cases h
theorem pr_only {op : Op} (hc : clsOf op = .p ∨ clsOf op = .r) (e : Env) (h : H) (n : Nat) : NX.onlyV (opA P op e h n) = true := hc.elim (fun hc => p_only hc e h n) fun hc => r_only hc e h n
theorem pr_nid {op : Op} (hc : clsOf op = .p ∨ clsOf op = .r) {e : Env} {h : H} {n : Nat} {a : AV} (hv : opA P op e h n = .val a) (m : Nat) : opA P op e h m = .val a :=
  hc.elim (fun hc => by rw [cls_p hc e h h m n, hv]) fun hc => cls_r (.inl hc) (fun _ _ h => h) m hv
theorem early_ok {all : Array Oper} {em : Nat} : ∀ (vs : List VOper) (os : List Oper) (ms : List Nat) (i rm fm wm : Nat) (D : List Nat) (rt : List (Nat × Nat)), goodL all em vs os ms i rm fm wm D rt = true → chkOps P all vs os = true →
    ∀ {w : Wd} {s : St} {e : Env} {h : H} {an : Nat} {rs : List Rec}, GtOk G w → HR w s.vh s.nx h an → ER w s.env e h an → Flat s.env → (∀ j, i ≤ j → recOf j rs = none) →
    ∀ {K : St → List Rec → Prop}, earlyK G call vs i s rs K → ∃ s' rs' w', K s' rs' ∧ (∀ j, j < i → recOf j rs' = recOf j rs) ∧ HR w' s'.vh s'.nx h an ∧ Step w (ownB w s.vh) h an w' (ownB w' s'.vh) h an ∧ Early all rs' (EF P G rs' w' h an) vs os i e
  | [], [], _, i, _, _, _, _, _, _, _, w, s, e, h, an, rs, hg, hr, er, hf, hn, K, hk => ⟨s, rs, w, hk, fun _ _ => rfl, hr, .refl fun _ h => .inl h, .nil i e⟩
  | v :: vs, o :: os, m :: ms, i, rm, fm, wm, D, rt, hgood, hc, w, s, e, h, an, rs, hg, hr, er, hf, hn, K, hk => by
    simp only [chkOps, Bool.and_eq_true] at hc
    obtain ⟨⟨⟨h1, h2⟩, h3⟩, h4⟩ := hc
    have hdst := chkD_ok h1
    simp only [goodL, Bool.and_eq_true] at hgood
    obtain ⟨hm0, hgood⟩ := hgood
    simp only [earlyK] at hk
    cases htg : v.tg with
    | n ck =>
      rw [htg] at hk hgood
      have rest : ∃ rm fm wm D rt, goodL all em vs os ms (i + 1) rm fm wm D rt = true := by
        simp only [Bool.and_eq_true] at hgood
        split at hgood <;> try simp only [Bool.and_eq_true] at hgood
        · exact ⟨_, _, _, _, _, hgood.2⟩
        · exact ⟨_, _, _, _, _, hgood.2⟩
        · exact ⟨_, _, _, _, _, hgood.2⟩
        · exact ⟨_, _, _, _, _, hgood.2⟩
      obtain ⟨rm', fm', wm', D', rt', hgood⟩ := rest
      obtain ⟨s', rs', w', k1, k2, k3, k4, k5⟩ := early_ok vs os ms (i + 1) rm' fm' wm' D' rt' hgood h4 hg hr er hf (fun j hj => hn j (by omega)) hk
      exact ⟨s', rs', w', k1, fun j hj => k2 j (by omega), k3, k4, .late _ _ _ _ _ _ ck htg k5⟩
    | e =>
      rw [htg] at hk hgood
      simp only [Bool.and_eq_true, Bool.not_eq_true'] at hgood
      obtain ⟨⟨⟨⟨hcl, hgh⟩, hnc⟩, hap⟩, hgood⟩ := hgood
      have hcls : clsOf o.op = .p ∨ clsOf o.op = .r := by
        split at hcl
        · exact .inl (by assumption)
        · exact .inr (by assumption)
        · cases hcl
      obtain ⟨s2, hs2, hk⟩ := guard_ok h2 er hk
      have hat := guard_at hr er hs2
      have hf2 : Flat s2.env := by
        rcases hs2 with rfl | ⟨d, c, hl, rfl⟩
        · exact hf
        · intro t u hu
          rw [lk_cons] at hu
          split at hu
          · cases hu; rfl
          · exact hf t u hu
      have st2 : Step w (ownB w s.vh) h an w (ownB w s2.vh) h an := .refl fun i hi => by
        rcases hs2 with rfl | ⟨d, c, hl, rfl⟩ <;> exact .inl hi
      rcases hk with ⟨hw, hk⟩ | ⟨hw, hk⟩
      · obtain ⟨u, s3, a, h', an', w1, k1, k2⟩ := op_all hg hat.hr hat.er (free_an hat.hr hat.er) h3 hnc hk
        obtain ⟨q, e1, e2⟩ := onlyV_val (pr_only hcls e h an) k2
        subst e1
        subst e2
        cases heq : V.eqn 8 u with
        | false => rw [heq] at k1; exact k1.elim
        | true =>
        rw [heq] at k1
        simp only [cond_true] at k1
        have hd : Den w1 u a := eqn_den heq k2.res
        have er3 : ER w1 s2.env e h' an' := hf2.er hat.er k2.step.le
        have hu := eqn_flat heq
        have er4 : ER w1 (put ⟨s2.env, s3.vh, s3.nx⟩ v.dst u).env (putA e o.dst a) h' an' := by
          rw [hdst]
          cases o.dst with
          | none => exact er3
          | some d => exact er3.put (.of_tv (.of_den hd))
        have hv : (put ⟨s2.env, s3.vh, s3.nx⟩ v.dst u).vh = s3.vh ∧ (put ⟨s2.env, s3.vh, s3.nx⟩ v.dst u).nx = s3.nx := by cases v.dst <;> exact ⟨rfl, rfl⟩
        have st3 : Step w (ownB w s2.vh) h' an' w1 (ownB w1 s3.vh) h' an' := by
          refine ⟨k2.step.le, k2.step.grow, fun i hi ho => rfl, fun b i hb => ?_, fun i L hb => ?_, fun i hi => ?_⟩
          · rcases k2.step.newr b i hb with q | q | q | q
            · exact .inl q
            · exact .inr (.inl q)
            · exact .inr (.inr (ownB_own hf2 q))
            · exact .inr (.inl (by omega))
          · rcases k2.step.newk i L hb with q | q | q | q
            · exact .inl q
            · exact .inr (.inl q)
            · exact .inr (.inr (ownB_own hf2 q))
            · exact .inr (.inl (by omega))
          · rcases k2.step.sub i (.inl hi) with (q | q) | q
            · exact .inl (ownB_own hf2 q)
            · exact .inr (by omega)
            · exact .inr q
        obtain ⟨s', rs', w', g1, g2, g3, g4, g5⟩ := early_ok vs os ms (i + 1) _ _ _ _ _ hgood h4 (hg.mono k2.step.le) (by rw [hv.1, hv.2]; exact k2.hr) er4 (Flat.put (s := ⟨s2.env, s3.vh, s3.nx⟩) hf2 hu v.dst) (rs := ⟨i, s2.env, v.op, u⟩ :: rs) (fun j hj => by
            simp only [recOf]
            rw [beq_false.2 (by omega : i ≠ j)]
            exact hn j (by omega)) k1
        rw [hv.1] at g4
        have hE : EF P G rs' w' h' an' i o.op e a ⟨i, s2.env, v.op, u⟩ := by
          refine EF.mono (w := w1) ⟨?_, h3, hnc, hcls, hf2, er3, hd, heq, pr_nid hcls q 0, fun x hx q hq => ?_, fun hca x hx q hq => ?_⟩ g4.le
          · rw [g2 i (by omega)]
            simp only [recOf]
            rw [beq_iff.2 rfl]; rfl
          · rcases (hop_free hg hf2 hat.er h3 hk x hx q hq).1 with ⟨b, hb⟩ | ⟨L, hL⟩
            · exact (hr.lim b q hb).1
            · exact hr.limK q L hL
          · obtain ⟨L, hL⟩ := (hop_free hg hf2 hat.er h3 hk x hx q hq).2 hca
            exact ⟨L, k2.step.le.K _ _ hL⟩
        refine ⟨s', rs', w', g1, fun j hj => ?_, g3, (st2.trans st3).trans g4, .yes _ _ _ _ _ _ _ a htg hw hE g5⟩
        rw [g2 j (by omega)]
        simp only [recOf]
        rw [beq_false.2 (by omega : i ≠ j)]; rfl
      · have hud : Den w V.undef undefA := Den.tup _ _ .nil
        have er4 : ER w (put s2 v.dst V.undef).env (putA e o.dst undefA) h an := by
          rw [hdst]
          cases o.dst with
          | none => exact hat.er
          | some d => exact hat.er.put (.of_tv (.of_den hud))
        have hv : (put s2 v.dst V.undef).vh = s2.vh ∧ (put s2 v.dst V.undef).nx = s2.nx := by cases v.dst <;> exact ⟨rfl, rfl⟩
        obtain ⟨s', rs', w', g1, g2, g3, g4, g5⟩ := early_ok vs os ms (i + 1) _ _ _ _ _ hgood h4 hg (by rw [hv.1, hv.2]; exact hat.hr) er4 (hf2.put rfl v.dst) (fun j hj => hn j (by omega)) hk
        rw [hv.1] at g4
        exact ⟨s', rs', w', g1, fun j hj => g2 j (by omega), g3, st2.trans g4, .no _ _ _ _ _ _ htg (by rw [g2 i (by omega)]; exact hn i (by omega)) hw g5⟩
  | [], _ :: _, _, _, _, _, _, _, _, hgood, _, _, _, _, _, _, _, _, _, _, _, _, _, _ => by cases hgood
  | _ :: _, [], _, _, _, _, _, _, _, hgood, _, _, _, _, _, _, _, _, _, _, _, _, _, _ => by cases hgood
  | _ :: _, _ :: _, [], _, _, _, _, _, _, hgood, _, _, _, _, _, _, _, _, _, _, _, _, _, _ => by cases hgood
theorem dropLoc_lk {env : VEnv} {t : Nat} : lk (dropLoc env) t = (lk env t).map fun v => if flatV v = true then v else .lost := by
  induction env with
  | nil => rfl
  | cons p l ih =>
    simp only [dropLoc, lk_cons]
    split
    · cases p.2 <;> rfl
    · exact ih
theorem dropLoc_flat {env : VEnv} : Flat (dropLoc env) := by
  intro t v hv
  rw [dropLoc_lk] at hv
  cases hl : lk env t with
  | none => rw [hl] at hv; cases hv
  | some u =>
    rw [hl] at hv
    simp only [Option.map_some, Option.some.injEq] at hv
    subst hv
    split
    · assumption
    · rfl
theorem dropLoc_er {w : Wd} {env : VEnv} {e : Env} {h : H} {an : Nat} (er : ER w env e h an) : ER w (dropLoc env) e h an := by
  refine ⟨fun t v hv => ?_, fun t u i ht => (dropLoc_flat.noLoc t ht).elim⟩
  rw [dropLoc_lk] at hv
  cases hl : lk env t with
  | none => rw [hl] at hv; cases hv
  | some u =>
    rw [hl] at hv
    simp only [Option.map_some, Option.some.injEq] at hv
    subst hv
    have := er.slot t u hl
    cases u with
    | bx l => obtain ⟨i, _, _, h1, _⟩ := this; exact ⟨_, h1, trivial⟩
    | it r p => obtain ⟨i, h1, _⟩ := this; exact ⟨_, h1, trivial⟩
    | lp t o => obtain ⟨a, h1, _⟩ := this; exact ⟨a, h1, trivial⟩
    | lost => exact this
    | _ => obtain ⟨a, h1, h2⟩ := this; exact ⟨a, h1, h2⟩
theorem again_ok {rs : List Rec} {wE : Wd} {h0 : H} {base : Nat} {w : Wd} {s : St} {g : H} {an : Nat} (hg : GtOk G w) (hw : wE.le w) (hr : HR w s.vh s.nx g an) (hK : ∀ q L, wE.K q = some L → g.get q = h0.get q) :
    ∀ (js : List Nat) {A : Prop}, again G call rs s js A → A ∧ ∀ j op e a r, Nat.testBit (ckMask js) j = true → EF P G rs wE h0 base j op e a r → opA P op e g 0 = .val a
  | [], A, hk => ⟨hk, fun j _ _ _ _ hj => by simp [ckMask] at hj⟩
  | j :: js, A, hk => by
    have ins : ∀ {A : Prop}, again G call rs s js A → (∀ op e a r, EF P G rs wE h0 base j op e a r → opA P op e g 0 = .val a) → A ∧ ∀ k op e a r, Nat.testBit (ckMask (j :: js)) k = true → EF P G rs wE h0 base k op e a r → opA P op e g 0 = .val a := by
      intro A hk hj
      obtain ⟨k1, k2⟩ := again_ok hg hw hr hK js hk
      refine ⟨k1, fun k op e a r hb hE => ?_⟩
      simp only [ckMask, lor_bit, pow_bit, Bool.or_eq_true, decide_eq_true_eq] at hb
      rcases hb with rfl | hb
      · exact hj op e a r hE
      · exact k2 k op e a r hb hE
    simp only [again] at hk
    cases hrec : recOf j rs with
    | none =>
      rw [hrec] at hk
      simp only at hk
      exact ins hk fun op e a r hE => by rw [hE.fnd] at hrec; cases hrec
    | some r =>
      rw [hrec] at hk
      simp only at hk
      have pcase : ∀ {op e a r}, EF P G rs wE h0 base j op e a r → clsOf op = .p → opA P op e g 0 = .val a := fun hE hp => by rw [cls_p hp _ g h0 0 0, hE.val]
      cases hca : calm G r.env r.op with
      | true =>
        rw [hca] at hk
        refine ins hk fun op e a r' hE => ?_
        have := hE.fnd; rw [hrec] at this; cases this
        rcases hE.cls with hp | hq
        · exact pcase hE hp
        · rw [r_loc hq (g := h0) fun x hx q hq => ?_, hE.val]
          obtain ⟨L, hL⟩ := hE.cal hca x hx q hq
          exact hK q L hL
      | false =>
        rw [hca] at hk
        simp only [cond_false] at hk
        obtain ⟨⟨hrg, hv⟩, hk⟩ := hk
        refine ins hk fun op e a r' hE => ?_
        have := hE.fnd; rw [hrec] at this; cases this
        have er := hE.flat.er (h' := g) (an' := an) hE.er hw
        obtain ⟨u, s', a', h', an', w', k1, k2⟩ := op_all (s := ⟨r.env, s.vh, s.nx⟩) hg hr er (free_an (s := ⟨r.env, s.vh, s.nx⟩) hr er) hE.cop hE.ncall hv
        obtain ⟨q, e1, e2⟩ := onlyV_val (pr_only hE.cls e g an) k2
        subst k1
        have hd : Den w' r.v a' := eqn_den hE.eqn k2.res
        have : a = a' := rigid_eq hrg (hE.den.mono (hw.trans k2.step.le)) hd
        rw [pr_nid hE.cls q 0, this]
end
end Go.VL
namespace Go.VL
open Go.Ev
section
variable {P : Program} {X : Ovr} {G : Gt}
theorem own_not {w : Wd} {s : St} {e : Env} {k : Nat} (f : Free w s.env e k) : ¬ own w s.vh s.env e k := by
  rintro (⟨b, B, _, hb⟩ | ⟨t, ht, hi⟩)
  · exact f.id.ρ b hb
  · exact f.loc t ht hi
theorem Free.step {w w' : Wd} {s s' : St} {e e' : Env} {h h' : H} {an an' k : Nat} {N : Nat → Prop} (st : Step w (fun i => own w s.vh s.env e i ∨ N i) h an w' (own w' s'.vh s'.env e') h' an') (hk : ¬ N k) (hlt : k < an) (f : Free w s.env e k) : Free w' s'.env e' k := by
  have ho := own_not (s := s) f
  refine ⟨⟨fun b hb => ?_, ?_⟩, fun t ht hi => ?_⟩
  · rcases st.newr b k hb with q | q | q | q
    · exact f.id.ρ b q
    · omega
    · exact ho q
    · exact hk q
  · cases hL : w'.K k with
    | none => rfl
    | some L =>
      exfalso
      rcases st.newk k L hL with q | q | q | q
      · rw [f.id.K] at q; cases q
      · omega
      · exact ho q
      · exact hk q
  · rcases st.sub k (.inr ⟨t, ht, hi⟩) with (q | q) | q
    · exact ho q
    · exact hk q
    · omega
theorem Free.at {w w' : Wd} {s s' : St} {e e' : Env} {h h' : H} {an an' k : Nat} (a : At w s e h an w' s' e' h' an') (hlt : k < an) (f : Free w s.env e k) : Free w' s'.env e' k :=
  f.step (N := fun _ => False) (a.step.weak (fun i h => .inl h) (fun _ h => h)) (fun h => h) hlt
theorem keepK {w w' : Wd} {s : St} {e : Env} {h h' : H} {an an' : Nat} {o' N : Nat → Prop} (hr : HR w s.vh s.nx h an) (er : ER w s.env e h an) (st : Step w (fun i => own w s.vh s.env e i ∨ N i) h an w' o' h' an') (hN : ∀ q L, w.K q = some L → ¬ N q) {q : Nat} {L : List AV} (hK : w.K q = some L) : h'.get q = h.get q := by
  refine st.keep q (hr.limK q L hK) ?_
  rintro ((⟨b, B, hb, hi⟩ | ⟨t, ht, hi⟩) | hn)
  · obtain ⟨i, A, h1, _, _, h4⟩ := hr.blk b B hb
    rw [hi] at h1; cases h1
    rw [h4] at hK; cases hK
  · obtain ⟨i, h1, h2⟩ := er.loc ht
    rw [hi] at h1; cases h1
    rw [h2.1] at hK; cases hK
  · exact hN q L hK hn
theorem AtR.refl {R : Nat → Prop} {w : Wd} {s : St} {e : Env} {h : H} {an : Nat} (hr : HR w s.vh s.nx h an) (er : ER w s.env e h an) : AtR R w s e h an w s e h an := ⟨hr, er, .refl fun _ h => .inl h⟩
theorem agree_late {D : List Nat} {e ea : Env} (h : ∀ t, memT t D = false → e.get t = ea.get t) (d : Option Tmp) (a : AV) : ∀ t, memT t (addD d D) = false → (putA e d a).get t = ea.get t := by
  intro t ht
  cases d with
  | none => exact h t ht
  | some d =>
    simp only [addD, memT, Bool.or_eq_false_iff] at ht
    have : d ≠ t := beq_false.1 ht.1
    show (e.set d a).get t = _
    rw [Tr.get_set, if_neg (Ne.symm this)]
    exact h t ht.2
theorem agree_early {D : List Nat} {e ea : Env} (h : ∀ t, memT t D = false → e.get t = ea.get t) (d : Option Tmp) (a : AV) : ∀ t, memT t D = false → (putA e d a).get t = (putA ea d a).get t := by
  intro t ht
  cases d with
  | none => exact h t ht
  | some d =>
    show (e.set d a).get t = (ea.set d a).get t
    rw [Tr.get_set, Tr.get_set]
    split
    · rfl
    · exact h t ht
theorem rootOf_drop {d t k : Nat} : ∀ {rt : List (Nat × Nat)}, rootOf (dropRt d rt) t = some k → t ≠ d ∧ rootOf rt t = some k
  | [], h => by cases h
  | p :: l, h => by
    simp only [dropRt] at h
    cases hb : Nat.beq p.1 d with
    | true =>
      rw [hb] at h
      obtain ⟨h1, h2⟩ := rootOf_drop (rt := l) h
      refine ⟨h1, ?_⟩
      simp only [rootOf]
      rw [beq_iff.1 hb, beq_false.2 (Ne.symm h1)]
      exact h2
    | false =>
      rw [hb] at h
      simp only [cond_false, rootOf] at h ⊢
      cases hq : Nat.beq p.1 t with
      | true =>
        rw [hq] at h
        refine ⟨fun e => ?_, h⟩
        rw [← e, hq] at hb; cases hb
      | false =>
        rw [hq] at h
        exact rootOf_drop (rt := l) h
def Roots (base : Nat) (rt : List (Nat × Nat)) (e : Env) : Prop := ∀ t k, rootOf rt t = some k → ∀ a q, e.get t = some a → topId a = some q → q = base + k
theorem Roots.put {base : Nat} {rt : List (Nat × Nat)} {e : Env} (h : Roots base rt e) (d : Option Tmp) (a : AV) (r : Option Nat) (hr : ∀ k, r = some k → ∀ q, topId a = some q → q = base + k) : Roots base (putRt rt d r) (putA e d a) := by
  cases d with
  | none => exact h
  | some d =>
    intro t k ht b q hb hq
    have hb : (e.set d a).get t = some b := hb
    rw [Tr.get_set] at hb
    have drop : rootOf (dropRt d rt) t = some k → q = base + k := fun ht => by
      obtain ⟨h1, h2⟩ := rootOf_drop ht
      rw [if_neg h1] at hb
      exact h t k h2 b q hb hq
    cases r with
    | none => exact drop ht
    | some k' =>
      simp only [putRt, rootOf] at ht
      cases hdt : Nat.beq d t with
      | true =>
        rw [hdt] at ht
        cases ht
        have := beq_iff.1 hdt
        subst this
        rw [if_pos rfl] at hb; cases hb
        exact hr _ rfl q hq
      | false =>
        rw [hdt] at ht
        exact drop ht
theorem rootN_ok {op : Op} {base i : Nat} {rt : List (Nat × Nat)} {e : Env} (h : Roots base rt e) {g : H} {a : AV} (hv : (∃ g', opA P op e g (base + i) = .new a g') ∨ opA P op e g (base + i) = .val a) : ∀ k, rootN rt i op = some k → ∀ q, topId a = some q → q = base + k := by
  intro k hk q hq
  cases op <;> simp only [rootN] at hk <;> try cases hk
  case buildSlice t m ps =>
    revert hv
    simp only [opA, buildSl]
    repeat' (first | (rintro (⟨_, hh⟩ | hh) <;> cases hh <;> simp only [topId, Option.some.injEq] at hq <;> omega) | split | (simp only [cond_eq_ite]; split))
  case indexAddr t x j =>
    cases x <;> simp only at hk <;> try cases hk
    rename_i t'
    have hq' : ∀ b o, a = .ptr b o → topId (rd e (.tmp t')) = some b := by
      intro b o ha
      subst ha
      revert hv
      simp only [opA, indexAt]
      generalize rd e (.tmp t') = ra
      repeat' (first | (rintro (⟨_, hh⟩ | hh) <;> cases hh <;> rfl) | split | (simp only [cond_eq_ite]; split))
    have : ∃ b o, a = .ptr b o := by
      revert hv
      simp only [opA, indexAt]
      generalize rd e (.tmp t') = ra
      repeat' (first | (rintro (⟨_, hh⟩ | hh) <;> cases hh <;> exact ⟨_, _, rfl⟩) | split | (simp only [cond_eq_ite]; split))
    obtain ⟨b, o, rfl⟩ := this
    have h1 := hq' b o rfl
    simp only [topId, Option.some.injEq] at hq
    subst hq
    simp only [rd] at h1
    split at h1
    · rename_i v hv'
      exact h t' k hk v b hv' h1
    · cases h1
end
end Go.VL
namespace Go.VL
open Go.Ev
section
variable {P : Program} {X : Ovr} {G : Gt}
def fullH (base : Nat) (d : DState) : H := extH base d.pr.ab (fun _ => true) d.pr.b d.fs
structure DInv (P : Program) (E : Nat → Op → Env → AV → Rec → Prop) (wE : Wd) (h0 : H) (base T em i rm fm wm : Nat) (D : List Nat) (rt : List (Nat × Nat)) (ea : Env) (d : DState) : Prop where
  di : d.i = i
  nx : base + T ≤ d.pr.nx
  fs : ∀ p ∈ d.fs, Nat.testBit fm p.1 = true
  rs : ∀ r ∈ d.rs, Nat.testBit rm r.i = true ∨ (Nat.testBit em r.i = true ∧ ∃ e q, E r.i r.op e r.v q ∧ ∀ h n, opA P r.op r.env h n = opA P r.op e h n)
  lo : ∀ p ∈ d.pr :: d.old, p.lo = 0 ∨ Nat.testBit wm (p.lo - 1) = true
  old : d.old ≠ [] → d.pr.lo ≠ 0
  ab : ∀ j, Nat.testBit d.pr.ab j = true → j < i
  agree : ∀ t, memT t D = false → d.env.get t = ea.get t
  pend : ∀ j, i ≤ j → ∀ op e a r, E j op e a r → Nat.testBit em j = true → ∀ p ∈ d.pr :: d.old, opA P op e p.b 0 = .val a
  K : ∀ q L, wE.K q = some L → (fullH base d).get q = h0.get q
  root : Roots base rt d.env
theorem back_ok {base m : Nat} {fs : List (Nat × AB)} {op : Op} {env : Env} {a : AV} (hr : eqAV 10 a a = true) : ∀ (l : List PS) (lo : Nat), (∀ p ∈ l, opA P op env (extH base p.ab (Nat.testBit m) p.b fs) 0 = .val a) → chkBack P base m fs op env a lo l = true
  | [], _, _ => rfl
  | p :: l, lo, h => by
    simp only [chkBack, chk, h p (.head _), hr, back_ok hr l p.lo fun q hq => h q (.tail _ hq)]
    simp
theorem orL {a b j : Nat} (h : Nat.testBit a j = true) : Nat.testBit (Nat.lor a b) j = true := by rw [lor_bit, h]; rfl
theorem orR {a i : Nat} : Nat.testBit (Nat.lor a (Nat.pow 2 i)) i = true := by rw [lor_bit, pow_bit]; simp
theorem looks_congr {all : Array Oper} {D : List Nat} {o : Oper} {e ea : Env} (hap : apartE D all o = true) (h : ∀ t, memT t D = false → e.get t = ea.get t) : ∀ t ∈ looksA all o, e.get t = ea.get t := by
  intro t ht
  simp only [apartE, List.all_eq_true, Bool.not_eq_true'] at hap
  exact h t (hap t ht)
theorem draw_ok {all : Array Oper} {base T em : Nat} {rs : List Rec} {wE : Wd} {h0 : H} : ∀ (vs : List VOper) (os : List Oper) (ms : List Nat) (i rm fm wm : Nat) (D : List Nat) (rt : List (Nat × Nat)) (ea : Env), goodL all em vs os ms i rm fm wm D rt = true → chkOps P all vs os = true → i + os.length = T → Early all rs (EF P G rs wE h0 base) vs os i ea →
    ∀ {d : DState} {w : Wd} {s : St}, DInv P (EF P G rs wE h0 base) wE h0 base T em i rm fm wm D rt ea d → GtOk G w → wE.le w → HR w s.vh s.nx (fullH base d) d.pr.nx → ER w s.env d.env (fullH base d) d.pr.nx → (∀ k, i ≤ k → k < T → Free w s.env d.env (base + k)) →
    ∀ {K : St → Prop}, mainK G (WpCall P X G) rs vs i s K → ∃ s' e' h' an' w', K s' ∧ (∃ N, ∀ m, N ≤ m → evDraw P (evCall P X m) all base os ms d = .norm e' h' an') ∧ AtR (fun k => base ≤ k ∧ k < base + T) w s d.env (fullH base d) d.pr.nx w' s' e' h' an'
  | [], [], ms, i, rm, fm, wm, D, rt, ea, _, _, hT, _, d, w, s, I, hg, hwE, hr, er, hF, K, hk => ⟨s, d.env, fullH base d, d.pr.nx, w, hk, ⟨0, fun m _ => by cases ms <;> rfl⟩, .refl hr er⟩
  | v :: vs, o :: os, m :: ms, i, rm, fm, wm, D, rt, ea, hgood, hc, hT, hE, d, w, s, I, hg, hwE, hr, er, hF, K, hk => by
    simp only [chkOps, Bool.and_eq_true] at hc
    obtain ⟨⟨⟨h1, h2⟩, h3⟩, h4⟩ := hc
    have hdst := chkD_ok h1
    simp only [goodL, Bool.and_eq_true] at hgood
    obtain ⟨hm0, hgood⟩ := hgood
    have hm : m < 2 ^ i := blt_iff.1 hm0
    have hTlen : (i + 1) + os.length = T := by simp only [List.length_cons] at hT; omega
    have hiT : i < T := by omega
    have hdi := I.di
    have go : ∀ {rm' fm' wm' : Nat} {D' : List Nat} {rt' : List (Nat × Nat)} {ea' : Env} {d' : DState} {w2 : Wd} {s2 : St}, goodL all em vs os ms (i + 1) rm' fm' wm' D' rt' = true → Early all rs (EF P G rs wE h0 base) vs os (i + 1) ea' → DInv P (EF P G rs wE h0 base) wE h0 base T em (i + 1) rm' fm' wm' D' rt' ea' d' → AtR (fun k => base ≤ k ∧ k < base + T) w s d.env (fullH base d) d.pr.nx w2 s2 d'.env (fullH base d') d'.pr.nx →
        (∀ k, i + 1 ≤ k → k < T → Free w2 s2.env d'.env (base + k)) → mainK G (WpCall P X G) rs vs (i + 1) s2 K → (∃ N, ∀ k, N ≤ k → stepD P (evCall P X k) all base o m d = some d') →
        ∃ s' e' h' an' w', K s' ∧ (∃ N, ∀ k, N ≤ k → evDraw P (evCall P X k) all base (o :: os) (m :: ms) d = .norm e' h' an') ∧ AtR (fun k => base ≤ k ∧ k < base + T) w s d.env (fullH base d) d.pr.nx w' s' e' h' an' := by
      intro rm' fm' wm' D' rt' ea' d' w2 s2 hgd hE hI ha hfr hk hev
      obtain ⟨s', e', h', an', w', k1, ⟨N1, k2⟩, k3⟩ := draw_ok vs os ms (i + 1) rm' fm' wm' D' rt' ea' hgd h4 hTlen hE hI (hg.mono ha.step.le) (hwE.trans ha.step.le) ha.hr ha.er hfr hk
      obtain ⟨N2, k4⟩ := hev
      exact ⟨s', e', h', an', w', k1, ⟨max N1 N2, fun k hk => by rw [evDraw_step (k4 k (by omega)), k2 k (by omega)]⟩, ha.trans k3⟩
    have keepI : ∀ {rm' fm' wm' : Nat} {D' : List Nat} {rt' : List (Nat × Nat)} {ea' : Env} {d' : DState}, d'.i = i + 1 → d'.pr = d.pr → d'.old = d.old → (∀ p ∈ d'.fs, Nat.testBit fm' p.1 = true) →
        (∀ r ∈ d'.rs, Nat.testBit rm' r.i = true ∨ (Nat.testBit em r.i = true ∧ ∃ e q, EF P G rs wE h0 base r.i r.op e r.v q ∧ ∀ h n, opA P r.op r.env h n = opA P r.op e h n)) → (∀ j, Nat.testBit wm j = true → Nat.testBit wm' j = true) →
        (∀ t, memT t D' = false → d'.env.get t = ea'.get t) → (∀ q L, wE.K q = some L → (fullH base d').get q = h0.get q) → Roots base rt' d'.env →
        DInv P (EF P G rs wE h0 base) wE h0 base T em (i + 1) rm' fm' wm' D' rt' ea' d' := by
      intro rm' fm' wm' D' rt' ea' d' e1 e3 e4 e2 e5 e6 e7 e8 e9
      refine ⟨e1, by rw [e3]; exact I.nx, e2, e5, fun p hp => ?_, by rw [e3, e4]; exact I.old, by rw [e3]; exact fun j hj => Nat.lt_succ_of_lt (I.ab j hj), e7, fun j hj op e a r hE hb p hp => ?_, e8, e9⟩
      · rw [e3, e4] at hp; exact (I.lo p hp).imp_right (e6 _)
      · rw [e3, e4] at hp; exact I.pend j (by omega) op e a r hE hb p hp
    have rsL : ∀ {rm' : Nat}, (∀ j, Nat.testBit rm j = true → Nat.testBit rm' j = true) → ∀ r ∈ d.rs, Nat.testBit rm' r.i = true ∨ (Nat.testBit em r.i = true ∧ ∃ e q, EF P G rs wE h0 base r.i r.op e r.v q ∧ ∀ h n, opA P r.op r.env h n = opA P r.op e h n) :=
      fun h r hr => (I.rs r hr).imp_left (h _)
    simp only [mainK] at hk
    cases htg : v.tg with
    | e =>
      rw [htg] at hk hgood
      simp only [Bool.and_eq_true, Bool.not_eq_true'] at hgood
      obtain ⟨⟨⟨⟨hcl, hgh⟩, hnc⟩, hap⟩, hgood⟩ := hgood
      have hlk := looks_congr hap I.agree
      have hwant := wantedA_congr hlk
      have hops := rd_congr hlk
      cases hE with
      | late _ _ _ _ _ _ ck ht => rw [htg] at ht; cases ht
      | no _ _ _ _ _ _ ht hrec hw hE =>
        rw [hrec] at hk
        rw [hw] at hwant
        let d' : DState := { d with i := d.i + 1, env := putA d.env o.dst undefA }
        have hat := put_undef hr er v.dst
        refine go (d' := d') (s2 := put s v.dst V.undef) (w2 := w) hgood hE (keepI (d' := d') (by show d.i + 1 = _; rw [hdi]) rfl rfl I.fs I.rs (fun _ h => h) (agree_early I.agree _ _) I.K (I.root.put _ _ _ nofun)) ?_ ?_ hk ⟨0, fun k _ => by simp only [stepD, hwant]; rfl⟩
        · rw [hdst] at hat ⊢; exact hat.toR
        · intro k hk1 hk2
          rw [hdst] at hat ⊢
          exact (hF k (by omega) hk2).at hat (by have := I.nx; omega)
      | yes _ _ _ _ _ _ r a ht hw hEF hE =>
        rw [hEF.fnd] at hk
        rw [hw] at hwant
        have hd := hEF.den.mono hwE
        have hcgr : ∀ h n, opA P o.op d.env h n = opA P o.op ea h n := fun h n => opA_congr hEF.cls hops h n
        have heq : eqAV 10 a a = true := eqn_refl 8 _ _ hEF.eqn hd 10 (by omega)
        have hat : At w s d.env (fullH base d) d.pr.nx w (put s v.dst r.v) (putA d.env o.dst a) (fullH base d) d.pr.nx := by
          rw [hdst.symm]
          exact put_ok (nx := .val a) (v := r.v) (s' := s) ⟨.inl ⟨rfl, rfl, rfl⟩, hr, er, .of_tv (.of_den hd), .refl fun _ h => .inl (.inl h), fun hv => (no_loc' hd hv).elim, fun _ _ h => h⟩ v.dst
        have hfr : ∀ k, i + 1 ≤ k → k < T → Free w (put s v.dst r.v).env (putA d.env o.dst a) (base + k) := fun k hk1 hk2 => (hF k (by omega) hk2).at hat (by have := I.nx; omega)
        rcases hEF.cls with hp | hq
        · let d' : DState := { d with i := d.i + 1, env := putA d.env o.dst a }
          refine go (d' := d') hgood hE (keepI (d' := d') (by show d.i + 1 = _; rw [hdi]) rfl rfl I.fs I.rs (fun _ h => h) (agree_early I.agree _ _) I.K (I.root.put _ _ _ nofun)) hat.toR hfr hk ⟨0, fun k _ => ?_⟩
          simp only [stepD, hwant, hp, hcgr]
          rw [cls_p hp ea .e h0 0 0, hEF.val]
        · rw [hq] at hcl
          have hcl : Nat.testBit em i = true := hcl
          have hval : ∀ p ∈ d.pr :: d.old, opA P o.op d.env (extH base p.ab (Nat.testBit m) p.b d.fs) 0 = .val a := fun p hp => by
            rw [hcgr, r_loc hq (g := p.b) fun x hx q hq => ?_]
            · exact I.pend i (Nat.le_refl _) _ _ _ _ hEF hcl p hp
            · exact extH_low (hEF.low x hx q hq)
          let d' : DState := { d with i := d.i + 1, env := putA d.env o.dst a, rs := ⟨d.i, o.op, d.env, a⟩ :: d.rs }
          refine go (d' := d') hgood hE (keepI (d' := d') (by show d.i + 1 = _; rw [hdi]) rfl rfl I.fs (fun r' hr' => ?_) (fun _ h => h) (agree_early I.agree _ _) I.K (I.root.put _ _ _ nofun)) hat.toR hfr hk ⟨0, fun k _ => ?_⟩
          · rcases List.mem_cons.1 hr' with rfl | hr'
            · exact .inr ⟨by show Nat.testBit em d.i = true; rw [hdi]; exact hcl, ea, r, by show EF P G rs wE h0 base d.i _ _ _ _; rw [hdi]; exact hEF, hcgr⟩
            · exact I.rs r' hr'
          · simp only [stepD, hwant, hq, readD, hval d.pr (.head _), back_ok heq d.old d.pr.lo fun p hp => hval p (.tail _ hp)]
            rfl
    | n ck =>
      rw [htg] at hk hgood
      have hE' : Early all rs (EF P G rs wE h0 base) vs os (i + 1) ea := by
        cases hE with
        | late _ _ _ _ _ _ ck ht h => exact h
        | no _ _ _ _ _ _ ht => rw [htg] at ht; cases ht
        | yes _ _ _ _ _ _ r a ht => rw [htg] at ht; cases ht
      obtain ⟨w1, s1, hk, g⟩ := ghs_ok v.gh hr er hk
      have a0 : At w s d.env (fullH base d) d.pr.nx w1 s1 d.env (fullH base d) d.pr.nx := ⟨g.hr, g.er, g.step⟩
      obtain ⟨s2, hs2, hk⟩ := guard_ok h2 g.er hk
      have ha := a0.trans (guard_at g.hr g.er hs2)
      have hg1 := hg.mono g.step.le
      have hle := I.nx
      have hF2 : ∀ k, i ≤ k → k < T → Free w1 s2.env d.env (base + k) := fun k hk1 hk2 => (hF k hk1 hk2).at ha (by omega)
      have hKw : ∀ q L, wE.K q = some L → w1.K q = some L := fun q L h => g.step.le.K _ _ (hwE.K _ _ h)
      rcases hk with ⟨hw, hk⟩ | ⟨hw, hk⟩
      ·
        have hFi := hF2 i (Nat.le_refl _) hiT
        have hpe : ∀ a, putA d.env v.dst a = putA d.env o.dst a := fun a => by rw [hdst]
        have plain : v.op.isCall = false → ∃ u s' a h' an' w', again G (WpCall P X G) rs s' ck (mainK G (WpCall P X G) rs vs (i + 1) (put s' v.dst u) K) ∧ OpRes w1 s2 d.env (fullH base d) d.pr.nx (base + i) (opA P o.op d.env (fullH base d) (base + i)) u s' a h' an' w' := fun hcall => op_all hg1 ha.hr ha.er hFi h3 hcall hk
        have fin : ∀ {nx : NX} {u : V} {s' : St} {a : AV} {h' : H} {an' : Nat} {w' : Wd}, OpRes w1 s2 d.env (fullH base d) d.pr.nx (base + i) nx u s' a h' an' w' →
            AtR (fun k => base ≤ k ∧ k < base + T) w s d.env (fullH base d) d.pr.nx w' (put s' v.dst u) (putA d.env o.dst a) h' an' ∧ (∀ k, i + 1 ≤ k → k < T → Free w' (put s' v.dst u).env (putA d.env o.dst a) (base + k)) ∧ (∀ q L, wE.K q = some L → h'.get q = h0.get q) ∧ an' = d.pr.nx := by
          intro nx u s' a h' an' w' r
          have han : an' = d.pr.nx := by
            rcases r.nx with ⟨_, _, q⟩ | ⟨_, q⟩ | ⟨_, q⟩
            · exact q
            · exact q
            · omega
          have hp := put_ok' r v.dst
          have hq := put_okR (R := fun k => base ≤ k ∧ k < base + T) r ⟨by omega, by omega⟩ v.dst
          rw [hpe] at hp hq
          refine ⟨(ha.toR).trans hq, fun k hk1 hk2 => ?_, fun q L hq => ?_, han⟩
          · exact Free.step (s := s2) (s' := put s' v.dst u) (an := d.pr.nx) (N := fun j => j = base + i) hp.2.2 (by omega) (by omega) (hF2 k (by omega) hk2)
          · rw [keepK ha.hr ha.er r.step (fun q L hq hn => by rw [hn, hFi.id.K] at hq; cases hq) (hKw q L hq)]
            exact I.K q L hq
        have hfs : ∀ a, subB (Nat.lor fm wm) a = true ∨ subB (Nat.lor rm (Nat.lor fm wm)) a = true → ∀ p ∈ d.fs, Nat.testBit a p.1 = true := by
          intro a hsub p hp
          have := I.fs p hp
          rcases hsub with hsub | hsub
          · exact subB_bit hsub (orL this)
          · exact subB_bit hsub (by rw [lor_bit, orL this]; simp)
        have hlo : ∀ a, subB wm a = true ∨ subB (Nat.lor fm wm) a = true ∨ subB (Nat.lor rm (Nat.lor fm wm)) a = true → ∀ p ∈ d.pr :: d.old, p.lo = 0 ∨ Nat.testBit a (p.lo - 1) = true := by
          intro a hsub p hp
          rcases I.lo p hp with h0 | h0
          · exact .inl h0
          · refine .inr ?_
            rcases hsub with hsub | hsub | hsub
            · exact subB_bit hsub h0
            · exact subB_bit hsub (by rw [lor_bit, h0]; simp)
            · exact subB_bit hsub (by rw [lor_bit, lor_bit, h0]; simp)
        have hback : ∀ (a : Nat) (op : Op) (x : AV), (d.old = [] ∨ ∀ p ∈ d.pr :: d.old, p.lo = 0 ∨ Nat.testBit a (p.lo - 1) = true) → chkBack P base a d.fs op d.env x d.pr.lo d.old = true := by
          intro a op x hh
          cases hold : d.old with
          | nil => rfl
          | cons p ps =>
            rcases hh with hh | hh
            · rw [hold] at hh; cases hh
            · simp only [chkBack]
              rcases hh d.pr (.head _) with h0 | h0
              · exact (I.old (by rw [hold]; exact nofun) h0).elim
              · rw [h0]; rfl
        have readOk : ∀ {a : AV}, opA P o.op d.env (extH base d.pr.ab (Nat.testBit m) d.pr.b d.fs) 0 = .val a → (d.old = [] ∨ ∀ p ∈ d.pr :: d.old, p.lo = 0 ∨ Nat.testBit m (p.lo - 1) = true) →
            readD P base o m d = some { d with i := d.i + 1, env := putA d.env o.dst a, rs := ⟨d.i, o.op, d.env, a⟩ :: d.rs } := by
          intro a hv hb
          simp only [readD, hv]
          rw [hback m o.op a hb]; rfl
        cases hcls : clsOf o.op with
        | p =>
          rw [hcls] at hgood
          simp only [Bool.and_eq_true] at hgood
          obtain ⟨hnck, hgood⟩ := hgood
          have hck : ck = [] := by cases ck <;> first | rfl | cases hnck
          subst hck
          obtain ⟨u, s', a, h', an', w', k1, k2⟩ := plain (notCall h3 (by rw [hcls]; exact nofun))
          obtain ⟨f1, f2, f3, f4⟩ := fin k2
          obtain ⟨q, e1, e2⟩ := onlyV_val (p_only hcls _ _ _) k2
          subst e1
          rw [f4] at f1
          let d' : DState := { d with i := d.i + 1, env := putA d.env o.dst a }
          exact go (d' := d') hgood hE' (keepI (d' := d') (by show d.i + 1 = _; rw [hdi]) rfl rfl I.fs I.rs (fun _ h => h) (agree_late I.agree _ _) I.K (I.root.put _ _ _ (rootN_ok I.root (.inr q)))) f1 f2 k1 ⟨0, fun k _ => by
            simp only [stepD, hw, hcls]
            rw [cls_p hcls d.env .e (fullH base d) 0 (base + i), q]⟩
        | r =>
          rw [hcls] at hgood
          simp only [Bool.and_eq_true, Bool.or_eq_true] at hgood
          obtain ⟨⟨hnck, hsub⟩, hgood⟩ := hgood
          have hck : ck = [] := by cases ck <;> first | rfl | cases hnck
          subst hck
          obtain ⟨u, s', a, h', an', w', k1, k2⟩ := plain (notCall h3 (by rw [hcls]; exact nofun))
          obtain ⟨f1, f2, f3, f4⟩ := fin k2
          obtain ⟨q, e1, e2⟩ := onlyV_val (r_only hcls _ _ _) k2
          subst e1
          rw [f4] at f1
          have hlo' : ∀ p ∈ d.pr :: d.old, p.lo = 0 ∨ Nat.testBit m (p.lo - 1) = true := hlo m (hsub.elim (fun h => .inr (.inl h)) fun h => .inl h.1)
          have hval : opA P o.op d.env (extH base d.pr.ab (Nat.testBit m) d.pr.b d.fs) 0 = .val a := by
            rcases hsub with hsub | ⟨_, hsub⟩
            · rw [extH_all (hfs m (.inl hsub))]
              exact pr_nid (.inr hcls) q 0
            · rw [r_loc hcls (g := fullH base d) fun x hx q hq => ?_]
              · exact pr_nid (.inr hcls) q 0
              · generalize o.op = oo at hsub hx
                cases oo <;> simp only [rootLd] at hsub <;> try cases hsub
                rename_i y
                cases y <;> simp only at hsub <;> try cases hsub
                rename_i t
                cases hx
                split at hsub
                · rename_i k hk
                  simp only [rd] at hq
                  split at hq
                  · rename_i b hb
                    rw [I.root t k hk b q hb hq]
                    exact extH_at hsub
                  · cases hq
                · cases hsub
          let d' : DState := { d with i := d.i + 1, env := putA d.env o.dst a, rs := ⟨d.i, o.op, d.env, a⟩ :: d.rs }
          refine go (d' := d') hgood hE' (keepI (d' := d') (by show d.i + 1 = _; rw [hdi]) rfl rfl I.fs (fun r hr => ?_) (fun _ h => h) (agree_late I.agree _ _) I.K (I.root.put _ _ _ nofun)) f1 f2 k1 ⟨0, fun k _ => by
            simp only [stepD, hw, hcls]
            exact readOk hval (.inr hlo')⟩
          rcases List.mem_cons.1 hr with rfl | hr
          · refine .inl ?_; show Nat.testBit _ d.i = true; rw [hdi]; exact orR
          · exact rsL (fun _ h => orL h) r hr
        | f =>
          rw [hcls] at hgood
          simp only [Bool.and_eq_true] at hgood
          obtain ⟨⟨hnck, hconv⟩, hgood⟩ := hgood
          have hck : ck = [] := by cases ck <;> first | rfl | cases hnck
          subst hck
          obtain ⟨u, s', a, h', an', w', k1, k2⟩ := plain (notCall h3 (by rw [hcls]; exact nofun))
          obtain ⟨f1, f2, f3, f4⟩ := fin k2
          rw [f4] at f1
          rcases k2.nx with ⟨q, e1, e2⟩ | ⟨q, e2⟩ | ⟨q, e2⟩
          ·
            subst e1
            have hic : isConv o.op = true := by
              cases hic : isConv o.op with
              | true => rfl
              | false => exact (f_conv hcls hic q).elim
            rw [hic] at hconv hgood
            simp only [cond_true] at hconv hgood
            let d' : DState := { d with i := d.i + 1, env := putA d.env o.dst a, rs := ⟨d.i, o.op, d.env, a⟩ :: d.rs }
            have hs : ∃ N, ∀ k, N ≤ k → stepD P (evCall P X k) all base o m d = some d' := ⟨0, fun k _ => by
              have hrd : readD P base o m d = some d' := by
                cases hlt : v.op.light with
                | true =>
                  rw [hlt] at hconv
                  simp only [cond_true] at hconv
                  have hwm := beq_iff.1 hconv
                  refine readOk (light_any h3 hlt q _ _) (.inl ?_)
                  cases hold : d.old with
                  | nil => rfl
                  | cons p ps =>
                    exfalso
                    have := I.old (by rw [hold]; exact nofun)
                    rcases I.lo d.pr (.head _) with h0 | h0
                    · exact this h0
                    · rw [hwm, Nat.zero_testBit] at h0; cases h0
                | false =>
                  rw [hlt] at hconv
                  simp only [cond_false] at hconv
                  have hex : extH base d.pr.ab (Nat.testBit m) d.pr.b d.fs = fullH base d := extH_all (hfs m (.inl hconv))
                  exact readOk (by rw [hex]; exact cls_r (.inr hcls) (fun _ _ h => h) 0 q) (.inr (hlo m (.inr (.inl hconv))))
              simp only [stepD, hw, hcls]
              cases hne : opA P o.op d.env .e (base + d.i) with
              | new b hb =>
                obtain ⟨B, _, h2⟩ := f_ind hcls hne
                rw [hdi] at h2
                rw [h2 (fullH base d)] at q
                cases q
              | _ => exact hrd⟩
            refine go (d' := d') hgood hE' (keepI (d' := d') (by show d.i + 1 = _; rw [hdi]) rfl rfl (fun p hp => orL (I.fs p hp)) (fun r hr => ?_) (fun _ h => h) (agree_late I.agree _ _) I.K (I.root.put _ _ _ (rootN_ok I.root (.inr q)))) f1 f2 k1 hs
            rcases List.mem_cons.1 hr with rfl | hr
            · refine .inl ?_; show Nat.testBit _ d.i = true; rw [hdi]; exact orR
            · exact rsL (fun _ h => orL h) r hr
          · exact (f_upd hcls q).elim
          · obtain ⟨B, hB, h2⟩ := f_ind hcls q
            let d' : DState := { d with i := d.i + 1, env := putA d.env o.dst a, fs := (d.i, B) :: d.fs }
            have hs : ∃ N, ∀ k, N ≤ k → stepD P (evCall P X k) all base o m d = some d' := ⟨0, fun k _ => by
              simp only [stepD, hw, hcls]
              have h3 := h2 .e
              rw [← hdi] at h3
              rw [h3]
              simp only [Tr.get_set, if_true]
              rfl⟩
            have hfull : fullH base d' = h' := by
              show extH base d.pr.ab (fun _ => true) d.pr.b ((d.i, B) :: d.fs) = h'
              simp only [extH]
              have : Nat.testBit d.pr.ab d.i = false := by
                cases hb : Nat.testBit d.pr.ab d.i with
                | false => rfl
                | true => have := I.ab _ hb; omega
              rw [this, hB, hdi]
              rfl
            rw [← hfull] at f1
            refine go (d' := d') hgood hE' (keepI (d' := d') (by show d.i + 1 = _; rw [hdi]) rfl rfl (fun p hp => ?_) (rsL fun j h => ?_) (fun _ h => h) (agree_late I.agree _ _) (by rw [hfull]; exact f3) (I.root.put _ _ _ (rootN_ok I.root (.inl ⟨_, q⟩)))) f1 f2 k1 hs
            · rcases List.mem_cons.1 hp with rfl | hp
              · show Nat.testBit _ d.i = true; rw [hdi]; exact orR
              · exact orL (I.fs p hp)
            · cases isConv o.op
              · exact h
              · exact orL h
        | w =>
          rw [hcls] at hgood
          simp only [Bool.and_eq_true] at hgood
          obtain ⟨⟨hsub, hem⟩, hgood⟩ := hgood
          have hex : extH base d.pr.ab (Nat.testBit m) d.pr.b d.fs = fullH base d := extH_all (hfs m (.inr hsub))
          have hall : (d.pr :: d.old).all (fun p => Nat.beq p.lo 0 || Nat.testBit m (p.lo - 1)) = true := by
            rw [List.all_eq_true]
            intro p hp
            rcases hlo m (.inr (.inr hsub)) p hp with h0 | h0
            · rw [h0]; rfl
            · rw [h0, Bool.or_true]
          have sD : ∀ {r : Option DState} {cal : CallF}, (match opA P o.op d.env (fullH base d) (base + i) with
              | .val v => wroteD P o m d v (fullH base d) d.pr.nx
              | .upd v h => wroteD P o m d v h d.pr.nx
              | .new v h => wroteD P o m d v h d.pr.nx
              | .call f args => (match cal f args (fullH base d) d.pr.nx with
                | .ok v h nx => wroteD P o m d v h nx
                | .bad => none)
              | .bad => none) = r → stepD P cal all base o m d = r := by
            intro r cal hrr
            rw [← hrr]
            simp only [stepD, hw, hcls, writeD, hall, cond_true, hex, hdi]
            cases opA P o.op d.env (fullH base d) (base + i) <;> rfl
          have wend : ∀ {a : AV} {hh : H} {n : Nat} {w2 : Wd} {s' : St} {u : V}, again G (WpCall P X G) rs s' ck (mainK G (WpCall P X G) rs vs (i + 1) (put s' v.dst u) K) → HR w2 s'.vh s'.nx hh n → d.pr.nx ≤ n → (∀ q L, wE.K q = some L → hh.get q = h0.get q) →
              AtR (fun k => base ≤ k ∧ k < base + T) w s d.env (fullH base d) d.pr.nx w2 (put s' v.dst u) (putA d.env o.dst a) hh n → (∀ k, i + 1 ≤ k → k < T → Free w2 (put s' v.dst u).env (putA d.env o.dst a) (base + k)) →
              (∃ N, ∀ k, N ≤ k → stepD P (evCall P X k) all base o m d = wroteD P o m d a hh n) →
              ∃ s' e' h' an' w', K s' ∧ (∃ N, ∀ k, N ≤ k → evDraw P (evCall P X k) all base (o :: os) (m :: ms) d = .norm e' h' an') ∧ AtR (fun k => base ≤ k ∧ k < base + T) w s d.env (fullH base d) d.pr.nx w' s' e' h' an' := by
            intro a hh n w2 s' u hag hr2 hn hK2 hat hfr hst
            obtain ⟨hk2, hags⟩ := again_ok (hg.mono hat.step.le) (hwE.trans hat.step.le) hr2 hK2 ck hag
            have hrs : d.rs.all (fun r => Nat.testBit m r.i || chk P r.op r.env r.v hh) = true := by
              rw [List.all_eq_true]
              intro r hr
              rcases I.rs r hr with h1 | ⟨h1, e, q, h2, h3⟩
              · rw [subB_bit hsub (orL h1)]; rfl
              · have h4 := subB_bit hem h1
                rw [lor_bit] at h4
                simp only [Bool.or_eq_true] at h4
                rcases h4 with h4 | h4
                · rw [h4]; rfl
                · have h5 := hags _ _ _ _ _ h4 h2
                  have h6 : chk P r.op r.env r.v hh = true := by
                    simp only [chk, h3, h5]
                    exact eqn_refl 8 _ _ h2.eqn h2.den 10 (by omega)
                  rw [h6, Bool.or_true]
            let d' : DState := { i := d.i + 1, env := putA d.env o.dst a, fs := d.fs, pr := ⟨d.i + 1, Nat.lor (Nat.lor d.pr.ab m) (Nat.pow 2 d.i), hh, n⟩, old := d.pr :: d.old, rs := d.rs }
            have hwr : wroteD P o m d a hh n = some d' := by
              simp only [wroteD, hrs, cond_true]; rfl
            have hful : fullH base d' = hh := by
              refine extH_none fun p hp => ?_
              show Nat.testBit (Nat.lor (Nat.lor d.pr.ab m) (Nat.pow 2 d.i)) p.1 = true
              refine orL ?_
              rw [lor_bit, hfs m (.inr hsub) p hp, Bool.or_true]
            have hI : DInv P (EF P G rs wE h0 base) wE h0 base T em (i + 1) rm fm (Nat.lor wm (Nat.pow 2 i)) (addD o.dst D) (putRt rt o.dst none) ea d' := by
              refine ⟨by show d.i + 1 = _; rw [hdi], by show base + T ≤ n; omega, I.fs, I.rs, fun p hp => ?_, fun _ => nofun, fun j hj => ?_, agree_late I.agree _ _, fun j hj op e a r hE hb p hp => ?_, by rw [hful]; exact hK2, I.root.put _ _ _ nofun⟩
              · rcases List.mem_cons.1 hp with rfl | hp
                · refine .inr ?_
                  show Nat.testBit _ (d.i + 1 - 1) = true
                  rw [hdi]; exact orR
                · exact (I.lo p hp).imp_right orL
              · have hj : Nat.testBit (Nat.lor (Nat.lor d.pr.ab m) (Nat.pow 2 d.i)) j = true := hj
                rw [lor_bit, lor_bit, pow_bit] at hj
                simp only [Bool.or_eq_true, decide_eq_true_eq] at hj
                rcases hj with (hj | hj) | hj
                · exact Nat.lt_succ_of_lt (I.ab j hj)
                · exact Nat.lt_succ_of_lt (lt_bit hm hj)
                · omega
              · rcases List.mem_cons.1 hp with rfl | hp
                · have h4 := subB_bit hem hb
                  rw [lor_bit] at h4
                  simp only [Bool.or_eq_true] at h4
                  rcases h4 with h4 | h4
                  · have := lt_bit hm h4; omega
                  · exact hags _ _ _ _ _ h4 hE
                · exact I.pend j (by omega) op e a r hE hb p hp
            rw [← hful] at hat
            obtain ⟨N, hst⟩ := hst
            exact go (d' := d') hgood hE' hI hat hfr hk2 ⟨N, fun k hk => by rw [hst k hk, hwr]⟩
          cases hcl : v.op.isCall with
          | false =>
            obtain ⟨u, s', a, h', an', w', k1, k2⟩ := plain hcl
            obtain ⟨f1, f2, f3, f4⟩ := fin k2
            rw [f4] at f1
            have hr2 := k2.hr
            rw [f4] at hr2
            refine wend k1 hr2 (Nat.le_refl _) f3 f1 f2 ⟨0, fun k _ => ?_⟩
            rcases k2.nx with ⟨q, e1, e2⟩ | ⟨q, e2⟩ | ⟨q, e2⟩
            · subst e1; exact sD (by rw [q])
            · exact sD (by rw [q])
            · exact sD (by rw [q])
          | true =>
            have called : ∀ {gf : FuncId} {wsv : List V} {us : List AV}, WpCall P X G gf wsv s2.vh s2.nx (fun u vh nx => again G (WpCall P X G) rs ⟨s2.env, vh, nx⟩ ck (mainK G (WpCall P X G) rs vs (i + 1) (put ⟨s2.env, vh, nx⟩ v.dst u) K)) → Dens w1 wsv us → (∀ n, opA P o.op d.env (fullH base d) n = .call gf us) →
                ∃ s' e' h' an' w', K s' ∧ (∃ N, ∀ k, N ≤ k → evDraw P (evCall P X k) all base (o :: os) (m :: ms) d = .norm e' h' an') ∧ AtR (fun k => base ≤ k ∧ k < base + T) w s d.env (fullH base d) d.pr.nx w' s' e' h' an' := by
              intro gf wsv us hcl2 hd hop
              obtain ⟨u, vh', vn', a, h', an', w', k1, ⟨N, k2⟩, k3, k4, k5⟩ := hcl2.out w1 (fullH base d) d.pr.nx us hg1 ha.hr hd
              have hat := call_step ha.er k3 k5 k4 v.dst
              rw [hpe] at hat
              have k5' : Step w1 (fun i => own w1 s2.vh s2.env d.env i ∨ False) (fullH base d) d.pr.nx w' (ownB w' vh') h' an' := k5.weak (fun i h => .inl (.inl h)) (fun _ h => h)
              refine wend (s' := ⟨s2.env, vh', vn'⟩) (u := u) k1 k3 k5.grow (fun q L hq => ?_) (ha.trans hat).toR (fun k hk1 hk2 => (hF2 k (by omega) hk2).at hat (by omega)) ⟨N, fun k hk => sD (by rw [hop]; simp only [k2 k hk])⟩
              rw [keepK (N := fun _ => False) ha.hr ha.er k5' (fun _ _ _ h => h) (hKw q L hq)]
              exact I.K q L hq
            cases hvo : v.op with
            | call gf xs =>
              rw [hvo] at hk h3
              generalize hoo : o.op = oo at h3
              unfold cop at h3
              split at h3 <;> first | (rename_i heq; cases heq; done) | skip
              all_goals first
                | (rename_i heq
                   cases heq
                   simp only [Bool.and_eq_true, beq_iff] at h3
                   obtain ⟨rfl, h3⟩ := h3
                   obtain ⟨ws, q1, _, q2⟩ := rdsF_rel hg1 ha.er h3 hk
                   refine called q1 q2 fun n => ?_
                   rw [hoo]
                   simp only [opA, callA, rd, app_eq, List.append_nil, List.nil_append]
                   done)
                | cases h3
            | callv x xs =>
              rw [hvo] at hk h3
              generalize hoo : o.op = oo at h3
              unfold cop at h3
              split at h3 <;> first | (rename_i heq; cases heq; done) | skip
              all_goals first
                | (rename_i heq
                   cases heq
                   simp only [Bool.and_eq_true] at h3
                   obtain ⟨h30, h31⟩ := h3
                   obtain ⟨fv, q0, q3⟩ := rdK_rel hg1 ha.er h30 hk
                   rename_i yy ys tys
                   generalize hrd : rd d.env yy = ra at q3
                   split at q0
                   · cases q3 with
                     | func g f c f' c' hf hcc =>
                       obtain ⟨ws, q1, _, q2⟩ := rdsF_rel hg1 ha.er h31 q0
                       refine called q1 ((hf.app q2).app hcc) fun n => ?_
                       rw [hoo]
                       simp only [opA, callA, hrd, app_eq, List.append_assoc]
                   · exact q0.elim
                   done)
                | cases h3
            | _ => rw [hvo] at hcl; cases hcl
      ·
        let d' : DState := { d with i := d.i + 1, env := putA d.env o.dst undefA }
        have hs : ∃ N, ∀ k, N ≤ k → stepD P (evCall P X k) all base o m d = some d' := ⟨0, fun k _ => by simp only [stepD, hw]; rfl⟩
        have hat : At w s d.env (fullH base d) d.pr.nx w1 (put s2 v.dst V.undef) d'.env (fullH base d') d.pr.nx := by
          have := ha.trans (put_undef ha.hr ha.er v.dst)
          rw [hdst] at this ⊢
          exact this
        have hfr : ∀ k, i + 1 ≤ k → k < T → Free w1 (put s2 v.dst V.undef).env d'.env (base + k) := fun k hk1 hk2 => (hF k (by omega) hk2).at hat (by omega)
        have hroot : ∀ r, (∀ k, r = some k → ∀ q, topId undefA = some q → q = base + k) := fun r k _ q hq => by cases hq
        simp only [Bool.and_eq_true] at hgood
        split at hgood
        all_goals try simp only [Bool.and_eq_true] at hgood
        · exact go hgood.2 hE' (keepI (d' := d') (by show d.i + 1 = _; rw [hdi]) rfl rfl I.fs I.rs (fun _ h => h) (agree_late I.agree _ _) I.K (I.root.put _ _ _ (hroot _))) hat.toR hfr hk hs
        · exact go hgood.2 hE' (keepI (d' := d') (by show d.i + 1 = _; rw [hdi]) rfl rfl I.fs (rsL fun _ h => orL h) (fun _ h => h) (agree_late I.agree _ _) I.K (I.root.put _ _ _ (hroot _))) hat.toR hfr hk hs
        · refine go hgood.2 hE' (keepI (d' := d') (by show d.i + 1 = _; rw [hdi]) rfl rfl (fun p hp => orL (I.fs p hp)) (rsL fun j h => ?_) (fun _ h => h) (agree_late I.agree _ _) I.K (I.root.put _ _ _ (hroot _))) hat.toR hfr hk hs
          cases isConv o.op
          · exact h
          · exact orL h
        · exact go hgood.2 hE' (keepI (d' := d') (by show d.i + 1 = _; rw [hdi]) rfl rfl I.fs I.rs (fun _ h => orL h) (agree_late I.agree _ _) I.K (I.root.put _ _ _ (hroot _))) hat.toR hfr hk hs
  | [], _ :: _, _, _, _, _, _, _, _, _, hgood, _, _, _, _, _, _, _, _, _, _, _, _, _, _ => by cases hgood
  | _ :: _, [], _, _, _, _, _, _, _, _, hgood, _, _, _, _, _, _, _, _, _, _, _, _, _, _ => by cases hgood
  | _ :: _, _ :: _, [], _, _, _, _, _, _, _, hgood, _, _, _, _, _, _, _, _, _, _, _, _, _, _ => by cases hgood
theorem free_ge {w : Wd} {s : St} {e : Env} {h : H} {an : Nat} (hr : HR w s.vh s.nx h an) (er : ER w s.env e h an) {k : Nat} (hk : an ≤ k) : Free w s.env e k := by
  refine ⟨⟨fun b hb => by have := (hr.lim _ _ hb).1; omega, ?_⟩, fun t hl hg => ?_⟩
  · cases hL : w.K k with
    | none => rfl
    | some L => have := hr.limK _ _ hL; omega
  · obtain ⟨i, hi, h1⟩ := er.loc hl
    rw [hg] at hi; cases hi; have := h1.2.1; omega
theorem draw_run {vs : List VOper} {os : Array Oper} (hgd : goodDraw P vs os = true) (hc : chkOps P os vs os.toList = true) {w : Wd} {s : St} {e : Env} {h : H} {an : Nat} (hg : GtOk G w) (hr : HR w s.vh s.nx h an) (er : ER w s.env e h an)
    {K : St → Prop} (hk : vcD G (WpCall P X G) vs s K) (i : Nat) : ∃ s' e' h' an' w', K s' ∧ (∃ N, ∀ n m, N ≤ n → N ≤ m → evC P (evCall P X m) n (.region i os true) e h an = .norm e' h' an') ∧ At w s e h an w' s' e' h' an' := by
  simp only [goodDraw, Bool.and_eq_true] at hgd
  obtain ⟨⟨h1, h2⟩, h3⟩ := hgd
  have hf0 : ∀ j, (0:Nat) ≤ j → recOf j [] = none := fun _ _ => rfl
  obtain ⟨s1, rs, wE, k1, _, hr1, st, hE⟩ := early_ok (s := ⟨dropLoc s.env, s.vh, s.nx⟩) vs os.toList _ 0 0 0 0 [] [] h3 hc hg hr (dropLoc_er er) dropLoc_flat hf0 hk
  have er1 : ER wE s.env e h an := er.call st
  have hr2 : HR wE s1.vh s1.nx h (an + os.size) := hr1.grow (Nat.le_refl _) (by omega)
  have a0 : At wE ⟨s.env, s1.vh, s1.nx⟩ e h an wE ⟨s.env, s1.vh, s1.nx⟩ e h an := ⟨hr1, er1, .refl fun _ h => .inl h⟩
  have a1 := a0.grow (an'' := an + os.size) (by omega)
  have I : DInv P (EF P G rs wE h an) wE h an os.size (earlyR vs os.toList 0) 0 0 0 0 [] [] e ⟨0, e, [], ⟨0, 0, h, an + os.size⟩, [], []⟩ := by
    refine ⟨rfl, Nat.le_refl _, nofun, nofun, fun p hp => (List.mem_cons.1 hp).elim (fun e => .inl (by rw [e])) (fun e => nomatch e), fun h => (h rfl).elim, fun j hj => by (have hj : Nat.testBit 0 j = true := hj; rw [Nat.zero_testBit] at hj; cases hj), fun _ _ => rfl, fun j hj op e a r hE hb p hp => ?_, fun _ _ _ => rfl, fun t k hk => by cases hk⟩
    rcases List.mem_cons.1 hp with rfl | hp
    · exact hE.val
    · cases hp
  obtain ⟨s', e', h', an', w', k2, ⟨N, k3⟩, k4⟩ := draw_ok (base := an) (T := os.size) vs os.toList _ 0 0 0 0 [] [] e h3 hc (by simp) hE I (hg.mono st.le) (.refl _) (s := ⟨s.env, s1.vh, s1.nx⟩) hr2 a1.er (fun k _ _ => free_ge (s := ⟨s.env, s1.vh, s1.nx⟩) hr1 er1 (by omega)) k1
  refine ⟨s', e', h', an', w', k2, ⟨N + 1, fun n m hn hm => ?_⟩, k4.hr, k4.er, ?_⟩
  · obtain ⟨n, rfl⟩ : ∃ k, n = k + 1 := ⟨n - 1, by omega⟩
    have e0 : evC P (evCall P X m) (n + 1) (.region i os true) e h an = (bif drawOk os && P.follows .mixedOrders then evDraw P (evCall P X m) os an os.toList (masks os.toList []) ⟨0, e, [], ⟨0, 0, h, an + os.size⟩, [], []⟩ else .bad) := rfl
    rw [e0, h1, h2]
    exact k3 m (by omega)
  · have st4 : Step wE (fun i => own wE s1.vh s.env e i ∨ an ≤ i ∧ i < an + os.size) h (an + os.size) w' (fun i => own w' s'.vh s'.env e' i ∨ an ≤ i ∧ i < an + os.size) h' an' := k4.step
    have own1 : ∀ i, own wE s1.vh s.env e i → own w s.vh s.env e i ∨ an ≤ i := by
      rintro i (hi | hi)
      · exact (st.sub i hi).imp_left .inl
      · exact .inl (.inr hi)
    refine ⟨st.le.trans st4.le, by have := st4.grow; omega, fun i hi ho => ?_, fun b i hb => ?_, fun i L hb => ?_, fun i hi => ?_⟩
    · refine st4.keep i (by omega) ?_
      rintro (h1 | h1)
      · rcases own1 i h1 with h2 | h2
        · exact ho h2
        · omega
      · omega
    · rcases st4.newr b i hb with q | q | q | q
      · rcases st.newr b i q with q | q | q
        · exact .inl q
        · exact .inr (.inl q)
        · exact .inr (.inr (.inl q))
      · exact .inr (.inl (by omega))
      · exact .inr (own1 i q).symm
      · exact .inr (.inl q.1)
    · rcases st4.newk i L hb with q | q | q | q
      · rcases st.newk i L q with q | q | q
        · exact .inl q
        · exact .inr (.inl q)
        · exact .inr (.inr (.inl q))
      · exact .inr (.inl (by omega))
      · exact .inr (own1 i q).symm
      · exact .inr (.inl q.1)
    · rcases st4.sub i (.inl hi) with (q | q) | q
      · exact own1 i q
      · exact .inr q.1
      · exact .inr (by omega)
end
end Go.VL
namespace Go.VL
open Go.Ev
def plainT : List VOper → Bool
  | [] => true
  | v :: vs => (match v.tg with | .n [] => true | _ => false) && plainT vs
theorem plain_early {G : Gt} {call : WCall} {rs : List Rec} {K : St → List Rec → Prop} : ∀ {vs : List VOper}, plainT vs = true → ∀ {i : Nat} {s : St}, K s rs → earlyK G call vs i s rs K
  | [], _, _, _, hk => hk
  | v :: vs, h, i, s, hk => by
    simp only [plainT, Bool.and_eq_true] at h
    simp only [earlyK]
    split at h
    · rename_i ht
      rw [ht]
      exact plain_early h.2 hk
    · cases h.1
theorem plain_main {G : Gt} {call : WCall} {rs : List Rec} : ∀ {vs : List VOper}, plainT vs = true → ∀ {i : Nat} {s : St} {K : St → Prop}, mainK G call rs vs i s K = vcOps G call vs s K
  | [], _, _, _, _ => rfl
  | v :: vs, h, i, s, K => by
    simp only [plainT, Bool.and_eq_true] at h
    split at h
    · rename_i ht
      simp only [mainK, vcOps, ht, again]
      congr 1
      funext s
      congr 1
      · funext s
        congr 1
        funext v s
        exact plain_main h.2
      · funext s
        exact plain_main h.2
    · cases h.1
theorem plain_draw {G : Gt} {call : WCall} {vs : List VOper} (h : plainT vs = true) {s : St} {K : St → Prop} (hk : vcOps G call vs s K) : vcD G call vs s K := by
  unfold vcD
  refine plain_early h ?_
  rw [plain_main h]
  exact hk
def chkC (P : Program) : VCode → Code → Bool
  | .skip, .skip => true
  | .skip, .label _ => true
  | .ret, .ret => true
  | .exit i, .exit j => Nat.beq i j
  | .seq a b, .seq c d => chkC P a c && chkC P b d
  | .cond x a b, .cond y c d => chkX x y && chkC P a c && chkC P b d
  | .block i a, .block j b => Nat.beq i j && chkC P a b
  | .loop a, .loop b => chkC P a b
  | .scope a, .scope b => chkC P a b
  | .cut a, c => chkC P a c
  | .gsk _, .skip => true
  | .gsk _, .label _ => true
  | .reg d vs _, .region _ os d' => chkOps P os vs os.toList && (match d with
    | 0 => !d'
    | 1 => d' && plainT vs && goodDraw P vs os
    | 2 => d' && goodDraw P vs os
    | _ => false)
  | _, _ => false
section
variable (P : Program) (X : Ovr) (G : Gt)
structure WpC (c : Code) (s : St) (Q : VR → Prop) : Prop where
  out : ∀ (w : Wd) (e : Env) (h : H) (an : Nat), GtOk G w → HR w s.vh s.nx h an → ER w s.env e h an →
    ∃ r e' h' an' w', Q r ∧ (∃ N, ∀ n m, N ≤ n → N ≤ m → evC P (evCall P X m) n c e h an = mkR r.kind e' h' an') ∧ At w s e h an w' r.st e' h' an'
structure WpV (v : VCode) (s : St) (Q : VR → Prop) : Prop where
  out : ∀ c, chkC P v c = true → WpC P X G c s Q
abbrev vc (v : VCode) (s : St) (Q : VR → Prop) : Prop := vcC G (WpCall P X G) (WpV P X G) v s Q
end
section
variable {P : Program} {X : Ovr} {G : Gt}
theorem vc_ok : ∀ (v : VCode) (c : Code), chkC P v c = true → ∀ (s : St) (Q : VR → Prop), vc P X G v s Q → WpC P X G c s Q
  | .skip, c, hc, s, Q, hk => ⟨fun w e h an hg hr er => by
      refine ⟨.norm s, e, h, an, w, hk, ⟨1, fun n m hn _ => ?_⟩, hr, er, .refl fun _ h => .inl h⟩
      obtain ⟨n, rfl⟩ : ∃ k, n = k + 1 := ⟨n - 1, by omega⟩
      cases c <;> first | (cases hc; done) | rfl⟩
  | .cut a, c, hc, s, Q, hk => WpV.out hk c hc
  | .gsk gs, c, hc, s, Q, hk => ⟨fun w e h an hg hr er => by
      obtain ⟨w2, s2, q2, g2⟩ := ghs_ok gs hr er hk
      refine ⟨.norm s2, e, h, an, w2, q2, ⟨1, fun n m hn _ => ?_⟩, g2.hr, g2.er, g2.step⟩
      obtain ⟨n, rfl⟩ : ∃ k, n = k + 1 := ⟨n - 1, by omega⟩
      cases c <;> first | (cases hc; done) | rfl⟩
  | .ret, c, hc, s, Q, hk => ⟨fun w e h an hg hr er => by
      refine ⟨.ret s, e, h, an, w, hk, ⟨1, fun n m hn _ => ?_⟩, hr, er, .refl fun _ h => .inl h⟩
      obtain ⟨n, rfl⟩ : ∃ k, n = k + 1 := ⟨n - 1, by omega⟩
      cases c <;> first | (cases hc; done) | rfl⟩
  | .exit i, c, hc, s, Q, hk => ⟨fun w e h an hg hr er => by
      refine ⟨.exit i s, e, h, an, w, hk, ⟨1, fun n m hn _ => ?_⟩, hr, er, .refl fun _ h => .inl h⟩
      obtain ⟨n, rfl⟩ : ∃ k, n = k + 1 := ⟨n - 1, by omega⟩
      cases c with
      | exit j => have := beq_iff.1 hc; subst this; rfl
      | _ => cases hc⟩
  | .seq a b, c, hc, s, Q, hk => by
    cases c with
    | seq a' b' =>
      simp only [chkC, Bool.and_eq_true] at hc
      have ih := vc_ok a a' hc.1 s _ hk
      refine ⟨fun w e h an hg hr er => ?_⟩
      obtain ⟨r, e1, h1, an1, w1, q, ⟨N, hev⟩, ha⟩ := ih.out w e h an hg hr er
      have other : (∀ s', r ≠ .norm s') → Q r → ∃ r e' h' an' w', Q r ∧ (∃ N, ∀ n m, N ≤ n → N ≤ m → evC P (evCall P X m) n (.seq a' b') e h an = mkR r.kind e' h' an') ∧ At w s e h an w' r.st e' h' an' := by
        intro hn hq
        refine ⟨r, e1, h1, an1, w1, hq, ⟨N + 1, fun n m hn' hm => ?_⟩, ha⟩
        obtain ⟨n, rfl⟩ : ∃ k, n = k + 1 := ⟨n - 1, by omega⟩
        rw [evC_seq, hev n m (by omega) (by omega)]
        cases r with
        | norm s' => exact (hn s' rfl).elim
        | exit i s' => rfl
        | ret s' => rfl
      cases r with
      | norm s1 =>
        obtain ⟨r, e2, h2, an2, w2, q2, ⟨N2, hev2⟩, ha2⟩ := (vc_ok b b' hc.2 s1 Q q).out w1 e1 h1 an1 (hg.mono ha.step.le) ha.hr ha.er
        refine ⟨r, e2, h2, an2, w2, q2, ⟨max N N2 + 1, fun n m hn hm => ?_⟩, ha.trans ha2⟩
        obtain ⟨n, rfl⟩ : ∃ k, n = k + 1 := ⟨n - 1, by omega⟩
        rw [evC_seq, hev n m (by omega) (by omega)]
        exact hev2 n m (by omega) (by omega)
      | exit i s1 => exact other nofun q
      | ret s1 => exact other nofun q
    | _ => cases hc
  | .cond x a b, c, hc, s, Q, hk => by
    cases c with
    | cond y a' b' =>
      simp only [chkC, Bool.and_eq_true] at hc
      refine ⟨fun w e h an hg hr er => ?_⟩
      obtain ⟨v, hv, hd⟩ := rdK_rel hg er hc.1.1 hk
      generalize hrd : rd e y = ra at hd
      split at hv
      · rename_i t
        cases hd
        cases t with
        | true =>
          obtain ⟨r, e1, h1, an1, w1, q, ⟨N, hev⟩, ha⟩ := (vc_ok a a' hc.1.2 s Q (hv.t rfl)).out w e h an hg hr er
          refine ⟨r, e1, h1, an1, w1, q, ⟨N + 1, fun n m hn hm => ?_⟩, ha⟩
          obtain ⟨n, rfl⟩ : ∃ k, n = k + 1 := ⟨n - 1, by omega⟩
          rw [evC_cond, hrd, condA_t]
          exact hev n m (by omega) (by omega)
        | false =>
          obtain ⟨r, e1, h1, an1, w1, q, ⟨N, hev⟩, ha⟩ := (vc_ok b b' hc.2 s Q (hv.f rfl)).out w e h an hg hr er
          refine ⟨r, e1, h1, an1, w1, q, ⟨N + 1, fun n m hn hm => ?_⟩, ha⟩
          obtain ⟨n, rfl⟩ : ∃ k, n = k + 1 := ⟨n - 1, by omega⟩
          rw [evC_cond, hrd, condA_f]
          exact hev n m (by omega) (by omega)
      · exact hv.elim
    | _ => cases hc
  | .block i a, c, hc, s, Q, hk => by
    cases c with
    | block j a' =>
      simp only [chkC, Bool.and_eq_true] at hc
      have := beq_iff.1 hc.1
      subst this
      refine ⟨fun w e h an hg hr er => ?_⟩
      obtain ⟨r, e1, h1, an1, w1, q, ⟨N, hev⟩, ha⟩ := (vc_ok a a' hc.2 s _ hk).out w e h an hg hr er
      have e0 : ∀ n m, evC P (evCall P X m) (n + 1) (.block i a') e h an = (match evC P (evCall P X m) n a' e h an with
        | .exit id' env h nx => bif Nat.beq i id' then .norm env h nx else .exit id' env h nx
        | r => r) := fun n m => rfl
      cases r with
      | norm s1 =>
        refine ⟨.norm s1, e1, h1, an1, w1, q, ⟨N + 1, fun n m hn hm => ?_⟩, ha⟩
        obtain ⟨n, rfl⟩ : ∃ k, n = k + 1 := ⟨n - 1, by omega⟩
        rw [e0, hev n m (by omega) (by omega)]; rfl
      | ret s1 =>
        refine ⟨.ret s1, e1, h1, an1, w1, q, ⟨N + 1, fun n m hn hm => ?_⟩, ha⟩
        obtain ⟨n, rfl⟩ : ∃ k, n = k + 1 := ⟨n - 1, by omega⟩
        rw [e0, hev n m (by omega) (by omega)]; rfl
      | exit k s1 =>
        simp only [blockQ] at q
        cases hb : Nat.beq i k with
        | true =>
          rw [hb] at q
          refine ⟨.norm s1, e1, h1, an1, w1, q, ⟨N + 1, fun n m hn hm => ?_⟩, ha⟩
          obtain ⟨n, rfl⟩ : ∃ k, n = k + 1 := ⟨n - 1, by omega⟩
          rw [e0, hev n m (by omega) (by omega)]
          simp only [VR.kind, mkR, hb, cond_true]
        | false =>
          rw [hb] at q
          refine ⟨.exit k s1, e1, h1, an1, w1, q, ⟨N + 1, fun n m hn hm => ?_⟩, ha⟩
          obtain ⟨n, rfl⟩ : ∃ k, n = k + 1 := ⟨n - 1, by omega⟩
          rw [e0, hev n m (by omega) (by omega)]
          simp only [VR.kind, mkR, hb, cond_false]
    | _ => cases hc
  | .loop a, c, hc, s, Q, hk => hk.out c hc
  | .scope a, c, hc, s, Q, hk => by
    cases c with
    | scope a' =>
      refine ⟨fun w e h an hg hr er => ?_⟩
      obtain ⟨r, e1, h1, an1, w1, q, ⟨N, hev⟩, ha⟩ := (vc_ok a a' hc s Q hk).out w e h an hg hr er
      refine ⟨r, e1, h1, an1, w1, q, ⟨N + 1, fun n m hn hm => ?_⟩, ha⟩
      obtain ⟨n, rfl⟩ : ∃ k, n = k + 1 := ⟨n - 1, by omega⟩
      exact hev n m (by omega) (by omega)
    | _ => cases hc
  | .reg d vs gh, c, hc, s, Q, hk => by
    cases c with
    | region i os d' =>
      simp only [chkC, Bool.and_eq_true] at hc
      obtain ⟨hc, hd⟩ := hc
      refine ⟨fun w e h an hg hr er => ?_⟩
      have fin : ∀ {s1 : St} {e1 : Env} {h1 : H} {an1 : Nat} {w1 : Wd}, vcGhs gh s1 (fun s => Q (.norm s)) → At w s e h an w1 s1 e1 h1 an1 → (∃ N, ∀ n m, N ≤ n → N ≤ m → evC P (evCall P X m) n (.region i os d') e h an = .norm e1 h1 an1) →
          ∃ r e' h' an' w', Q r ∧ (∃ N, ∀ n m, N ≤ n → N ≤ m → evC P (evCall P X m) n (.region i os d') e h an = mkR r.kind e' h' an') ∧ At w s e h an w' r.st e' h' an' := by
        intro s1 e1 h1 an1 w1 q ha hev
        obtain ⟨w2, s2, q2, g2⟩ := ghs_ok gh ha.hr ha.er q
        exact ⟨.norm s2, e1, h1, an1, w2, q2, hev, ha.trans ⟨g2.hr, g2.er, g2.step⟩⟩
      split at hd
      · cases d' with
        | true => cases hd
        | false =>
          obtain ⟨s1, e1, h1, an1, w1, q, ⟨N, hev⟩, ha⟩ := ops_ok vs os.toList hc hg hr er hk
          refine fin q ha ⟨N + 1, fun n m hn hm => ?_⟩
          obtain ⟨n, rfl⟩ : ∃ k, n = k + 1 := ⟨n - 1, by omega⟩
          rw [evC_region]
          exact hev m (by omega)
      · cases d' with
        | false => cases hd
        | true =>
          simp only [Bool.true_and, Bool.and_eq_true] at hd
          obtain ⟨s1, e1, h1, an1, w1, q, hev, ha⟩ := draw_run hd.2 hc hg hr er (plain_draw hd.1 hk) i
          exact fin q ha hev
      · cases d' with
        | false => cases hd
        | true =>
          simp only [Bool.true_and] at hd
          obtain ⟨s1, e1, h1, an1, w1, q, hev, ha⟩ := draw_run hd hc hg hr er hk i
          exact fin q ha hev
      · cases hd
    | _ => cases hc
theorem WpV.of {v : VCode} {s : St} {Q : VR → Prop} (h : vc P X G v s Q) : WpV P X G v s Q := ⟨fun c hc => vc_ok v c hc s Q h⟩
theorem WpV.cut {v : VCode} {s : St} {Q : VR → Prop} (h : vc P X G v s Q) : WpV P X G (.cut v) s Q := ⟨fun c hc => vc_ok v c hc s Q h⟩
theorem WpV.loop {b : VCode} {s : St} {Q : VR → Prop} (h : WpV P X G b s (thenQ Q fun s => WpV P X G (.loop b) s Q)) : WpV P X G (.loop b) s Q := by
  refine ⟨fun c hc => ?_⟩
  cases c with
  | loop b' =>
    refine ⟨fun w e hh an hg hr er => ?_⟩
    have e0 : ∀ n m, evC P (evCall P X m) (n + 1) (.loop b') e hh an = (evC P (evCall P X m) n b' e hh an).then (evC P (evCall P X m) n (.loop b')) := fun n m => rfl
    obtain ⟨r, e1, h1, an1, w1, q, ⟨N, hev⟩, ha⟩ := (h.out b' hc).out w e hh an hg hr er
    cases r with
    | norm s1 =>
      obtain ⟨r, e2, h2, an2, w2, q2, ⟨N2, hev2⟩, ha2⟩ := (WpV.out q (.loop b') hc).out w1 e1 h1 an1 (hg.mono ha.step.le) ha.hr ha.er
      refine ⟨r, e2, h2, an2, w2, q2, ⟨max N N2 + 1, fun n m hn hm => ?_⟩, ha.trans ha2⟩
      obtain ⟨n, rfl⟩ : ∃ k, n = k + 1 := ⟨n - 1, by omega⟩
      rw [e0, hev n m (by omega) (by omega)]
      exact hev2 n m (by omega) (by omega)
    | exit i s1 =>
      refine ⟨.exit i s1, e1, h1, an1, w1, q, ⟨N + 1, fun n m hn hm => ?_⟩, ha⟩
      obtain ⟨n, rfl⟩ : ∃ k, n = k + 1 := ⟨n - 1, by omega⟩
      rw [e0, hev n m (by omega) (by omega)]; rfl
    | ret s1 =>
      refine ⟨.ret s1, e1, h1, an1, w1, q, ⟨N + 1, fun n m hn hm => ?_⟩, ha⟩
      obtain ⟨n, rfl⟩ : ∃ k, n = k + 1 := ⟨n - 1, by omega⟩
      rw [e0, hev n m (by omega) (by omega)]; rfl
  | _ => cases hc
theorem WpV.round {b : VCode} {s : St} {Q : VR → Prop} (h : vc P X G b s (thenQ Q fun s => WpV P X G (.loop b) s Q)) : WpV P X G (.loop b) s Q := .loop (.of h)
end
inductive VRes where
  | tmp (t : Nat)
  | cell (a : Nat) (ag : Bool) (n : Nat)
section
variable (P : Program) (X : Ovr) (G : Gt)
def resK : List VRes → St → (List V → Prop) → Prop
  | [], _, k => k []
  | .tmp t :: l, s, k => rdF G s.env (.t t) fun v => resK l s fun vs => k (v :: vs)
  | .cell a ag n :: l, s, k => vcOp G (fun _ _ _ _ _ => False) (.load (.t a) ag n) s fun v s => resK l s fun vs => k (v :: vs)
def chkRes : List VRes → List ResultVar → Bool
  | [], [] => true
  | .tmp t :: l, .tmp u :: m => Nat.beq t u && chkRes l m
  | .cell a ag n :: l, .cell b t :: m => Nat.beq a b && cop P (.load (.t a) ag n) (.load t (.tmp b)) && chkRes l m
  | _, _ => false
def finK (rs : List VRes) (Q : V → VH → Nat → Prop) (s : St) : Prop := resK G rs s fun vs => match vs with
  | [v] => Get (fun vh : VH => ∀ b B, vh b = some B → s.vh b = some B) fun vh => Q v vh s.nx
  | vs => Get (fun vh : VH => ∀ b B, vh b = some B → s.vh b = some B) fun vh => Q (.tup vs) vh s.nx
def finQ (rs : List VRes) (Q : V → VH → Nat → Prop) : VR → Prop
  | .norm s => finK G rs Q s
  | .ret s => finK G rs Q s
  | .exit _ _ => False
end
def argsE : List V → Nat → VEnv
  | [], _ => []
  | v :: vs, i => (i, v) :: argsE vs (i + 1)
section
variable {P : Program} {X : Ovr} {G : Gt}
theorem argsE_lk : ∀ (vs : List V) (i t : Nat) (v : V), lk (argsE vs i) t = some v → i ≤ t ∧ vs[t - i]? = some v
  | [], i, t, v, h => by cases h
  | u :: vs, i, t, v, h => by
    simp only [argsE] at h
    rw [lk_cons] at h
    split at h
    · rename_i ht; simp only at ht; subst ht; cases h; simp
    · rename_i ht
      simp only at ht
      obtain ⟨h1, h2⟩ := argsE_lk vs (i + 1) t v h
      refine ⟨by omega, ?_⟩
      have : t - i = (t - (i + 1)) + 1 := by omega
      rw [this]; simpa using h2
theorem res_ok : ∀ (l : List VRes) (m : List ResultVar), chkRes P l m = true → ∀ {w : Wd} {s : St} {e : Env} {h : H} {an : Nat}, GtOk G w → HR w s.vh s.nx h an → ER w s.env e h an → ∀ {k : List V → Prop}, resK G l s k →
    ∃ vs us, k vs ∧ resA P e h m = some us ∧ Dens w vs us
  | [], [], _, w, s, e, h, an, hg, hr, er, k, hk => ⟨[], [], hk, rfl, .nil⟩
  | .tmp t :: l, .tmp u :: m, hc, w, s, e, h, an, hg, hr, er, k, hk => by
    simp only [chkRes, Bool.and_eq_true] at hc
    have := beq_iff.1 hc.1
    subst this
    obtain ⟨v, h1, h2, h3⟩ := rdF_rel (x := .t t) (o := .tmp t) hg er (beq_iff.2 rfl) hk
    obtain ⟨vs, us, h4, h5, h6⟩ := res_ok l m hc.2 hg hr er h1
    exact ⟨v :: vs, _ :: us, h4, by simp only [resA, h5]; rfl, .cons _ _ _ _ h3 h6⟩
  | .cell a ag n :: l, .cell b t :: m, hc, w, s, e, h, an, hg, hr, er, k, hk => by
    simp only [chkRes, Bool.and_eq_true] at hc
    obtain ⟨⟨h1, h2⟩, h3⟩ := hc
    have := beq_iff.1 h1
    subst this
    obtain ⟨v, x, k1, k2, k3⟩ := load_val hg hr er h2 hk
    obtain ⟨vs, us, h4, h5, h6⟩ := res_ok l m h3 hg hr er k1
    refine ⟨v :: vs, x :: us, h4, ?_, .cons _ _ _ _ k3 h6⟩
    show (match ld P h t (rd e (.tmp a)), resA P e h m with | some v, some r => some (v :: r) | _, _ => none) = _
    rw [k2, h5]
  | [], .tmp _ :: _, hc, _, _, _, _, _, _, _, _, _, _ => by cases hc
  | [], .cell _ _ :: _, hc, _, _, _, _, _, _, _, _, _, _ => by cases hc
  | .tmp _ :: _, [], hc, _, _, _, _, _, _, _, _, _, _ => by cases hc
  | .cell _ _ _ :: _, [], hc, _, _, _, _, _, _, _, _, _, _ => by cases hc
  | .tmp _ :: _, .cell _ _ :: _, hc, _, _, _, _, _, _, _, _, _, _ => by cases hc
  | .cell _ _ _ :: _, .tmp _ :: _, hc, _, _, _, _, _, _, _, _, _, _ => by cases hc
theorem fin_ok {rs : List VRes} {Q : V → VH → Nat → Prop} {w : Wd} {s : St} {e : Env} {h : H} {an : Nat} {fn : Func} (hc : chkRes P rs fn.results.toList = true) (hg : GtOk G w) (hr : HR w s.vh s.nx h an) (er : ER w s.env e h an) (hk : finK G rs Q s) :
    ∃ v vh a, Q v vh s.nx ∧ retA P fn e h an = .ok a h an ∧ HR w vh s.nx h an ∧ Den w v a ∧ ∀ b B, vh b = some B → s.vh b = some B := by
  obtain ⟨vs, us, h1, h2, h3⟩ := res_ok _ _ hc hg hr er hk
  unfold retA
  rw [h2]
  split at h1
  · rename_i v
    obtain ⟨vh, hv, hq⟩ := h1
    cases h3 with
    | cons _ a _ m hd hl => cases hl; exact ⟨v, vh, a, hq, rfl, hr.sub hv, hd, hv⟩
  · rename_i hne
    obtain ⟨vh, hv, hq⟩ := h1
    refine ⟨.tup vs, vh, .tup us, hq, ?_, hr.sub hv, .tup _ _ h3, hv⟩
    cases us with
    | nil => rfl
    | cons a us =>
      cases us with
      | nil =>
        cases h3 with | cons v _ _ _ hd hl => cases hl; exact (hne v rfl).elim
      | cons _ _ => rfl
theorem WpCall.of {f : FuncId} {fn : Func} {c : Code} {v : VCode} {rs : List VRes} (hX : X f = none) (hf : P.funcs[f]? = some fn) (hb : fn.body = some c) (hok : codeOk P fn.ntmps c = true) (hc : chkC P v c = true) (hr : chkRes P rs fn.results.toList = true)
    {vs : List V} {vh : VH} {vn : Nat} {Q : V → VH → Nat → Prop} (hk : vc P X G v ⟨argsE vs 0, vh, vn⟩ (finQ G rs Q)) : WpCall P X G f vs vh vn Q := by
  refine ⟨fun w h an us hg hh hd => ?_⟩
  have henv : ∀ t a, us[t]? = some a → (envOf us 0 .e).get t = some a := fun t a ha => by
    rw [envOf_get]
    have : t < us.length := by
      rcases Nat.lt_or_ge t us.length with h | h
      · exact h
      · rw [List.getElem?_eq_none h] at ha; cases ha
    rw [if_pos ⟨Nat.zero_le _, by omega⟩]
    simpa using ha
  have nl : ∀ t, ¬ Loc (argsE vs 0) t := by
    rintro t ⟨v, h1, h2⟩
    obtain ⟨_, h3⟩ := argsE_lk _ _ _ _ h1
    obtain ⟨a, h4, h5⟩ := hd.get h3
    exact no_loc' h5 h2
  have er : ER w (argsE vs 0) (envOf us 0 .e) h an := by
    refine ⟨fun t v hl => ?_, fun t u i ht => (nl t ht).elim⟩
    obtain ⟨_, h3⟩ := argsE_lk _ _ _ _ hl
    obtain ⟨a, h4, h5⟩ := hd.get h3
    have h6 := henv t a (by simpa using h4)
    have h7 : TV w (argsE vs 0) (envOf us 0 .e) v a := .of_den h5
    cases v with
    | bx l => cases h5
    | it r p => cases h5
    | _ => exact ⟨a, h6, h7⟩
  obtain ⟨r, e1, h1, an1, w1, q, ⟨N, hev⟩, ha⟩ := (vc_ok v c hc _ _ hk).out w _ h an hg hh er
  have body : ∀ m, evCall P X (m + 1) f us h an = (match evC P (evCall P X m) m c (envOf us 0 .e) h an with
      | .norm env h nx => retA P fn env h nx
      | .ret env h nx => retA P fn env h nx
      | _ => .bad) := fun m => evCall_body hX hf hb hok
  have step : ∀ {s1 : St} {vh1 : VH}, At w ⟨argsE vs 0, vh, vn⟩ (envOf us 0 .e) h an w1 s1 e1 h1 an1 → (∀ b B, vh1 b = some B → s1.vh b = some B) → Step w (ownB w vh) h an w1 (ownB w1 vh1) h1 an1 := by
    intro s1 vh1 ha hv
    refine ha.step.weak' (fun i hi => ?_) (fun i hi => ?_)
    · rcases hi with hi | ⟨t, ht, _⟩
      · exact hi
      · exact (nl t ht).elim
    · obtain ⟨b, B, hb, hi⟩ := hi; exact .inl ⟨b, B, hv b B hb, hi⟩
  cases r with
  | norm s1 =>
    obtain ⟨v1, vh1, a, g1, g2, g3, g4, g5⟩ := fin_ok hr (hg.mono ha.step.le) ha.hr ha.er q
    refine ⟨v1, vh1, s1.nx, a, h1, an1, w1, g1, ⟨N + 1, fun m hm => ?_⟩, g3, g4, step ha g5⟩
    obtain ⟨m, rfl⟩ : ∃ k, m = k + 1 := ⟨m - 1, by omega⟩
    rw [body, hev m m (by omega) (by omega)]
    exact g2
  | ret s1 =>
    obtain ⟨v1, vh1, a, g1, g2, g3, g4, g5⟩ := fin_ok hr (hg.mono ha.step.le) ha.hr ha.er q
    refine ⟨v1, vh1, s1.nx, a, h1, an1, w1, g1, ⟨N + 1, fun m hm => ?_⟩, g3, g4, step ha g5⟩
    obtain ⟨m, rfl⟩ : ∃ k, m = k + 1 := ⟨m - 1, by omega⟩
    rw [body, hev m m (by omega) (by omega)]
    exact g2
  | exit _ _ => exact q.elim
theorem WpCall.mono {f : FuncId} {vs : List V} {vh : VH} {vn : Nat} {Q Q' : V → VH → Nat → Prop} (h : WpCall P X G f vs vh vn Q) (hq : ∀ v vh' n, Q v vh' n → Q' v vh' n) : WpCall P X G f vs vh vn Q' :=
  ⟨fun w hh an us hg hr hd => let ⟨v, vh', vn', a, h', an', w', q, r⟩ := h.out w hh an us hg hr hd; ⟨v, vh', vn', a, h', an', w', hq _ _ _ q, r⟩⟩
end
def fitsB (P : Program) (fn : Func) (v : VCode) (rs : List VRes) : Bool := match fn.body with
  | some c => codeOk P fn.ntmps c && chkC P v c && chkRes P rs fn.results.toList
  | none => false
structure Fits (P : Program) (f : FuncId) (v : VCode) (rs : List VRes) : Prop where
  out : ∃ fn c, P.funcs[f]? = some fn ∧ fn.body = some c ∧ codeOk P fn.ntmps c = true ∧ chkC P v c = true ∧ chkRes P rs fn.results.toList = true
theorem Fits.of {P : Program} {f : FuncId} {fn : Func} {v : VCode} {rs : List VRes} (hf : P.funcs[f]? = some fn) (h : fitsB P fn v rs = true) : Fits P f v rs := by
  unfold fitsB at h
  split at h
  · rename_i c hc
    simp only [Bool.and_eq_true] at h
    exact ⟨fn, c, hf, hc, h.1.1, h.1.2, h.2⟩
  · cases h
theorem Fits.call {P : Program} {X : Ovr} {G : Gt} {f : FuncId} {v : VCode} {rs : List VRes} (F : Fits P f v rs) (hX : X f = none) {vs : List V} {vh : VH} {vn : Nat} {Q : V → VH → Nat → Prop} (hk : vc P X G v ⟨argsE vs 0, vh, vn⟩ (finQ G rs Q)) : WpCall P X G f vs vh vn Q := by
  obtain ⟨fn, c, h1, h2, h3, h4, h5⟩ := F.out
  exact .of hX h1 h2 h3 h4 h5 hk
end Go.VL
namespace Go.VL
open Go.Ev
def fApp (es by' : Nat) (e : TypeId) (x : V) (m : List V) (j : Nat) (env : VEnv) (vh : VH) (nx : Nat) (k : V → VEnv → VH → Nat → Prop) : Prop := match x with
  | .nils => CondP (Nat.beq j 0) (k .nils env vh nx) (Owe (room by' j) (k (.msl nx 0 j es none) env (vset vh nx (.cells m e 0 false)) (nx + 1)))
  | .sl es' ls (some c) => bif Nat.beq es es' then CondP (Nat.beq j 0) (k (.sl es ls (some c)) env vh nx) (Owe (c < ls.length + j ∧ room by' (ls.length + j)) (k (.msl nx 0 (ls.length + j) es none) env (vset vh nx (.cells (ls.flatten ++ m) e 0 false)) (nx + 1))) else False
  | .sl es' [] none => bif Nat.beq es es' then Owe (j = 0) (k (.sl es [] none) env vh nx) else False
  | .msl b o n es' c => bif Nat.beq es es' then CondP (Nat.beq j 0) (k (.msl b o n es c) env vh nx) (Get (hasB vh b) fun p =>
      match c with
      | some c => CondP (Nat.ble (n + j) c)
          (Owe (o + (n + j) * es ≤ p.1.length ∧ p.2.2.1 ≤ o + n * es) (k (.msl b o (n + j) es (some c)) env (vset vh b (.cells (Ev.setSeg p.1 (o + n * es) m) p.2.1 p.2.2.1 p.2.2.2)) nx))
          (Owe (o + n * es ≤ p.1.length ∧ room by' (n + j)) (k (.msl nx 0 (n + j) es none) env (vset vh nx (.cells ((p.1.drop o).take (n * es) ++ m) e 0 false)) (nx + 1)))
      | none => CondP (Nat.ble (n + j) ((p.1.length - o) / es))
          (Owe (o + (n + j) * es ≤ p.1.length ∧ p.2.2.1 ≤ o + n * es) (k (.msl b o (n + j) es none) env (vset vh b (.cells (Ev.setSeg p.1 (o + n * es) m) p.2.1 p.2.2.1 p.2.2.2)) nx))
          (Owe (o = 0 ∧ n * es ≤ p.1.length ∧ p.2.2.1 ≤ n * es ∧ p.2.1 = e ∧ room by' (n + j)) (k (.msl nx 0 (n + j) es none) env (vset (vdel vh b) nx (.cells (p.1.take (n * es) ++ m) e (Ev.fzOff p.2.2.1 0) p.2.2.2)) (nx + 1)))) else False
  | _ => False
def fOp (G : Gt) (call : WCall) (o : VOp) (env : VEnv) (vh : VH) (nx : Nat) (K : V → VEnv → VH → Nat → Prop) : Prop := match o with
  | .mv x => rdK G env x fun v => K v env vh nx
  | .pick c a b => rdK G env c fun
    | .bool t => rdK G env a fun va => rdK G env b fun vb => pickK t va vb fun v => K v env vh nx
    | _ => False
  | .allocL z => K (.bx z) env vh nx
  | .allocH z e => K (.ptr nx 0) env (vset vh nx (.cells z e 0 false)) (nx + 1)
  | .boxL x => rdC G env x fun v => spine v.cells fun cs => K (.bx cs) env vh nx
  | .boxH x e => rdC G env x fun v => K (.ptr nx 0) env (vset vh nx (.cells v.cells e 0 false)) (nx + 1)
  | .build z ps => rdParts G env ps fun vs => fillV z vs fun cs => K (.agg cs) env vh nx
  | .buildF es n z ps => rdElems G env es ps fun vs => fillV (Ev.reps n z) vs fun cs => K (.sl es (pieces es n cs) (some n)) env vh nx
  | .buildH es n z ps e => rdElems G env es ps fun vs => fillV (Ev.reps n z) vs fun cs => K (.msl nx 0 n es (some n)) env (vset vh nx (.cells cs e 0 false)) (nx + 1)
  | .load x ag n => rdK G env x fun
    | .lp t o => (match lk env t with
      | some (.bx l) => loadK l o ag n fun v => K v env vh nx
      | _ => False)
    | .fp l o => loadK l o ag n fun v => K v env vh nx
    | .ptr b o => Get (hasB vh b) fun p => bif ag then Get (fun m => (p.1.drop o).take n = m ∧ o + n ≤ p.1.length) (fun m => K (.agg m) env vh nx) else Get (fun v => p.1[o]? = some v) fun v => K v env vh nx
    | _ => False
  | .store x v n => rdC G env v fun v => spine v.cells fun cs => bif Nat.beq (Ev.len cs) n then rdK G env x (fun
      | .lp t o => (match lk env t with
        | some (.bx l) => bif Nat.ble (o + n) (Ev.len l) then spine (Ev.setSeg l o cs) fun m => K V.undef ((t, .bx m) :: env) vh nx else False
        | _ => False)
      | .ptr b o => Get (hasB vh b) fun p => Owe (o + n ≤ p.1.length ∧ p.2.2.1 ≤ o) (K V.undef env (vset vh b (.cells (Ev.setSeg p.1 o cs) p.2.1 p.2.2.1 p.2.2.2)) nx)
      | _ => False) else False
  | .nilck x => rdK G env x fun
    | .lp t o => K (.lp t o) env vh nx
    | .fp l o => K (.fp l o) env vh nx
    | .ptr b o => K (.ptr b o) env vh nx
    | .ifc t v => K (.ifc t v) env vh nx
    | .func g a b => K (.func g a b) env vh nx
    | _ => False
  | .bin op x y => rdK G env x fun a => rdK G env y fun b => vBin op a b fun v => K v env vh nx
  | .eq kd op x y => rdK G env x fun a => rdK G env y fun b => vEq kd op a b fun v => K v env vh nx
  | .un op x => rdK G env x fun a => vUn op a fun v => K v env vh nx
  | .cint k x => rdK G env x fun
    | .int _ n => K (.int k (Ev.wr k n)) env vh nx
    | _ => False
  | .cstr x => rdK G env x fun
    | .str l => K (.str l) env vh nx
    | _ => False
  | .crune x => rdK G env x fun
    | .int _ n => K (.str (Ev.encA n)) env vh nx
    | _ => False
  | .cbytes x e => rdK G env x fun
    | .str l => K (.msl nx 0 l.length 1 none) env (vset vh nx (.cells (l.map byteV) e 0 true)) (nx + 1)
    | _ => False
  | .ctext x => rdK G env x fun
    | .nils => K (.str []) env vh nx
    | .sl 1 ls _ => Get (fun l : List Nat => ls = l.map (fun c => [byteV c]) ∧ ∀ c ∈ l, c < 256) fun l => K (.str l) env vh nx
    | .msl b o n 1 _ => Get (hasB vh b) fun p => Get (fun l : List Nat => (p.1.drop o).take n = l.map byteV ∧ o + n ≤ p.1.length ∧ ∀ c ∈ l, c < 256) fun l => K (.str l) env vh nx
    | _ => False
  | .mkIfc t x => rdF G env x fun v => K (.ifc t v) env vh nx
  | .mkFn g fs cs => rdsF G env fs fun fs => rdsF G env cs fun cs => K (.func g fs cs) env vh nx
  | .mkMap => K (.map nx) env (vset vh nx (.map [])) (nx + 1)
  | .mkSl es z e by' l c => rdK G env l fun
    | .int _ l => rdK G env c fun
      | .int _ c => Get (fun i : Nat => l = (i : Int)) fun i => Get (fun j : Nat => c = (j : Int) ∧ i ≤ j ∧ by' * j ≤ 140737488355328 ∧ j < Ev.p63) fun j =>
          K (.msl nx 0 i es (some j)) env (vset vh nx (.cells (Ev.reps j z) e 0 false)) (nx + 1)
      | _ => False
    | _ => False
  | .cutS x lo hi => rdK G env x fun
    | .str l => rdO G env 0 lo fun a => rdO G env l.length hi fun b => Owe (a ≤ b ∧ b ≤ l.length) (K (.str ((l.drop a).take (b - a))) env vh nx)
    | _ => False
  | .cutL es x lo hi mx => rdK G env x fun
    | .sl es' ls c => bif Nat.beq es es' then rdO G env 0 lo fun a => rdO G env ls.length hi fun b => (match mx with
      | none => Owe (a ≤ b ∧ b ≤ ls.length) (K (.sl es ((ls.drop a).take (b - a)) none) env vh nx)
      | some m => rdO G env 0 (some m) fun m => (match ls with
        | [] => Owe (a = 0 ∧ b = 0 ∧ m = 0) (K (.sl es [] none) env vh nx)
        | _ :: _ => Owe (a ≤ b ∧ b ≤ m ∧ m ≤ ls.length) (K (.sl es ((ls.drop a).take (b - a)) (some (m - a))) env vh nx))) else False
    | .msl b o n es' c => bif Nat.beq es es' then rdO G env 0 lo fun a => rdO G env n hi fun r => (match mx with
      | none => (match c with
        | some c => Owe (a ≤ r ∧ r ≤ c ∧ a < c) (K (.msl b (o + a * es) (r - a) es (some (c - a))) env vh nx)
        | none => Get (hasB vh b) fun p => Owe (a ≤ r ∧ r ≤ (p.1.length - o) / es ∧ (a < (p.1.length - o) / es ∨ a = 0)) (K (.msl b (o + a * es) (r - a) es none) env vh nx))
      | some _ => False) else False
    | .nils => rdO G env 0 lo fun a => rdO G env 0 hi fun b => (match mx with
      | none => Owe (a = 0 ∧ b = 0) (K .nils env vh nx)
      | some m => rdO G env 0 (some m) fun m => Owe (a = 0 ∧ b = 0 ∧ m = 0) (K .nils env vh nx))
    | _ => False
  | .cutA es n x lo hi => rdK G env x fun
    | .ptr b o => rdO G env 0 lo fun a => rdO G env n hi fun r => Get (hasB vh b) fun p => Owe (a ≤ r ∧ r ≤ n ∧ a < n ∧ o + n * es ≤ p.1.length) (K (.msl b (o + a * es) (r - a) es (some (n - a))) env vh nx)
    | _ => False
  | .off x n => rdK G env x fun
    | .lp t o => K (.lp t (o + n)) env vh nx
    | .fp l o => K (.fp l (o + n)) env vh nx
    | .ptr b o => K (.ptr b (o + n)) env vh nx
    | _ => False
  | .fld x ag o n => rdK G env x fun
    | .agg l => loadK l o ag n fun v => K v env vh nx
    | _ => False
  | .idx es x i => rdK G env i fun
    | .int _ n => rdK G env x fun
      | .sl es' ls _ => bif Nat.beq es es' then Get (fun p : Nat × List V => n = (p.1 : Int) ∧ ls[p.1]? = some p.2) (fun p => K (.fp p.2 0) env vh nx) else False
      | .msl b o m es' _ => bif Nat.beq es es' then Get (fun j : Nat => n = (j : Int) ∧ j < m) fun j => K (.ptr b (o + j * es)) env vh nx else False
      | _ => False
    | _ => False
  | .idxA es m x i => rdK G env i fun
    | .int _ n => rdK G env x fun
      | .lp t o => Get (fun j : Nat => n = (j : Int) ∧ j < m) fun j => K (.lp t (o + j * es)) env vh nx
      | .fp l o => Get (fun j : Nat => n = (j : Int) ∧ j < m) fun j => K (.fp l (o + j * es)) env vh nx
      | .ptr b o => Get (fun j : Nat => n = (j : Int) ∧ j < m) fun j => K (.ptr b (o + j * es)) env vh nx
      | _ => False
    | _ => False
  | .at x i => rdK G env i fun
    | .int _ n => rdK G env x fun
      | .str l => Get (fun p : Nat × Nat => n = (p.1 : Int) ∧ l[p.1]? = some p.2) fun p => K (.int .u8 (.ofNat p.2)) env vh nx
      | _ => False
    | _ => False
  | .look sh ag z x i ok => rdK G env i fun ki => bif fitK sh ag ki then rdK G env x (fun
      | .nilm => K (bif ok then .tup [z, .bool false] else z) env vh nx
      | .map b => Get (hasM vh b) fun es => Owe (∀ p ∈ es, fitK sh ag p.1 = true) (Get (fun r => findV ki es = r) fun
        | some v => K (bif ok then .tup [v, .bool true] else v) env vh nx
        | none => K (bif ok then .tup [z, .bool false] else z) env vh nx)
      | _ => False) else False
  | .upd sh ag x i v => rdK G env i fun ki => bif fitK sh ag ki then rdF G env v (fun v => rdK G env x fun
      | .map b => Get (hasM vh b) fun es => Owe (∀ p ∈ es, fitK sh ag p.1 = true) (K V.undef env (vset vh b (.map (putVM ki v es))) nx)
      | _ => False) else False
  | .rng x => rdK G env x fun
    | .str l => K (.it l 0) env vh nx
    | _ => False
  | .next x => rdK G env x fun
    | .lp t 0 => (match lk env t with
      | some (.it r p) => CondP r.isEmpty (K (.tup [.bool false]) env vh nx)
          (K (.tup [.bool true, .int .i64 (.ofNat p), .int .i32 (.ofNat (Ev.decA r).1)]) ((t, .it (r.drop (Ev.decA r).2) (p + (Ev.decA r).2)) :: env) vh nx)
      | _ => False)
    | _ => False
  | .asrt t z x ok => rdK G env x fun
    | .ifc u v => bif Nat.beq u t then K (bif ok then .tup [v, .bool true] else v) env vh nx else (bif ok then K (.tup [z, .bool false]) env vh nx else False)
    | .nili => bif ok then K (.tup [z, .bool false]) env vh nx else False
    | _ => False
  | .ext x i => rdK G env x fun
    | .tup l => (match Ev.nth l i with | some v => K v env vh nx | none => False)
    | _ => False
  | .lenS x => rdK G env x fun
    | .str l => K (.int .i64 (.ofNat l.length)) env vh nx
    | _ => False
  | .lenL x => rdK G env x fun
    | .sl _ ls _ => K (.int .i64 (.ofNat ls.length)) env vh nx
    | .nils => K (.int .i64 0) env vh nx
    | .msl _ _ n _ _ => K (.int .i64 (.ofNat n)) env vh nx
    | _ => False
  | .app es _ by' e x y => rdK G env x fun x => rdK G env y fun y => srcK vh es y fun m j => fApp es by' e x m j env vh nx K
  | .copy _ _ _ => False
  | .mx l => rdsF G env l fun
    | .int k a :: l => mxL (fun v => K v env vh nx) a k l
    | _ => False
  | .mn l => rdsF G env l fun
    | .int k a :: l => mnL (fun v => K v env vh nx) a k l
    | _ => False
  | .data _ => False
  | .ustr _ _ _ => False
  | .call g xs => rdsF G env xs fun vs => call g vs vh nx fun v vh nx => K v env vh nx
  | .callv x xs => rdK G env x fun
    | .func g fs cs => rdsF G env xs fun vs => call g (fs ++ vs ++ cs) vh nx fun v vh nx => K v env vh nx
    | _ => False
def fGh (g : Gh) (env : VEnv) (vh : VH) (nx : Nat) (K : VEnv → VH → Nat → Prop) : Prop := match g with
  | .keep l => spine (keepV l env l) fun env => K env vh nx
  | .fz t => (match lk env t with
    | some (.bx l) => K ((t, .fp l 0) :: noLp t env) vh nx
    | _ => K env vh nx)
  | .fzs t es => (match lk env t with
    | some .nils => K ((t, .sl es [] none) :: env) vh nx
    | some (.msl b o n es' c) => bif Nat.beq es es' then Get (hasB vh b) fun p => Owe (0 < es ∧ o + n * es ≤ p.1.length ∧ ∀ x, c = some x → n ≤ x) <| Get (fun ls => isPieces es n (p.1.drop o) ls) fun ls => K ((t, .sl es ls none) :: env) (vdel vh b) nx else False
    | some (.sl es' ls _) => K ((t, .sl es' ls none) :: env) vh nx
    | _ => K env vh nx)
  | .free t => (match lk env t with
    | some (.ptr b _) => K env (vdel vh b) nx
    | some (.msl b _ _ _ _) => K env (vdel vh b) nx
    | _ => K env vh nx)
  | .fza t o es => (match lk env t with
    | some (.agg l) => (match Ev.nth l o with
      | some .nils => spine (l.set o (.sl es [] none)) fun l => K ((t, .agg l) :: env) vh nx
      | some (.msl b p n es' c) => bif Nat.beq es es' then Get (hasB vh b) fun q => Owe (0 < es ∧ p + n * es ≤ q.1.length ∧ ∀ x, c = some x → n ≤ x) <| Get (fun ls => isPieces es n (q.1.drop p) ls) fun ls => spine (l.set o (.sl es ls none)) fun l => K ((t, .agg l) :: env) (vdel vh b) nx else False
      | some (.sl es' ls _) => spine (l.set o (.sl es' ls none)) fun l => K ((t, .agg l) :: env) vh nx
      | _ => K env vh nx)
    | _ => K env vh nx)
def fGhs : List Gh → VEnv → VH → Nat → (VEnv → VH → Nat → Prop) → Prop
  | [], env, vh, nx, K => K env vh nx
  | g :: gs, env, vh, nx, K => fGh g env vh nx fun env vh nx => fGhs gs env vh nx K
def fGuard (env : VEnv) (g : Option (Nat × Bool)) (A B : VEnv → Prop) : Prop := match g with
  | none => A env
  | some (d, b) => match lk env d with
    | some (.bool c) => bif b then CondP c (A ((d, .bool true) :: env)) (B ((d, .bool false) :: env)) else CondP c (B ((d, .bool true) :: env)) (A ((d, .bool false) :: env))
    | some (.tup _) => B env
    | _ => False
def putK (env : VEnv) (d : Option Nat) (v : V) (k : VEnv → Prop) : Prop := match d with
  | none => k env
  | some d => match v with
    | .bx l => spine (noLp d env) fun e => k ((d, .bx l) :: e)
    | .it r p => spine (noLp d env) fun e => k ((d, .it r p) :: e)
    | .lp u o => bif Nat.beq u d then k ((d, .lost) :: env) else k ((d, .lp u o) :: env)
    | v => k ((d, v) :: env)
def fOps (G : Gt) (call : WCall) : List VOper → VEnv → VH → Nat → (VEnv → VH → Nat → Prop) → Prop
  | [], env, vh, nx, K => K env vh nx
  | o :: os, env, vh, nx, K => fGhs o.gh env vh nx fun env vh nx => fGuard env o.guard (fun env => fOp G call o.op env vh nx fun v env vh nx => putK env o.dst v fun env => fOps G call os env vh nx K) (fun env => putK env o.dst V.undef fun env => fOps G call os env vh nx K)
def fEarly (G : Gt) (call : WCall) : List VOper → Nat → VEnv → VH → Nat → List Rec → (VH → Nat → List Rec → Prop) → Prop
  | [], _, _, vh, nx, rs, K => K vh nx rs
  | o :: os, i, env, vh, nx, rs, K => match o.tg with
    | .n _ => fEarly G call os (i + 1) env vh nx rs K
    | .e => fGuard env o.guard (fun env => fOp G call o.op env vh nx fun v _ vh nx => bif V.eqn 8 v then putK env o.dst v fun env' => fEarly G call os (i + 1) env' vh nx (⟨i, env, o.op, v⟩ :: rs) K else False) (fun env => putK env o.dst V.undef fun env => fEarly G call os (i + 1) env vh nx rs K)
def fAgain (G : Gt) (call : WCall) (rs : List Rec) (vh : VH) (nx : Nat) : List Nat → Prop → Prop
  | [], A => A
  | j :: js, A => match recOf j rs with
    | none => fAgain G call rs vh nx js A
    | some r => bif calm G r.env r.op then fAgain G call rs vh nx js A else Owe (r.v.rigid = true ∧ fOp G call r.op r.env vh nx fun v _ _ _ => v = r.v) (fAgain G call rs vh nx js A)
def fMain (G : Gt) (call : WCall) (rs : List Rec) : List VOper → Nat → VEnv → VH → Nat → (VEnv → VH → Nat → Prop) → Prop
  | [], _, env, vh, nx, K => K env vh nx
  | o :: os, i, env, vh, nx, K => match o.tg with
    | .e => (match recOf i rs with
      | some r => putK env o.dst r.v fun env => fMain G call rs os (i + 1) env vh nx K
      | none => putK env o.dst V.undef fun env => fMain G call rs os (i + 1) env vh nx K)
    | .n ck => fGhs o.gh env vh nx fun env vh nx => fGuard env o.guard (fun env => fOp G call o.op env vh nx fun v env vh nx => fAgain G call rs vh nx ck (putK env o.dst v fun env => fMain G call rs os (i + 1) env vh nx K)) (fun env => putK env o.dst V.undef fun env => fMain G call rs os (i + 1) env vh nx K)
def fD (G : Gt) (call : WCall) (os : List VOper) (env : VEnv) (vh : VH) (nx : Nat) (K : VEnv → VH → Nat → Prop) : Prop := spine (dropLoc env) fun env0 => fEarly G call os 0 env0 vh nx [] fun vh nx rs => fMain G call rs os 0 env vh nx K
inductive RKind where
  | norm
  | exit (i : Nat)
  | ret
abbrev FQ := RKind → VEnv → VH → Nat → Prop
def toQ (Q : FQ) : VR → Prop
  | .norm s => Q .norm s.env s.vh s.nx
  | .exit i s => Q (.exit i) s.env s.vh s.nx
  | .ret s => Q .ret s.env s.vh s.nx
def fThen (Q : FQ) (k : VEnv → VH → Nat → Prop) : FQ := fun r env vh nx => match r with
  | .norm => k env vh nx
  | r => Q r env vh nx
def fBlock (id : Nat) (Q : FQ) : FQ := fun r env vh nx => match r with
  | .exit i => bif Nat.beq id i then Q .norm env vh nx else Q (.exit i) env vh nx
  | r => Q r env vh nx
def fC (G : Gt) (call : WCall) (loop : VCode → VEnv → VH → Nat → FQ → Prop) : VCode → VEnv → VH → Nat → FQ → Prop
  | .skip, env, vh, nx, Q => Q .norm env vh nx
  | .ret, env, vh, nx, Q => Q .ret env vh nx
  | .exit i, env, vh, nx, Q => Q (.exit i) env vh nx
  | .seq a b, env, vh, nx, Q => fC G call loop a env vh nx (fThen Q fun env vh nx => fC G call loop b env vh nx Q)
  | .cond x a b, env, vh, nx, Q => rdK G env x fun
    | .bool c => CondP c (fC G call loop a env vh nx Q) (fC G call loop b env vh nx Q)
    | _ => False
  | .block i b, env, vh, nx, Q => fC G call loop b env vh nx (fBlock i Q)
  | .loop b, env, vh, nx, Q => loop (.loop b) env vh nx Q
  | .scope b, env, vh, nx, Q => fC G call loop b env vh nx Q
  | .cut b, env, vh, nx, Q => loop (.cut b) env vh nx Q
  | .gsk gh, env, vh, nx, Q => fGhs gh env vh nx fun env vh nx => Q .norm env vh nx
  | .reg d ops gh, env, vh, nx, Q => bif Nat.beq d 2 then fD G call ops env vh nx (fun env vh nx => fGhs gh env vh nx fun env vh nx => Q .norm env vh nx) else fOps G call ops env vh nx fun env vh nx => fGhs gh env vh nx fun env vh nx => Q .norm env vh nx
section
variable {P : Program} {X : Ovr} {G : Gt} {call : WCall}
def fK (K : V → VEnv → VH → Nat → Prop) : V → St → Prop := fun v s => K v s.env s.vh s.nx
def fS (K : VEnv → VH → Nat → Prop) : St → Prop := fun s => K s.env s.vh s.nx
theorem fOp_eq {o : VOp} {env : VEnv} {vh : VH} {nx : Nat} {K : V → VEnv → VH → Nat → Prop} : fOp G call o env vh nx K = vcOp G call o ⟨env, vh, nx⟩ (fK K) := by
  cases o <;> try rfl
theorem fGh_eq {g : Gh} {env : VEnv} {vh : VH} {nx : Nat} {K : VEnv → VH → Nat → Prop} : fGh g env vh nx K = vcGh g ⟨env, vh, nx⟩ (fS K) := by
  cases g <;> rfl
theorem fGhs_eq : ∀ {gs : List Gh} {env : VEnv} {vh : VH} {nx : Nat} {K : VEnv → VH → Nat → Prop}, fGhs gs env vh nx K = vcGhs gs ⟨env, vh, nx⟩ (fS K)
  | [], _, _, _, _ => rfl
  | g :: gs, env, vh, nx, K => by
    simp only [fGhs, vcGhs, fGh_eq]
    congr 1
    funext s
    exact fGhs_eq (gs := gs)
theorem putK_eq {env : VEnv} {d : Option Nat} {v : V} {vh : VH} {nx : Nat} {k : VEnv → VH → Nat → Prop} : putK env d v (fun e => k e vh nx) = fS k (put ⟨env, vh, nx⟩ d v) := by
  cases d with
  | none => rfl
  | some d =>
    cases v <;> try rfl
    case lp u o =>
      simp only [putK, put, putV, fS]
      cases Nat.beq u d <;> rfl
    case bx l => simp only [putK, spine_eq]; rfl
    case it r p => simp only [putK, spine_eq]; rfl
theorem fGuard_eq {env : VEnv} {vh : VH} {nx : Nat} {g : Option (Nat × Bool)} {A B : VEnv → Prop} {A' B' : St → Prop} (ha : ∀ env, A env = A' ⟨env, vh, nx⟩) (hb : ∀ env, B env = B' ⟨env, vh, nx⟩) : fGuard env g A B = guardK ⟨env, vh, nx⟩ g A' B' := by
  unfold fGuard guardK
  cases g with
  | none => exact ha env
  | some q =>
    obtain ⟨d, b⟩ := q
    simp only [ha, hb]
    cases lk env d with
    | none => rfl
    | some v => cases v <;> rfl
theorem fOps_eq : ∀ {os : List VOper} {env : VEnv} {vh : VH} {nx : Nat} {K : VEnv → VH → Nat → Prop}, fOps G call os env vh nx K = vcOps G call os ⟨env, vh, nx⟩ (fS K)
  | [], _, _, _, _ => rfl
  | o :: os, env, vh, nx, K => by
    simp only [fOps, vcOps, fGhs_eq]
    congr 1
    funext s
    obtain ⟨env, vh, nx⟩ := s
    simp only [fS]
    refine fGuard_eq (fun env => ?_) (fun env => ?_)
    · rw [fOp_eq]
      congr 1
      funext v s
      obtain ⟨env, vh, nx⟩ := s
      simp only [fK]
      rw [putK_eq (k := fun env vh nx => fOps G call os env vh nx K)]
      simp only [fS]
      exact fOps_eq (os := os)
    · rw [putK_eq (k := fun env vh nx => fOps G call os env vh nx K)]
      simp only [fS]
      exact fOps_eq (os := os)
theorem fEarly_eq : ∀ {os : List VOper} {i : Nat} {env : VEnv} {vh : VH} {nx : Nat} {rs : List Rec} {K : VH → Nat → List Rec → Prop}, fEarly G call os i env vh nx rs K = earlyK G call os i ⟨env, vh, nx⟩ rs fun s rs => K s.vh s.nx rs
  | [], _, _, _, _, _, _ => rfl
  | o :: os, i, env, vh, nx, rs, K => by
    simp only [fEarly, earlyK]
    cases o.tg with
    | n ck => exact fEarly_eq (os := os)
    | e =>
      refine fGuard_eq (fun env => ?_) (fun env => ?_)
      · rw [fOp_eq]
        congr 1
        funext v s
        obtain ⟨env', vh, nx⟩ := s
        simp only [fK]
        cases V.eqn 8 v with
        | false => rfl
        | true =>
          simp only [cond_true]
          rw [putK_eq (k := fun env2 vh nx => fEarly G call os (i + 1) env2 vh nx (⟨i, env, o.op, v⟩ :: rs) K)]
          simp only [fS]
          exact fEarly_eq (os := os)
      · rw [putK_eq (k := fun env vh nx => fEarly G call os (i + 1) env vh nx rs K)]
        simp only [fS]
        exact fEarly_eq (os := os)
theorem fAgain_eq {rs : List Rec} {env : VEnv} {vh : VH} {nx : Nat} : ∀ {js : List Nat} {A : Prop}, fAgain G call rs vh nx js A = again G call rs ⟨env, vh, nx⟩ js A
  | [], _ => rfl
  | j :: js, A => by
    simp only [fAgain, again]
    cases recOf j rs with
    | none => exact fAgain_eq (js := js)
    | some r =>
      have ih := fAgain_eq (rs := rs) (env := env) (vh := vh) (nx := nx) (js := js) (A := A)
      simp only [fOp_eq, ih]
      rfl
theorem fMain_eq {rs : List Rec} : ∀ {os : List VOper} {i : Nat} {env : VEnv} {vh : VH} {nx : Nat} {K : VEnv → VH → Nat → Prop}, fMain G call rs os i env vh nx K = mainK G call rs os i ⟨env, vh, nx⟩ (fS K)
  | [], _, _, _, _, _ => rfl
  | o :: os, i, env, vh, nx, K => by
    have hp : ∀ (env : VEnv) (v : V) (vh : VH) (nx : Nat), (putK env o.dst v fun env => fMain G call rs os (i + 1) env vh nx K) = mainK G call rs os (i + 1) (put ⟨env, vh, nx⟩ o.dst v) (fS K) := fun env v vh nx => by
      rw [putK_eq (k := fun env vh nx => fMain G call rs os (i + 1) env vh nx K)]
      simp only [fS]
      exact fMain_eq (os := os)
    simp only [fMain, mainK]
    cases o.tg with
    | e =>
      simp only
      cases recOf i rs with
      | none => exact hp _ _ _ _
      | some r => exact hp _ _ _ _
    | n ck =>
      simp only [fGhs_eq]
      congr 1
      funext s
      obtain ⟨env, vh, nx⟩ := s
      simp only [fS]
      refine fGuard_eq (fun env => ?_) (fun env => ?_)
      · rw [fOp_eq]
        congr 1
        funext v s
        obtain ⟨env, vh, nx⟩ := s
        simp only [fK]
        rw [fAgain_eq (env := env), hp]
      · exact hp _ _ _ _
theorem fD_eq {os : List VOper} {env : VEnv} {vh : VH} {nx : Nat} {K : VEnv → VH → Nat → Prop} : fD G call os env vh nx K = vcD G call os ⟨env, vh, nx⟩ (fS K) := by
  unfold fD vcD
  rw [spine_eq, fEarly_eq]
  congr 1
  funext s rs
  exact fMain_eq
theorem toQ_then {Q : FQ} {k : VEnv → VH → Nat → Prop} : toQ (fThen Q k) = thenQ (toQ Q) (fS k) := by
  funext r
  cases r <;> rfl
theorem toQ_block {Q : FQ} {i : Nat} : toQ (fBlock i Q) = blockQ i (toQ Q) := by
  funext r
  cases r <;> try rfl
end
section
variable (P : Program) (X : Ovr) (G : Gt)
structure FLoop (c : VCode) (env : VEnv) (vh : VH) (nx : Nat) (Q : FQ) : Prop where
  out : WpV P X G c ⟨env, vh, nx⟩ (toQ Q)
abbrev fc (v : VCode) (env : VEnv) (vh : VH) (nx : Nat) (Q : FQ) : Prop := fC G (WpCall P X G) (FLoop P X G) v env vh nx Q
end
section
variable {P : Program} {X : Ovr} {G : Gt}
theorem fc_eq : ∀ {v : VCode} {env : VEnv} {vh : VH} {nx : Nat} {Q : FQ}, fc P X G v env vh nx Q = vc P X G v ⟨env, vh, nx⟩ (toQ Q)
  | .skip, _, _, _, _ => rfl
  | .ret, _, _, _, _ => rfl
  | .exit i, _, _, _, _ => rfl
  | .seq a b, env, vh, nx, Q => by
    have h1 := fc_eq (v := a) (env := env) (vh := vh) (nx := nx) (Q := fThen Q fun env vh nx => fc P X G b env vh nx Q)
    rw [toQ_then] at h1
    have h2 : (fS fun env vh nx => fc P X G b env vh nx Q) = fun s => vc P X G b s (toQ Q) := by
      funext s
      exact fc_eq (v := b)
    rw [h2] at h1
    exact h1
  | .cond x a b, env, vh, nx, Q => by
    have h1 := fc_eq (v := a) (env := env) (vh := vh) (nx := nx) (Q := Q)
    have h2 := fc_eq (v := b) (env := env) (vh := vh) (nx := nx) (Q := Q)
    show (rdK G env x fun | .bool c => CondP c (fc P X G a env vh nx Q) (fc P X G b env vh nx Q) | _ => False) = _
    rw [h1, h2]
    rfl
  | .block i b, env, vh, nx, Q => by
    have h1 := fc_eq (v := b) (env := env) (vh := vh) (nx := nx) (Q := fBlock i Q)
    rw [toQ_block] at h1
    exact h1
  | .loop b, _, _, _, _ => propext ⟨fun h => h.out, fun h => ⟨h⟩⟩
  | .scope b, _, _, _, _ => fc_eq (v := b)
  | .cut b, _, _, _, _ => propext ⟨fun h => h.out, fun h => ⟨h⟩⟩
  | .gsk gh, env, vh, nx, Q => fGhs_eq
  | .reg d ops gh, env, vh, nx, Q => by
    have h1 : (fS fun env vh nx => fGhs gh env vh nx fun env vh nx => Q .norm env vh nx) = fun s => vcGhs gh s fun s => toQ Q (.norm s) := by
      funext s
      exact fGhs_eq
    show (bif Nat.beq d 2 then fD G (WpCall P X G) ops env vh nx _ else fOps G (WpCall P X G) ops env vh nx _) = (bif Nat.beq d 2 then vcD G (WpCall P X G) ops _ _ else vcOps G (WpCall P X G) ops _ _)
    rw [fOps_eq, fD_eq, h1]
theorem FLoop.round {b : VCode} {env : VEnv} {vh : VH} {nx : Nat} {Q : FQ} (h : fc P X G b env vh nx (fThen Q fun env vh nx => FLoop P X G (.loop b) env vh nx Q)) : FLoop P X G (.loop b) env vh nx Q := by
  refine ⟨.round ?_⟩
  rw [fc_eq, toQ_then] at h
  have : (fS fun env vh nx => FLoop P X G (.loop b) env vh nx Q) = fun s => WpV P X G (.loop b) s (toQ Q) := by
    funext s
    exact propext ⟨fun h => h.out, fun h => ⟨h⟩⟩
  rw [this] at h
  exact h
theorem FLoop.cut {b : VCode} {env : VEnv} {vh : VH} {nx : Nat} {Q : FQ} (h : fc P X G b env vh nx Q) : FLoop P X G (.cut b) env vh nx Q := by
  rw [fc_eq] at h
  exact ⟨.cut h⟩
def fFin (G : Gt) (rs : List VRes) (Q : V → VH → Nat → Prop) : FQ := fun r env vh nx => match r with
  | .norm => finK G rs Q ⟨env, vh, nx⟩
  | .ret => finK G rs Q ⟨env, vh, nx⟩
  | .exit _ => False
theorem toQ_fin {rs : List VRes} {Q : V → VH → Nat → Prop} : toQ (fFin G rs Q) = finQ G rs Q := by
  funext r
  cases r <;> rfl
theorem Fits.run {f : FuncId} {v : VCode} {rs : List VRes} (F : Fits P f v rs) (hX : X f = none) {vs : List V} {vh : VH} {vn : Nat} {Q : V → VH → Nat → Prop} (hk : fc P X G v (argsE vs 0) vh vn (fFin G rs Q)) : WpCall P X G f vs vh vn Q := by
  rw [fc_eq, toQ_fin] at hk
  exact F.call hX hk
end
end Go.VL
namespace Go.VL
open Go.Ev
def SlIn {α : Type} (enc : α → List V) (es : Nat) (ty : TypeId) (lo : Nat) (vh : VH) (nx : Nat) (v : V) (xs : List α) : Prop :=
  ((v = .nils ∨ v = .sl es [] (some 0)) ∧ xs = []) ∨ ∃ b, lo ≤ b ∧ b < nx ∧ v = .msl b 0 xs.length es none ∧ vh b = some (.cells (xs.map enc).flatten ty 0 false)
def blkOf : V → Nat → Prop
  | .msl b _ _ _ _, c => c = b
  | .ptr b _, c => c = b
  | _, _ => False
section
variable {α : Type} {enc : α → List V} {es by' : Nat} {ty : TypeId} {lo : Nat} {vh : VH} {nx : Nat} {v : V} {xs : List α}
theorem flat_len (hl : ∀ a, (enc a).length = es) : ∀ xs : List α, (xs.map enc).flatten.length = xs.length * es
  | [] => by simp
  | a :: xs => by simp only [List.map_cons, List.flatten_cons, List.length_append, hl, flat_len hl xs, List.length_cons, Nat.add_mul]; omega
theorem flat_drop (hl : ∀ a, (enc a).length = es) : ∀ (xs : List α) (i : Nat), (xs.map enc).flatten.drop (i * es) = ((xs.drop i).map enc).flatten
  | xs, 0 => by simp
  | [], i + 1 => by simp
  | a :: xs, i + 1 => by
    simp only [List.map_cons, List.flatten_cons, List.drop_succ_cons]
    rw [← flat_drop hl xs i, Nat.add_mul, Nat.one_mul, Nat.add_comm, ← hl a, List.drop_append]
    simp
theorem flat_take (hl : ∀ a, (enc a).length = es) (xs : List α) (i : Nat) (h : i < xs.length) : ((xs.map enc).flatten.drop (i * es)).take es = enc xs[i] := by
  rw [flat_drop hl, ← List.getElem_cons_drop h, List.map_cons, List.flatten_cons, ← hl xs[i], List.take_left]
theorem flat_get (hl : ∀ a, (enc a).length = es) (xs : List α) (i f : Nat) (h : i < xs.length) (hf : f < es) : (xs.map enc).flatten[i * es + f]? = (enc xs[i])[f]? := by
  rw [← List.getElem?_drop, flat_drop hl, ← List.getElem_cons_drop h, List.map_cons, List.flatten_cons, List.getElem?_append_left (by rw [hl]; exact hf)]
theorem flat_lt (hl : ∀ a, (enc a).length = es) (xs : List α) (i : Nat) (h : i < xs.length) : i * es + es ≤ (xs.map enc).flatten.length := by
  rw [flat_len hl]
  have : (i + 1) * es ≤ xs.length * es := Nat.mul_le_mul_right es h
  rw [Nat.add_mul, Nat.one_mul] at this
  exact this
def SlR {α : Type} (enc : α → List V) (es : Nat) (vh : VH) (v : V) (xs : List α) : Prop :=
  (xs = [] ∧ v = .nils) ∨ (xs = [] ∧ v = .sl es [] (some 0)) ∨ ∃ b ty, v = .msl b 0 xs.length es none ∧ vh b = some (.cells (xs.map enc).flatten ty 0 false)
theorem SlIn.r (A : SlIn enc es ty lo vh nx v xs) : SlR enc es vh v xs := by
  rcases A with ⟨h1 | h1, h2⟩ | ⟨b, _, _, h3, h4⟩
  · exact .inl ⟨h2, h1⟩
  · exact .inr (.inl ⟨h2, h1⟩)
  · exact .inr (.inr ⟨b, ty, h3, h4⟩)
theorem SlIn.nil : SlIn enc es ty lo vh nx .nils [] := .inl ⟨.inl rfl, rfl⟩
theorem SlIn.mono {vh' : VH} {nx' : Nat} (A : SlIn enc es ty lo vh nx v xs) (hn : nx ≤ nx') (hv : ∀ c, lo ≤ c → c < nx → blkOf v c → vh' c = vh c) : SlIn enc es ty lo vh' nx' v xs := by
  rcases A with A | ⟨b, h1, h2, h3, h4⟩
  · exact .inl A
  · refine .inr ⟨b, h1, by omega, h3, ?_⟩
    rw [hv b h1 h2 (by rw [h3]; exact rfl), h4]
theorem SlIn.app (hl : ∀ a, (enc a).length = es) (h0 : 0 < es) (A : SlIn enc es ty lo vh nx v xs) (hlo : lo ≤ nx) (a : α) (hroom : room by' (xs.length + 1)) {env : VEnv} {k : V → VEnv → VH → Nat → Prop}
    (hk : ∀ vh', SlIn enc es ty lo vh' (nx + 1) (.msl nx 0 (xs.length + 1) es none) (xs ++ [a]) → (∀ c, c ≠ nx → ¬ blkOf v c → vh' c = vh c) → k (.msl nx 0 (xs.length + 1) es none) env vh' (nx + 1)) : fApp es by' ty v (enc a) 1 env vh nx k := by
  rcases A with ⟨rfl | rfl, rfl⟩ | ⟨b, h1, h2, rfl, h4⟩
  · conv => whnf
    refine ⟨hroom, hk _ (.inr ⟨nx, hlo, by omega, rfl, ?_⟩) fun c hc _ => vset_ne hc⟩
    rw [vset_same]; simp
  · simp only [fApp, beq_iff.2 (rfl : es = es), cond_true]
    conv => whnf
    refine ⟨⟨by simp, hroom⟩, hk _ (.inr ⟨nx, hlo, by omega, rfl, ?_⟩) fun c hc _ => vset_ne hc⟩
    rw [vset_same]; simp
  · simp only [fApp, beq_iff.2 (rfl : es = es), cond_true]
    conv => whnf
    refine ⟨((xs.map enc).flatten, ty, 0, false), h4, ?_⟩
    simp only
    have hfl := flat_len hl xs
    have hdv : ((xs.map enc).flatten.length - 0) / es = xs.length := by rw [hfl, Nat.sub_zero, Nat.mul_div_cancel _ h0]
    have hn : Nat.ble (xs.length + 1) (((xs.map enc).flatten.length - 0) / es) = false := by
      rw [hdv]
      cases hb : Nat.ble (xs.length + 1) xs.length with
      | false => rfl
      | true => have := ble_iff.1 hb; omega
    rw [hn]
    conv => whnf
    refine ⟨⟨trivial, by rw [hfl]; exact Nat.le_refl _, Nat.zero_le _, trivial, hroom⟩, ?_⟩
    refine hk _ (.inr ⟨nx, hlo, by omega, by simp, ?_⟩) fun c hc hb => ?_
    · rw [vset_same, List.take_of_length_le (by rw [hfl]; exact Nat.le_refl _)]
      simp [fzOff]
    · rw [vset_ne hc, vdel_ne hb]
theorem SlIn.app' (hl : ∀ a, (enc a).length = es) (h0 : 0 < es) (A : SlIn enc es ty lo vh nx v xs) (hlo : lo ≤ nx) (a : α) (hroom : room by' (xs.length + 1)) {env : VEnv} {k : V → VEnv → VH → Nat → Prop}
    (hk : ∀ vh', vh' nx = some (.cells ((xs ++ [a]).map enc).flatten ty 0 false) → (∀ c, c ≠ nx → ¬ blkOf v c → vh' c = vh c) → k (.msl nx 0 (xs ++ [a]).length es none) env vh' (nx + 1)) : fApp es by' ty v (enc a) 1 env vh nx k := by
  refine A.app hl h0 hlo a hroom fun vh' A' hf => ?_
  have e : xs.length + 1 = (xs ++ [a]).length := by simp
  rw [e] at A' ⊢
  refine hk vh' ?_ hf
  rcases A' with ⟨h | h, _⟩ | ⟨bz, h1, h2, h3, h4⟩
  · cases h
  · cases h
  · have := (V.msl.inj h3).1
    rw [this]; exact h4
theorem SlIn.fresh {ls : List (List V)} (hz : ls = xs.map enc) (hlo : lo ≤ nx) (hroom : room by' xs.length) {env : VEnv} {k : V → VEnv → VH → Nat → Prop}
    (hk : ∀ v' vh' nx', SlIn enc es ty lo vh' nx' v' xs → nx ≤ nx' → (∀ c, c ≠ nx → vh' c = vh c) → k v' env vh' nx') : fApp es by' ty (.sl es [] (some 0)) ls.flatten ls.length env vh nx k := by
  subst hz
  simp only [fApp, beq_iff.2 (rfl : es = es), cond_true]
  refine .mk (fun h => ?_) fun h => ?_
  · have h0 := beq_iff.1 h
    have h1 : xs = [] := by simpa using h0
    exact hk _ _ _ (.inl ⟨.inr rfl, h1⟩) (Nat.le_refl _) fun _ _ => rfl
  · have h0 := beq_false.1 h
    simp only [List.length_map, List.length_nil, Nat.zero_add] at h0 ⊢
    refine ⟨⟨by omega, hroom⟩, hk _ _ _ (.inr ⟨nx, hlo, by omega, rfl, ?_⟩) (by omega) fun c hc => vset_ne hc⟩
    rw [vset_same]; simp
theorem fz_owe (hl : ∀ a, (enc a).length = es) (h0 : 0 < es) : 0 < es ∧ 0 + xs.length * es ≤ (xs.map enc).flatten.length ∧ ∀ x, (none : Option Nat) = some x → xs.length ≤ x :=
  ⟨h0, by rw [flat_len hl]; omega, nofun⟩
theorem fz_pieces (hl : ∀ a, (enc a).length = es) : isPieces es xs.length ((xs.map enc).flatten.drop 0) (xs.map enc) := by
  refine ⟨?_, by simp, fun x hx => ?_⟩
  · rw [List.drop_zero, List.take_of_length_le (by rw [flat_len hl]; exact Nat.le_refl _)]
  · obtain ⟨a, _, rfl⟩ := List.mem_map.1 hx
    exact hl a
end
theorem Get.lit {α : Type} {ls : List (List V)} {f : α → List V} {n : Int} {zs : List α} (hz : ls = zs.map f) (h0 : 0 ≤ n) (h1 : n < zs.length) {k : Nat × List V → Prop} (hk : ∀ h : n.toNat < zs.length, k (n.toNat, f zs[n.toNat])) : Get (fun p : Nat × List V => n = (p.1 : Int) ∧ ls[p.1]? = some p.2) k := by
  have hlt : n.toNat < zs.length := by omega
  refine .mk (n.toNat, f zs[n.toNat]) ⟨by simp only; omega, ?_⟩ (hk hlt)
  subst hz
  simp [hlt]
theorem wr64 {x : Int} (h1 : -9223372036854775808 ≤ x) (h2 : x < 9223372036854775808) : wr .i64 x = x := by
  rw [wr_eq]
  simp only [IntKind.wrap, IntKind.signed, IntKind.bits]
  by_cases h : x % 2 ^ (64:Nat) ≥ 2 ^ ((64:Nat) - 1)
  · simp only [h, decide_true, Bool.and_self, if_true]; omega
  · simp only [h, decide_false, Bool.and_false, Bool.false_eq_true, if_false]; omega
theorem wru64 {x : Int} (h1 : 0 ≤ x) (h2 : x < 18446744073709551616) : wr .u64 x = x := by
  rw [wr_eq]
  simp only [IntKind.wrap, IntKind.signed, IntKind.bits]
  simp
  omega
theorem wru64_lt {x : Int} : 0 ≤ wr .u64 x ∧ wr .u64 x < 18446744073709551616 := by
  rw [wr_eq]
  simp only [IntKind.wrap, IntKind.signed, IntKind.bits]
  simp
  omega
theorem u_rem {x m : Int} (hx : 0 ≤ x) (hm : 0 < m) : 0 ≤ x.tmod m ∧ x.tmod m < m := by
  rw [Int.tmod_eq_emod_of_nonneg hx]
  exact ⟨Int.emod_nonneg x (by omega : m ≠ 0), Int.emod_lt_of_pos x hm⟩
end Go.VL
namespace Go.VL
open Go.Ev Go.RowKit
section
variable {P : Program}
theorem told_grown {X : Ovr} (hX : OvrSound P X) (hc : noCount P = true) {f : FuncId} {n g : Nat} {l : List AV} {e : TypeId} {fz : Nat} {raw : Bool} (hl : l.all isInt = true) (hg : g < P.globals.size)
    {h' : H} {nx' : Nat} (hr : evCall P X n f [] ((Tr.e : H).set g (.cells l e fz raw)) P.globals.size = .ok (.bool true) h' nx') (hh' : h'.get g = some (.cells l e fz raw)) {h : H} {nx : Nat} (hh : h.get g = some (.cells l e fz raw)) {σ : Map} {w : World} (rh : RH σ h w) (gl : GlobOk P σ) :
    CallOk P f #[] w (fun u w' => Ext (Rg nx nx) σ h w σ h w' ∧ u = .bool true) := by
  obtain ⟨L, hL, hb⟩ := rh.blk g _ hh
  have hget : ∀ i A, ((Tr.e : H).set g (.cells l e fz raw)).get i = some A → i = g ∧ A = .cells l e fz raw := fun i A hi => by
    rw [Tr.get_set] at hi
    by_cases ei : i = g
    · simp only [ei, if_true, Option.some.injEq] at hi
      exact ⟨ei, hi.symm⟩
    · simp only [ei, if_false, Tr.get_e] at hi
      cases hi
  have rh0 : RH (σ.low P.globals.size) ((Tr.e : H).set g (.cells l e fz raw)) w := by
    refine ⟨fun i A hi => ?_, fun i j A B M M' hi hj _ _ _ => (hget i A hi).1.trans (hget j B hj).1.symm, fun i M hi => rh.old i M (Map.low_le _ _ _ _ hi)⟩
    obtain ⟨rfl, rfl⟩ := hget i A hi
    exact ⟨L, by rw [Map.low_at hg]; exact hL, RB.ints hl hb⟩
  have bd0 : Bd (σ.low P.globals.size) P.globals.size := fun i hi => by simp [Map.low, Nat.not_lt.2 hi]
  have gl0 : GlobOk P (σ.low P.globals.size) := fun i hi => by rw [Map.low_at hi]; exact gl i hi
  refine (evCall_sound hX hc n f [] _ _ _ h' nx' hr _ w [] rh0 bd0 gl0 .nil).mono ?_
  rintro u w' ⟨τ, E, _, hu⟩
  cases hu
  refine ⟨?_, rfl⟩
  have hτ : τ g = some L := E.le g L (by rw [Map.low_at hg]; exact hL)
  obtain ⟨M, hM, hbM⟩ := E.rh.blk g _ hh'
  rw [hτ] at hM
  cases hM
  have other : ∀ B, B < w.heap.size → B ≠ L.b → w'.heap[B]? = w.heap[B]? := fun B hB hne => E.unch B hB fun i A M hi hM hb' => by
    obtain ⟨rfl, rfl⟩ := hget i A hi
    rw [Map.low_at hg, hL] at hM
    cases hM
    exact hne hb'.symm
  have at_g : (AB.cells l e fz raw).ro = true → w'.heap[L.b]? = w.heap[L.b]? := fun hro => (E.keep g _ L (by rw [Tr.get_set]; simp) hro (by rw [Map.low_at hg]; exact hL)).1
  refine ⟨Map.le_refl _, ⟨fun i A hi => ?_, rh.inj, fun i M hi => Nat.lt_of_lt_of_le (rh.old i M hi) E.size⟩, E.size, fun B hB hno => other B hB fun e => hno g _ L hh hL e.symm, fun _ _ h => .inl h, fun _ A _ h _ => ⟨A, h⟩, E.rest, fun i A M h1 h2 h3 => ⟨?_, h1⟩⟩
  · obtain ⟨M, k1, k2⟩ := rh.blk i A hi
    by_cases ei : i = g
    · subst ei
      rw [hh] at hi
      cases hi
      rw [hL] at k1
      cases k1
      exact ⟨L, hL, RB.ints hl hbM⟩
    · exact ⟨M, k1, k2.mono (Map.le_refl _) (other M.b (rh.old i M k1) fun e => ei (rh.inj i g A _ M L hi hh k1 hL e))⟩
  · by_cases ei : i = g
    · subst ei
      rw [hh] at h1
      cases h1
      rw [hL] at h3
      cases h3
      exact at_g h2
    · exact other M.b (rh.old i M h3) fun e => ei (rh.inj i g A _ M L h1 hh h3 hL e)
def trueAt (g : Nat) : CR → Option AB
  | .ok (.bool true) h _ => h.get g
  | _ => none
theorem trueAt_ok {g : Nat} {r : CR} {A : AB} (h : trueAt g r = some A) : ∃ h' nx', r = .ok (.bool true) h' nx' ∧ h'.get g = some A := by
  cases r with
  | ok v h' nx' =>
    cases v with
    | bool b => cases b with
      | true => exact ⟨h', nx', rfl, h⟩
      | false => cases h
    | _ => cases h
  | bad => cases h
def kToldG (g : Nat) : Ent := fun args h nx => match args with
  | [] => (match h.get g with
    | some (.cells [.int .i64 _] _ _ _) => .ok (.bool true) h nx
    | _ => .bad)
  | _ => .bad
theorem kToldG_ok {X : Ovr} (hX : OvrSound P X) (hc : noCount P = true) {f : FuncId} {n g : Nat} (hg : g < P.globals.size)
    (hrun : ∀ m e fz raw, trueAt g (evCall P X n f [] ((Tr.e : H).set g (.cells [.int .i64 m] e fz raw)) P.globals.size) = some (.cells [.int .i64 m] e fz raw)) : EntryOk P f (kToldG g) := by
  intro args h nx v h' nx' hr σ w vs rh bd gl hvs
  unfold kToldG at hr
  split at hr
  · cases hvs
    split at hr
    · rename_i m e fz raw hh
      cases hr
      obtain ⟨h2, n2, k1, k2⟩ := trueAt_ok (hrun m e fz raw)
      refine (told_grown hX hc (l := [.int .i64 m]) rfl hg k1 k2 (nx := nx) hh rh gl).mono ?_
      rintro u w' ⟨E, rfl⟩
      exact ⟨σ, E, Nat.le_refl _, .bool true⟩
    · cases hr
  · cases hr
theorem told_wp {X : Ovr} {G : Gt} {f : FuncId} {g : Nat} (hX : X f = some (kToldG g)) (hG : ∃ m, G g = some [.int .i64 m]) (vh : VH) (vn : Nat) :
    WpCall P X G f [] vh vn fun v vh' vn' => v = .bool true ∧ vh' = vh ∧ vn' = vn := by
  refine ⟨fun w h an us hg hr hd => ?_⟩
  obtain ⟨m, hm⟩ := hG
  obtain ⟨L, hK, hL⟩ := hg g _ hm
  obtain ⟨e, fz, raw, hh⟩ := hr.frz g L hK
  cases hd
  cases hL with | cons _ a _ _ ha hl =>
  cases ha
  cases hl
  refine ⟨.bool true, vh, vn, .bool true, h, an, w, ⟨rfl, rfl, rfl⟩, ⟨1, fun k hk => ?_⟩, hr, .bool true, .refl fun _ h => .inl h⟩
  obtain ⟨k, rfl⟩ : ∃ j, k = j + 1 := ⟨k - 1, by omega⟩
  simp only [evCall, hX, kToldG, hh]
def wOf (h : H) : Wd := ⟨fun _ => none, fun i => match h.get i with | some (.cells l _ _ _) => some l | _ => none⟩
theorem wOf_hr {h : H} {nx vn : Nat} {σ : Map} {W : World} (rh : RH σ h W) (bd : Bd σ nx) : HR (wOf h) (fun _ => none) vn h nx := by
  refine ⟨fun b B e => (by cases e), fun b c i e => (by cases e), fun i L e => ?_, fun b i e => (by cases e), fun i L e => ?_⟩
  · simp only [wOf] at e
    split at e
    · rename_i l t fz raw hb
      cases e
      exact ⟨_, _, _, hb⟩
    · cases e
  · simp only [wOf] at e
    split at e
    · rename_i l t fz raw hb
      obtain ⟨M, hM, _⟩ := rh.blk i _ hb
      rcases Nat.lt_or_ge i nx with h | h
      · exact h
      · rw [bd i h] at hM; cases hM
    · cases e
theorem Ext.below' {N : Nat → Prop} {σ σ' : Map} {h h' : H} {W w' : World} (hro : ∀ i A, h.get i = some A → A.ro = true) (e : Ext N σ h W σ' h' w') : Below W.heap.size W w' := by
  refine ⟨e.rest.1, e.rest.2.2, e.rest.2.1, e.size, fun k hk => ?_⟩
  by_cases hin : ∃ i A M, h.get i = some A ∧ σ i = some M ∧ M.b = k
  · obtain ⟨i, A, M, h1, h2, rfl⟩ := hin
    exact (e.keep i A M h1 (hro i A h1) h2).1
  · exact e.unch k hk fun i A M h1 h2 h3 => hin ⟨i, A, M, h1, h2, h3⟩
theorem top_ok {X : Ovr} (hX : OvrSound P X) (hc : noCount P = true) {f : FuncId} {fn : Func} {c : Code} (hf : P.funcs[f]? = some fn) (hb : fn.body = some c) {W : World} {σ : Map} {h : H} {nx vn : Nat} (rh : RH σ h W) (bd : Bd σ nx) (gl : GlobOk P σ) (hro : ∀ i A, h.get i = some A → A.ro = true)
    {G : Gt} (hG : GtOk G (wOf h)) {vs : List V} {us : List AV} {args : List Value} (hd : Dens (wOf h) vs us) (ha : RVs σ us args) (hw : WpCall P X G f vs (fun _ => none) vn fun v _ _ => v = .bool true) :
    Calls P f args.toArray W (fun e w' => e = .returned (.bool true) ∧ Below W.heap.size W w') := by
  obtain ⟨v, vh', vn', a, h', an', w', rfl, ⟨N, hev⟩, hr', hd', st⟩ := hw.out (wOf h) h nx us hG (wOf_hr rh bd) hd
  cases hd'
  have key := evCall_sound hX hc N f us _ _ _ h' an' (hev N (Nat.le_refl _)) _ W args rh bd gl ha
  rcases key with ⟨_, h2⟩ | ⟨u, w', h1, _⟩
  · refine h2.mono ?_
    rintro e w' ⟨u, rfl, σ', h3, _, h4⟩
    cases h4
    exact ⟨rfl, Ext.below' hro h3⟩
  · exfalso
    have h5 : fn.name = "runtime.NumGoroutine" ∨ (callFunc f args.toArray).run P W = .ok (.enter f args.toArray) W := by
      by_cases h1 : fn.name = "runtime.NumGoroutine"
      · exact .inl h1
      · exact .inr (by simp [callFunc, hf, h1, hb])
    rcases h5 with h5 | h5
    · have := List.all_eq_true.1 hc fn (by
        have := (Array.getElem?_eq_some_iff.1 hf).2
        rw [← this]
        simp)
      simp [hb, h5] at this
    · rw [h5] at h1
      cases h1
theorem RH.add {σ : Map} {h : H} {W : World} {nx : Nat} (rh : RH σ h W) (bd : Bd σ nx) (gl : GlobOk P σ) {L : Go.Ev.Loc} {A : AB} (hlt : L.b < W.heap.size) (hne : ∀ i A M, h.get i = some A → σ i = some M → M.b ≠ L.b) (hB : RB (σ.put nx L) W L A) :
    RH (σ.put nx L) (h.set nx A) W ∧ Bd (σ.put nx L) (nx + 1) ∧ GlobOk P (σ.put nx L) := by
  have hle : σ.le (σ.put nx L) := Map.le_put (bd nx (Nat.le_refl _))
  have hold : ∀ i A, h.get i = some A → i ≠ nx := fun i A hi e => by
    subst e
    obtain ⟨M, hM, _⟩ := rh.blk i A hi
    rw [bd i (Nat.le_refl _)] at hM
    cases hM
  refine ⟨⟨fun i B hi => ?_, fun i j B C M M' hi hj hM hM' e => ?_, fun i M hi => ?_⟩, fun i hi => ?_, gl.mono hle⟩
  · rw [Tr.get_set] at hi
    by_cases ei : i = nx
    · simp only [ei, if_true, Option.some.injEq] at hi
      subst hi
      exact ⟨L, by rw [ei, Map.put_same], hB⟩
    · simp only [ei, if_false] at hi
      obtain ⟨M, k1, k2⟩ := rh.blk i B hi
      exact ⟨M, hle _ _ k1, k2.mono hle rfl⟩
  · rw [Tr.get_set] at hi hj
    by_cases ei : i = nx
    · by_cases ej : j = nx
      · rw [ei, ej]
      · exfalso
        rw [ei, Map.put_same] at hM
        cases hM
        rw [Map.put_other _ _ ej] at hM'
        simp only [ej, if_false] at hj
        exact hne j C M' hj hM' e.symm
    · rw [Map.put_other _ _ ei] at hM
      simp only [ei, if_false] at hi
      by_cases ej : j = nx
      · exfalso
        rw [ej, Map.put_same] at hM'
        cases hM'
        exact hne i B M hi hM e
      · rw [Map.put_other _ _ ej] at hM'
        simp only [ej, if_false] at hj
        exact rh.inj i j B C M M' hi hj hM hM' e
  · by_cases ei : i = nx
    · rw [ei, Map.put_same] at hi
      cases hi
      exact hlt
    · rw [Map.put_other _ _ ei] at hi
      exact rh.old i M hi
  · rw [Map.put_other _ _ (by omega)]
    exact bd i (by omega)
end
end Go.VL
namespace Go.VL
open Go.Ev Go.RowKit
section
variable {P : Program}
def IntArg (W : World) (v : Value) (ls : List Int) : Prop :=
  (v = .slice none 0 0 ∧ ls = []) ∨ ∃ (b o len cap : Nat) (zs : List Int), v = .slice (some ⟨b, o, none⟩) len cap ∧ len ≤ cap ∧ zs.length = cap ∧ ls = zs.take len ∧ ∀ i, i < cap → W.cell? ⟨b, o + i, none⟩ = some (.int .i64 (zs.getD i 0))
structure Start (P : Program) (W : World) (G : Gt) (σ : Map) (h : H) (nx : Nat) : Prop where
  rh : RH σ h W
  bd : Bd σ nx
  gl : GlobOk P σ
  ro : ∀ i A, h.get i = some A → A.ro = true
  gt : GtOk G (wOf h)
theorem wOf_K {h : H} {i : Nat} {l : List AV} {e : TypeId} {fz : Nat} {raw : Bool} (hi : h.get i = some (.cells l e fz raw)) : (wOf h).K i = some l := by
  simp only [wOf, hi]
theorem Denss_ints {w : Wd} : ∀ ls : List Int, Denss w 1 (ls.map fun n => [V.int .i64 n]) (ls.map (AV.int .i64))
  | [] => .nil _ _
  | n :: ls => .cons _ _ _ _ (.cons _ _ _ _ (.int _ _) (.nil _)) rfl (Denss_ints ls)
theorem Denss_more {w : Wd} : ∀ (ls : List Int) (m : List AV), Denss w 1 (ls.map fun n => [V.int .i64 n]) (ls.map (AV.int .i64) ++ m)
  | [], _ => .nil _ _
  | n :: ls, m => .cons _ _ _ _ (.cons _ _ _ _ (.int _ _) (.nil _)) rfl (Denss_more ls m)
theorem int_arg {H : Type} {enc : TypeId × Value → H} {W : World} {base : Nat} {t e : TypeId} {v : Value} {d : DataW H} {ps : List MemPlace} (ht : P.underlying t = some (.slice e)) (he : P.underlying e = some (.int .i64)) (hc : P.cellsOf e = 1) (hval : Value.okWide P W .any base t v)
    (h : DataW.Trod enc P W 0 (fun _ => true) true t v d ps) : ∃ ls, IntArg W v ls := by
  obtain ⟨fuel, hf⟩ := h
  have hk : Cell.ok P W .any base t v := by
    unfold Value.okWide at hval
    simp only [ht] at hval
    unfold Cell.okWide at hval
    simp only [ht] at hval
    exact hval
  rcases ChangeShapes.open_ints ht he hc hf with ⟨hcs, hx⟩ | ⟨a, len, cap, zs, hcs, _, hl, hm, hz, hx, hcell, hwz⟩
  · refine ⟨[], .inl ⟨?_, rfl⟩⟩
    unfold Cell.ok at hk
    simp only [ht] at hk
    split at hk <;> simp_all [Value.cells]
  · have hv : v = .slice (some a) len cap := by
      unfold Cell.ok at hk
      simp only [ht] at hk
      split at hk <;> simp_all [Value.cells]
    subst hv
    have hsp : a.spot = none := by
      unfold Cell.ok at hk
      simp only [ht] at hk
      exact hk.2.2.2.1
    obtain ⟨b, o, spot⟩ := a
    subst hsp
    simp only [if_true] at hz
    refine ⟨zs.take len, .inr ⟨b, o, len, cap, zs, rfl, hl, hz, rfl, fun i hi => ?_⟩⟩
    have := hcell i (by omega)
    rw [add_eq] at this
    exact this
end
end Go.VL
namespace Go.VL
open Go.Ev Go.RowKit
def plainA : AV → Bool
  | .bool _ => true
  | .int _ _ => true
  | .str _ => true
  | _ => false
theorem plain_rv {σ τ : Map} {a : AV} {v : Value} (hp : plainA a = true) (h : RV σ a v) : RV τ a v := by
  cases h <;> first | cases hp; done | skip
  · exact .bool _
  · exact .int _ _
  · exact .str _ _ (by assumption)
theorem plain_rvs {σ τ : Map} : ∀ (us : List AV) {vs : List Value}, us.all plainA = true → RVs σ us vs → RVs τ us vs
  | [], vs, _, h => by
    cases h
    exact .nil
  | a :: l, vs, hp, h => by
    simp only [List.all_cons, Bool.and_eq_true] at hp
    cases h with | cons _ v _ m h hl => exact .cons a v l m (plain_rv hp.1 h) (plain_rvs l hp.2 hl)
section
variable {P : Program}
theorem memo_grown {X : Ovr} (hX : OvrSound P X) (hc : noCount P = true) {f : FuncId} {n : Nat} {us : List AV} {r : AV} (hu : us.all plainA = true) (hpr : plainA r = true) {h0 h h' : H} {nx nx' : Nat}
    (hs : ∀ i A, h0.get i = some A → i < P.globals.size ∧ h.get i = some A ∧ h'.get i = some A ∧ ∃ l e fz raw, A = .cells l e fz raw ∧ l.all isInt = true)
    (hr : evCall P X n f us h0 P.globals.size = .ok r h' nx') {σ : Map} {w : World} (rh : RH σ h w) (gl : GlobOk P σ) {vs : List Value} (hvs : RVs σ us vs) :
    CallOk P f vs.toArray w (fun u w' => Ext (Rg nx nx) σ h w σ h w' ∧ RV σ r u) := by
  have rh0 : RH (σ.low P.globals.size) h0 w := by
    refine ⟨fun i A hi => ?_, fun i j A B M M' hi hj hM hM' e => ?_, fun i M hi => rh.old i M (Map.low_le _ _ _ _ hi)⟩
    · obtain ⟨k1, k2, _, l, e, fz, raw, rfl, k3⟩ := hs i A hi
      obtain ⟨L, hL, hb⟩ := rh.blk i _ k2
      exact ⟨L, by rw [Map.low_at k1]; exact hL, RB.ints k3 hb⟩
    · exact rh.inj i j A B M M' (hs i A hi).2.1 (hs j B hj).2.1 (Map.low_le _ _ _ _ hM) (Map.low_le _ _ _ _ hM') e
  have bd0 : Bd (σ.low P.globals.size) P.globals.size := fun i hi => by simp [Map.low, Nat.not_lt.2 hi]
  have gl0 : GlobOk P (σ.low P.globals.size) := fun i hi => by rw [Map.low_at hi]; exact gl i hi
  refine (evCall_sound hX hc n f us _ _ _ h' nx' hr _ w vs rh0 bd0 gl0 (plain_rvs us hu hvs)).mono ?_
  rintro u w' ⟨τ, E, _, hu⟩
  refine ⟨?_, plain_rv hpr hu⟩
  have other : ∀ B, B < w.heap.size → (∀ i A M, h0.get i = some A → σ i = some M → B ≠ M.b) → w'.heap[B]? = w.heap[B]? := fun B hB hne => E.unch B hB fun i A M hi hM hb' => hne i A M hi (Map.low_le _ _ _ _ hM) hb'.symm
  refine ⟨Map.le_refl _, ⟨fun i A hi => ?_, rh.inj, fun i M hi => Nat.lt_of_lt_of_le (rh.old i M hi) E.size⟩, E.size, fun B hB hno => other B hB fun i A M h1 h2 e => hno i A M (hs i A h1).2.1 h2 e.symm, fun _ _ h => .inl h, fun _ A _ h _ => ⟨A, h⟩, E.rest, fun i A M h1 h2 h3 => ⟨?_, h1⟩⟩
  · obtain ⟨M, k1, k2⟩ := rh.blk i A hi
    cases h0i : h0.get i with
    | some B =>
      obtain ⟨m1, m2, m3, l, e, fz, raw, rfl, m4⟩ := hs i B h0i
      rw [hi] at m2
      cases m2
      obtain ⟨M2, q1, q2⟩ := E.rh.blk i _ m3
      have hτ : τ i = some M := E.le i M (by rw [Map.low_at m1]; exact k1)
      rw [hτ] at q1
      cases q1
      exact ⟨M, k1, RB.ints m4 q2⟩
    | none =>
      refine ⟨M, k1, k2.mono (Map.le_refl _) (other M.b (rh.old i M k1) fun j B L h1 h2 e => ?_)⟩
      have := rh.inj i j A B M L hi (hs j B h1).2.1 k1 h2 e
      rw [this, h1] at h0i
      cases h0i
  · cases h0i : h0.get i with
    | some B =>
      obtain ⟨m1, m2, m3, _⟩ := hs i B h0i
      rw [h1] at m2
      cases m2
      exact (E.keep i _ M h0i h2 (by rw [Map.low_at m1]; exact h3)).1
    | none =>
      refine other M.b (rh.old i M h3) fun j B L k1 k2 e => ?_
      have := rh.inj i j A B M L h1 (hs j B k1).2.1 h3 k2 e
      rw [this, k1] at h0i
      cases h0i
abbrev Tb := List (Nat × List AV)
def tbH : Tb → List (TypeId × Nat × Bool) → H
  | (g, l) :: r, t :: ts => (tbH r ts).set g (.cells l t.1 t.2.1 t.2.2)
  | _, _ => .e
def tbIn (h : H) : Tb → List (TypeId × Nat × Bool) → Bool → Prop
  | [], [], _ => True
  | (g, l) :: r, t :: ts, b => h.get g = some (.cells l t.1 t.2.1 t.2.2) ∧ tbIn h r ts b
  | _, _, _ => False
theorem tbH_get : ∀ {L : Tb} {ts : List (TypeId × Nat × Bool)} {h : H} {i : Nat} {A : AB}, tbIn h L ts true → (tbH L ts).get i = some A → h.get i = some A ∧ ∃ p ∈ L, p.1 = i ∧ ∃ e fz raw, A = .cells p.2 e fz raw
  | [], [], h, i, A, _, hg => by
    have e : tbH [] [] = .e := rfl
    rw [e, Tr.get_e] at hg
    cases hg
  | [], _ :: _, h, i, A, hi, _ => hi.elim
  | _ :: _, [], h, i, A, hi, _ => hi.elim
  | (g, l) :: r, t :: ts, h, i, A, hi, hg => by
    rw [tbH, Tr.get_set] at hg
    by_cases e : i = g
    · rw [if_pos e] at hg
      cases hg
      exact ⟨by rw [e]; exact hi.1, _, .head _, e.symm, _, _, _, rfl⟩
    · rw [if_neg e] at hg
      obtain ⟨k1, p, k2, k3⟩ := tbH_get hi.2 hg
      exact ⟨k1, p, .tail _ k2, k3⟩
def valAt (L : Tb) : CR → Option (AV × List (Option AB))
  | .ok v h _ => some (v, L.map fun p => h.get p.1)
  | _ => none
def tbBs : Tb → List (TypeId × Nat × Bool) → List (Option AB)
  | (_, l) :: r, t :: ts => some (.cells l t.1 t.2.1 t.2.2) :: tbBs r ts
  | _, _ => []
theorem tb_same : ∀ {L : Tb} {ts : List (TypeId × Nat × Bool)} {h h' : H}, tbIn h L ts true → (L.map fun p => h'.get p.1) = tbBs L ts → ∀ p ∈ L, h'.get p.1 = h.get p.1
  | [], _, _, _, _, _, p, hp => by cases hp
  | _ :: _, [], _, _, hi, _, _, _ => hi.elim
  | (g, l) :: r, t :: ts, h, h', hi, he, p, hp => by
    simp only [List.map_cons, tbBs, List.cons.injEq] at he
    rcases List.mem_cons.1 hp with rfl | hp
    · rw [he.1, hi.1]
    · exact tb_same hi.2 he.2 p hp
open Classical in
noncomputable def kMemo (L : Tb) (T : List (List AV)) (F : List AV → AV) : Ent := fun args h nx => if (∃ ts, tbIn h L ts true) ∧ args ∈ T then .ok (F args) h nx else .bad
theorem kMemo_ok {X : Ovr} (hX : OvrSound P X) (hc : noCount P = true) {f : FuncId} {n : Nat} {L : Tb} {T : List (List AV)} {F : List AV → AV} (hg : L.all (fun p => Nat.blt p.1 P.globals.size && p.2.all isInt) = true) (hT : T.all (fun us => us.all plainA && plainA (F us)) = true)
    (hrun : ∀ ts, ts.length = L.length → T.map (fun us => valAt L (evCall P X n f us (tbH L ts) P.globals.size)) = T.map fun us => some (F us, tbBs L ts)) : EntryOk P f (kMemo L T F) := by
  intro args h nx v h' nx' hr σ w vs rh bd gl hvs
  unfold kMemo at hr
  split at hr
  · rename_i hm
    cases hr
    obtain ⟨⟨ts, hin⟩, hm⟩ := hm
    have h1 := List.all_eq_true.1 hT args hm
    simp only [Bool.and_eq_true] at h1
    have hlen : ts.length = L.length := by
      clear hrun hg hT hvs rh gl bd
      induction L generalizing ts with
      | nil => cases ts with
        | nil => rfl
        | cons _ _ => exact hin.elim
      | cons p L ih => cases ts with
        | nil => exact hin.elim
        | cons t ts => rw [List.length_cons, List.length_cons, ih ts hin.2]
    have h2 := List.map_inj_left.1 (hrun ts hlen) args hm
    cases hev : evCall P X n f args (tbH L ts) P.globals.size with
    | bad => rw [hev] at h2; cases h2
    | ok v h2' n2 =>
      rw [hev] at h2
      simp only [valAt, Option.some.injEq, Prod.mk.injEq] at h2
      obtain ⟨rfl, h3⟩ := h2
      refine (memo_grown hX hc h1.1 h1.2 (nx := nx) (fun i A hi => ?_) hev rh gl hvs).mono ?_
      · obtain ⟨k1, p, k2, rfl, e, fz, raw, rfl⟩ := tbH_get hin hi
        have k4 := List.all_eq_true.1 hg p k2
        simp only [Bool.and_eq_true] at k4
        exact ⟨Nat.blt_eq.mp k4.1, k1, by rw [tb_same hin h3 p k2, k1], _, _, _, _, rfl, k4.2⟩
      · rintro u w' ⟨E, hu⟩
        exact ⟨σ, E, Nat.le_refl _, hu⟩
  · cases hr
def plA : V → AV
  | .bool b => .bool b
  | .int k n => .int k n
  | .str s => .str s
  | _ => .nilp
def plainV : V → Bool
  | .bool _ => true
  | .int _ _ => true
  | .str _ => true
  | _ => false
theorem den_plain {w : Wd} {v : V} {a : AV} (hp : plainV v = true) (h : Den w v a) : a = plA v := by
  cases h <;> first | rfl | cases hp
theorem dens_plain {w : Wd} : ∀ (vs : List V) {us : List AV}, vs.all plainV = true → Dens w vs us → us = vs.map plA
  | [], us, _, h => by
    cases h
    rfl
  | v :: l, us, hp, h => by
    simp only [List.all_cons, Bool.and_eq_true] at hp
    cases h with | cons _ a _ m h hl => rw [List.map_cons, den_plain hp.1 h, dens_plain l hp.2 hl]
theorem plain_den {w : Wd} {v : V} (hp : plainV v = true) : Den w v (plA v) := by
  cases v <;> first | cases hp; done | skip
  · exact .bool _
  · exact .int _ _
  · exact .str _
theorem tb_of {G : Gt} {w : Wd} (hg : GtOk G w) {vh : VH} {vn : Nat} {h : H} {an : Nat} (hh : HR w vh vn h an) : ∀ {L : Tb}, (∀ p ∈ L, ∃ l, G p.1 = some l ∧ l.all plainV = true ∧ l.map plA = p.2) → ∃ ts, tbIn h L ts true
  | [], _ => ⟨[], trivial⟩
  | p :: L, hL => by
    obtain ⟨l, h1, h2, h3⟩ := hL p (.head _)
    obtain ⟨ts, hts⟩ := tb_of hg hh (L := L) fun q hq => hL q (.tail _ hq)
    obtain ⟨A, hK, hA⟩ := hg p.1 _ h1
    obtain ⟨e, fz, raw, hb⟩ := hh.frz p.1 A hK
    refine ⟨(e, fz, raw) :: ts, ?_, hts⟩
    rw [hb, ← h3, dens_plain l h2 hA]
theorem memo_wp {X : Ovr} {G : Gt} {f : FuncId} {L : Tb} {T : List (List AV)} {F : List AV → AV} (hX : X f = some (kMemo L T F)) (hG : ∀ p ∈ L, ∃ l, G p.1 = some l ∧ l.all plainV = true ∧ l.map plA = p.2) {vs : List V} {r : V} (hp : vs.all plainV = true) (hr : plainV r = true) (hm : vs.map plA ∈ T) (hF : F (vs.map plA) = plA r) (vh : VH) (vn : Nat) :
    WpCall P X G f vs vh vn fun v vh' vn' => v = r ∧ vh' = vh ∧ vn' = vn := by
  refine ⟨fun w h an us hg hh hd => ?_⟩
  have hts := tb_of hg hh hG
  cases dens_plain vs hp hd
  refine ⟨r, vh, vn, plA r, h, an, w, ⟨rfl, rfl, rfl⟩, ⟨1, fun k hk => ?_⟩, hh, plain_den hr, .refl fun _ h => .inl h⟩
  obtain ⟨k, rfl⟩ : ∃ j, k = j + 1 := ⟨k - 1, by omega⟩
  simp only [evCall, hX, kMemo, if_pos (And.intro hts hm), hF]
end
end Go.VL
namespace Go.VL
open Go.Ev Go.RowKit
section
variable {P : Program}
def gtT (L : List Tab) : Gt := fun k => (L.find? fun t => Nat.beq t.g k).map fun t => t.l.map toV
where toV : AV → V
  | .bool b => .bool b
  | .int k n => .int k n
  | .str s => .str s
  | _ => .lost
theorem wOf_le {h : H} {nx : Nat} {A : AB} (hn : h.get nx = none) : (wOf h).le (wOf (h.set nx A)) := by
  refine ⟨fun b i e => (by cases e), fun i L hi => ?_⟩
  have hne : i ≠ nx := fun e => by
    subst e
    simp only [wOf, hn] at hi
    cases hi
  simp only [wOf] at hi ⊢
  rw [Tr.get_set, if_neg hne]
  exact hi
theorem tabs_mem : ∀ {L : List Tab} {h : H}, (L.map (·.g)).Nodup → ∀ u ∈ L, (tabs L h).get u.g = some u.blk
  | [], _, _, u, hu => by cases hu
  | t :: L, h, hnd, u, hu => by
    rw [List.map_cons, List.nodup_cons] at hnd
    show (Tr.set _ t.g _).get u.g = _
    rw [Tr.get_set]
    rcases List.mem_cons.1 hu with rfl | hu
    · rw [if_pos rfl]
    · have hne : u.g ≠ t.g := fun e => hnd.1 (e ▸ List.mem_map.2 ⟨u, hu, rfl⟩)
      rw [if_neg hne]
      exact tabs_mem hnd.2 u hu
theorem start_many {W : World} {L : List Tab} {g : Nat} {t : TypeId} {m : Int} {G : Gt} (hs : P.globals.size ≤ W.heap.size) (hnd : (L.map (·.g)).Nodup) (hL : ∀ u ∈ L, TabOk P W u) (hgt : GtOk G (wOf (tabs L .e))) (hg : intTab g t .i64 m ∈ L) (hm : W.heap[g]? = some (.cells #[.int .i64 m] t (0, 0)))
    (hoth : ∀ u ∈ L, u.g ≠ g → ∀ (c : Array Value) e fr (i : Nat) z, W.heap[u.g]? = some (.cells c e fr) → c[i]? ≠ some (.int .i64 z)) {v : Value} {ls : List Int} (hv : IntArg W v ls) :
    ∃ σ h nx u, Start P W G σ h nx ∧ Den (wOf h) (.sl 1 (ls.map fun n => [V.int .i64 n]) none) u ∧ RV σ u v := by
  obtain ⟨s1, s2, s3⟩ := start_ok hs hnd hL
  have hro : ∀ i A, (tabs L .e).get i = some A → A.ro = true := fun i A hi => by
    rcases tabs_get hi with ⟨u, _, _, rfl⟩ | ⟨_, h1⟩
    · exact tab_ro u
    · rw [Tr.get_e] at h1; cases h1
  have S : Start P W G (mapOf P L) (tabs L .e) P.globals.size := ⟨s1, s2, s3, hro, hgt⟩
  have hglt : g < P.globals.size := (hL _ hg).lt
  rcases hv with ⟨rfl, rfl⟩ | ⟨b, o, len, cap, zs, rfl, hlen, hz, rfl, hc⟩
  · exact ⟨_, _, _, .nils, S, .sl0 _ _ (.inl rfl), .nils⟩
  · by_cases h0 : len = 0
    · subst h0
      exact ⟨_, _, _, .esl, S, by rw [List.take_zero]; exact .sle _, .esl _ _⟩
    · have c0 := hc 0 (by omega)
      obtain ⟨c, e, fr, hb⟩ : ∃ c e fr, W.heap[b]? = some (.cells c e fr) := by
        unfold World.cell? at c0
        split at c0
        · rename_i c e fr hb
          exact ⟨c, e, fr, hb⟩
        · cases c0
      have hcell : ∀ i, i < cap → c[o + i]? = some (.int .i64 (zs.getD i 0)) := fun i hi => by
        have := hc i hi
        rw [cell?_eq hb] at this
        exact this
      have hsz : o + cap ≤ c.size := by
        have := (Array.getElem?_eq_some_iff.1 (hcell (cap - 1) (by omega))).1
        omega
      by_cases hbg : b = g
      · subst hbg
        rw [hm] at hb
        cases hb
        have h1 : o + cap ≤ 1 := hsz
        have ho : o = 0 := by omega
        have hcap : cap = 1 := by omega
        have hl1 : len = 1 := by omega
        subst ho
        subst hcap
        subst hl1
        obtain ⟨z, rfl⟩ : ∃ z, zs = [z] := List.length_eq_one_iff.1 hz
        have hz0 := hcell 0 (by omega)
        have hzm : z = m := by simpa using hz0.symm
        subst hzm
        have hgb : (tabs L .e).get b = some (.cells [.int .i64 z] t 2 true) := tabs_mem hnd _ hg
        obtain ⟨M, hM, hMb⟩ := s1.blk _ _ hgb
        have hM2 : mapOf P L b = some ⟨b, 0, lenAt L b⟩ := by simp [mapOf, hglt]
        rw [hM2] at hM
        cases hM
        have hx : 1 ≤ lenAt L b := by
          cases hMb with | cells _ _ _ _ c2 q1 q2 k1 k2 k3 k4 k5 k6 k7 k8 =>
          simp at k3; omega
        refine ⟨_, _, _, .sl b 0 1 1 (some 1), S, .sl _ _ _ _ _ _ _ [.int .i64 z] (wOf_K hgb) rfl (by omega) (Denss_ints [z]) (.inl rfl) (fun x hx => by cases hx; omega) (by simp), ?_⟩
        exact .slx b 0 1 1 1 ⟨b, 0, lenAt L b⟩ hM2 (by omega) (by omega) (by simp; omega)
      · have hlt : b < W.heap.size := (Array.getElem?_eq_some_iff.1 hb).1
        have hbl : ∀ u ∈ L, u.g ≠ b := fun u hu e => by
          by_cases h : u.g = g
          · exact hbg (by rw [← e, h])
          · rw [← e] at hb
            exact hoth u hu h c _ fr _ _ hb (hcell 0 (by omega))
        have hzl : (zs.map (AV.int .i64)).length = cap := by simp [hz]
        have hB : RB ((mapOf P L).put P.globals.size ⟨b, o, o + cap⟩) W ⟨b, o, o + cap⟩ (.cells (zs.map (AV.int .i64)) e (cap + 1) true) := by
          refine .cells _ _ _ _ c fr.1 fr.2 hb hsz (by simp [hz]) (fun i a ha => ?_) (fun i v h1 h2 h3 => ?_) (fun i h1 h2 => ?_) (fun h => by cases h) (.inr ⟨rfl, by omega⟩)
          · rw [List.getElem?_map] at ha
            obtain ⟨z, hz1, rfl⟩ := Option.map_eq_some_iff.1 ha
            have hi : i < cap := by
              have := (List.getElem?_eq_some_iff.1 hz1).1
              omega
            refine ⟨_, hcell i hi, ?_⟩
            rw [List.getD_eq_getElem?_getD, hz1]
            exact .int _ _
          · have := hcell (i - o) (by have h2' : i < o + cap := h2; have h1' : o ≤ i := h1; omega)
            have h1' : o ≤ i := h1
            rw [show o + (i - o) = i by omega] at this
            rw [this] at h3
            cases h3
            rfl
          · have h1' : o + (cap + 1) ≤ i := h1
            have h2' : i < o + cap := h2
            omega
        have hnone : (tabs L .e).get P.globals.size = none := by
          cases h : (tabs L .e).get P.globals.size with
          | none => rfl
          | some A =>
            obtain ⟨M, hM, _⟩ := s1.blk _ _ h
            rw [s2 _ (Nat.le_refl _)] at hM
            cases hM
        obtain ⟨r1, r2, r3⟩ := RH.add S.rh S.bd S.gl (L := ⟨b, o, o + cap⟩) hlt (fun i A M hi hM he => by
          rcases tabs_get hi with ⟨u, hu, rfl, _⟩ | ⟨_, h1⟩
          · simp only [mapOf, (hL u hu).lt, if_true, Option.some.injEq] at hM
            subst hM
            exact hbl u hu he
          · rw [Tr.get_e] at h1; cases h1) hB
        refine ⟨_, _, _, .sl P.globals.size 0 len 1 (some cap), ⟨r1, r2, r3, fun i A hi => ?_, hgt.mono (wOf_le hnone)⟩, .sl _ _ _ _ _ _ _ (zs.map (AV.int .i64)) ?_ ?_ (by omega) ?_ (.inl rfl) (fun x hx => by cases hx; exact hlen) ?_, ?_⟩
        · rw [Tr.get_set] at hi
          by_cases ei : i = P.globals.size
          · simp only [ei, if_true, Option.some.injEq] at hi
            subst hi
            show Nat.blt (Ev.len (zs.map (AV.int .i64))) (cap + 1) = true
            rw [blt_dec, len_eq, hzl]
            simp
          · simp only [ei, if_false] at hi
            exact S.ro i A hi
        · exact wOf_K (by rw [Tr.get_set, if_pos rfl])
        · simp [hz]; omega
        · rw [List.drop_zero]
          have := Denss_more (w := wOf ((tabs L .e).set P.globals.size (.cells (zs.map (AV.int .i64)) e (cap + 1) true))) (zs.take len) ((zs.drop len).map (AV.int .i64))
          rw [← List.map_append, List.take_append_drop] at this
          exact this
        · simp [hz]; exact hlen
        · exact .slx _ 0 len 1 cap ⟨b, o, o + cap⟩ (Map.put_same _ _ _) hlen (by omega) (by simp)
end
end Go.VL
