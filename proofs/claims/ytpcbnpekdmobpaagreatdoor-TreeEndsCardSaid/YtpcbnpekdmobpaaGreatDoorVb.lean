/- What must hold for code to come to something, of all operations, regions and calls; no condition. -/
import Derived.ChangeSlices
import Derived.OpenShut
import Derived.Test.YtpcbnpekdmobpaaGreatDoorVa
set_option linter.unusedSimpArgs false
set_option linter.unusedVariables false
set_option linter.constructorNameAsVariable false

namespace Go.VL
open Go.Ev

section
variable {P : Program} {G : Gt} {call : WCall} {w : Wd} {s : St} {e : Env} {h : H} {an nid : Nat} {K : V → St → Prop}

theorem op_lenS (hg : GtOk G w) (hr : HR w s.vh s.nx h an) (er : ER w s.env e h an) {x : VX} {xs : Array Operand} {ts : Array TypeId} (hc : cop P (.lenS x) (.call ⟨.builtin .len, xs, ts⟩) = true)
    (hk : vcOp G call (.lenS x) s K) : OpOk w s e h an nid (opA P (.call ⟨.builtin .len, xs, ts⟩) e h nid) K := by
  simp only [cop] at hc
  split at hc
  · rename_i y xs' t ts' hxs hts
    simp only [Bool.and_eq_true] at hc
    have hu := isStrT_ok hc.2
    obtain ⟨v, h3, h4⟩ := rdK_rel hg er hc.1 hk
    generalize hra : rd e y = ra at h4
    split at h3
    · cases h4
      exact ok_den hr er h3 (by simp only [opA, callA, builtinA, hxs, hts, List.map_cons, hra, lenA, hu, len_eq]) (.int _ _)
    · exact h3.elim
  · cases hc
theorem op_lenL (hg : GtOk G w) (hr : HR w s.vh s.nx h an) (er : ER w s.env e h an) {x : VX} {xs : Array Operand} {ts : Array TypeId} (hc : cop P (.lenL x) (.call ⟨.builtin .len, xs, ts⟩) = true)
    (hk : vcOp G call (.lenL x) s K) : OpOk w s e h an nid (opA P (.call ⟨.builtin .len, xs, ts⟩) e h nid) K := by
  simp only [cop] at hc
  split at hc
  · rename_i y xs' t ts' hxs hts
    simp only [Bool.and_eq_true] at hc
    obtain ⟨h1, h2⟩ := hc
    split at h2
    · rename_i el hu
      obtain ⟨v, h3, h4⟩ := rdK_rel hg er h1 hk
      generalize hra : rd e y = ra at h4
      split at h3
      · cases h4 with
        | sl0 => exact ok_den hr er h3 (by simp only [opA, callA, builtinA, hxs, hts, List.map_cons, hra, lenA, hu]; rfl) (.int _ _)
        | sle => exact ok_den hr er h3 (by simp only [opA, callA, builtinA, hxs, hts, List.map_cons, hra, lenA, hu]; rfl) (.int _ _)
        | sl _ _ c' i o n es L hK hn he hd hcc hc' ho =>
          subst hn
          exact ok_den hr er h3 (by simp only [opA, callA, builtinA, hxs, hts, List.map_cons, hra, lenA, hu]) (.int _ _)
      · cases h4; exact ok_den hr er h3 (by simp only [opA, callA, builtinA, hxs, hts, List.map_cons, hra, lenA, hu]; rfl) (.int _ _)
      · cases h4; exact ok_den hr er h3 (by simp only [opA, callA, builtinA, hxs, hts, List.map_cons, hra, lenA, hu]) (.int _ _)
      · exact h3.elim
    · cases h2
  · cases hc
theorem toBytes_len (l : List Nat) : (toBytesA l).length = l.length := by induction l <;> simp_all [toBytesA]
theorem src_rel (hr : HR w s.vh s.nx h an) {es : Nat} (he : 0 < es) {y : V} {a : AV} (hd : TV w s.env e y a) {k : List V → Nat → Prop} (hk : srcK s.vh es y k) :
    ∃ m j M, k m j ∧ cntA a = some j ∧ srcA h es a = some M ∧ Dens w m M ∧ m.length = j * es := by
  unfold srcK at hk
  split at hk
  · cases hd; exact ⟨[], 0, [], hk, rfl, rfl, .nil, by simp⟩
  · rename_i es' ls c
    cases hes : Nat.beq es es' with
    | false => rw [hes] at hk; exact hk.elim
    | true =>
    rw [hes] at hk
    have := beq_iff.1 hes
    subst this
    simp only [cond_true] at hk
    cases hd with
    | sl0 => exact ⟨_, _, [], hk, rfl, rfl, .nil, by simp⟩
    | sle => exact ⟨_, _, [], hk, rfl, rfl, .nil, by simp⟩
    | sl _ _ c' i o n _ L hK hn he' hd hcc hc' ho =>
      subst hn
      obtain ⟨ty, fz, raw, g⟩ := hr.frz _ _ hK
      refine ⟨_, _, (L.drop o).take (ls.length * es), hk, rfl, ?_, hd.flat, ?_⟩
      · simp only [srcA, hes, cond_true, ldCells, g, len_eq]
        rw [ble_iff.2 ho]
        simp only [cond_true, tk_eq, drp_eq]
      · have := hd.flat.length
        rw [this, List.length_take, List.length_drop]
        omega
  · rename_i b o n es' c
    cases hes : Nat.beq es es' with
    | false => rw [hes] at hk; exact hk.elim
    | true =>
    rw [hes] at hk
    have := beq_iff.1 hes
    subst this
    simp only [cond_true] at hk
    obtain ⟨p, hp, ho, hk⟩ := hk
    cases hd with
    | msl _ _ _ _ _ i hi =>
      obtain ⟨L, g3, g4⟩ := hasB_rel hr hp hi
      refine ⟨_, _, (L.drop o).take (n * es), hk, rfl, ?_, (g4.drop o).take _, ?_⟩
      · simp only [srcA, hes, cond_true, ldCells, g3, len_eq]
        rw [ble_iff.2 (by rw [← g4.length]; exact ho)]
        simp only [cond_true, tk_eq, drp_eq]
      · rw [List.length_take, List.length_drop]; omega
  · rename_i l
    cases hes : Nat.beq es 1 with
    | false => rw [hes] at hk; exact hk.elim
    | true =>
    rw [hes] at hk
    have := beq_iff.1 hes
    subst this
    simp only [cond_true] at hk
    cases hd
    exact ⟨_, _, toBytesA l, hk, by simp [cntA, len_eq], by simp only [srcA, hes, cond_true], bytes_den l, by simp⟩
  · exact hk.elim

theorem ok_move (hr : HR w s.vh s.nx h an) (er : ER w s.env e h an) (hf : Free w s.env e nid) {nx : NX} {v : V} {a : AV} {b i : Nat} {B C : VB} {A : AB} (hb : s.vh b = some C) (hi : w.ρ b = some i) (hk : K v ⟨s.env, vset (vdel s.vh b) s.nx B, s.nx + 1⟩) (hn : nx = .new a ((h.del i).set nid A))
    (hd : DenB w B A) (ht : Den (w.addB s.nx nid) v a) : OpOk w s e h an nid nx K := by
  have hle := hr.le_addB nid
  have hin := hr.lim _ _ hi
  obtain ⟨i', C', g1, g2, g3, g4⟩ := hr.blk _ _ hb
  rw [hi] at g1; cases g1
  have hr1 : HR (w.addB s.nx nid) (vset (vdel s.vh b) s.nx B) (s.nx + 1) ((h.del i).set nid A) (max an (nid + 1)) := by
    have hh := (hr.newB hf.id (Nat.le_max_left _ _) (Nat.le_max_right _ _) (hd.mono hle))
    constructor
    · intro c D hc
      by_cases hcn : c = s.nx
      · subst hcn
        have : vset s.vh s.nx B s.nx = some D := by rw [vset_get, if_pos rfl]; rw [vset_get, if_pos rfl] at hc; exact hc
        obtain ⟨j, A2, k1, k2, k3, k4⟩ := hh.blk _ D this
        refine ⟨j, A2, k1, ?_, k3, k4⟩
        have : j = nid := by simp [Wd.addB] at k1; exact k1.symm
        subst this
        rw [Tr.get_set, if_pos rfl] at k2 ⊢; exact k2
      · rw [vset_get, if_neg hcn, vdel_get] at hc
        split at hc
        · cases hc
        · rename_i hcb
          obtain ⟨j, A2, k1, k2, k3, k4⟩ := hr.blk c D hc
          have hjn : j ≠ nid := fun e => hf.id.ρ c (e ▸ k1)
          refine ⟨j, A2, hle.ρ _ _ k1, ?_, k3.mono hle, k4⟩
          rw [Tr.get_set, if_neg hjn, Tr.get_del, if_neg, k2]
          intro ej; subst ej; exact hcb (hr.inj _ _ _ k1 hi)
    · exact hh.inj
    · intro j L hj
      have hj : w.K j = some L := hj
      obtain ⟨ty, fz, raw, g⟩ := hr.frz j L hj
      have hjn : j ≠ nid := fun e => by rw [e, hf.id.K] at hj; cases hj
      refine ⟨ty, fz, raw, ?_⟩
      rw [Tr.get_set, if_neg hjn, Tr.get_del, if_neg, g]
      intro ej; subst ej; rw [g4] at hj; cases hj
    · exact hh.lim
    · exact hh.limK
  refine ⟨v, _, a, _, _, w.addB s.nx nid, hk, .inr (.inr ⟨hn, rfl⟩), hr1, ?_, .of_tv (.of_den ht), ?_, fun hv => (no_loc' ht hv).elim, fun k hk hfk => ⟨fun c hb => ?_, hfk.K⟩⟩
  · refine er.mono hle fun t k hl hk' => ?_
    obtain ⟨j, hj, h1, h2, h3⟩ := er.loc hl
    rw [hk'] at hj; cases hj
    have hne : k ≠ nid := fun e => hf.loc t hl (e ▸ hk')
    refine ⟨?_, h1, by omega, fun c hb' => ?_⟩
    · rw [Tr.get_set, if_neg hne, Tr.get_del, if_neg]
      intro ek; subst ek; exact h3 b hi
    · simp only [Wd.addB] at hb'
      split at hb'
      · cases hb'; exact hne rfl
      · exact h3 c hb'
  · refine ⟨hle, Nat.le_max_left _ _, fun j hj ho => ?_, fun c j hb' => ?_, fun _ _ hi => .inl hi, fun j hj => ?_⟩
    · rw [Tr.get_set, if_neg fun e => ho (.inr e), Tr.get_del, if_neg]
      intro ej; subst ej; exact ho (.inl (.inl ⟨b, _, hb, hi⟩))
    · simp only [Wd.addB] at hb'
      split at hb'
      · cases hb'; exact .inr (.inr (.inr rfl))
      · exact .inl hb'
    · rcases hj with ⟨c, D, hc, hj⟩ | hj
      · have hc : vset (vdel s.vh b) s.nx B c = some D := hc
        simp only [Wd.addB] at hj
        rw [vset_get] at hc
        split at hc
        · rename_i hcn; rw [if_pos hcn] at hj; cases hj; exact .inl (.inr rfl)
        · rename_i hcn
          rw [if_neg hcn] at hj
          rw [vdel_get] at hc
          split at hc
          · cases hc
          · exact .inl (.inl (.inl ⟨c, D, hc, hj⟩))
      · exact .inl (.inl (.inr hj))
  · simp only [Wd.addB] at hb
    split at hb
    · cases hb; exact hk rfl
    · exact hfk.ρ c hb
theorem op_app (hg : GtOk G w) (hr : HR w s.vh s.nx h an) (er : ER w s.env e h an) (hf : Free w s.env e nid) {es by' : Nat} {z : List V} {ty : TypeId} {x y : VX} {xs : Array Operand} {ts : Array TypeId} (hc : cop P (.app es z by' ty x y) (.call ⟨.builtin .append, xs, ts⟩) = true)
    (hk : vcOp G call (.app es z by' ty x y) s K) : OpOk w s e h an nid (opA P (.call ⟨.builtin .append, xs, ts⟩) e h nid) K := by
  simp only [cop] at hc
  split at hc
  · rename_i x' y' xs' t ts' hxs hts
    simp only [Bool.and_eq_true] at hc
    obtain ⟨⟨⟨⟨⟨⟨⟨h1, h2⟩, h3⟩, h4⟩, h5⟩, h6⟩, h7⟩, h8⟩ := hc
    obtain ⟨hu, hs, he⟩ := slOf_ok h3
    obtain ⟨za, zc, g1, g2, g3⟩ := chkZ_ok h5
    have hz := beq_iff.1 h6
    have hby := optEq_ok h7
    have hby0 := blt_iff.1 h8
    obtain ⟨d, h9, hd⟩ := rdK_rel hg er h1 hk
    obtain ⟨u, h10, hu'⟩ := rdK_rel hg er h2 h9
    generalize hrx : rd e x' = rx at hd
    generalize hry : rd e y' = ry at hu'
    obtain ⟨m, j, M, h11, k1, k2, k3, k4⟩ := src_rel hr he hu' h10
    have run : opA P (.call ⟨.builtin .append, xs, ts⟩) e h nid = appendTo P ty es j M rx h nid := by
      simp only [opA, callA, builtinA, hxs, hts, List.map_cons, hrx, hry, appendA, hu, hs, k1, k2, h4]
      rw [blt_iff.2 he]
      rfl
    have grow : ∀ (n : Nat) (cells : List AV) (fz : Nat) (raw : Bool) (h : H), room by' n → growA P ty es n cells fz raw h nid = .new (.sl nid 0 n es none) (h.set nid (.cells cells ty fz raw)) := by
      intro n cells fz raw h hroom
      simp only [growA, g1, g2, roomOk, hby]
      rw [beq_iff.2 (by rw [len_eq, ← (g3 w).length]; exact hz : len zc = es), ble_iff.2 hroom.1, blt_iff.2 hroom.2, blt_iff.2 hby0]
      rfl
    rw [run]
    have hbq : Nat.beq es es = true := beq_iff.2 rfl
    clear h10 h9 hk run
    unfold appK at h11
    split at h11
    · cases hd
      by_cases hj : j = 0
      · subst hj
        exact ok_den hr er (h11.t rfl) (a := .nils) (by simp only [appendTo]; rfl) .nils
      · obtain ⟨ho, hk⟩ := h11.f (beq_false.2 hj)
        refine ok_newB hr er hf hk ?_ (.cells _ _ _ _ _ k3) (.msl _ _ _ _ _ nid (by simp [Wd.addB]))
        simp only [appendTo]
        rw [beq_false.2 hj]
        exact grow _ _ _ _ _ ho
    · rename_i es' ls c
      cases hes : Nat.beq es es' with
      | false => rw [hes] at h11; exact h11.elim
      | true =>
      rw [hes] at h11
      have := beq_iff.1 hes
      subst this
      simp only [cond_true] at h11
      by_cases hj : j = 0
      · subst hj
        have hk := h11.t rfl
        refine ok_den hr er hk (a := rx) ?_ hd
        cases hd with
        | sl0 => rfl
        | sl _ _ c' i o n _ L hK hn he' hd hcc hc' ho => simp only [appendTo]; rw [hbq]; rfl
      · obtain ⟨⟨ho1, ho2⟩, hk⟩ := h11.f (beq_false.2 hj)
        cases hd with
        | sl0 =>
          simp only [List.length_nil, Nat.zero_add, List.flatten_nil, List.nil_append] at hk ho2
          refine ok_newB hr er hf hk ?_ (.cells _ _ _ _ _ k3) (.msl _ _ _ _ _ nid (by simp [Wd.addB]))
          simp only [appendTo]
          rw [beq_false.2 hj]
          exact grow _ _ _ _ _ ho2
        | sl _ _ c' i o n _ L hK hn he' hd hcc hc' ho =>
          subst hn
          obtain ⟨ty', fz, raw, g⟩ := hr.frz _ _ hK
          rcases hcc with hcc | rfl
          · cases hcc
          · refine ok_newB hr er hf hk ?_ (.cells _ _ _ _ _ (hd.flat.app k3)) (.msl _ _ _ _ _ nid (by simp [Wd.addB]))
            simp only [appendTo]
            rw [hbq, beq_false.2 hj]
            simp only [cond_true, cond_false, g, capLo]
            have e1 : Nat.ble (ls.length + j) c = false := by
              cases hb : Nat.ble (ls.length + j) c with
              | false => rfl
              | true => have := ble_iff.1 hb; omega
            rw [e1, len_eq, ble_iff.2 ho]
            simp only [cond_true, cond_false, tk_eq, drp_eq, app_eq]
            exact grow _ _ _ _ _ ho2
    · rename_i b o n es' c
      cases hes : Nat.beq es es' with
      | false => rw [hes] at h11; exact h11.elim
      | true =>
      rw [hes] at h11
      have := beq_iff.1 hes
      subst this
      simp only [cond_true] at h11
      cases hd with
      | msl _ _ _ _ _ i hi =>
      by_cases hj : j = 0
      · subst hj
        have hk := h11.t rfl
        exact ok_den hr er hk (a := .sl i o n es c) (by simp only [appendTo]; rw [hbq]; rfl) (.msl _ _ _ _ _ i hi)
      · obtain ⟨p, hp, hk⟩ := h11.f (beq_false.2 hj)
        obtain ⟨L, g4, g5⟩ := hasB_rel hr hp hi
        have hL := g5.length
        cases c with
        | some c =>
          simp only at hk
          by_cases hnc : n + j ≤ c
          · obtain ⟨⟨ho1, ho2⟩, hk⟩ := hk.t (ble_iff.2 hnc)
            refine ok_upd hr er hk (a := .sl i o (n + j) es (some c)) (A' := .cells (Ev.setSeg L (o + n * es) M) p.2.1 p.2.2.1 p.2.2.2) ?_ hp hi (.cells _ _ _ _ _ (g5.setSeg k3 _)) (.msl _ _ _ _ _ i hi)
            simp only [appendTo]
            rw [hbq, beq_false.2 hj]
            simp only [cond_true, cond_false, g4, capLo]
            rw [ble_iff.2 hnc, len_eq, ← hL, ble_iff.2 ho1, ble_iff.2 ho2]
            rfl
          · have e1 : Nat.ble (n + j) c = false := by
              cases hb : Nat.ble (n + j) c with
              | false => rfl
              | true => exact (hnc (ble_iff.1 hb)).elim
            obtain ⟨⟨ho1, ho2⟩, hk⟩ := hk.f e1
            refine ok_newB hr er hf hk ?_ (.cells _ _ _ _ _ (((g5.drop o).take _).app k3)) (.msl _ _ _ _ _ nid (by simp [Wd.addB]))
            simp only [appendTo]
            rw [hbq, beq_false.2 hj]
            simp only [cond_true, cond_false, g4, capLo]
            rw [e1, len_eq, ← hL, ble_iff.2 ho1]
            simp only [cond_true, cond_false, tk_eq, drp_eq, app_eq]
            exact grow _ _ _ _ _ ho2
        | none =>
          simp only at hk
          have hcl : capLo h i o es none = some ((p.1.length - o) / es) := by
            simp only [capLo, g4]
            rw [blt_iff.2 he, len_eq, ← hL]; rfl
          by_cases hnc : n + j ≤ (p.1.length - o) / es
          · obtain ⟨⟨ho1, ho2⟩, hk⟩ := hk.t (ble_iff.2 hnc)
            refine ok_upd hr er hk (a := .sl i o (n + j) es none) (A' := .cells (Ev.setSeg L (o + n * es) M) p.2.1 p.2.2.1 p.2.2.2) ?_ hp hi (.cells _ _ _ _ _ (g5.setSeg k3 _)) (.msl _ _ _ _ _ i hi)
            simp only [appendTo]
            rw [hbq, beq_false.2 hj]
            simp only [cond_true, cond_false, g4, hcl]
            rw [ble_iff.2 hnc, len_eq, ← hL, ble_iff.2 ho1, ble_iff.2 ho2]
            rfl
          · have e1 : Nat.ble (n + j) ((p.1.length - o) / es) = false := by
              cases hb : Nat.ble (n + j) ((p.1.length - o) / es) with
              | false => rfl
              | true => exact (hnc (ble_iff.1 hb)).elim
            obtain ⟨⟨ho1, ho2, ho3, ho4, ho5⟩, hk2⟩ := hk.f e1
            clear hk
            subst ho1
            refine ok_move hr er hf hp hi hk2 (a := .sl nid 0 (n + j) es none) (A := .cells (L.take (n * es) ++ M) ty (Ev.fzOff p.2.2.1 0) p.2.2.2) ?_ (.cells _ _ _ _ _ ((g5.take _).app k3)) (.msl _ _ _ _ _ nid (by simp [Wd.addB]))
            simp only [appendTo]
            rw [hbq, beq_false.2 hj]
            simp only [cond_true, cond_false, g4, hcl]
            rw [e1, len_eq, ← hL]
            simp only [Nat.zero_add, cond_false]
            rw [ble_iff.2 ho2, ble_iff.2 ho3, beq_iff.2 ho4.symm]
            simp only [cond_true, Bool.and_self, tk_eq, drp_eq, app_eq, List.drop_zero]
            exact grow _ _ _ _ _ ho5
    · exact h11.elim
  · cases hc
theorem mx_rel {k : V → Prop} : ∀ {l : List V} {m : List AV} {a : Int} {ka : IntKind}, Dens w l m → mxL k a ka l → ∃ b, k (.int ka b) ∧ foldA max2A (.int ka a) m = some (.int ka b)
  | [], _, a, ka, hd, hk => by cases hd; exact ⟨a, hk, rfl⟩
  | v :: l, _, a, ka, hd, hk => by
    cases hd with
    | cons _ x _ m hx hl =>
      cases v with
      | int kb b =>
        cases hx
        obtain ⟨c, h1, h2⟩ := mx_rel hl hk
        refine ⟨c, h1, ?_⟩
        simp only [foldA, max2A]
        rw [← h2]
        congr 2
        rw [ilt_eq]
        by_cases hab : a < b
        · rw [decide_eq_true hab]; simp only [cond_true]; omega
        · rw [decide_eq_false hab]; simp only [cond_false]; omega
      | _ => exact hk.elim
theorem mn_rel {k : V → Prop} : ∀ {l : List V} {m : List AV} {a : Int} {ka : IntKind}, Dens w l m → mnL k a ka l → ∃ b, k (.int ka b) ∧ foldA min2A (.int ka a) m = some (.int ka b)
  | [], _, a, ka, hd, hk => by cases hd; exact ⟨a, hk, rfl⟩
  | v :: l, _, a, ka, hd, hk => by
    cases hd with
    | cons _ x _ m hx hl =>
      cases v with
      | int kb b =>
        cases hx
        obtain ⟨c, h1, h2⟩ := mn_rel hl hk
        refine ⟨c, h1, ?_⟩
        simp only [foldA, min2A]
        rw [← h2]
        congr 2
        rw [ilt_eq]
        by_cases hab : b < a
        · rw [decide_eq_true hab]; simp only [cond_true]; omega
        · rw [decide_eq_false hab]; simp only [cond_false]; omega
      | _ => exact hk.elim
theorem op_mx (hg : GtOk G w) (hr : HR w s.vh s.nx h an) (er : ER w s.env e h an) {l : List VX} {xs : Array Operand} {ts : Array TypeId} (hc : cop P (.mx l) (.call ⟨.builtin .max, xs, ts⟩) = true)
    (hk : vcOp G call (.mx l) s K) : OpOk w s e h an nid (opA P (.call ⟨.builtin .max, xs, ts⟩) e h nid) K := by
  simp only [cop, Bool.and_eq_true] at hc
  obtain ⟨vs, h1, _, h2⟩ := rdsF_rel hg er hc.1 hk
  generalize hms : xs.toList.map (rd e) = ms at h2
  split at h1
  · cases h2 with
    | cons _ a _ m hx hl =>
      cases hx
      obtain ⟨b, h3, h4⟩ := mx_rel hl h1
      exact ok_den hr er h3 (by simp only [opA, callA, builtinA, hms, h4, optV]) (.int _ _)
  · exact h1.elim
theorem op_mn (hg : GtOk G w) (hr : HR w s.vh s.nx h an) (er : ER w s.env e h an) {l : List VX} {xs : Array Operand} {ts : Array TypeId} (hc : cop P (.mn l) (.call ⟨.builtin .min, xs, ts⟩) = true)
    (hk : vcOp G call (.mn l) s K) : OpOk w s e h an nid (opA P (.call ⟨.builtin .min, xs, ts⟩) e h nid) K := by
  simp only [cop, Bool.and_eq_true] at hc
  obtain ⟨vs, h1, _, h2⟩ := rdsF_rel hg er hc.1 hk
  generalize hms : xs.toList.map (rd e) = ms at h2
  split at h1
  · cases h2 with
    | cons _ a _ m hx hl =>
      cases hx
      obtain ⟨b, h3, h4⟩ := mn_rel hl h1
      exact ok_den hr er h3 (by simp only [opA, callA, builtinA, hms, h4, optV]) (.int _ _)
  · exact h1.elim
end
end Go.VL

namespace Go.VL
open Go.Ev

def VOp.isCall : VOp → Bool
  | .call _ _ | .callv _ _ => true
  | _ => false
theorem op_all {P : Program} {G : Gt} {call : WCall} {w : Wd} {s : St} {e : Env} {h : H} {an nid : Nat} {K : V → St → Prop} (hg : GtOk G w) (hr : HR w s.vh s.nx h an) (er : ER w s.env e h an) (hf : Free w s.env e nid) {vo : VOp} {o : Op}
    (hc : cop P vo o = true) (hv : vo.isCall = false) (hk : vcOp G call vo s K) : OpOk w s e h an nid (opA P o e h nid) K := by
  have hc' := hc
  unfold cop at hc
  split at hc
  · exact op_mv hg hr er hc rfl hk
  · exact op_mv hg hr er hc rfl hk
  · simp only [Bool.and_eq_true] at hc; exact op_pick hg hr er hc.1.1 hc.1.2 hc.2 hk
  · exact op_allocL hr er hf hc hk
  · simp only [Bool.and_eq_true] at hc; exact op_allocH hr er hf hc.1 hc.2 hk
  · exact op_boxL hg hr er hf hc hk
  · simp only [Bool.and_eq_true] at hc; exact op_boxH hg hr er hf hc.1 hc.2 hk
  · exact op_build hg hr er hc' hk
  · exact op_buildF hg hr er hf hc' hk
  · exact op_buildH hg hr er hf hc' hk
  · exact op_load hg hr er hc' hk
  · exact op_store hg hr er hc' hk
  · exact op_nilck hg hr er hc hk
  · exact op_bin hg hr er hc' hk
  · exact op_eq hg hr er hc' hk
  · exact op_un hg hr er hc' hk
  · exact op_cint hg hr er hc' hk
  · exact op_cstr hg hr er hc' hk
  · exact op_crune hg hr er hc' hk
  · exact op_cbytes hg hr er hf hc' hk
  · exact op_ctext hg hr er hc' hk
  · exact op_mkIfc hg hr er hc' hk
  · exact op_mkFn hg hr er hc' hk
  · exact op_mkMap hr er hf hk
  · exact op_mkSl hg hr er hf hc' hk
  · exact op_cutS hg hr er hc' hk
  · exact op_cutL hg hr er hc' hk
  · exact op_cutA hg hr er hc' hk
  · exact op_off hg hr er hc' hk
  · exact op_fld hg hr er hc' hk
  · exact op_idx hg hr er hc' hk
  · exact op_idxA hg hr er hc' hk
  · exact op_at hg hr er hc' hk
  · exact op_rng hg hr er hf hc' hk
  · exact op_next hg hr er hc' hk
  · exact op_asrt hg hr er hc' hk
  · exact op_ext hg hr er hc' hk
  · exact op_lenS hg hr er hc' hk
  · exact op_lenL hg hr er hc' hk
  · exact op_app hg hr er hf hc' hk
  · exact op_mx hg hr er hc' hk
  · exact op_mn hg hr er hc' hk
  · cases hv
  · cases hv
  · cases hc

section
variable (P : Program) (X : Ovr) (G : Gt)

structure WpCall (f : FuncId) (vs : List V) (vh : VH) (vn : Nat) (Q : V → VH → Nat → Prop) : Prop where
  out : ∀ (w : Wd) (h : H) (an : Nat) (us : List AV), GtOk G w → HR w vh vn h an → Dens w vs us →
    ∃ v vh' vn' a h' an' w', Q v vh' vn' ∧ (∃ N, ∀ m, N ≤ m → evCall P X m f us h an = .ok a h' an') ∧ HR w' vh' vn' h' an' ∧ Den w' v a ∧ Step w (ownB w vh) h an w' (ownB w' vh') h' an'
end

section
variable {P : Program} {X : Ovr} {G : Gt} {w : Wd} {s : St} {e : Env} {h : H} {an : Nat}

theorem Dens.set {l : List V} {m : List AV} (h : Dens w l m) : ∀ {o : Nat} {v : V} {a : AV}, Den w v a → m[o]? = some a → Dens w (l.set o v) m := by
  induction l generalizing m with
  | nil => intro o v a hd hm; cases h; simp at hm
  | cons x l ih =>
    intro o v a hd hm
    cases h with
    | cons _ b _ m h1 h2 =>
    cases o with
    | zero => simp only [List.getElem?_cons_zero, Option.some.injEq] at hm; subst hm; exact .cons _ _ _ _ hd h2
    | succ o => exact .cons _ _ _ _ h1 (ih h2 hd (by simpa using hm))
theorem den_none {es : Nat} {ls : List (List V)} {c : Option Nat} {a : AV} (h : Den w (.sl es ls c) a) : Den w (.sl es ls none) a := by
  cases h with
  | sl0 _ _ hc => exact .sl0 _ _ (.inl rfl)
  | sle => exact .sle _
  | sl _ _ c' i o n _ L h1 h2 h3 h4 h5 h6 h7 => exact .sl ls none c' i o n es L h1 h2 h3 h4 (.inl rfl) h6 h7

structure GhR (w : Wd) (s : St) (e : Env) (h : H) (an : Nat) (w' : Wd) (s' : St) : Prop where
  hr : HR w' s'.vh s'.nx h an
  er : ER w' s'.env e h an
  step : Step w (own w s.vh s.env e) h an w' (own w' s'.vh s'.env e) h an
theorem GhR.refl (hr : HR w s.vh s.nx h an) (er : ER w s.env e h an) : GhR w s e h an w s := ⟨hr, er, .refl fun _ h => .inl h⟩

theorem lk_keepV (all : List Nat) (env : VEnv) : ∀ (l : List Nat) (t : Nat) (v : V), lk (keepV all env l) t = some v → t ∈ l ∧ lk env t = some v ∧ ∀ u o, v = .lp u o → memN u all = true
  | [], t, v, h => by cases h
  | a :: l, t, v, h => by
    have ih := lk_keepV all env l t v
    have other : lk (keepV all env l) t = some v → t ∈ a :: l ∧ lk env t = some v ∧ ∀ u o, v = .lp u o → memN u all = true := fun h => let ⟨h1, h2⟩ := ih h; ⟨.tail _ h1, h2⟩
    simp only [keepV] at h
    split at h
    · exact other h
    · rename_i u o hl
      cases hm : memN u all with
      | false => rw [hm] at h; exact other h
      | true =>
        rw [hm] at h
        simp only [cond_true] at h
        rw [lk_cons] at h
        split at h
        · rename_i ht; simp only at ht; subst ht; cases h; exact ⟨.head _, hl, fun u' o' e => by cases e; exact hm⟩
        · exact other h
    · rename_i v' hl hn
      rw [lk_cons] at h
      split at h
      · rename_i ht; simp only at ht; subst ht; cases h; exact ⟨.head _, hn, fun u' o' e => by subst e; exact (hl _ _ rfl).elim⟩
      · exact other h
theorem ER.sub {env' : VEnv} (er : ER w s.env e h an) (hs : ∀ t v, lk env' t = some v → lk s.env t = some v) : ER w env' e h an := by
  have hL : ∀ t, Loc env' t → Loc s.env t := fun t ⟨v, h1, h2⟩ => ⟨v, hs t v h1, h2⟩
  refine ⟨fun t v hl => ?_, fun t u i ht hu => er.dist t u i (hL t ht) (hL u hu)⟩
  have := er.slot t v (hs t v hl)
  cases v with
  | lp u o => obtain ⟨a, h1, i, h2, h3⟩ := this; exact ⟨a, h1, i, h2, fun hl => h3 (hL _ hl)⟩
  | _ => exact this
theorem own_sub {env' : VEnv} {vh' : VH} (hs : ∀ t, Loc env' t → Loc s.env t) (hv : ∀ b B, vh' b = some B → ∃ C, s.vh b = some C) : ∀ i, own w vh' env' e i → own w s.vh s.env e i := by
  rintro i (⟨b, B, hb, hi⟩ | ⟨t, ht, hi⟩)
  · obtain ⟨C, hC⟩ := hv b B hb; exact .inl ⟨b, C, hC, hi⟩
  · exact .inr ⟨t, hs t ht, hi⟩
theorem gh_ok (hr : HR w s.vh s.nx h an) (er : ER w s.env e h an) {g : Gh} {K : St → Prop} (hk : vcGh g s K) : ∃ w' s', K s' ∧ GhR w s e h an w' s' := by
  cases g with
  | keep l =>
    simp only [vcGh, spine_eq] at hk
    refine ⟨w, _, hk, hr, er.sub fun t v ht => (lk_keepV _ _ _ _ _ ht).2.1, .refl fun i hi => .inl (own_sub (fun t ⟨v, h1, h2⟩ => ⟨v, (lk_keepV _ _ _ _ _ h1).2.1, h2⟩) (fun b B hb => ⟨B, hb⟩) i hi)⟩
  | fz t =>
    simp only [vcGh] at hk
    split at hk
    · rename_i l hl
      obtain ⟨i, L, ty, h1, h2, h3, h4⟩ := er.slot _ _ hl
      have hloc : Loc s.env t := .lt hl rfl
      obtain ⟨hle, hr'⟩ := hr.freezeL h4 h2
      have hk1 : (w.addK i L).K i = some L := if_pos rfl
      have hL : ∀ u, Loc ((t, .fp l 0) :: noLp t s.env) u → u ≠ t ∧ Loc s.env u := by
        rintro u ⟨v, g1, g2⟩
        rw [lk_cons] at g1
        split at g1
        · cases g1; cases g2
        · rename_i hut; exact ⟨hut, Loc_noLp.1 ⟨v, g1, g2⟩⟩
      refine ⟨w.addK i L, _, hk, hr', ⟨fun u v hu => ?_, fun a b j ha hb => er.dist a b j (hL a ha).2 (hL b hb).2⟩, ⟨hle, Nat.le_refl _, fun _ _ _ => rfl, fun _ _ h => .inl h, fun j M hj => ?_, fun j hj => .inl (own_sub (fun u hu => (hL u hu).2) (fun b B hb => ⟨B, hb⟩) j ?_)⟩⟩
      · rw [lk_cons] at hu
        split at hu
        · rename_i hut; simp only at hut; subst hut; cases hu
          exact ⟨_, h1, Den.fp l 0 0 i 0 L hk1 rfl (Nat.zero_le _) (by simpa using (h3.mono hle).toP')⟩
        · rename_i hut
          rw [lk_noLp] at hu
          cases hlu : lk s.env u with
          | none => rw [hlu] at hu; cases hu
          | some v0 =>
          rw [hlu] at hu; cases hu
          have hsl := er.slot u v0 hlu
          cases v0 with
          | bx m =>
            obtain ⟨j, M, ty', g1, g2, g3, g4⟩ := hsl
            refine ⟨j, M, ty', g1, g2, g3.mono hle, ?_, g4.2⟩
            show (if j = i then some L else w.K j) = none
            rw [if_neg, g4.1]
            intro ej; subst ej; exact hut (er.dist u t j (.lt hlu rfl) hloc g1 h1)
          | it r p =>
            obtain ⟨j, g1, g2, g4⟩ := hsl
            refine ⟨j, g1, g2, ?_, g4.2⟩
            show (if j = i then some L else w.K j) = none
            rw [if_neg, g4.1]
            intro ej; subst ej; exact hut (er.dist u t j (.lt hlu rfl) hloc g1 h1)
          | lp u' o =>
            obtain ⟨a, g1, j, g2, g3⟩ := hsl
            simp only [unLp]
            split
            · exact ⟨a, g1, trivial⟩
            · exact ⟨a, g1, j, g2, fun hl => g3 (hL _ hl).2⟩
          | _ => obtain ⟨a, g1, g2⟩ := hsl; exact ⟨a, g1, g2.mono hle⟩
      · simp only [Wd.addK] at hj
        split at hj
        · rename_i ej; subst ej; exact .inr (.inr (.inr ⟨t, hloc, h1⟩))
        · exact .inl hj
      · rcases hj with ⟨b, B, hb, hi⟩ | hj
        · exact .inl ⟨b, B, hb, hi⟩
        · exact .inr hj
    · exact ⟨w, s, hk, .refl hr er⟩
  | fzs t es =>
    simp only [vcGh] at hk
    have hL : ∀ (v : V) (u : Nat), v.isLoc = false → Loc ((t, v) :: s.env) u → u ≠ t ∧ Loc s.env u := by
      rintro v u hv ⟨v', g1, g2⟩
      rw [lk_cons] at g1
      split at g1
      · cases g1; rw [hv] at g2; cases g2
      · rename_i hut; exact ⟨hut, v', g1, g2⟩
    have hE : ∀ {w' : Wd} {v : V} {a : AV}, w.le w' → v.isLoc = false → e.get t = some a → Den w' v a → (∀ u i, Loc s.env u → e.get u = some (.ptr i 0) → LocOk w' an i) → (∀ u o, v ≠ .lp u o) → ER w' ((t, v) :: s.env) e h an := by
      intro w' v a hle hv ha hd hok hlp
      refine ⟨fun u x hu => ?_, fun a b j ha hb => er.dist a b j (hL v a hv ha).2 (hL v b hv hb).2⟩
      rw [lk_cons] at hu
      split at hu
      · rename_i hut; simp only at hut; subst hut; cases hu
        have htv : TV w' ((u, v) :: s.env) e v a := .of_den hd
        cases v with
        | bx l => cases hv
        | it r p => cases hv
        | _ => exact ⟨a, ha, htv⟩
      · have hsl := er.slot u x hu
        cases x with
        | bx m => obtain ⟨j, M, ty', g1, g2, g3, g4⟩ := hsl; exact ⟨j, M, ty', g1, g2, g3.mono hle, hok u j (.lt hu rfl) g1⟩
        | it r p => obtain ⟨j, g1, g2, g4⟩ := hsl; exact ⟨j, g1, g2, hok u j (.lt hu rfl) g1⟩
        | lp u' o => obtain ⟨a, g1, j, g2, g3⟩ := hsl; exact ⟨a, g1, j, g2, fun hl => g3 (hL v _ hv hl).2⟩
        | _ => obtain ⟨a, g1, g2⟩ := hsl; exact ⟨a, g1, g2.mono hle⟩
    split at hk
    · rename_i hl
      obtain ⟨a, h1, h2⟩ := er.get hl rfl
      cases h2
      refine ⟨w, _, hk, hr, hE (.refl _) rfl h1 (.sl0 es none (.inl rfl)) (fun u i hu hi => ?_) nofun, .refl fun i hi => .inl (own_sub (fun u hu => (hL _ u rfl hu).2) (fun b B hb => ⟨B, hb⟩) i hi)⟩
      obtain ⟨j, hj, hok⟩ := er.loc hu
      rw [hi] at hj; cases hj; exact hok
    · rename_i b o n es' c hl
      cases hes : Nat.beq es es' with
      | false => rw [hes] at hk; exact hk.elim
      | true =>
      rw [hes] at hk
      have := beq_iff.1 hes
      subst this
      simp only [cond_true] at hk
      obtain ⟨p, hp, ⟨k5, k3, k6⟩, ls, ⟨k1, k2, k4⟩, hk⟩ := hk
      obtain ⟨a, h1, h2⟩ := er.get hl rfl
      cases h2 with
      | msl _ _ _ _ _ i hi =>
      obtain ⟨L, g1, g2⟩ := hasB_rel hr hp hi
      obtain ⟨hle, hr'⟩ := hr.freeze hp hi g1
      have hk1 : (w.addK i L).K i = some L := if_pos rfl
      refine ⟨w.addK i L, _, hk, hr', hE hle rfl h1 (.sl _ none c i o n es L hk1 k2 k5 ?_ (.inl rfl) k6 ?_) (fun u j hu hj => ?_) nofun, ⟨hle, Nat.le_refl _, fun _ _ _ => rfl, fun _ _ h => .inl h, fun j M hj => ?_, fun j hj => ?_⟩⟩
      · refine Denss.of_flat ?_ k4
        rw [k1]
        exact (((g2.mono hle).drop o).toP').take _
      · rw [← g2.length]; exact k3
      · obtain ⟨k, hk', hok⟩ := er.loc hu
        rw [hj] at hk'; cases hk'
        refine ⟨?_, hok.2⟩
        show (if j = i then some L else w.K j) = none
        rw [if_neg, hok.1]
        intro ej; subst ej; exact hok.2.2 b hi
      · simp only [Wd.addK] at hj
        split at hj
        · rename_i ej; subst ej; exact .inr (.inr (.inl ⟨b, _, hp, hi⟩))
        · exact .inl hj
      · refine .inl (own_sub (w := w) (fun u hu => (hL _ u rfl hu).2) (fun c C hc => ?_) j hj)
        have hc : vdel s.vh b c = some C := hc
        rw [vdel_get] at hc
        split at hc
        · cases hc
        · exact ⟨C, hc⟩
    · rename_i es' ls c hl
      obtain ⟨a, h1, h2⟩ := er.get hl rfl
      refine ⟨w, _, hk, hr, hE (.refl _) rfl h1 (den_none h2) (fun u i hu hi => ?_) nofun, .refl fun i hi => .inl (own_sub (fun u hu => (hL _ u rfl hu).2) (fun b B hb => ⟨B, hb⟩) i hi)⟩
      obtain ⟨j, hj, hok⟩ := er.loc hu
      rw [hi] at hj; cases hj; exact hok
    · exact ⟨w, s, hk, .refl hr er⟩
  | fza t o es =>
    simp only [vcGh] at hk
    have hL : ∀ (v : V) (u : Nat), v.isLoc = false → Loc ((t, v) :: s.env) u → u ≠ t ∧ Loc s.env u := by
      rintro v u hv ⟨v', g1, g2⟩
      rw [lk_cons] at g1
      split at g1
      · cases g1; rw [hv] at g2; cases g2
      · rename_i hut; exact ⟨hut, v', g1, g2⟩
    have hE : ∀ {w' : Wd} {v : V} {a : AV}, w.le w' → v.isLoc = false → e.get t = some a → Den w' v a → (∀ u i, Loc s.env u → e.get u = some (.ptr i 0) → LocOk w' an i) → (∀ u o, v ≠ .lp u o) → ER w' ((t, v) :: s.env) e h an := by
      intro w' v a hle hv ha hd hok hlp
      refine ⟨fun u x hu => ?_, fun a b j ha hb => er.dist a b j (hL v a hv ha).2 (hL v b hv hb).2⟩
      rw [lk_cons] at hu
      split at hu
      · rename_i hut; simp only at hut; subst hut; cases hu
        have htv : TV w' ((u, v) :: s.env) e v a := .of_den hd
        cases v with
        | bx l => cases hv
        | it r p => cases hv
        | _ => exact ⟨a, ha, htv⟩
      · have hsl := er.slot u x hu
        cases x with
        | bx m => obtain ⟨j, M, ty', g1, g2, g3, g4⟩ := hsl; exact ⟨j, M, ty', g1, g2, g3.mono hle, hok u j (.lt hu rfl) g1⟩
        | it r p => obtain ⟨j, g1, g2, g4⟩ := hsl; exact ⟨j, g1, g2, hok u j (.lt hu rfl) g1⟩
        | lp u' o => obtain ⟨a, g1, j, g2, g3⟩ := hsl; exact ⟨a, g1, j, g2, fun hl => g3 (hL v _ hv hl).2⟩
        | _ => obtain ⟨a, g1, g2⟩ := hsl; exact ⟨a, g1, g2.mono hle⟩
    split at hk
    · rename_i l hl
      obtain ⟨a, h1, h2⟩ := er.get hl rfl
      cases h2 with
      | agg _ m hlm =>
      split at hk
      · rename_i ho
        rw [spine_eq] at hk
        rw [nth_eq] at ho
        obtain ⟨x, g1, g2⟩ := hlm.get ho
        cases g2
        refine ⟨w, _, hk, hr, hE (.refl _) rfl h1 (.agg _ _ (hlm.set (Den.sl0 es none (.inl rfl)) g1)) (fun u i hu hi => ?_) nofun, .refl fun i hi => .inl (own_sub (fun u hu => (hL _ u rfl hu).2) (fun b B hb => ⟨B, hb⟩) i hi)⟩
        obtain ⟨j, hj, hok⟩ := er.loc hu
        rw [hi] at hj; cases hj; exact hok
      · rename_i b p n es' c ho
        cases hes : Nat.beq es es' with
        | false => rw [hes] at hk; exact hk.elim
        | true =>
        rw [hes] at hk
        have := beq_iff.1 hes
        subst this
        simp only [cond_true] at hk
        obtain ⟨q, hp, ⟨k5, k3, k6⟩, ls, ⟨k1, k2, k4⟩, hk⟩ := hk
        rw [spine_eq] at hk
        rw [nth_eq] at ho
        obtain ⟨x, x1, x2⟩ := hlm.get ho
        cases x2 with
        | msl _ _ _ _ _ i hi =>
        obtain ⟨L, g1, g2⟩ := hasB_rel hr hp hi
        obtain ⟨hle, hr'⟩ := hr.freeze hp hi g1
        have hk1 : (w.addK i L).K i = some L := if_pos rfl
        refine ⟨w.addK i L, _, hk, hr', hE hle rfl h1 (.agg _ _ ((hlm.mono hle).set (.sl ls none c i p n es L hk1 k2 k5 ?_ (.inl rfl) k6 ?_) x1)) (fun u j hu hj => ?_) nofun, ⟨hle, Nat.le_refl _, fun _ _ _ => rfl, fun _ _ h => .inl h, fun j M hj => ?_, fun j hj => ?_⟩⟩
        · refine Denss.of_flat ?_ k4
          rw [k1]
          exact (((g2.mono hle).drop p).toP').take _
        · rw [← g2.length]; exact k3
        · obtain ⟨k, hk', hok⟩ := er.loc hu
          rw [hj] at hk'; cases hk'
          refine ⟨?_, hok.2⟩
          show (if j = i then some L else w.K j) = none
          rw [if_neg, hok.1]
          intro ej; subst ej; exact hok.2.2 b hi
        · simp only [Wd.addK] at hj
          split at hj
          · rename_i ej; subst ej; exact .inr (.inr (.inl ⟨b, _, hp, hi⟩))
          · exact .inl hj
        · refine .inl (own_sub (w := w) (fun u hu => (hL _ u rfl hu).2) (fun c C hc => ?_) j hj)
          have hc : vdel s.vh b c = some C := hc
          rw [vdel_get] at hc
          split at hc
          · cases hc
          · exact ⟨C, hc⟩
      · rename_i es' ls c ho
        rw [spine_eq] at hk
        rw [nth_eq] at ho
        obtain ⟨x, g1, g2⟩ := hlm.get ho
        refine ⟨w, _, hk, hr, hE (.refl _) rfl h1 (.agg _ _ (hlm.set (den_none g2) g1)) (fun u i hu hi => ?_) nofun, .refl fun i hi => .inl (own_sub (fun u hu => (hL _ u rfl hu).2) (fun b B hb => ⟨B, hb⟩) i hi)⟩
        obtain ⟨j, hj, hok⟩ := er.loc hu
        rw [hi] at hj; cases hj; exact hok
      · exact ⟨w, s, hk, .refl hr er⟩
    · exact ⟨w, s, hk, .refl hr er⟩
  | free t =>
    have key : ∀ b, K ⟨s.env, vdel s.vh b, s.nx⟩ → ∃ w' s', K s' ∧ GhR w s e h an w' s' := fun b hk => by
      refine ⟨w, _, hk, hr.del b, er, .refl fun i hi => .inl (own_sub (fun _ h => h) (fun c C hc => ?_) i hi)⟩
      have hc : vdel s.vh b c = some C := hc
      rw [vdel_get] at hc
      split at hc
      · cases hc
      · exact ⟨C, hc⟩
    simp only [vcGh] at hk
    split at hk
    · exact key _ hk
    · exact key _ hk
    · exact ⟨w, s, hk, .refl hr er⟩
theorem ghs_ok : ∀ (gs : List Gh) {w : Wd} {s : St}, HR w s.vh s.nx h an → ER w s.env e h an → ∀ {K : St → Prop}, vcGhs gs s K → ∃ w' s', K s' ∧ GhR w s e h an w' s'
  | [], w, s, hr, er, K, hk => ⟨w, s, hk, .refl hr er⟩
  | g :: gs, w, s, hr, er, K, hk => by
    obtain ⟨w1, s1, h1, h2⟩ := gh_ok hr er hk
    obtain ⟨w2, s2, h3, h4⟩ := ghs_ok gs h2.hr h2.er h1
    exact ⟨w2, s2, h3, h4.hr, h4.er, h2.step.trans h4.step⟩
end
end Go.VL

namespace Go.VL
open Go.Ev

def chkG (all : Array Oper) : Option (Nat × Bool) → Option (Nat × Bool) → Bool
  | none, none => true
  | some (d, b), some (j, b') => b == b' && (match all[j]? with | some o => optEq o.dst d | none => false)
  | _, _ => false
def chkD : Option Nat → Option Nat → Bool
  | none, none => true
  | some a, some b => Nat.beq a b
  | _, _ => false
theorem chkD_ok {a b : Option Nat} (h : chkD a b = true) : a = b := by
  cases a <;> cases b <;> first | rfl | cases h | (rw [beq_iff.1 h])
def chkOps (P : Program) (all : Array Oper) : List VOper → List Oper → Bool
  | [], [] => true
  | v :: vs, o :: os => chkD v.dst o.dst && chkG all v.guard o.guard && cop P v.op o.op && chkOps P all vs os
  | _, _ => false
inductive RK where
  | norm
  | exit (i : Nat)
  | ret
def VR.kind : VR → RK
  | .norm _ => .norm
  | .exit i _ => .exit i
  | .ret _ => .ret
def VR.st : VR → St
  | .norm s => s
  | .exit _ s => s
  | .ret s => s
def mkR : RK → Env → H → Nat → RS
  | .norm => .norm
  | .exit i => .exit i
  | .ret => .ret

structure At (w : Wd) (s : St) (e : Env) (h : H) (an : Nat) (w' : Wd) (s' : St) (e' : Env) (h' : H) (an' : Nat) : Prop where
  hr : HR w' s'.vh s'.nx h' an'
  er : ER w' s'.env e' h' an'
  step : Step w (own w s.vh s.env e) h an w' (own w' s'.vh s'.env e') h' an'
theorem At.trans {w w' w'' : Wd} {s s' s'' : St} {e e' e'' : Env} {h h' h'' : H} {an an' an'' : Nat} (a : At w s e h an w' s' e' h' an') (b : At w' s' e' h' an' w'' s'' e'' h'' an'') : At w s e h an w'' s'' e'' h'' an'' :=
  ⟨b.hr, b.er, a.step.trans b.step⟩

section
variable {P : Program} {X : Ovr} {G : Gt}

theorem put_ok' {w : Wd} {s : St} {e : Env} {h : H} {an nid : Nat} {nx : NX} {v : V} {s' : St} {a : AV} {h' : H} {an' : Nat} {w' : Wd} (r : OpRes w s e h an nid nx v s' a h' an' w') (d : Option Nat) :
    HR w' (put s' d v).vh (put s' d v).nx h' an' ∧ ER w' (put s' d v).env (putA e d a) h' an' ∧ Step w (fun i => own w s.vh s.env e i ∨ i = nid) h an w' (own w' (put s' d v).vh (put s' d v).env (putA e d a)) h' an' := by
  cases d with
  | none => exact ⟨r.hr, r.er, r.step⟩
  | some d =>
    refine ⟨r.hr, r.er.put r.res, ⟨r.step.le, r.step.grow, r.step.keep, r.step.newr, r.step.newk, fun i hi => ?_⟩⟩
    rcases hi with hi | ⟨t, ht, hi⟩
    · exact r.step.sub i (.inl hi)
    · have ht := Loc_putV.1 ht
      have hi : (e.set d a).get t = some (.ptr i 0) := hi
      rw [Tr.get_set] at hi
      by_cases htd : t = d
      · rw [if_pos htd] at ht hi
        have := r.fresh ht
        cases hi
        cases this
        exact .inl (.inr rfl)
      · rw [if_neg htd] at ht hi
        exact r.step.sub i (.inr ⟨t, ht, hi⟩)
theorem put_ok {w : Wd} {s : St} {e : Env} {h : H} {an : Nat} {nx : NX} {v : V} {s' : St} {a : AV} {h' : H} {an' : Nat} {w' : Wd} (r : OpRes w s e h an an nx v s' a h' an' w') (d : Option Nat) : At w s e h an w' (put s' d v) (putA e d a) h' an' := by
  obtain ⟨h1, h2, h3⟩ := put_ok' r d
  refine ⟨h1, h2, ⟨h3.le, h3.grow, fun i hi ho => h3.keep i hi fun hh => hh.elim ho fun e => by omega, fun b i hb => ?_, fun i L hb => ?_, fun i hi => ?_⟩⟩
  · rcases h3.newr b i hb with q | q | q | q
    · exact .inl q
    · exact .inr (.inl q)
    · exact .inr (.inr q)
    · exact .inr (.inl (by omega))
  · rcases h3.newk i L hb with q | q | q | q
    · exact .inl q
    · exact .inr (.inl q)
    · exact .inr (.inr q)
    · exact .inr (.inl (by omega))
  · rcases h3.sub i hi with (q | q) | q
    · exact .inl q
    · exact .inr (by omega)
    · exact .inr q

structure AtR (R : Nat → Prop) (w : Wd) (s : St) (e : Env) (h : H) (an : Nat) (w' : Wd) (s' : St) (e' : Env) (h' : H) (an' : Nat) : Prop where
  hr : HR w' s'.vh s'.nx h' an'
  er : ER w' s'.env e' h' an'
  step : Step w (fun i => own w s.vh s.env e i ∨ R i) h an w' (fun i => own w' s'.vh s'.env e' i ∨ R i) h' an'
theorem AtR.trans {R : Nat → Prop} {w w' w'' : Wd} {s s' s'' : St} {e e' e'' : Env} {h h' h'' : H} {an an' an'' : Nat} (a : AtR R w s e h an w' s' e' h' an') (b : AtR R w' s' e' h' an' w'' s'' e'' h'' an'') : AtR R w s e h an w'' s'' e'' h'' an'' :=
  ⟨b.hr, b.er, a.step.trans b.step⟩
theorem At.toR {R : Nat → Prop} {w w' : Wd} {s s' : St} {e e' : Env} {h h' : H} {an an' : Nat} (a : At w s e h an w' s' e' h' an') : AtR R w s e h an w' s' e' h' an' :=
  ⟨a.hr, a.er, ⟨a.step.le, a.step.grow, fun i hi ho => a.step.keep i hi fun h => ho (.inl h), fun b i hb => (a.step.newr b i hb).imp_right fun h => h.imp_right .inl, fun i L hb => (a.step.newk i L hb).imp_right fun h => h.imp_right .inl,
    fun i hi => hi.elim (fun hi => (a.step.sub i hi).imp_left .inl) fun hR => .inl (.inr hR)⟩⟩
theorem put_okR {R : Nat → Prop} {w : Wd} {s : St} {e : Env} {h : H} {an nid : Nat} {nx : NX} {v : V} {s' : St} {a : AV} {h' : H} {an' : Nat} {w' : Wd} (r : OpRes w s e h an nid nx v s' a h' an' w') (hR : R nid) (d : Option Nat) : AtR R w s e h an w' (put s' d v) (putA e d a) h' an' := by
  obtain ⟨h1, h2, h3⟩ := put_ok' r d
  have up : ∀ i, own w s.vh s.env e i ∨ i = nid → own w s.vh s.env e i ∨ R i := fun i hi => hi.imp_right fun (q : i = nid) => by rw [q]; exact hR
  refine ⟨h1, h2, ⟨h3.le, h3.grow, fun i hi ho => h3.keep i hi fun h => ho (up i h), fun b i hb => (h3.newr b i hb).imp_right fun h => h.imp_right (up i), fun i L hb => (h3.newk i L hb).imp_right fun h => h.imp_right (up i),
    fun i hi => hi.elim (fun hi => (h3.sub i hi).imp_left (up i)) fun hR => .inl (.inr hR)⟩⟩
theorem put_undef {w : Wd} {s : St} {e : Env} {h : H} {an : Nat} (hr : HR w s.vh s.nx h an) (er : ER w s.env e h an) (d : Option Nat) : At w s e h an w (put s d V.undef) (putA e d undefA) h an :=
  put_ok (nx := .val undefA) (v := V.undef) (s' := s) ⟨.inl ⟨rfl, rfl, rfl⟩, hr, er, Den.tup _ _ .nil, .refl fun _ h => .inl (.inl h), nofun, fun _ _ h => h⟩ d
theorem ER.again {w : Wd} {env : VEnv} {e : Env} {h : H} {an : Nat} (er : ER w env e h an) {d : Nat} {b : Bool} (hl : lk env d = some (.bool b)) : ER w ((d, .bool b) :: env) e h an := by
  have hs : ∀ t v, lk ((d, .bool b) :: env) t = some v → lk env t = some v := fun t v ht => by
    rw [lk_cons] at ht
    split at ht
    · rename_i e1; simp only at e1; subst e1; cases ht; exact hl
    · exact ht
  exact er.sub (s := ⟨env, fun _ => none, 0⟩) hs
theorem call_step {w : Wd} {s : St} {e : Env} {h : H} {an : Nat} (er : ER w s.env e h an) {w' : Wd} {vh' : VH} {vn' : Nat} {h' : H} {an' : Nat} (hr : HR w' vh' vn' h' an') (st : Step w (ownB w s.vh) h an w' (ownB w' vh') h' an') {v : V} {a : AV} (hd : Den w' v a) (d : Option Nat) :
    At w s e h an w' (put ⟨s.env, vh', vn'⟩ d v) (putA e d a) h' an' := by
  have er' : ER w' s.env e h' an' := er.call st
  have st' : Step w (own w s.vh s.env e) h an w' (own w' vh' s.env e) h' an' := by
    refine ⟨st.le, st.grow, fun i hi ho => st.keep i hi fun hb => ho (.inl hb), fun b i hb => (st.newr b i hb).imp_right fun h => h.imp_right .inl, fun i L hb => (st.newk i L hb).imp_right fun h => h.imp_right .inl, fun i hi => ?_⟩
    rcases hi with hi | hi
    · exact (st.sub i hi).imp_left .inl
    · exact .inl (.inr hi)
  have a1 : At w s e h an w' ⟨s.env, vh', vn'⟩ e h' an' := ⟨hr, er', st'⟩
  have a2 : At w' ⟨s.env, vh', vn'⟩ e h' an' w' (put ⟨s.env, vh', vn'⟩ d v) (putA e d a) h' an' :=
    put_ok (nx := .val a) (v := v) (s' := ⟨s.env, vh', vn'⟩) ⟨.inl ⟨rfl, rfl, rfl⟩, hr, er', .of_tv (.of_den hd), .refl fun _ h => .inl (.inl h), fun hv => (no_loc' hd hv).elim, fun _ _ h => h⟩ d
  exact a1.trans a2
theorem ops_ok {all : Array Oper} : ∀ (vs : List VOper) (os : List Oper), chkOps P all vs os = true → ∀ {w : Wd} {s : St} {e : Env} {h : H} {an : Nat}, GtOk G w → HR w s.vh s.nx h an → ER w s.env e h an →
    ∀ {K : St → Prop}, vcOps G (WpCall P X G) vs s K → ∃ s' e' h' an' w', K s' ∧ (∃ N, ∀ m, N ≤ m → evOps P (evCall P X m) all os e h an = .norm e' h' an') ∧ At w s e h an w' s' e' h' an'
  | [], [], _, w, s, e, h, an, hg, hr, er, K, hk => ⟨s, e, h, an, w, hk, ⟨0, fun m _ => evOps_nil⟩, hr, er, .refl fun _ h => .inl h⟩
  | [], _ :: _, hc, _, _, _, _, _, _, _, _, _, _ => by cases hc
  | _ :: _, [], hc, _, _, _, _, _, _, _, _, _, _ => by cases hc
  | v :: vs, o :: os, hc, w, s, e, h, an, hg, hr, er, K, hk => by
    simp only [chkOps, Bool.and_eq_true] at hc
    obtain ⟨⟨⟨h1, h2⟩, h3⟩, h4⟩ := hc
    have hdst := chkD_ok h1
    simp only [vcOps] at hk
    obtain ⟨w1, s1, hk, g⟩ := ghs_ok v.gh hr er hk
    have a0 : At w s e h an w1 s1 e h an := ⟨g.hr, g.er, g.step⟩
    have hg1 := hg.mono g.step.le
    -- what goes on behind
    have go : ∀ {w2 : Wd} {s2 : St} {e2 : Env} {h2 : H} {an2 : Nat}, At w s e h an w2 s2 e2 h2 an2 → vcOps G (WpCall P X G) vs s2 K → (∃ N, ∀ m, N ≤ m → evOps P (evCall P X m) all (o :: os) e h an = evOps P (evCall P X m) all os e2 h2 an2) →
        ∃ s' e' h' an' w', K s' ∧ (∃ N, ∀ m, N ≤ m → evOps P (evCall P X m) all (o :: os) e h an = .norm e' h' an') ∧ At w s e h an w' s' e' h' an' := by
      intro w2 s2 e2 h2 an2 ha hk hev
      obtain ⟨s', e', h', an', w', k1, ⟨N1, k2⟩, k3⟩ := ops_ok vs os h4 (hg.mono ha.step.le) ha.hr ha.er hk
      obtain ⟨N2, k4⟩ := hev
      exact ⟨s', e', h', an', w', k1, ⟨max N1 N2, fun m hm => by rw [k4 m (by omega), k2 m (by omega)]⟩, ha.trans k3⟩
    -- it is done
    have yes : ∀ {s2 : St}, At w s e h an w1 s2 e h an → wantedA all e o.guard = some true → vcOp G (WpCall P X G) v.op s2 (fun u s' => vcOps G (WpCall P X G) vs (put s' v.dst u) K) → ∃ s' e' h' an' w', K s' ∧ (∃ N, ∀ m, N ≤ m → evOps P (evCall P X m) all (o :: os) e h an = .norm e' h' an') ∧ At w s e h an w' s' e' h' an' := by
      intro s2 ha hw hk
      have plain : v.op.isCall = false → ∃ s' e' h' an' w', K s' ∧ (∃ N, ∀ m, N ≤ m → evOps P (evCall P X m) all (o :: os) e h an = .norm e' h' an') ∧ At w s e h an w' s' e' h' an' := by
        intro hcall
        obtain ⟨u, s', a, h', an', w', k1, k2⟩ := op_all hg1 ha.hr ha.er (free_an ha.hr ha.er) h3 hcall hk
        refine go (ha.trans (put_ok k2 v.dst)) k1 ⟨0, fun m _ => ?_⟩
        rw [evOps_cons, hw, wants_true, hdst]
        rcases k2.nx with ⟨q, rfl, rfl⟩ | ⟨q, rfl⟩ | ⟨q, rfl⟩
        · rw [q, goOn_val]
        · rw [q, goOn_upd]
        · rw [q, goOn_new, Nat.max_eq_right (Nat.le_succ _)]
      have called : ∀ {g : FuncId} {ws : List V} {us : List AV}, WpCall P X G g ws s2.vh s2.nx (fun u vh nx => vcOps G (WpCall P X G) vs (put ⟨s2.env, vh, nx⟩ v.dst u) K) → Dens w1 ws us → opA P o.op e h an = .call g us →
          ∃ s' e' h' an' w', K s' ∧ (∃ N, ∀ m, N ≤ m → evOps P (evCall P X m) all (o :: os) e h an = .norm e' h' an') ∧ At w s e h an w' s' e' h' an' := by
        intro g ws us hcl hd hop
        obtain ⟨u, vh', vn', a, h', an', w', k1, ⟨N, k2⟩, k3, k4, k5⟩ := hcl.out w1 h an us hg1 ha.hr hd
        refine go (ha.trans (call_step ha.er k3 k5 k4 v.dst)) k1 ⟨N, fun m hm => ?_⟩
        rw [evOps_cons, hw, wants_true, hdst, hop, goOn_call, k2 m hm, callK_ok]
      cases hvo : v.op with
      | call g xs =>
        rw [hvo] at hk h3
        generalize hoo : o.op = oo at h3
        unfold cop at h3
        split at h3 <;> first | (rename_i heq; cases heq; done) | skip
        all_goals first
          | (rename_i heq
             cases heq
             simp only [Bool.and_eq_true, beq_iff] at h3
             obtain ⟨rfl, h3⟩ := h3
             obtain ⟨ws, q1, _, q2⟩ := rdsF_rel hg1 ha.er h3 hk
             refine called q1 q2 ?_
             rw [hoo]
             simp only [opA, callA, rd, app_eq, List.append_nil, List.nil_append]
             done)
          | cases h3
      | callv x xs =>
        rw [hvo] at hk h3
        generalize hoo : o.op = oo at h3
        unfold cop at h3
        split at h3 <;> first | (rename_i heq; cases heq; done) | skip
        all_goals first
          | (rename_i heq
             cases heq
             simp only [Bool.and_eq_true] at h3
             obtain ⟨h30, h31⟩ := h3
             obtain ⟨fv, q0, q3⟩ := rdK_rel hg1 ha.er h30 hk
             rename_i yy ys tys
             generalize hrd : rd e yy = ra at q3
             split at q0
             · cases q3 with
               | func g f c f' c' hf hcc =>
                 obtain ⟨ws, q1, _, q2⟩ := rdsF_rel hg1 ha.er h31 q0
                 refine called q1 ((hf.app q2).app hcc) ?_
                 rw [hoo]
                 simp only [opA, callA, hrd, app_eq, List.append_assoc]
             · exact q0.elim
             done)
          | cases h3
      | _ => exact plain (by rw [hvo]; rfl)
    have no : ∀ {s2 : St}, At w s e h an w1 s2 e h an → wantedA all e o.guard = some false → vcOps G (WpCall P X G) vs (put s2 v.dst V.undef) K → ∃ s' e' h' an' w', K s' ∧ (∃ N, ∀ m, N ≤ m → evOps P (evCall P X m) all (o :: os) e h an = .norm e' h' an') ∧ At w s e h an w' s' e' h' an' := by
      intro s2 ha hw hk
      refine go (ha.trans (put_undef ha.hr ha.er v.dst)) hk ⟨0, fun m _ => ?_⟩
      rw [evOps_cons, hw, wants_false, hdst]
    unfold guardK at hk
    split at hk
    · rename_i hgd
      rw [hgd] at h2
      have : o.guard = none := by cases hog : o.guard with | none => rfl | some q => rw [hog] at h2; cases h2
      exact yes a0 (by rw [this]; rfl) hk
    · rename_i d b hgd
      rw [hgd] at h2
      cases hog : o.guard with
      | none => rw [hog] at h2; cases h2
      | some q =>
      obtain ⟨j, b'⟩ := q
      rw [hog] at h2
      simp only [chkG, Bool.and_eq_true, beq_iff_eq] at h2
      obtain ⟨rfl, h2⟩ := h2
      split at h2
      · rename_i oj hoj
        have hdj := optEq_ok h2
        have want : ∀ a, e.get d = some a → wantedA all e o.guard = (match some a with | some (.bool c) => some (c == b) | some .junk => none | _ => some false) := fun a ha => by
          rw [hog]
          simp only [wantedA, hoj, hdj, ha]
          cases a <;> rfl
        split at hk
        · rename_i c hl
          obtain ⟨a, q1, q2⟩ := g.er.get hl rfl
          cases q2
          have hw : wantedA all e o.guard = some (c == b) := want _ q1
          have at2 : ∀ c', c = c' → At w s e h an w1 ⟨(d, .bool c') :: s1.env, s1.vh, s1.nx⟩ e h an := fun c' hc' => by
            subst hc'
            refine ⟨g.hr, g.er.again hl, g.step.trans (.refl fun i hi => .inl (own_sub (fun t ht => ?_) (fun B C hb => ⟨C, hb⟩) i hi))⟩
            obtain ⟨v', r1, r2⟩ := ht
            rw [lk_cons] at r1
            split at r1
            · cases r1; cases r2
            · exact ⟨v', r1, r2⟩
          cases b with
          | true =>
            simp only [cond_true] at hk
            cases c with
            | true => exact yes (at2 true rfl) (hog ▸ hw) (hk.t rfl)
            | false => exact no (at2 false rfl) (hog ▸ hw) (hk.f rfl)
          | false =>
            simp only [cond_false] at hk
            cases c with
            | true => exact no (at2 true rfl) (hog ▸ hw) (hk.t rfl)
            | false => exact yes (at2 false rfl) (hog ▸ hw) (hk.f rfl)
        · rename_i l hl
          obtain ⟨a, q1, q2⟩ := g.er.get hl rfl
          cases q2
          exact no a0 (want _ q1) hk
        · exact hk.elim
      · cases h2
end
end Go.VL

namespace Go.VL
open Go.Ev

def VOp.light : VOp → Bool
  | .cint _ _ | .cstr _ | .crune _ => true
  | _ => false
def clsN : Cls → Nat
  | .p => 0
  | .r => 1
  | .f => 2
  | .w => 3
def isConv : Op → Bool
  | .convert .. => true
  | _ => false
def isCallO : Op → Bool
  | .call c => (match c.callee with | .value _ => true | _ => false)
  | _ => false
def isStore : Op → Bool
  | .store .. | .mapUpdate .. => true
  | _ => false
def subB (a m : Nat) : Bool := Nat.beq (Nat.land a m) a

def rootOf : List (Nat × Nat) → Nat → Option Nat
  | [], _ => none
  | p :: l, t => bif Nat.beq p.1 t then some p.2 else rootOf l t
def dropRt (t : Nat) : List (Nat × Nat) → List (Nat × Nat)
  | [] => []
  | p :: l => bif Nat.beq p.1 t then dropRt t l else p :: dropRt t l
def putRt (rt : List (Nat × Nat)) (d : Option Tmp) (r : Option Nat) : List (Nat × Nat) := match d with
  | none => rt
  | some d => (match r with | some k => (d, k) :: dropRt d rt | none => dropRt d rt)
def rootN (rt : List (Nat × Nat)) (i : Nat) (op : Op) : Option Nat := match op with
  | .buildSlice _ _ _ => some i
  | .indexAddr _ (.tmp t) _ => rootOf rt t
  | _ => none

def rootLd (rt : List (Nat × Nat)) (m : Nat) (op : Op) : Bool := match op with
  | .load _ (.tmp t) => (match rootOf rt t with | some k => Nat.testBit m k | none => false)
  | _ => false
def memT (t : Nat) : List Nat → Bool
  | [] => false
  | a :: l => Nat.beq a t || memT t l

def apartE (D : List Nat) (all : Array Oper) (o : Oper) : Bool := (looksA all o).all fun t => !memT t D
def addD (d : Option Tmp) (D : List Nat) : List Nat := match d with | some d => d :: D | none => D
def ckMask : List Nat → Nat
  | [] => 0
  | j :: l => Nat.lor (Nat.pow 2 j) (ckMask l)
def noCk : List Nat → Bool
  | [] => true
  | _ => false

def goodL (all : Array Oper) (er : Nat) : List VOper → List Oper → List Nat → Nat → Nat → Nat → Nat → List Nat → List (Nat × Nat) → Bool
  | [], [], _, _, _, _, _, _, _ => true
  | v :: vs, o :: os, m :: ms, i, rm, fm, wm, D, rt =>
    Nat.blt m (Nat.pow 2 i) && (match v.tg with
    | .e => (match clsOf o.op with | .p => true | .r => Nat.testBit er i | _ => false) && (match v.gh with | [] => true | _ => false) && !v.op.isCall && apartE D all o && goodL all er vs os ms (i + 1) rm fm wm D (putRt rt o.dst none)
    | .n ck => (match clsOf o.op with
      | .p => noCk ck && goodL all er vs os ms (i + 1) rm fm wm (addD o.dst D) (putRt rt o.dst (rootN rt i o.op))
      | .r => noCk ck && (subB (Nat.lor fm wm) m || (subB wm m && rootLd rt m o.op)) && goodL all er vs os ms (i + 1) (Nat.lor rm (Nat.pow 2 i)) fm wm (addD o.dst D) (putRt rt o.dst none)
      | .f => noCk ck && (bif isConv o.op then (bif v.op.light then Nat.beq wm 0 else subB (Nat.lor fm wm) m) else true) && goodL all er vs os ms (i + 1) (bif isConv o.op then Nat.lor rm (Nat.pow 2 i) else rm) (Nat.lor fm (Nat.pow 2 i)) wm (addD o.dst D) (putRt rt o.dst (rootN rt i o.op))
      | .w => subB (Nat.lor rm (Nat.lor fm wm)) m && subB er (Nat.lor m (ckMask ck)) && goodL all er vs os ms (i + 1) rm fm (Nat.lor wm (Nat.pow 2 i)) (addD o.dst D) (putRt rt o.dst none)))
  | _, _, _, _, _, _, _, _, _ => false
def earlyR : List VOper → List Oper → Nat → Nat
  | v :: vs, o :: os, i => Nat.lor (match v.tg, clsOf o.op with | .e, .r => Nat.pow 2 i | _, _ => 0) (earlyR vs os (i + 1))
  | _, _, _ => 0
def goodDraw (P : Program) (vs : List VOper) (os : Array Oper) : Bool := drawOk os && P.follows .mixedOrders && goodL os (earlyR vs os.toList 0) vs os.toList (masks os.toList []) 0 0 0 0 [] []

theorem subB_bit {a m j : Nat} (h : subB a m = true) (hj : Nat.testBit a j = true) : Nat.testBit m j = true := by
  have := beq_iff.1 h
  have h2 : Nat.testBit (Nat.land a m) j = Nat.testBit a j := by rw [this]
  have h3 : Nat.testBit (a &&& m) j = (Nat.testBit a j && Nat.testBit m j) := Nat.testBit_and a m j
  have h4 : Nat.testBit (Nat.land a m) j = (Nat.testBit a j && Nat.testBit m j) := h3
  rw [h4, hj] at h2
  simpa using h2
theorem lor_bit (a b j : Nat) : Nat.testBit (Nat.lor a b) j = (Nat.testBit a j || Nat.testBit b j) := Nat.testBit_or a b j
theorem pow_bit (i j : Nat) : Nat.testBit (Nat.pow 2 i) j = decide (i = j) := Nat.testBit_two_pow
theorem lt_bit {m i j : Nat} (h : m < 2 ^ i) (hj : Nat.testBit m j = true) : j < i := by
  rcases Nat.lt_or_ge j i with h1 | h1
  · exact h1
  · have : m < 2 ^ j := Nat.lt_of_lt_of_le h (Nat.pow_le_pow_right (by decide) h1)
    rw [Nat.testBit_lt_two_pow this] at hj; cases hj

section
variable {P : Program}
theorem newVar_ind {ty : TypeId} {v : AV} {h : H} {n : Nat} {a : AV} {h' : H} (e : newVarA P ty v h n = .new a h') : ∃ B, h' = h.set n B ∧ ∀ g, newVarA P ty v g n = .new a (g.set n B) := by
  unfold newVarA at e ⊢
  split at e
  · rename_i cs hcs
    cases e
    exact ⟨_, rfl, fun g => rfl⟩
  · cases e

theorem f_ind {op : Op} (hc : clsOf op = .f) {e : Env} {h : H} {n : Nat} {a : AV} {h' : H} (hv : opA P op e h n = .new a h') : ∃ B, h' = h.set n B ∧ ∀ g, opA P op e g n = .new a (g.set n B) := by
  cases op <;> simp only [clsOf] at hc <;> try cases hc
  case alloc ty =>
    simp only [opA] at hv ⊢
    split at hv
    · rename_i z hz; obtain ⟨B, h1, h2⟩ := newVar_ind hv; exact ⟨B, h1, fun g => h2 g⟩
    · cases hv
  case box ty x => exact newVar_ind (P := P) hv
  case buildSlice t m ps =>
    simp only [opA, buildSl] at hv ⊢
    split at hv
    · rename_i el hu
      split at hv
      · rename_i s z hs hz
        split at hv
        · rename_i zc hzc
          cases hb : (Nat.blt 0 s && Nat.ble (m * s) 16777216 && Nat.beq (len zc) s) with
          | false => rw [hb] at hv; cases hv
          | true =>
            rw [hb] at hv
            simp only [cond_true] at hv
            split at hv
            · rename_i cs hcs
              cases hv
              refine ⟨_, rfl, fun g => ?_⟩
              simp only [hu, hs, hz, hzc, hb, cond_true, hcs]
            · cases hv
        · cases hv
      · cases hv
    · cases hv
  case convert s d x =>
    simp only [opA, convA] at hv ⊢
    split at hv
    all_goals try (split at hv <;> try (cases hv; done))
    all_goals try (split at hv <;> try (cases hv; done))
    all_goals first
      | (cases hv; done)
      | (cases hv; exact ⟨_, rfl, fun g => rfl⟩)
      | (exfalso
         simp only [cond_eq_ite] at hv
         split at hv
         · first | (cases hv; done) | (split at hv <;> cases hv)
         · cases hv)
  case makeMap t r =>
    simp only [opA] at hv ⊢
    split at hv
    · cases hv; exact ⟨_, rfl, fun g => rfl⟩
    · cases hv
  case makeSlice t l c =>
    simp only [opA, makeSl] at hv ⊢
    split at hv
    · rename_i hl hc' hu
      split at hv
      · rename_i s b z hs hb hz
        split at hv
        · rename_i zc hzc
          cases hbb : (Nat.blt 0 s && Nat.beq (len zc) s && Nat.ble _ _ && Nat.ble _ 140737488355328 && Nat.blt _ p63) with
          | false => rw [hbb] at hv; cases hv
          | true => rw [hbb] at hv; cases hv; refine ⟨_, rfl, fun g => ?_⟩; first | (rw [hbb]; rfl) | rfl
        · cases hv
      · cases hv
    · cases hv
  case call c => split at hc <;> cases hc
  case range t x =>
    simp only [opA, rangeA] at hv ⊢
    split at hv
    · rename_i l hu; cases hv; exact ⟨_, rfl, fun g => rfl⟩
    · cases hv

def NX.onlyV : NX → Bool
  | .upd _ _ => false
  | .new _ _ => false
  | _ => true
theorem optV_only (x : Option AV) : NX.onlyV (optV x) = true := by cases x <;> rfl
theorem p_only {op : Op} (hc : clsOf op = .p) (e : Env) (h : H) (n : Nat) : NX.onlyV (opA P op e h n) = true := by
  cases op <;> simp only [clsOf] at hc <;> try cases hc
  case convert s d x => cases hb : Nat.beq s d <;> rw [hb] at hc <;> cases hc
  case call c => split at hc <;> cases hc
  all_goals simp only [opA, fieldAt, fieldV, indexAt, indexV, assertA]
  all_goals first
    | exact optV_only _
    | rfl
    | (repeat' (first | exact optV_only _ | rfl | split | (simp only [cond_eq_ite]; split)))
theorem r_only {op : Op} (hc : clsOf op = .r) (e : Env) (h : H) (n : Nat) : NX.onlyV (opA P op e h n) = true := by
  cases op <;> simp only [clsOf] at hc <;> try cases hc
  case convert s d x => cases hb : Nat.beq s d <;> rw [hb] at hc <;> cases hc
  case call c =>
    split at hc <;> first | cases hc | skip
    all_goals (rename_i hcal; simp only [opA, callA, hcal, builtinA, lenA, capA])
    all_goals (repeat' (first | contradiction | exact optV_only _ | rfl | split | (simp only [cond_eq_ite]; split)))
  all_goals simp only [opA, sliceA, slice2, slice3, sliceStr, lookA]
  all_goals first
    | exact optV_only _
    | rfl
    | (repeat' (first | exact optV_only _ | rfl | split | (simp only [cond_eq_ite]; split)))
theorem st_only {op : Op} (hc : isStore op = true) (e : Env) (h : H) (n : Nat) (a : AV) (h' : H) : opA P op e h n ≠ .new a h' := by
  cases op <;> simp only [isStore] at hc <;> try cases hc
  all_goals simp only [opA, updA]
  all_goals (repeat' (first | (intro hh; cases hh; done) | split | (simp only [cond_eq_ite]; split)))
theorem f_conv {op : Op} (hc : clsOf op = .f) (hi : isConv op = false) {e : Env} {h : H} {n : Nat} {v : AV} (hv : opA P op e h n = .val v) : False := by
  cases op <;> simp only [clsOf] at hc <;> try cases hc
  case convert => cases hi
  case call c => split at hc <;> cases hc
  all_goals (revert hv; simp only [opA, newVarA, buildSl, makeSl, rangeA])
  all_goals (repeat' (first | (intro hh; cases hh; done) | split | (simp only [cond_eq_ite]; split)))
theorem f_upd {op : Op} (hc : clsOf op = .f) {e : Env} {h : H} {n : Nat} {v : AV} {h' : H} (hv : opA P op e h n = .upd v h') : False := by
  cases op <;> simp only [clsOf] at hc <;> try cases hc
  case convert s d x =>
    have hsd : Nat.beq s d = false := by cases hb : Nat.beq s d with | false => rfl | true => rw [hb] at hc; cases hc
    revert hv
    simp only [opA, convA, hsd]
    repeat' (first | (intro hh; cases hh; done) | split | (simp only [cond_eq_ite]; split))
  case call c => split at hc <;> cases hc
  all_goals (revert hv; simp only [opA, newVarA, buildSl, makeSl, rangeA])
  all_goals (repeat' (first | (intro hh; cases hh; done) | split | (simp only [cond_eq_ite]; split)))
theorem st_nid {op : Op} (hc : isStore op = true) (e : Env) (h : H) (n m : Nat) : opA P op e h n = opA P op e h m := by
  cases op <;> first | rfl | (simp only [isStore] at hc; cases hc)
theorem light_any {vo : VOp} {o : Op} (hc : cop P vo o = true) (hl : vo.light = true) {e : Env} {h : H} {n : Nat} {a : AV} (hv : opA P o e h n = .val a) (g : H) (k : Nat) : opA P o e g k = .val a := by
  cases vo <;> simp only [VOp.light] at hl <;> try cases hl
  all_goals (cases o <;> simp only [cop] at hc <;> try cases hc)
  · simp only [Bool.and_eq_true] at hc
    have hu := intT_ok hc.1.2
    rename_i y
    revert hv
    simp only [opA, convA, hu]
    generalize rd e y = ra
    cases ra <;> first | exact fun h => h | (intro hh; cases hh)
  · simp only [Bool.and_eq_true] at hc
    have hu := isStrT_ok hc.1.2
    have hs := isStrT_ok hc.2
    rename_i y
    revert hv
    simp only [opA, convA, hu, hs]
    generalize rd e y = ra
    cases ra <;> first | exact fun h => h | (intro hh; cases hh)
  · simp only [Bool.and_eq_true] at hc
    have hu := isStrT_ok hc.1.2
    obtain ⟨kk, hs⟩ := isIntT_ok hc.2
    rename_i y
    revert hv
    simp only [opA, convA, hu, hs]
    generalize rd e y = ra
    cases ra <;> first | exact fun h => h | (intro hh; cases hh)
theorem call_w {vo : VOp} {o : Op} (hc : cop P vo o = true) (hl : vo.isCall = true) : clsOf o = .w ∧ isCallO o = true := by
  cases vo <;> simp only [VOp.isCall] at hl <;> try cases hl
  all_goals (cases o <;> simp only [cop] at hc <;> try cases hc)
  all_goals (rename_i c; obtain ⟨cal, xs, ts⟩ := c; cases cal <;> first | exact ⟨rfl, rfl⟩ | cases hc)
theorem extH_all {base ab : Nat} {b : H} {fs : List (Nat × AB)} {sel : Nat → Bool} (h : ∀ p ∈ fs, sel p.1 = true) : extH base ab sel b fs = extH base ab (fun _ => true) b fs := by
  induction fs with
  | nil => rfl
  | cons p fs ih =>
    simp only [extH, h p (.head _), ih fun q hq => h q (.tail _ hq)]
theorem extH_none {base ab : Nat} {b : H} {fs : List (Nat × AB)} {sel : Nat → Bool} (h : ∀ p ∈ fs, Nat.testBit ab p.1 = true) : extH base ab sel b fs = b := by
  induction fs with
  | nil => rfl
  | cons p fs ih =>
    simp only [extH, h p (.head _), ih fun q hq => h q (.tail _ hq)]
    rfl
end
theorem At.grow {w w' : Wd} {s s' : St} {e e' : Env} {h h' : H} {an an' an'' : Nat} (a : At w s e h an w' s' e' h' an') (hn : an' ≤ an'') : At w s e h an w' s' e' h' an'' :=
  ⟨a.hr.grow (Nat.le_refl _) hn, a.er.mono (.refl _) (fun t i hl hi => by
    obtain ⟨j, hj, h1, h2, h3⟩ := a.er.loc hl
    rw [hi] at hj; cases hj
    exact ⟨rfl, h1, Nat.lt_of_lt_of_le h2 hn, h3⟩), ⟨a.step.le, Nat.le_trans a.step.grow hn, a.step.keep, a.step.newr, a.step.newk, a.step.sub⟩⟩

section
variable {P : Program} {X : Ovr} {G : Gt}
theorem evDraw_step {cal : CallF} {all : Array Oper} {base : Nat} {o : Oper} {os : List Oper} {m : Nat} {ms : List Nat} {d d' : DState} (h : stepD P cal all base o m d = some d') : evDraw P cal all base (o :: os) (m :: ms) d = evDraw P cal all base os ms d' := by
  simp only [evDraw, h]
def topId : AV → Option Nat
  | .ptr b _ => some b
  | .sl b _ _ _ _ => some b
  | .map b => some b
  | _ => none
end
section
variable {P : Program}

def hop : Op → Option Operand
  | .load _ a => some a
  | .slice _ x _ _ _ => some x
  | .lookup _ x _ _ => some x
  | .call c => (match c.callee with | .builtin .len => c.args.toList.head? | _ => none)
  | _ => none

theorem r_loc {op : Op} (hc : clsOf op = .r) {e : Env} {h g : H} (hh : ∀ x, hop op = some x → ∀ q, topId (rd e x) = some q → h.get q = g.get q) (n : Nat) : opA P op e h n = opA P op e g n := by
  cases op <;> simp only [clsOf] at hc <;> try cases hc
  case convert s d x => cases hb : Nat.beq s d <;> rw [hb] at hc <;> cases hc
  case load t a =>
    have h1 := hh a rfl
    simp only [opA]
    congr 1
    unfold ld
    generalize rd e a = ra at h1
    cases ra <;> try rfl
    rename_i b o
    have := h1 b rfl
    simp only [ldCells, this]
  case slice t x lo hi mx =>
    have h1 := hh x rfl
    simp only [opA]
    unfold sliceA
    generalize rd e x = ra at h1
    cases ra with
    | ptr b o =>
      have := h1 b rfl
      cases P.underlying t with
      | none => rfl
      | some ty =>
        cases ty with
        | array n e =>
          simp only [this]
          have e1 : ∀ s lo hi, slice2 h b o n s (some n) lo hi = slice2 g b o n s (some n) lo hi := fun _ _ _ => rfl
          simp only [e1]
        | _ => rfl
    | sl b o l es cap =>
      have := h1 b rfl
      have e1 : ∀ s, capLo h b o s cap = capLo g b o s cap := fun s => by cases cap <;> simp only [capLo, this]
      cases P.underlying t with
      | none => rfl
      | some ty => cases ty <;> first | rfl | simp only [slice2, slice3, e1]
    | _ => cases P.underlying t with
      | none => rfl
      | some ty => cases ty <;> rfl
  case lookup t x i ok =>
    have h1 := hh x rfl
    simp only [opA]
    unfold lookA
    generalize rd e x = ra at h1
    cases ra with
    | map b =>
      have := h1 b rfl
      cases P.underlying t with
      | none => rfl
      | some ty => cases ty <;> first | rfl | simp only [this]
    | _ => cases P.underlying t with
      | none => rfl
      | some ty => cases ty <;> rfl
  case call c =>
    split at hc <;> first | cases hc | skip
    all_goals (rename_i hcal; simp only [opA, callA, hcal, builtinA])
    · cases hl : c.args.toList with
      | nil => rfl
      | cons x xs =>
        have h1 := hh x (by simp only [hop, hcal, hl, List.head?_cons])
        simp only [List.map_cons]
        cases c.argTypes.toList with
        | nil => rfl
        | cons t ts =>
          simp only [lenA]
          generalize rd e x = ra at h1
          cases ra with
          | map b =>
            have := h1 b rfl
            cases P.underlying t with
            | none => rfl
            | some ty => cases ty <;> first | rfl | simp only [this]
          | _ => cases P.underlying t with
            | none => rfl
            | some ty => cases ty <;> rfl
    all_goals (generalize List.map (rd e) c.args.toList = l; cases l <;> rfl)
theorem rdO_congr {e e' : Env} {x : Option Operand} (h : ∀ y, x = some y → rd e y = rd e' y) : Ev.rdO e x = Ev.rdO e' x := by
  cases x with
  | none => rfl
  | some y => simp only [Ev.rdO, Option.map, h y rfl]
theorem map_rd {e e' : Env} {l : List Operand} (h : ∀ x ∈ l, rd e x = rd e' x) : l.map (rd e) = l.map (rd e') := List.map_congr_left h
theorem opA_congr {op : Op} (hc : clsOf op = .p ∨ clsOf op = .r) {e e' : Env} (hh : ∀ x ∈ op.operands, rd e x = rd e' x) (h : H) (n : Nat) : opA P op e h n = opA P op e' h n := by
  cases op <;> simp only [clsOf, reduceCtorEq, or_false, false_or, or_self] at hc
  case convert s d x => cases hb : Nat.beq s d <;> rw [hb] at hc <;> simp at hc
  case build t ps =>
    simp only [opA]
    congr 2
    refine List.map_congr_left fun p hp => ?_
    rw [hh p.2 (by simp only [Op.operands]; simp; exact ⟨p.1, by simpa using hp⟩)]
  case makeFunc f fs cs =>
    simp only [opA]
    rw [map_rd fun x hx => hh x (by simp only [Op.operands]; simp; exact .inl (by simpa using hx)), map_rd fun x hx => hh x (by simp only [Op.operands]; simp; exact .inr (by simpa using hx))]
  case slice t x lo hi mx =>
    simp only [opA]
    rw [hh x (by simp [Op.operands]), rdO_congr fun y hy => hh y (by subst hy; simp [Op.operands]), rdO_congr fun y hy => hh y (by subst hy; simp [Op.operands]), rdO_congr fun y hy => hh y (by subst hy; simp [Op.operands])]
  case call c =>
    obtain ⟨cal, xs, ts⟩ := c
    have hm : ∀ (b : Builtin), cal = .builtin b → xs.toList.map (rd e) = xs.toList.map (rd e') := fun b hb => map_rd fun x hx => hh x (by subst hb; simp only [Op.operands, Call.operands]; simp; simpa using hx)
    simp only at hc
    split at hc <;> try (simp at hc; done)
    all_goals (rename_i b; simp only [opA, callA]; rw [hm _ rfl])
  all_goals (simp only [opA]; (repeat rw [hh _ (by simp [Op.operands])]))
theorem extH_low {base ab q : Nat} {b : H} {sel : Nat → Bool} {fs : List (Nat × AB)} (h : q < base) : (extH base ab sel b fs).get q = b.get q := by
  induction fs with
  | nil => rfl
  | cons p fs ih =>
    simp only [extH]
    cases hb : (!Nat.testBit ab p.1 && sel p.1) with
    | true => simp only [cond_true]; rw [Tr.get_set, if_neg (by omega), ih]
    | false => simp only [cond_false]; exact ih
theorem extH_at {base ab k : Nat} {b : H} {sel sel' : Nat → Bool} {fs : List (Nat × AB)} (h : sel k = sel' k) : (extH base ab sel b fs).get (base + k) = (extH base ab sel' b fs).get (base + k) := by
  induction fs with
  | nil => rfl
  | cons p fs ih =>
    simp only [extH]
    by_cases hk : p.1 = k
    · rw [hk, h]
      cases hb : (!Nat.testBit ab k && sel' k) with
      | true => simp only [cond_true]; rw [Tr.get_set, Tr.get_set, if_pos rfl, if_pos rfl]
      | false => simp only [cond_false]; exact ih
    · have e1 : ∀ s : Nat → Bool, (bif !Nat.testBit ab p.1 && s p.1 then (extH base ab s b fs).set (base + p.1) p.2 else extH base ab s b fs).get (base + k) = (extH base ab s b fs).get (base + k) := by
        intro s
        cases (!Nat.testBit ab p.1 && s p.1) with
        | true => simp only [cond_true]; rw [Tr.get_set, if_neg (by omega)]
        | false => rfl
      rw [e1, e1, ih]
theorem den_top {w : Wd} {v : V} {a : AV} (hd : Den w v a) {q : Nat} (ht : topId a = some q) : (∃ b, w.ρ b = some q) ∨ ∃ L, w.K q = some L := by
  cases hd <;> simp only [topId] at ht <;> cases ht
  · exact .inl ⟨_, by assumption⟩
  · exact .inl ⟨_, by assumption⟩
  · exact .inl ⟨_, by assumption⟩
  · exact .inr ⟨_, by assumption⟩
  · exact .inr ⟨_, by assumption⟩
theorem rigid_eq {w : Wd} {v : V} {a a' : AV} (hr : v.rigid = true) (hd : Den w v a) (hd' : Den w v a') : a = a' := by
  cases hd <;> first | (cases hr; done) | skip
  all_goals (cases hd'; first | rfl | (rename_i h1 _ h2; rw [h1] at h2; cases h2; rfl))
theorem optN_refl (c : Option Nat) : (match c, c with | none, none => true | some x, some y => Nat.beq x y | _, _ => false) = true := by
  cases c
  · rfl
  · exact beq_iff.2 rfl
theorem eqn_refl {w : Wd} : ∀ (n : Nat) (v : V) (a : AV), V.eqn n v = true → Den w v a → ∀ m, n ≤ m → eqAV m a a = true
  | 0, _, _, h, _, _, _ => by cases h
  | n + 1, v, a, h, hd, m, hm => by
    obtain ⟨m, rfl⟩ : ∃ k, m = k + 1 := ⟨m - 1, by omega⟩
    have hl : ∀ (l : List V) (k : List AV), l.all (V.eqn n) = true → Dens w l k → ((k.zip k).all fun p => eqAV m p.1 p.2) = true := by
      intro l
      induction l with
      | nil => intro k _ hk; cases hk; rfl
      | cons v l ih =>
        intro k hq hk
        cases hk with
        | cons v a l k h1 h2 =>
          simp only [List.all_cons, Bool.and_eq_true] at hq
          simp only [List.zip_cons_cons, List.all_cons, Bool.and_eq_true]
          exact ⟨eqn_refl n v a hq.1 h1 m (by omega), ih k hq.2 h2⟩
    have hb : ∀ k, Nat.beq k k = true := fun k => beq_iff.2 rfl
    cases hd <;> simp only [V.eqn, Bool.false_eq_true] at h <;> simp only [eqAV]
    all_goals first
      | (simp [hb]; done)
      | (simp [ieq_eq]; rename_i k n; cases k <;> rfl)
      | (simp [eqL_eq]; done)
      | (simp only [hb, Bool.and_self, Bool.true_and]; exact optN_refl _)
      | (simp only [hb, cond_true, Bool.true_and]; first | exact hl _ _ h (by assumption) | exact eqn_refl n _ _ h (by assumption) m (by omega))
end

def flatV : V → Bool
  | .bx _ => false
  | .it _ _ => false
  | .lp _ _ => false
  | _ => true
def Flat (env : VEnv) : Prop := ∀ t v, lk env t = some v → flatV v = true
section
variable {P : Program} {G : Gt} {call : WCall}
theorem Flat.noLoc {env : VEnv} (h : Flat env) (t : Nat) : ¬ Loc env t := fun ⟨v, h1, h2⟩ => by
  have := h t v h1
  cases v <;> first | (cases h2; done) | cases this
theorem Flat.rd {w : Wd} {e : Env} {h : H} {an : Nat} {env : VEnv} (hf : Flat env) (hg : GtOk G w) (er : ER w env e h an) {x : VX} {o : Operand} (hx : chkX x o = true) {v : V} (hv : rdV G env x = some v) : v = .lost ∨ Den w v (rd e o) := by
  have ht := rd_rel hg er hx hv
  have : flatV v = true := by
    cases x with
    | t n =>
      simp only [rdV] at hv
      cases hl : lk env n with
      | none => rw [hl] at hv; cases hv
      | some u =>
        rw [hl] at hv
        have := hf n u hl
        cases u <;> first | (cases hv; exact this) | cases this
    | c u =>
      cases hv
      cases o <;> simp only [chkX] at hx <;> try cases hx
      split at hx
      · have := eqVA_den (w := w) 5 _ _ hx
        cases this <;> rfl
      · cases hx
    | g k =>
      simp only [rdV] at hv
      split at hv <;> cases hv
      rfl
    | f g => cases hv; rfl
  cases v <;> first | (cases this; done) | exact .inl rfl | exact .inr ht
theorem rdK_ex {env : VEnv} {x : VX} {k : V → Prop} (h : rdK G env x k) : ∃ v, rdV G env x = some v ∧ k v := by
  unfold rdK at h
  split at h
  · exact ⟨_, by assumption, h⟩
  · exact h.elim

theorem hop_free {w : Wd} {s : St} {e : Env} {h : H} {an : Nat} (hg : GtOk G w) (hf : Flat s.env) (er : ER w s.env e h an) {vo : VOp} {o : Op} (hc : cop P vo o = true) {K : V → St → Prop} (hk : vcOp G call vo s K) :
    ∀ x, hop o = some x → ∀ q, topId (rd e x) = some q → ((∃ b, w.ρ b = some q) ∨ ∃ L, w.K q = some L) ∧ (calm G s.env vo = true → ∃ L, w.K q = some L) := by
  have key : ∀ {vx : VX} {x : Operand} {k : V → Prop}, chkX vx x = true → rdK G s.env vx k → (k .lost → False) → (∀ v, rdV G s.env vx = some v → calm G s.env vo = true → (∃ a b c, v = .sl a b c) ∨ (∃ a b, v = .fp a b) ∨ ∀ a, Den w v a → topId a = none) →
      ∀ q, topId (rd e x) = some q → ((∃ b, w.ρ b = some q) ∨ ∃ L, w.K q = some L) ∧ (calm G s.env vo = true → ∃ L, w.K q = some L) := by
    intro vx x k h1 h2 h3 h4 q hq
    obtain ⟨v, h5, h6⟩ := rdK_ex h2
    rcases hf.rd hg er h1 h5 with rfl | hd
    · exact (h3 h6).elim
    · refine ⟨den_top hd hq, fun hca => ?_⟩
      generalize rd e x = ra at hd hq
      rcases h4 v h5 hca with ⟨a, b, c, rfl⟩ | ⟨a, b, rfl⟩ | h7
      · cases hd <;> simp only [topId] at hq <;> cases hq
        exact ⟨_, by assumption⟩
      · cases hd; simp only [topId] at hq; cases hq
        exact ⟨_, by assumption⟩
      · rw [h7 _ hd] at hq; cases hq
  intro x hx q hq
  cases o <;> simp only [hop, Option.some.injEq, reduceCtorEq] at hx
  case load t a =>
    subst hx
    cases vo <;> simp only [cop] at hc <;> first | (cases hc; done) | skip
    simp only [Bool.and_eq_true] at hc
    refine key hc.1.1 hk (fun h => h) (fun v hv hca => ?_) q hq
    simp only [calm, hv] at hca
    split at hca
    · rename_i heq; cases heq; exact .inr (.inl ⟨_, _, rfl⟩)
    · cases hca
  case slice t y lo hi mx =>
    subst hx
    cases vo <;> simp only [cop] at hc <;> first | (cases hc; done) | skip
    · cases mx <;> simp only [Bool.and_eq_true] at hc <;> first | (cases hc; done) | skip
      refine key hc.1.1.2 hk (fun h => h) (fun v hv hca => ?_) q hq
      obtain ⟨v', h1, h2⟩ := rdK_ex hk
      rw [hv] at h1; cases h1
      cases v <;> first | exact h2.elim | (refine .inr (.inr fun a ha => ?_); cases ha; rfl)
    · simp only [Bool.and_eq_true] at hc
      refine key hc.1.1.1.1.2 hk (fun h => h) (fun v hv hca => ?_) q hq
      simp only [calm, hv] at hca
      split at hca
      · rename_i heq; cases heq; exact .inl ⟨_, _, _, rfl⟩
      · rename_i heq; cases heq; refine .inr (.inr fun a ha => ?_); cases ha; rfl
      · cases hca
    · cases mx <;> simp only [Bool.and_eq_true] at hc <;> first | (cases hc; done) | skip
      refine key hc.1.1.2 hk (fun h => h) (fun v hv hca => ?_) q hq
      cases hca
  case lookup => cases vo <;> simp only [cop] at hc <;> cases hc
  case call c =>
    obtain ⟨cal, xs, ts⟩ := c
    simp only at hx
    split at hx <;> first | (cases hx; done) | skip
    cases vo <;> simp only [cop] at hc <;> first | (cases hc; done) | skip
    all_goals (split at hc <;> first | (cases hc; done) | skip)
    all_goals (rename_i h1 h2; rw [h1] at hx; simp only [List.head?_cons, Option.some.injEq] at hx; subst hx; simp only [Bool.and_eq_true] at hc; obtain ⟨hc1, hc2⟩ := hc)
    · refine key hc1 hk (fun h => h) (fun v hv hca => ?_) q hq
      obtain ⟨v', h1, h2⟩ := rdK_ex hk
      rw [hv] at h1; cases h1
      cases v <;> first | exact h2.elim | (refine .inr (.inr fun a ha => ?_); cases ha; rfl)
    · refine key hc1 hk (fun h => h) (fun v hv hca => ?_) q hq
      simp only [calm, hv] at hca
      split at hca
      · rename_i heq; cases heq; exact .inl ⟨_, _, _, rfl⟩
      · rename_i heq; cases heq; refine .inr (.inr fun a ha => ?_); cases ha; rfl
      · cases hca
end
end Go.VL

namespace Go.VL
open Go.Ev

section
variable {P : Program} {X : Ovr} {G : Gt} {call : WCall}

theorem guard_ok {all : Array Oper} {v : VOper} {o : Oper} (h2 : chkG all v.guard o.guard = true) {w : Wd} {s : St} {e : Env} {h : H} {an : Nat} (er : ER w s.env e h an) {A B : St → Prop} (hk : guardK s v.guard A B) :
    ∃ s2, (s2 = s ∨ ∃ d c, lk s.env d = some (.bool c) ∧ s2 = ⟨(d, .bool c) :: s.env, s.vh, s.nx⟩) ∧ ((wantedA all e o.guard = some true ∧ A s2) ∨ (wantedA all e o.guard = some false ∧ B s2)) := by
  unfold guardK at hk
  split at hk
  · rename_i hgd
    rw [hgd] at h2
    have : o.guard = none := by cases hog : o.guard with | none => rfl | some q => rw [hog] at h2; cases h2
    exact ⟨s, .inl rfl, .inl ⟨by rw [this]; rfl, hk⟩⟩
  · rename_i dd b hgd
    rw [hgd] at h2
    cases hog : o.guard with
    | none => rw [hog] at h2; cases h2
    | some q =>
    obtain ⟨j, b'⟩ := q
    rw [hog] at h2
    simp only [chkG, Bool.and_eq_true, beq_iff_eq] at h2
    obtain ⟨rfl, h2⟩ := h2
    split at h2
    · rename_i oj hoj
      have hdj := optEq_ok h2
      have want : ∀ a, e.get dd = some a → wantedA all e (some (j, b)) = (match some a with | some (.bool c) => some (c == b) | some .junk => none | _ => some false) := fun a ha => by
        simp only [wantedA, hoj, hdj, ha]
        cases a <;> rfl
      split at hk
      · rename_i c hl
        obtain ⟨a, q1, q2⟩ := er.get hl rfl
        cases q2
        have hw : wantedA all e (some (j, b)) = some (c == b) := want _ q1
        refine ⟨⟨(dd, .bool c) :: s.env, s.vh, s.nx⟩, .inr ⟨dd, c, hl, rfl⟩, ?_⟩
        cases b with
        | true =>
          simp only [cond_true] at hk
          cases c with
          | true => exact .inl ⟨hw, hk.t rfl⟩
          | false => exact .inr ⟨hw, hk.f rfl⟩
        | false =>
          simp only [cond_false] at hk
          cases c with
          | true => exact .inr ⟨hw, hk.t rfl⟩
          | false => exact .inl ⟨hw, hk.f rfl⟩
      · rename_i l hl
        obtain ⟨a, q1, q2⟩ := er.get hl rfl
        cases q2
        exact ⟨s, .inl rfl, .inr ⟨want _ q1, hk⟩⟩
      · exact hk.elim
    · cases h2
theorem guard_at {w : Wd} {s s2 : St} {e : Env} {h : H} {an : Nat} (hr : HR w s.vh s.nx h an) (er : ER w s.env e h an) (h2 : s2 = s ∨ ∃ d c, lk s.env d = some (.bool c) ∧ s2 = ⟨(d, .bool c) :: s.env, s.vh, s.nx⟩) : At w s e h an w s2 e h an := by
  rcases h2 with rfl | ⟨d, c, hl, rfl⟩
  · exact ⟨hr, er, .refl fun i hi => .inl hi⟩
  · refine ⟨hr, er.again hl, .refl fun i hi => .inl (own_sub (fun t ht => ?_) (fun B C hb => ⟨C, hb⟩) i hi)⟩
    obtain ⟨v', r1, r2⟩ := ht
    rw [lk_cons] at r1
    split at r1
    · cases r1; cases r2
    · exact ⟨v', r1, r2⟩

structure EF (P : Program) (G : Gt) (rs : List Rec) (w : Wd) (h : H) (an : Nat) (j : Nat) (op : Op) (e : Env) (a : AV) (r : Rec) : Prop where
  fnd : recOf j rs = some r
  cop : cop P r.op op = true
  ncall : r.op.isCall = false
  cls : clsOf op = .p ∨ clsOf op = .r
  flat : Flat r.env
  er : ER w r.env e h an
  den : Den w r.v a
  eqn : r.v.eqn 8 = true
  val : opA P op e h 0 = .val a
  low : ∀ x, hop op = some x → ∀ q, topId (rd e x) = some q → q < an
  cal : calm G r.env r.op = true → ∀ x, hop op = some x → ∀ q, topId (rd e x) = some q → ∃ L, w.K q = some L
theorem Flat.er {w w' : Wd} {env : VEnv} {e : Env} {h h' : H} {an an' : Nat} (hf : Flat env) (er : ER w env e h an) (hw : w.le w') : ER w' env e h' an' :=
  er.mono hw fun t i hl _ => (hf.noLoc t hl).elim
theorem EF.mono {rs : List Rec} {w w' : Wd} {h : H} {an j : Nat} {op : Op} {e : Env} {a : AV} {r : Rec} (E : EF P G rs w h an j op e a r) (hw : w.le w') : EF P G rs w' h an j op e a r :=
  ⟨E.fnd, E.cop, E.ncall, E.cls, E.flat, E.flat.er E.er hw, E.den.mono hw, E.eqn, E.val, E.low, fun hc x hx q hq => let ⟨L, hL⟩ := E.cal hc x hx q hq; ⟨L, hw.K _ _ hL⟩⟩
inductive Early (all : Array Oper) (rs : List Rec) (E : Nat → Op → Env → AV → Rec → Prop) : List VOper → List Oper → Nat → Env → Prop where
  | nil (i : Nat) (e : Env) : Early all rs E [] [] i e
  | late (v : VOper) (o : Oper) (vs : List VOper) (os : List Oper) (i : Nat) (e : Env) (ck : List Nat) (ht : v.tg = .n ck) (h : Early all rs E vs os (i + 1) e) : Early all rs E (v :: vs) (o :: os) i e
  | no (v : VOper) (o : Oper) (vs : List VOper) (os : List Oper) (i : Nat) (e : Env) (ht : v.tg = .e) (hr : recOf i rs = none) (hw : wantedA all e o.guard = some false) (h : Early all rs E vs os (i + 1) (putA e o.dst undefA)) : Early all rs E (v :: vs) (o :: os) i e
  | yes (v : VOper) (o : Oper) (vs : List VOper) (os : List Oper) (i : Nat) (e : Env) (r : Rec) (a : AV) (ht : v.tg = .e) (hw : wantedA all e o.guard = some true) (hE : E i o.op e a r) (h : Early all rs E vs os (i + 1) (putA e o.dst a)) : Early all rs E (v :: vs) (o :: os) i e

theorem Flat.put {s : St} (hf : Flat s.env) {v : V} (hv : flatV v = true) (d : Option Nat) : Flat (put s d v).env := by
  cases d with
  | none => exact hf
  | some d =>
    intro t u hu
    have hu : lk (putV s.env d v) t = some u := hu
    rw [lk_putV] at hu
    split at hu
    · cases hu
      cases v <;> first | exact hv | cases hv
    · have : v.isLoc = false := by cases v <;> first | rfl | cases hv
      rw [this] at hu
      exact hf t u hu
theorem eqn_flat {n : Nat} {v : V} (h : V.eqn n v = true) : flatV v = true := by
  cases n with
  | zero => cases h
  | succ n => cases v <;> first | rfl | cases h
theorem eqn_den {n : Nat} {v : V} (h : V.eqn n v = true) {w : Wd} {env : VEnv} {e : Env} {g : H} {an : Nat} {a : AV} (hr : ResR w env e g an v a) : Den w v a := by
  cases n with
  | zero => cases h
  | succ n => cases v <;> first | exact hr | cases h
theorem ownB_own {w : Wd} {vh : VH} {env : VEnv} {e : Env} {i : Nat} (hf : Flat env) (h : own w vh env e i) : ownB w vh i := by
  rcases h with h | ⟨t, ht, _⟩
  · exact h
  · exact (hf.noLoc t ht).elim
theorem notCall {vo : VOp} {o : Op} (hc : cop P vo o = true) (hcl : clsOf o ≠ .w) : vo.isCall = false := by
  cases hcc : vo.isCall with
  | false => rfl
  | true => exact (hcl (call_w hc hcc).1).elim
theorem onlyV_val {nx : NX} (h : NX.onlyV nx = true) {w : Wd} {s : St} {e : Env} {hh : H} {an nid : Nat} {v : V} {s' : St} {a : AV} {h' : H} {an' : Nat} {w' : Wd} (r : OpRes w s e hh an nid nx v s' a h' an' w') : nx = .val a ∧ h' = hh ∧ an' = an := by
  rcases r.nx with q | ⟨q, _⟩ | ⟨q, _⟩
  · exact q
  · rw [q] at h; cases h
  · rw [q] at h; cases h
theorem pr_only {op : Op} (hc : clsOf op = .p ∨ clsOf op = .r) (e : Env) (h : H) (n : Nat) : NX.onlyV (opA P op e h n) = true := hc.elim (fun hc => p_only hc e h n) fun hc => r_only hc e h n
theorem pr_nid {op : Op} (hc : clsOf op = .p ∨ clsOf op = .r) {e : Env} {h : H} {n : Nat} {a : AV} (hv : opA P op e h n = .val a) (m : Nat) : opA P op e h m = .val a :=
  hc.elim (fun hc => by rw [cls_p hc e h h m n, hv]) fun hc => cls_r (.inl hc) (fun _ _ h => h) m hv
theorem early_ok {all : Array Oper} {em : Nat} : ∀ (vs : List VOper) (os : List Oper) (ms : List Nat) (i rm fm wm : Nat) (D : List Nat) (rt : List (Nat × Nat)), goodL all em vs os ms i rm fm wm D rt = true → chkOps P all vs os = true →
    ∀ {w : Wd} {s : St} {e : Env} {h : H} {an : Nat} {rs : List Rec}, GtOk G w → HR w s.vh s.nx h an → ER w s.env e h an → Flat s.env → (∀ j, i ≤ j → recOf j rs = none) →
    ∀ {K : St → List Rec → Prop}, earlyK G call vs i s rs K → ∃ s' rs' w', K s' rs' ∧ (∀ j, j < i → recOf j rs' = recOf j rs) ∧ HR w' s'.vh s'.nx h an ∧ Step w (ownB w s.vh) h an w' (ownB w' s'.vh) h an ∧ Early all rs' (EF P G rs' w' h an) vs os i e
  | [], [], _, i, _, _, _, _, _, _, _, w, s, e, h, an, rs, hg, hr, er, hf, hn, K, hk => ⟨s, rs, w, hk, fun _ _ => rfl, hr, .refl fun _ h => .inl h, .nil i e⟩
  | v :: vs, o :: os, m :: ms, i, rm, fm, wm, D, rt, hgood, hc, w, s, e, h, an, rs, hg, hr, er, hf, hn, K, hk => by
    simp only [chkOps, Bool.and_eq_true] at hc
    obtain ⟨⟨⟨h1, h2⟩, h3⟩, h4⟩ := hc
    have hdst := chkD_ok h1
    simp only [goodL, Bool.and_eq_true] at hgood
    obtain ⟨hm0, hgood⟩ := hgood
    simp only [earlyK] at hk
    cases htg : v.tg with
    | n ck =>
      rw [htg] at hk hgood
      have rest : ∃ rm fm wm D rt, goodL all em vs os ms (i + 1) rm fm wm D rt = true := by
        simp only [Bool.and_eq_true] at hgood
        split at hgood <;> try simp only [Bool.and_eq_true] at hgood
        · exact ⟨_, _, _, _, _, hgood.2⟩
        · exact ⟨_, _, _, _, _, hgood.2⟩
        · exact ⟨_, _, _, _, _, hgood.2⟩
        · exact ⟨_, _, _, _, _, hgood.2⟩
      obtain ⟨rm', fm', wm', D', rt', hgood⟩ := rest
      obtain ⟨s', rs', w', k1, k2, k3, k4, k5⟩ := early_ok vs os ms (i + 1) rm' fm' wm' D' rt' hgood h4 hg hr er hf (fun j hj => hn j (by omega)) hk
      exact ⟨s', rs', w', k1, fun j hj => k2 j (by omega), k3, k4, .late _ _ _ _ _ _ ck htg k5⟩
    | e =>
      rw [htg] at hk hgood
      simp only [Bool.and_eq_true, Bool.not_eq_true'] at hgood
      obtain ⟨⟨⟨⟨hcl, hgh⟩, hnc⟩, hap⟩, hgood⟩ := hgood
      have hcls : clsOf o.op = .p ∨ clsOf o.op = .r := by
        split at hcl
        · exact .inl (by assumption)
        · exact .inr (by assumption)
        · cases hcl
      obtain ⟨s2, hs2, hk⟩ := guard_ok h2 er hk
      have hat := guard_at hr er hs2
      have hf2 : Flat s2.env := by
        rcases hs2 with rfl | ⟨d, c, hl, rfl⟩
        · exact hf
        · intro t u hu
          rw [lk_cons] at hu
          split at hu
          · cases hu; rfl
          · exact hf t u hu
      have st2 : Step w (ownB w s.vh) h an w (ownB w s2.vh) h an := .refl fun i hi => by
        rcases hs2 with rfl | ⟨d, c, hl, rfl⟩ <;> exact .inl hi
      rcases hk with ⟨hw, hk⟩ | ⟨hw, hk⟩
      · obtain ⟨u, s3, a, h', an', w1, k1, k2⟩ := op_all hg hat.hr hat.er (free_an hat.hr hat.er) h3 hnc hk
        obtain ⟨q, e1, e2⟩ := onlyV_val (pr_only hcls e h an) k2
        subst e1
        subst e2
        cases heq : V.eqn 8 u with
        | false => rw [heq] at k1; exact k1.elim
        | true =>
        rw [heq] at k1
        simp only [cond_true] at k1
        have hd : Den w1 u a := eqn_den heq k2.res
        have er3 : ER w1 s2.env e h' an' := hf2.er hat.er k2.step.le
        have hu := eqn_flat heq
        have er4 : ER w1 (put ⟨s2.env, s3.vh, s3.nx⟩ v.dst u).env (putA e o.dst a) h' an' := by
          rw [hdst]
          cases o.dst with
          | none => exact er3
          | some d => exact er3.put (.of_tv (.of_den hd))
        have hv : (put ⟨s2.env, s3.vh, s3.nx⟩ v.dst u).vh = s3.vh ∧ (put ⟨s2.env, s3.vh, s3.nx⟩ v.dst u).nx = s3.nx := by cases v.dst <;> exact ⟨rfl, rfl⟩
        have st3 : Step w (ownB w s2.vh) h' an' w1 (ownB w1 s3.vh) h' an' := by
          refine ⟨k2.step.le, k2.step.grow, fun i hi ho => rfl, fun b i hb => ?_, fun i L hb => ?_, fun i hi => ?_⟩
          · rcases k2.step.newr b i hb with q | q | q | q
            · exact .inl q
            · exact .inr (.inl q)
            · exact .inr (.inr (ownB_own hf2 q))
            · exact .inr (.inl (by omega))
          · rcases k2.step.newk i L hb with q | q | q | q
            · exact .inl q
            · exact .inr (.inl q)
            · exact .inr (.inr (ownB_own hf2 q))
            · exact .inr (.inl (by omega))
          · rcases k2.step.sub i (.inl hi) with (q | q) | q
            · exact .inl (ownB_own hf2 q)
            · exact .inr (by omega)
            · exact .inr q
        obtain ⟨s', rs', w', g1, g2, g3, g4, g5⟩ := early_ok vs os ms (i + 1) _ _ _ _ _ hgood h4 (hg.mono k2.step.le) (by rw [hv.1, hv.2]; exact k2.hr) er4 (Flat.put (s := ⟨s2.env, s3.vh, s3.nx⟩) hf2 hu v.dst) (rs := ⟨i, s2.env, v.op, u⟩ :: rs) (fun j hj => by
            simp only [recOf]
            rw [beq_false.2 (by omega : i ≠ j)]
            exact hn j (by omega)) k1
        rw [hv.1] at g4
        have hE : EF P G rs' w' h' an' i o.op e a ⟨i, s2.env, v.op, u⟩ := by
          refine EF.mono (w := w1) ⟨?_, h3, hnc, hcls, hf2, er3, hd, heq, pr_nid hcls q 0, fun x hx q hq => ?_, fun hca x hx q hq => ?_⟩ g4.le
          · rw [g2 i (by omega)]
            simp only [recOf]
            rw [beq_iff.2 rfl]; rfl
          · rcases (hop_free hg hf2 hat.er h3 hk x hx q hq).1 with ⟨b, hb⟩ | ⟨L, hL⟩
            · exact (hr.lim b q hb).1
            · exact hr.limK q L hL
          · obtain ⟨L, hL⟩ := (hop_free hg hf2 hat.er h3 hk x hx q hq).2 hca
            exact ⟨L, k2.step.le.K _ _ hL⟩
        refine ⟨s', rs', w', g1, fun j hj => ?_, g3, (st2.trans st3).trans g4, .yes _ _ _ _ _ _ _ a htg hw hE g5⟩
        rw [g2 j (by omega)]
        simp only [recOf]
        rw [beq_false.2 (by omega : i ≠ j)]; rfl
      · have hud : Den w V.undef undefA := Den.tup _ _ .nil
        have er4 : ER w (put s2 v.dst V.undef).env (putA e o.dst undefA) h an := by
          rw [hdst]
          cases o.dst with
          | none => exact hat.er
          | some d => exact hat.er.put (.of_tv (.of_den hud))
        have hv : (put s2 v.dst V.undef).vh = s2.vh ∧ (put s2 v.dst V.undef).nx = s2.nx := by cases v.dst <;> exact ⟨rfl, rfl⟩
        obtain ⟨s', rs', w', g1, g2, g3, g4, g5⟩ := early_ok vs os ms (i + 1) _ _ _ _ _ hgood h4 hg (by rw [hv.1, hv.2]; exact hat.hr) er4 (hf2.put rfl v.dst) (fun j hj => hn j (by omega)) hk
        rw [hv.1] at g4
        exact ⟨s', rs', w', g1, fun j hj => g2 j (by omega), g3, st2.trans g4, .no _ _ _ _ _ _ htg (by rw [g2 i (by omega)]; exact hn i (by omega)) hw g5⟩
  | [], _ :: _, _, _, _, _, _, _, _, hgood, _, _, _, _, _, _, _, _, _, _, _, _, _, _ => by cases hgood
  | _ :: _, [], _, _, _, _, _, _, _, hgood, _, _, _, _, _, _, _, _, _, _, _, _, _, _ => by cases hgood
  | _ :: _, _ :: _, [], _, _, _, _, _, _, hgood, _, _, _, _, _, _, _, _, _, _, _, _, _, _ => by cases hgood

theorem dropLoc_lk {env : VEnv} {t : Nat} : lk (dropLoc env) t = (lk env t).map fun v => if flatV v = true then v else .lost := by
  induction env with
  | nil => rfl
  | cons p l ih =>
    simp only [dropLoc, lk_cons]
    split
    · cases p.2 <;> rfl
    · exact ih
theorem dropLoc_flat {env : VEnv} : Flat (dropLoc env) := by
  intro t v hv
  rw [dropLoc_lk] at hv
  cases hl : lk env t with
  | none => rw [hl] at hv; cases hv
  | some u =>
    rw [hl] at hv
    simp only [Option.map_some, Option.some.injEq] at hv
    subst hv
    split
    · assumption
    · rfl
theorem dropLoc_er {w : Wd} {env : VEnv} {e : Env} {h : H} {an : Nat} (er : ER w env e h an) : ER w (dropLoc env) e h an := by
  refine ⟨fun t v hv => ?_, fun t u i ht => (dropLoc_flat.noLoc t ht).elim⟩
  rw [dropLoc_lk] at hv
  cases hl : lk env t with
  | none => rw [hl] at hv; cases hv
  | some u =>
    rw [hl] at hv
    simp only [Option.map_some, Option.some.injEq] at hv
    subst hv
    have := er.slot t u hl
    cases u with
    | bx l => obtain ⟨i, _, _, h1, _⟩ := this; exact ⟨_, h1, trivial⟩
    | it r p => obtain ⟨i, h1, _⟩ := this; exact ⟨_, h1, trivial⟩
    | lp t o => obtain ⟨a, h1, _⟩ := this; exact ⟨a, h1, trivial⟩
    | lost => exact this
    | _ => obtain ⟨a, h1, h2⟩ := this; exact ⟨a, h1, h2⟩

theorem again_ok {rs : List Rec} {wE : Wd} {h0 : H} {base : Nat} {w : Wd} {s : St} {g : H} {an : Nat} (hg : GtOk G w) (hw : wE.le w) (hr : HR w s.vh s.nx g an) (hK : ∀ q L, wE.K q = some L → g.get q = h0.get q) :
    ∀ (js : List Nat) {A : Prop}, again G call rs s js A → A ∧ ∀ j op e a r, Nat.testBit (ckMask js) j = true → EF P G rs wE h0 base j op e a r → opA P op e g 0 = .val a
  | [], A, hk => ⟨hk, fun j _ _ _ _ hj => by simp [ckMask] at hj⟩
  | j :: js, A, hk => by
    have ins : ∀ {A : Prop}, again G call rs s js A → (∀ op e a r, EF P G rs wE h0 base j op e a r → opA P op e g 0 = .val a) → A ∧ ∀ k op e a r, Nat.testBit (ckMask (j :: js)) k = true → EF P G rs wE h0 base k op e a r → opA P op e g 0 = .val a := by
      intro A hk hj
      obtain ⟨k1, k2⟩ := again_ok hg hw hr hK js hk
      refine ⟨k1, fun k op e a r hb hE => ?_⟩
      simp only [ckMask, lor_bit, pow_bit, Bool.or_eq_true, decide_eq_true_eq] at hb
      rcases hb with rfl | hb
      · exact hj op e a r hE
      · exact k2 k op e a r hb hE
    simp only [again] at hk
    cases hrec : recOf j rs with
    | none =>
      rw [hrec] at hk
      simp only at hk
      exact ins hk fun op e a r hE => by rw [hE.fnd] at hrec; cases hrec
    | some r =>
      rw [hrec] at hk
      simp only at hk
      have pcase : ∀ {op e a r}, EF P G rs wE h0 base j op e a r → clsOf op = .p → opA P op e g 0 = .val a := fun hE hp => by rw [cls_p hp _ g h0 0 0, hE.val]
      cases hca : calm G r.env r.op with
      | true =>
        rw [hca] at hk
        refine ins hk fun op e a r' hE => ?_
        have := hE.fnd; rw [hrec] at this; cases this
        rcases hE.cls with hp | hq
        · exact pcase hE hp
        · rw [r_loc hq (g := h0) fun x hx q hq => ?_, hE.val]
          obtain ⟨L, hL⟩ := hE.cal hca x hx q hq
          exact hK q L hL
      | false =>
        rw [hca] at hk
        simp only [cond_false] at hk
        obtain ⟨⟨hrg, hv⟩, hk⟩ := hk
        refine ins hk fun op e a r' hE => ?_
        have := hE.fnd; rw [hrec] at this; cases this
        have er := hE.flat.er (h' := g) (an' := an) hE.er hw
        obtain ⟨u, s', a', h', an', w', k1, k2⟩ := op_all (s := ⟨r.env, s.vh, s.nx⟩) hg hr er (free_an (s := ⟨r.env, s.vh, s.nx⟩) hr er) hE.cop hE.ncall hv
        obtain ⟨q, e1, e2⟩ := onlyV_val (pr_only hE.cls e g an) k2
        subst k1
        have hd : Den w' r.v a' := eqn_den hE.eqn k2.res
        have : a = a' := rigid_eq hrg (hE.den.mono (hw.trans k2.step.le)) hd
        rw [pr_nid hE.cls q 0, this]
end
end Go.VL

namespace Go.VL
open Go.Ev

section
variable {P : Program} {X : Ovr} {G : Gt}
theorem own_not {w : Wd} {s : St} {e : Env} {k : Nat} (f : Free w s.env e k) : ¬ own w s.vh s.env e k := by
  rintro (⟨b, B, _, hb⟩ | ⟨t, ht, hi⟩)
  · exact f.id.ρ b hb
  · exact f.loc t ht hi
theorem Free.step {w w' : Wd} {s s' : St} {e e' : Env} {h h' : H} {an an' k : Nat} {N : Nat → Prop} (st : Step w (fun i => own w s.vh s.env e i ∨ N i) h an w' (own w' s'.vh s'.env e') h' an') (hk : ¬ N k) (hlt : k < an) (f : Free w s.env e k) : Free w' s'.env e' k := by
  have ho := own_not (s := s) f
  refine ⟨⟨fun b hb => ?_, ?_⟩, fun t ht hi => ?_⟩
  · rcases st.newr b k hb with q | q | q | q
    · exact f.id.ρ b q
    · omega
    · exact ho q
    · exact hk q
  · cases hL : w'.K k with
    | none => rfl
    | some L =>
      exfalso
      rcases st.newk k L hL with q | q | q | q
      · rw [f.id.K] at q; cases q
      · omega
      · exact ho q
      · exact hk q
  · rcases st.sub k (.inr ⟨t, ht, hi⟩) with (q | q) | q
    · exact ho q
    · exact hk q
    · omega
theorem Free.at {w w' : Wd} {s s' : St} {e e' : Env} {h h' : H} {an an' k : Nat} (a : At w s e h an w' s' e' h' an') (hlt : k < an) (f : Free w s.env e k) : Free w' s'.env e' k :=
  f.step (N := fun _ => False) (a.step.weak (fun i h => .inl h) (fun _ h => h)) (fun h => h) hlt

theorem keepK {w w' : Wd} {s : St} {e : Env} {h h' : H} {an an' : Nat} {o' N : Nat → Prop} (hr : HR w s.vh s.nx h an) (er : ER w s.env e h an) (st : Step w (fun i => own w s.vh s.env e i ∨ N i) h an w' o' h' an') (hN : ∀ q L, w.K q = some L → ¬ N q) {q : Nat} {L : List AV} (hK : w.K q = some L) : h'.get q = h.get q := by
  refine st.keep q (hr.limK q L hK) ?_
  rintro ((⟨b, B, hb, hi⟩ | ⟨t, ht, hi⟩) | hn)
  · obtain ⟨i, A, h1, _, _, h4⟩ := hr.blk b B hb
    rw [hi] at h1; cases h1
    rw [h4] at hK; cases hK
  · obtain ⟨i, h1, h2⟩ := er.loc ht
    rw [hi] at h1; cases h1
    rw [h2.1] at hK; cases hK
  · exact hN q L hK hn
theorem AtR.refl {R : Nat → Prop} {w : Wd} {s : St} {e : Env} {h : H} {an : Nat} (hr : HR w s.vh s.nx h an) (er : ER w s.env e h an) : AtR R w s e h an w s e h an := ⟨hr, er, .refl fun _ h => .inl h⟩

theorem memT_iff {t : Nat} {D : List Nat} : memT t D = true ↔ t ∈ D := by
  induction D with
  | nil => simp [memT]
  | cons a D ih =>
    simp only [memT, Bool.or_eq_true, List.mem_cons, ih, beq_iff]
    constructor
    · rintro (h | h)
      · exact .inl h.symm
      · exact .inr h
    · rintro (h | h)
      · exact .inl h.symm
      · exact .inr h
theorem agree_late {D : List Nat} {e ea : Env} (h : ∀ t, memT t D = false → e.get t = ea.get t) (d : Option Tmp) (a : AV) : ∀ t, memT t (addD d D) = false → (putA e d a).get t = ea.get t := by
  intro t ht
  cases d with
  | none => exact h t ht
  | some d =>
    simp only [addD, memT, Bool.or_eq_false_iff] at ht
    have : d ≠ t := beq_false.1 ht.1
    show (e.set d a).get t = _
    rw [Tr.get_set, if_neg (Ne.symm this)]
    exact h t ht.2
theorem agree_early {D : List Nat} {e ea : Env} (h : ∀ t, memT t D = false → e.get t = ea.get t) (d : Option Tmp) (a : AV) : ∀ t, memT t D = false → (putA e d a).get t = (putA ea d a).get t := by
  intro t ht
  cases d with
  | none => exact h t ht
  | some d =>
    show (e.set d a).get t = (ea.set d a).get t
    rw [Tr.get_set, Tr.get_set]
    split
    · rfl
    · exact h t ht
theorem rootOf_drop {d t k : Nat} : ∀ {rt : List (Nat × Nat)}, rootOf (dropRt d rt) t = some k → t ≠ d ∧ rootOf rt t = some k
  | [], h => by cases h
  | p :: l, h => by
    simp only [dropRt] at h
    cases hb : Nat.beq p.1 d with
    | true =>
      rw [hb] at h
      obtain ⟨h1, h2⟩ := rootOf_drop (rt := l) h
      refine ⟨h1, ?_⟩
      simp only [rootOf]
      rw [beq_iff.1 hb, beq_false.2 (Ne.symm h1)]
      exact h2
    | false =>
      rw [hb] at h
      simp only [cond_false, rootOf] at h ⊢
      cases hq : Nat.beq p.1 t with
      | true =>
        rw [hq] at h
        refine ⟨fun e => ?_, h⟩
        rw [← e, hq] at hb; cases hb
      | false =>
        rw [hq] at h
        exact rootOf_drop (rt := l) h
def Roots (base : Nat) (rt : List (Nat × Nat)) (e : Env) : Prop := ∀ t k, rootOf rt t = some k → ∀ a q, e.get t = some a → topId a = some q → q = base + k
theorem Roots.put {base : Nat} {rt : List (Nat × Nat)} {e : Env} (h : Roots base rt e) (d : Option Tmp) (a : AV) (r : Option Nat) (hr : ∀ k, r = some k → ∀ q, topId a = some q → q = base + k) : Roots base (putRt rt d r) (putA e d a) := by
  cases d with
  | none => exact h
  | some d =>
    intro t k ht b q hb hq
    have hb : (e.set d a).get t = some b := hb
    rw [Tr.get_set] at hb
    have drop : rootOf (dropRt d rt) t = some k → q = base + k := fun ht => by
      obtain ⟨h1, h2⟩ := rootOf_drop ht
      rw [if_neg h1] at hb
      exact h t k h2 b q hb hq
    cases r with
    | none => exact drop ht
    | some k' =>
      simp only [putRt, rootOf] at ht
      cases hdt : Nat.beq d t with
      | true =>
        rw [hdt] at ht
        cases ht
        have := beq_iff.1 hdt
        subst this
        rw [if_pos rfl] at hb; cases hb
        exact hr _ rfl q hq
      | false =>
        rw [hdt] at ht
        exact drop ht
theorem rootN_ok {op : Op} {base i : Nat} {rt : List (Nat × Nat)} {e : Env} (h : Roots base rt e) {g : H} {a : AV} (hv : (∃ g', opA P op e g (base + i) = .new a g') ∨ opA P op e g (base + i) = .val a) : ∀ k, rootN rt i op = some k → ∀ q, topId a = some q → q = base + k := by
  intro k hk q hq
  cases op <;> simp only [rootN] at hk <;> try cases hk
  case buildSlice t m ps =>
    revert hv
    simp only [opA, buildSl]
    repeat' (first | (rintro (⟨_, hh⟩ | hh) <;> cases hh <;> simp only [topId, Option.some.injEq] at hq <;> omega) | split | (simp only [cond_eq_ite]; split))
  case indexAddr t x j =>
    cases x <;> simp only at hk <;> try cases hk
    rename_i t'
    have hq' : ∀ b o, a = .ptr b o → topId (rd e (.tmp t')) = some b := by
      intro b o ha
      subst ha
      revert hv
      simp only [opA, indexAt]
      generalize rd e (.tmp t') = ra
      repeat' (first | (rintro (⟨_, hh⟩ | hh) <;> cases hh <;> rfl) | split | (simp only [cond_eq_ite]; split))
    have : ∃ b o, a = .ptr b o := by
      revert hv
      simp only [opA, indexAt]
      generalize rd e (.tmp t') = ra
      repeat' (first | (rintro (⟨_, hh⟩ | hh) <;> cases hh <;> exact ⟨_, _, rfl⟩) | split | (simp only [cond_eq_ite]; split))
    obtain ⟨b, o, rfl⟩ := this
    have h1 := hq' b o rfl
    simp only [topId, Option.some.injEq] at hq
    subst hq
    simp only [rd] at h1
    split at h1
    · rename_i v hv'
      exact h t' k hk v b hv' h1
    · cases h1
end
end Go.VL

namespace Go.VL
open Go.Ev

section
variable {P : Program} {X : Ovr} {G : Gt}
def fullH (base : Nat) (d : DState) : H := extH base d.pr.ab (fun _ => true) d.pr.b d.fs
structure DInv (P : Program) (E : Nat → Op → Env → AV → Rec → Prop) (wE : Wd) (h0 : H) (base T em i rm fm wm : Nat) (D : List Nat) (rt : List (Nat × Nat)) (ea : Env) (d : DState) : Prop where
  di : d.i = i
  nx : base + T ≤ d.pr.nx
  fs : ∀ p ∈ d.fs, Nat.testBit fm p.1 = true
  rs : ∀ r ∈ d.rs, Nat.testBit rm r.i = true ∨ (Nat.testBit em r.i = true ∧ ∃ e q, E r.i r.op e r.v q ∧ ∀ h n, opA P r.op r.env h n = opA P r.op e h n)
  lo : ∀ p ∈ d.pr :: d.old, p.lo = 0 ∨ Nat.testBit wm (p.lo - 1) = true
  old : d.old ≠ [] → d.pr.lo ≠ 0
  ab : ∀ j, Nat.testBit d.pr.ab j = true → j < i
  agree : ∀ t, memT t D = false → d.env.get t = ea.get t
  pend : ∀ j, i ≤ j → ∀ op e a r, E j op e a r → Nat.testBit em j = true → ∀ p ∈ d.pr :: d.old, opA P op e p.b 0 = .val a
  K : ∀ q L, wE.K q = some L → (fullH base d).get q = h0.get q
  root : Roots base rt d.env
theorem back_ok {base m : Nat} {fs : List (Nat × AB)} {op : Op} {env : Env} {a : AV} (hr : eqAV 10 a a = true) : ∀ (l : List PS) (lo : Nat), (∀ p ∈ l, opA P op env (extH base p.ab (Nat.testBit m) p.b fs) 0 = .val a) → chkBack P base m fs op env a lo l = true
  | [], _, _ => rfl
  | p :: l, lo, h => by
    simp only [chkBack, chk, h p (.head _), hr, back_ok hr l p.lo fun q hq => h q (.tail _ hq)]
    simp
theorem orL {a b j : Nat} (h : Nat.testBit a j = true) : Nat.testBit (Nat.lor a b) j = true := by rw [lor_bit, h]; rfl
theorem orR {a i : Nat} : Nat.testBit (Nat.lor a (Nat.pow 2 i)) i = true := by rw [lor_bit, pow_bit]; simp
theorem looks_congr {all : Array Oper} {D : List Nat} {o : Oper} {e ea : Env} (hap : apartE D all o = true) (h : ∀ t, memT t D = false → e.get t = ea.get t) : ∀ t ∈ looksA all o, e.get t = ea.get t := by
  intro t ht
  simp only [apartE, List.all_eq_true, Bool.not_eq_true'] at hap
  exact h t (hap t ht)
theorem draw_ok {all : Array Oper} {base T em : Nat} {rs : List Rec} {wE : Wd} {h0 : H} : ∀ (vs : List VOper) (os : List Oper) (ms : List Nat) (i rm fm wm : Nat) (D : List Nat) (rt : List (Nat × Nat)) (ea : Env), goodL all em vs os ms i rm fm wm D rt = true → chkOps P all vs os = true → i + os.length = T → Early all rs (EF P G rs wE h0 base) vs os i ea →
    ∀ {d : DState} {w : Wd} {s : St}, DInv P (EF P G rs wE h0 base) wE h0 base T em i rm fm wm D rt ea d → GtOk G w → wE.le w → HR w s.vh s.nx (fullH base d) d.pr.nx → ER w s.env d.env (fullH base d) d.pr.nx → (∀ k, i ≤ k → k < T → Free w s.env d.env (base + k)) →
    ∀ {K : St → Prop}, mainK G (WpCall P X G) rs vs i s K → ∃ s' e' h' an' w', K s' ∧ (∃ N, ∀ m, N ≤ m → evDraw P (evCall P X m) all base os ms d = .norm e' h' an') ∧ AtR (fun k => base ≤ k ∧ k < base + T) w s d.env (fullH base d) d.pr.nx w' s' e' h' an'
  | [], [], ms, i, rm, fm, wm, D, rt, ea, _, _, hT, _, d, w, s, I, hg, hwE, hr, er, hF, K, hk => ⟨s, d.env, fullH base d, d.pr.nx, w, hk, ⟨0, fun m _ => by cases ms <;> rfl⟩, .refl hr er⟩
  | v :: vs, o :: os, m :: ms, i, rm, fm, wm, D, rt, ea, hgood, hc, hT, hE, d, w, s, I, hg, hwE, hr, er, hF, K, hk => by
    simp only [chkOps, Bool.and_eq_true] at hc
    obtain ⟨⟨⟨h1, h2⟩, h3⟩, h4⟩ := hc
    have hdst := chkD_ok h1
    simp only [goodL, Bool.and_eq_true] at hgood
    obtain ⟨hm0, hgood⟩ := hgood
    have hm : m < 2 ^ i := blt_iff.1 hm0
    have hTlen : (i + 1) + os.length = T := by simp only [List.length_cons] at hT; omega
    have hiT : i < T := by omega
    have hdi := I.di
    -- what goes on behind
    have go : ∀ {rm' fm' wm' : Nat} {D' : List Nat} {rt' : List (Nat × Nat)} {ea' : Env} {d' : DState} {w2 : Wd} {s2 : St}, goodL all em vs os ms (i + 1) rm' fm' wm' D' rt' = true → Early all rs (EF P G rs wE h0 base) vs os (i + 1) ea' → DInv P (EF P G rs wE h0 base) wE h0 base T em (i + 1) rm' fm' wm' D' rt' ea' d' → AtR (fun k => base ≤ k ∧ k < base + T) w s d.env (fullH base d) d.pr.nx w2 s2 d'.env (fullH base d') d'.pr.nx →
        (∀ k, i + 1 ≤ k → k < T → Free w2 s2.env d'.env (base + k)) → mainK G (WpCall P X G) rs vs (i + 1) s2 K → (∃ N, ∀ k, N ≤ k → stepD P (evCall P X k) all base o m d = some d') →
        ∃ s' e' h' an' w', K s' ∧ (∃ N, ∀ k, N ≤ k → evDraw P (evCall P X k) all base (o :: os) (m :: ms) d = .norm e' h' an') ∧ AtR (fun k => base ≤ k ∧ k < base + T) w s d.env (fullH base d) d.pr.nx w' s' e' h' an' := by
      intro rm' fm' wm' D' rt' ea' d' w2 s2 hgd hE hI ha hfr hk hev
      obtain ⟨s', e', h', an', w', k1, ⟨N1, k2⟩, k3⟩ := draw_ok vs os ms (i + 1) rm' fm' wm' D' rt' ea' hgd h4 hTlen hE hI (hg.mono ha.step.le) (hwE.trans ha.step.le) ha.hr ha.er hfr hk
      obtain ⟨N2, k4⟩ := hev
      exact ⟨s', e', h', an', w', k1, ⟨max N1 N2, fun k hk => by rw [evDraw_step (k4 k (by omega)), k2 k (by omega)]⟩, ha.trans k3⟩
    -- an operation that leaves the blocks
    have keepI : ∀ {rm' fm' wm' : Nat} {D' : List Nat} {rt' : List (Nat × Nat)} {ea' : Env} {d' : DState}, d'.i = i + 1 → d'.pr = d.pr → d'.old = d.old → (∀ p ∈ d'.fs, Nat.testBit fm' p.1 = true) →
        (∀ r ∈ d'.rs, Nat.testBit rm' r.i = true ∨ (Nat.testBit em r.i = true ∧ ∃ e q, EF P G rs wE h0 base r.i r.op e r.v q ∧ ∀ h n, opA P r.op r.env h n = opA P r.op e h n)) → (∀ j, Nat.testBit wm j = true → Nat.testBit wm' j = true) →
        (∀ t, memT t D' = false → d'.env.get t = ea'.get t) → (∀ q L, wE.K q = some L → (fullH base d').get q = h0.get q) → Roots base rt' d'.env →
        DInv P (EF P G rs wE h0 base) wE h0 base T em (i + 1) rm' fm' wm' D' rt' ea' d' := by
      intro rm' fm' wm' D' rt' ea' d' e1 e3 e4 e2 e5 e6 e7 e8 e9
      refine ⟨e1, by rw [e3]; exact I.nx, e2, e5, fun p hp => ?_, by rw [e3, e4]; exact I.old, by rw [e3]; exact fun j hj => Nat.lt_succ_of_lt (I.ab j hj), e7, fun j hj op e a r hE hb p hp => ?_, e8, e9⟩
      · rw [e3, e4] at hp; exact (I.lo p hp).imp_right (e6 _)
      · rw [e3, e4] at hp; exact I.pend j (by omega) op e a r hE hb p hp
    have rsL : ∀ {rm' : Nat}, (∀ j, Nat.testBit rm j = true → Nat.testBit rm' j = true) → ∀ r ∈ d.rs, Nat.testBit rm' r.i = true ∨ (Nat.testBit em r.i = true ∧ ∃ e q, EF P G rs wE h0 base r.i r.op e r.v q ∧ ∀ h n, opA P r.op r.env h n = opA P r.op e h n) :=
      fun h r hr => (I.rs r hr).imp_left (h _)
    simp only [mainK] at hk
    cases htg : v.tg with
    | e =>
      rw [htg] at hk hgood
      simp only [Bool.and_eq_true, Bool.not_eq_true'] at hgood
      obtain ⟨⟨⟨⟨hcl, hgh⟩, hnc⟩, hap⟩, hgood⟩ := hgood
      have hlk := looks_congr hap I.agree
      have hwant := wantedA_congr hlk
      have hops := rd_congr hlk
      cases hE with
      | late _ _ _ _ _ _ ck ht => rw [htg] at ht; cases ht
      | no _ _ _ _ _ _ ht hrec hw hE =>
        rw [hrec] at hk
        rw [hw] at hwant
        let d' : DState := { d with i := d.i + 1, env := putA d.env o.dst undefA }
        have hat := put_undef hr er v.dst
        refine go (d' := d') (s2 := put s v.dst V.undef) (w2 := w) hgood hE (keepI (d' := d') (by show d.i + 1 = _; rw [hdi]) rfl rfl I.fs I.rs (fun _ h => h) (agree_early I.agree _ _) I.K (I.root.put _ _ _ nofun)) ?_ ?_ hk ⟨0, fun k _ => by simp only [stepD, hwant]; rfl⟩
        · rw [hdst] at hat ⊢; exact hat.toR
        · intro k hk1 hk2
          rw [hdst] at hat ⊢
          exact (hF k (by omega) hk2).at hat (by have := I.nx; omega)
      | yes _ _ _ _ _ _ r a ht hw hEF hE =>
        rw [hEF.fnd] at hk
        rw [hw] at hwant
        have hd := hEF.den.mono hwE
        have hcgr : ∀ h n, opA P o.op d.env h n = opA P o.op ea h n := fun h n => opA_congr hEF.cls hops h n
        have heq : eqAV 10 a a = true := eqn_refl 8 _ _ hEF.eqn hd 10 (by omega)
        have hat : At w s d.env (fullH base d) d.pr.nx w (put s v.dst r.v) (putA d.env o.dst a) (fullH base d) d.pr.nx := by
          rw [hdst.symm]
          exact put_ok (nx := .val a) (v := r.v) (s' := s) ⟨.inl ⟨rfl, rfl, rfl⟩, hr, er, .of_tv (.of_den hd), .refl fun _ h => .inl (.inl h), fun hv => (no_loc' hd hv).elim, fun _ _ h => h⟩ v.dst
        have hfr : ∀ k, i + 1 ≤ k → k < T → Free w (put s v.dst r.v).env (putA d.env o.dst a) (base + k) := fun k hk1 hk2 => (hF k (by omega) hk2).at hat (by have := I.nx; omega)
        rcases hEF.cls with hp | hq
        · let d' : DState := { d with i := d.i + 1, env := putA d.env o.dst a }
          refine go (d' := d') hgood hE (keepI (d' := d') (by show d.i + 1 = _; rw [hdi]) rfl rfl I.fs I.rs (fun _ h => h) (agree_early I.agree _ _) I.K (I.root.put _ _ _ nofun)) hat.toR hfr hk ⟨0, fun k _ => ?_⟩
          simp only [stepD, hwant, hp, hcgr]
          rw [cls_p hp ea .e h0 0 0, hEF.val]
        · rw [hq] at hcl
          have hcl : Nat.testBit em i = true := hcl
          have hval : ∀ p ∈ d.pr :: d.old, opA P o.op d.env (extH base p.ab (Nat.testBit m) p.b d.fs) 0 = .val a := fun p hp => by
            rw [hcgr, r_loc hq (g := p.b) fun x hx q hq => ?_]
            · exact I.pend i (Nat.le_refl _) _ _ _ _ hEF hcl p hp
            · exact extH_low (hEF.low x hx q hq)
          let d' : DState := { d with i := d.i + 1, env := putA d.env o.dst a, rs := ⟨d.i, o.op, d.env, a⟩ :: d.rs }
          refine go (d' := d') hgood hE (keepI (d' := d') (by show d.i + 1 = _; rw [hdi]) rfl rfl I.fs (fun r' hr' => ?_) (fun _ h => h) (agree_early I.agree _ _) I.K (I.root.put _ _ _ nofun)) hat.toR hfr hk ⟨0, fun k _ => ?_⟩
          · rcases List.mem_cons.1 hr' with rfl | hr'
            · exact .inr ⟨by show Nat.testBit em d.i = true; rw [hdi]; exact hcl, ea, r, by show EF P G rs wE h0 base d.i _ _ _ _; rw [hdi]; exact hEF, hcgr⟩
            · exact I.rs r' hr'
          · simp only [stepD, hwant, hq, readD, hval d.pr (.head _), back_ok heq d.old d.pr.lo fun p hp => hval p (.tail _ hp)]
            rfl
    | n ck =>
      rw [htg] at hk hgood
      have hE' : Early all rs (EF P G rs wE h0 base) vs os (i + 1) ea := by
        cases hE with
        | late _ _ _ _ _ _ ck ht h => exact h
        | no _ _ _ _ _ _ ht => rw [htg] at ht; cases ht
        | yes _ _ _ _ _ _ r a ht => rw [htg] at ht; cases ht
      obtain ⟨w1, s1, hk, g⟩ := ghs_ok v.gh hr er hk
      have a0 : At w s d.env (fullH base d) d.pr.nx w1 s1 d.env (fullH base d) d.pr.nx := ⟨g.hr, g.er, g.step⟩
      obtain ⟨s2, hs2, hk⟩ := guard_ok h2 g.er hk
      have ha := a0.trans (guard_at g.hr g.er hs2)
      have hg1 := hg.mono g.step.le
      have hle := I.nx
      have hF2 : ∀ k, i ≤ k → k < T → Free w1 s2.env d.env (base + k) := fun k hk1 hk2 => (hF k hk1 hk2).at ha (by omega)
      have hKw : ∀ q L, wE.K q = some L → w1.K q = some L := fun q L h => g.step.le.K _ _ (hwE.K _ _ h)
      rcases hk with ⟨hw, hk⟩ | ⟨hw, hk⟩
      · -- it is done
        have hFi := hF2 i (Nat.le_refl _) hiT
        have hpe : ∀ a, putA d.env v.dst a = putA d.env o.dst a := fun a => by rw [hdst]
        have plain : v.op.isCall = false → ∃ u s' a h' an' w', again G (WpCall P X G) rs s' ck (mainK G (WpCall P X G) rs vs (i + 1) (put s' v.dst u) K) ∧ OpRes w1 s2 d.env (fullH base d) d.pr.nx (base + i) (opA P o.op d.env (fullH base d) (base + i)) u s' a h' an' w' := fun hcall => op_all hg1 ha.hr ha.er hFi h3 hcall hk
        have fin : ∀ {nx : NX} {u : V} {s' : St} {a : AV} {h' : H} {an' : Nat} {w' : Wd}, OpRes w1 s2 d.env (fullH base d) d.pr.nx (base + i) nx u s' a h' an' w' →
            AtR (fun k => base ≤ k ∧ k < base + T) w s d.env (fullH base d) d.pr.nx w' (put s' v.dst u) (putA d.env o.dst a) h' an' ∧ (∀ k, i + 1 ≤ k → k < T → Free w' (put s' v.dst u).env (putA d.env o.dst a) (base + k)) ∧ (∀ q L, wE.K q = some L → h'.get q = h0.get q) ∧ an' = d.pr.nx := by
          intro nx u s' a h' an' w' r
          have han : an' = d.pr.nx := by
            rcases r.nx with ⟨_, _, q⟩ | ⟨_, q⟩ | ⟨_, q⟩
            · exact q
            · exact q
            · omega
          have hp := put_ok' r v.dst
          have hq := put_okR (R := fun k => base ≤ k ∧ k < base + T) r ⟨by omega, by omega⟩ v.dst
          rw [hpe] at hp hq
          refine ⟨(ha.toR).trans hq, fun k hk1 hk2 => ?_, fun q L hq => ?_, han⟩
          · exact Free.step (s := s2) (s' := put s' v.dst u) (an := d.pr.nx) (N := fun j => j = base + i) hp.2.2 (by omega) (by omega) (hF2 k (by omega) hk2)
          · rw [keepK ha.hr ha.er r.step (fun q L hq hn => by rw [hn, hFi.id.K] at hq; cases hq) (hKw q L hq)]
            exact I.K q L hq
        have hfs : ∀ a, subB (Nat.lor fm wm) a = true ∨ subB (Nat.lor rm (Nat.lor fm wm)) a = true → ∀ p ∈ d.fs, Nat.testBit a p.1 = true := by
          intro a hsub p hp
          have := I.fs p hp
          rcases hsub with hsub | hsub
          · exact subB_bit hsub (orL this)
          · exact subB_bit hsub (by rw [lor_bit, orL this]; simp)
        have hlo : ∀ a, subB wm a = true ∨ subB (Nat.lor fm wm) a = true ∨ subB (Nat.lor rm (Nat.lor fm wm)) a = true → ∀ p ∈ d.pr :: d.old, p.lo = 0 ∨ Nat.testBit a (p.lo - 1) = true := by
          intro a hsub p hp
          rcases I.lo p hp with h0 | h0
          · exact .inl h0
          · refine .inr ?_
            rcases hsub with hsub | hsub | hsub
            · exact subB_bit hsub h0
            · exact subB_bit hsub (by rw [lor_bit, h0]; simp)
            · exact subB_bit hsub (by rw [lor_bit, lor_bit, h0]; simp)
        have hback : ∀ (a : Nat) (op : Op) (x : AV), (d.old = [] ∨ ∀ p ∈ d.pr :: d.old, p.lo = 0 ∨ Nat.testBit a (p.lo - 1) = true) → chkBack P base a d.fs op d.env x d.pr.lo d.old = true := by
          intro a op x hh
          cases hold : d.old with
          | nil => rfl
          | cons p ps =>
            rcases hh with hh | hh
            · rw [hold] at hh; cases hh
            · simp only [chkBack]
              rcases hh d.pr (.head _) with h0 | h0
              · exact (I.old (by rw [hold]; exact nofun) h0).elim
              · rw [h0]; rfl
        have readOk : ∀ {a : AV}, opA P o.op d.env (extH base d.pr.ab (Nat.testBit m) d.pr.b d.fs) 0 = .val a → (d.old = [] ∨ ∀ p ∈ d.pr :: d.old, p.lo = 0 ∨ Nat.testBit m (p.lo - 1) = true) →
            readD P base o m d = some { d with i := d.i + 1, env := putA d.env o.dst a, rs := ⟨d.i, o.op, d.env, a⟩ :: d.rs } := by
          intro a hv hb
          simp only [readD, hv]
          rw [hback m o.op a hb]; rfl
        cases hcls : clsOf o.op with
        | p =>
          rw [hcls] at hgood
          simp only [Bool.and_eq_true] at hgood
          obtain ⟨hnck, hgood⟩ := hgood
          have hck : ck = [] := by cases ck <;> first | rfl | cases hnck
          subst hck
          obtain ⟨u, s', a, h', an', w', k1, k2⟩ := plain (notCall h3 (by rw [hcls]; exact nofun))
          obtain ⟨f1, f2, f3, f4⟩ := fin k2
          obtain ⟨q, e1, e2⟩ := onlyV_val (p_only hcls _ _ _) k2
          subst e1
          rw [f4] at f1
          let d' : DState := { d with i := d.i + 1, env := putA d.env o.dst a }
          exact go (d' := d') hgood hE' (keepI (d' := d') (by show d.i + 1 = _; rw [hdi]) rfl rfl I.fs I.rs (fun _ h => h) (agree_late I.agree _ _) I.K (I.root.put _ _ _ (rootN_ok I.root (.inr q)))) f1 f2 k1 ⟨0, fun k _ => by
            simp only [stepD, hw, hcls]
            rw [cls_p hcls d.env .e (fullH base d) 0 (base + i), q]⟩
        | r =>
          rw [hcls] at hgood
          simp only [Bool.and_eq_true, Bool.or_eq_true] at hgood
          obtain ⟨⟨hnck, hsub⟩, hgood⟩ := hgood
          have hck : ck = [] := by cases ck <;> first | rfl | cases hnck
          subst hck
          obtain ⟨u, s', a, h', an', w', k1, k2⟩ := plain (notCall h3 (by rw [hcls]; exact nofun))
          obtain ⟨f1, f2, f3, f4⟩ := fin k2
          obtain ⟨q, e1, e2⟩ := onlyV_val (r_only hcls _ _ _) k2
          subst e1
          rw [f4] at f1
          have hlo' : ∀ p ∈ d.pr :: d.old, p.lo = 0 ∨ Nat.testBit m (p.lo - 1) = true := hlo m (hsub.elim (fun h => .inr (.inl h)) fun h => .inl h.1)
          have hval : opA P o.op d.env (extH base d.pr.ab (Nat.testBit m) d.pr.b d.fs) 0 = .val a := by
            rcases hsub with hsub | ⟨_, hsub⟩
            · rw [extH_all (hfs m (.inl hsub))]
              exact pr_nid (.inr hcls) q 0
            · rw [r_loc hcls (g := fullH base d) fun x hx q hq => ?_]
              · exact pr_nid (.inr hcls) q 0
              · generalize o.op = oo at hsub hx
                cases oo <;> simp only [rootLd] at hsub <;> try cases hsub
                rename_i y
                cases y <;> simp only at hsub <;> try cases hsub
                rename_i t
                cases hx
                split at hsub
                · rename_i k hk
                  simp only [rd] at hq
                  split at hq
                  · rename_i b hb
                    rw [I.root t k hk b q hb hq]
                    exact extH_at hsub
                  · cases hq
                · cases hsub
          let d' : DState := { d with i := d.i + 1, env := putA d.env o.dst a, rs := ⟨d.i, o.op, d.env, a⟩ :: d.rs }
          refine go (d' := d') hgood hE' (keepI (d' := d') (by show d.i + 1 = _; rw [hdi]) rfl rfl I.fs (fun r hr => ?_) (fun _ h => h) (agree_late I.agree _ _) I.K (I.root.put _ _ _ nofun)) f1 f2 k1 ⟨0, fun k _ => by
            simp only [stepD, hw, hcls]
            exact readOk hval (.inr hlo')⟩
          rcases List.mem_cons.1 hr with rfl | hr
          · refine .inl ?_; show Nat.testBit _ d.i = true; rw [hdi]; exact orR
          · exact rsL (fun _ h => orL h) r hr
        | f =>
          rw [hcls] at hgood
          simp only [Bool.and_eq_true] at hgood
          obtain ⟨⟨hnck, hconv⟩, hgood⟩ := hgood
          have hck : ck = [] := by cases ck <;> first | rfl | cases hnck
          subst hck
          obtain ⟨u, s', a, h', an', w', k1, k2⟩ := plain (notCall h3 (by rw [hcls]; exact nofun))
          obtain ⟨f1, f2, f3, f4⟩ := fin k2
          rw [f4] at f1
          rcases k2.nx with ⟨q, e1, e2⟩ | ⟨q, e2⟩ | ⟨q, e2⟩
          · -- a conversion that answers a value
            subst e1
            have hic : isConv o.op = true := by
              cases hic : isConv o.op with
              | true => rfl
              | false => exact (f_conv hcls hic q).elim
            rw [hic] at hconv hgood
            simp only [cond_true] at hconv hgood
            let d' : DState := { d with i := d.i + 1, env := putA d.env o.dst a, rs := ⟨d.i, o.op, d.env, a⟩ :: d.rs }
            have hs : ∃ N, ∀ k, N ≤ k → stepD P (evCall P X k) all base o m d = some d' := ⟨0, fun k _ => by
              have hrd : readD P base o m d = some d' := by
                cases hlt : v.op.light with
                | true =>
                  rw [hlt] at hconv
                  simp only [cond_true] at hconv
                  have hwm := beq_iff.1 hconv
                  refine readOk (light_any h3 hlt q _ _) (.inl ?_)
                  cases hold : d.old with
                  | nil => rfl
                  | cons p ps =>
                    exfalso
                    have := I.old (by rw [hold]; exact nofun)
                    rcases I.lo d.pr (.head _) with h0 | h0
                    · exact this h0
                    · rw [hwm, Nat.zero_testBit] at h0; cases h0
                | false =>
                  rw [hlt] at hconv
                  simp only [cond_false] at hconv
                  have hex : extH base d.pr.ab (Nat.testBit m) d.pr.b d.fs = fullH base d := extH_all (hfs m (.inl hconv))
                  exact readOk (by rw [hex]; exact cls_r (.inr hcls) (fun _ _ h => h) 0 q) (.inr (hlo m (.inr (.inl hconv))))
              simp only [stepD, hw, hcls]
              cases hne : opA P o.op d.env .e (base + d.i) with
              | new b hb =>
                obtain ⟨B, _, h2⟩ := f_ind hcls hne
                rw [hdi] at h2
                rw [h2 (fullH base d)] at q
                cases q
              | _ => exact hrd⟩
            refine go (d' := d') hgood hE' (keepI (d' := d') (by show d.i + 1 = _; rw [hdi]) rfl rfl (fun p hp => orL (I.fs p hp)) (fun r hr => ?_) (fun _ h => h) (agree_late I.agree _ _) I.K (I.root.put _ _ _ (rootN_ok I.root (.inr q)))) f1 f2 k1 hs
            rcases List.mem_cons.1 hr with rfl | hr
            · refine .inl ?_; show Nat.testBit _ d.i = true; rw [hdi]; exact orR
            · exact rsL (fun _ h => orL h) r hr
          · exact (f_upd hcls q).elim
          · obtain ⟨B, hB, h2⟩ := f_ind hcls q
            let d' : DState := { d with i := d.i + 1, env := putA d.env o.dst a, fs := (d.i, B) :: d.fs }
            have hs : ∃ N, ∀ k, N ≤ k → stepD P (evCall P X k) all base o m d = some d' := ⟨0, fun k _ => by
              simp only [stepD, hw, hcls]
              have h3 := h2 .e
              rw [← hdi] at h3
              rw [h3]
              simp only [Tr.get_set, if_true]
              rfl⟩
            have hfull : fullH base d' = h' := by
              show extH base d.pr.ab (fun _ => true) d.pr.b ((d.i, B) :: d.fs) = h'
              simp only [extH]
              have : Nat.testBit d.pr.ab d.i = false := by
                cases hb : Nat.testBit d.pr.ab d.i with
                | false => rfl
                | true => have := I.ab _ hb; omega
              rw [this, hB, hdi]
              rfl
            rw [← hfull] at f1
            refine go (d' := d') hgood hE' (keepI (d' := d') (by show d.i + 1 = _; rw [hdi]) rfl rfl (fun p hp => ?_) (rsL fun j h => ?_) (fun _ h => h) (agree_late I.agree _ _) (by rw [hfull]; exact f3) (I.root.put _ _ _ (rootN_ok I.root (.inl ⟨_, q⟩)))) f1 f2 k1 hs
            · rcases List.mem_cons.1 hp with rfl | hp
              · show Nat.testBit _ d.i = true; rw [hdi]; exact orR
              · exact orL (I.fs p hp)
            · cases isConv o.op
              · exact h
              · exact orL h
        | w =>
          rw [hcls] at hgood
          simp only [Bool.and_eq_true] at hgood
          obtain ⟨⟨hsub, hem⟩, hgood⟩ := hgood
          have hex : extH base d.pr.ab (Nat.testBit m) d.pr.b d.fs = fullH base d := extH_all (hfs m (.inr hsub))
          have hall : (d.pr :: d.old).all (fun p => Nat.beq p.lo 0 || Nat.testBit m (p.lo - 1)) = true := by
            rw [List.all_eq_true]
            intro p hp
            rcases hlo m (.inr (.inr hsub)) p hp with h0 | h0
            · rw [h0]; rfl
            · rw [h0, Bool.or_true]
          have sD : ∀ {r : Option DState} {cal : CallF}, (match opA P o.op d.env (fullH base d) (base + i) with
              | .val v => wroteD P o m d v (fullH base d) d.pr.nx
              | .upd v h => wroteD P o m d v h d.pr.nx
              | .new v h => wroteD P o m d v h d.pr.nx
              | .call f args => (match cal f args (fullH base d) d.pr.nx with
                | .ok v h nx => wroteD P o m d v h nx
                | .bad => none)
              | .bad => none) = r → stepD P cal all base o m d = r := by
            intro r cal hrr
            rw [← hrr]
            simp only [stepD, hw, hcls, writeD, hall, cond_true, hex, hdi]
            cases opA P o.op d.env (fullH base d) (base + i) <;> rfl
          -- how it ends
          have wend : ∀ {a : AV} {hh : H} {n : Nat} {w2 : Wd} {s' : St} {u : V}, again G (WpCall P X G) rs s' ck (mainK G (WpCall P X G) rs vs (i + 1) (put s' v.dst u) K) → HR w2 s'.vh s'.nx hh n → d.pr.nx ≤ n → (∀ q L, wE.K q = some L → hh.get q = h0.get q) →
              AtR (fun k => base ≤ k ∧ k < base + T) w s d.env (fullH base d) d.pr.nx w2 (put s' v.dst u) (putA d.env o.dst a) hh n → (∀ k, i + 1 ≤ k → k < T → Free w2 (put s' v.dst u).env (putA d.env o.dst a) (base + k)) →
              (∃ N, ∀ k, N ≤ k → stepD P (evCall P X k) all base o m d = wroteD P o m d a hh n) →
              ∃ s' e' h' an' w', K s' ∧ (∃ N, ∀ k, N ≤ k → evDraw P (evCall P X k) all base (o :: os) (m :: ms) d = .norm e' h' an') ∧ AtR (fun k => base ≤ k ∧ k < base + T) w s d.env (fullH base d) d.pr.nx w' s' e' h' an' := by
            intro a hh n w2 s' u hag hr2 hn hK2 hat hfr hst
            obtain ⟨hk2, hags⟩ := again_ok (hg.mono hat.step.le) (hwE.trans hat.step.le) hr2 hK2 ck hag
            have hrs : d.rs.all (fun r => Nat.testBit m r.i || chk P r.op r.env r.v hh) = true := by
              rw [List.all_eq_true]
              intro r hr
              rcases I.rs r hr with h1 | ⟨h1, e, q, h2, h3⟩
              · rw [subB_bit hsub (orL h1)]; rfl
              · have h4 := subB_bit hem h1
                rw [lor_bit] at h4
                simp only [Bool.or_eq_true] at h4
                rcases h4 with h4 | h4
                · rw [h4]; rfl
                · have h5 := hags _ _ _ _ _ h4 h2
                  have h6 : chk P r.op r.env r.v hh = true := by
                    simp only [chk, h3, h5]
                    exact eqn_refl 8 _ _ h2.eqn h2.den 10 (by omega)
                  rw [h6, Bool.or_true]
            let d' : DState := { i := d.i + 1, env := putA d.env o.dst a, fs := d.fs, pr := ⟨d.i + 1, Nat.lor (Nat.lor d.pr.ab m) (Nat.pow 2 d.i), hh, n⟩, old := d.pr :: d.old, rs := d.rs }
            have hwr : wroteD P o m d a hh n = some d' := by
              simp only [wroteD, hrs, cond_true]; rfl
            have hful : fullH base d' = hh := by
              refine extH_none fun p hp => ?_
              show Nat.testBit (Nat.lor (Nat.lor d.pr.ab m) (Nat.pow 2 d.i)) p.1 = true
              refine orL ?_
              rw [lor_bit, hfs m (.inr hsub) p hp, Bool.or_true]
            have hI : DInv P (EF P G rs wE h0 base) wE h0 base T em (i + 1) rm fm (Nat.lor wm (Nat.pow 2 i)) (addD o.dst D) (putRt rt o.dst none) ea d' := by
              refine ⟨by show d.i + 1 = _; rw [hdi], by show base + T ≤ n; omega, I.fs, I.rs, fun p hp => ?_, fun _ => nofun, fun j hj => ?_, agree_late I.agree _ _, fun j hj op e a r hE hb p hp => ?_, by rw [hful]; exact hK2, I.root.put _ _ _ nofun⟩
              · rcases List.mem_cons.1 hp with rfl | hp
                · refine .inr ?_
                  show Nat.testBit _ (d.i + 1 - 1) = true
                  rw [hdi]; exact orR
                · exact (I.lo p hp).imp_right orL
              · have hj : Nat.testBit (Nat.lor (Nat.lor d.pr.ab m) (Nat.pow 2 d.i)) j = true := hj
                rw [lor_bit, lor_bit, pow_bit] at hj
                simp only [Bool.or_eq_true, decide_eq_true_eq] at hj
                rcases hj with (hj | hj) | hj
                · exact Nat.lt_succ_of_lt (I.ab j hj)
                · exact Nat.lt_succ_of_lt (lt_bit hm hj)
                · omega
              · rcases List.mem_cons.1 hp with rfl | hp
                · have h4 := subB_bit hem hb
                  rw [lor_bit] at h4
                  simp only [Bool.or_eq_true] at h4
                  rcases h4 with h4 | h4
                  · have := lt_bit hm h4; omega
                  · exact hags _ _ _ _ _ h4 hE
                · exact I.pend j (by omega) op e a r hE hb p hp
            rw [← hful] at hat
            obtain ⟨N, hst⟩ := hst
            exact go (d' := d') hgood hE' hI hat hfr hk2 ⟨N, fun k hk => by rw [hst k hk, hwr]⟩
          cases hcl : v.op.isCall with
          | false =>
            obtain ⟨u, s', a, h', an', w', k1, k2⟩ := plain hcl
            obtain ⟨f1, f2, f3, f4⟩ := fin k2
            rw [f4] at f1
            have hr2 := k2.hr
            rw [f4] at hr2
            refine wend k1 hr2 (Nat.le_refl _) f3 f1 f2 ⟨0, fun k _ => ?_⟩
            rcases k2.nx with ⟨q, e1, e2⟩ | ⟨q, e2⟩ | ⟨q, e2⟩
            · subst e1; exact sD (by rw [q])
            · exact sD (by rw [q])
            · exact sD (by rw [q])
          | true =>
            have called : ∀ {gf : FuncId} {wsv : List V} {us : List AV}, WpCall P X G gf wsv s2.vh s2.nx (fun u vh nx => again G (WpCall P X G) rs ⟨s2.env, vh, nx⟩ ck (mainK G (WpCall P X G) rs vs (i + 1) (put ⟨s2.env, vh, nx⟩ v.dst u) K)) → Dens w1 wsv us → (∀ n, opA P o.op d.env (fullH base d) n = .call gf us) →
                ∃ s' e' h' an' w', K s' ∧ (∃ N, ∀ k, N ≤ k → evDraw P (evCall P X k) all base (o :: os) (m :: ms) d = .norm e' h' an') ∧ AtR (fun k => base ≤ k ∧ k < base + T) w s d.env (fullH base d) d.pr.nx w' s' e' h' an' := by
              intro gf wsv us hcl2 hd hop
              obtain ⟨u, vh', vn', a, h', an', w', k1, ⟨N, k2⟩, k3, k4, k5⟩ := hcl2.out w1 (fullH base d) d.pr.nx us hg1 ha.hr hd
              have hat := call_step ha.er k3 k5 k4 v.dst
              rw [hpe] at hat
              have k5' : Step w1 (fun i => own w1 s2.vh s2.env d.env i ∨ False) (fullH base d) d.pr.nx w' (ownB w' vh') h' an' := k5.weak (fun i h => .inl (.inl h)) (fun _ h => h)
              refine wend (s' := ⟨s2.env, vh', vn'⟩) (u := u) k1 k3 k5.grow (fun q L hq => ?_) (ha.trans hat).toR (fun k hk1 hk2 => (hF2 k (by omega) hk2).at hat (by omega)) ⟨N, fun k hk => sD (by rw [hop]; simp only [k2 k hk])⟩
              rw [keepK (N := fun _ => False) ha.hr ha.er k5' (fun _ _ _ h => h) (hKw q L hq)]
              exact I.K q L hq
            cases hvo : v.op with
            | call gf xs =>
              rw [hvo] at hk h3
              generalize hoo : o.op = oo at h3
              unfold cop at h3
              split at h3 <;> first | (rename_i heq; cases heq; done) | skip
              all_goals first
                | (rename_i heq
                   cases heq
                   simp only [Bool.and_eq_true, beq_iff] at h3
                   obtain ⟨rfl, h3⟩ := h3
                   obtain ⟨ws, q1, _, q2⟩ := rdsF_rel hg1 ha.er h3 hk
                   refine called q1 q2 fun n => ?_
                   rw [hoo]
                   simp only [opA, callA, rd, app_eq, List.append_nil, List.nil_append]
                   done)
                | cases h3
            | callv x xs =>
              rw [hvo] at hk h3
              generalize hoo : o.op = oo at h3
              unfold cop at h3
              split at h3 <;> first | (rename_i heq; cases heq; done) | skip
              all_goals first
                | (rename_i heq
                   cases heq
                   simp only [Bool.and_eq_true] at h3
                   obtain ⟨h30, h31⟩ := h3
                   obtain ⟨fv, q0, q3⟩ := rdK_rel hg1 ha.er h30 hk
                   rename_i yy ys tys
                   generalize hrd : rd d.env yy = ra at q3
                   split at q0
                   · cases q3 with
                     | func g f c f' c' hf hcc =>
                       obtain ⟨ws, q1, _, q2⟩ := rdsF_rel hg1 ha.er h31 q0
                       refine called q1 ((hf.app q2).app hcc) fun n => ?_
                       rw [hoo]
                       simp only [opA, callA, hrd, app_eq, List.append_assoc]
                   · exact q0.elim
                   done)
                | cases h3
            | _ => rw [hvo] at hcl; cases hcl
      · -- it is not done
        let d' : DState := { d with i := d.i + 1, env := putA d.env o.dst undefA }
        have hs : ∃ N, ∀ k, N ≤ k → stepD P (evCall P X k) all base o m d = some d' := ⟨0, fun k _ => by simp only [stepD, hw]; rfl⟩
        have hat : At w s d.env (fullH base d) d.pr.nx w1 (put s2 v.dst V.undef) d'.env (fullH base d') d.pr.nx := by
          have := ha.trans (put_undef ha.hr ha.er v.dst)
          rw [hdst] at this ⊢
          exact this
        have hfr : ∀ k, i + 1 ≤ k → k < T → Free w1 (put s2 v.dst V.undef).env d'.env (base + k) := fun k hk1 hk2 => (hF k (by omega) hk2).at hat (by omega)
        have hroot : ∀ r, (∀ k, r = some k → ∀ q, topId undefA = some q → q = base + k) := fun r k _ q hq => by cases hq
        simp only [Bool.and_eq_true] at hgood
        split at hgood
        all_goals try simp only [Bool.and_eq_true] at hgood
        · exact go hgood.2 hE' (keepI (d' := d') (by show d.i + 1 = _; rw [hdi]) rfl rfl I.fs I.rs (fun _ h => h) (agree_late I.agree _ _) I.K (I.root.put _ _ _ (hroot _))) hat.toR hfr hk hs
        · exact go hgood.2 hE' (keepI (d' := d') (by show d.i + 1 = _; rw [hdi]) rfl rfl I.fs (rsL fun _ h => orL h) (fun _ h => h) (agree_late I.agree _ _) I.K (I.root.put _ _ _ (hroot _))) hat.toR hfr hk hs
        · refine go hgood.2 hE' (keepI (d' := d') (by show d.i + 1 = _; rw [hdi]) rfl rfl (fun p hp => orL (I.fs p hp)) (rsL fun j h => ?_) (fun _ h => h) (agree_late I.agree _ _) I.K (I.root.put _ _ _ (hroot _))) hat.toR hfr hk hs
          cases isConv o.op
          · exact h
          · exact orL h
        · exact go hgood.2 hE' (keepI (d' := d') (by show d.i + 1 = _; rw [hdi]) rfl rfl I.fs I.rs (fun _ h => orL h) (agree_late I.agree _ _) I.K (I.root.put _ _ _ (hroot _))) hat.toR hfr hk hs
  | [], _ :: _, _, _, _, _, _, _, _, _, hgood, _, _, _, _, _, _, _, _, _, _, _, _, _, _ => by cases hgood
  | _ :: _, [], _, _, _, _, _, _, _, _, hgood, _, _, _, _, _, _, _, _, _, _, _, _, _, _ => by cases hgood
  | _ :: _, _ :: _, [], _, _, _, _, _, _, _, hgood, _, _, _, _, _, _, _, _, _, _, _, _, _, _ => by cases hgood
theorem free_ge {w : Wd} {s : St} {e : Env} {h : H} {an : Nat} (hr : HR w s.vh s.nx h an) (er : ER w s.env e h an) {k : Nat} (hk : an ≤ k) : Free w s.env e k := by
  refine ⟨⟨fun b hb => by have := (hr.lim _ _ hb).1; omega, ?_⟩, fun t hl hg => ?_⟩
  · cases hL : w.K k with
    | none => rfl
    | some L => have := hr.limK _ _ hL; omega
  · obtain ⟨i, hi, h1⟩ := er.loc hl
    rw [hg] at hi; cases hi; have := h1.2.1; omega
theorem draw_run {vs : List VOper} {os : Array Oper} (hgd : goodDraw P vs os = true) (hc : chkOps P os vs os.toList = true) {w : Wd} {s : St} {e : Env} {h : H} {an : Nat} (hg : GtOk G w) (hr : HR w s.vh s.nx h an) (er : ER w s.env e h an)
    {K : St → Prop} (hk : vcD G (WpCall P X G) vs s K) (i : Nat) : ∃ s' e' h' an' w', K s' ∧ (∃ N, ∀ n m, N ≤ n → N ≤ m → evC P (evCall P X m) n (.region i os true) e h an = .norm e' h' an') ∧ At w s e h an w' s' e' h' an' := by
  simp only [goodDraw, Bool.and_eq_true] at hgd
  obtain ⟨⟨h1, h2⟩, h3⟩ := hgd
  have hf0 : ∀ j, (0:Nat) ≤ j → recOf j [] = none := fun _ _ => rfl
  obtain ⟨s1, rs, wE, k1, _, hr1, st, hE⟩ := early_ok (s := ⟨dropLoc s.env, s.vh, s.nx⟩) vs os.toList _ 0 0 0 0 [] [] h3 hc hg hr (dropLoc_er er) dropLoc_flat hf0 hk
  have er1 : ER wE s.env e h an := er.call st
  have hr2 : HR wE s1.vh s1.nx h (an + os.size) := hr1.grow (Nat.le_refl _) (by omega)
  have a0 : At wE ⟨s.env, s1.vh, s1.nx⟩ e h an wE ⟨s.env, s1.vh, s1.nx⟩ e h an := ⟨hr1, er1, .refl fun _ h => .inl h⟩
  have a1 := a0.grow (an'' := an + os.size) (by omega)
  have I : DInv P (EF P G rs wE h an) wE h an os.size (earlyR vs os.toList 0) 0 0 0 0 [] [] e ⟨0, e, [], ⟨0, 0, h, an + os.size⟩, [], []⟩ := by
    refine ⟨rfl, Nat.le_refl _, nofun, nofun, fun p hp => (List.mem_cons.1 hp).elim (fun e => .inl (by rw [e])) (fun e => nomatch e), fun h => (h rfl).elim, fun j hj => by (have hj : Nat.testBit 0 j = true := hj; rw [Nat.zero_testBit] at hj; cases hj), fun _ _ => rfl, fun j hj op e a r hE hb p hp => ?_, fun _ _ _ => rfl, fun t k hk => by cases hk⟩
    rcases List.mem_cons.1 hp with rfl | hp
    · exact hE.val
    · cases hp
  obtain ⟨s', e', h', an', w', k2, ⟨N, k3⟩, k4⟩ := draw_ok (base := an) (T := os.size) vs os.toList _ 0 0 0 0 [] [] e h3 hc (by simp) hE I (hg.mono st.le) (.refl _) (s := ⟨s.env, s1.vh, s1.nx⟩) hr2 a1.er (fun k _ _ => free_ge (s := ⟨s.env, s1.vh, s1.nx⟩) hr1 er1 (by omega)) k1
  refine ⟨s', e', h', an', w', k2, ⟨N + 1, fun n m hn hm => ?_⟩, k4.hr, k4.er, ?_⟩
  · obtain ⟨n, rfl⟩ : ∃ k, n = k + 1 := ⟨n - 1, by omega⟩
    have e0 : evC P (evCall P X m) (n + 1) (.region i os true) e h an = (bif drawOk os && P.follows .mixedOrders then evDraw P (evCall P X m) os an os.toList (masks os.toList []) ⟨0, e, [], ⟨0, 0, h, an + os.size⟩, [], []⟩ else .bad) := rfl
    rw [e0, h1, h2]
    exact k3 m (by omega)
  · have st4 : Step wE (fun i => own wE s1.vh s.env e i ∨ an ≤ i ∧ i < an + os.size) h (an + os.size) w' (fun i => own w' s'.vh s'.env e' i ∨ an ≤ i ∧ i < an + os.size) h' an' := k4.step
    have own1 : ∀ i, own wE s1.vh s.env e i → own w s.vh s.env e i ∨ an ≤ i := by
      rintro i (hi | hi)
      · exact (st.sub i hi).imp_left .inl
      · exact .inl (.inr hi)
    refine ⟨st.le.trans st4.le, by have := st4.grow; omega, fun i hi ho => ?_, fun b i hb => ?_, fun i L hb => ?_, fun i hi => ?_⟩
    · refine st4.keep i (by omega) ?_
      rintro (h1 | h1)
      · rcases own1 i h1 with h2 | h2
        · exact ho h2
        · omega
      · omega
    · rcases st4.newr b i hb with q | q | q | q
      · rcases st.newr b i q with q | q | q
        · exact .inl q
        · exact .inr (.inl q)
        · exact .inr (.inr (.inl q))
      · exact .inr (.inl (by omega))
      · exact .inr (own1 i q).symm
      · exact .inr (.inl q.1)
    · rcases st4.newk i L hb with q | q | q | q
      · rcases st.newk i L q with q | q | q
        · exact .inl q
        · exact .inr (.inl q)
        · exact .inr (.inr (.inl q))
      · exact .inr (.inl (by omega))
      · exact .inr (own1 i q).symm
      · exact .inr (.inl q.1)
    · rcases st4.sub i (.inl hi) with (q | q) | q
      · exact own1 i q
      · exact .inr q.1
      · exact .inr (by omega)
end
end Go.VL

namespace Go.VL
open Go.Ev

def plainT : List VOper → Bool
  | [] => true
  | v :: vs => (match v.tg with | .n [] => true | _ => false) && plainT vs
theorem plain_early {G : Gt} {call : WCall} {rs : List Rec} {K : St → List Rec → Prop} : ∀ {vs : List VOper}, plainT vs = true → ∀ {i : Nat} {s : St}, K s rs → earlyK G call vs i s rs K
  | [], _, _, _, hk => hk
  | v :: vs, h, i, s, hk => by
    simp only [plainT, Bool.and_eq_true] at h
    simp only [earlyK]
    split at h
    · rename_i ht
      rw [ht]
      exact plain_early h.2 hk
    · cases h.1
theorem plain_main {G : Gt} {call : WCall} {rs : List Rec} : ∀ {vs : List VOper}, plainT vs = true → ∀ {i : Nat} {s : St} {K : St → Prop}, mainK G call rs vs i s K = vcOps G call vs s K
  | [], _, _, _, _ => rfl
  | v :: vs, h, i, s, K => by
    simp only [plainT, Bool.and_eq_true] at h
    split at h
    · rename_i ht
      simp only [mainK, vcOps, ht, again]
      congr 1
      funext s
      congr 1
      · funext s
        congr 1
        funext v s
        exact plain_main h.2
      · funext s
        exact plain_main h.2
    · cases h.1
theorem plain_draw {G : Gt} {call : WCall} {vs : List VOper} (h : plainT vs = true) {s : St} {K : St → Prop} (hk : vcOps G call vs s K) : vcD G call vs s K := by
  unfold vcD
  refine plain_early h ?_
  rw [plain_main h]
  exact hk
def chkC (P : Program) : VCode → Code → Bool
  | .skip, .skip => true
  | .skip, .label _ => true
  | .ret, .ret => true
  | .exit i, .exit j => Nat.beq i j
  | .seq a b, .seq c d => chkC P a c && chkC P b d
  | .cond x a b, .cond y c d => chkX x y && chkC P a c && chkC P b d
  | .block i a, .block j b => Nat.beq i j && chkC P a b
  | .loop a, .loop b => chkC P a b
  | .scope a, .scope b => chkC P a b
  | .cut a, c => chkC P a c
  | .gsk _, .skip => true
  | .gsk _, .label _ => true
  | .reg d vs _, .region _ os d' => chkOps P os vs os.toList && (match d with
    | 0 => !d'
    | 1 => d' && plainT vs && goodDraw P vs os
    | 2 => d' && goodDraw P vs os
    | _ => false)
  | _, _ => false

section
variable (P : Program) (X : Ovr) (G : Gt)
structure WpC (c : Code) (s : St) (Q : VR → Prop) : Prop where
  out : ∀ (w : Wd) (e : Env) (h : H) (an : Nat), GtOk G w → HR w s.vh s.nx h an → ER w s.env e h an →
    ∃ r e' h' an' w', Q r ∧ (∃ N, ∀ n m, N ≤ n → N ≤ m → evC P (evCall P X m) n c e h an = mkR r.kind e' h' an') ∧ At w s e h an w' r.st e' h' an'
structure WpV (v : VCode) (s : St) (Q : VR → Prop) : Prop where
  out : ∀ c, chkC P v c = true → WpC P X G c s Q

abbrev vc (v : VCode) (s : St) (Q : VR → Prop) : Prop := vcC G (WpCall P X G) (WpV P X G) v s Q
end

section
variable {P : Program} {X : Ovr} {G : Gt}
theorem vc_ok : ∀ (v : VCode) (c : Code), chkC P v c = true → ∀ (s : St) (Q : VR → Prop), vc P X G v s Q → WpC P X G c s Q
  | .skip, c, hc, s, Q, hk => ⟨fun w e h an hg hr er => by
      refine ⟨.norm s, e, h, an, w, hk, ⟨1, fun n m hn _ => ?_⟩, hr, er, .refl fun _ h => .inl h⟩
      obtain ⟨n, rfl⟩ : ∃ k, n = k + 1 := ⟨n - 1, by omega⟩
      cases c <;> first | (cases hc; done) | rfl⟩
  | .cut a, c, hc, s, Q, hk => WpV.out hk c hc
  | .gsk gs, c, hc, s, Q, hk => ⟨fun w e h an hg hr er => by
      obtain ⟨w2, s2, q2, g2⟩ := ghs_ok gs hr er hk
      refine ⟨.norm s2, e, h, an, w2, q2, ⟨1, fun n m hn _ => ?_⟩, g2.hr, g2.er, g2.step⟩
      obtain ⟨n, rfl⟩ : ∃ k, n = k + 1 := ⟨n - 1, by omega⟩
      cases c <;> first | (cases hc; done) | rfl⟩
  | .ret, c, hc, s, Q, hk => ⟨fun w e h an hg hr er => by
      refine ⟨.ret s, e, h, an, w, hk, ⟨1, fun n m hn _ => ?_⟩, hr, er, .refl fun _ h => .inl h⟩
      obtain ⟨n, rfl⟩ : ∃ k, n = k + 1 := ⟨n - 1, by omega⟩
      cases c <;> first | (cases hc; done) | rfl⟩
  | .exit i, c, hc, s, Q, hk => ⟨fun w e h an hg hr er => by
      refine ⟨.exit i s, e, h, an, w, hk, ⟨1, fun n m hn _ => ?_⟩, hr, er, .refl fun _ h => .inl h⟩
      obtain ⟨n, rfl⟩ : ∃ k, n = k + 1 := ⟨n - 1, by omega⟩
      cases c with
      | exit j => have := beq_iff.1 hc; subst this; rfl
      | _ => cases hc⟩
  | .seq a b, c, hc, s, Q, hk => by
    cases c with
    | seq a' b' =>
      simp only [chkC, Bool.and_eq_true] at hc
      have ih := vc_ok a a' hc.1 s _ hk
      refine ⟨fun w e h an hg hr er => ?_⟩
      obtain ⟨r, e1, h1, an1, w1, q, ⟨N, hev⟩, ha⟩ := ih.out w e h an hg hr er
      have other : (∀ s', r ≠ .norm s') → Q r → ∃ r e' h' an' w', Q r ∧ (∃ N, ∀ n m, N ≤ n → N ≤ m → evC P (evCall P X m) n (.seq a' b') e h an = mkR r.kind e' h' an') ∧ At w s e h an w' r.st e' h' an' := by
        intro hn hq
        refine ⟨r, e1, h1, an1, w1, hq, ⟨N + 1, fun n m hn' hm => ?_⟩, ha⟩
        obtain ⟨n, rfl⟩ : ∃ k, n = k + 1 := ⟨n - 1, by omega⟩
        rw [evC_seq, hev n m (by omega) (by omega)]
        cases r with
        | norm s' => exact (hn s' rfl).elim
        | exit i s' => rfl
        | ret s' => rfl
      cases r with
      | norm s1 =>
        obtain ⟨r, e2, h2, an2, w2, q2, ⟨N2, hev2⟩, ha2⟩ := (vc_ok b b' hc.2 s1 Q q).out w1 e1 h1 an1 (hg.mono ha.step.le) ha.hr ha.er
        refine ⟨r, e2, h2, an2, w2, q2, ⟨max N N2 + 1, fun n m hn hm => ?_⟩, ha.trans ha2⟩
        obtain ⟨n, rfl⟩ : ∃ k, n = k + 1 := ⟨n - 1, by omega⟩
        rw [evC_seq, hev n m (by omega) (by omega)]
        exact hev2 n m (by omega) (by omega)
      | exit i s1 => exact other nofun q
      | ret s1 => exact other nofun q
    | _ => cases hc
  | .cond x a b, c, hc, s, Q, hk => by
    cases c with
    | cond y a' b' =>
      simp only [chkC, Bool.and_eq_true] at hc
      refine ⟨fun w e h an hg hr er => ?_⟩
      obtain ⟨v, hv, hd⟩ := rdK_rel hg er hc.1.1 hk
      generalize hrd : rd e y = ra at hd
      split at hv
      · rename_i t
        cases hd
        cases t with
        | true =>
          obtain ⟨r, e1, h1, an1, w1, q, ⟨N, hev⟩, ha⟩ := (vc_ok a a' hc.1.2 s Q (hv.t rfl)).out w e h an hg hr er
          refine ⟨r, e1, h1, an1, w1, q, ⟨N + 1, fun n m hn hm => ?_⟩, ha⟩
          obtain ⟨n, rfl⟩ : ∃ k, n = k + 1 := ⟨n - 1, by omega⟩
          rw [evC_cond, hrd, condA_t]
          exact hev n m (by omega) (by omega)
        | false =>
          obtain ⟨r, e1, h1, an1, w1, q, ⟨N, hev⟩, ha⟩ := (vc_ok b b' hc.2 s Q (hv.f rfl)).out w e h an hg hr er
          refine ⟨r, e1, h1, an1, w1, q, ⟨N + 1, fun n m hn hm => ?_⟩, ha⟩
          obtain ⟨n, rfl⟩ : ∃ k, n = k + 1 := ⟨n - 1, by omega⟩
          rw [evC_cond, hrd, condA_f]
          exact hev n m (by omega) (by omega)
      · exact hv.elim
    | _ => cases hc
  | .block i a, c, hc, s, Q, hk => by
    cases c with
    | block j a' =>
      simp only [chkC, Bool.and_eq_true] at hc
      have := beq_iff.1 hc.1
      subst this
      refine ⟨fun w e h an hg hr er => ?_⟩
      obtain ⟨r, e1, h1, an1, w1, q, ⟨N, hev⟩, ha⟩ := (vc_ok a a' hc.2 s _ hk).out w e h an hg hr er
      have e0 : ∀ n m, evC P (evCall P X m) (n + 1) (.block i a') e h an = (match evC P (evCall P X m) n a' e h an with
        | .exit id' env h nx => bif Nat.beq i id' then .norm env h nx else .exit id' env h nx
        | r => r) := fun n m => rfl
      cases r with
      | norm s1 =>
        refine ⟨.norm s1, e1, h1, an1, w1, q, ⟨N + 1, fun n m hn hm => ?_⟩, ha⟩
        obtain ⟨n, rfl⟩ : ∃ k, n = k + 1 := ⟨n - 1, by omega⟩
        rw [e0, hev n m (by omega) (by omega)]; rfl
      | ret s1 =>
        refine ⟨.ret s1, e1, h1, an1, w1, q, ⟨N + 1, fun n m hn hm => ?_⟩, ha⟩
        obtain ⟨n, rfl⟩ : ∃ k, n = k + 1 := ⟨n - 1, by omega⟩
        rw [e0, hev n m (by omega) (by omega)]; rfl
      | exit k s1 =>
        simp only [blockQ] at q
        cases hb : Nat.beq i k with
        | true =>
          rw [hb] at q
          refine ⟨.norm s1, e1, h1, an1, w1, q, ⟨N + 1, fun n m hn hm => ?_⟩, ha⟩
          obtain ⟨n, rfl⟩ : ∃ k, n = k + 1 := ⟨n - 1, by omega⟩
          rw [e0, hev n m (by omega) (by omega)]
          simp only [VR.kind, mkR, hb, cond_true]
        | false =>
          rw [hb] at q
          refine ⟨.exit k s1, e1, h1, an1, w1, q, ⟨N + 1, fun n m hn hm => ?_⟩, ha⟩
          obtain ⟨n, rfl⟩ : ∃ k, n = k + 1 := ⟨n - 1, by omega⟩
          rw [e0, hev n m (by omega) (by omega)]
          simp only [VR.kind, mkR, hb, cond_false]
    | _ => cases hc
  | .loop a, c, hc, s, Q, hk => hk.out c hc
  | .scope a, c, hc, s, Q, hk => by
    cases c with
    | scope a' =>
      refine ⟨fun w e h an hg hr er => ?_⟩
      obtain ⟨r, e1, h1, an1, w1, q, ⟨N, hev⟩, ha⟩ := (vc_ok a a' hc s Q hk).out w e h an hg hr er
      refine ⟨r, e1, h1, an1, w1, q, ⟨N + 1, fun n m hn hm => ?_⟩, ha⟩
      obtain ⟨n, rfl⟩ : ∃ k, n = k + 1 := ⟨n - 1, by omega⟩
      exact hev n m (by omega) (by omega)
    | _ => cases hc
  | .reg d vs gh, c, hc, s, Q, hk => by
    cases c with
    | region i os d' =>
      simp only [chkC, Bool.and_eq_true] at hc
      obtain ⟨hc, hd⟩ := hc
      refine ⟨fun w e h an hg hr er => ?_⟩
      have fin : ∀ {s1 : St} {e1 : Env} {h1 : H} {an1 : Nat} {w1 : Wd}, vcGhs gh s1 (fun s => Q (.norm s)) → At w s e h an w1 s1 e1 h1 an1 → (∃ N, ∀ n m, N ≤ n → N ≤ m → evC P (evCall P X m) n (.region i os d') e h an = .norm e1 h1 an1) →
          ∃ r e' h' an' w', Q r ∧ (∃ N, ∀ n m, N ≤ n → N ≤ m → evC P (evCall P X m) n (.region i os d') e h an = mkR r.kind e' h' an') ∧ At w s e h an w' r.st e' h' an' := by
        intro s1 e1 h1 an1 w1 q ha hev
        obtain ⟨w2, s2, q2, g2⟩ := ghs_ok gh ha.hr ha.er q
        exact ⟨.norm s2, e1, h1, an1, w2, q2, hev, ha.trans ⟨g2.hr, g2.er, g2.step⟩⟩
      split at hd
      · cases d' with
        | true => cases hd
        | false =>
          obtain ⟨s1, e1, h1, an1, w1, q, ⟨N, hev⟩, ha⟩ := ops_ok vs os.toList hc hg hr er hk
          refine fin q ha ⟨N + 1, fun n m hn hm => ?_⟩
          obtain ⟨n, rfl⟩ : ∃ k, n = k + 1 := ⟨n - 1, by omega⟩
          rw [evC_region]
          exact hev m (by omega)
      · cases d' with
        | false => cases hd
        | true =>
          simp only [Bool.true_and, Bool.and_eq_true] at hd
          obtain ⟨s1, e1, h1, an1, w1, q, hev, ha⟩ := draw_run hd.2 hc hg hr er (plain_draw hd.1 hk) i
          exact fin q ha hev
      · cases d' with
        | false => cases hd
        | true =>
          simp only [Bool.true_and] at hd
          obtain ⟨s1, e1, h1, an1, w1, q, hev, ha⟩ := draw_run hd hc hg hr er hk i
          exact fin q ha hev
      · cases hd
    | _ => cases hc
theorem WpV.of {v : VCode} {s : St} {Q : VR → Prop} (h : vc P X G v s Q) : WpV P X G v s Q := ⟨fun c hc => vc_ok v c hc s Q h⟩
theorem WpV.cut {v : VCode} {s : St} {Q : VR → Prop} (h : vc P X G v s Q) : WpV P X G (.cut v) s Q := ⟨fun c hc => vc_ok v c hc s Q h⟩
theorem WpC.mono {c : Code} {s : St} {Q Q' : VR → Prop} (h : WpC P X G c s Q) (hq : ∀ r, Q r → Q' r) : WpC P X G c s Q' :=
  ⟨fun w e hh an hg hr er => let ⟨r, e1, h1, an1, w1, q, hev, ha⟩ := h.out w e hh an hg hr er; ⟨r, e1, h1, an1, w1, hq r q, hev, ha⟩⟩
theorem WpV.mono {v : VCode} {s : St} {Q Q' : VR → Prop} (h : WpV P X G v s Q) (hq : ∀ r, Q r → Q' r) : WpV P X G v s Q' := ⟨fun c hc => (h.out c hc).mono hq⟩

theorem WpV.loop {b : VCode} {s : St} {Q : VR → Prop} (h : WpV P X G b s (thenQ Q fun s => WpV P X G (.loop b) s Q)) : WpV P X G (.loop b) s Q := by
  refine ⟨fun c hc => ?_⟩
  cases c with
  | loop b' =>
    refine ⟨fun w e hh an hg hr er => ?_⟩
    have e0 : ∀ n m, evC P (evCall P X m) (n + 1) (.loop b') e hh an = (evC P (evCall P X m) n b' e hh an).then (evC P (evCall P X m) n (.loop b')) := fun n m => rfl
    obtain ⟨r, e1, h1, an1, w1, q, ⟨N, hev⟩, ha⟩ := (h.out b' hc).out w e hh an hg hr er
    cases r with
    | norm s1 =>
      obtain ⟨r, e2, h2, an2, w2, q2, ⟨N2, hev2⟩, ha2⟩ := (WpV.out q (.loop b') hc).out w1 e1 h1 an1 (hg.mono ha.step.le) ha.hr ha.er
      refine ⟨r, e2, h2, an2, w2, q2, ⟨max N N2 + 1, fun n m hn hm => ?_⟩, ha.trans ha2⟩
      obtain ⟨n, rfl⟩ : ∃ k, n = k + 1 := ⟨n - 1, by omega⟩
      rw [e0, hev n m (by omega) (by omega)]
      exact hev2 n m (by omega) (by omega)
    | exit i s1 =>
      refine ⟨.exit i s1, e1, h1, an1, w1, q, ⟨N + 1, fun n m hn hm => ?_⟩, ha⟩
      obtain ⟨n, rfl⟩ : ∃ k, n = k + 1 := ⟨n - 1, by omega⟩
      rw [e0, hev n m (by omega) (by omega)]; rfl
    | ret s1 =>
      refine ⟨.ret s1, e1, h1, an1, w1, q, ⟨N + 1, fun n m hn hm => ?_⟩, ha⟩
      obtain ⟨n, rfl⟩ : ∃ k, n = k + 1 := ⟨n - 1, by omega⟩
      rw [e0, hev n m (by omega) (by omega)]; rfl
  | _ => cases hc

theorem WpV.round {b : VCode} {s : St} {Q : VR → Prop} (h : vc P X G b s (thenQ Q fun s => WpV P X G (.loop b) s Q)) : WpV P X G (.loop b) s Q := .loop (.of h)
end

inductive VRes where
  | tmp (t : Nat)
  | cell (a : Nat) (ag : Bool) (n : Nat)
section
variable (P : Program) (X : Ovr) (G : Gt)
def resK : List VRes → St → (List V → Prop) → Prop
  | [], _, k => k []
  | .tmp t :: l, s, k => rdF G s.env (.t t) fun v => resK l s fun vs => k (v :: vs)
  | .cell a ag n :: l, s, k => vcOp G (fun _ _ _ _ _ => False) (.load (.t a) ag n) s fun v s => resK l s fun vs => k (v :: vs)
def chkRes : List VRes → List ResultVar → Bool
  | [], [] => true
  | .tmp t :: l, .tmp u :: m => Nat.beq t u && chkRes l m
  | .cell a ag n :: l, .cell b t :: m => Nat.beq a b && cop P (.load (.t a) ag n) (.load t (.tmp b)) && chkRes l m
  | _, _ => false

def finK (rs : List VRes) (Q : V → VH → Nat → Prop) (s : St) : Prop := resK G rs s fun vs => match vs with
  | [v] => Get (fun vh : VH => ∀ b B, vh b = some B → s.vh b = some B) fun vh => Q v vh s.nx
  | vs => Get (fun vh : VH => ∀ b B, vh b = some B → s.vh b = some B) fun vh => Q (.tup vs) vh s.nx
def finQ (rs : List VRes) (Q : V → VH → Nat → Prop) : VR → Prop
  | .norm s => finK G rs Q s
  | .ret s => finK G rs Q s
  | .exit _ _ => False
end
def argsE : List V → Nat → VEnv
  | [], _ => []
  | v :: vs, i => (i, v) :: argsE vs (i + 1)
section
variable {P : Program} {X : Ovr} {G : Gt}
theorem argsE_lk : ∀ (vs : List V) (i t : Nat) (v : V), lk (argsE vs i) t = some v → i ≤ t ∧ vs[t - i]? = some v
  | [], i, t, v, h => by cases h
  | u :: vs, i, t, v, h => by
    simp only [argsE] at h
    rw [lk_cons] at h
    split at h
    · rename_i ht; simp only at ht; subst ht; cases h; simp
    · rename_i ht
      simp only at ht
      obtain ⟨h1, h2⟩ := argsE_lk vs (i + 1) t v h
      refine ⟨by omega, ?_⟩
      have : t - i = (t - (i + 1)) + 1 := by omega
      rw [this]; simpa using h2
theorem res_ok : ∀ (l : List VRes) (m : List ResultVar), chkRes P l m = true → ∀ {w : Wd} {s : St} {e : Env} {h : H} {an : Nat}, GtOk G w → HR w s.vh s.nx h an → ER w s.env e h an → ∀ {k : List V → Prop}, resK G l s k →
    ∃ vs us, k vs ∧ resA P e h m = some us ∧ Dens w vs us
  | [], [], _, w, s, e, h, an, hg, hr, er, k, hk => ⟨[], [], hk, rfl, .nil⟩
  | .tmp t :: l, .tmp u :: m, hc, w, s, e, h, an, hg, hr, er, k, hk => by
    simp only [chkRes, Bool.and_eq_true] at hc
    have := beq_iff.1 hc.1
    subst this
    obtain ⟨v, h1, h2, h3⟩ := rdF_rel (x := .t t) (o := .tmp t) hg er (beq_iff.2 rfl) hk
    obtain ⟨vs, us, h4, h5, h6⟩ := res_ok l m hc.2 hg hr er h1
    exact ⟨v :: vs, _ :: us, h4, by simp only [resA, h5]; rfl, .cons _ _ _ _ h3 h6⟩
  | .cell a ag n :: l, .cell b t :: m, hc, w, s, e, h, an, hg, hr, er, k, hk => by
    simp only [chkRes, Bool.and_eq_true] at hc
    obtain ⟨⟨h1, h2⟩, h3⟩ := hc
    have := beq_iff.1 h1
    subst this
    obtain ⟨v, x, k1, k2, k3⟩ := load_val hg hr er h2 hk
    obtain ⟨vs, us, h4, h5, h6⟩ := res_ok l m h3 hg hr er k1
    refine ⟨v :: vs, x :: us, h4, ?_, .cons _ _ _ _ k3 h6⟩
    show (match ld P h t (rd e (.tmp a)), resA P e h m with | some v, some r => some (v :: r) | _, _ => none) = _
    rw [k2, h5]
  | [], .tmp _ :: _, hc, _, _, _, _, _, _, _, _, _, _ => by cases hc
  | [], .cell _ _ :: _, hc, _, _, _, _, _, _, _, _, _, _ => by cases hc
  | .tmp _ :: _, [], hc, _, _, _, _, _, _, _, _, _, _ => by cases hc
  | .cell _ _ _ :: _, [], hc, _, _, _, _, _, _, _, _, _, _ => by cases hc
  | .tmp _ :: _, .cell _ _ :: _, hc, _, _, _, _, _, _, _, _, _, _ => by cases hc
  | .cell _ _ _ :: _, .tmp _ :: _, hc, _, _, _, _, _, _, _, _, _, _ => by cases hc
theorem fin_ok {rs : List VRes} {Q : V → VH → Nat → Prop} {w : Wd} {s : St} {e : Env} {h : H} {an : Nat} {fn : Func} (hc : chkRes P rs fn.results.toList = true) (hg : GtOk G w) (hr : HR w s.vh s.nx h an) (er : ER w s.env e h an) (hk : finK G rs Q s) :
    ∃ v vh a, Q v vh s.nx ∧ retA P fn e h an = .ok a h an ∧ HR w vh s.nx h an ∧ Den w v a ∧ ∀ b B, vh b = some B → s.vh b = some B := by
  obtain ⟨vs, us, h1, h2, h3⟩ := res_ok _ _ hc hg hr er hk
  unfold retA
  rw [h2]
  split at h1
  · rename_i v
    obtain ⟨vh, hv, hq⟩ := h1
    cases h3 with
    | cons _ a _ m hd hl => cases hl; exact ⟨v, vh, a, hq, rfl, hr.sub hv, hd, hv⟩
  · rename_i hne
    obtain ⟨vh, hv, hq⟩ := h1
    refine ⟨.tup vs, vh, .tup us, hq, ?_, hr.sub hv, .tup _ _ h3, hv⟩
    cases us with
    | nil => rfl
    | cons a us =>
      cases us with
      | nil =>
        cases h3 with | cons v _ _ _ hd hl => cases hl; exact (hne v rfl).elim
      | cons _ _ => rfl

theorem WpCall.of {f : FuncId} {fn : Func} {c : Code} {v : VCode} {rs : List VRes} (hX : X f = none) (hf : P.funcs[f]? = some fn) (hb : fn.body = some c) (hok : codeOk P fn.ntmps c = true) (hc : chkC P v c = true) (hr : chkRes P rs fn.results.toList = true)
    {vs : List V} {vh : VH} {vn : Nat} {Q : V → VH → Nat → Prop} (hk : vc P X G v ⟨argsE vs 0, vh, vn⟩ (finQ G rs Q)) : WpCall P X G f vs vh vn Q := by
  refine ⟨fun w h an us hg hh hd => ?_⟩
  have henv : ∀ t a, us[t]? = some a → (envOf us 0 .e).get t = some a := fun t a ha => by
    rw [envOf_get]
    have : t < us.length := by
      rcases Nat.lt_or_ge t us.length with h | h
      · exact h
      · rw [List.getElem?_eq_none h] at ha; cases ha
    rw [if_pos ⟨Nat.zero_le _, by omega⟩]
    simpa using ha
  have nl : ∀ t, ¬ Loc (argsE vs 0) t := by
    rintro t ⟨v, h1, h2⟩
    obtain ⟨_, h3⟩ := argsE_lk _ _ _ _ h1
    obtain ⟨a, h4, h5⟩ := hd.get h3
    exact no_loc' h5 h2
  have er : ER w (argsE vs 0) (envOf us 0 .e) h an := by
    refine ⟨fun t v hl => ?_, fun t u i ht => (nl t ht).elim⟩
    obtain ⟨_, h3⟩ := argsE_lk _ _ _ _ hl
    obtain ⟨a, h4, h5⟩ := hd.get h3
    have h6 := henv t a (by simpa using h4)
    have h7 : TV w (argsE vs 0) (envOf us 0 .e) v a := .of_den h5
    cases v with
    | bx l => cases h5
    | it r p => cases h5
    | _ => exact ⟨a, h6, h7⟩
  obtain ⟨r, e1, h1, an1, w1, q, ⟨N, hev⟩, ha⟩ := (vc_ok v c hc _ _ hk).out w _ h an hg hh er
  have body : ∀ m, evCall P X (m + 1) f us h an = (match evC P (evCall P X m) m c (envOf us 0 .e) h an with
      | .norm env h nx => retA P fn env h nx
      | .ret env h nx => retA P fn env h nx
      | _ => .bad) := fun m => evCall_body hX hf hb hok
  have step : ∀ {s1 : St} {vh1 : VH}, At w ⟨argsE vs 0, vh, vn⟩ (envOf us 0 .e) h an w1 s1 e1 h1 an1 → (∀ b B, vh1 b = some B → s1.vh b = some B) → Step w (ownB w vh) h an w1 (ownB w1 vh1) h1 an1 := by
    intro s1 vh1 ha hv
    refine ha.step.weak' (fun i hi => ?_) (fun i hi => ?_)
    · rcases hi with hi | ⟨t, ht, _⟩
      · exact hi
      · exact (nl t ht).elim
    · obtain ⟨b, B, hb, hi⟩ := hi; exact .inl ⟨b, B, hv b B hb, hi⟩
  cases r with
  | norm s1 =>
    obtain ⟨v1, vh1, a, g1, g2, g3, g4, g5⟩ := fin_ok hr (hg.mono ha.step.le) ha.hr ha.er q
    refine ⟨v1, vh1, s1.nx, a, h1, an1, w1, g1, ⟨N + 1, fun m hm => ?_⟩, g3, g4, step ha g5⟩
    obtain ⟨m, rfl⟩ : ∃ k, m = k + 1 := ⟨m - 1, by omega⟩
    rw [body, hev m m (by omega) (by omega)]
    exact g2
  | ret s1 =>
    obtain ⟨v1, vh1, a, g1, g2, g3, g4, g5⟩ := fin_ok hr (hg.mono ha.step.le) ha.hr ha.er q
    refine ⟨v1, vh1, s1.nx, a, h1, an1, w1, g1, ⟨N + 1, fun m hm => ?_⟩, g3, g4, step ha g5⟩
    obtain ⟨m, rfl⟩ : ∃ k, m = k + 1 := ⟨m - 1, by omega⟩
    rw [body, hev m m (by omega) (by omega)]
    exact g2
  | exit _ _ => exact q.elim
theorem WpCall.mono {f : FuncId} {vs : List V} {vh : VH} {vn : Nat} {Q Q' : V → VH → Nat → Prop} (h : WpCall P X G f vs vh vn Q) (hq : ∀ v vh' n, Q v vh' n → Q' v vh' n) : WpCall P X G f vs vh vn Q' :=
  ⟨fun w hh an us hg hr hd => let ⟨v, vh', vn', a, h', an', w', q, r⟩ := h.out w hh an us hg hr hd; ⟨v, vh', vn', a, h', an', w', hq _ _ _ q, r⟩⟩
end
def fitsB (P : Program) (fn : Func) (v : VCode) (rs : List VRes) : Bool := match fn.body with
  | some c => codeOk P fn.ntmps c && chkC P v c && chkRes P rs fn.results.toList
  | none => false
structure Fits (P : Program) (f : FuncId) (v : VCode) (rs : List VRes) : Prop where
  out : ∃ fn c, P.funcs[f]? = some fn ∧ fn.body = some c ∧ codeOk P fn.ntmps c = true ∧ chkC P v c = true ∧ chkRes P rs fn.results.toList = true
theorem Fits.of {P : Program} {f : FuncId} {fn : Func} {v : VCode} {rs : List VRes} (hf : P.funcs[f]? = some fn) (h : fitsB P fn v rs = true) : Fits P f v rs := by
  unfold fitsB at h
  split at h
  · rename_i c hc
    simp only [Bool.and_eq_true] at h
    exact ⟨fn, c, hf, hc, h.1.1, h.1.2, h.2⟩
  · cases h
theorem Fits.call {P : Program} {X : Ovr} {G : Gt} {f : FuncId} {v : VCode} {rs : List VRes} (F : Fits P f v rs) (hX : X f = none) {vs : List V} {vh : VH} {vn : Nat} {Q : V → VH → Nat → Prop} (hk : vc P X G v ⟨argsE vs 0, vh, vn⟩ (finQ G rs Q)) : WpCall P X G f vs vh vn Q := by
  obtain ⟨fn, c, h1, h2, h3, h4, h5⟩ := F.out
  exact .of hX h1 h2 h3 h4 h5 hk

end Go.VL

namespace Go.VL
open Go.Ev

def fApp (es by' : Nat) (e : TypeId) (x : V) (m : List V) (j : Nat) (env : VEnv) (vh : VH) (nx : Nat) (k : V → VEnv → VH → Nat → Prop) : Prop := match x with
  | .nils => CondP (Nat.beq j 0) (k .nils env vh nx) (Owe (room by' j) (k (.msl nx 0 j es none) env (vset vh nx (.cells m e 0 false)) (nx + 1)))
  | .sl es' ls (some c) => bif Nat.beq es es' then CondP (Nat.beq j 0) (k (.sl es ls (some c)) env vh nx) (Owe (c < ls.length + j ∧ room by' (ls.length + j)) (k (.msl nx 0 (ls.length + j) es none) env (vset vh nx (.cells (ls.flatten ++ m) e 0 false)) (nx + 1))) else False
  | .msl b o n es' c => bif Nat.beq es es' then CondP (Nat.beq j 0) (k (.msl b o n es c) env vh nx) (Get (hasB vh b) fun p =>
      match c with
      | some c => CondP (Nat.ble (n + j) c)
          (Owe (o + (n + j) * es ≤ p.1.length ∧ p.2.2.1 ≤ o + n * es) (k (.msl b o (n + j) es (some c)) env (vset vh b (.cells (Ev.setSeg p.1 (o + n * es) m) p.2.1 p.2.2.1 p.2.2.2)) nx))
          (Owe (o + n * es ≤ p.1.length ∧ room by' (n + j)) (k (.msl nx 0 (n + j) es none) env (vset vh nx (.cells ((p.1.drop o).take (n * es) ++ m) e 0 false)) (nx + 1)))
      | none => CondP (Nat.ble (n + j) ((p.1.length - o) / es))
          (Owe (o + (n + j) * es ≤ p.1.length ∧ p.2.2.1 ≤ o + n * es) (k (.msl b o (n + j) es none) env (vset vh b (.cells (Ev.setSeg p.1 (o + n * es) m) p.2.1 p.2.2.1 p.2.2.2)) nx))
          (Owe (o = 0 ∧ n * es ≤ p.1.length ∧ p.2.2.1 ≤ n * es ∧ p.2.1 = e ∧ room by' (n + j)) (k (.msl nx 0 (n + j) es none) env (vset (vdel vh b) nx (.cells (p.1.take (n * es) ++ m) e (Ev.fzOff p.2.2.1 0) p.2.2.2)) (nx + 1)))) else False
  | _ => False
def fOp (G : Gt) (call : WCall) (o : VOp) (env : VEnv) (vh : VH) (nx : Nat) (K : V → VEnv → VH → Nat → Prop) : Prop := match o with
  | .mv x => rdK G env x fun v => K v env vh nx
  | .pick c a b => rdK G env c fun
    | .bool t => rdK G env a fun va => rdK G env b fun vb => pickK t va vb fun v => K v env vh nx
    | _ => False
  | .allocL z => K (.bx z) env vh nx
  | .allocH z e => K (.ptr nx 0) env (vset vh nx (.cells z e 0 false)) (nx + 1)
  | .boxL x => rdC G env x fun v => spine v.cells fun cs => K (.bx cs) env vh nx
  | .boxH x e => rdC G env x fun v => K (.ptr nx 0) env (vset vh nx (.cells v.cells e 0 false)) (nx + 1)
  | .build z ps => rdParts G env ps fun vs => fillV z vs fun cs => K (.agg cs) env vh nx
  | .buildF es n z ps => rdElems G env es ps fun vs => fillV (Ev.reps n z) vs fun cs => K (.sl es (pieces es n cs) (some n)) env vh nx
  | .buildH es n z ps e => rdElems G env es ps fun vs => fillV (Ev.reps n z) vs fun cs => K (.msl nx 0 n es (some n)) env (vset vh nx (.cells cs e 0 false)) (nx + 1)
  | .load x ag n => rdK G env x fun
    | .lp t o => (match lk env t with
      | some (.bx l) => loadK l o ag n fun v => K v env vh nx
      | _ => False)
    | .fp l o => loadK l o ag n fun v => K v env vh nx
    | .ptr b o => Get (hasB vh b) fun p => bif ag then Get (fun m => (p.1.drop o).take n = m ∧ o + n ≤ p.1.length) (fun m => K (.agg m) env vh nx) else Get (fun v => p.1[o]? = some v) fun v => K v env vh nx
    | _ => False
  | .store x v n => rdC G env v fun v => spine v.cells fun cs => bif Nat.beq (Ev.len cs) n then rdK G env x (fun
      | .lp t o => (match lk env t with
        | some (.bx l) => bif Nat.ble (o + n) (Ev.len l) then spine (Ev.setSeg l o cs) fun m => K V.undef ((t, .bx m) :: env) vh nx else False
        | _ => False)
      | .ptr b o => Get (hasB vh b) fun p => Owe (o + n ≤ p.1.length ∧ p.2.2.1 ≤ o) (K V.undef env (vset vh b (.cells (Ev.setSeg p.1 o cs) p.2.1 p.2.2.1 p.2.2.2)) nx)
      | _ => False) else False
  | .nilck x => rdK G env x fun
    | .lp t o => K (.lp t o) env vh nx
    | .fp l o => K (.fp l o) env vh nx
    | .ptr b o => K (.ptr b o) env vh nx
    | .ifc t v => K (.ifc t v) env vh nx
    | .func g a b => K (.func g a b) env vh nx
    | _ => False
  | .bin op x y => rdK G env x fun a => rdK G env y fun b => vBin op a b fun v => K v env vh nx
  | .eq kd op x y => rdK G env x fun a => rdK G env y fun b => vEq kd op a b fun v => K v env vh nx
  | .un op x => rdK G env x fun a => vUn op a fun v => K v env vh nx
  | .cint k x => rdK G env x fun
    | .int _ n => K (.int k (Ev.wr k n)) env vh nx
    | _ => False
  | .cstr x => rdK G env x fun
    | .str l => K (.str l) env vh nx
    | _ => False
  | .crune x => rdK G env x fun
    | .int _ n => K (.str (Ev.encA n)) env vh nx
    | _ => False
  | .cbytes x e => rdK G env x fun
    | .str l => K (.msl nx 0 l.length 1 none) env (vset vh nx (.cells (l.map byteV) e 0 true)) (nx + 1)
    | _ => False
  | .ctext x => rdK G env x fun
    | .nils => K (.str []) env vh nx
    | .sl 1 ls _ => Get (fun l : List Nat => ls = l.map (fun c => [byteV c]) ∧ ∀ c ∈ l, c < 256) fun l => K (.str l) env vh nx
    | .msl b o n 1 _ => Get (hasB vh b) fun p => Get (fun l : List Nat => (p.1.drop o).take n = l.map byteV ∧ o + n ≤ p.1.length ∧ ∀ c ∈ l, c < 256) fun l => K (.str l) env vh nx
    | _ => False
  | .mkIfc t x => rdF G env x fun v => K (.ifc t v) env vh nx
  | .mkFn g fs cs => rdsF G env fs fun fs => rdsF G env cs fun cs => K (.func g fs cs) env vh nx
  | .mkMap => K (.map nx) env (vset vh nx (.map [])) (nx + 1)
  | .mkSl es z e by' l c => rdK G env l fun
    | .int _ l => rdK G env c fun
      | .int _ c => Get (fun i : Nat => l = (i : Int)) fun i => Get (fun j : Nat => c = (j : Int) ∧ i ≤ j ∧ by' * j ≤ 140737488355328 ∧ j < Ev.p63) fun j =>
          K (.msl nx 0 i es (some j)) env (vset vh nx (.cells (Ev.reps j z) e 0 false)) (nx + 1)
      | _ => False
    | _ => False
  | .cutS x lo hi => rdK G env x fun
    | .str l => rdO G env 0 lo fun a => rdO G env l.length hi fun b => Owe (a ≤ b ∧ b ≤ l.length) (K (.str ((l.drop a).take (b - a))) env vh nx)
    | _ => False
  | .cutL es x lo hi mx => rdK G env x fun
    | .sl es' ls c => bif Nat.beq es es' then rdO G env 0 lo fun a => rdO G env ls.length hi fun b => (match mx with
      | none => Owe (a ≤ b ∧ b ≤ ls.length) (K (.sl es ((ls.drop a).take (b - a)) none) env vh nx)
      | some m => rdO G env 0 (some m) fun m => Owe (a ≤ b ∧ b ≤ m ∧ m ≤ ls.length ∧ (ls = [] → c = some 0)) (K (.sl es ((ls.drop a).take (b - a)) (some (m - a))) env vh nx)) else False
    | .msl b o n es' c => bif Nat.beq es es' then rdO G env 0 lo fun a => rdO G env n hi fun r => (match mx with
      | none => (match c with
        | some c => Owe (a ≤ r ∧ r ≤ c ∧ a < c) (K (.msl b (o + a * es) (r - a) es (some (c - a))) env vh nx)
        | none => Get (hasB vh b) fun p => Owe (a ≤ r ∧ r ≤ (p.1.length - o) / es ∧ (a < (p.1.length - o) / es ∨ a = 0)) (K (.msl b (o + a * es) (r - a) es none) env vh nx))
      | some _ => False) else False
    | .nils => rdO G env 0 lo fun a => rdO G env 0 hi fun b => (match mx with
      | none => Owe (a = 0 ∧ b = 0) (K .nils env vh nx)
      | some m => rdO G env 0 (some m) fun m => Owe (a = 0 ∧ b = 0 ∧ m = 0) (K .nils env vh nx))
    | _ => False
  | .cutA es n x lo hi => rdK G env x fun
    | .ptr b o => rdO G env 0 lo fun a => rdO G env n hi fun r => Get (hasB vh b) fun p => Owe (a ≤ r ∧ r ≤ n ∧ a < n ∧ o + n * es ≤ p.1.length) (K (.msl b (o + a * es) (r - a) es (some (n - a))) env vh nx)
    | _ => False
  | .off x n => rdK G env x fun
    | .lp t o => K (.lp t (o + n)) env vh nx
    | .fp l o => K (.fp l (o + n)) env vh nx
    | .ptr b o => K (.ptr b (o + n)) env vh nx
    | _ => False
  | .fld x ag o n => rdK G env x fun
    | .agg l => loadK l o ag n fun v => K v env vh nx
    | _ => False
  | .idx es x i => rdK G env i fun
    | .int _ n => rdK G env x fun
      | .sl es' ls _ => bif Nat.beq es es' then Get (fun p : Nat × List V => n = (p.1 : Int) ∧ ls[p.1]? = some p.2) (fun p => K (.fp p.2 0) env vh nx) else False
      | .msl b o m es' _ => bif Nat.beq es es' then Get (fun j : Nat => n = (j : Int) ∧ j < m) fun j => K (.ptr b (o + j * es)) env vh nx else False
      | _ => False
    | _ => False
  | .idxA es m x i => rdK G env i fun
    | .int _ n => rdK G env x fun
      | .lp t o => Get (fun j : Nat => n = (j : Int) ∧ j < m) fun j => K (.lp t (o + j * es)) env vh nx
      | .fp l o => Get (fun j : Nat => n = (j : Int) ∧ j < m) fun j => K (.fp l (o + j * es)) env vh nx
      | .ptr b o => Get (fun j : Nat => n = (j : Int) ∧ j < m) fun j => K (.ptr b (o + j * es)) env vh nx
      | _ => False
    | _ => False
  | .at x i => rdK G env i fun
    | .int _ n => rdK G env x fun
      | .str l => Get (fun p : Nat × Nat => n = (p.1 : Int) ∧ l[p.1]? = some p.2) fun p => K (.int .u8 (.ofNat p.2)) env vh nx
      | _ => False
    | _ => False
  | .look _ _ _ _ _ _ => False
  | .upd _ _ _ _ => False
  | .rng x => rdK G env x fun
    | .str l => K (.it l 0) env vh nx
    | _ => False
  | .next x => rdK G env x fun
    | .lp t 0 => (match lk env t with
      | some (.it r p) => CondP r.isEmpty (K (.tup [.bool false]) env vh nx)
          (K (.tup [.bool true, .int .i64 (.ofNat p), .int .i32 (.ofNat (Ev.decA r).1)]) ((t, .it (r.drop (Ev.decA r).2) (p + (Ev.decA r).2)) :: env) vh nx)
      | _ => False)
    | _ => False
  | .asrt t z x ok => rdK G env x fun
    | .ifc u v => bif Nat.beq u t then K (bif ok then .tup [v, .bool true] else v) env vh nx else (bif ok then K (.tup [z, .bool false]) env vh nx else False)
    | .nili => bif ok then K (.tup [z, .bool false]) env vh nx else False
    | _ => False
  | .ext x i => rdK G env x fun
    | .tup l => (match Ev.nth l i with | some v => K v env vh nx | none => False)
    | _ => False
  | .lenS x => rdK G env x fun
    | .str l => K (.int .i64 (.ofNat l.length)) env vh nx
    | _ => False
  | .lenL x => rdK G env x fun
    | .sl _ ls _ => K (.int .i64 (.ofNat ls.length)) env vh nx
    | .nils => K (.int .i64 0) env vh nx
    | .msl _ _ n _ _ => K (.int .i64 (.ofNat n)) env vh nx
    | _ => False
  | .app es _ by' e x y => rdK G env x fun x => rdK G env y fun y => srcK vh es y fun m j => fApp es by' e x m j env vh nx K
  | .copy _ _ _ => False
  | .mx l => rdsF G env l fun
    | .int k a :: l => mxL (fun v => K v env vh nx) a k l
    | _ => False
  | .mn l => rdsF G env l fun
    | .int k a :: l => mnL (fun v => K v env vh nx) a k l
    | _ => False
  | .data _ => False
  | .ustr _ _ _ => False
  | .call g xs => rdsF G env xs fun vs => call g vs vh nx fun v vh nx => K v env vh nx
  | .callv x xs => rdK G env x fun
    | .func g fs cs => rdsF G env xs fun vs => call g (fs ++ vs ++ cs) vh nx fun v vh nx => K v env vh nx
    | _ => False

def fGh (g : Gh) (env : VEnv) (vh : VH) (nx : Nat) (K : VEnv → VH → Nat → Prop) : Prop := match g with
  | .keep l => spine (keepV l env l) fun env => K env vh nx
  | .fz t => (match lk env t with
    | some (.bx l) => K ((t, .fp l 0) :: noLp t env) vh nx
    | _ => K env vh nx)
  | .fzs t es => (match lk env t with
    | some .nils => K ((t, .sl es [] none) :: env) vh nx
    | some (.msl b o n es' c) => bif Nat.beq es es' then Get (hasB vh b) fun p => Owe (0 < es ∧ o + n * es ≤ p.1.length ∧ ∀ x, c = some x → n ≤ x) <| Get (fun ls => isPieces es n (p.1.drop o) ls) fun ls => K ((t, .sl es ls none) :: env) (vdel vh b) nx else False
    | some (.sl es' ls _) => K ((t, .sl es' ls none) :: env) vh nx
    | _ => K env vh nx)
  | .free t => (match lk env t with
    | some (.ptr b _) => K env (vdel vh b) nx
    | some (.msl b _ _ _ _) => K env (vdel vh b) nx
    | _ => K env vh nx)
  | .fza t o es => (match lk env t with
    | some (.agg l) => (match Ev.nth l o with
      | some .nils => spine (l.set o (.sl es [] none)) fun l => K ((t, .agg l) :: env) vh nx
      | some (.msl b p n es' c) => bif Nat.beq es es' then Get (hasB vh b) fun q => Owe (0 < es ∧ p + n * es ≤ q.1.length ∧ ∀ x, c = some x → n ≤ x) <| Get (fun ls => isPieces es n (q.1.drop p) ls) fun ls => spine (l.set o (.sl es ls none)) fun l => K ((t, .agg l) :: env) (vdel vh b) nx else False
      | some (.sl es' ls _) => spine (l.set o (.sl es' ls none)) fun l => K ((t, .agg l) :: env) vh nx
      | _ => K env vh nx)
    | _ => K env vh nx)
def fGhs : List Gh → VEnv → VH → Nat → (VEnv → VH → Nat → Prop) → Prop
  | [], env, vh, nx, K => K env vh nx
  | g :: gs, env, vh, nx, K => fGh g env vh nx fun env vh nx => fGhs gs env vh nx K
def fGuard (env : VEnv) (g : Option (Nat × Bool)) (A B : VEnv → Prop) : Prop := match g with
  | none => A env
  | some (d, b) => match lk env d with
    | some (.bool c) => bif b then CondP c (A ((d, .bool true) :: env)) (B ((d, .bool false) :: env)) else CondP c (B ((d, .bool true) :: env)) (A ((d, .bool false) :: env))
    | some (.tup _) => B env
    | _ => False
def putK (env : VEnv) (d : Option Nat) (v : V) (k : VEnv → Prop) : Prop := match d with
  | none => k env
  | some d => match v with
    | .bx l => spine (noLp d env) fun e => k ((d, .bx l) :: e)
    | .it r p => spine (noLp d env) fun e => k ((d, .it r p) :: e)
    | .lp u o => bif Nat.beq u d then k ((d, .lost) :: env) else k ((d, .lp u o) :: env)
    | v => k ((d, v) :: env)
def fOps (G : Gt) (call : WCall) : List VOper → VEnv → VH → Nat → (VEnv → VH → Nat → Prop) → Prop
  | [], env, vh, nx, K => K env vh nx
  | o :: os, env, vh, nx, K => fGhs o.gh env vh nx fun env vh nx => fGuard env o.guard (fun env => fOp G call o.op env vh nx fun v env vh nx => putK env o.dst v fun env => fOps G call os env vh nx K) (fun env => putK env o.dst V.undef fun env => fOps G call os env vh nx K)
def fEarly (G : Gt) (call : WCall) : List VOper → Nat → VEnv → VH → Nat → List Rec → (VH → Nat → List Rec → Prop) → Prop
  | [], _, _, vh, nx, rs, K => K vh nx rs
  | o :: os, i, env, vh, nx, rs, K => match o.tg with
    | .n _ => fEarly G call os (i + 1) env vh nx rs K
    | .e => fGuard env o.guard (fun env => fOp G call o.op env vh nx fun v _ vh nx => bif V.eqn 8 v then putK env o.dst v fun env' => fEarly G call os (i + 1) env' vh nx (⟨i, env, o.op, v⟩ :: rs) K else False) (fun env => putK env o.dst V.undef fun env => fEarly G call os (i + 1) env vh nx rs K)
def fAgain (G : Gt) (call : WCall) (rs : List Rec) (vh : VH) (nx : Nat) : List Nat → Prop → Prop
  | [], A => A
  | j :: js, A => match recOf j rs with
    | none => fAgain G call rs vh nx js A
    | some r => bif calm G r.env r.op then fAgain G call rs vh nx js A else Owe (r.v.rigid = true ∧ fOp G call r.op r.env vh nx fun v _ _ _ => v = r.v) (fAgain G call rs vh nx js A)
def fMain (G : Gt) (call : WCall) (rs : List Rec) : List VOper → Nat → VEnv → VH → Nat → (VEnv → VH → Nat → Prop) → Prop
  | [], _, env, vh, nx, K => K env vh nx
  | o :: os, i, env, vh, nx, K => match o.tg with
    | .e => (match recOf i rs with
      | some r => putK env o.dst r.v fun env => fMain G call rs os (i + 1) env vh nx K
      | none => putK env o.dst V.undef fun env => fMain G call rs os (i + 1) env vh nx K)
    | .n ck => fGhs o.gh env vh nx fun env vh nx => fGuard env o.guard (fun env => fOp G call o.op env vh nx fun v env vh nx => fAgain G call rs vh nx ck (putK env o.dst v fun env => fMain G call rs os (i + 1) env vh nx K)) (fun env => putK env o.dst V.undef fun env => fMain G call rs os (i + 1) env vh nx K)
def fD (G : Gt) (call : WCall) (os : List VOper) (env : VEnv) (vh : VH) (nx : Nat) (K : VEnv → VH → Nat → Prop) : Prop := spine (dropLoc env) fun env0 => fEarly G call os 0 env0 vh nx [] fun vh nx rs => fMain G call rs os 0 env vh nx K
inductive RKind where
  | norm
  | exit (i : Nat)
  | ret
abbrev FQ := RKind → VEnv → VH → Nat → Prop
def toQ (Q : FQ) : VR → Prop
  | .norm s => Q .norm s.env s.vh s.nx
  | .exit i s => Q (.exit i) s.env s.vh s.nx
  | .ret s => Q .ret s.env s.vh s.nx
def fThen (Q : FQ) (k : VEnv → VH → Nat → Prop) : FQ := fun r env vh nx => match r with
  | .norm => k env vh nx
  | r => Q r env vh nx
def fBlock (id : Nat) (Q : FQ) : FQ := fun r env vh nx => match r with
  | .exit i => bif Nat.beq id i then Q .norm env vh nx else Q (.exit i) env vh nx
  | r => Q r env vh nx

def fC (G : Gt) (call : WCall) (loop : VCode → VEnv → VH → Nat → FQ → Prop) : VCode → VEnv → VH → Nat → FQ → Prop
  | .skip, env, vh, nx, Q => Q .norm env vh nx
  | .ret, env, vh, nx, Q => Q .ret env vh nx
  | .exit i, env, vh, nx, Q => Q (.exit i) env vh nx
  | .seq a b, env, vh, nx, Q => fC G call loop a env vh nx (fThen Q fun env vh nx => fC G call loop b env vh nx Q)
  | .cond x a b, env, vh, nx, Q => rdK G env x fun
    | .bool c => CondP c (fC G call loop a env vh nx Q) (fC G call loop b env vh nx Q)
    | _ => False
  | .block i b, env, vh, nx, Q => fC G call loop b env vh nx (fBlock i Q)
  | .loop b, env, vh, nx, Q => loop (.loop b) env vh nx Q
  | .scope b, env, vh, nx, Q => fC G call loop b env vh nx Q
  | .cut b, env, vh, nx, Q => loop (.cut b) env vh nx Q
  | .gsk gh, env, vh, nx, Q => fGhs gh env vh nx fun env vh nx => Q .norm env vh nx
  | .reg d ops gh, env, vh, nx, Q => bif Nat.beq d 2 then fD G call ops env vh nx (fun env vh nx => fGhs gh env vh nx fun env vh nx => Q .norm env vh nx) else fOps G call ops env vh nx fun env vh nx => fGhs gh env vh nx fun env vh nx => Q .norm env vh nx

section
variable {P : Program} {X : Ovr} {G : Gt} {call : WCall}
def fK (K : V → VEnv → VH → Nat → Prop) : V → St → Prop := fun v s => K v s.env s.vh s.nx
def fS (K : VEnv → VH → Nat → Prop) : St → Prop := fun s => K s.env s.vh s.nx
theorem fApp_eq {es b : Nat} {e : TypeId} {x : V} {m : List V} {j : Nat} {env : VEnv} {vh : VH} {nx : Nat} {k : V → VEnv → VH → Nat → Prop} : fApp es b e x m j env vh nx k = appK es b e x m j ⟨env, vh, nx⟩ (fK k) := by
  cases x <;> try rfl
theorem fOp_eq {o : VOp} {env : VEnv} {vh : VH} {nx : Nat} {K : V → VEnv → VH → Nat → Prop} : fOp G call o env vh nx K = vcOp G call o ⟨env, vh, nx⟩ (fK K) := by
  cases o <;> try rfl
theorem fGh_eq {g : Gh} {env : VEnv} {vh : VH} {nx : Nat} {K : VEnv → VH → Nat → Prop} : fGh g env vh nx K = vcGh g ⟨env, vh, nx⟩ (fS K) := by
  cases g <;> rfl
theorem fGhs_eq : ∀ {gs : List Gh} {env : VEnv} {vh : VH} {nx : Nat} {K : VEnv → VH → Nat → Prop}, fGhs gs env vh nx K = vcGhs gs ⟨env, vh, nx⟩ (fS K)
  | [], _, _, _, _ => rfl
  | g :: gs, env, vh, nx, K => by
    simp only [fGhs, vcGhs, fGh_eq]
    congr 1
    funext s
    exact fGhs_eq (gs := gs)
theorem putK_eq {env : VEnv} {d : Option Nat} {v : V} {vh : VH} {nx : Nat} {k : VEnv → VH → Nat → Prop} : putK env d v (fun e => k e vh nx) = fS k (put ⟨env, vh, nx⟩ d v) := by
  cases d with
  | none => rfl
  | some d =>
    cases v <;> try rfl
    case lp u o =>
      simp only [putK, put, putV, fS]
      cases Nat.beq u d <;> rfl
    case bx l => simp only [putK, spine_eq]; rfl
    case it r p => simp only [putK, spine_eq]; rfl
theorem fGuard_eq {env : VEnv} {vh : VH} {nx : Nat} {g : Option (Nat × Bool)} {A B : VEnv → Prop} {A' B' : St → Prop} (ha : ∀ env, A env = A' ⟨env, vh, nx⟩) (hb : ∀ env, B env = B' ⟨env, vh, nx⟩) : fGuard env g A B = guardK ⟨env, vh, nx⟩ g A' B' := by
  unfold fGuard guardK
  cases g with
  | none => exact ha env
  | some q =>
    obtain ⟨d, b⟩ := q
    simp only [ha, hb]
    cases lk env d with
    | none => rfl
    | some v => cases v <;> rfl
theorem fOps_eq : ∀ {os : List VOper} {env : VEnv} {vh : VH} {nx : Nat} {K : VEnv → VH → Nat → Prop}, fOps G call os env vh nx K = vcOps G call os ⟨env, vh, nx⟩ (fS K)
  | [], _, _, _, _ => rfl
  | o :: os, env, vh, nx, K => by
    simp only [fOps, vcOps, fGhs_eq]
    congr 1
    funext s
    obtain ⟨env, vh, nx⟩ := s
    simp only [fS]
    refine fGuard_eq (fun env => ?_) (fun env => ?_)
    · rw [fOp_eq]
      congr 1
      funext v s
      obtain ⟨env, vh, nx⟩ := s
      simp only [fK]
      rw [putK_eq (k := fun env vh nx => fOps G call os env vh nx K)]
      simp only [fS]
      exact fOps_eq (os := os)
    · rw [putK_eq (k := fun env vh nx => fOps G call os env vh nx K)]
      simp only [fS]
      exact fOps_eq (os := os)
theorem fEarly_eq : ∀ {os : List VOper} {i : Nat} {env : VEnv} {vh : VH} {nx : Nat} {rs : List Rec} {K : VH → Nat → List Rec → Prop}, fEarly G call os i env vh nx rs K = earlyK G call os i ⟨env, vh, nx⟩ rs fun s rs => K s.vh s.nx rs
  | [], _, _, _, _, _, _ => rfl
  | o :: os, i, env, vh, nx, rs, K => by
    simp only [fEarly, earlyK]
    cases o.tg with
    | n ck => exact fEarly_eq (os := os)
    | e =>
      refine fGuard_eq (fun env => ?_) (fun env => ?_)
      · rw [fOp_eq]
        congr 1
        funext v s
        obtain ⟨env', vh, nx⟩ := s
        simp only [fK]
        cases V.eqn 8 v with
        | false => rfl
        | true =>
          simp only [cond_true]
          rw [putK_eq (k := fun env2 vh nx => fEarly G call os (i + 1) env2 vh nx (⟨i, env, o.op, v⟩ :: rs) K)]
          simp only [fS]
          exact fEarly_eq (os := os)
      · rw [putK_eq (k := fun env vh nx => fEarly G call os (i + 1) env vh nx rs K)]
        simp only [fS]
        exact fEarly_eq (os := os)
theorem fAgain_eq {rs : List Rec} {env : VEnv} {vh : VH} {nx : Nat} : ∀ {js : List Nat} {A : Prop}, fAgain G call rs vh nx js A = again G call rs ⟨env, vh, nx⟩ js A
  | [], _ => rfl
  | j :: js, A => by
    simp only [fAgain, again]
    cases recOf j rs with
    | none => exact fAgain_eq (js := js)
    | some r =>
      have ih := fAgain_eq (rs := rs) (env := env) (vh := vh) (nx := nx) (js := js) (A := A)
      simp only [fOp_eq, ih]
      rfl
theorem fMain_eq {rs : List Rec} : ∀ {os : List VOper} {i : Nat} {env : VEnv} {vh : VH} {nx : Nat} {K : VEnv → VH → Nat → Prop}, fMain G call rs os i env vh nx K = mainK G call rs os i ⟨env, vh, nx⟩ (fS K)
  | [], _, _, _, _, _ => rfl
  | o :: os, i, env, vh, nx, K => by
    have hp : ∀ (env : VEnv) (v : V) (vh : VH) (nx : Nat), (putK env o.dst v fun env => fMain G call rs os (i + 1) env vh nx K) = mainK G call rs os (i + 1) (put ⟨env, vh, nx⟩ o.dst v) (fS K) := fun env v vh nx => by
      rw [putK_eq (k := fun env vh nx => fMain G call rs os (i + 1) env vh nx K)]
      simp only [fS]
      exact fMain_eq (os := os)
    simp only [fMain, mainK]
    cases o.tg with
    | e =>
      simp only
      cases recOf i rs with
      | none => exact hp _ _ _ _
      | some r => exact hp _ _ _ _
    | n ck =>
      simp only [fGhs_eq]
      congr 1
      funext s
      obtain ⟨env, vh, nx⟩ := s
      simp only [fS]
      refine fGuard_eq (fun env => ?_) (fun env => ?_)
      · rw [fOp_eq]
        congr 1
        funext v s
        obtain ⟨env, vh, nx⟩ := s
        simp only [fK]
        rw [fAgain_eq (env := env), hp]
      · exact hp _ _ _ _
theorem fD_eq {os : List VOper} {env : VEnv} {vh : VH} {nx : Nat} {K : VEnv → VH → Nat → Prop} : fD G call os env vh nx K = vcD G call os ⟨env, vh, nx⟩ (fS K) := by
  unfold fD vcD
  rw [spine_eq, fEarly_eq]
  congr 1
  funext s rs
  exact fMain_eq
theorem toQ_then {Q : FQ} {k : VEnv → VH → Nat → Prop} : toQ (fThen Q k) = thenQ (toQ Q) (fS k) := by
  funext r
  cases r <;> rfl
theorem toQ_block {Q : FQ} {i : Nat} : toQ (fBlock i Q) = blockQ i (toQ Q) := by
  funext r
  cases r <;> try rfl
end
section
variable (P : Program) (X : Ovr) (G : Gt)

structure FLoop (c : VCode) (env : VEnv) (vh : VH) (nx : Nat) (Q : FQ) : Prop where
  out : WpV P X G c ⟨env, vh, nx⟩ (toQ Q)
abbrev fc (v : VCode) (env : VEnv) (vh : VH) (nx : Nat) (Q : FQ) : Prop := fC G (WpCall P X G) (FLoop P X G) v env vh nx Q
end
section
variable {P : Program} {X : Ovr} {G : Gt}
theorem fc_eq : ∀ {v : VCode} {env : VEnv} {vh : VH} {nx : Nat} {Q : FQ}, fc P X G v env vh nx Q = vc P X G v ⟨env, vh, nx⟩ (toQ Q)
  | .skip, _, _, _, _ => rfl
  | .ret, _, _, _, _ => rfl
  | .exit i, _, _, _, _ => rfl
  | .seq a b, env, vh, nx, Q => by
    have h1 := fc_eq (v := a) (env := env) (vh := vh) (nx := nx) (Q := fThen Q fun env vh nx => fc P X G b env vh nx Q)
    rw [toQ_then] at h1
    have h2 : (fS fun env vh nx => fc P X G b env vh nx Q) = fun s => vc P X G b s (toQ Q) := by
      funext s
      exact fc_eq (v := b)
    rw [h2] at h1
    exact h1
  | .cond x a b, env, vh, nx, Q => by
    have h1 := fc_eq (v := a) (env := env) (vh := vh) (nx := nx) (Q := Q)
    have h2 := fc_eq (v := b) (env := env) (vh := vh) (nx := nx) (Q := Q)
    show (rdK G env x fun | .bool c => CondP c (fc P X G a env vh nx Q) (fc P X G b env vh nx Q) | _ => False) = _
    rw [h1, h2]
    rfl
  | .block i b, env, vh, nx, Q => by
    have h1 := fc_eq (v := b) (env := env) (vh := vh) (nx := nx) (Q := fBlock i Q)
    rw [toQ_block] at h1
    exact h1
  | .loop b, _, _, _, _ => propext ⟨fun h => h.out, fun h => ⟨h⟩⟩
  | .scope b, _, _, _, _ => fc_eq (v := b)
  | .cut b, _, _, _, _ => propext ⟨fun h => h.out, fun h => ⟨h⟩⟩
  | .gsk gh, env, vh, nx, Q => fGhs_eq
  | .reg d ops gh, env, vh, nx, Q => by
    have h1 : (fS fun env vh nx => fGhs gh env vh nx fun env vh nx => Q .norm env vh nx) = fun s => vcGhs gh s fun s => toQ Q (.norm s) := by
      funext s
      exact fGhs_eq
    show (bif Nat.beq d 2 then fD G (WpCall P X G) ops env vh nx _ else fOps G (WpCall P X G) ops env vh nx _) = (bif Nat.beq d 2 then vcD G (WpCall P X G) ops _ _ else vcOps G (WpCall P X G) ops _ _)
    rw [fOps_eq, fD_eq, h1]

theorem FLoop.round {b : VCode} {env : VEnv} {vh : VH} {nx : Nat} {Q : FQ} (h : fc P X G b env vh nx (fThen Q fun env vh nx => FLoop P X G (.loop b) env vh nx Q)) : FLoop P X G (.loop b) env vh nx Q := by
  refine ⟨.round ?_⟩
  rw [fc_eq, toQ_then] at h
  have : (fS fun env vh nx => FLoop P X G (.loop b) env vh nx Q) = fun s => WpV P X G (.loop b) s (toQ Q) := by
    funext s
    exact propext ⟨fun h => h.out, fun h => ⟨h⟩⟩
  rw [this] at h
  exact h
theorem FLoop.cut {b : VCode} {env : VEnv} {vh : VH} {nx : Nat} {Q : FQ} (h : fc P X G b env vh nx Q) : FLoop P X G (.cut b) env vh nx Q := by
  rw [fc_eq] at h
  exact ⟨.cut h⟩
theorem FLoop.mono {c : VCode} {env : VEnv} {vh : VH} {nx : Nat} {Q Q' : FQ} (h : FLoop P X G c env vh nx Q) (hq : ∀ r env vh nx, Q r env vh nx → Q' r env vh nx) : FLoop P X G c env vh nx Q' :=
  ⟨h.out.mono fun r hr => by cases r <;> exact hq _ _ _ _ hr⟩
def fFin (G : Gt) (rs : List VRes) (Q : V → VH → Nat → Prop) : FQ := fun r env vh nx => match r with
  | .norm => finK G rs Q ⟨env, vh, nx⟩
  | .ret => finK G rs Q ⟨env, vh, nx⟩
  | .exit _ => False
theorem toQ_fin {rs : List VRes} {Q : V → VH → Nat → Prop} : toQ (fFin G rs Q) = finQ G rs Q := by
  funext r
  cases r <;> rfl
theorem Fits.run {f : FuncId} {v : VCode} {rs : List VRes} (F : Fits P f v rs) (hX : X f = none) {vs : List V} {vh : VH} {vn : Nat} {Q : V → VH → Nat → Prop} (hk : fc P X G v (argsE vs 0) vh vn (fFin G rs Q)) : WpCall P X G f vs vh vn Q := by
  rw [fc_eq, toQ_fin] at hk
  exact F.call hX hk
end
end Go.VL

namespace Go.VL
open Go.Ev

def SlIn {α : Type} (enc : α → List V) (es : Nat) (ty : TypeId) (lo : Nat) (vh : VH) (nx : Nat) (v : V) (xs : List α) : Prop :=
  ((v = .nils ∨ v = .sl es [] (some 0)) ∧ xs = []) ∨ ∃ b, lo ≤ b ∧ b < nx ∧ v = .msl b 0 xs.length es none ∧ vh b = some (.cells (xs.map enc).flatten ty 0 false)
def blkOf : V → Nat → Prop
  | .msl b _ _ _ _, c => c = b
  | .ptr b _, c => c = b
  | _, _ => False
section
variable {α : Type} {enc : α → List V} {es by' : Nat} {ty : TypeId} {lo : Nat} {vh : VH} {nx : Nat} {v : V} {xs : List α}
theorem flat_len (hl : ∀ a, (enc a).length = es) : ∀ xs : List α, (xs.map enc).flatten.length = xs.length * es
  | [] => by simp
  | a :: xs => by simp only [List.map_cons, List.flatten_cons, List.length_append, hl, flat_len hl xs, List.length_cons, Nat.add_mul]; omega
theorem flat_drop (hl : ∀ a, (enc a).length = es) : ∀ (xs : List α) (i : Nat), (xs.map enc).flatten.drop (i * es) = ((xs.drop i).map enc).flatten
  | xs, 0 => by simp
  | [], i + 1 => by simp
  | a :: xs, i + 1 => by
    simp only [List.map_cons, List.flatten_cons, List.drop_succ_cons]
    rw [← flat_drop hl xs i, Nat.add_mul, Nat.one_mul, Nat.add_comm, ← hl a, List.drop_append]
    simp
theorem flat_take (hl : ∀ a, (enc a).length = es) (xs : List α) (i : Nat) (h : i < xs.length) : ((xs.map enc).flatten.drop (i * es)).take es = enc xs[i] := by
  rw [flat_drop hl, ← List.getElem_cons_drop h, List.map_cons, List.flatten_cons, ← hl xs[i], List.take_left]
theorem flat_get (hl : ∀ a, (enc a).length = es) (xs : List α) (i f : Nat) (h : i < xs.length) (hf : f < es) : (xs.map enc).flatten[i * es + f]? = (enc xs[i])[f]? := by
  rw [← List.getElem?_drop, flat_drop hl, ← List.getElem_cons_drop h, List.map_cons, List.flatten_cons, List.getElem?_append_left (by rw [hl]; exact hf)]
theorem flat_lt (hl : ∀ a, (enc a).length = es) (xs : List α) (i : Nat) (h : i < xs.length) : i * es + es ≤ (xs.map enc).flatten.length := by
  rw [flat_len hl]
  have : (i + 1) * es ≤ xs.length * es := Nat.mul_le_mul_right es h
  rw [Nat.add_mul, Nat.one_mul] at this
  exact this

def SlR {α : Type} (enc : α → List V) (es : Nat) (vh : VH) (v : V) (xs : List α) : Prop :=
  (xs = [] ∧ v = .nils) ∨ (xs = [] ∧ v = .sl es [] (some 0)) ∨ ∃ b ty, v = .msl b 0 xs.length es none ∧ vh b = some (.cells (xs.map enc).flatten ty 0 false)
theorem SlIn.r (A : SlIn enc es ty lo vh nx v xs) : SlR enc es vh v xs := by
  rcases A with ⟨h1 | h1, h2⟩ | ⟨b, _, _, h3, h4⟩
  · exact .inl ⟨h2, h1⟩
  · exact .inr (.inl ⟨h2, h1⟩)
  · exact .inr (.inr ⟨b, ty, h3, h4⟩)
theorem SlIn.nil : SlIn enc es ty lo vh nx .nils [] := .inl ⟨.inl rfl, rfl⟩
theorem SlIn.mono {vh' : VH} {nx' : Nat} (A : SlIn enc es ty lo vh nx v xs) (hn : nx ≤ nx') (hv : ∀ c, lo ≤ c → c < nx → blkOf v c → vh' c = vh c) : SlIn enc es ty lo vh' nx' v xs := by
  rcases A with A | ⟨b, h1, h2, h3, h4⟩
  · exact .inl A
  · refine .inr ⟨b, h1, by omega, h3, ?_⟩
    rw [hv b h1 h2 (by rw [h3]; exact rfl), h4]
theorem SlIn.app (hl : ∀ a, (enc a).length = es) (h0 : 0 < es) (A : SlIn enc es ty lo vh nx v xs) (hlo : lo ≤ nx) (a : α) (hroom : room by' (xs.length + 1)) {env : VEnv} {k : V → VEnv → VH → Nat → Prop}
    (hk : ∀ vh', SlIn enc es ty lo vh' (nx + 1) (.msl nx 0 (xs.length + 1) es none) (xs ++ [a]) → (∀ c, c ≠ nx → ¬ blkOf v c → vh' c = vh c) → k (.msl nx 0 (xs.length + 1) es none) env vh' (nx + 1)) : fApp es by' ty v (enc a) 1 env vh nx k := by
  rcases A with ⟨rfl | rfl, rfl⟩ | ⟨b, h1, h2, rfl, h4⟩
  · refine CondP.ff ⟨hroom, hk _ (.inr ⟨nx, hlo, by omega, rfl, ?_⟩) fun c hc _ => vset_ne hc⟩
    rw [vset_same]; simp
  · simp only [fApp, beq_iff.2 (rfl : es = es), cond_true]
    refine CondP.ff ⟨⟨by simp, hroom⟩, hk _ (.inr ⟨nx, hlo, by omega, rfl, ?_⟩) fun c hc _ => vset_ne hc⟩
    rw [vset_same]; simp
  · simp only [fApp, beq_iff.2 (rfl : es = es), cond_true]
    refine CondP.ff ⟨((xs.map enc).flatten, ty, 0, false), h4, ?_⟩
    simp only
    have hfl := flat_len hl xs
    have hdv : ((xs.map enc).flatten.length - 0) / es = xs.length := by rw [hfl, Nat.sub_zero, Nat.mul_div_cancel _ h0]
    have hn : Nat.ble (xs.length + 1) (((xs.map enc).flatten.length - 0) / es) = false := by
      rw [hdv]
      cases hb : Nat.ble (xs.length + 1) xs.length with
      | false => rfl
      | true => have := ble_iff.1 hb; omega
    rw [hn]
    refine CondP.ff ⟨⟨trivial, by rw [hfl]; exact Nat.le_refl _, Nat.zero_le _, trivial, hroom⟩, ?_⟩
    refine hk _ (.inr ⟨nx, hlo, by omega, by simp, ?_⟩) fun c hc hb => ?_
    · rw [vset_same, List.take_of_length_le (by rw [hfl]; exact Nat.le_refl _)]
      simp [fzOff]
    · rw [vset_ne hc, vdel_ne hb]
theorem SlIn.app' (hl : ∀ a, (enc a).length = es) (h0 : 0 < es) (A : SlIn enc es ty lo vh nx v xs) (hlo : lo ≤ nx) (a : α) (hroom : room by' (xs.length + 1)) {env : VEnv} {k : V → VEnv → VH → Nat → Prop}
    (hk : ∀ vh', vh' nx = some (.cells ((xs ++ [a]).map enc).flatten ty 0 false) → (∀ c, c ≠ nx → ¬ blkOf v c → vh' c = vh c) → k (.msl nx 0 (xs ++ [a]).length es none) env vh' (nx + 1)) : fApp es by' ty v (enc a) 1 env vh nx k := by
  refine A.app hl h0 hlo a hroom fun vh' A' hf => ?_
  have e : xs.length + 1 = (xs ++ [a]).length := by simp
  rw [e] at A' ⊢
  refine hk vh' ?_ hf
  rcases A' with ⟨h | h, _⟩ | ⟨bz, h1, h2, h3, h4⟩
  · cases h
  · cases h
  · have := (V.msl.inj h3).1
    rw [this]; exact h4
theorem SlIn.fresh {ls : List (List V)} (hz : ls = xs.map enc) (hlo : lo ≤ nx) (hroom : room by' xs.length) {env : VEnv} {k : V → VEnv → VH → Nat → Prop}
    (hk : ∀ v' vh' nx', SlIn enc es ty lo vh' nx' v' xs → nx ≤ nx' → (∀ c, c ≠ nx → vh' c = vh c) → k v' env vh' nx') : fApp es by' ty (.sl es [] (some 0)) ls.flatten ls.length env vh nx k := by
  subst hz
  simp only [fApp, beq_iff.2 (rfl : es = es), cond_true]
  refine .mk (fun h => ?_) fun h => ?_
  · have h0 := beq_iff.1 h
    have h1 : xs = [] := by simpa using h0
    exact hk _ _ _ (.inl ⟨.inr rfl, h1⟩) (Nat.le_refl _) fun _ _ => rfl
  · have h0 := beq_false.1 h
    simp only [List.length_map, List.length_nil, Nat.zero_add] at h0 ⊢
    refine ⟨⟨by omega, hroom⟩, hk _ _ _ (.inr ⟨nx, hlo, by omega, rfl, ?_⟩) (by omega) fun c hc => vset_ne hc⟩
    rw [vset_same]; simp
theorem fz_owe (hl : ∀ a, (enc a).length = es) (h0 : 0 < es) : 0 < es ∧ 0 + xs.length * es ≤ (xs.map enc).flatten.length ∧ ∀ x, (none : Option Nat) = some x → xs.length ≤ x :=
  ⟨h0, by rw [flat_len hl]; omega, nofun⟩
theorem fz_pieces (hl : ∀ a, (enc a).length = es) : isPieces es xs.length ((xs.map enc).flatten.drop 0) (xs.map enc) := by
  refine ⟨?_, by simp, fun x hx => ?_⟩
  · rw [List.drop_zero, List.take_of_length_le (by rw [flat_len hl]; exact Nat.le_refl _)]
  · obtain ⟨a, _, rfl⟩ := List.mem_map.1 hx
    exact hl a
end
theorem Get.lit {α : Type} {ls : List (List V)} {f : α → List V} {n : Int} {zs : List α} (hz : ls = zs.map f) (h0 : 0 ≤ n) (h1 : n < zs.length) {k : Nat × List V → Prop} (hk : ∀ h : n.toNat < zs.length, k (n.toNat, f zs[n.toNat])) : Get (fun p : Nat × List V => n = (p.1 : Int) ∧ ls[p.1]? = some p.2) k := by
  have hlt : n.toNat < zs.length := by omega
  refine .mk (n.toNat, f zs[n.toNat]) ⟨by simp only; omega, ?_⟩ (hk hlt)
  subst hz
  simp [hlt]
theorem wr64 {x : Int} (h1 : -9223372036854775808 ≤ x) (h2 : x < 9223372036854775808) : wr .i64 x = x := by
  rw [wr_eq]
  simp only [IntKind.wrap, IntKind.signed, IntKind.bits]
  by_cases h : x % 2 ^ (64:Nat) ≥ 2 ^ ((64:Nat) - 1)
  · simp only [h, decide_true, Bool.and_self, if_true]; omega
  · simp only [h, decide_false, Bool.and_false, Bool.false_eq_true, if_false]; omega
theorem wr32 {x : Int} (h1 : -2147483648 ≤ x) (h2 : x < 2147483648) : wr .i32 x = x := by
  rw [wr_eq]
  simp only [IntKind.wrap, IntKind.signed, IntKind.bits]
  by_cases h : x % 2 ^ (32:Nat) ≥ 2 ^ ((32:Nat) - 1)
  · simp only [h, decide_true, Bool.and_self, if_true]; omega
  · simp only [h, decide_false, Bool.and_false, Bool.false_eq_true, if_false]; omega
theorem wru64 {x : Int} (h1 : 0 ≤ x) (h2 : x < 18446744073709551616) : wr .u64 x = x := by
  rw [wr_eq]
  simp only [IntKind.wrap, IntKind.signed, IntKind.bits]
  simp
  omega
theorem wru64_lt {x : Int} : 0 ≤ wr .u64 x ∧ wr .u64 x < 18446744073709551616 := by
  rw [wr_eq]
  simp only [IntKind.wrap, IntKind.signed, IntKind.bits]
  simp
  omega
theorem wr64_lt {x : Int} : -9223372036854775808 ≤ wr .i64 x ∧ wr .i64 x < 9223372036854775808 := by
  rw [wr_eq]
  simp only [IntKind.wrap, IntKind.signed, IntKind.bits]
  by_cases h : x % 2 ^ (64:Nat) ≥ 2 ^ ((64:Nat) - 1)
  · simp only [h, decide_true, Bool.and_self, if_true]; omega
  · simp only [h, decide_false, Bool.and_false, Bool.false_eq_true, if_false]; omega
theorem u_rem {x m : Int} (hx : 0 ≤ x) (hm : 0 < m) : 0 ≤ x.tmod m ∧ x.tmod m < m := by
  rw [Int.tmod_eq_emod_of_nonneg hx]
  exact ⟨Int.emod_nonneg x (by omega : m ≠ 0), Int.emod_lt_of_pos x hm⟩
end Go.VL

namespace Go.VL
open Go.Ev Go.RowKit

section
variable {P : Program}

theorem told_grown {X : Ovr} (hX : OvrSound P X) (hc : noCount P = true) {f : FuncId} {n g : Nat} {l : List AV} {e : TypeId} {fz : Nat} {raw : Bool} (hl : l.all isInt = true) (hg : g < P.globals.size)
    {h' : H} {nx' : Nat} (hr : evCall P X n f [] ((Tr.e : H).set g (.cells l e fz raw)) P.globals.size = .ok (.bool true) h' nx') (hh' : h'.get g = some (.cells l e fz raw)) {h : H} {nx : Nat} (hh : h.get g = some (.cells l e fz raw)) {σ : Map} {w : World} (rh : RH σ h w) (gl : GlobOk P σ) :
    CallOk P f #[] w (fun u w' => Ext (Rg nx nx) σ h w σ h w' ∧ u = .bool true) := by
  obtain ⟨L, hL, hb⟩ := rh.blk g _ hh
  have hget : ∀ i A, ((Tr.e : H).set g (.cells l e fz raw)).get i = some A → i = g ∧ A = .cells l e fz raw := fun i A hi => by
    rw [Tr.get_set] at hi
    by_cases ei : i = g
    · simp only [ei, if_true, Option.some.injEq] at hi
      exact ⟨ei, hi.symm⟩
    · simp only [ei, if_false, Tr.get_e] at hi
      cases hi
  have rh0 : RH (σ.low P.globals.size) ((Tr.e : H).set g (.cells l e fz raw)) w := by
    refine ⟨fun i A hi => ?_, fun i j A B M M' hi hj _ _ _ => (hget i A hi).1.trans (hget j B hj).1.symm, fun i M hi => rh.old i M (Map.low_le _ _ _ _ hi)⟩
    obtain ⟨rfl, rfl⟩ := hget i A hi
    exact ⟨L, by rw [Map.low_at hg]; exact hL, RB.ints hl hb⟩
  have bd0 : Bd (σ.low P.globals.size) P.globals.size := fun i hi => by simp [Map.low, Nat.not_lt.2 hi]
  have gl0 : GlobOk P (σ.low P.globals.size) := fun i hi => by rw [Map.low_at hi]; exact gl i hi
  refine (evCall_sound hX hc n f [] _ _ _ h' nx' hr _ w [] rh0 bd0 gl0 .nil).mono ?_
  rintro u w' ⟨τ, E, _, hu⟩
  cases hu
  refine ⟨?_, rfl⟩
  have hτ : τ g = some L := E.le g L (by rw [Map.low_at hg]; exact hL)
  obtain ⟨M, hM, hbM⟩ := E.rh.blk g _ hh'
  rw [hτ] at hM
  cases hM
  have other : ∀ B, B < w.heap.size → B ≠ L.b → w'.heap[B]? = w.heap[B]? := fun B hB hne => E.unch B hB fun i A M hi hM hb' => by
    obtain ⟨rfl, rfl⟩ := hget i A hi
    rw [Map.low_at hg, hL] at hM
    cases hM
    exact hne hb'.symm
  have at_g : (AB.cells l e fz raw).ro = true → w'.heap[L.b]? = w.heap[L.b]? := fun hro => (E.keep g _ L (by rw [Tr.get_set]; simp) hro (by rw [Map.low_at hg]; exact hL)).1
  refine ⟨Map.le_refl _, ⟨fun i A hi => ?_, rh.inj, fun i M hi => Nat.lt_of_lt_of_le (rh.old i M hi) E.size⟩, E.size, fun B hB hno => other B hB fun e => hno g _ L hh hL e.symm, fun _ _ h => .inl h, fun _ A _ h _ => ⟨A, h⟩, E.rest, fun i A M h1 h2 h3 => ⟨?_, h1⟩⟩
  · obtain ⟨M, k1, k2⟩ := rh.blk i A hi
    by_cases ei : i = g
    · subst ei
      rw [hh] at hi
      cases hi
      rw [hL] at k1
      cases k1
      exact ⟨L, hL, RB.ints hl hbM⟩
    · exact ⟨M, k1, k2.mono (Map.le_refl _) (other M.b (rh.old i M k1) fun e => ei (rh.inj i g A _ M L hi hh k1 hL e))⟩
  · by_cases ei : i = g
    · subst ei
      rw [hh] at h1
      cases h1
      rw [hL] at h3
      cases h3
      exact at_g h2
    · exact other M.b (rh.old i M h3) fun e => ei (rh.inj i g A _ M L h1 hh h3 hL e)
def trueAt (g : Nat) : CR → Option AB
  | .ok (.bool true) h _ => h.get g
  | _ => none
theorem trueAt_ok {g : Nat} {r : CR} {A : AB} (h : trueAt g r = some A) : ∃ h' nx', r = .ok (.bool true) h' nx' ∧ h'.get g = some A := by
  cases r with
  | ok v h' nx' =>
    cases v with
    | bool b => cases b with
      | true => exact ⟨h', nx', rfl, h⟩
      | false => cases h
    | _ => cases h
  | bad => cases h

def kToldG (g : Nat) : Ent := fun args h nx => match args with
  | [] => (match h.get g with
    | some (.cells [.int .i64 _] _ _ _) => .ok (.bool true) h nx
    | _ => .bad)
  | _ => .bad
theorem kToldG_ok {X : Ovr} (hX : OvrSound P X) (hc : noCount P = true) {f : FuncId} {n g : Nat} (hg : g < P.globals.size)
    (hrun : ∀ m e fz raw, trueAt g (evCall P X n f [] ((Tr.e : H).set g (.cells [.int .i64 m] e fz raw)) P.globals.size) = some (.cells [.int .i64 m] e fz raw)) : EntryOk P f (kToldG g) := by
  intro args h nx v h' nx' hr σ w vs rh bd gl hvs
  unfold kToldG at hr
  split at hr
  · cases hvs
    split at hr
    · rename_i m e fz raw hh
      cases hr
      obtain ⟨h2, n2, k1, k2⟩ := trueAt_ok (hrun m e fz raw)
      refine (told_grown hX hc (l := [.int .i64 m]) rfl hg k1 k2 (nx := nx) hh rh gl).mono ?_
      rintro u w' ⟨E, rfl⟩
      exact ⟨σ, E, Nat.le_refl _, .bool true⟩
    · cases hr
  · cases hr
theorem told_wp {X : Ovr} {G : Gt} {f : FuncId} {g : Nat} (hX : X f = some (kToldG g)) (hG : ∃ m, G g = some [.int .i64 m]) (vh : VH) (vn : Nat) :
    WpCall P X G f [] vh vn fun v vh' vn' => v = .bool true ∧ vh' = vh ∧ vn' = vn := by
  refine ⟨fun w h an us hg hr hd => ?_⟩
  obtain ⟨m, hm⟩ := hG
  obtain ⟨L, hK, hL⟩ := hg g _ hm
  obtain ⟨e, fz, raw, hh⟩ := hr.frz g L hK
  cases hd
  cases hL with | cons _ a _ _ ha hl =>
  cases ha
  cases hl
  refine ⟨.bool true, vh, vn, .bool true, h, an, w, ⟨rfl, rfl, rfl⟩, ⟨1, fun k hk => ?_⟩, hr, .bool true, .refl fun _ h => .inl h⟩
  obtain ⟨k, rfl⟩ : ∃ j, k = j + 1 := ⟨k - 1, by omega⟩
  simp only [evCall, hX, kToldG, hh]

def wOf (h : H) : Wd := ⟨fun _ => none, fun i => match h.get i with | some (.cells l _ _ _) => some l | _ => none⟩
theorem wOf_hr {h : H} {nx vn : Nat} {σ : Map} {W : World} (rh : RH σ h W) (bd : Bd σ nx) : HR (wOf h) (fun _ => none) vn h nx := by
  refine ⟨fun b B e => (by cases e), fun b c i e => (by cases e), fun i L e => ?_, fun b i e => (by cases e), fun i L e => ?_⟩
  · simp only [wOf] at e
    split at e
    · rename_i l t fz raw hb
      cases e
      exact ⟨_, _, _, hb⟩
    · cases e
  · simp only [wOf] at e
    split at e
    · rename_i l t fz raw hb
      obtain ⟨M, hM, _⟩ := rh.blk i _ hb
      rcases Nat.lt_or_ge i nx with h | h
      · exact h
      · rw [bd i h] at hM; cases hM
    · cases e
theorem Ext.below' {N : Nat → Prop} {σ σ' : Map} {h h' : H} {W w' : World} (hro : ∀ i A, h.get i = some A → A.ro = true) (e : Ext N σ h W σ' h' w') : Below W.heap.size W w' := by
  refine ⟨e.rest.1, e.rest.2.2, e.rest.2.1, e.size, fun k hk => ?_⟩
  by_cases hin : ∃ i A M, h.get i = some A ∧ σ i = some M ∧ M.b = k
  · obtain ⟨i, A, M, h1, h2, rfl⟩ := hin
    exact (e.keep i A M h1 (hro i A h1) h2).1
  · exact e.unch k hk fun i A M h1 h2 h3 => hin ⟨i, A, M, h1, h2, h3⟩

theorem top_ok {X : Ovr} (hX : OvrSound P X) (hc : noCount P = true) {f : FuncId} {fn : Func} {c : Code} (hf : P.funcs[f]? = some fn) (hb : fn.body = some c) {W : World} {σ : Map} {h : H} {nx vn : Nat} (rh : RH σ h W) (bd : Bd σ nx) (gl : GlobOk P σ) (hro : ∀ i A, h.get i = some A → A.ro = true)
    {G : Gt} (hG : GtOk G (wOf h)) {vs : List V} {us : List AV} {args : List Value} (hd : Dens (wOf h) vs us) (ha : RVs σ us args) (hw : WpCall P X G f vs (fun _ => none) vn fun v _ _ => v = .bool true) :
    Calls P f args.toArray W (fun e w' => e = .returned (.bool true) ∧ Below W.heap.size W w') := by
  obtain ⟨v, vh', vn', a, h', an', w', rfl, ⟨N, hev⟩, hr', hd', st⟩ := hw.out (wOf h) h nx us hG (wOf_hr rh bd) hd
  cases hd'
  have key := evCall_sound hX hc N f us _ _ _ h' an' (hev N (Nat.le_refl _)) _ W args rh bd gl ha
  rcases key with ⟨_, h2⟩ | ⟨u, w', h1, _⟩
  · refine h2.mono ?_
    rintro e w' ⟨u, rfl, σ', h3, _, h4⟩
    cases h4
    exact ⟨rfl, Ext.below' hro h3⟩
  · exfalso
    have h5 : fn.name = "runtime.NumGoroutine" ∨ (callFunc f args.toArray).run P W = .ok (.enter f args.toArray) W := by
      by_cases h1 : fn.name = "runtime.NumGoroutine"
      · exact .inl h1
      · exact .inr (by simp [callFunc, hf, h1, hb])
    rcases h5 with h5 | h5
    · have := List.all_eq_true.1 hc fn (by
        have := (Array.getElem?_eq_some_iff.1 hf).2
        rw [← this]
        simp)
      simp [hb, h5] at this
    · rw [h5] at h1
      cases h1

theorem RH.add {σ : Map} {h : H} {W : World} {nx : Nat} (rh : RH σ h W) (bd : Bd σ nx) (gl : GlobOk P σ) {L : Go.Ev.Loc} {A : AB} (hlt : L.b < W.heap.size) (hne : ∀ i A M, h.get i = some A → σ i = some M → M.b ≠ L.b) (hB : RB (σ.put nx L) W L A) :
    RH (σ.put nx L) (h.set nx A) W ∧ Bd (σ.put nx L) (nx + 1) ∧ GlobOk P (σ.put nx L) := by
  have hle : σ.le (σ.put nx L) := Map.le_put (bd nx (Nat.le_refl _))
  have hold : ∀ i A, h.get i = some A → i ≠ nx := fun i A hi e => by
    subst e
    obtain ⟨M, hM, _⟩ := rh.blk i A hi
    rw [bd i (Nat.le_refl _)] at hM
    cases hM
  refine ⟨⟨fun i B hi => ?_, fun i j B C M M' hi hj hM hM' e => ?_, fun i M hi => ?_⟩, fun i hi => ?_, gl.mono hle⟩
  · rw [Tr.get_set] at hi
    by_cases ei : i = nx
    · simp only [ei, if_true, Option.some.injEq] at hi
      subst hi
      exact ⟨L, by rw [ei, Map.put_same], hB⟩
    · simp only [ei, if_false] at hi
      obtain ⟨M, k1, k2⟩ := rh.blk i B hi
      exact ⟨M, hle _ _ k1, k2.mono hle rfl⟩
  · rw [Tr.get_set] at hi hj
    by_cases ei : i = nx
    · by_cases ej : j = nx
      · rw [ei, ej]
      · exfalso
        rw [ei, Map.put_same] at hM
        cases hM
        rw [Map.put_other _ _ ej] at hM'
        simp only [ej, if_false] at hj
        exact hne j C M' hj hM' e.symm
    · rw [Map.put_other _ _ ei] at hM
      simp only [ei, if_false] at hi
      by_cases ej : j = nx
      · exfalso
        rw [ej, Map.put_same] at hM'
        cases hM'
        exact hne i B M hi hM e
      · rw [Map.put_other _ _ ej] at hM'
        simp only [ej, if_false] at hj
        exact rh.inj i j B C M M' hi hj hM hM' e
  · by_cases ei : i = nx
    · rw [ei, Map.put_same] at hi
      cases hi
      exact hlt
    · rw [Map.put_other _ _ ei] at hi
      exact rh.old i M hi
  · rw [Map.put_other _ _ (by omega)]
    exact bd i (by omega)
end
end Go.VL

namespace Go.VL
open Go.Ev Go.RowKit

section
variable {P : Program}
def gt1 (g : Nat) (m : Int) : Gt := fun k => bif Nat.beq k g then some [.int .i64 m] else none

def IntArg (W : World) (v : Value) (ls : List Int) : Prop :=
  (v = .slice none 0 0 ∧ ls = []) ∨ ∃ (b o len cap : Nat) (zs : List Int), v = .slice (some ⟨b, o, none⟩) len cap ∧ len ≤ cap ∧ zs.length = cap ∧ ls = zs.take len ∧ ∀ i, i < cap → W.cell? ⟨b, o + i, none⟩ = some (.int .i64 (zs.getD i 0))

structure Start (P : Program) (W : World) (G : Gt) (σ : Map) (h : H) (nx : Nat) : Prop where
  rh : RH σ h W
  bd : Bd σ nx
  gl : GlobOk P σ
  ro : ∀ i A, h.get i = some A → A.ro = true
  gt : GtOk G (wOf h)
theorem wOf_K {h : H} {i : Nat} {l : List AV} {e : TypeId} {fz : Nat} {raw : Bool} (hi : h.get i = some (.cells l e fz raw)) : (wOf h).K i = some l := by
  simp only [wOf, hi]
theorem start1 {W : World} {g : Nat} {t : TypeId} {m : Int} (hs : P.globals.size ≤ W.heap.size) (hg : g < P.globals.size) (hm : W.heap[g]? = some (.cells #[.int .i64 m] t (0, 0))) :
    Start P W (gt1 g m) (mapOf P [intTab g t .i64 m]) (tabs [intTab g t .i64 m] .e) P.globals.size := by
  have hget : (tabs [intTab g t .i64 m] .e).get g = some (.cells [.int .i64 m] t 2 true) := by
    show (Tr.set _ g _).get g = _
    rw [Tr.get_set, if_pos rfl]
    rfl
  obtain ⟨r1, r2, r3⟩ := start_ok (P := P) (L := [intTab g t .i64 m]) hs (by simp) (fun u hu => by
    rw [List.mem_singleton.1 hu]
    exact intTab_ok hg hm)
  refine ⟨r1, r2, r3, fun i A hi => ?_, fun k l hk => ?_⟩
  · rcases tabs_get hi with ⟨u, _, _, rfl⟩ | ⟨_, h1⟩
    · exact tab_ro u
    · rw [Tr.get_e] at h1; cases h1
  · unfold gt1 at hk
    cases hb : Nat.beq k g with
    | false => rw [hb] at hk; cases hk
    | true =>
      rw [hb] at hk
      cases hk
      have := beq_iff.1 hb
      subst this
      exact ⟨_, wOf_K hget, .cons _ _ _ _ (.int _ _) .nil⟩
theorem Denss_ints {w : Wd} : ∀ ls : List Int, Denss w 1 (ls.map fun n => [V.int .i64 n]) (ls.map (AV.int .i64))
  | [] => .nil _ _
  | n :: ls => .cons _ _ _ _ (.cons _ _ _ _ (.int _ _) (.nil _)) rfl (Denss_ints ls)
theorem Denss_more {w : Wd} : ∀ (ls : List Int) (m : List AV), Denss w 1 (ls.map fun n => [V.int .i64 n]) (ls.map (AV.int .i64) ++ m)
  | [], _ => .nil _ _
  | n :: ls, m => .cons _ _ _ _ (.cons _ _ _ _ (.int _ _) (.nil _)) rfl (Denss_more ls m)
theorem wOf_set_K {h : H} {nx : Nat} {l : List AV} {e : TypeId} {fz : Nat} {raw : Bool} {i : Nat} {L : List AV} (hi : (wOf h).K i = some L) (hne : i ≠ nx) : (wOf (h.set nx (.cells l e fz raw))).K i = some L := by
  simp only [wOf] at hi ⊢
  rw [Tr.get_set, if_neg hne]
  exact hi

theorem start_ints {W : World} {g : Nat} {t : TypeId} {m : Int} (hs : P.globals.size ≤ W.heap.size) (hg : g < P.globals.size) (hm : W.heap[g]? = some (.cells #[.int .i64 m] t (0, 0))) {v : Value} {ls : List Int} (hv : IntArg W v ls) :
    ∃ σ h nx u, Start P W (gt1 g m) σ h nx ∧ Den (wOf h) (.sl 1 (ls.map fun n => [V.int .i64 n]) none) u ∧ RV σ u v := by
  have S := start1 hs hg hm
  rcases hv with ⟨rfl, rfl⟩ | ⟨b, o, len, cap, zs, rfl, hlen, hz, rfl, hc⟩
  · exact ⟨_, _, _, .nils, S, .sl0 _ _ (.inl rfl), .nils⟩
  · by_cases h0 : len = 0
    · subst h0
      exact ⟨_, _, _, .esl, S, by rw [List.take_zero]; exact .sle _, .esl _ _⟩
    · have c0 := hc 0 (by omega)
      obtain ⟨c, e, fr, hb⟩ : ∃ c e fr, W.heap[b]? = some (.cells c e fr) := by
        unfold World.cell? at c0
        split at c0
        · rename_i c e fr hb
          exact ⟨c, e, fr, hb⟩
        · cases c0
      have hcell : ∀ i, i < cap → c[o + i]? = some (.int .i64 (zs.getD i 0)) := fun i hi => by
        have := hc i hi
        rw [cell?_eq hb] at this
        exact this
      have hsz : o + cap ≤ c.size := by
        have := (Array.getElem?_eq_some_iff.1 (hcell (cap - 1) (by omega))).1
        omega
      by_cases hbg : b = g
      · subst hbg
        rw [hm] at hb
        cases hb
        have h1 : o + cap ≤ 1 := hsz
        have ho : o = 0 := by omega
        have hcap : cap = 1 := by omega
        have hl1 : len = 1 := by omega
        subst ho
        subst hcap
        subst hl1
        obtain ⟨z, rfl⟩ : ∃ z, zs = [z] := List.length_eq_one_iff.1 hz
        have hz0 := hcell 0 (by omega)
        have hzm : z = m := by simpa using hz0.symm
        subst hzm
        refine ⟨_, _, _, .sl b 0 1 1 (some 1), S, .sl _ _ _ _ _ _ _ [.int .i64 z] ?_ rfl (by omega) (Denss_ints [z]) (.inl rfl) (fun x hx => by cases hx; omega) (by simp), ?_⟩
        · refine wOf_K (e := t) (fz := 2) (raw := true) ?_
          show (Tr.set _ b _).get b = _
          rw [Tr.get_set, if_pos rfl]
          rfl
        · have hσ : mapOf P [intTab b t .i64 z] b = some ⟨b, 0, 1⟩ := by
            simp [mapOf, hg, lenAt, intTab]
          exact .slx b 0 1 1 1 ⟨b, 0, 1⟩ hσ (by omega) (by omega) (by simp)
      · have hlt : b < W.heap.size := (Array.getElem?_eq_some_iff.1 hb).1
        have hzl : (zs.map (AV.int .i64)).length = cap := by simp [hz]
        have hB : RB ((mapOf P [intTab g t .i64 m]).put P.globals.size ⟨b, o, o + cap⟩) W ⟨b, o, o + cap⟩ (.cells (zs.map (AV.int .i64)) e (cap + 1) true) := by
          refine .cells _ _ _ _ c fr.1 fr.2 hb hsz (by simp [hz]) (fun i a ha => ?_) (fun i v h1 h2 h3 => ?_) (fun i h1 h2 => ?_) (fun h => by cases h) (.inr ⟨rfl, by omega⟩)
          · rw [List.getElem?_map] at ha
            obtain ⟨z, hz1, rfl⟩ := Option.map_eq_some_iff.1 ha
            have hi : i < cap := by
              have := (List.getElem?_eq_some_iff.1 hz1).1
              omega
            refine ⟨_, hcell i hi, ?_⟩
            rw [List.getD_eq_getElem?_getD, hz1]
            exact .int _ _
          · have := hcell (i - o) (by have h2' : i < o + cap := h2; have h1' : o ≤ i := h1; omega)
            have h1' : o ≤ i := h1
            rw [show o + (i - o) = i by omega] at this
            rw [this] at h3
            cases h3
            rfl
          · have h1' : o + (cap + 1) ≤ i := h1
            have h2' : i < o + cap := h2
            omega
        obtain ⟨r1, r2, r3⟩ := RH.add S.rh S.bd S.gl (L := ⟨b, o, o + cap⟩) hlt (fun i A M hi hM he => by
          rcases tabs_get hi with ⟨u, hu, rfl, _⟩ | ⟨_, h1⟩
          · rw [List.mem_singleton.1 hu] at hM
            simp only [mapOf, intTab, hg, if_true, Option.some.injEq] at hM
            subst hM
            exact hbg he.symm
          · rw [Tr.get_e] at h1; cases h1) hB
        refine ⟨_, _, _, .sl P.globals.size 0 len 1 (some cap), ⟨r1, r2, r3, fun i A hi => ?_, fun k l hk => ?_⟩, .sl _ _ _ _ _ _ _ (zs.map (AV.int .i64)) ?_ ?_ (by omega) ?_ (.inl rfl) (fun x hx => by cases hx; exact hlen) ?_, ?_⟩
        · rw [Tr.get_set] at hi
          by_cases ei : i = P.globals.size
          · simp only [ei, if_true, Option.some.injEq] at hi
            subst hi
            show Nat.blt (Ev.len (zs.map (AV.int .i64))) (cap + 1) = true
            rw [blt_dec, len_eq, hzl]
            simp
          · simp only [ei, if_false] at hi
            exact S.ro i A hi
        · obtain ⟨L, hK, hL⟩ := S.gt k l hk
          have hk2 : k = g := by
            unfold gt1 at hk
            cases hb : Nat.beq k g with
            | false => rw [hb] at hk; cases hk
            | true => exact beq_iff.1 hb
          refine ⟨L, wOf_set_K hK (by omega), ?_⟩
          subst hk2
          unfold gt1 at hk
          rw [beq_iff.2 rfl] at hk
          cases hk
          cases hL with | cons _ a _ _ ha hl =>
          cases ha
          cases hl
          exact .cons _ _ _ _ (.int _ _) .nil
        · exact wOf_K (by rw [Tr.get_set, if_pos rfl])
        · simp [hz]; omega
        · rw [List.drop_zero]
          have := Denss_more (w := wOf ((tabs [intTab g t .i64 m] .e).set P.globals.size (.cells (zs.map (AV.int .i64)) e (cap + 1) true))) (zs.take len) ((zs.drop len).map (AV.int .i64))
          rw [← List.map_append, List.take_append_drop] at this
          exact this
        · simp [hz]; exact hlen
        · exact .slx _ 0 len 1 cap ⟨b, o, o + cap⟩ (Map.put_same _ _ _) hlen (by omega) (by simp)
theorem int_arg {H : Type} {enc : TypeId × Value → H} {W : World} {base : Nat} {t e : TypeId} {v : Value} {d : DataW H} {ps : List MemPlace} (ht : P.underlying t = some (.slice e)) (he : P.underlying e = some (.int .i64)) (hc : P.cellsOf e = 1) (hval : Value.okWide P W .any base t v)
    (h : DataW.Trod enc P W 0 (fun _ => true) true t v d ps) : ∃ ls, IntArg W v ls := by
  obtain ⟨fuel, hf⟩ := h
  have hk : Cell.ok P W .any base t v := by
    unfold Value.okWide at hval
    simp only [ht] at hval
    unfold Cell.okWide at hval
    simp only [ht] at hval
    exact hval
  rcases ChangeShapes.open_ints ht he hc hf with ⟨hcs, hx⟩ | ⟨a, len, cap, zs, hcs, _, hl, hm, hz, hx, hcell, hwz⟩
  · refine ⟨[], .inl ⟨?_, rfl⟩⟩
    unfold Cell.ok at hk
    simp only [ht] at hk
    split at hk <;> simp_all [Value.cells]
  · have hv : v = .slice (some a) len cap := by
      unfold Cell.ok at hk
      simp only [ht] at hk
      split at hk <;> simp_all [Value.cells]
    subst hv
    have hsp : a.spot = none := by
      unfold Cell.ok at hk
      simp only [ht] at hk
      exact hk.2.2.2.1
    obtain ⟨b, o, spot⟩ := a
    subst hsp
    simp only [if_true] at hz
    refine ⟨zs.take len, .inr ⟨b, o, len, cap, zs, rfl, hl, hz, rfl, fun i hi => ?_⟩⟩
    have := hcell i (by omega)
    rw [add_eq] at this
    exact this
end
end Go.VL

