/- TreeNexts is true for every list of numbers and every number, and what it rests on; no condition. -/
import Derived.Test.YtpcbnpekdmobpaaGreatDoorChecked
import Derived.KernelRfl
import Derived.Lib.LaidU8
import Derived.LaidSub
import Derived.Test.YtpcbnpekdmobpaaGreatDoorCards
import Derived.Test.YtpcbnpekdmobpaaGreatDoorTie
import Derived.WalkKit
import Derived.ProofKit
import Derived.OpenShut
import Derived.Deep.DeepHandedRow
import Derived.Deep.DeepWitnessRowRef
import Derived.Lib.LaidIn
import Derived.ChangeSlices
import Derived.ReadAgain
import Derived.Carry
import Derived.Test.YtpcbnpekdmobpaaGreatDoorNxG
set_option linter.unusedSimpArgs false
set_option linter.unusedVariables false
set_option linter.constructorNameAsVariable false
set_option linter.unnecessarySimpa false
namespace Go.Proofs.YtpcbnpekdmobpaaGreatDoor
open Go Go.Ev
def ren : Shelf.Ren := ⟨fun | 217 => 166 | 219 => 132 | 224 => 168 | 225 => 167 | 266 => 194 | 267 => 169 | 314 => 195 | n => n, fun | 46 => 26 | 51 => 170 | 146 => 221 | n => n, fun | 1 => 2 | n => n⟩
theorem lays : Lays.n219 Tryz.prog ren := {
  mixed := by kernel_rfl
  f217 := by kernel_rfl
  f219 := by kernel_rfl
  f224 := by kernel_rfl
  f225 := by kernel_rfl
  f266 := by kernel_rfl
  f267 := by kernel_rfl
  f314 := by kernel_rfl
  t3 := Tryz.underlying3
  a3 := Tryz.isAgg3
  z3 := Tryz.sizeOf3
  v3 := Tryz.zeroValue3
  t4 := Tryz.underlying4
  a4 := Tryz.isAgg4
  z4 := Tryz.sizeOf4
  v4 := Tryz.zeroValue4
  t5 := Tryz.underlying5
  a5 := Tryz.isAgg5
  z5 := Tryz.sizeOf5
  v5 := Tryz.zeroValue5
  t9 := Tryz.underlying9
  a9 := Tryz.isAgg9
  z9 := Tryz.sizeOf9
  v9 := Tryz.zeroValue9
  t46 := Tryz.underlying26
  a46 := Tryz.isAgg26
  z46 := Tryz.sizeOf26
  v46 := Tryz.zeroValue26
  t51 := Tryz.underlying170
  a51 := Tryz.isAgg170
  z51 := Tryz.sizeOf170
  v51 := Tryz.zeroValue170
  t146 := Tryz.underlying221
  a146 := Tryz.isAgg221
  z146 := Tryz.sizeOf221
  v146 := Tryz.zeroValue221
  g1 := by kernel_rfl }
theorem ext184 : IsExt Tryz.prog 184 Extern.AbiNoEscape.same := ⟨run_callFunc_extern Tryz.func184 (by kernel_rfl) (by kernel_rfl) (by kernel_rfl) (by kernel_rfl)⟩
theorem ext194 : IsExt Tryz.prog 194 Extern.BytealgIndexByte.indexByte := ⟨run_callFunc_extern Tryz.func194 (by kernel_rfl) (by kernel_rfl) (by kernel_rfl) (by kernel_rfl)⟩
def base : List (Nat × Ent) := [(132, kIndex 2), (184, kNoEsc), (194, kIdxByte)]
theorem base_ok : ∀ p ∈ base, EntryOk Tryz.prog p.1 p.2 := by
  intro p hp
  simp only [base, List.mem_cons, List.mem_nil_iff, or_false] at hp
  rcases hp with rfl | rfl | rfl
  · exact kIndex_ok lays rfl rfl (of_decide_eq_true (by kernel_rfl))
  · exact kNoEsc_ok ext184
  · exact kIdxByte_ok ext194
theorem count_ok : noCount Tryz.prog = true := by kernel_rfl
end Go.Proofs.YtpcbnpekdmobpaaGreatDoor
namespace Go.Proofs.YtpcbnpekdmobpaaGreatDoor
open Go Go.Ev Go.VL
set_option maxRecDepth 100000 in
theorem told16 (m : Int) (e : TypeId) (fz : Nat) (raw : Bool) : trueAt 2 (evCall Tryz.prog (ovr base) 1000000 11 [] ((Tr.e : H).set 2 (.cells [.int .i64 m] e fz raw)) Tryz.prog.globals.size) = some (.cells [.int .i64 m] e fz raw) := by kernel_rfl
noncomputable def XB : List (Nat × Ent) := (11, kToldG 2) :: base
theorem lt2 : 2 < Tryz.prog.globals.size := of_decide_eq_true (by kernel_rfl)
end Go.Proofs.YtpcbnpekdmobpaaGreatDoor
namespace Go.Proofs.YtpcbnpekdmobpaaGreatDoor
open Go Go.Ev Go.VL
def nTab : List (List Nat × List Nat) := (litP.flatMap fun p => litL.map fun l => (p, l)) ++ ([], S_z) :: cand.map fun a => (a.p, a.l)
def vTab : List (List Nat) := litV ++ cand.map fun a => a.v
def tTab : List (List Nat) := litL
def tabNamed : List (List AV) := nTab.map fun p => [.str p.1, .str p.2]
def ansNamed : List AV → AV | [.str p, .str l] => .bool (namedP p l) | _ => .bool false
def tabChars : List (List AV) := vTab.map fun s => [.str s]
def ansChars : List AV → AV | [.str s] => .bool (validP s) | _ => .bool false
def tabTarget : List (List AV) := tTab.map fun s => [.str s]
def ansTarget : List AV → AV | [.str s] => .bool (targetP s) | _ => .bool false
def tabHolds : List (List AV) := vTab.flatMap fun s => [S_13_, S_45__45_, S_63__62_].map fun w => [.str s, .str w]
def ansHolds : List AV → AV | [.str s, .str w] => .bool (holdsP s w) | _ => .bool false
def tabSuffix : List (List AV) := vTab.map fun s => [.str s, .str S_45_]
def ansSuffix : List AV → AV | [.str s, .str _] => .bool (!decide (s = []) && decide ((s.getLastD 0 : Int) = 45)) | _ => .bool false
def tabSpaces : List (List AV) := vTab.map fun s => [.str s, .int .i64 0]
def ansSpaces : List AV → AV | [.str s, _] => .int .i64 ((s.takeWhile fun c => spaceP (wr .i32 (.ofNat c))).length : Int) | _ => .bool false
def u8 (n : Nat) : AV := .int .u8 (.ofNat n)
def firstL : List AV := ((List.replicate 128 240 ++ List.replicate 66 241) ++ List.replicate 30 2 ++ [19] ++ List.replicate 12 3 ++ [35, 3, 3, 52, 4, 4, 4, 68] ++ List.replicate 11 241).map u8
def acceptL : List AV := ([128, 191, 160, 191, 128, 159, 144, 191, 128, 143] ++ List.replicate 22 0).map u8
def tb (m : Int) : Tb := [(0, firstL), (1, acceptL), (2, [.int .i64 m])]
def ran (f : FuncId) (T : List (List AV)) (A : List AV → AV) : Prop := ∀ (m : Int) (t0 t1 t2 : TypeId × Nat × Bool), T.map (fun us => valAt (tb m) (evCall Tryz.prog (ovr base) 1000000 f us (tbH (tb m) [t0, t1, t2]) Tryz.prog.globals.size)) = T.map fun us => some (A us, tbBs (tb m) [t0, t1, t2])
set_option maxRecDepth 100000
theorem ran_chars : ran F_tree_chars tabChars ansChars := fun m t0 t1 t2 => by kernel_rfl
theorem ran_target : ran F_token_Target tabTarget ansTarget := fun m t0 t1 t2 => by kernel_rfl
theorem ran_holds : ran F_strings_Contains tabHolds ansHolds := fun m t0 t1 t2 => by kernel_rfl
theorem ran_suffix : ran F_strings_HasSuffix tabSuffix ansSuffix := fun m t0 t1 t2 => by kernel_rfl
theorem ran_spaces : ran F_token_Spaces tabSpaces ansSpaces := fun m t0 t1 t2 => by kernel_rfl
theorem ran_named : ran F_tree_named tabNamed ansNamed := fun m t0 t1 t2 => by kernel_rfl
end Go.Proofs.YtpcbnpekdmobpaaGreatDoor
namespace Go.Proofs.YtpcbnpekdmobpaaGreatDoor
open Go Go.Ev Go.VL
theorem three {α : Type} {ts : List α} {L : List (Nat × List AV)} (h : ts.length = L.length) (h3 : L.length = 3) : ∃ a b c, ts = [a, b, c] := by
  match ts, h with
  | [a, b, c], _ => exact ⟨a, b, c, rfl⟩
  | [], h => simp [h3] at h
  | [_], h => simp [h3] at h
  | [_, _], h => simp [h3] at h
  | _ :: _ :: _ :: _ :: _, h => simp [h3] at h
theorem ran_ok {f : FuncId} {T : List (List AV)} {A : List AV → AV} (m : Int) (h : ran f T A) (hT : T.all (fun us => us.all plainA && plainA (A us)) = true) : EntryOk Tryz.prog f (kMemo (tb m) T A) := by
  refine kMemo_ok (ovr_sound base_ok) count_ok (n := 1000000) ?_ hT fun ts hts => ?_
  · have h0 : Nat.blt 0 Tryz.prog.globals.size = true := by kernel_rfl
    have h1 : Nat.blt 1 Tryz.prog.globals.size = true := by kernel_rfl
    have h2 : Nat.blt 2 Tryz.prog.globals.size = true := by kernel_rfl
    have q0 : firstL.all isInt = true := by kernel_rfl
    have q1 : acceptL.all isInt = true := by kernel_rfl
    simp only [tb, List.all_cons, List.all_nil, h0, h1, h2, q0, q1, Bool.and_true, Bool.true_and]
    rfl
  · obtain ⟨a, b, c, rfl⟩ := three hts rfl
    exact h m a b c
noncomputable def XN2 (m : Int) : List (Nat × Ent) := (F_tree_named, kMemo (tb m) tabNamed ansNamed) :: (F_tree_chars, kMemo (tb m) tabChars ansChars) :: (F_token_Target, kMemo (tb m) tabTarget ansTarget) :: (F_strings_Contains, kMemo (tb m) tabHolds ansHolds) :: (F_strings_HasSuffix, kMemo (tb m) tabSuffix ansSuffix) :: (F_token_Spaces, kMemo (tb m) tabSpaces ansSpaces) :: XB
theorem XN2_ok (m : Int) : OvrSound Tryz.prog (ovr (XN2 m)) := ovr_sound fun p hp => by
  rcases List.mem_cons.1 hp with rfl | hp
  · exact ran_ok m ran_named (by kernel_rfl)
  rcases List.mem_cons.1 hp with rfl | hp
  · exact ran_ok m ran_chars (by kernel_rfl)
  rcases List.mem_cons.1 hp with rfl | hp
  · exact ran_ok m ran_target (by kernel_rfl)
  rcases List.mem_cons.1 hp with rfl | hp
  · exact ran_ok m ran_holds (by kernel_rfl)
  rcases List.mem_cons.1 hp with rfl | hp
  · exact ran_ok m ran_suffix (by kernel_rfl)
  rcases List.mem_cons.1 hp with rfl | hp
  · exact ran_ok m ran_spaces (by kernel_rfl)
  rcases List.mem_cons.1 hp with rfl | hp
  · exact kToldG_ok (ovr_sound base_ok) count_ok lt2 told16
  · exact base_ok p hp
def PNt (p l : List Nat) : Prop := (p, l) ∈ nTab
def PVt (s : List Nat) : Prop := s ∈ vTab
def PTt (s : List Nat) : Prop := s ∈ tTab
theorem libT (m : Int) {G : Gt} (hG : ∀ p ∈ tb m, ∃ l, G p.1 = some l ∧ l.all plainV = true ∧ l.map plA = p.2) : LibT (ovr (XN2 m)) G PNt PVt PTt where
  named p l h vh vn := (memo_wp (L := tb m) (T := tabNamed) (F := ansNamed) rfl hG (vs := [.str p, .str l]) (r := .bool (namedP p l)) rfl rfl (List.mem_map.2 ⟨_, h, rfl⟩) rfl vh vn).mono fun v vh' vn' he => ⟨he.1, by rw [he.2.1, he.2.2]; exact Frm.refl _ _⟩
  chars s h vh vn := (memo_wp (L := tb m) (T := tabChars) (F := ansChars) rfl hG (vs := [.str s]) (r := .bool (validP s)) rfl rfl (List.mem_map.2 ⟨_, h, rfl⟩) rfl vh vn).mono fun v vh' vn' he => ⟨he.1, by rw [he.2.1, he.2.2]; exact Frm.refl _ _⟩
  target s h vh vn := (memo_wp (L := tb m) (T := tabTarget) (F := ansTarget) rfl hG (vs := [.str s]) (r := .bool (targetP s)) rfl rfl (List.mem_map.2 ⟨_, h, rfl⟩) rfl vh vn).mono fun v vh' vn' he => ⟨he.1, by rw [he.2.1, he.2.2]; exact Frm.refl _ _⟩
  contains s w h hw vh vn := (memo_wp (L := tb m) (T := tabHolds) (F := ansHolds) rfl hG (vs := [.str s, .str w]) (r := .bool (holdsP s w)) rfl rfl (List.mem_flatMap.2 ⟨_, h, List.mem_map.2 ⟨_, hw, rfl⟩⟩) rfl vh vn).mono fun v vh' vn' he => ⟨he.1, by rw [he.2.1, he.2.2]; exact Frm.refl _ _⟩
  suffix s h vh vn := (memo_wp (L := tb m) (T := tabSuffix) (F := ansSuffix) rfl hG (vs := [.str s, .str S_45_]) (r := .bool (!decide (s = []) && decide ((s.getLastD 0 : Int) = 45))) rfl rfl (List.mem_map.2 ⟨_, h, rfl⟩) rfl vh vn).mono fun v vh' vn' he => ⟨he.1, by rw [he.2.1, he.2.2]; exact Frm.refl _ _⟩
  spaces s h vh vn := (memo_wp (L := tb m) (T := tabSpaces) (F := ansSpaces) rfl hG (vs := [.str s, .int .i64 0]) (r := .int .i64 ((s.takeWhile fun c => spaceP (wr .i32 (.ofNat c))).length : Int)) rfl rfl (List.mem_map.2 ⟨_, h, rfl⟩) rfl vh vn).mono fun v vh' vn' he => ⟨_, he.1, by
    cases s with
    | nil => simp
    | cons c s =>
      cases hc : spaceP (wr .i32 (.ofNat c)) with
      | true => simp only [List.takeWhile_cons, hc, if_true, List.length_cons, List.headD_cons, reduceCtorEq, false_or, Bool.true_eq_false, iff_false]; omega
      | false => simp [List.takeWhile_cons, hc], by rw [he.2.1, he.2.2]; exact Frm.refl _ _⟩
end Go.Proofs.YtpcbnpekdmobpaaGreatDoor
namespace Go.Proofs.YtpcbnpekdmobpaaGreatDoor
open Go Go.Ev Go.VL
theorem cand_p {c : Attr} (h : c ∈ cand) : PNt c.p c.l := List.mem_append_right _ (.tail _ (List.mem_map.2 ⟨c, h, rfl⟩))
theorem cand_v {c : Attr} (h : c ∈ cand) : PVt c.v := List.mem_append_right _ (List.mem_map.2 ⟨c, h, rfl⟩)
theorem made_ndT (n : Nd) (h : MadeNd n) : NdT PNt PVt PTt n where
  s := by have := h.s; omega
  e _ := ⟨List.mem_append_left _ (List.mem_flatMap.2 ⟨_, h.p, List.mem_map.2 ⟨_, h.l, rfl⟩⟩), fun a ha => by
    obtain ⟨c, hc, e1, e2, e3⟩ := h.a a ha
    rw [e1, e2, e3]
    exact ⟨cand_p hc, cand_v hc⟩⟩
  v _ := List.mem_append_left _ h.v
  t _ := h.l
theorem com_ndT (d : Int) : NdT PNt PVt PTt (comN d) where
  s := Nat.zero_lt_succ _
  e h := absurd h (comK2 d)
  v _ := List.mem_append_left _ (by show S_c ∈ litV; decide)
  t h := absurd h (by show ¬ (4 : Int) = 5; decide)
theorem tex_ndT (d : Int) : NdT PNt PVt PTt (texN d) where
  s := Nat.zero_lt_succ _
  e h := absurd h (texK2 d)
  v _ := List.mem_append_left _ (by show S_x ∈ litV; decide)
  t h := absurd h (by show ¬ (3 : Int) = 5; decide)
theorem root_ndT : NdT PNt PVt PTt rootZ where
  s := Nat.zero_lt_succ _
  e _ := ⟨List.mem_append_right _ (.head _), nofun⟩
  v h := absurd rfl h
  t h := absurd h (by decide)
theorem XN2_xk (m : Int) : XK (ovr (XN2 m)) where
  hin := rfl
  one := rfl
  part := rfl
  start := rfl
  run := rfl
  name := rfl
  nc := rfl
  split := rfl
  char := rfl
  valid := rfl
  space := rfl
  holds := rfl
  lower := rfl
  target := rfl
  plain := rfl
  declares := rfl
  uri := rfl
  push := rfl
  pop := rfl
  names := rfl
  same := rfl
  qname := rfl
  named := rfl
  element := rfl
  samend := rfl
  may := rfl
  attrs := rfl
  make := rfl
theorem XN2_xtm (m : Int) : XTM (ovr (XN2 m)) where
  declares := rfl
  wrong := rfl
  c1 := rfl
  index := rfl
  contains := rfl
  push := rfl
  depth := rfl
  pop := rfl
  level := rfl
  uri := rfl
  names := rfl
  clone := rfl
  equal := rfl
  ec1 := rfl
  telement := rfl
  snew := rfl
  stands := rfl
  aside := rfl
  tmay := rfl
theorem nexts_wp (m : Int) {G : Gt} (hG : ∀ p ∈ tb m, ∃ l, G p.1 = some l ∧ l.all plainV = true ∧ l.map plA = p.2) (hG2 : G 2 = some [.int .i64 m]) (ls : List Int) (w : Int) (vh : VH) (vn : Nat) :
    WpCall Tryz.prog (ovr (XN2 m)) G F_law16_TreeNexts [.sl 1 (ls.map encI) none, .int .i64 w] vh vn fun v _ _ => v = .bool true :=
  TreeNexts_ok (XN2_xtm m) (XN2_xk m) rfl rfl ⟨m, hG2⟩ rfl (libT m hG) made_ndT (fun d => ⟨com_ndT d, tex_ndT d⟩) root_ndT ls w vh vn
end Go.Proofs.YtpcbnpekdmobpaaGreatDoor
namespace Go.Proofs.YtpcbnpekdmobpaaGreatDoor
open Go Go.Ev Go.VL Go.Lib
def tab0 : Tab := ⟨0, firstL, 188⟩
def tab1 : Tab := ⟨1, acceptL, 191⟩
def acceptZ : List Int := (List.range 16).flatMap fun i => [(accLo i : Int), (accHi i : Int)]
theorem first_eq : firstL = firstTab.map (AV.int .u8) := by kernel_rfl
theorem accept_eq : acceptL = acceptZ.map (AV.int .u8) := by kernel_rfl
theorem tab_of {l : List AV} {zs : List Int} (he : l = zs.map (AV.int .u8)) {cs : Array Value} (h : ∀ (i : Nat) z, zs[i]? = some z → cs[i]? = some (.int .u8 z)) (i : Nat) (a : AV) (ha : l[i]? = some a) : ∃ k n, a = AV.int k n ∧ cs[i]? = some (Value.int k n) := by
  rw [he, List.getElem?_map] at ha
  obtain ⟨z, hz, rfl⟩ := Option.map_eq_some_iff.1 ha
  exact ⟨_, z, rfl, h i z hz⟩
theorem var_cells {W : World} {n : String} {g : Nat} {cs cs' : Array Value} {t : TypeId} (hg : Tryz.prog.globalNamed n = some g) (hb : W.heap[g]? = some (.cells cs t (0, 0))) (hv : W.var? Tryz.prog n = some cs') : cs' = cs := by
  simp only [World.var?, hg, Option.bind_some, hb, Option.some.injEq] at hv
  exact hv.symm
theorem lt0 : 0 < Tryz.prog.globals.size := of_decide_eq_true (by kernel_rfl)
theorem lt1 : 1 < Tryz.prog.globals.size := of_decide_eq_true (by kernel_rfl)
theorem tab0_ok {W : World} (hsh : W.ShapedOpen Tryz.prog) (h : VarReads Tryz.prog W "unicode/utf8.first" firstData) : TabOk Tryz.prog W tab0 := by
  obtain ⟨cs, h1, h2, _⟩ := shape_block hsh (g := 0) (t := 188) (n := 256) lt0 (by kernel_rfl)
  obtain ⟨g, t, cs', fuel, p, hg, hty, hvar, hd⟩ := h
  obtain rfl := Option.some.inj ((show Tryz.prog.globalNamed "unicode/utf8.first" = some 0 by kernel_rfl).symm.trans hg)
  obtain rfl := Option.some.inj ((show (Tryz.prog.globals[0]?).map (·.type) = some 188 by kernel_rfl).symm.trans hty)
  obtain rfl := var_cells hg h1 hvar
  have hcs := cells_of_tab (n := 256) Tryz.underlying188 Tryz.underlying5 (by kernel_rfl) (by kernel_rfl) hd
  refine ⟨lt0, cs', h1, ?_, tab_of first_eq fun i z hz => ?_⟩
  · rw [h2]
    have e : firstL.length = 256 := by kernel_rfl
    exact Nat.le_of_eq e
  · rw [← Array.getElem?_toList, hcs, List.getElem?_map, hz]
    rfl
theorem tab1_ok {W : World} (hsh : W.ShapedOpen Tryz.prog) (h : VarReads Tryz.prog W "unicode/utf8.acceptRanges" acceptData) : TabOk Tryz.prog W tab1 := by
  obtain ⟨cs, h1, h2, _⟩ := shape_block hsh (g := 1) (t := 191) (n := 32) lt1 (by kernel_rfl)
  obtain ⟨g, t, cs', fuel, p, hg, hty, hvar, hd⟩ := h
  obtain rfl := Option.some.inj ((show Tryz.prog.globalNamed "unicode/utf8.acceptRanges" = some 1 by kernel_rfl).symm.trans hg)
  obtain rfl := Option.some.inj ((show (Tryz.prog.globals[1]?).map (·.type) = some 191 by kernel_rfl).symm.trans hty)
  obtain rfl := var_cells hg h1 hvar
  have c190 : Tryz.prog.cellsOf 190 = 2 := by kernel_rfl
  have c5 : Tryz.prog.cellsOf 5 = 1 := by kernel_rfl
  have hl : acceptZ.length = 32 := by kernel_rfl
  have at2 : ∀ i, i < 16 → cs'[2 * i]? = some (.int .u8 (accLo i : Int)) ∧ cs'[2 * i + 1]? = some (.int .u8 (accHi i : Int)) := fun i hi => by
    obtain ⟨fuel', d, q, hdi, he⟩ := array_elem Tryz.underlying191 hd i hi
    simp only [List.getElem?_map, List.getElem?_range hi, Option.map_some, Option.some.injEq] at hdi
    subst hdi
    rw [c190] at he
    have hcs := ints_of_struct Tryz.underlying190 (fun j f hj => by
      match j, hj with
      | 0, hj => simp at hj; subst hj; exact ⟨Tryz.underlying5, rfl, c5⟩
      | 1, hj => simp at hj; subst hj; exact ⟨Tryz.underlying5, rfl, c5⟩
      | j + 2, hj => simp at hj) (by rw [c190]; rfl) he
    have e0 := congrArg (·[0]?) hcs
    have e1 := congrArg (·[1]?) hcs
    simp only [List.getElem?_take, List.getElem?_drop] at e0 e1
    constructor
    · rw [← Array.getElem?_toList]
      simpa [Nat.mul_comm] using e0
    · rw [← Array.getElem?_toList]
      simpa [Nat.mul_comm] using e1
  refine ⟨lt1, cs', h1, ?_, tab_of accept_eq fun i z hz => ?_⟩
  · rw [h2]
    have e : acceptL.length = 32 := by kernel_rfl
    exact Nat.le_of_eq e
  · have hi : i < 32 := by
      have := (List.getElem?_eq_some_iff.1 hz).1
      omega
    have key : ∀ i, i < 32 → acceptZ[i]? = some (if i % 2 = 0 then (accLo (i / 2) : Int) else (accHi (i / 2) : Int)) := by decide +kernel
    rw [key i hi] at hz
    cases hz
    obtain ⟨q1, q2⟩ := at2 (i / 2) (by omega)
    split
    · rename_i h0
      exact (congrArg (fun j => cs'[j]?) (by omega : i = 2 * (i / 2))).trans q1
    · rename_i h0
      exact (congrArg (fun j => cs'[j]?) (by omega : i = 2 * (i / 2) + 1)).trans q2
def tabL (m : Int) : List Tab := [tab0, tab1, intTab 2 3 .i64 m]
def gtU (m : Int) : Gt := fun k => bif Nat.beq k 0 then some (firstL.map gtT.toV) else bif Nat.beq k 1 then some (acceptL.map gtT.toV) else bif Nat.beq k 2 then some [.int .i64 m] else none
theorem dens_toV {w : Wd} : ∀ (l : List AV), l.all isInt = true → Dens w (l.map gtT.toV) l
  | [], _ => .nil
  | a :: l, h => by
    simp only [List.all_cons, Bool.and_eq_true] at h
    cases a with
    | int k n => exact .cons _ _ _ _ (.int _ _) (dens_toV l h.2)
    | _ => cases h.1
theorem first_int : firstL.all isInt = true := by kernel_rfl
theorem accept_int : acceptL.all isInt = true := by kernel_rfl
theorem tabs_K {m : Int} {u : Tab} (h : u ∈ tabL m) : (wOf (tabs (tabL m) .e)).K u.g = some u.l := wOf_K (tabs_mem (L := tabL m) (show ([0, 1, 2] : List Nat).Nodup by decide) u h)
theorem gtU_ok (m : Int) : GtOk (gtU m) (wOf (tabs (tabL m) .e)) := by
  intro k l hk
  unfold gtU at hk
  cases h0 : Nat.beq k 0 with
  | true =>
    rw [h0] at hk
    cases hk
    obtain rfl := beq_iff.1 h0
    exact ⟨firstL, tabs_K (u := tab0) (.head _), dens_toV _ first_int⟩
  | false =>
    rw [h0] at hk
    cases h1 : Nat.beq k 1 with
    | true =>
      rw [h1] at hk
      cases hk
      obtain rfl := beq_iff.1 h1
      exact ⟨acceptL, tabs_K (u := tab1) (.tail _ (.head _)), dens_toV _ accept_int⟩
    | false =>
      rw [h1] at hk
      cases h2 : Nat.beq k 2 with
      | true =>
        rw [h2] at hk
        cases hk
        obtain rfl := beq_iff.1 h2
        exact ⟨_, tabs_K (u := intTab 2 3 .i64 m) (.tail _ (.tail _ (.head _))), .cons _ _ _ _ (.int _ _) .nil⟩
      | false =>
        rw [h2] at hk
        cases hk
theorem gtU_tb (m : Int) : ∀ p ∈ tb m, ∃ l, gtU m p.1 = some l ∧ l.all plainV = true ∧ l.map plA = p.2 := by
  intro p hp
  rcases List.mem_cons.1 hp with rfl | hp
  · exact ⟨_, rfl, by kernel_rfl, by kernel_rfl⟩
  rcases List.mem_cons.1 hp with rfl | hp
  · exact ⟨_, rfl, by kernel_rfl, by kernel_rfl⟩
  obtain rfl := List.mem_singleton.1 hp
  exact ⟨_, rfl, rfl, rfl⟩
theorem no_int {l : List AV} {zs : List Int} (he : l = zs.map (AV.int .u8)) {W : World} {u : Tab} (hu : u.l = l) (ht : TabOk Tryz.prog W u) (hl : ∀ (c : Array Value) e fr, W.heap[u.g]? = some (.cells c e fr) → c.size = l.length) (c : Array Value) (e : TypeId) (fr : Nat × Nat) (i : Nat) (z : Int) (hb : W.heap[u.g]? = some (.cells c e fr)) : c[i]? ≠ some (.int .i64 z) := by
  intro hc
  obtain ⟨c', h1, h2, h3⟩ := ht.blk
  rw [hb] at h1
  cases h1
  have hi := (Array.getElem?_eq_some_iff.1 hc).1
  have hs := hl _ _ _ hb
  have hz : l[i]? = some l[i] := List.getElem?_eq_getElem (by omega)
  obtain ⟨k, n, k1, k2⟩ := h3 i l[i] (by rw [hu]; exact hz)
  rw [hc] at k2
  cases k2
  have : l[i]? = (zs.map (AV.int .u8))[i]? := by rw [he]
  rw [hz, List.getElem?_map] at this
  obtain ⟨z', _, hz'⟩ := Option.map_eq_some_iff.1 this.symm
  rw [← hz'] at k1
  cases k1
theorem blk_size {W : World} (hsh : W.ShapedOpen Tryz.prog) {g : Nat} {t : TypeId} {n : Nat} (hg : g < Tryz.prog.globals.size) (hz : (((begin Tryz.prog (fun _ _ => 0) default).world.heap[g]?).bind Obj.row?).map (fun x => (x.1.size, x.2)) = some (n, t)) (c : Array Value) (e : TypeId) (fr : Nat × Nat) (hb : W.heap[g]? = some (.cells c e fr)) : c.size = n := by
  obtain ⟨cs, h1, h2, _⟩ := shape_block hsh hg hz
  rw [h1] at hb
  cases hb
  exact h2
theorem start_tabs {W : World} (hsh : W.ShapedOpen Tryz.prog) (h0 : VarReads Tryz.prog W "unicode/utf8.first" firstData) (h1 : VarReads Tryz.prog W "unicode/utf8.acceptRanges" acceptData) {v : Value} {ls : List Int} (hv : IntArg W v ls) :
    ∃ m σ h nx u, Go.VL.Start Tryz.prog W (gtU m) σ h nx ∧ Den (wOf h) (.sl 1 (ls.map fun n => [V.int .i64 n]) none) u ∧ RV σ u v := by
  obtain ⟨m, hm⟩ := shape_int hsh (g := 2) (t := 3) (k := .i64) lt2 (by kernel_rfl) (by kernel_rfl) Tryz.underlying3 (by kernel_rfl)
  have hs := shape_size hsh (g := 8) (t := 242) (n := 32) (by kernel_rfl) (by kernel_rfl)
  have t0 := tab0_ok hsh h0
  have t1 := tab1_ok hsh h1
  refine ⟨m, start_many (L := tabL m) (g := 2) (t := 3) (m := m) hs (show ([0, 1, 2] : List Nat).Nodup by decide) (fun u hu => ?_) (gtU_ok m) (.tail _ (.tail _ (.head _))) hm (fun u hu hne c e fr i z hb => ?_) hv⟩
  · rcases List.mem_cons.1 hu with rfl | hu
    · exact t0
    rcases List.mem_cons.1 hu with rfl | hu
    · exact t1
    obtain rfl := List.mem_singleton.1 hu
    exact intTab_ok lt2 hm
  · rcases List.mem_cons.1 hu with rfl | hu
    · exact no_int first_eq rfl t0 (fun c e fr hb => (blk_size hsh lt0 (t := 188) (n := 256) (by kernel_rfl) c e fr hb).trans (show (256 : Nat) = firstL.length by kernel_rfl)) c e fr i z hb
    rcases List.mem_cons.1 hu with rfl | hu
    · exact no_int accept_eq rfl t1 (fun c e fr hb => (blk_size hsh lt1 (t := 191) (n := 32) (by kernel_rfl) c e fr hb).trans (show (32 : Nat) = acceptL.length by kernel_rfl)) c e fr i z hb
    obtain rfl := List.mem_singleton.1 hu
    exact absurd rfl hne
theorem calls_treeNexts (W : World) (hsh : W.ShapedOpen Tryz.prog) (h0 : VarReads Tryz.prog W "unicode/utf8.first" firstData) (h1 : VarReads Tryz.prog W "unicode/utf8.acceptRanges" acceptData) {v : Value} {ls : List Int} (hv : IntArg W v ls) (n : Int) :
    Calls Tryz.prog 3 #[v, .int .i64 n] W fun e w' => e = .returned (.bool true) ∧ Go.RowKit.Below W.heap.size W w' := by
  obtain ⟨m, σ, h, nx, u, S, hd, hr⟩ := start_tabs hsh h0 h1 hv
  exact top_ok (args := [v, .int .i64 n]) (XN2_ok m) count_ok Tryz.func3 (c := Tryz.f3.body.getD .skip) (by kernel_rfl) S.rh S.bd S.gl S.ro S.gt (vs := [.sl 1 (ls.map encI) none, .int .i64 n]) (us := [u, .int .i64 n]) (vn := 0) (.cons _ _ _ _ hd (.cons _ _ _ _ (.int _ _) .nil)) (.cons _ _ _ _ hr (.cons _ _ _ _ (.int _ _) .nil)) (nexts_wp m (gtU_tb m) rfl ls n _ 0)
end Go.Proofs.YtpcbnpekdmobpaaGreatDoor
namespace Go.Proofs.YtpcbnpekdmobpaaGreatDoor
open Go Go.Ev Go.VL Go.ChangeShapes Go.WideShapes Go.ChangeAt Go.RowKit
namespace LTreeNexts
theorem c227 : Tryz.prog.cellsOf 227 = 5 := by kernel_rfl
theorem c170 : Tryz.prog.cellsOf 170 = 1 := by kernel_rfl
theorem c225 : Tryz.prog.cellsOf 225 = 3 := by kernel_rfl
theorem c21 : Tryz.prog.cellsOf 21 = 1 := by kernel_rfl
theorem own : ownKnob Tryz.prog.godebug = none := by kernel_rfl
noncomputable def laidWorld (os : Os) : World :=
  let N := (World.settled Tryz.prog os).heap.size
  let w0 := World.holding Tryz.prog os ⟨#[.cells (flatD 4 Rows.laid_unicode_caseOrbit).toArray 197, .cells Lib.caseCells5 227], #[], []⟩
  let h4 := Go.Ev.putD w0.heap 1 (flatD 4 Rows.laid_unicode_utf8_acceptRanges).toArray
  let h5 := Go.Ev.putD h4 3 (flatD 4 Rows.laid_unicode_asciiFold).toArray
  let h6 := Go.Ev.putD h5 4 #[.slice (some ⟨N + 0, 0, none⟩) (sizeD Rows.laid_unicode_caseOrbit) (sizeD Rows.laid_unicode_caseOrbit)]
  let h7 := Go.Ev.putD h6 5 #[.slice (some ⟨N + 1, 0, none⟩) Lib.caseA.size Lib.caseA.size]
  let h8 := Go.Ev.putD h7 0 (flatD 4 Rows.laid_unicode_utf8_first).toArray
  { w0 with heap := h8 }
theorem laid_pre (os : Os) : LaidIn Tryz.prog ((laidWorld os).forCall (fun _ _ => 0) ⟨#[], #[.slice none 0 0, .int .i64 0], []⟩).memory [("unicode/utf8.acceptRanges", Rows.laid_unicode_utf8_acceptRanges), ("unicode.asciiFold", Rows.laid_unicode_asciiFold), ("unicode.caseOrbit", Rows.laid_unicode_caseOrbit)] [1, 3, 4, (World.settled Tryz.prog default).heap.size + 0] :=
  LaidIn.of_run _ 8 (by kernel_rfl) (by kernel_rfl) (by kernel_rfl) (by kernel_rfl)
theorem laid_post (os : Os) : LaidIn Tryz.prog ((laidWorld os).forCall (fun _ _ => 0) ⟨#[], #[.slice none 0 0, .int .i64 0], []⟩).memory [("unicode/utf8.first", Rows.laid_unicode_utf8_first)] [0] :=
  LaidIn.of_run _ 8 (by kernel_rfl) (by kernel_rfl) (by kernel_rfl) (by kernel_rfl)
theorem laid_case (os : Os) : LaidIn Tryz.prog ((laidWorld os).forCall (fun _ _ => 0) ⟨#[], #[.slice none 0 0, .int .i64 0], []⟩).memory [("unicode.CaseRanges", Pinned.caseRanges)] [5, ((World.settled Tryz.prog default).heap.size + 1)] := by
  refine case_in (tS := 200) (tR := 227) (t := 227) (by kernel_rfl) (by kernel_rfl) (by kernel_rfl) (by kernel_rfl) ?_ (of_decide_eq_true (by kernel_rfl)) (by kernel_rfl) (by kernel_rfl)
  intro x hw
  simp only [Lib.rowWf, Bool.and_eq_true] at hw
  obtain ⟨⟨⟨⟨w0, w1⟩, w2⟩, w3⟩, w4⟩ := hw
  have r3 : List.range 3 = [0, 1, 2] := rfl
  simp [DataW.trod, Tryz.underlying227, Tryz.underlying170, Tryz.underlying225, Tryz.underlying21, c227, c170, c225, c21, Lib.cells5, Lib.rowData, w0, w1, w2, w3, w4, r3]
theorem laid_met (os : Os) : laidMet Tryz.prog Rows.treeNextsRow.laid ((laidWorld os).forCall (fun _ _ => 0) ⟨#[], #[.slice none 0 0, .int .i64 0], []⟩).memory :=
  LaidIn.met ((laid_pre os).append ((laid_case os).append (laid_post os) (by kernel_rfl)) (by kernel_rfl))
theorem reads (os : Os) {H : Type} (enc : TypeId × Value → H) : ∃ places, DataW.whole enc Tryz.prog ((laidWorld os).forCall (fun _ _ => 0) ⟨#[], #[.slice none 0 0, .int .i64 0], []⟩).memory Tryz.f3.params.toList Rows.treeNextsSpec.vars false (#[.slice none 0 0, .int .i64 0] : Array Value).toList 8 = some ([.nil, .lit (.int .i64 0)], [], places) := ⟨[], by kernel_rfl⟩
theorem laidOut : laidOutB Tryz.prog = true := by kernel_rfl
theorem cells3 : Tryz.prog.cellsOf 3 = 1 := by kernel_rfl
theorem first_is : Rows.laid_unicode_utf8_first = Lib.firstData := by kernel_rfl
theorem accept_is : Rows.laid_unicode_utf8_acceptRanges = Lib.acceptData := by kernel_rfl
theorem reads0 {W : World} (hL : laidMetH Tryz.prog Rows.treeNextsRow.laid W) : Lib.VarReads Tryz.prog W "unicode/utf8.first" Lib.firstData := by
  rw [← first_is]
  exact Lib.laidMet.reads (laidMetH_iff.1 hL).1 (List.mem_filter.2 ⟨.tail _ (.tail _ (.tail _ (.tail _ (.head _)))), by kernel_rfl⟩)
theorem reads1 {W : World} (hL : laidMetH Tryz.prog Rows.treeNextsRow.laid W) : Lib.VarReads Tryz.prog W "unicode/utf8.acceptRanges" Lib.acceptData := by
  rw [← accept_is]
  exact Lib.laidMet.reads (laidMetH_iff.1 hL).1 (List.mem_filter.2 ⟨.head _, by kernel_rfl⟩)
set_option maxRecDepth 100000 in
theorem contract (H : Type) (enc : TypeId × Value → H) (W : World) (base : Nat) (args : Array Value) (ds gs : List (DataW H)) (before : List MemPlace)
    (hval : ∀ (j : Nat) t v, Tryz.f3.params[j]? = some t → args[j]? = some v → Value.okWide Tryz.prog W .any base t v)
    (hW : DataW.Whole enc Tryz.prog Tryz.f3.params.toList Rows.treeNextsSpec.vars false W args.toList ds gs before) (hL : laidMetH Tryz.prog Rows.treeNextsRow.laid W) (hsh : W.ShapedOpen Tryz.prog) :
    Calls Tryz.prog 3 args W fun e W' => ∃ v, e = .returned v ∧ Rows.treeNextsSpec.post enc Tryz.prog Tryz.f3 false true false false W args v W' := by
  have hW' := hW
  obtain ⟨p, q, hA0, hV, rfl, hfz, hnd⟩ := hW
  have hA : DataW.TrodAll enc Tryz.prog W 0 (fun _ => true) true Tryz.f3.params.toList args.toList ds p := hA0
  rw [Tryz.params3] at hA hval
  obtain ⟨v0, vs0, d0, ds0, p0, q0, hargs0, rfl, rfl, h0, r0⟩ := trodAll_cons hA
  obtain ⟨v1, vs1, d1, ds1, p1, q1, hargs1, rfl, rfl, h1, r1⟩ := trodAll_cons r0
  obtain ⟨rfl, rfl, rfl⟩ := trodAll_nil r1
  obtain rfl : args = #[v0, v1] := by
    apply Array.toList_inj.1
    rw [hargs0, hargs1]
  obtain ⟨rfl, rfl⟩ := trodVars_none hV
  clear hA0
  obtain ⟨n1, rfl, rfl, rfl, hw1⟩ := open_int Tryz.underlying3 (hval 1 3 v1 rfl rfl) h1
  have hlt0 : ∀ x ∈ p0, x.block < W.heap.size := fun x hx => hW'.lt x (by simp [hx])
  obtain ⟨ls0, hv0⟩ : ∃ ls, IntArg W v0 ls := int_arg Tryz.underlying22 Tryz.underlying3 cells3 (hval 0 22 v0 rfl rfl) h0
  simp only [List.append_nil, List.nil_append] at hW'
  refine (calls_treeNexts W hsh (reads0 hL) (reads1 hL) hv0 n1).mono fun e W' ⟨he, hg⟩ => ?_
  subst he
  exact ⟨_, rfl, post_of_below (pa := p0) (pv := []) hW' (fun _ _ _ => trodAll_cons_mk (shut_bool Tryz.underlying4 _) trodAll_mk0) (fun sp hs => (by
    have := trodAll_cons_mk (WideElems.Trod_stays laidOut (by kernel_rfl) (of_decide_eq_true (by kernel_rfl)) h0 (fun x hx => hg.same (hlt0 x hx)) fun x hx => hs x hx) (trodAll_cons_mk (shut_int Tryz.underlying3 hw1) trodAll_mk0)
    simpa only [List.append_nil] using this : DataW.TrodAll enc Tryz.prog W' 0 sp true [22, 3] [v0, .int .i64 n1] [d0, .lit (.int .i64 n1)] p0)) (fun _ _ => rfl) (by simp) hg (ok_one (by kernel_rfl) rfl (okWide_bool_mk Tryz.underlying4 _))⟩
set_option maxRecDepth 100000 in
theorem lifted (os : Os) (started : os.Started) (H : Type) (enc : TypeId × Value → H) (F : Stop.Interp) :
    ReturnsInHanded {} Tryz.checked os 3 .any ((OpenSpec.ofChange Rows.treeNextsSpec).preRow enc Tryz.prog Tryz.f3 Rows.treeNextsRow.domain false Rows.treeNextsRow.laid) (((OpenSpec.ofChange Rows.treeNextsSpec).at F).post enc Tryz.prog Tryz.f3 false true false false) := by
  obtain ⟨places, hx⟩ := reads os enc
  refine returnsInHanded_of_row (C := Tryz.checked) (s := OpenSpec.ofChange Rows.treeNextsSpec) own started (by kernel_rfl) Tryz.func3
    (witness_row_atRef (enc := enc) (C := Tryz.checked) false (laidWorld os) #[.slice none 0 0, .int .i64 0] rfl (by kernel_rfl) (by kernel_rfl) (by kernel_rfl)
      (OpenSpec.preRow_of_cond 8 hx (by kernel_rfl) (fun k hk => by cases hk) (by kernel_rfl) (laid_met os))) ?_
  intro W base args ds gs before hval hW _ _ _ hL hsh _
  exact contract H enc W base args ds gs before hval hW hL hsh
theorem said : Rows.TreeNextsSaid :=
  OpenClaim.holds_of_cond 3 Tryz.f3 rfl rfl rfl rfl rfl rfl rfl ⟨rfl, rfl, rfl, rfl, rfl⟩ rfl rfl rfl rfl rfl (by kernel_rfl) Tryz.func3 (by kernel_rfl)
    (of_decide_eq_true (by kernel_rfl)) (by unfold Func.isWrapper; first | (rw [if_pos (by decide +kernel)]; kernel_rfl) | (rw [if_neg (by decide +kernel)]; exact ⟨rfl, rfl⟩))
    (fun os started H enc _ F => by rw [OpenClaim.pre_eq_preRow]; exact lifted os started H enc F)
theorem plain (f : FuncId) (fn : Func) (hf : Tryz.pinned.checked.prog.funcNamed "bracken/brackenlaw16.TreeNexts" = some f) (hfn : Tryz.pinned.checked.prog.funcs[f]? = some fn) :
    true = Tryz.pinned.checked.prog.looks [] ∧ ∀ (j : Nat) t, fn.params[j]? = some t → Tryz.pinned.checked.prog.wantsStandIn t = false := by
  obtain rfl : f = 3 := Option.some.inj ((show Tryz.prog.funcNamed "bracken/brackenlaw16.TreeNexts" = some 3 by kernel_rfl).symm.trans hf) |>.symm
  obtain rfl : fn = Tryz.f3 := (Option.some.inj (Tryz.func3.symm.trans hfn)).symm
  refine ⟨by kernel_rfl, fun j t ht => ?_⟩
  rw [Tryz.params3] at ht
  have hm := Array.mem_of_getElem? ht
  have hm2 : t = 22 ∨ t = 3 := by simp at hm; first | exact hm | (rcases hm with h | h | h | h <;> simp [h]) | (rcases hm with h | h | h <;> simp [h])
  rcases hm2 with rfl | rfl
  · exact (show Tryz.prog.wantsStandIn 22 = false by kernel_rfl)
  · exact (show Tryz.prog.wantsStandIn 3 = false by kernel_rfl)
theorem card : Rows.TreeNextsCardSaid :=
  Claim7.holds_tied_plain_at .later [] _ _ _ _ said (fun _ h => by cases h) (by kernel_rfl) (fun _ h => by cases h) treeNexts_row_tie rfl ⟨rfl, rfl⟩ (by kernel_rfl) rfl plain (by kernel_rfl)
#print axioms card
end LTreeNexts
end Go.Proofs.YtpcbnpekdmobpaaGreatDoor
