/- TreeEnds is true for every list of numbers; no condition. -/
import Derived.Test.YtpcbnpekdmobpaaGreatDoorChecked
import Derived.KernelRfl
import Derived.Test.YtpcbnpekdmobpaaGreatDoorCards
import Derived.Test.YtpcbnpekdmobpaaGreatDoorTie
import Derived.WalkKit
import Derived.ProofKit
import Derived.OpenShut
import Derived.Deep.DeepHandedRow
import Derived.Deep.DeepWitnessRowRef
import Derived.Lib.LaidIn
import Derived.ChangeSlices
import Derived.ReadAgain
import Derived.Carry
import Derived.Test.YtpcbnpekdmobpaaGreatDoorXb
set_option linter.unusedSimpArgs false
set_option linter.unusedVariables false
set_option linter.unnecessarySimpa false
set_option linter.constructorNameAsVariable false

namespace Go.Proofs.YtpcbnpekdmobpaaGreatDoor
open Go Go.Ev

def ren : Shelf.Ren := ⟨fun | 217 => 166 | 219 => 132 | 224 => 168 | 225 => 167 | 266 => 194 | 267 => 169 | 314 => 195 | n => n, fun | 46 => 26 | 51 => 170 | 146 => 221 | n => n, fun | 1 => 2 | n => n⟩
theorem lays : Lays.n219 Tryz.prog ren := {
  mixed := by kernel_rfl
  f217 := by kernel_rfl
  f219 := by kernel_rfl
  f224 := by kernel_rfl
  f225 := by kernel_rfl
  f266 := by kernel_rfl
  f267 := by kernel_rfl
  f314 := by kernel_rfl
  t3 := Tryz.underlying3
  a3 := Tryz.isAgg3
  z3 := Tryz.sizeOf3
  v3 := Tryz.zeroValue3
  t4 := Tryz.underlying4
  a4 := Tryz.isAgg4
  z4 := Tryz.sizeOf4
  v4 := Tryz.zeroValue4
  t5 := Tryz.underlying5
  a5 := Tryz.isAgg5
  z5 := Tryz.sizeOf5
  v5 := Tryz.zeroValue5
  t9 := Tryz.underlying9
  a9 := Tryz.isAgg9
  z9 := Tryz.sizeOf9
  v9 := Tryz.zeroValue9
  t46 := Tryz.underlying26
  a46 := Tryz.isAgg26
  z46 := Tryz.sizeOf26
  v46 := Tryz.zeroValue26
  t51 := Tryz.underlying170
  a51 := Tryz.isAgg170
  z51 := Tryz.sizeOf170
  v51 := Tryz.zeroValue170
  t146 := Tryz.underlying221
  a146 := Tryz.isAgg221
  z146 := Tryz.sizeOf221
  v146 := Tryz.zeroValue221
  g1 := by kernel_rfl }

theorem ext184 : IsExt Tryz.prog 184 Extern.AbiNoEscape.same := ⟨run_callFunc_extern Tryz.func184 (by kernel_rfl) (by kernel_rfl) (by kernel_rfl) (by kernel_rfl)⟩
theorem ext194 : IsExt Tryz.prog 194 Extern.BytealgIndexByte.indexByte := ⟨run_callFunc_extern Tryz.func194 (by kernel_rfl) (by kernel_rfl) (by kernel_rfl) (by kernel_rfl)⟩

def base : List (Nat × Ent) := [(132, kIndex 2), (184, kNoEsc), (194, kIdxByte)]
theorem base_ok : ∀ p ∈ base, EntryOk Tryz.prog p.1 p.2 := by
  intro p hp
  simp only [base, List.mem_cons, List.mem_nil_iff, or_false] at hp
  rcases hp with rfl | rfl | rfl
  · exact kIndex_ok lays rfl rfl (of_decide_eq_true (by kernel_rfl))
  · exact kNoEsc_ok ext184
  · exact kIdxByte_ok ext194
theorem count_ok : noCount Tryz.prog = true := by kernel_rfl

def tab24 (m : Int) : List Tab := [intTab 2 3 .i64 m]
theorem told24 (m : Int) : isTrue (evCall Tryz.prog (ovr base) 1000000 26 [] (tabs (tab24 m) .e) Tryz.prog.globals.size) = true := by kernel_rfl
theorem told24_ok (m : Int) : EntryOk Tryz.prog 26 (kTold (tab24 m)) := by
  obtain ⟨h', nx', hr⟩ := isTrue_ok (told24 m)
  refine kTold_ok (ovr_sound base_ok) count_ok ?_ ?_ hr
  · intro t ht
    obtain rfl := List.mem_singleton.1 ht
    rfl
  · intro t ht
    obtain rfl := List.mem_singleton.1 ht
    exact of_decide_eq_true (by kernel_rfl)
noncomputable def base24 (m : Int) : List (Nat × Ent) := (26, kTold (tab24 m)) :: base
theorem base24_ok (m : Int) : OvrSound Tryz.prog (ovr (base24 m)) := ovr_sound fun p hp => by
  rcases List.mem_cons.1 hp with rfl | hp
  · exact told24_ok m
  · exact base_ok p hp
end Go.Proofs.YtpcbnpekdmobpaaGreatDoor

namespace Go.Proofs.YtpcbnpekdmobpaaGreatDoor
open Go Go.Ev Go.VL
set_option maxRecDepth 100000 in
theorem told16 (m : Int) (e : TypeId) (fz : Nat) (raw : Bool) : trueAt 2 (evCall Tryz.prog (ovr base) 1000000 11 [] ((Tr.e : H).set 2 (.cells [.int .i64 m] e fz raw)) Tryz.prog.globals.size) = some (.cells [.int .i64 m] e fz raw) := by kernel_rfl
noncomputable def XB : List (Nat × Ent) := (11, kToldG 2) :: base
theorem lt2 : 2 < Tryz.prog.globals.size := of_decide_eq_true (by kernel_rfl)
theorem XB_ok : OvrSound Tryz.prog (ovr XB) := ovr_sound fun p hp => by
  rcases List.mem_cons.1 hp with rfl | hp
  · exact kToldG_ok (ovr_sound base_ok) count_ok lt2 told16
  · exact base_ok p hp
theorem XB_xt : XT (ovr XB) where
  hin := rfl
  one := rfl
  part := rfl
  start := rfl
  run := rfl
  name := rfl
  nc := rfl
  split := rfl
  char := rfl
  valid := rfl
  space := rfl
  holds := rfl
  lower := rfl
  target := rfl
  plain := rfl
  declares := rfl
  uri := rfl
  push := rfl
  pop := rfl
  names := rfl
  same := rfl
  qname := rfl
  named := rfl
  element := rfl
  samend := rfl
  may := rfl
  attrs := rfl
  make := rfl
  tat := rfl
  tend := rfl
  tpar := rfl
theorem calls_treeEnds (W : World) (hsh : W.ShapedOpen Tryz.prog) {v : Value} {ls : List Int} (hv : IntArg W v ls) :
    Calls Tryz.prog 6 #[v] W fun e w' => e = .returned (.bool true) ∧ Go.RowKit.Below W.heap.size W w' := by
  obtain ⟨m, hm⟩ := shape_int hsh (g := 2) (t := 3) (k := .i64) lt2 (by kernel_rfl) (by kernel_rfl) Tryz.underlying3 (by kernel_rfl)
  have hs := shape_size hsh (g := 8) (t := 242) (n := 32) (by kernel_rfl) (by kernel_rfl)
  obtain ⟨σ, h, nx, u, S, hd, hr⟩ := start_ints hs lt2 hm hv
  exact top_ok (args := [v]) XB_ok count_ok Tryz.func6 (c := Tryz.f6.body.getD .skip) (by kernel_rfl) S.rh S.bd S.gl S.ro S.gt (vs := [.sl 1 (ls.map encI) none]) (us := [u]) (vn := 0) (.cons _ _ _ _ hd .nil) (.cons _ _ _ _ hr .nil) (TreeEnds_ok XB_xt rfl ⟨m, rfl⟩ rfl ls _ 0)
end Go.Proofs.YtpcbnpekdmobpaaGreatDoor

namespace Go.Proofs.YtpcbnpekdmobpaaGreatDoor
open Go Go.Ev Go.VL Go.ChangeShapes Go.WideShapes Go.ChangeAt Go.RowKit
namespace LTreeEnds
theorem c227 : Tryz.prog.cellsOf 227 = 5 := by kernel_rfl
theorem c170 : Tryz.prog.cellsOf 170 = 1 := by kernel_rfl
theorem c225 : Tryz.prog.cellsOf 225 = 3 := by kernel_rfl
theorem c21 : Tryz.prog.cellsOf 21 = 1 := by kernel_rfl
theorem own : ownKnob Tryz.prog.godebug = none := by kernel_rfl
noncomputable def laidWorld (os : Os) : World :=
  let N := (World.settled Tryz.prog os).heap.size
  let w0 := World.holding Tryz.prog os ⟨#[.cells (flatD 4 Rows.laid_unicode_caseOrbit).toArray 197, .cells Lib.caseCells5 227], #[], []⟩
  let h4 := putD w0.heap 1 (flatD 4 Rows.laid_unicode_utf8_acceptRanges).toArray
  let h5 := putD h4 3 (flatD 4 Rows.laid_unicode_asciiFold).toArray
  let h6 := putD h5 4 #[.slice (some ⟨N + 0, 0, none⟩) (sizeD Rows.laid_unicode_caseOrbit) (sizeD Rows.laid_unicode_caseOrbit)]
  let h7 := putD h6 5 #[.slice (some ⟨N + 1, 0, none⟩) Lib.caseA.size Lib.caseA.size]
  let h8 := putD h7 0 (flatD 4 Rows.laid_unicode_utf8_first).toArray
  { w0 with heap := h8 }
theorem laid_pre (os : Os) : LaidIn Tryz.prog ((laidWorld os).forCall (fun _ _ => 0) ⟨#[], #[.slice none 0 0], []⟩).memory [("unicode/utf8.acceptRanges", Rows.laid_unicode_utf8_acceptRanges), ("unicode.asciiFold", Rows.laid_unicode_asciiFold), ("unicode.caseOrbit", Rows.laid_unicode_caseOrbit)] [1, 3, 4, (World.settled Tryz.prog default).heap.size + 0] :=
  LaidIn.of_run _ 8 (by kernel_rfl) (by kernel_rfl) (by kernel_rfl) (by kernel_rfl)
theorem laid_post (os : Os) : LaidIn Tryz.prog ((laidWorld os).forCall (fun _ _ => 0) ⟨#[], #[.slice none 0 0], []⟩).memory [("unicode/utf8.first", Rows.laid_unicode_utf8_first)] [0] :=
  LaidIn.of_run _ 8 (by kernel_rfl) (by kernel_rfl) (by kernel_rfl) (by kernel_rfl)
theorem laid_case (os : Os) : LaidIn Tryz.prog ((laidWorld os).forCall (fun _ _ => 0) ⟨#[], #[.slice none 0 0], []⟩).memory [("unicode.CaseRanges", Pinned.caseRanges)] [5, ((World.settled Tryz.prog default).heap.size + 1)] := by
  refine case_in (tS := 200) (tR := 227) (t := 227) (by kernel_rfl) (by kernel_rfl) (by kernel_rfl) (by kernel_rfl) ?_ (of_decide_eq_true (by kernel_rfl)) (by kernel_rfl) (by kernel_rfl)
  intro x hw
  simp only [Lib.rowWf, Bool.and_eq_true] at hw
  obtain ⟨⟨⟨⟨w0, w1⟩, w2⟩, w3⟩, w4⟩ := hw
  have r3 : List.range 3 = [0, 1, 2] := rfl
  simp [DataW.trod, Tryz.underlying227, Tryz.underlying170, Tryz.underlying225, Tryz.underlying21, c227, c170, c225, c21, Lib.cells5, Lib.rowData, w0, w1, w2, w3, w4, r3]
theorem laid_met (os : Os) : laidMet Tryz.prog Rows.treeEndsRow.laid ((laidWorld os).forCall (fun _ _ => 0) ⟨#[], #[.slice none 0 0], []⟩).memory :=
  LaidIn.met ((laid_pre os).append ((laid_case os).append (laid_post os) (by kernel_rfl)) (by kernel_rfl))
theorem reads (os : Os) {H : Type} (enc : TypeId × Value → H) : ∃ places, DataW.whole enc Tryz.prog ((laidWorld os).forCall (fun _ _ => 0) ⟨#[], #[.slice none 0 0], []⟩).memory Tryz.f6.params.toList Rows.treeEndsSpec.vars false (#[.slice none 0 0] : Array Value).toList 8 = some ([.nil], [], places) := ⟨[], by kernel_rfl⟩
theorem laidOut : laidOutB Tryz.prog = true := by kernel_rfl
theorem cells3 : Tryz.prog.cellsOf 3 = 1 := by kernel_rfl
set_option maxRecDepth 100000 in
theorem contract (H : Type) (enc : TypeId × Value → H) (W : World) (base : Nat) (args : Array Value) (ds gs : List (DataW H)) (before : List MemPlace)
    (hval : ∀ (j : Nat) t v, Tryz.f6.params[j]? = some t → args[j]? = some v → Value.okWide Tryz.prog W .any base t v)
    (hW : DataW.Whole enc Tryz.prog Tryz.f6.params.toList Rows.treeEndsSpec.vars false W args.toList ds gs before) (hL : laidMetH Tryz.prog Rows.treeEndsRow.laid W) (hsh : W.ShapedOpen Tryz.prog) :
    Calls Tryz.prog 6 args W fun e W' => ∃ v, e = .returned v ∧ Rows.treeEndsSpec.post enc Tryz.prog Tryz.f6 false true false false W args v W' := by
  have hW' := hW
  obtain ⟨p, q, hA0, hV, rfl, hfz, hnd⟩ := hW
  have hA : DataW.TrodAll enc Tryz.prog W 0 (fun _ => true) true Tryz.f6.params.toList args.toList ds p := hA0
  rw [Tryz.params6] at hA hval
  obtain ⟨v0, vs0, d0, ds0, p0, q0, hargs0, rfl, rfl, h0, r0⟩ := trodAll_cons hA
  obtain ⟨rfl, rfl, rfl⟩ := trodAll_nil r0
  obtain rfl : args = #[v0] := by
    apply Array.toList_inj.1
    rw [hargs0]
  obtain ⟨rfl, rfl⟩ := trodVars_none hV
  clear hA0
  have hlt : ∀ x ∈ p0, x.block < W.heap.size := fun x hx => hW'.lt x (by simpa using hx)
  obtain ⟨ls, hv⟩ : ∃ ls, IntArg W v0 ls := int_arg Tryz.underlying22 Tryz.underlying3 cells3 (hval 0 22 v0 rfl rfl) h0
  simp only [List.append_nil] at hW'
  refine (calls_treeEnds W hsh hv).mono fun e W' ⟨he, hg⟩ => ?_
  subst he
  exact ⟨_, rfl, post_of_below (pa := p0) (pv := []) hW' (fun _ _ _ => trodAll_cons_mk (shut_bool Tryz.underlying4 _) trodAll_mk0) (fun sp hs => trodAll_mk1 (WideElems.Trod_stays laidOut (by kernel_rfl) (of_decide_eq_true (by kernel_rfl)) h0 (fun x hx => hg.same (hlt x hx)) fun x hx => hs x hx)) (fun _ _ => rfl) (by simp) hg (ok_one (by kernel_rfl) rfl (okWide_bool_mk Tryz.underlying4 _))⟩
set_option maxRecDepth 100000 in
theorem lifted (os : Os) (started : os.Started) (H : Type) (enc : TypeId × Value → H) (F : Stop.Interp) :
    ReturnsInHanded {} Tryz.checked os 6 .any ((OpenSpec.ofChange Rows.treeEndsSpec).preRow enc Tryz.prog Tryz.f6 Rows.treeEndsRow.domain false Rows.treeEndsRow.laid) (((OpenSpec.ofChange Rows.treeEndsSpec).at F).post enc Tryz.prog Tryz.f6 false true false false) := by
  obtain ⟨places, hx⟩ := reads os enc
  refine returnsInHanded_of_row (C := Tryz.checked) (s := OpenSpec.ofChange Rows.treeEndsSpec) own started (by kernel_rfl) Tryz.func6
    (witness_row_atRef (enc := enc) (C := Tryz.checked) false (laidWorld os) #[.slice none 0 0] rfl (by kernel_rfl) (by kernel_rfl) (by kernel_rfl)
      (OpenSpec.preRow_of_cond 8 hx (by kernel_rfl) (fun k hk => by cases hk) (by kernel_rfl) (laid_met os))) ?_
  intro W base args ds gs before hval hW _ _ _ hL hsh _
  exact contract H enc W base args ds gs before hval hW hL hsh
theorem said : Rows.TreeEndsSaid :=
  OpenClaim.holds_of_cond 6 Tryz.f6 rfl rfl rfl rfl rfl rfl rfl ⟨rfl, rfl, rfl, rfl, rfl⟩ rfl rfl rfl rfl rfl (by kernel_rfl) Tryz.func6 (by kernel_rfl)
    (of_decide_eq_true (by kernel_rfl)) (by unfold Func.isWrapper; first | (rw [if_pos (by decide +kernel)]; kernel_rfl) | (rw [if_neg (by decide +kernel)]; exact ⟨rfl, rfl⟩))
    (fun os started H enc _ F => by rw [OpenClaim.pre_eq_preRow]; exact lifted os started H enc F)
theorem plain (f : FuncId) (fn : Func) (hf : Tryz.pinned.checked.prog.funcNamed "bracken/brackenlaw16.TreeEnds" = some f) (hfn : Tryz.pinned.checked.prog.funcs[f]? = some fn) :
    true = Tryz.pinned.checked.prog.looks [] ∧ ∀ (j : Nat) t, fn.params[j]? = some t → Tryz.pinned.checked.prog.wantsStandIn t = false := by
  obtain rfl : f = 6 := Option.some.inj ((show Tryz.prog.funcNamed "bracken/brackenlaw16.TreeEnds" = some 6 by kernel_rfl).symm.trans hf) |>.symm
  obtain rfl : fn = Tryz.f6 := (Option.some.inj (Tryz.func6.symm.trans hfn)).symm
  refine ⟨by kernel_rfl, fun j t ht => ?_⟩
  rw [Tryz.params6] at ht
  have hm := Array.mem_of_getElem? ht
  obtain rfl : t = 22 := by simpa using hm
  exact (show Tryz.prog.wantsStandIn 22 = false by kernel_rfl)

theorem card : Rows.TreeEndsCardSaid :=
  Claim7.holds_tied_plain_at .later [] _ _ _ _ said (fun _ h => by cases h) (by kernel_rfl) (fun _ h => by cases h) treeEnds_row_tie rfl ⟨rfl, rfl⟩ (by kernel_rfl) rfl plain (by kernel_rfl)
#print axioms card
end LTreeEnds
end Go.Proofs.YtpcbnpekdmobpaaGreatDoor

