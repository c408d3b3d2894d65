/- ReadUnbound answers true at all rests of its arguments; no condition. -/
import Derived.Test.YtmdejeddcfmpmaaGreatDoorTab

namespace Go.Proofs.YtmdejeddcfmpmaaGreatDoor
open Go Go.Ev
namespace LReadUnbound
theorem c_0 (m : Int) : (allBelow 6 fun x => lawRun m 4 [.int .i64 (.ofNat 0), .int .i64 (.ofNat x)]) = true := by kernel_rfl
theorem c_1 (m : Int) : (allBelow 6 fun x => lawRun m 4 [.int .i64 (.ofNat 1), .int .i64 (.ofNat x)]) = true := by kernel_rfl
theorem c_2 (m : Int) : (allBelow 6 fun x => lawRun m 4 [.int .i64 (.ofNat 2), .int .i64 (.ofNat x)]) = true := by kernel_rfl
theorem c_3 (m : Int) : (allBelow 6 fun x => lawRun m 4 [.int .i64 (.ofNat 3), .int .i64 (.ofNat x)]) = true := by kernel_rfl
theorem c_4 (m : Int) : (allBelow 6 fun x => lawRun m 4 [.int .i64 (.ofNat 4), .int .i64 (.ofNat x)]) = true := by kernel_rfl
theorem c_5 (m : Int) : (allBelow 6 fun x => lawRun m 4 [.int .i64 (.ofNat 5), .int .i64 (.ofNat x)]) = true := by kernel_rfl
theorem c_6 (m : Int) : (allBelow 6 fun x => lawRun m 4 [.int .i64 (.ofNat 6), .int .i64 (.ofNat x)]) = true := by kernel_rfl
theorem c_7 (m : Int) : (allBelow 6 fun x => lawRun m 4 [.int .i64 (.ofNat 7), .int .i64 (.ofNat x)]) = true := by kernel_rfl
theorem all (m : Int) (x0 : Nat) (x1 : Nat) (h0 : x0 < 8) (h1 : x1 < 6) : lawRun m 4 [.int .i64 (.ofNat x0), .int .i64 (.ofNat x1)] = true := by
  match x0, h0 with
  | 0, _ => exact allBelow_at (c_0 m) h1
  | 1, _ => exact allBelow_at (c_1 m) h1
  | 2, _ => exact allBelow_at (c_2 m) h1
  | 3, _ => exact allBelow_at (c_3 m) h1
  | 4, _ => exact allBelow_at (c_4 m) h1
  | 5, _ => exact allBelow_at (c_5 m) h1
  | 6, _ => exact allBelow_at (c_6 m) h1
  | 7, _ => exact allBelow_at (c_7 m) h1
def tags : List (Nat × Tg) := [(0, .i 8), (19, .i 8), (20, .u 8), (1, .i 6), (40, .i 6), (41, .u 6), (43, .i 6), (44, .u 6), (45, .u 2)]
theorem like : codeLike look tags (Tryz.f4.body.getD .skip) = true := by kernel_rfl
end LReadUnbound
open LReadUnbound in
theorem calls_readUnbound (W : World) (hsh : W.ShapedOpen Tryz.prog) {L : List (String × DataW Unit)} (_ : laidMetH Tryz.prog L W) (n0 : Int) (n1 : Int) :
    Calls Tryz.prog 4 #[.int .i64 n0, .int .i64 n1] W fun e w' => e = .returned (.bool true) ∧ Go.RowKit.Below W.heap.size W w' := by
  have hlt : 5 < Tryz.prog.globals.size := of_decide_eq_true (by kernel_rfl)
  obtain ⟨x, hx⟩ := shape_int hsh (g := 5) (t := 3) (k := .i64) hlt (by kernel_rfl) (by kernel_rfl) Tryz.underlying3 (by kernel_rfl)
  have hs := shape_size hsh (g := 5) (t := 3) (n := 1) (by kernel_rfl) (by kernel_rfl)
  obtain ⟨r0, hr0, q0⟩ := QV.nat (n := n0) (m := 8) (by decide) (by decide)
  obtain ⟨r1, hr1, q1⟩ := QV.nat (n := n1) (m := 6) (by decide) (by decide)
  refine run_okF look_eq (ovr_sound XT_ok) count_ok all_ok Tryz.func4 (c := Tryz.f4.body.getD .skip) (by kernel_rfl) (lf := 100000) (n := 101) hs (L := mxTab 5 3 x []) (by simp [mxTab]) ?_ (args := [.int .i64 n0, .int .i64 n1]) (vs := [.int .i64 n0, .int .i64 n1]) (fun σ => .cons _ _ _ _ (.int _ _) (.cons _ _ _ _ (.int _ _) .nil)) ?_
  · intro t ht
    obtain rfl := List.mem_singleton.1 ht
    exact intTab_ok hlt hx
  · rw [fnF_like (T := tags) (fn := Tryz.f4) (c := Tryz.f4.body.getD .skip) (by kernel_rfl) (by kernel_rfl) (by kernel_rfl) like (by kernel_rfl) (args' := [.int .i64 (.ofNat r0), .int .i64 (.ofNat r1)]) (.like _ _ _ _ _ _ rfl q0 (.like _ _ _ _ _ _ rfl q1 (.nil _))) (by simp)]
    exact all x r0 r1 hr0 hr1
end Go.Proofs.YtmdejeddcfmpmaaGreatDoor

