/- ReadTwice answers true at all rests of its arguments; no condition. -/
import Derived.Test.YtmdejeddcfmpmaaGreatDoorTab

namespace Go.Proofs.YtmdejeddcfmpmaaGreatDoor
open Go Go.Ev
namespace LReadTwice
theorem c_0_false (m : Int) : (allBelow 3 fun x => lawRun m 5 [.int .i64 (.ofNat 0), .int .i64 (.ofNat x), .bool false]) = true := by kernel_rfl
theorem c_0_true (m : Int) : (allBelow 3 fun x => lawRun m 5 [.int .i64 (.ofNat 0), .int .i64 (.ofNat x), .bool true]) = true := by kernel_rfl
theorem c_1_false (m : Int) : (allBelow 3 fun x => lawRun m 5 [.int .i64 (.ofNat 1), .int .i64 (.ofNat x), .bool false]) = true := by kernel_rfl
theorem c_1_true (m : Int) : (allBelow 3 fun x => lawRun m 5 [.int .i64 (.ofNat 1), .int .i64 (.ofNat x), .bool true]) = true := by kernel_rfl
theorem c_2_false (m : Int) : (allBelow 3 fun x => lawRun m 5 [.int .i64 (.ofNat 2), .int .i64 (.ofNat x), .bool false]) = true := by kernel_rfl
theorem c_2_true (m : Int) : (allBelow 3 fun x => lawRun m 5 [.int .i64 (.ofNat 2), .int .i64 (.ofNat x), .bool true]) = true := by kernel_rfl
theorem all (m : Int) (x0 : Nat) (x1 : Nat) (x2 : Bool) (h0 : x0 < 3) (h1 : x1 < 3) : lawRun m 5 [.int .i64 (.ofNat x0), .int .i64 (.ofNat x1), .bool x2] = true := by
  match x0, h0, x2 with
  | 0, _, false => exact allBelow_at (c_0_false m) h1
  | 0, _, true => exact allBelow_at (c_0_true m) h1
  | 1, _, false => exact allBelow_at (c_1_false m) h1
  | 1, _, true => exact allBelow_at (c_1_true m) h1
  | 2, _, false => exact allBelow_at (c_2_false m) h1
  | 2, _, true => exact allBelow_at (c_2_true m) h1
def tags : List (Nat × Tg) := [(0, .i 3), (16, .i 3), (17, .u 3), (1, .i 3), (22, .i 3), (23, .u 3)]
theorem like : codeLike look tags (Tryz.f5.body.getD .skip) = true := by kernel_rfl
end LReadTwice
open LReadTwice in
theorem calls_readTwice (W : World) (hsh : W.ShapedOpen Tryz.prog) {L : List (String × DataW Unit)} (_ : laidMetH Tryz.prog L W) (n0 : Int) (n1 : Int) (n2 : Bool) :
    Calls Tryz.prog 5 #[.int .i64 n0, .int .i64 n1, .bool n2] W fun e w' => e = .returned (.bool true) ∧ Go.RowKit.Below W.heap.size W w' := by
  have hlt : 5 < Tryz.prog.globals.size := of_decide_eq_true (by kernel_rfl)
  obtain ⟨x, hx⟩ := shape_int hsh (g := 5) (t := 3) (k := .i64) hlt (by kernel_rfl) (by kernel_rfl) Tryz.underlying3 (by kernel_rfl)
  have hs := shape_size hsh (g := 5) (t := 3) (n := 1) (by kernel_rfl) (by kernel_rfl)
  obtain ⟨r0, hr0, q0⟩ := QV.nat (n := n0) (m := 3) (by decide) (by decide)
  obtain ⟨r1, hr1, q1⟩ := QV.nat (n := n1) (m := 3) (by decide) (by decide)
  refine run_okF look_eq (ovr_sound XT_ok) count_ok all_ok Tryz.func5 (c := Tryz.f5.body.getD .skip) (by kernel_rfl) (lf := 100000) (n := 101) hs (L := mxTab 5 3 x []) (by simp [mxTab]) ?_ (args := [.int .i64 n0, .int .i64 n1, .bool n2]) (vs := [.int .i64 n0, .int .i64 n1, .bool n2]) (fun σ => .cons _ _ _ _ (.int _ _) (.cons _ _ _ _ (.int _ _) (.cons _ _ _ _ (.bool _) .nil))) ?_
  · intro t ht
    obtain rfl := List.mem_singleton.1 ht
    exact intTab_ok hlt hx
  · rw [fnF_like (T := tags) (fn := Tryz.f5) (c := Tryz.f5.body.getD .skip) (by kernel_rfl) (by kernel_rfl) (by kernel_rfl) like (by kernel_rfl) (args' := [.int .i64 (.ofNat r0), .int .i64 (.ofNat r1), .bool n2]) (.like _ _ _ _ _ _ rfl q0 (.like _ _ _ _ _ _ rfl q1 (.same _ _ _ _ rfl (.nil _)))) (by simp)]
    exact all x r0 r1 n2 hr0 hr1
end Go.Proofs.YtmdejeddcfmpmaaGreatDoor

