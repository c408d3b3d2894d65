/- ReadDefaults answers true at all rests of its arguments; no condition. -/
import Derived.Test.YtmdejeddcfmpmaaGreatDoorTab

namespace Go.Proofs.YtmdejeddcfmpmaaGreatDoor
open Go Go.Ev
namespace LReadDefaults
theorem c_false_0_0 (m : Int) : (allBelow 20 fun x => lawRun m 8 [.bool false, .int .i64 (.ofNat 0), .int .i64 (.ofNat 0), .int .i64 (.ofNat x)]) = true := by kernel_rfl
theorem c_false_0_1 (m : Int) : (allBelow 20 fun x => lawRun m 8 [.bool false, .int .i64 (.ofNat 0), .int .i64 (.ofNat 1), .int .i64 (.ofNat x)]) = true := by kernel_rfl
theorem c_false_0_2 (m : Int) : (allBelow 20 fun x => lawRun m 8 [.bool false, .int .i64 (.ofNat 0), .int .i64 (.ofNat 2), .int .i64 (.ofNat x)]) = true := by kernel_rfl
theorem c_false_1_0 (m : Int) : (allBelow 20 fun x => lawRun m 8 [.bool false, .int .i64 (.ofNat 1), .int .i64 (.ofNat 0), .int .i64 (.ofNat x)]) = true := by kernel_rfl
theorem c_false_1_1 (m : Int) : (allBelow 20 fun x => lawRun m 8 [.bool false, .int .i64 (.ofNat 1), .int .i64 (.ofNat 1), .int .i64 (.ofNat x)]) = true := by kernel_rfl
theorem c_false_1_2 (m : Int) : (allBelow 20 fun x => lawRun m 8 [.bool false, .int .i64 (.ofNat 1), .int .i64 (.ofNat 2), .int .i64 (.ofNat x)]) = true := by kernel_rfl
theorem c_true_0_0 (m : Int) : (allBelow 20 fun x => lawRun m 8 [.bool true, .int .i64 (.ofNat 0), .int .i64 (.ofNat 0), .int .i64 (.ofNat x)]) = true := by kernel_rfl
theorem c_true_0_1 (m : Int) : (allBelow 20 fun x => lawRun m 8 [.bool true, .int .i64 (.ofNat 0), .int .i64 (.ofNat 1), .int .i64 (.ofNat x)]) = true := by kernel_rfl
theorem c_true_0_2 (m : Int) : (allBelow 20 fun x => lawRun m 8 [.bool true, .int .i64 (.ofNat 0), .int .i64 (.ofNat 2), .int .i64 (.ofNat x)]) = true := by kernel_rfl
theorem c_true_1_0 (m : Int) : (allBelow 20 fun x => lawRun m 8 [.bool true, .int .i64 (.ofNat 1), .int .i64 (.ofNat 0), .int .i64 (.ofNat x)]) = true := by kernel_rfl
theorem c_true_1_1 (m : Int) : (allBelow 20 fun x => lawRun m 8 [.bool true, .int .i64 (.ofNat 1), .int .i64 (.ofNat 1), .int .i64 (.ofNat x)]) = true := by kernel_rfl
theorem c_true_1_2 (m : Int) : (allBelow 20 fun x => lawRun m 8 [.bool true, .int .i64 (.ofNat 1), .int .i64 (.ofNat 2), .int .i64 (.ofNat x)]) = true := by kernel_rfl
theorem all (m : Int) (x0 : Bool) (x1 : Nat) (x2 : Nat) (x3 : Nat) (h1 : x1 < 2) (h2 : x2 < 3) (h3 : x3 < 20) : lawRun m 8 [.bool x0, .int .i64 (.ofNat x1), .int .i64 (.ofNat x2), .int .i64 (.ofNat x3)] = true := by
  match x1, h1, x2, h2, x0 with
  | 0, _, 0, _, false => exact allBelow_at (c_false_0_0 m) h3
  | 0, _, 1, _, false => exact allBelow_at (c_false_0_1 m) h3
  | 0, _, 2, _, false => exact allBelow_at (c_false_0_2 m) h3
  | 1, _, 0, _, false => exact allBelow_at (c_false_1_0 m) h3
  | 1, _, 1, _, false => exact allBelow_at (c_false_1_1 m) h3
  | 1, _, 2, _, false => exact allBelow_at (c_false_1_2 m) h3
  | 0, _, 0, _, true => exact allBelow_at (c_true_0_0 m) h3
  | 0, _, 1, _, true => exact allBelow_at (c_true_0_1 m) h3
  | 0, _, 2, _, true => exact allBelow_at (c_true_0_2 m) h3
  | 1, _, 0, _, true => exact allBelow_at (c_true_1_0 m) h3
  | 1, _, 1, _, true => exact allBelow_at (c_true_1_1 m) h3
  | 1, _, 2, _, true => exact allBelow_at (c_true_1_2 m) h3
def tags : List (Nat × Tg) := [(1, .i 2), (17, .i 2), (18, .u 2), (2, .i 3), (22, .i 3), (23, .u 3), (3, .i 20), (26, .i 20), (27, .u 20)]
theorem like : codeLike look tags (Tryz.f8.body.getD .skip) = true := by kernel_rfl
end LReadDefaults
open LReadDefaults in
theorem calls_readDefaults (W : World) (hsh : W.ShapedOpen Tryz.prog) {L : List (String × DataW Unit)} (_ : laidMetH Tryz.prog L W) (n0 : Bool) (n1 : Int) (n2 : Int) (n3 : Int) :
    Calls Tryz.prog 8 #[.bool n0, .int .i64 n1, .int .i64 n2, .int .i64 n3] W fun e w' => e = .returned (.bool true) ∧ Go.RowKit.Below W.heap.size W w' := by
  have hlt : 5 < Tryz.prog.globals.size := of_decide_eq_true (by kernel_rfl)
  obtain ⟨x, hx⟩ := shape_int hsh (g := 5) (t := 3) (k := .i64) hlt (by kernel_rfl) (by kernel_rfl) Tryz.underlying3 (by kernel_rfl)
  have hs := shape_size hsh (g := 5) (t := 3) (n := 1) (by kernel_rfl) (by kernel_rfl)
  obtain ⟨r1, hr1, q1⟩ := QV.nat (n := n1) (m := 2) (by decide) (by decide)
  obtain ⟨r2, hr2, q2⟩ := QV.nat (n := n2) (m := 3) (by decide) (by decide)
  obtain ⟨r3, hr3, q3⟩ := QV.nat (n := n3) (m := 20) (by decide) (by decide)
  refine run_okF look_eq (ovr_sound XT_ok) count_ok all_ok Tryz.func8 (c := Tryz.f8.body.getD .skip) (by kernel_rfl) (lf := 100000) (n := 101) hs (L := mxTab 5 3 x []) (by simp [mxTab]) ?_ (args := [.bool n0, .int .i64 n1, .int .i64 n2, .int .i64 n3]) (vs := [.bool n0, .int .i64 n1, .int .i64 n2, .int .i64 n3]) (fun σ => .cons _ _ _ _ (.bool _) (.cons _ _ _ _ (.int _ _) (.cons _ _ _ _ (.int _ _) (.cons _ _ _ _ (.int _ _) .nil)))) ?_
  · intro t ht
    obtain rfl := List.mem_singleton.1 ht
    exact intTab_ok hlt hx
  · rw [fnF_like (T := tags) (fn := Tryz.f8) (c := Tryz.f8.body.getD .skip) (by kernel_rfl) (by kernel_rfl) (by kernel_rfl) like (by kernel_rfl) (args' := [.bool n0, .int .i64 (.ofNat r1), .int .i64 (.ofNat r2), .int .i64 (.ofNat r3)]) (.same _ _ _ _ rfl (.like _ _ _ _ _ _ rfl q1 (.like _ _ _ _ _ _ rfl q2 (.like _ _ _ _ _ _ rfl q3 (.nil _))))) (by simp)]
    exact all x n0 r1 r2 r3 hr1 hr2 hr3
end Go.Proofs.YtmdejeddcfmpmaaGreatDoor

