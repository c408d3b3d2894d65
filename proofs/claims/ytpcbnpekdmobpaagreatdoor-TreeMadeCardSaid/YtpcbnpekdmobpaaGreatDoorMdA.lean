/- TreeMade is true for every list of numbers and any two numbers; no condition. -/
import GoSem.Dispatch
import Derived.Laws.Sem
import Derived.Calls
import Derived.Laws.Entries
import Derived.Laws.Cells
import Derived.Laws.Rows
import Derived.Laws.StructEq
import Derived.ChangeKeysEq
import Derived.Laws.BytesString
import Derived.Laws.BytesArg
import Derived.Lib.DecodeN
import Derived.Lib.Builder
import Derived.Lib.UnsafeStr
import Derived.Orders
import Derived.LoopN
import Derived.Scope
import Derived.Lib.Bytealg
import Derived.Lib.Index
import Derived.Shelf.Strings.Search2
import Derived.Below
import Derived.ShapedOpen
import Derived.ChangeSame
import Derived.RowKit
import Derived.OpenShut
import GoSem.PinnedTables
import Derived.Lib.LaidIn
import Derived.Lib.LaidCaseMet
import Derived.KernelRfl
import Derived.ChangeSlices
import Derived.Test.YtpcbnpekdmobpaaGreatDoorChecked
import Derived.Lib.LaidU8
import Derived.LaidSub
import Derived.Test.YtpcbnpekdmobpaaGreatDoorCards
import Derived.Test.YtpcbnpekdmobpaaGreatDoorTie
import Derived.WalkKit
import Derived.ProofKit
import Derived.Deep.DeepHandedRow
import Derived.Deep.DeepWitnessRowRef
import Derived.ReadAgain
import Derived.Carry
import Derived.Test.YtpcbnpekdmobpaaGreatDoorNxH
set_option linter.unusedSimpArgs false
set_option linter.unusedVariables false
set_option linter.constructorNameAsVariable false
set_option linter.unnecessarySimpa false
set_option maxRecDepth 100000
set_option linter.unusedVariables false
open Go Go.Ev Go.VL
namespace Go.Proofs.YtpcbnpekdmobpaaGreatDoor
abbrev F_law16_TreeMade : FuncId := 5
abbrev F_tree_Same : FuncId := 15
abbrev F_tree_Diff : FuncId := 17
abbrev F_slices_EqualFunc_api_Tree_api_Tree_api_Node_api_Node : FuncId := 42
abbrev F_tree_one : FuncId := 43
def S_zz : List Nat := [122,122]
def S_0_ : List Nat := [0]
def S_32_ : List Nat := [32]
end Go.Proofs.YtpcbnpekdmobpaaGreatDoor
open Go Go.Ev Go.VL
namespace Go.Proofs.YtpcbnpekdmobpaaGreatDoor
def dep (t : List Nd) (i : Nat) : Int := match t[i]? with | some n => n.d | none => 0
theorem dep_get {t : List Nd} {i : Nat} (h : i < t.length) : dep t i = t[i].d := by simp [dep, h]
end Go.Proofs.YtpcbnpekdmobpaaGreatDoor
set_option maxRecDepth 100000
set_option linter.unusedVariables false
open Go Go.Ev Go.VL
namespace Go.Proofs.YtpcbnpekdmobpaaGreatDoor
def c_law16_TreeMade_R24 : VCode := (.seq (.reg 0 [mA 91 9, mA 92 8, oA 93 (.load 10 true 7), oA 94 (.idx 7 91 92), oN (.store 94 93 7)] [.fzs 9 7,.keep [7,8,9,11]])
(.seq (.reg 0 [oA 95 (.call F_law16_told []), mA 96 95, oT 96 97 (.mv 9), oT 96 98 (.call F_tree_May [97]), oT 96 99 (.mv 11), oT 96 100 (.eq .b .neq 98 99), oA 101 (.pick 96 100 (cB false)), mA 102 101, oT 102 103 (.mv 7), oT 102 104 (.mv 9), oT 102 105 (.call F_tree_Same [103,104]), oT 102 106 (.un .not 105), oA 107 (.pick 102 106 (cB false)), mA 108 107, oT 108 109 (.mv 7), oT 108 110 (.mv 9), oT 108 111 (.call F_tree_Diff [109,110]), oT 108 112 (.mv 8), oT 108 113 (.bin .eql 111 112), oA 114 (.pick 108 113 (cB false)), mA 115 114, oT 115 116 (.mv 9), oT 115 117 (.mv 7), oT 115 118 (.call F_tree_Diff [116,117]), oT 115 119 (.mv 8), oT 115 120 (.bin .eql 118 119), oA 121 (.pick 115 120 (cB false)), mA 6 121] (kp [6]))
.ret))
def c_law16_TreeMade : VCode := (.seq (.reg 0 [oA 6 (.mv (cB false))] (kp [0,1,2]))
(.seq (.reg 0 [mA 12 0, oA 13 (.call F_law16_Make [12]), mA 7 13] (kp [1,2,7]))
(.seq (.seq (.reg 0 [mA 14 7, oA 15 (.call F_tree_May [14]), oA 16 (.un .not 15)] (kp [1,2,7,16]))
(.cond 16
(.seq (.reg 0 [oA 6 (.mv (cB false))] (kp [6]))
.ret)
(.gsk (kp [1,2,7]))))
(.seq (.reg 0 [mA 17 1, oA 18 (.cint .u64 17), mA 19 7, oA 20 (.lenL 19), oA 21 (.cint .u64 20), oA 22 (.bin .rem 18 21), oA 23 (.cint .i64 22), mA 8 23] (kp [2,7,8]))
(.seq (.reg 0 [oA 24 (.buildF 7 0 [(.int .i64 0),(.int .i64 0),(.str []),(.str []),(.str []),(.str []),.nils] []), mA 25 7, oA 26 (.app 7 [(.int .i64 0),(.int .i64 0),(.str []),(.str []),(.str []),(.str []),.nils] 104 T_api_Node 24 25), mA 9 26] (kp [2,7,8,9]))
(.seq (.reg 0 [mA 27 9, mA 28 8, oA 29 (.idx 7 27 28), oA 30 (.load 29 true 7), oA 10 (.allocL [(.int .i64 0),(.int .i64 0),(.str []),(.str []),(.str []),(.str []),.nils]), oN (.store 10 30 7)] (kp [2,7,8,9,10]))
(.seq (.reg 0 [oA 11 (.mv (cB true))] (kp [2,7,8,9,10,11]))
(.seq (.seq (.reg 0 [mA 31 2, oA 32 (.cint .u64 31), oA 33 (.bin .rem 32 (cU 8))] (kp [7,8,9,10,11,33]))
(.block 0
(.seq (.reg 0 [oA 47 (.bin .eql 33 (cU 0)), mA 46 47] (kp [7,8,9,10,11,33,46]))
(.cond 46
(.reg 0 [mA 48 7, mA 49 8, oA 50 (.bin .sub 49 (cI 1)), oA 51 (.mx [50,(cI 0)]), oA 52 (.idx 7 48 51), oA 53 (.off 52 1), oA 54 (.load 53 false 1), oA 55 (.bin .add 54 (cI 2)), oA 56 (.off 10 1), oN (.store 56 55 1)] (kp [7,8,9,10,11]))
(.seq (.reg 0 [oA 58 (.bin .eql 33 (cU 1)), mA 57 58] (kp [7,8,9,10,11,33,57]))
(.cond 57
(.reg 0 [oA 59 (.off 10 0), oN (.store 59 (cI 9) 1)] (kp [7,8,9,10,11]))
(.seq (.reg 0 [oA 61 (.bin .eql 33 (cU 2)), mA 60 61] (kp [7,8,9,10,11,33,60]))
(.cond 60
(.reg 0 [oA 62 (.off 10 2), oN (.store 62 (.c (.str S_zz)) 1)] (kp [7,8,9,10,11]))
(.seq (.reg 0 [oA 64 (.bin .eql 33 (cU 3)), mA 63 64] (kp [7,8,9,10,11,33,63]))
(.cond 63
(.reg 0 [oA 65 (.off 10 4), oA 66 (.load 65 false 1), oA 67 (.bin .add 66 (.c (.str S_z))), oA 68 (.off 10 4), oN (.store 68 67 1)] (kp [7,8,9,10,11]))
(.seq (.reg 0 [oA 70 (.bin .eql 33 (cU 4)), mA 69 70] (kp [7,8,9,10,11,33,69]))
(.cond 69
(.reg 0 [oA 71 (.off 10 5), oA 72 (.load 71 false 1), oA 73 (.bin .add 72 (.c (.str S_0_))), oA 74 (.off 10 5), oN (.store 74 73 1)] (kp [7,8,9,10,11]))
(.seq (.reg 0 [oA 76 (.bin .eql 33 (cU 5)), mA 75 76] (kp [7,8,9,10,11,33,75]))
(.cond 75
(.reg 0 [oA 77 (.buildF 4 0 [(.str []),(.str []),(.str []),(.str [])] []), oA 78 (.off 10 6), oA 79 (.load 78 false 1), oA 80 (.app 4 [(.str []),(.str []),(.str []),(.str [])] 64 T_api_Attr 77 79), oA 81 (.build [(.str []),(.str []),(.str []),(.str [])] [(0,1,(.c (.str S_zz))),(1,1,(.c (.str S_a)))]), oA 82 (.buildF 4 1 [(.str []),(.str []),(.str []),(.str [])] [(0,81)]), oA 83 (.app 4 [(.str []),(.str []),(.str []),(.str [])] 64 T_api_Attr 80 82), ⟨some 84,.off 10 6,none,[.fzs 83 4],.n []⟩, oN (.store 84 83 1)] (kp [7,8,9,10,11]))
(.seq (.reg 0 [oA 86 (.bin .eql 33 (cU 6)), mA 85 86] (kp [7,8,9,10,11,85]))
(.cond 85
(.reg 0 [oA 87 (.off 10 3), oA 88 (.load 87 false 1), oA 89 (.bin .add 88 (.c (.str S_32_))), oA 90 (.off 10 3), oN (.store 90 89 1)] (kp [7,8,9,10,11]))
(.reg 0 [oA 34 (.off 10 5), oA 35 (.load 34 false 1), oA 36 (.bin .add 35 (.c (.str S_v))), oA 37 (.off 10 0), oA 38 (.load 37 false 1), oA 39 (.bin .eql 38 (cI 1)), mA 40 39, oF 40 41 (.off 10 0), oF 40 42 (.load 41 false 1), oF 40 43 (.bin .eql 42 (cI 2)), oA 44 (.pick 40 (cB true) 43), oA 45 (.off 10 5), oN (.store 45 36 1), mA 11 44] (kp [7,8,9,10,11]))))))))))))))))))
(.cut c_law16_TreeMade_R24)))))))))
def r_law16_TreeMade : List VRes := [.tmp 6]
theorem k_law16_TreeMade : Fits Tryz.prog F_law16_TreeMade c_law16_TreeMade r_law16_TreeMade := .of Tryz.func5 (by kernel_rfl)
def c_tree_Same : VCode := (.seq (.reg 0 [oA 4 (.mv (cB false))] (kp [0,1]))
(.seq (.reg 0 [mA 5 0, mA 6 1, oA 7 (.call F_slices_EqualFunc_api_Tree_api_Tree_api_Node_api_Node [5,6,(.f F_tree_one)]), mA 4 7] (kp [4]))
.ret))
def r_tree_Same : List VRes := [.tmp 4]
theorem k_tree_Same : Fits Tryz.prog F_tree_Same c_tree_Same r_tree_Same := .of Tryz.func15 (by kernel_rfl)
def c_tree_Diff_L0 : VCode := (.seq (.reg 0 [oA 12 (.bin .lss 11 10)] (kp [0,1,10,11,12]))
(.seq (.cond 12
(.gsk (kp [0,1,10,11]))
(.exit 0))
(.seq (.block 1
(.seq (.reg 0 [mA 13 11, mA 5 13] (kp [0,1,5,10,11]))
(.seq (.reg 1 [mA 14 0, mA 15 5, oA 16 (.idx 7 14 15), oA 17 (.load 16 true 7), mA 18 1, mA 19 5, oA 20 (.idx 7 18 19), oA 21 (.load 20 true 7), oA 22 (.call F_tree_one [17,21]), oA 23 (.un .not 22)] (kp [0,1,5,10,11,23]))
(.cond 23
(.seq (.reg 0 [mA 24 5, mA 4 24] (kp [4]))
.ret)
(.gsk (kp [0,1,10,11]))))))
(.reg 0 [oA 25 (.bin .add 11 (cI 1)), mA 11 25] (kp [0,1,10,11])))))
def c_tree_Diff : VCode := (.seq (.reg 0 [oA 4 (.mv (cI 0))] (kp [0,1]))
(.seq (.seq (.reg 0 [mA 6 0, oA 7 (.lenL 6), mA 8 1, oA 9 (.lenL 8), oA 10 (.mn [7,9]), oA 11 (.mv (cI 0))] (kp [0,1,10,11]))
(.block 0
(.loop c_tree_Diff_L0)))
(.seq (.seq (.reg 0 [mA 26 0, oA 27 (.lenL 26), mA 28 1, oA 29 (.lenL 28), oA 30 (.bin .eql 27 29)] (kp [0,1,30]))
(.cond 30
(.seq (.reg 0 [oA 4 (.mv (cI (-1)))] (kp [4]))
.ret)
(.gsk (kp [0,1]))))
(.seq (.reg 0 [mA 31 0, oA 32 (.lenL 31), mA 33 1, oA 34 (.lenL 33), oA 35 (.mn [32,34]), mA 4 35] (kp [4]))
.ret))))
def r_tree_Diff : List VRes := [.tmp 4]
theorem k_tree_Diff : Fits Tryz.prog F_tree_Diff c_tree_Diff r_tree_Diff := .of Tryz.func17 (by kernel_rfl)
def c_slices_EqualFunc_api_Tree_api_Tree_api_Node_api_Node_L0 : VCode := (.seq (.reg 0 [oA 18 (.bin .lss 17 16)] (kp [1,2,15,16,17,18]))
(.seq (.cond 18
(.gsk (kp [1,2,15,16,17]))
(.exit 0))
(.seq (.block 1
(.seq (.reg 0 [mA 19 17, oA 20 (.idx 7 15 17), oA 21 (.load 20 true 7), oA 8 (.allocL [(.int .i64 0),(.int .i64 0),(.str []),(.str []),(.str []),(.str []),.nils]), mA 7 19, oN (.store 8 21 7)] (kp [1,2,7,8,15,16,17]))
(.seq (.reg 0 [mA 22 1, mA 23 7, oA 24 (.idx 7 22 23), oA 25 (.load 24 true 7), oA 9 (.allocL [(.int .i64 0),(.int .i64 0),(.str []),(.str []),(.str []),(.str []),.nils]), oN (.store 9 25 7)] (kp [1,2,8,9,15,16,17]))
(.seq (.reg 0 [mA 26 2, oA 27 (.load 8 true 7), oA 28 (.load 9 true 7), oA 29 (.callv 26 [27,28]), oA 30 (.un .not 29)] (kp [1,2,15,16,17,30]))
(.cond 30
(.seq (.reg 0 [oA 6 (.mv (cB false))] (kp [6]))
.ret)
(.gsk (kp [1,2,15,16,17])))))))
(.reg 0 [oA 31 (.bin .add 17 (cI 1)), mA 17 31] (kp [1,2,15,16,17])))))
def c_slices_EqualFunc_api_Tree_api_Tree_api_Node_api_Node : VCode := (.seq (.reg 0 [oA 6 (.mv (cB false))] (kp [0,1,2]))
(.seq (.seq (.reg 0 [mA 10 0, oA 11 (.lenL 10), mA 12 1, oA 13 (.lenL 12), oA 14 (.bin .neq 11 13)] (kp [0,1,2,14]))
(.cond 14
(.seq (.reg 0 [oA 6 (.mv (cB false))] (kp [6]))
.ret)
(.gsk (kp [0,1,2]))))
(.seq (.seq (.reg 0 [mA 15 0, oA 16 (.lenL 15), oA 17 (.mv (cI 0))] (kp [1,2,15,16,17]))
(.block 0
(.loop c_slices_EqualFunc_api_Tree_api_Tree_api_Node_api_Node_L0)))
(.seq (.reg 0 [oA 6 (.mv (cB true))] (kp [6]))
.ret))))
def r_slices_EqualFunc_api_Tree_api_Tree_api_Node_api_Node : List VRes := [.tmp 6]
theorem k_slices_EqualFunc_api_Tree_api_Tree_api_Node_api_Node : Fits Tryz.prog F_slices_EqualFunc_api_Tree_api_Tree_api_Node_api_Node c_slices_EqualFunc_api_Tree_api_Tree_api_Node_api_Node r_slices_EqualFunc_api_Tree_api_Tree_api_Node_api_Node := .of Tryz.func42 (by kernel_rfl)
def c_tree_one : VCode := (.seq (.reg 0 [oA 2 (.boxL 0), oA 3 (.boxL 1), oA 4 (.mv (cB false))] (kp [2,3]))
(.seq (.reg 0 [oA 5 (.off 2 6), oA 6 (.load 5 false 1), oA 7 (.off 3 6), oA 8 (.load 7 false 1), oA 9 (.call F_slices_Equal_Lapi_Attr_api_Attr [6,8]), mA 10 9, oT 10 11 (.off 2 0), oT 10 12 (.load 11 false 1), oT 10 13 (.off 3 0), oT 10 14 (.load 13 false 1), oT 10 15 (.bin .eql 12 14), oA 16 (.pick 10 15 (cB false)), mA 17 16, oT 17 18 (.off 2 1), oT 17 19 (.load 18 false 1), oT 17 20 (.off 3 1), oT 17 21 (.load 20 false 1), oT 17 22 (.bin .eql 19 21), oA 23 (.pick 17 22 (cB false)), mA 24 23, oT 24 25 (.off 2 2), oT 24 26 (.load 25 false 1), oT 24 27 (.off 3 2), oT 24 28 (.load 27 false 1), oT 24 29 (.bin .eql 26 28), oA 30 (.pick 24 29 (cB false)), mA 31 30, oT 31 32 (.off 2 3), oT 31 33 (.load 32 false 1), oT 31 34 (.off 3 3), oT 31 35 (.load 34 false 1), oT 31 36 (.bin .eql 33 35), oA 37 (.pick 31 36 (cB false)), mA 38 37, oT 38 39 (.off 2 4), oT 38 40 (.load 39 false 1), oT 38 41 (.off 3 4), oT 38 42 (.load 41 false 1), oT 38 43 (.bin .eql 40 42), oA 44 (.pick 38 43 (cB false)), mA 45 44, oT 45 46 (.off 2 5), oT 45 47 (.load 46 false 1), oT 45 48 (.off 3 5), oT 45 49 (.load 48 false 1), oT 45 50 (.bin .eql 47 49), oA 51 (.pick 45 50 (cB false)), mA 4 51] (kp [4]))
.ret))
def r_tree_one : List VRes := [.tmp 4]
theorem k_tree_one : Fits Tryz.prog F_tree_one c_tree_one r_tree_one := .of Tryz.func43 (by kernel_rfl)
end Go.Proofs.YtpcbnpekdmobpaaGreatDoor
open Go Go.Ev Go.VL
namespace Go.Proofs.YtpcbnpekdmobpaaGreatDoor
attribute [local irreducible] fApp
variable {X : Ovr} {G : Gt}
structure XTS (X : Ovr) : Prop where
  equal : X F_slices_Equal_Lapi_Attr_api_Attr = none
  equalf : X F_slices_EqualFunc_api_Tree_api_Tree_api_Node_api_Node = none
  one : X F_tree_one = none
  same : X F_tree_Same = none
  diff : X F_tree_Diff = none
theorem EqF_L0 (xs ys : List Attr) (hl : xs.length = ys.length) (hN : xs.length < 2 ^ 30) (vh : VH) (vn : Nat) (Q : FQ) : ∀ (m i : Nat), xs.length - i = m → i ≤ xs.length →
    (¬ xs.drop i = ys.drop i → Q .ret [(4, .bool false)] vh vn) →
    (xs.drop i = ys.drop i → ∀ i' t, Q (.exit 0) [(0, .sl 4 (xs.map encA) none), (1, .sl 4 (ys.map encA) none), (12, .int .i64 (xs.length : Int)), (13, .int .i64 i'), (14, .bool t)] vh vn) →
    FLoop Tryz.prog X G (.loop c_slices_Equal_Lapi_Attr_api_Attr_L0) [(0, .sl 4 (xs.map encA) none), (1, .sl 4 (ys.map encA) none), (12, .int .i64 (xs.length : Int)), (13, .int .i64 (i : Int))] vh vn Q
  | m, i, hm, hi, hR, hQ => by
    refine FLoop.round ?_
    conv => whnf
    refine CondP.mk (fun h1 => ?_) (fun h1 => ?_)
    · have hlt : i < xs.length := by simp at h1; omega
      have hly : i < ys.length := by omega
      have hd : xs.drop i = xs[i] :: xs.drop (i + 1) := (List.getElem_cons_drop hlt).symm
      have hd2 : ys.drop i = ys[i] :: ys.drop (i + 1) := (List.getElem_cons_drop hly).symm
      rw [hd, hd2] at hR hQ
      have e : wr .i64 ((i : Int) + 1) = ((i + 1 : Nat) : Int) := by rw [wr64] <;> omega
      conv => whnf
      refine Get.mk (i, encA xs[i]) ⟨rfl, by simp [hlt]⟩ ?_
      conv => whnf
      refine Get.mk (i, encA ys[i]) ⟨rfl, by simp [hly]⟩ ?_
      conv => whnf
      refine CondP.mk (fun h2 => ?_) (fun h2 => ?_)
      · have h2 : (!decide ([xs[i].p, xs[i].l, xs[i].u, xs[i].v] = [ys[i].p, ys[i].l, ys[i].u, ys[i].v])) = true := h2
        conv => whnf
        refine hR fun h => ?_
        rw [(List.cons.inj h).1] at h2
        simp at h2
      · have h2 : (!decide ([xs[i].p, xs[i].l, xs[i].u, xs[i].v] = [ys[i].p, ys[i].l, ys[i].u, ys[i].v])) = false := h2
        have h2' : xs[i] = ys[i] := attr_ext (by simpa using h2)
        conv => whnf
        rw [e]
        refine EqF_L0 xs ys hl hN vh vn Q (m - 1) (i + 1) (by omega) (by omega) (fun h => hR fun h3 => h (List.cons.inj h3).2) (fun h => hQ (by rw [h, h2']))
    · have hlt : i = xs.length := by simp at h1; omega
      have e1 : xs.drop i = ys.drop i := by rw [hlt, List.drop_length, hl, List.drop_length]
      conv => whnf
      exact hQ e1 _ _
termination_by m => m
decreasing_by all_goals omega
theorem EqF_ok (hX : X F_slices_Equal_Lapi_Attr_api_Attr = none) (xs ys : List Attr) (hN : xs.length < 2 ^ 30) (vh : VH) (vn : Nat) :
    WpCall Tryz.prog X G F_slices_Equal_Lapi_Attr_api_Attr [.sl 4 (xs.map encA) none, .sl 4 (ys.map encA) none] vh vn fun r vh' vn' => vh' = vh ∧ vn' = vn ∧ r = .bool (decide (xs.map attrL = ys.map attrL)) := by
  apply k_slices_Equal_Lapi_Attr_api_Attr.run hX
  have e : Int.ofNat (xs.map encA).length = (xs.length : Int) := by simp
  conv => whnf
  rw [e]
  refine CondP.mk (fun h1 => ?_) (fun h1 => ?_)
  · have hne : ¬ xs.map attrL = ys.map attrL := fun h => by rw [attrL_inj] at h; subst h; simp at h1
    conv => whnf
    exact Get.mk _ (fun _ _ h => h) ⟨rfl, rfl, by rw [decide_eq_false hne]⟩
  · have hl : xs.length = ys.length := by simp at h1; omega
    conv => whnf
    rw [e]
    refine EqF_L0 xs ys hl hN vh vn _ xs.length 0 rfl (Nat.zero_le _) (fun h => ?_) (fun h i' t => ?_)
    · rw [List.drop_zero, List.drop_zero] at h
      conv => whnf
      exact Get.mk _ (fun _ _ h => h) ⟨rfl, rfl, by rw [decide_eq_false (fun h2 => h (attrL_inj.1 h2))]⟩
    · rw [List.drop_zero, List.drop_zero] at h
      conv => whnf
      exact Get.mk _ (fun _ _ h => h) ⟨rfl, rfl, by rw [decide_eq_true (attrL_inj.2 h)]⟩
theorem TOne_ok (H : XTS X) (a b : Nd) (hN : a.s.length < 2 ^ 30) (vh : VH) (vn : Nat) :
    WpCall Tryz.prog X G F_tree_one [.agg (encN a), .agg (encN b)] vh vn fun r vh' vn' => vh' = vh ∧ vn' = vn ∧ r = .bool (sameNd a b) := by
  apply k_tree_one.run H.one
  conv => whnf
  refine (EqF_ok H.equal a.s b.s hN vh vn).mono fun v vh' vn' he => ?_
  obtain ⟨e1, e2, e3⟩ := he
  rw [e1, e2, e3]
  conv => whnf
  repeat' (refine CondP.mk (fun _ => ?_) (fun _ => ?_) <;> (conv => whnf))
  all_goals
    refine Get.mk _ (fun _ _ h => h) ⟨rfl, rfl, ?_⟩
    clear e1 e2 e3
    simp_all [sameNd]
theorem EqN_L0 (H : XTS X) (xs ys : List Nd) (hl : xs.length = ys.length) (hN : xs.length < 2 ^ 30) (hs : ∀ n ∈ xs, n.s.length < 2 ^ 30) (vh : VH) (vn : Nat) (Q : FQ) : ∀ (m i : Nat), xs.length - i = m → i ≤ xs.length →
    (¬ xs.drop i = ys.drop i → Q .ret [(6, .bool false)] vh vn) →
    (xs.drop i = ys.drop i → ∀ e, Q (.exit 0) e vh vn) →
    FLoop Tryz.prog X G (.loop c_slices_EqualFunc_api_Tree_api_Tree_api_Node_api_Node_L0) [(1, .sl 7 (ys.map encN) none), (2, .func F_tree_one [] []), (15, .sl 7 (xs.map encN) none), (16, .int .i64 (xs.length : Int)), (17, .int .i64 (i : Int))] vh vn Q
  | m, i, hm, hi, hR, hQ => by
    refine FLoop.round ?_
    conv => whnf
    refine CondP.mk (fun h1 => ?_) (fun h1 => ?_)
    · have hlt : i < xs.length := by simp at h1; omega
      have hly : i < ys.length := by omega
      have hd : xs.drop i = xs[i] :: xs.drop (i + 1) := (List.getElem_cons_drop hlt).symm
      have hd2 : ys.drop i = ys[i] :: ys.drop (i + 1) := (List.getElem_cons_drop hly).symm
      rw [hd, hd2] at hR hQ
      have e : wr .i64 ((i : Int) + 1) = ((i + 1 : Nat) : Int) := by rw [wr64] <;> omega
      conv => whnf
      refine Get.mk (i, encN xs[i]) ⟨rfl, by simp [hlt]⟩ ?_
      conv => whnf
      refine Get.mk (i, encN ys[i]) ⟨rfl, by simp [hly]⟩ ?_
      conv => whnf
      refine (TOne_ok H xs[i] ys[i] (hs _ (List.getElem_mem hlt)) vh vn).mono fun v vh' vn' he => ?_
      obtain ⟨e1, e2, e3⟩ := he
      rw [e1, e2, e3]
      conv => whnf
      refine CondP.mk (fun h2 => ?_) (fun h2 => ?_)
      · conv => whnf
        refine hR fun h => ?_
        have := sameNd_iff.2 (List.cons.inj h).1
        rw [this] at h2
        cases h2
      · have h2' : xs[i] = ys[i] := sameNd_iff.1 (by simpa using h2)
        conv => whnf
        rw [e]
        refine EqN_L0 H xs ys hl hN hs vh vn Q (m - 1) (i + 1) (by omega) (by omega) (fun h => hR fun h3 => h (List.cons.inj h3).2) (fun h => hQ (by rw [h, h2']))
    · have hlt : i = xs.length := by simp at h1; omega
      have e1 : xs.drop i = ys.drop i := by rw [hlt, List.drop_length, hl, List.drop_length]
      conv => whnf
      exact hQ e1 _
termination_by m => m
decreasing_by all_goals omega
theorem TSame_ok (H : XTS X) (xs ys : List Nd) (hN : xs.length < 2 ^ 30) (hs : ∀ n ∈ xs, n.s.length < 2 ^ 30) (vh : VH) (vn : Nat) :
    WpCall Tryz.prog X G F_tree_Same [.sl 7 (xs.map encN) none, .sl 7 (ys.map encN) none] vh vn fun r vh' vn' => vh' = vh ∧ vn' = vn ∧ ∃ b, r = .bool b ∧ (b = true ↔ xs = ys) := by
  apply k_tree_Same.run H.same
  conv => whnf
  have key : WpCall Tryz.prog X G F_slices_EqualFunc_api_Tree_api_Tree_api_Node_api_Node [.sl 7 (xs.map encN) none, .sl 7 (ys.map encN) none, .func F_tree_one [] []] vh vn fun r vh' vn' => vh' = vh ∧ vn' = vn ∧ ∃ b, r = .bool b ∧ (b = true ↔ xs = ys) := by
    apply k_slices_EqualFunc_api_Tree_api_Tree_api_Node_api_Node.run H.equalf
    have e : Int.ofNat (xs.map encN).length = (xs.length : Int) := by simp
    conv => whnf
    rw [e]
    refine CondP.mk (fun h1 => ?_) (fun h1 => ?_)
    · have hne : ¬ xs = ys := fun h => by subst h; simp at h1
      conv => whnf
      exact Get.mk _ (fun _ _ h => h) ⟨rfl, rfl, false, rfl, by simp [hne]⟩
    · have hl : xs.length = ys.length := by simp at h1; omega
      conv => whnf
      rw [e]
      refine EqN_L0 H xs ys hl hN hs vh vn _ xs.length 0 rfl (Nat.zero_le _) (fun h => ?_) (fun h e => ?_)
      · rw [List.drop_zero, List.drop_zero] at h
        conv => whnf
        exact Get.mk _ (fun _ _ h => h) ⟨rfl, rfl, false, rfl, by simp [h]⟩
      · rw [List.drop_zero, List.drop_zero] at h
        conv => whnf
        exact Get.mk _ (fun _ _ h => h) ⟨rfl, rfl, true, rfl, by simp [h]⟩
  refine key.mono fun v vh' vn' he => ?_
  obtain ⟨e1, e2, b, e3, e4⟩ := he
  rw [e1, e2, e3]
  conv => whnf
  exact Get.mk _ (fun _ _ h => h) ⟨rfl, rfl, b, rfl, e4⟩
def diffP : List Nd → List Nd → Option Nat
  | a :: xs, b :: ys => if sameNd a b = true then (diffP xs ys).map (· + 1) else some 0
  | _, _ => none
theorem Diff_L0 (H : XTS X) (xs ys : List Nd) (hl : xs.length = ys.length) (hN : xs.length < 2 ^ 30) (hs : ∀ n ∈ xs, n.s.length < 2 ^ 30) (vh : VH) (vn : Nat) (Q : FQ) : ∀ (m i : Nat), xs.length - i = m → i ≤ xs.length →
    (∀ k, diffP (xs.drop i) (ys.drop i) = some k → Q .ret [(4, .int .i64 ((i + k : Nat) : Int))] vh vn) →
    (diffP (xs.drop i) (ys.drop i) = none → ∀ i' t, Q (.exit 0) [(0, .sl 7 (xs.map encN) none), (1, .sl 7 (ys.map encN) none), (10, .int .i64 (xs.length : Int)), (11, .int .i64 i'), (12, .bool t)] vh vn) →
    FLoop Tryz.prog X G (.loop c_tree_Diff_L0) [(0, .sl 7 (xs.map encN) none), (1, .sl 7 (ys.map encN) none), (10, .int .i64 (xs.length : Int)), (11, .int .i64 (i : Int))] vh vn Q
  | m, i, hm, hi, hR, hQ => by
    refine FLoop.round ?_
    conv => whnf
    refine CondP.mk (fun h1 => ?_) (fun h1 => ?_)
    · have hlt : i < xs.length := by simp at h1; omega
      have hly : i < ys.length := by omega
      have hd : xs.drop i = xs[i] :: xs.drop (i + 1) := (List.getElem_cons_drop hlt).symm
      have hd2 : ys.drop i = ys[i] :: ys.drop (i + 1) := (List.getElem_cons_drop hly).symm
      rw [hd, hd2] at hR hQ
      simp only [diffP] at hR hQ
      have e : wr .i64 ((i : Int) + 1) = ((i + 1 : Nat) : Int) := by rw [wr64] <;> omega
      conv => whnf
      refine Get.mk (i, encN xs[i]) ⟨rfl, by simp [hlt]⟩ ?_
      conv => whnf
      refine Get.mk (i, encN ys[i]) ⟨rfl, by simp [hly]⟩ ?_
      conv => whnf
      refine (TOne_ok H xs[i] ys[i] (hs _ (List.getElem_mem hlt)) vh vn).mono fun v vh' vn' he => ?_
      obtain ⟨e1, e2, e3⟩ := he
      rw [e1, e2, e3]
      conv => whnf
      refine CondP.mk (fun h2 => ?_) (fun h2 => ?_)
      · have h2' : ¬ sameNd xs[i] ys[i] = true := by simpa using h2
        rw [if_neg h2'] at hR
        conv => whnf
        exact hR 0 rfl
      · have h2' : sameNd xs[i] ys[i] = true := by simpa using h2
        rw [if_pos h2'] at hR hQ
        conv => whnf
        rw [e]
        refine Diff_L0 H xs ys hl hN hs vh vn Q (m - 1) (i + 1) (by omega) (by omega) (fun k hk => ?_) (fun hk => hQ (by rw [hk]; rfl))
        have := hR (k + 1) (by rw [hk]; rfl)
        rw [show i + 1 + k = i + (k + 1) by omega]
        exact this
    · have hlt : i = xs.length := by simp at h1; omega
      have e1 : diffP (xs.drop i) (ys.drop i) = none := by rw [hlt, List.drop_length, hl, List.drop_length]; rfl
      conv => whnf
      exact hQ e1 _ _
termination_by m => m
decreasing_by all_goals omega
theorem TDiff_ok (H : XTS X) (xs ys : List Nd) (hl : xs.length = ys.length) (hN : xs.length < 2 ^ 30) (hs : ∀ n ∈ xs, n.s.length < 2 ^ 30) {k : Nat} (hk : diffP xs ys = some k) (vh : VH) (vn : Nat) :
    WpCall Tryz.prog X G F_tree_Diff [.sl 7 (xs.map encN) none, .sl 7 (ys.map encN) none] vh vn fun r vh' vn' => vh' = vh ∧ vn' = vn ∧ r = .int .i64 (k : Int) := by
  apply k_tree_Diff.run H.diff
  have e : Int.ofNat (xs.map encN).length = (xs.length : Int) := by simp
  have e2 : Int.ofNat (ys.map encN).length = (xs.length : Int) := by simp [hl]
  conv => whnf
  rw [e, e2]
  rw [Int.min_self]
  refine Diff_L0 H xs ys hl hN hs vh vn _ xs.length 0 rfl (Nat.zero_le _) (fun j hj => ?_) (fun h => ?_)
  · rw [List.drop_zero, List.drop_zero, hk] at hj
    cases hj
    conv => whnf
    exact Get.mk _ (fun _ _ h => h) ⟨rfl, rfl, by rw [Nat.zero_add]⟩
  · rw [List.drop_zero, List.drop_zero, hk] at h
    cases h
theorem diffP_at : ∀ (xs ys : List Nd) (k : Nat), xs.length = ys.length → (∀ j, j < k → xs[j]? = ys[j]?) → (hk : k < xs.length) → xs[k]? ≠ ys[k]? → diffP xs ys = some k
  | [], _, _, _, _, hk, _ => by cases hk
  | a :: xs, [], _, hl, _, _, _ => by cases hl
  | a :: xs, b :: ys, 0, hl, _, _, hne => by
    have : ¬ sameNd a b = true := fun h => hne (by rw [sameNd_iff.1 h]; rfl)
    simp only [diffP, if_neg this]
  | a :: xs, b :: ys, k + 1, hl, hj, hk, hne => by
    have h0 := hj 0 (by omega)
    simp only [List.getElem?_cons_zero, Option.some.injEq] at h0
    have hs : sameNd a b = true := sameNd_iff.2 h0
    simp only [diffP, if_pos hs]
    rw [diffP_at xs ys k (by simpa using hl) (fun j h => by have := hj (j + 1) (by omega); simpa using this) (by simpa using hk) (by simpa using hne)]
    rfl
end Go.Proofs.YtpcbnpekdmobpaaGreatDoor
open Go Go.Ev Go.VL
namespace Go.Proofs.YtpcbnpekdmobpaaGreatDoor
attribute [local irreducible] fApp
variable {X : Ovr} {G : Gt} {PN : List Nat → List Nat → Prop} {PV PT : List Nat → Prop}
theorem flat_takeN {α : Type} {enc : α → List V} {es : Nat} (hl : ∀ a, (enc a).length = es) : ∀ (xs : List α) (i : Nat), (xs.map enc).flatten.take (i * es) = ((xs.take i).map enc).flatten
  | [], i => by simp
  | a :: xs, 0 => by simp
  | a :: xs, i + 1 => by
    have e : (i + 1) * es - (enc a).length = i * es := by rw [hl, Nat.succ_mul]; omega
    simp only [List.map_cons, List.flatten_cons, List.take_succ_cons, List.take_append, e]
    rw [flat_takeN hl xs i, List.take_of_length_le (by rw [hl, Nat.succ_mul]; omega)]
theorem flat_dropN {α : Type} {enc : α → List V} {es : Nat} (hl : ∀ a, (enc a).length = es) : ∀ (xs : List α) (i : Nat), (xs.map enc).flatten.drop (i * es) = ((xs.drop i).map enc).flatten
  | [], i => by simp
  | a :: xs, 0 => by simp
  | a :: xs, i + 1 => by
    have e : (i + 1) * es - (enc a).length = i * es := by rw [hl, Nat.succ_mul]; omega
    simp only [List.map_cons, List.flatten_cons, List.drop_succ_cons, List.drop_append, e]
    rw [flat_dropN hl xs i, List.drop_eq_nil_of_le (by rw [hl, Nat.succ_mul]; omega), List.nil_append]
theorem flat_setN {α : Type} {enc : α → List V} {es : Nat} (hl : ∀ a, (enc a).length = es) (xs : List α) (i : Nat) (h : i < xs.length) (a : α) : setSeg (xs.map enc).flatten (0 + i * es) (enc a) = ((xs.set i a).map enc).flatten := by
  have hle := flat_lt hl xs i h
  rw [setSeg_eq _ _ _ (by rw [hl]; omega), Nat.zero_add, flat_takeN hl, hl, ← Nat.succ_mul, flat_dropN hl, List.set_eq_take_append_cons_drop, if_pos h]
  simp
def zzA : Attr := ⟨S_zz, S_a, [], []⟩
def spoil (pd : Int) (h : Nat) (n : Nd) : Nd :=
  if h = 0 then { n with d := pd + 2 } else if h = 1 then { n with k := 9 } else if h = 2 then { n with p := S_zz } else if h = 3 then { n with u := n.u ++ S_z }
  else if h = 4 then { n with v := n.v ++ S_0_ } else if h = 5 then { n with s := n.s ++ [zzA] } else if h = 6 then { n with l := n.l ++ S_32_ } else { n with v := n.v ++ S_v }
def badB (h : Nat) (n : Nd) : Bool := if h = 7 then decide (n.k = 1) || decide (n.k = 2) else true
set_option maxHeartbeats 4000000 in
theorem TMade_R24 (H : XTM X) (HS : XTS X) (hT : X F_law16_told = some (kToldG 2)) (hG : ∃ m, G 2 = some [.int .i64 m]) (Lb : LibT X G PN PV PT) (t : List Nd) (ht : t.length < 2 ^ 20) (k : Nat) (hk : k < t.length) (b4 : Nat) (n' : Nd) (bad : Bool) (hok : ∀ n ∈ t.set k n', NdT PN PV PT n) (hs : ∀ n ∈ t, n.s.length < 2 ^ 30) (hmay : mayT (t.set k n') = !bad) (hne : t[k] ≠ n') (vh : VH) (vn : Nat) (hb4 : vh b4 = some (.cells (t.map encN).flatten T_api_Node 0 false)) :
    FLoop Tryz.prog X G (.cut c_law16_TreeMade_R24) [(7, .sl 7 (t.map encN) none), (8, .int .i64 (k : Int)), (9, .msl b4 0 t.length 7 none), (10, .bx (encN n')), (11, .bool bad)] vh vn (fFin G r_law16_TreeMade fun v _ _ => v = .bool true) := by
  have hne2 : t ≠ t.set k n' := fun h => hne (by
    have e := congrArg (·[k]?) h
    simpa [hk] using e)
  have hd1 : diffP t (t.set k n') = some k := diffP_at _ _ k (by simp) (fun j hj => by rw [List.getElem?_set_ne (by omega)]) hk (by simp [hk, hne])
  have hd2 : diffP (t.set k n') t = some k := diffP_at _ _ k (by simp) (fun j hj => by rw [List.getElem?_set_ne (by omega)]) (by simpa using hk) (by simp [hk, Ne.symm hne])
  have hlu : (t.set k n').length = t.length := by simp
  refine FLoop.cut ?_
  conv => whnf
  refine Get.mk k ⟨rfl, hk⟩ ?_
  conv => whnf
  refine Get.mk (_, _, _, _) hb4 ?_
  conv => whnf
  refine ⟨⟨by rw [Nat.zero_add]; exact flat_lt encN_len t k hk, Nat.zero_le _⟩, ?_⟩
  conv => whnf
  have hst : vset vh b4 (.cells (setSeg (t.map encN).flatten (0 + k * 7) (encN n')) T_api_Node 0 false) b4 = some (.cells ((t.set k n').map encN).flatten T_api_Node 0 false) := by rw [vset_same, flat_setN encN_len t k hk]
  generalize hv5 : vset vh b4 _ = vh5
  have hst5 : vh5 b4 = some (.cells ((t.set k n').map encN).flatten T_api_Node 0 false) := by rw [← hv5]; exact hst
  clear hv5 hst
  rw [← hlu]
  refine Get.mk (_, _, _, _) hst5 ?_
  conv => whnf
  refine ⟨fz_owe encN_len (by decide), ?_⟩
  conv => whnf
  refine Get.mk _ (fz_pieces encN_len) ?_
  conv => whnf
  refine (told_wp hT hG _ _).mono fun v vh' n' he => ?_
  obtain ⟨e1, e2, e3⟩ := he
  rw [e1, e2, e3]
  clear e1 e2 e3
  conv => whnf
  refine (TMay_ok H Lb _ none (by rw [hlu]; omega) hok _ _).mono fun v vh6 n6 he => ?_
  rw [he.1, hmay]
  clear he
  have key : ∀ b : Bool, (!((!b) == b)) = true := fun b => by cases b <;> rfl
  cases bad
  all_goals
    conv => whnf
    refine (TSame_ok HS t _ (by omega) hs _ _).mono fun v vh7 n7 he => ?_
    obtain ⟨_, _, q, e1, e2⟩ := he
    have e3 : q = false := by
      cases q with
      | false => rfl
      | true => exact (hne2 (e2.1 rfl)).elim
    rw [e1, e3]
    clear e1 e2 e3
    conv => whnf
    refine (TDiff_ok HS t _ (by simp) (by omega) hs hd1 _ _).mono fun v vh8 n8 he => ?_
    obtain ⟨_, _, e1⟩ := he
    rw [e1]
    conv => whnf
    refine CondP.mk (fun _ => ?_) (fun h => absurd (of_decide_eq_false h) (fun h => h rfl))
    conv => whnf
    refine (TDiff_ok HS _ t (by simp) (by rw [hlu]; omega) (fun n hn => (hok n hn).s) hd2 _ _).mono fun v vh9 n9 he => ?_
    obtain ⟨_, _, e1⟩ := he
    rw [e1]
    conv => whnf
    refine Get.mk _ (fun _ _ h => h) ?_
    simp
end Go.Proofs.YtpcbnpekdmobpaaGreatDoor
open Go Go.Ev Go.VL
namespace Go.Proofs.YtpcbnpekdmobpaaGreatDoor
def PZ (a : Attr) : Prop := (declares a).1 ≠ S_zz ∧ a.v.length < 2 ^ 40
def LvZ (lv : List (List Attr)) : Prop := ∀ l ∈ lv, ∀ a ∈ l, PZ a
theorem declares_z {a : Attr} (h : a.l ≠ S_zz) : (declares a).1 ≠ S_zz := by
  unfold declares
  split
  · split
    · exact h
    · show ([] : List Nat) ≠ S_zz
      decide
  · show ([] : List Nat) ≠ S_zz
    decide
theorem uriL_z : ∀ (l : List Attr), (∀ a ∈ l, PZ a) → uriL S_zz l = none
  | [], _ => rfl
  | a :: l, h => by rw [uriL, if_neg (h a (.head _)).1, uriL_z l fun b hb => h b (.tail _ hb)]
theorem uriS_z {lv : List (List Attr)} (h : LvZ lv) : ∀ j, uriS S_zz lv j = none
  | 0 => rfl
  | j + 1 => by
    rw [uriS]
    have : uriL S_zz (lv[j]?.getD []) = none := uriL_z _ fun a ha => by
      cases hj : lv[j]? with
      | none => rw [hj] at ha; cases ha
      | some l => rw [hj] at ha; exact h l (List.mem_of_getElem? hj) a ha
    rw [this]
    exact uriS_z h j
theorem uriP_z {lv : List (List Attr)} (h : LvZ lv) : (uriP lv S_zz).2 = false := by
  unfold uriP
  rw [if_neg (by decide), uriS_z h]
  decide
theorem uriL_s (p : List Nat) : ∀ (l : List Attr) (u : List Nat), (∀ a ∈ l, PZ a) → uriL p l = some u → u.length < 2 ^ 40
  | [], u, _, h => by cases h
  | a :: l, u, h, hu => by
    rw [uriL] at hu
    split at hu
    · cases hu; exact (h a (.head _)).2
    · exact uriL_s p l u (fun b hb => h b (.tail _ hb)) hu
theorem uriS_s (p : List Nat) {lv : List (List Attr)} (h : LvZ lv) : ∀ (j : Nat) (u : List Nat), uriS p lv j = some u → u.length < 2 ^ 40
  | 0, u, hu => by cases hu
  | j + 1, u, hu => by
    rw [uriS] at hu
    cases hl : uriL p (lv[j]?.getD []) with
    | some w =>
      rw [hl] at hu
      cases hu
      refine uriL_s p _ _ (fun a ha => ?_) hl
      cases hj : lv[j]? with
      | none => rw [hj] at ha; cases ha
      | some l => rw [hj] at ha; exact h l (List.mem_of_getElem? hj) a ha
    | none =>
      rw [hl] at hu
      exact uriS_s p h j u hu
theorem uriP_s (p : List Nat) {lv : List (List Attr)} (h : LvZ lv) : (uriP lv p).1.length < 2 ^ 40 := by
  unfold uriP
  split
  · show XMLURI.length < 2 ^ 40
    decide
  · split
    · rename_i u hu
      exact uriS_s p h _ u hu
    · show ([] : List Nat).length < 2 ^ 40
      decide
theorem pushP_z : ∀ (xs m ms : List Attr), pushP m xs = some ms → (∀ a ∈ m, PZ a) → (∀ a ∈ xs, PZ a) → ∀ a ∈ ms, PZ a
  | [], m, ms, h, hm, _ => by
    cases h
    exact hm
  | x :: l, m, ms, h, hm, hx => by
    simp only [pushP] at h
    split at h
    · split at h
      · cases h
      · split at h
        · cases h
        · refine pushP_z l _ ms h (fun a ha => ?_) fun a ha => hx a (.tail _ ha)
          rcases List.mem_append.1 ha with ha | ha
          · exact hm a ha
          · rw [List.mem_singleton.1 ha]; exact hx x (.head _)
    · exact pushP_z l m ms h hm fun a ha => hx a (.tail _ ha)
theorem made_l {n : Nd} (M : MadeNd n) : ∀ a ∈ n.s.map nsInit, PZ a := fun a ha => by
  obtain ⟨b, hb, rfl⟩ := List.mem_map.1 ha
  obtain ⟨c, hc, _, e, e'⟩ := M.a b hb
  refine ⟨declares_z ?_, ?_⟩
  · show b.l ≠ S_zz
    rw [e]
    exact (by decide +kernel : ∀ c ∈ cand, c.l ≠ S_zz) c hc
  · show b.v.length < 2 ^ 40
    rw [e']
    exact (cand_small c hc).2.2
theorem LvZ.take {lv : List (List Attr)} (h : LvZ lv) (j : Nat) : LvZ (lv.take j) := fun l hl => h l (List.mem_of_mem_take hl)
theorem LvZ.push {lv : List (List Attr)} (h : LvZ lv) {ms : List Attr} (hm : ∀ a ∈ ms, PZ a) : LvZ (lv ++ [ms]) := fun l hl => by
  rcases List.mem_append.1 hl with hl | hl
  · exact h l hl
  · rw [List.mem_singleton.1 hl]; exact hm
theorem stepP_z {p n : Nd} {lv lv' : List (List Attr)} {r r' : Nat} (h : LvZ lv) (M : MadeNd n) (hs : stepP p n lv r = some (lv', r')) : LvZ lv' := by
  unfold stepP at hs
  split at hs
  · split at hs
    · simp only [Option.some.injEq, Prod.mk.injEq] at hs
      obtain ⟨rfl, _⟩ := hs
      rcases elementP_lv (lv.take (n.d.toNat - 1)) n with e | ⟨ms, hms, e⟩
      · rw [e]; exact h.take _
      · rw [e]
        exact (h.take _).push (pushP_z _ _ _ hms (fun a ha => by cases ha) (made_l M))
    · cases hs
  · split at hs
    · cases hs
    · split at hs
      · cases hs
      · simp only [Option.some.injEq, Prod.mk.injEq] at hs
        obtain ⟨rfl, _⟩ := hs
        exact h.take _
theorem runR_z : ∀ (A : List Nd) (p : Nd) (lv : List (List Attr)) (r : Nat) (s : Nd × List (List Attr) × Nat), LvZ lv → (∀ n ∈ A, MadeNd n) → runR p lv r A = some s → LvZ s.2.1
  | [], p, lv, r, s, h, _, hs => by
    cases hs
    exact h
  | n :: A, p, lv, r, s, h, hA, hs => by
    simp only [runR] at hs
    split at hs
    · cases hs
    · cases hq : stepP p n lv r with
      | none => rw [hq] at hs; cases hs
      | some q =>
        rw [hq] at hs
        exact runR_z A n q.1 q.2 s (stepP_z h (hA n (.head _)) hq) (fun m hm => hA m (.tail _ hm)) hs
theorem nsL_last (lv : List (List Attr)) (a : Attr) (h : (nsA lv a).2 = false) : ∀ xs, (nsL lv (xs ++ [a])).2 = false
  | [] => by simp [nsL, h]
  | x :: xs => by
    simp only [List.cons_append, nsL]
    split
    · exact nsL_last lv a h xs
    · rfl
theorem elementP_names {lv : List (List Attr)} {n : Nd} (h : (elementP lv n).1 = true) : namedP n.p n.l = true ∧ n.v = [] ∧ ∃ ms, pushP [] (n.s.map nsInit) = some ms ∧ (namesP (lv ++ [ms]) { n with s := n.s.map nsInit }).2 = true ∧ (namesP (lv ++ [ms]) { n with s := n.s.map nsInit }).1.u = n.u := by
  by_cases h1 : namedP n.p n.l = false ∨ n.v ≠ []
  · rw [elementP_1 h1] at h; cases h
  · by_cases h2 : attrsOk [] n.s = true
    · cases h3 : pushP [] (n.s.map nsInit) with
      | none => rw [elementP_3 h1 h2 h3] at h; cases h
      | some ms =>
        rw [elementP_4 h1 h2 h3] at h
        simp only [Bool.and_eq_true, decide_eq_true_eq] at h
        refine ⟨?_, ?_, ms, rfl, h.1.1, h.1.2⟩
        · cases hn : namedP n.p n.l with
          | true => rfl
          | false => exact (h1 (.inl hn)).elim
        · exact Decidable.byContradiction fun hv => h1 (.inr hv)
    · rw [elementP_2 h1 (by simpa using h2)] at h; cases h
theorem namesP_u (lv : List (List Attr)) (n : Nd) : (namesP lv n).1.u = (uriP lv n.p).1 := by
  unfold namesP
  split <;> rfl
theorem namesP_2 {lv : List (List Attr)} {n : Nd} (h : (namesP lv n).2 = true) : (uriP lv n.p).2 = true ∧ (nsL lv n.s).2 = true := by
  unfold namesP at h
  split at h
  · cases h
  · rename_i hn
    simp only [Bool.and_eq_true] at h
    refine ⟨?_, h.1⟩
    cases hu : (uriP lv n.p).2 with
    | true => rfl
    | false => exact (hn (.inl hu)).elim
theorem bad_local : ∀ p ∈ litP, ∀ l ∈ litL, namedP p (l ++ S_32_) = false := by decide +kernel
theorem bad_target : ∀ l ∈ litL, targetP (l ++ S_32_) = false := by decide +kernel
theorem bad_chars : ∀ v ∈ litV, validP (v ++ S_0_) = false := by decide +kernel
theorem good_v : ∀ k ∈ [(3 : Int), 4, 5], ∀ l ∈ litL, ∀ v ∈ litV, plainP ⟨k, 0, [], l, [], v, []⟩ = true → plainP ⟨k, 0, [], l, [], v ++ S_v, []⟩ = true := by decide +kernel
theorem spoil_elem {lv : List (List Attr)} (hz : LvZ lv) {n : Nd} (M : MadeNd n) (h : (elementP lv n).1 = true) (pd : Int) {j : Nat} (h0 : j ≠ 0) (h1 : j ≠ 1) (h8 : j < 8) : (elementP lv (spoil pd j n)).1 = false := by
  obtain ⟨e1, e2, ms, e3, e4, e5⟩ := elementP_names h
  rw [namesP_u] at e5
  cases hb : (elementP lv (spoil pd j n)).1 with
  | false => rfl
  | true =>
    exfalso
    obtain ⟨q1, q2, ms', q3, q4, q5⟩ := elementP_names hb
    rw [namesP_u] at q5
    have hp := namesP_2 q4
    have hj : j = 2 ∨ j = 3 ∨ j = 4 ∨ j = 5 ∨ j = 6 ∨ j = 7 := by omega
    rcases hj with rfl | rfl | rfl | rfl | rfl | rfl
    · have hz' : LvZ (lv ++ [ms']) := hz.push (pushP_z _ _ _ q3 (fun a ha => by cases ha) (by have q := made_l M; exact q))
      have := uriP_z hz'
      rw [show (uriP (lv ++ [ms']) S_zz).2 = true from hp.1] at this
      cases this
    · have : ms' = ms := by
        have : pushP [] (n.s.map nsInit) = some ms' := q3
        rw [e3] at this
        cases this
        rfl
      subst this
      have a1 : (uriP (lv ++ [ms']) n.p).1 = n.u ++ S_z := q5
      have a2 : (uriP (lv ++ [ms']) n.p).1 = n.u := e5
      rw [a2] at a1
      have := congrArg List.length a1
      rw [List.length_append] at this
      have hS : S_z.length = 1 := rfl
      omega
    · have : n.v ++ S_0_ = [] := q2
      simp [S_0_] at this
    · have hx : ∀ a ∈ (n.s ++ [zzA]).map nsInit, PZ a := fun a ha => by
        rw [List.map_append] at ha
        rcases List.mem_append.1 ha with ha | ha
        · exact made_l M a ha
        · rw [List.mem_singleton.1 ha]; exact ⟨by decide, by decide⟩
      have hz' : LvZ (lv ++ [ms']) := hz.push (pushP_z _ _ _ q3 (fun a ha => by cases ha) hx)
      have b1 : (nsL (lv ++ [ms']) ((n.s ++ [zzA]).map nsInit)).2 = true := hp.2
      have b2 : (nsA (lv ++ [ms']) (nsInit zzA)).2 = false := by
        have e0 : nsA (lv ++ [ms']) (nsInit zzA) = ({ nsInit zzA with u := (uriP (lv ++ [ms']) S_zz).1 }, (uriP (lv ++ [ms']) S_zz).2) := by
          unfold nsA
          rw [if_neg (by decide), if_neg (by decide)]
          rfl
        rw [e0]
        exact uriP_z hz'
      rw [List.map_append] at b1
      rw [show List.map nsInit [zzA] = [nsInit zzA] from rfl, nsL_last _ _ b2] at b1
      cases b1
    · have := bad_local _ M.p _ M.l
      rw [show namedP n.p (n.l ++ S_32_) = true from q1] at this
      cases this
    · have : n.v ++ S_v = [] := q2
      simp [S_v] at this
theorem plainP_k {n : Nd} (h : plainP n = true) : n.k = 3 ∨ n.k = 4 ∨ n.k = 5 := by
  unfold plainP at h
  split at h
  · cases h
  · split at h
    · exact .inl (by assumption)
    · split at h
      · exact .inr (.inl (by assumption))
      · split at h
        · exact .inr (.inr (by assumption))
        · cases h
theorem plainP_bad {n : Nd} (h : plainBad n = true) : plainP n = false := by rw [plainP, if_pos h]
theorem plainP_ok {n : Nd} (h : plainP n = true) : plainBad n = false := by
  cases hb : plainBad n with
  | false => rfl
  | true => rw [plainP_bad hb] at h; cases h
theorem spoil_plain {n : Nd} (M : MadeNd n) (h : plainP n = true) (pd : Int) {j : Nat} (h0 : j ≠ 0) (h8 : j < 8) : plainP (spoil pd j n) = decide (j = 7) := by
  have hb := plainP_ok h
  have hk := plainP_k h
  have hj : j = 1 ∨ j = 2 ∨ j = 3 ∨ j = 4 ∨ j = 5 ∨ j = 6 ∨ j = 7 := by omega
  rcases hj with rfl | rfl | rfl | rfl | rfl | rfl | rfl
  · cases hp : plainP (spoil pd 1 n) with
    | false => rfl
    | true =>
      have := plainP_k hp
      have e : (spoil pd 1 n).k = 9 := rfl
      omega
  · exact plainP_bad (show plainBad { n with p := S_zz } = true by simp [plainBad, S_zz])
  · exact plainP_bad (show plainBad { n with u := n.u ++ S_z } = true by simp [plainBad, S_z])
  · exact plainP_bad (show plainBad { n with v := n.v ++ S_0_ } = true by
      have := bad_chars _ M.v
      simp [plainBad, this])
  · exact plainP_bad (show plainBad { n with s := n.s ++ [zzA] } = true by simp [plainBad])
  · show plainP { n with l := n.l ++ S_32_ } = false
    by_cases h5 : n.k = 5
    · unfold plainP
      split
      · rfl
      · have e3 : ¬ n.k = 3 := by omega
        have e4 : ¬ n.k = 4 := by omega
        simp [e3, e4, h5, bad_target _ M.l]
    · exact plainP_bad (by simp [plainBad, h5, S_32_])
  · have hn : n = ⟨n.k, n.d, [], n.l, [], n.v, []⟩ := by
      simp only [plainBad, Bool.or_eq_false_iff, Bool.not_eq_false', decide_eq_true_eq, decide_eq_false_iff_not] at hb
      obtain ⟨⟨⟨⟨a1, a2⟩, a3⟩, _⟩, _⟩ := hb
      have a4 : n.s = [] := List.length_eq_zero_iff.1 (by omega)
      obtain ⟨k, d, p, l, u, v, s⟩ := n
      simp only at a1 a2 a4
      subst a1; subst a2; subst a4
      rfl
    have e0 : ∀ v, plainP ⟨n.k, n.d, [], n.l, [], v, []⟩ = plainP ⟨n.k, 0, [], n.l, [], v, []⟩ := fun v => rfl
    rw [hn, e0] at h
    have := good_v n.k (by simp; omega) n.l M.l n.v M.v h
    show plainP { n with v := n.v ++ S_v } = true
    rw [hn]
    exact (e0 _).trans this
theorem mayR_same {n m : Nd} (hd : m.d = n.d) (hk : m.k = n.k) (lv : List (List Attr)) (r : Nat) : ∀ B, mayR m lv r B = mayR n lv r B
  | [] => rfl
  | x :: B => by
    have e1 : badPlace m x = badPlace n x := by simp only [badPlace, hd, hk]
    have e2 : stepP m x lv r = stepP n x lv r := by simp only [stepP, hd, hk]
    simp only [mayR, e1, e2]
theorem spoil_ne {n : Nd} {pd : Int} {j : Nat} (hd : j = 0 → n.d < pd + 2) (hk : n.k ≠ 9) (hp : n.p ≠ S_zz) : n ≠ spoil pd j n := by
  intro h
  unfold spoil at h
  have hs : ∀ (x y : List Nat), 0 < y.length → x ≠ x ++ y := fun x y hy e => by
    have := congrArg List.length e
    rw [List.length_append] at this
    omega
  split at h
  · have := congrArg Nd.d h
    have q := hd (by assumption)
    simp only at this
    omega
  · split at h
    · exact hk (by rw [h])
    · split at h
      · exact hp (by rw [h])
      · split at h
        · exact hs n.u S_z (by decide) (congrArg Nd.u h)
        · split at h
          · exact hs n.v S_0_ (by decide) (congrArg Nd.v h)
          · split at h
            · have := congrArg (fun n => n.s.length) h
              simp at this
            · split at h
              · exact hs n.l S_32_ (by decide) (congrArg Nd.l h)
              · exact hs n.v S_v (by decide) (congrArg Nd.v h)
theorem litP_zz : S_zz ∉ litP := by decide
theorem made_spoil {ts : List Nd} (M : Made ts) {k : Nat} (hk : k < ts.length) {j : Nat} (hj : j < 8) : mayP (ts.set k (spoil (dep ts (k - 1)) j ts[k])) = !badB j ts[k] ∧ ts[k] ≠ spoil (dep ts (k - 1)) j ts[k] ∧ ts[k].u.length < 2 ^ 40 := by
  obtain ⟨hl, l, rfl, hm⟩ := mayP_iff.1 M.may
  have MN := (M.nd _ (List.getElem_mem hk)).1
  have hpz : (zeroDoc :: l)[k].p ≠ S_zz := fun h => litP_zz (h ▸ MN.p)
  cases k with
  | zero =>
    have hne : zeroDoc ≠ spoil (dep (zeroDoc :: l) 0) j zeroDoc := spoil_ne (fun _ => by show (0 : Int) < 0 + 2; decide) (by decide) (by decide)
    refine ⟨?_, hne, by show ([] : List Nat).length < 2 ^ 40; decide⟩
    have hb : badB j zeroDoc = true := by
      unfold badB
      split
      · rfl
      · rfl
    show mayP (spoil (dep (zeroDoc :: l) 0) j zeroDoc :: l) = !badB j zeroDoc
    rw [hb]
    cases hq : mayP (spoil (dep (zeroDoc :: l) 0) j zeroDoc :: l) with
    | false => rfl
    | true =>
      obtain ⟨_, l', e, _⟩ := mayP_iff.1 hq
      exact (hne (List.cons.inj e).1.symm).elim
  | succ i =>
    have hi : i < (zeroDoc :: l).length := by omega
    obtain ⟨l', A, B, s, e1, e2, e3, e4, n1, n2, h4, t1, t2⟩ := put_split M.may hi
    cases e1
    obtain ⟨D, hD⟩ : ∃ D, D = (zeroDoc :: l).drop (i + 2) := ⟨_, rfl⟩
    have hB : B = (zeroDoc :: l)[i + 1] :: D := by rw [← t2, hD]; exact (List.getElem_cons_drop hk).symm
    have hdp : dep (zeroDoc :: l) (i + 1 - 1) = s.1.d := by rw [show i + 1 - 1 = i by omega, dep_get hi, ← n2]
    have hset : ∀ n', (zeroDoc :: l).set (i + 1) n' = zeroDoc :: (A ++ n' :: D) := fun n' => by
      rw [List.set_cons_succ, e2, List.set_append_right _ _ (by omega), e3, Nat.sub_self, hB]
      rfl
    have hz : LvZ s.2.1 := runR_z A zeroDoc [] 0 s (fun l hl => by cases hl) (fun n hn => (M.nd n (by rw [e2]; exact .tail _ (List.mem_append_left _ hn))).1) e4
    rw [hdp]
    generalize hn : (zeroDoc :: l)[i + 1] = n at *
    rw [hB] at h4
    simp only [mayR] at h4
    split at h4
    · cases h4
    rename_i hbp
    have hbp' : badPlace s.1 n = false := by simpa using hbp
    cases hst : stepP s.1 n s.2.1 s.2.2 with
    | none => rw [hst] at h4; cases h4
    | some q =>
    rw [hst] at h4
    simp only at h4
    have hdn : n.d ≤ s.1.d + 1 := by
      simp only [badPlace, Bool.or_eq_false_iff, decide_eq_false_iff_not] at hbp'
      omega
    have hk9 : n.k ≠ 9 := fun h9 => by
      unfold stepP at hst
      rw [if_neg (by omega)] at hst
      split at hst
      · cases hst
      · rename_i hpl
        have := plainP_k (n := n) (by simpa using hpl)
        omega
    have hus : n.u.length < 2 ^ 40 := by
      unfold stepP at hst
      split at hst
      · split at hst
        · rename_i hel
          obtain ⟨_, _, ms, e3, _, e5⟩ := elementP_names hel
          rw [namesP_u] at e5
          rw [← e5]
          exact uriP_s _ ((hz.take _).push (pushP_z _ _ _ e3 (fun a ha => by cases ha) (made_l MN)))
        · cases hst
      · split at hst
        · cases hst
        · rename_i hpl
          have hb := plainP_ok (n := n) (by simpa using hpl)
          simp only [plainBad, Bool.or_eq_false_iff, Bool.not_eq_false', decide_eq_true_eq] at hb
          rw [hb.1.1.1.2]
          decide
    refine ⟨?_, spoil_ne (fun _ => by omega) hk9 hpz, hus⟩
    have hlen : (zeroDoc :: (A ++ spoil s.1.d j n :: D)).length ≤ 1048576 := by
      rw [← hset, List.length_set]
      exact hl
    rw [hset]
    have hbad : ∀ {x : Bool}, (badPlace s.1 (spoil s.1.d j n) = true ∨ stepP s.1 (spoil s.1.d j n) s.2.1 s.2.2 = none) → mayP (zeroDoc :: (A ++ spoil s.1.d j n :: D)) = false := fun h => by
      cases hq : mayP (zeroDoc :: (A ++ spoil s.1.d j n :: D)) with
      | false => rfl
      | true =>
        obtain ⟨_, l2, e5, h5⟩ := mayP_iff.1 hq
        cases e5
        rw [mayR_app, e4] at h5
        simp only [mayR] at h5
        rcases h with h | h
        · rw [if_pos h] at h5; cases h5
        · rw [h] at h5
          split at h5 <;> cases h5
    by_cases k2 : n.k = 2
    · have hb : badB j n = true := by unfold badB; split <;> simp [k2]
      rw [hb]
      refine hbad (x := true) ?_
      by_cases h0 : j = 0
      · subst h0
        exact .inl (by
          show badPlace s.1 { n with d := s.1.d + 2 } = true
          simp only [badPlace, Bool.or_eq_true, decide_eq_true_eq]
          exact .inl (.inr (by omega)))
      · right
        by_cases h1 : j = 1
        · subst h1
          show stepP s.1 { n with k := 9 } s.2.1 s.2.2 = none
          unfold stepP
          rw [if_neg (show ¬ (9 : Int) = 2 by decide), if_pos]
          cases hp : plainP { n with k := 9 } with
          | false => rfl
          | true =>
            have := plainP_k hp
            simp only at this
            omega
        · have hk' : (spoil s.1.d j n).k = 2 := by
            unfold spoil
            rw [if_neg h0, if_neg h1]
            repeat' split
            all_goals exact k2
          have hd' : (spoil s.1.d j n).d = n.d := by
            unfold spoil
            rw [if_neg h0]
            repeat' split
            all_goals rfl
          have hel : (elementP (s.2.1.take (n.d.toNat - 1)) n).1 = true := by
            unfold stepP at hst
            rw [if_pos k2] at hst
            split at hst
            · assumption
            · cases hst
          unfold stepP
          rw [if_pos hk', hd', spoil_elem (hz.take _) MN hel s.1.d h0 h1 hj]
          rfl
    · have hpl : plainP n = true := by
        unfold stepP at hst
        rw [if_neg k2] at hst
        split at hst
        · cases hst
        · rename_i hp
          simpa using hp
      have hk3 := plainP_k hpl
      by_cases h0 : j = 0
      · subst h0
        have hb : badB 0 n = true := rfl
        rw [hb]
        exact hbad (x := true) (.inl (by
          show badPlace s.1 { n with d := s.1.d + 2 } = true
          simp only [badPlace, Bool.or_eq_true, decide_eq_true_eq]
          exact .inl (.inr (by omega))))
      · have hsp := spoil_plain MN hpl s.1.d h0 hj
        have hk' : (spoil s.1.d j n).k ≠ 2 := by
          unfold spoil
          rw [if_neg h0]
          repeat' split
          all_goals first
            | exact k2
            | (show (9 : Int) ≠ 2; decide)
        by_cases h7 : j = 7
        · subst h7
          have hb : badB 7 n = false := by
            have a1 : ¬ n.k = 1 := by omega
            simp [badB, a1, k2]
          rw [hb]
          refine mayP_iff.2 ⟨hlen, _, rfl, ?_⟩
          rw [mayR_app, e4]
          have hbp2 : badPlace s.1 (spoil s.1.d 7 n) = false := hbp'
          have hst2 : stepP s.1 (spoil s.1.d 7 n) s.2.1 s.2.2 = some q := by
            have hk2' : (spoil s.1.d 7 n).k = n.k := rfl
            have hd2' : (spoil s.1.d 7 n).d = n.d := rfl
            unfold stepP at hst ⊢
            rw [if_neg k2, hpl] at hst
            rw [if_neg hk', hsp, hk2', hd2']
            exact hst
          simp only [mayR, hbp2, hst2, Bool.false_eq_true, if_false]
          exact (mayR_same (show (spoil s.1.d 7 n).d = n.d from rfl) (show (spoil s.1.d 7 n).k = n.k from rfl) _ _ _).trans h4
        · have hb : badB j n = true := by unfold badB; rw [if_neg h7]
          rw [hb]
          refine hbad (x := true) (.inr ?_)
          unfold stepP
          rw [if_neg hk', hsp, decide_eq_false h7, if_pos rfl]
end Go.Proofs.YtpcbnpekdmobpaaGreatDoor
open Go Go.Ev Go.VL
namespace Go.Proofs.YtpcbnpekdmobpaaGreatDoor
attribute [local irreducible] fApp
variable {X : Ovr} {G : Gt} {PN : List Nat → List Nat → Prop} {PV PT : List Nat → Prop}
set_option maxHeartbeats 4000000 in
theorem TreeMade_ok (H : XTM X) (HK : XK X) (HS : XTS X) (hT : X F_law16_told = some (kToldG 2)) (hG : ∃ m, G 2 = some [.int .i64 m]) (hX : X F_law16_TreeMade = none) (Lb : LibT X G PN PV PT) (hM : ∀ n, MadeNd n → NdT PN PV PT n) (hS : ∀ n pd j, j < 8 → MadeNd n → NdT PN PV PT (spoil pd j n)) (ls : List Int) (w how : Int) (vh : VH) (vn : Nat) :
    WpCall Tryz.prog X G F_law16_TreeMade [.sl 1 (ls.map encI) none, .int .i64 w, .int .i64 how] vh vn fun v _ _ => v = .bool true := by
  apply k_law16_TreeMade.run hX
  conv => whnf
  refine (Make_ok HK ls vh vn).mono fun v vh1 n1 he => ?_
  obtain ⟨g1, f1, t, e3, M⟩ := he
  rw [e3]
  clear e3
  have hl : t.length ≤ 32 := M.len
  have hp : 0 < t.length := by
    have := M.may
    cases t with
    | nil => cases this
    | cons _ _ => simp
  conv => whnf
  refine (TMay_ok H Lb t none (by omega) (fun n hn => hM n (M.nd n hn).1) _ _).mono fun v vh2 n2 he => ?_
  rw [he.1, may_eq, M.may]
  clear he
  conv => whnf
  rw [List.length_map]
  have hu : wr .u64 (Int.ofNat t.length) = (t.length : Int) := by
    rw [show (Int.ofNat t.length) = (t.length : Int) from rfl, wru64] <;> omega
  rw [hu]
  refine ⟨by omega, ?_⟩
  obtain ⟨k, hk1, hk⟩ : ∃ k : Nat, (wr .u64 w).tmod (t.length : Int) = (k : Int) ∧ k < t.length := by
    obtain ⟨q1, q2⟩ := u_rem (x := wr .u64 w) (m := (t.length : Int)) wru64_lt.1 (by omega)
    exact ⟨((wr .u64 w).tmod (t.length : Int)).toNat, by omega, by omega⟩
  have hwk : wr .i64 ((wr .u64 w).tmod (t.length : Int)) = (k : Int) := by rw [hk1, wr64] <;> omega
  obtain ⟨j, hj1, hj⟩ : ∃ j : Nat, (wr .u64 how).tmod 8 = (j : Int) ∧ j < 8 := by
    obtain ⟨q1, q2⟩ := u_rem (x := wr .u64 how) (m := 8) wru64_lt.1 (by omega)
    exact ⟨((wr .u64 how).tmod 8).toNat, by omega, by omega⟩
  conv => whnf
  rw [hwk]
  refine SlIn.fresh (enc := encN) (lo := n2) (xs := t) rfl (Nat.le_refl _) ⟨by omega, by show _ < 9223372036854775808; omega⟩ fun v4 vh4 n4 A4 g4 f4 => ?_
  rcases A4 with ⟨_, h⟩ | ⟨b4, q1, q2, rfl, hb4⟩
  · exfalso
    rw [h] at hp
    cases hp
  conv => whnf
  refine Get.mk k ⟨rfl, hk⟩ ?_
  conv => whnf
  refine Get.mk (_, _, _, _) hb4 ?_
  conv => whnf
  refine Get.mk _ (encN_all hk) ?_
  conv => whnf
  repeat (refine Owe.mk (by decide) ?_; conv => whnf)
  rw [hj1]
  have hsm : ∀ n ∈ t, n.s.length < 2 ^ 30 := fun n hn => (hM n (M.nd n hn).1).s
  have fin : ∀ (vh5 : VH) (n5 : Nat), vh5 b4 = some (.cells (t.map encN).flatten T_api_Node 0 false) → FLoop Tryz.prog X G (.cut c_law16_TreeMade_R24) [(7, .sl 7 (t.map encN) none), (8, .int .i64 (k : Int)), (9, .msl b4 0 t.length 7 none), (10, .bx (encN (spoil (dep t (k - 1)) j t[k]))), (11, .bool (badB j t[k]))] vh5 n5 (fFin G r_law16_TreeMade fun v _ _ => v = .bool true) := fun vh5 n5 h5 => by
    obtain ⟨m1, m2, _⟩ := made_spoil M hk hj
    refine TMade_R24 H HS hT hG Lb t (by omega) k hk b4 _ _ (fun n hn => ?_) hsm (by rw [may_eq, m1]) m2 vh5 n5 h5
    rcases List.mem_or_eq_of_mem_set hn with h | rfl
    · exact hM n (M.nd n h).1
    · exact hS _ _ _ hj (M.nd _ (List.getElem_mem hk)).1
  have hsu := (made_spoil M hk hj).2.2
  have hsm2 := (M.nd _ (List.getElem_mem hk)).1.small
  have own : ∀ (s w : List Nat), s.length < 2 ^ 40 → w.length = 1 → s.length + w.length < p63 := fun s w h1 h2 => by rw [h2]; show _ < 9223372036854775808; omega
  have hat : ∀ i (h : i < t.length), (t.map encN)[i]? = some (encN t[i]) := fun i h => by simp [h]
  have hk' : k - 1 < t.length := Nat.lt_of_le_of_lt (Nat.sub_le _ _) hk
  have hd := (M.nd _ (List.getElem_mem hk')).2
  have ew : wr .i64 (t[k - 1].d + 2) = dep t (k - 1) + 2 := by rw [dep_get hk', wr64] <;> omega
  have ei : max (wr .i64 ((k : Int) - 1)) 0 = ((k - 1 : Nat) : Int) := by rw [wr64] <;> omega
  have hj' : j = 0 ∨ j = 1 ∨ j = 2 ∨ j = 3 ∨ j = 4 ∨ j = 5 ∨ j = 6 ∨ j = 7 := by omega
  clear hM hS M hj1 hwk hu hk1
  rcases hj' with rfl | rfl | rfl | rfl | rfl | rfl | rfl | rfl
  · conv => whnf
    refine Get.mk (k - 1, encN t[k - 1]) ⟨ei, hat _ hk'⟩ ?_
    conv => whnf
    rw [ew]
    exact fin _ _ hb4
  · conv => whnf
    exact fin _ _ hb4
  · conv => whnf
    exact fin _ _ hb4
  · conv => whnf
    refine ⟨own _ _ hsu rfl, ?_⟩
    conv => whnf
    exact fin _ _ hb4
  · conv => whnf
    refine ⟨own _ _ hsm2.v rfl, ?_⟩
    conv => whnf
    exact fin _ _ hb4
  · conv => whnf
    refine SlIn.fresh (enc := encA) (lo := n4) (xs := t[k].s) rfl (Nat.le_refl _) ⟨?_, ?_⟩ fun v5 vh5 n5 A5 g5 f5 => ?_
    · have := hsm _ (List.getElem_mem hk); omega
    · have := hsm _ (List.getElem_mem hk); show _ < 9223372036854775808; omega
    have f5' := (f5 b4 (by omega)).trans hb4
    have hs := hsm _ (List.getElem_mem hk)
    rcases id A5 with ⟨rfl | rfl, _⟩ | ⟨b5, r1, r2, rfl, hb5⟩
    all_goals
      conv => whnf
      refine SlIn.app' encA_len (by decide) A5 (by omega) zzA ⟨by omega, by show _ < 9223372036854775808; omega⟩ fun vh6 h6 f6 => ?_
      conv => whnf
      refine Get.mk (_, _, _, _) h6 ?_
      conv => whnf
      refine ⟨fz_owe encA_len (by decide), ?_⟩
      conv => whnf
      refine Get.mk _ (fz_pieces encA_len) ?_
      conv => whnf
      refine fin _ _ ((vdel_ne (by omega)).trans ((f6 b4 (by omega) (fun h => ?_)).trans f5'))
      first
        | exact h
        | (have : b4 = b5 := h
           omega)
  · conv => whnf
    refine ⟨own _ _ (Nat.lt_trans hsm2.l (by decide)) rfl, ?_⟩
    conv => whnf
    exact fin _ _ hb4
  · conv => whnf
    refine ⟨own _ _ hsm2.v rfl, ?_⟩
    conv => whnf
    repeat' (refine CondP.mk (fun _ => ?_) (fun _ => ?_) <;> (conv => whnf))
    all_goals
      have hq : badB 7 t[k] = (decide (t[k].k = 1) || decide (t[k].k = 2)) := rfl
      rw [hq] at fin
      simp_all only [Bool.true_or, Bool.false_or]
      exact fin _ _ hb4
end Go.Proofs.YtpcbnpekdmobpaaGreatDoor
namespace Go.Proofs.YtpcbnpekdmobpaaGreatDoor
open Go Go.Ev Go.VL Go.Lib
def nTab2 : List (List Nat × List Nat) := ((S_zz :: litP).flatMap fun p => litL.map fun l => (p, l)) ++ ((litP.flatMap fun p => litL.map fun l => (p, l ++ S_32_)) ++ cand.map fun a => (a.p, a.l))
def vTab2 : List (List Nat) := litV ++ (litV.map (· ++ S_0_) ++ (litV.map (· ++ S_v) ++ cand.map fun a => a.v))
def tTab2 : List (List Nat) := litL ++ litL.map (· ++ S_32_)
def tabNamed2 : List (List AV) := nTab2.map fun p => [.str p.1, .str p.2]
def tabChars2 : List (List AV) := vTab2.map fun s => [.str s]
def tabTarget2 : List (List AV) := tTab2.map fun s => [.str s]
def tabHolds2 : List (List AV) := vTab2.flatMap fun s => [S_13_, S_45__45_, S_63__62_].map fun w => [.str s, .str w]
def tabSuffix2 : List (List AV) := vTab2.map fun s => [.str s, .str S_45_]
def tabSpaces2 : List (List AV) := vTab2.map fun s => [.str s, .int .i64 0]
set_option maxRecDepth 100000
theorem ran_app {f : FuncId} {A B : List (List AV)} {F : List AV → AV} (h1 : ran f A F) (h2 : ran f B F) : ran f (A ++ B) F := fun m t0 t1 t2 => by rw [List.map_append, List.map_append, h1, h2]
theorem ran_chars1 : ran F_tree_chars (litV.map (fun s => [AV.str s])) ansChars := fun m t0 t1 t2 => by kernel_rfl
theorem ran_chars2 : ran F_tree_chars ((litV.map (· ++ S_0_)).map (fun s => [AV.str s])) ansChars := fun m t0 t1 t2 => by kernel_rfl
theorem ran_chars3 : ran F_tree_chars ((litV.map (· ++ S_v)).map (fun s => [AV.str s])) ansChars := fun m t0 t1 t2 => by kernel_rfl
theorem ran_chars4 : ran F_tree_chars ((cand.map fun a => a.v).map (fun s => [AV.str s])) ansChars := fun m t0 t1 t2 => by kernel_rfl
theorem ran2_chars : ran F_tree_chars tabChars2 ansChars := by
  show ran _ ((litV ++ (litV.map (· ++ S_0_) ++ (litV.map (· ++ S_v) ++ cand.map fun a => a.v))).map (fun s => [AV.str s])) _
  rw [List.map_append, List.map_append, List.map_append]
  exact ran_app ran_chars1 (ran_app ran_chars2 (ran_app ran_chars3 ran_chars4))
theorem ran2_target : ran F_token_Target tabTarget2 ansTarget := fun m t0 t1 t2 => by kernel_rfl
def holdsT (l : List (List Nat)) : List (List AV) := l.flatMap fun s => [S_13_, S_45__45_, S_63__62_].map fun w => [.str s, .str w]
theorem ranh1 : ran F_strings_Contains (holdsT litV) ansHolds := fun m t0 t1 t2 => by kernel_rfl
theorem ranh2 : ran F_strings_Contains (holdsT (litV.map (· ++ S_0_))) ansHolds := fun m t0 t1 t2 => by kernel_rfl
theorem ranh3 : ran F_strings_Contains (holdsT (litV.map (· ++ S_v))) ansHolds := fun m t0 t1 t2 => by kernel_rfl
theorem ranh4 : ran F_strings_Contains (holdsT (cand.map fun a => a.v)) ansHolds := fun m t0 t1 t2 => by kernel_rfl
theorem holdsT_app (A B : List (List Nat)) : holdsT (A ++ B) = holdsT A ++ holdsT B := List.flatMap_append
theorem ran2_holds : ran F_strings_Contains tabHolds2 ansHolds := by
  show ran _ (holdsT (litV ++ (litV.map (· ++ S_0_) ++ (litV.map (· ++ S_v) ++ cand.map fun a => a.v)))) _
  rw [holdsT_app, holdsT_app, holdsT_app]
  exact ran_app ranh1 (ran_app ranh2 (ran_app ranh3 ranh4))
theorem ran_suffix1 : ran F_strings_HasSuffix (litV.map (fun s => [AV.str s, .str S_45_])) ansSuffix := fun m t0 t1 t2 => by kernel_rfl
theorem ran_suffix2 : ran F_strings_HasSuffix ((litV.map (· ++ S_0_)).map (fun s => [AV.str s, .str S_45_])) ansSuffix := fun m t0 t1 t2 => by kernel_rfl
theorem ran_suffix3 : ran F_strings_HasSuffix ((litV.map (· ++ S_v)).map (fun s => [AV.str s, .str S_45_])) ansSuffix := fun m t0 t1 t2 => by kernel_rfl
theorem ran_suffix4 : ran F_strings_HasSuffix ((cand.map fun a => a.v).map (fun s => [AV.str s, .str S_45_])) ansSuffix := fun m t0 t1 t2 => by kernel_rfl
theorem ran2_suffix : ran F_strings_HasSuffix tabSuffix2 ansSuffix := by
  show ran _ ((litV ++ (litV.map (· ++ S_0_) ++ (litV.map (· ++ S_v) ++ cand.map fun a => a.v))).map (fun s => [AV.str s, .str S_45_])) _
  rw [List.map_append, List.map_append, List.map_append]
  exact ran_app ran_suffix1 (ran_app ran_suffix2 (ran_app ran_suffix3 ran_suffix4))
theorem ran_spaces1 : ran F_token_Spaces (litV.map (fun s => [AV.str s, .int .i64 0])) ansSpaces := fun m t0 t1 t2 => by kernel_rfl
theorem ran_spaces2 : ran F_token_Spaces ((litV.map (· ++ S_0_)).map (fun s => [AV.str s, .int .i64 0])) ansSpaces := fun m t0 t1 t2 => by kernel_rfl
theorem ran_spaces3 : ran F_token_Spaces ((litV.map (· ++ S_v)).map (fun s => [AV.str s, .int .i64 0])) ansSpaces := fun m t0 t1 t2 => by kernel_rfl
theorem ran_spaces4 : ran F_token_Spaces ((cand.map fun a => a.v).map (fun s => [AV.str s, .int .i64 0])) ansSpaces := fun m t0 t1 t2 => by kernel_rfl
theorem ran2_spaces : ran F_token_Spaces tabSpaces2 ansSpaces := by
  show ran _ ((litV ++ (litV.map (· ++ S_0_) ++ (litV.map (· ++ S_v) ++ cand.map fun a => a.v))).map (fun s => [AV.str s, .int .i64 0])) _
  rw [List.map_append, List.map_append, List.map_append]
  exact ran_app ran_spaces1 (ran_app ran_spaces2 (ran_app ran_spaces3 ran_spaces4))
theorem ran_named1 : ran F_tree_named (((S_zz :: litP).flatMap fun p => litL.map fun l => (p, l)).map (fun p : List Nat × List Nat => [AV.str p.1, .str p.2])) ansNamed := fun m t0 t1 t2 => by kernel_rfl
theorem ran_named2 : ran F_tree_named ((litP.flatMap fun p => litL.map fun l => (p, l ++ S_32_)).map (fun p : List Nat × List Nat => [AV.str p.1, .str p.2])) ansNamed := fun m t0 t1 t2 => by kernel_rfl
theorem ran_named3 : ran F_tree_named ((cand.map fun a => (a.p, a.l)).map (fun p : List Nat × List Nat => [AV.str p.1, .str p.2])) ansNamed := fun m t0 t1 t2 => by kernel_rfl
theorem ran2_named : ran F_tree_named tabNamed2 ansNamed := by
  show ran _ ((((S_zz :: litP).flatMap fun p => litL.map fun l => (p, l)) ++ ((litP.flatMap fun p => litL.map fun l => (p, l ++ S_32_)) ++ (cand.map fun a => (a.p, a.l)))).map (fun p : List Nat × List Nat => [AV.str p.1, .str p.2])) _
  rw [List.map_append, List.map_append]
  exact ran_app ran_named1 (ran_app ran_named2 ran_named3)
noncomputable def XM2 (m : Int) : List (Nat × Ent) := (F_tree_named, kMemo (tb m) tabNamed2 ansNamed) :: (F_tree_chars, kMemo (tb m) tabChars2 ansChars) :: (F_token_Target, kMemo (tb m) tabTarget2 ansTarget) :: (F_strings_Contains, kMemo (tb m) tabHolds2 ansHolds) :: (F_strings_HasSuffix, kMemo (tb m) tabSuffix2 ansSuffix) :: (F_token_Spaces, kMemo (tb m) tabSpaces2 ansSpaces) :: XB
theorem XM2_ok (m : Int) : OvrSound Tryz.prog (ovr (XM2 m)) := ovr_sound fun p hp => by
  rcases List.mem_cons.1 hp with rfl | hp
  · exact ran_ok m ran2_named (by kernel_rfl)
  rcases List.mem_cons.1 hp with rfl | hp
  · exact ran_ok m ran2_chars (by kernel_rfl)
  rcases List.mem_cons.1 hp with rfl | hp
  · exact ran_ok m ran2_target (by kernel_rfl)
  rcases List.mem_cons.1 hp with rfl | hp
  · exact ran_ok m ran2_holds (by kernel_rfl)
  rcases List.mem_cons.1 hp with rfl | hp
  · exact ran_ok m ran2_suffix (by kernel_rfl)
  rcases List.mem_cons.1 hp with rfl | hp
  · exact ran_ok m ran2_spaces (by kernel_rfl)
  rcases List.mem_cons.1 hp with rfl | hp
  · exact kToldG_ok (ovr_sound base_ok) count_ok lt2 told16
  · exact base_ok p hp
def PN2 (p l : List Nat) : Prop := (p, l) ∈ nTab2
def PV2 (s : List Nat) : Prop := s ∈ vTab2
def PT2 (s : List Nat) : Prop := s ∈ tTab2
theorem libT2 (m : Int) {G : Gt} (hG : ∀ p ∈ tb m, ∃ l, G p.1 = some l ∧ l.all plainV = true ∧ l.map plA = p.2) : LibT (ovr (XM2 m)) G PN2 PV2 PT2 where
  named p l h vh vn := (memo_wp (L := tb m) (T := tabNamed2) (F := ansNamed) rfl hG (vs := [.str p, .str l]) (r := .bool (namedP p l)) rfl rfl (List.mem_map.2 ⟨_, h, rfl⟩) rfl vh vn).mono fun v vh' vn' he => ⟨he.1, by rw [he.2.1, he.2.2]; exact Frm.refl _ _⟩
  chars s h vh vn := (memo_wp (L := tb m) (T := tabChars2) (F := ansChars) rfl hG (vs := [.str s]) (r := .bool (validP s)) rfl rfl (List.mem_map.2 ⟨_, h, rfl⟩) rfl vh vn).mono fun v vh' vn' he => ⟨he.1, by rw [he.2.1, he.2.2]; exact Frm.refl _ _⟩
  target s h vh vn := (memo_wp (L := tb m) (T := tabTarget2) (F := ansTarget) rfl hG (vs := [.str s]) (r := .bool (targetP s)) rfl rfl (List.mem_map.2 ⟨_, h, rfl⟩) rfl vh vn).mono fun v vh' vn' he => ⟨he.1, by rw [he.2.1, he.2.2]; exact Frm.refl _ _⟩
  contains s w h hw vh vn := (memo_wp (L := tb m) (T := tabHolds2) (F := ansHolds) rfl hG (vs := [.str s, .str w]) (r := .bool (holdsP s w)) rfl rfl (List.mem_flatMap.2 ⟨_, h, List.mem_map.2 ⟨_, hw, rfl⟩⟩) rfl vh vn).mono fun v vh' vn' he => ⟨he.1, by rw [he.2.1, he.2.2]; exact Frm.refl _ _⟩
  suffix s h vh vn := (memo_wp (L := tb m) (T := tabSuffix2) (F := ansSuffix) rfl hG (vs := [.str s, .str S_45_]) (r := .bool (!decide (s = []) && decide ((s.getLastD 0 : Int) = 45))) rfl rfl (List.mem_map.2 ⟨_, h, rfl⟩) rfl vh vn).mono fun v vh' vn' he => ⟨he.1, by rw [he.2.1, he.2.2]; exact Frm.refl _ _⟩
  spaces s h vh vn := (memo_wp (L := tb m) (T := tabSpaces2) (F := ansSpaces) rfl hG (vs := [.str s, .int .i64 0]) (r := .int .i64 ((s.takeWhile fun c => spaceP (wr .i32 (.ofNat c))).length : Int)) rfl rfl (List.mem_map.2 ⟨_, h, rfl⟩) rfl vh vn).mono fun v vh' vn' he => ⟨_, he.1, by
    cases s with
    | nil => simp
    | cons c s =>
      cases hc : spaceP (wr .i32 (.ofNat c)) with
      | true => simp only [List.takeWhile_cons, hc, if_true, List.length_cons, List.headD_cons, reduceCtorEq, false_or, Bool.true_eq_false, iff_false]; omega
      | false => simp [List.takeWhile_cons, hc], by rw [he.2.1, he.2.2]; exact Frm.refl _ _⟩
theorem cand_p2 {c : Attr} (h : c ∈ cand) : PN2 c.p c.l := List.mem_append_right _ (List.mem_append_right _ (List.mem_map.2 ⟨c, h, rfl⟩))
theorem cand_v2 {c : Attr} (h : c ∈ cand) : PV2 c.v := List.mem_append_right _ (List.mem_append_right _ (List.mem_append_right _ (List.mem_map.2 ⟨c, h, rfl⟩)))
theorem attr_ok2 {n : Nd} (h : MadeNd n) : ∀ a ∈ n.s, PN2 a.p a.l ∧ PV2 a.v := fun a ha => by
  obtain ⟨c, hc, e1, e2, e3⟩ := h.a a ha
  rw [e1, e2, e3]
  exact ⟨cand_p2 hc, cand_v2 hc⟩
theorem name_ok2 {p l : List Nat} (hp : p = S_zz ∨ p ∈ litP) (hl : l ∈ litL) : PN2 p l := List.mem_append_left _ (List.mem_flatMap.2 ⟨p, List.mem_cons.2 hp, List.mem_map.2 ⟨l, hl, rfl⟩⟩)
theorem name_ok3 {p l : List Nat} (hp : p ∈ litP) (hl : l ∈ litL) : PN2 p (l ++ S_32_) := List.mem_append_right _ (List.mem_append_left _ (List.mem_flatMap.2 ⟨p, hp, List.mem_map.2 ⟨l, hl, rfl⟩⟩))
theorem made_ndT2 (n : Nd) (h : MadeNd n) : NdT PN2 PV2 PT2 n where
  s := by have := h.s; omega
  e _ := ⟨name_ok2 (.inr h.p) h.l, attr_ok2 h⟩
  v _ := List.mem_append_left _ h.v
  t _ := List.mem_append_left _ h.l
theorem spoil_ndT2 (n : Nd) (pd : Int) (j : Nat) (hj : j < 8) (h : MadeNd n) : NdT PN2 PV2 PT2 (spoil pd j n) := by
  have hs := h.s
  have hj' : j = 0 ∨ j = 1 ∨ j = 2 ∨ j = 3 ∨ j = 4 ∨ j = 5 ∨ j = 6 ∨ j = 7 := by omega
  have v0 : PV2 n.v := List.mem_append_left _ h.v
  have v1 : PV2 (n.v ++ S_0_) := List.mem_append_right _ (List.mem_append_left _ (List.mem_map.2 ⟨_, h.v, rfl⟩))
  have v2 : PV2 (n.v ++ S_v) := List.mem_append_right _ (List.mem_append_right _ (List.mem_append_left _ (List.mem_map.2 ⟨_, h.v, rfl⟩)))
  have t0 : PT2 n.l := List.mem_append_left _ h.l
  have t1 : PT2 (n.l ++ S_32_) := List.mem_append_right _ (List.mem_map.2 ⟨_, h.l, rfl⟩)
  have at0 := attr_ok2 h
  have n0 : PN2 n.p n.l := name_ok2 (.inr h.p) h.l
  rcases hj' with rfl | rfl | rfl | rfl | rfl | rfl | rfl | rfl
  · exact ⟨by show n.s.length < _; omega, fun _ => ⟨n0, at0⟩, fun _ => v0, fun _ => t0⟩
  · exact ⟨by show n.s.length < _; omega, fun _ => ⟨n0, at0⟩, fun _ => v0, fun _ => t0⟩
  · exact ⟨by show n.s.length < _; omega, fun _ => ⟨name_ok2 (.inl rfl) h.l, at0⟩, fun _ => v0, fun _ => t0⟩
  · exact ⟨by show n.s.length < _; omega, fun _ => ⟨n0, at0⟩, fun _ => v0, fun _ => t0⟩
  · exact ⟨by show n.s.length < _; omega, fun _ => ⟨n0, at0⟩, fun _ => v1, fun _ => t0⟩
  · refine ⟨by show (n.s ++ [zzA]).length < _; rw [List.length_append, List.length_singleton]; omega, fun _ => ⟨n0, fun a ha => ?_⟩, fun _ => v0, fun _ => t0⟩
    rcases List.mem_append.1 (show a ∈ n.s ++ [zzA] from ha) with ha | ha
    · exact at0 a ha
    · rw [List.mem_singleton.1 ha]
      exact ⟨name_ok2 (.inl rfl) (by decide : S_a ∈ litL), List.mem_append_left _ (by decide : [] ∈ litV)⟩
  · exact ⟨by show n.s.length < _; omega, fun _ => ⟨name_ok3 h.p h.l, at0⟩, fun _ => v0, fun _ => t1⟩
  · exact ⟨by show n.s.length < _; omega, fun _ => ⟨n0, at0⟩, fun _ => v2, fun _ => t0⟩
theorem XM2_xk (m : Int) : XK (ovr (XM2 m)) where
  hin := rfl
  one := rfl
  part := rfl
  start := rfl
  run := rfl
  name := rfl
  nc := rfl
  split := rfl
  char := rfl
  valid := rfl
  space := rfl
  holds := rfl
  lower := rfl
  target := rfl
  plain := rfl
  declares := rfl
  uri := rfl
  push := rfl
  pop := rfl
  names := rfl
  same := rfl
  qname := rfl
  named := rfl
  element := rfl
  samend := rfl
  may := rfl
  attrs := rfl
  make := rfl
theorem XM2_xtm (m : Int) : XTM (ovr (XM2 m)) where
  declares := rfl
  wrong := rfl
  c1 := rfl
  index := rfl
  contains := rfl
  push := rfl
  depth := rfl
  pop := rfl
  level := rfl
  uri := rfl
  names := rfl
  clone := rfl
  equal := rfl
  ec1 := rfl
  telement := rfl
  snew := rfl
  stands := rfl
  aside := rfl
  tmay := rfl
theorem XM2_xts (m : Int) : XTS (ovr (XM2 m)) where
  equal := rfl
  equalf := rfl
  one := rfl
  same := rfl
  diff := rfl
theorem made_wp (m : Int) {G : Gt} (hG : ∀ p ∈ tb m, ∃ l, G p.1 = some l ∧ l.all plainV = true ∧ l.map plA = p.2) (hG2 : G 2 = some [.int .i64 m]) (ls : List Int) (w how : Int) (vh : VH) (vn : Nat) :
    WpCall Tryz.prog (ovr (XM2 m)) G F_law16_TreeMade [.sl 1 (ls.map encI) none, .int .i64 w, .int .i64 how] vh vn fun v _ _ => v = .bool true :=
  TreeMade_ok (XM2_xtm m) (XM2_xk m) (XM2_xts m) rfl ⟨m, hG2⟩ rfl (libT2 m hG) made_ndT2 (fun n pd j hj h => spoil_ndT2 n pd j hj h) ls w how vh vn
theorem calls_treeMade (W : World) (hsh : W.ShapedOpen Tryz.prog) (h0 : VarReads Tryz.prog W "unicode/utf8.first" firstData) (h1 : VarReads Tryz.prog W "unicode/utf8.acceptRanges" acceptData) {v : Value} {ls : List Int} (hv : IntArg W v ls) (n k : Int) :
    Calls Tryz.prog 5 #[v, .int .i64 n, .int .i64 k] W fun e w' => e = .returned (.bool true) ∧ Go.RowKit.Below W.heap.size W w' := by
  obtain ⟨m, σ, h, nx, u, S, hd, hr⟩ := start_tabs hsh h0 h1 hv
  exact top_ok (args := [v, .int .i64 n, .int .i64 k]) (XM2_ok m) count_ok Tryz.func5 (c := Tryz.f5.body.getD .skip) (by kernel_rfl) S.rh S.bd S.gl S.ro S.gt (vs := [.sl 1 (ls.map encI) none, .int .i64 n, .int .i64 k]) (us := [u, .int .i64 n, .int .i64 k]) (vn := 0) (.cons _ _ _ _ hd (.cons _ _ _ _ (.int _ _) (.cons _ _ _ _ (.int _ _) .nil))) (.cons _ _ _ _ hr (.cons _ _ _ _ (.int _ _) (.cons _ _ _ _ (.int _ _) .nil))) (made_wp m (gtU_tb m) rfl ls n k _ 0)
end Go.Proofs.YtpcbnpekdmobpaaGreatDoor
namespace Go.Proofs.YtpcbnpekdmobpaaGreatDoor
open Go Go.Ev Go.VL Go.ChangeShapes Go.WideShapes Go.ChangeAt Go.RowKit
namespace LTreeMade
theorem c227 : Tryz.prog.cellsOf 227 = 5 := by kernel_rfl
theorem c170 : Tryz.prog.cellsOf 170 = 1 := by kernel_rfl
theorem c225 : Tryz.prog.cellsOf 225 = 3 := by kernel_rfl
theorem c21 : Tryz.prog.cellsOf 21 = 1 := by kernel_rfl
theorem own : ownKnob Tryz.prog.godebug = none := by kernel_rfl
noncomputable def laidWorld (os : Os) : World :=
  let N := (World.settled Tryz.prog os).heap.size
  let w0 := World.holding Tryz.prog os ⟨#[.cells (flatD 4 Rows.laid_unicode_caseOrbit).toArray 197, .cells Lib.caseCells5 227], #[], []⟩
  let h4 := Go.Ev.putD w0.heap 1 (flatD 4 Rows.laid_unicode_utf8_acceptRanges).toArray
  let h5 := Go.Ev.putD h4 3 (flatD 4 Rows.laid_unicode_asciiFold).toArray
  let h6 := Go.Ev.putD h5 4 #[.slice (some ⟨N + 0, 0, none⟩) (sizeD Rows.laid_unicode_caseOrbit) (sizeD Rows.laid_unicode_caseOrbit)]
  let h7 := Go.Ev.putD h6 5 #[.slice (some ⟨N + 1, 0, none⟩) Lib.caseA.size Lib.caseA.size]
  let h8 := Go.Ev.putD h7 0 (flatD 4 Rows.laid_unicode_utf8_first).toArray
  { w0 with heap := h8 }
theorem laid_pre (os : Os) : LaidIn Tryz.prog ((laidWorld os).forCall (fun _ _ => 0) ⟨#[], #[.slice none 0 0, .int .i64 0, .int .i64 0], []⟩).memory [("unicode/utf8.acceptRanges", Rows.laid_unicode_utf8_acceptRanges), ("unicode.asciiFold", Rows.laid_unicode_asciiFold), ("unicode.caseOrbit", Rows.laid_unicode_caseOrbit)] [1, 3, 4, (World.settled Tryz.prog default).heap.size + 0] :=
  LaidIn.of_run _ 8 (by kernel_rfl) (by kernel_rfl) (by kernel_rfl) (by kernel_rfl)
theorem laid_post (os : Os) : LaidIn Tryz.prog ((laidWorld os).forCall (fun _ _ => 0) ⟨#[], #[.slice none 0 0, .int .i64 0, .int .i64 0], []⟩).memory [("unicode/utf8.first", Rows.laid_unicode_utf8_first)] [0] :=
  LaidIn.of_run _ 8 (by kernel_rfl) (by kernel_rfl) (by kernel_rfl) (by kernel_rfl)
theorem laid_case (os : Os) : LaidIn Tryz.prog ((laidWorld os).forCall (fun _ _ => 0) ⟨#[], #[.slice none 0 0, .int .i64 0, .int .i64 0], []⟩).memory [("unicode.CaseRanges", Pinned.caseRanges)] [5, ((World.settled Tryz.prog default).heap.size + 1)] := by
  refine case_in (tS := 200) (tR := 227) (t := 227) (by kernel_rfl) (by kernel_rfl) (by kernel_rfl) (by kernel_rfl) ?_ (of_decide_eq_true (by kernel_rfl)) (by kernel_rfl) (by kernel_rfl)
  intro x hw
  simp only [Lib.rowWf, Bool.and_eq_true] at hw
  obtain ⟨⟨⟨⟨w0, w1⟩, w2⟩, w3⟩, w4⟩ := hw
  have r3 : List.range 3 = [0, 1, 2] := rfl
  simp [DataW.trod, Tryz.underlying227, Tryz.underlying170, Tryz.underlying225, Tryz.underlying21, c227, c170, c225, c21, Lib.cells5, Lib.rowData, w0, w1, w2, w3, w4, r3]
theorem laid_met (os : Os) : laidMet Tryz.prog Rows.treeMadeRow.laid ((laidWorld os).forCall (fun _ _ => 0) ⟨#[], #[.slice none 0 0, .int .i64 0, .int .i64 0], []⟩).memory :=
  LaidIn.met ((laid_pre os).append ((laid_case os).append (laid_post os) (by kernel_rfl)) (by kernel_rfl))
theorem reads (os : Os) {H : Type} (enc : TypeId × Value → H) : ∃ places, DataW.whole enc Tryz.prog ((laidWorld os).forCall (fun _ _ => 0) ⟨#[], #[.slice none 0 0, .int .i64 0, .int .i64 0], []⟩).memory Tryz.f5.params.toList Rows.treeMadeSpec.vars false (#[.slice none 0 0, .int .i64 0, .int .i64 0] : Array Value).toList 8 = some ([.nil, .lit (.int .i64 0), .lit (.int .i64 0)], [], places) := ⟨[], by kernel_rfl⟩
theorem laidOut : laidOutB Tryz.prog = true := by kernel_rfl
theorem cells3 : Tryz.prog.cellsOf 3 = 1 := by kernel_rfl
theorem first_is : Rows.laid_unicode_utf8_first = Lib.firstData := by kernel_rfl
theorem accept_is : Rows.laid_unicode_utf8_acceptRanges = Lib.acceptData := by kernel_rfl
theorem reads0 {W : World} (hL : laidMetH Tryz.prog Rows.treeMadeRow.laid W) : Lib.VarReads Tryz.prog W "unicode/utf8.first" Lib.firstData := by
  rw [← first_is]
  exact Lib.laidMet.reads (laidMetH_iff.1 hL).1 (List.mem_filter.2 ⟨.tail _ (.tail _ (.tail _ (.tail _ (.head _)))), by kernel_rfl⟩)
theorem reads1 {W : World} (hL : laidMetH Tryz.prog Rows.treeMadeRow.laid W) : Lib.VarReads Tryz.prog W "unicode/utf8.acceptRanges" Lib.acceptData := by
  rw [← accept_is]
  exact Lib.laidMet.reads (laidMetH_iff.1 hL).1 (List.mem_filter.2 ⟨.head _, by kernel_rfl⟩)
set_option maxRecDepth 100000 in
theorem contract (H : Type) (enc : TypeId × Value → H) (W : World) (base : Nat) (args : Array Value) (ds gs : List (DataW H)) (before : List MemPlace)
    (hval : ∀ (j : Nat) t v, Tryz.f5.params[j]? = some t → args[j]? = some v → Value.okWide Tryz.prog W .any base t v)
    (hW : DataW.Whole enc Tryz.prog Tryz.f5.params.toList Rows.treeMadeSpec.vars false W args.toList ds gs before) (hL : laidMetH Tryz.prog Rows.treeMadeRow.laid W) (hsh : W.ShapedOpen Tryz.prog) :
    Calls Tryz.prog 5 args W fun e W' => ∃ v, e = .returned v ∧ Rows.treeMadeSpec.post enc Tryz.prog Tryz.f5 false true false false W args v W' := by
  have hW' := hW
  obtain ⟨p, q, hA0, hV, rfl, hfz, hnd⟩ := hW
  have hA : DataW.TrodAll enc Tryz.prog W 0 (fun _ => true) true Tryz.f5.params.toList args.toList ds p := hA0
  rw [Tryz.params5] at hA hval
  obtain ⟨v0, vs0, d0, ds0, p0, q0, hargs0, rfl, rfl, h0, r0⟩ := trodAll_cons hA
  obtain ⟨v1, vs1, d1, ds1, p1, q1, hargs1, rfl, rfl, h1, r1⟩ := trodAll_cons r0
  obtain ⟨v2, vs2, d2, ds2, p2, q2, hargs2, rfl, rfl, h2, r2⟩ := trodAll_cons r1
  obtain ⟨rfl, rfl, rfl⟩ := trodAll_nil r2
  obtain rfl : args = #[v0, v1, v2] := by
    apply Array.toList_inj.1
    rw [hargs0, hargs1, hargs2]
  obtain ⟨rfl, rfl⟩ := trodVars_none hV
  clear hA0
  obtain ⟨n1, rfl, rfl, rfl, hw1⟩ := open_int Tryz.underlying3 (hval 1 3 v1 rfl rfl) h1
  obtain ⟨n2, rfl, rfl, rfl, hw2⟩ := open_int Tryz.underlying3 (hval 2 3 v2 rfl rfl) h2
  have hlt0 : ∀ x ∈ p0, x.block < W.heap.size := fun x hx => hW'.lt x (by simp [hx])
  obtain ⟨ls0, hv0⟩ : ∃ ls, IntArg W v0 ls := int_arg Tryz.underlying22 Tryz.underlying3 cells3 (hval 0 22 v0 rfl rfl) h0
  simp only [List.append_nil, List.nil_append] at hW'
  refine (calls_treeMade W hsh (reads0 hL) (reads1 hL) hv0 n1 n2).mono fun e W' ⟨he, hg⟩ => ?_
  subst he
  exact ⟨_, rfl, post_of_below (pa := p0) (pv := []) hW' (fun _ _ _ => trodAll_cons_mk (shut_bool Tryz.underlying4 _) trodAll_mk0) (fun sp hs => (by
    have := trodAll_cons_mk (WideElems.Trod_stays laidOut (by kernel_rfl) (of_decide_eq_true (by kernel_rfl)) h0 (fun x hx => hg.same (hlt0 x hx)) fun x hx => hs x hx) (trodAll_cons_mk (shut_int Tryz.underlying3 hw1) (trodAll_cons_mk (shut_int Tryz.underlying3 hw2) trodAll_mk0))
    simpa only [List.append_nil] using this : DataW.TrodAll enc Tryz.prog W' 0 sp true [22, 3, 3] [v0, .int .i64 n1, .int .i64 n2] [d0, .lit (.int .i64 n1), .lit (.int .i64 n2)] p0)) (fun _ _ => rfl) (by simp) hg (ok_one (by kernel_rfl) rfl (okWide_bool_mk Tryz.underlying4 _))⟩
set_option maxRecDepth 100000 in
theorem lifted (os : Os) (started : os.Started) (H : Type) (enc : TypeId × Value → H) (F : Stop.Interp) :
    ReturnsInHanded {} Tryz.checked os 5 .any ((OpenSpec.ofChange Rows.treeMadeSpec).preRow enc Tryz.prog Tryz.f5 Rows.treeMadeRow.domain false Rows.treeMadeRow.laid) (((OpenSpec.ofChange Rows.treeMadeSpec).at F).post enc Tryz.prog Tryz.f5 false true false false) := by
  obtain ⟨places, hx⟩ := reads os enc
  refine returnsInHanded_of_row (C := Tryz.checked) (s := OpenSpec.ofChange Rows.treeMadeSpec) own started (by kernel_rfl) Tryz.func5
    (witness_row_atRef (enc := enc) (C := Tryz.checked) false (laidWorld os) #[.slice none 0 0, .int .i64 0, .int .i64 0] rfl (by kernel_rfl) (by kernel_rfl) (by kernel_rfl)
      (OpenSpec.preRow_of_cond 8 hx (by kernel_rfl) (fun k hk => by cases hk) (by kernel_rfl) (laid_met os))) ?_
  intro W base args ds gs before hval hW _ _ _ hL hsh _
  exact contract H enc W base args ds gs before hval hW hL hsh
theorem said : Rows.TreeMadeSaid :=
  OpenClaim.holds_of_cond 5 Tryz.f5 rfl rfl rfl rfl rfl rfl rfl ⟨rfl, rfl, rfl, rfl, rfl⟩ rfl rfl rfl rfl rfl (by kernel_rfl) Tryz.func5 (by kernel_rfl)
    (of_decide_eq_true (by kernel_rfl)) (by unfold Func.isWrapper; first | (rw [if_pos (by decide +kernel)]; kernel_rfl) | (rw [if_neg (by decide +kernel)]; exact ⟨rfl, rfl⟩))
    (fun os started H enc _ F => by rw [OpenClaim.pre_eq_preRow]; exact lifted os started H enc F)
theorem plain (f : FuncId) (fn : Func) (hf : Tryz.pinned.checked.prog.funcNamed "bracken/brackenlaw16.TreeMade" = some f) (hfn : Tryz.pinned.checked.prog.funcs[f]? = some fn) :
    true = Tryz.pinned.checked.prog.looks [] ∧ ∀ (j : Nat) t, fn.params[j]? = some t → Tryz.pinned.checked.prog.wantsStandIn t = false := by
  obtain rfl : f = 5 := Option.some.inj ((show Tryz.prog.funcNamed "bracken/brackenlaw16.TreeMade" = some 5 by kernel_rfl).symm.trans hf) |>.symm
  obtain rfl : fn = Tryz.f5 := (Option.some.inj (Tryz.func5.symm.trans hfn)).symm
  refine ⟨by kernel_rfl, fun j t ht => ?_⟩
  rw [Tryz.params5] at ht
  have hm := Array.mem_of_getElem? ht
  have hm2 : t = 22 ∨ t = 3 := by simp at hm; first | exact hm | (rcases hm with h | h | h | h <;> simp [h]) | (rcases hm with h | h | h <;> simp [h])
  rcases hm2 with rfl | rfl
  · exact (show Tryz.prog.wantsStandIn 22 = false by kernel_rfl)
  · exact (show Tryz.prog.wantsStandIn 3 = false by kernel_rfl)
theorem card : Rows.TreeMadeCardSaid :=
  Claim7.holds_tied_plain_at .later [] _ _ _ _ said (fun _ h => by cases h) (by kernel_rfl) (fun _ h => by cases h) treeMade_row_tie rfl ⟨rfl, rfl⟩ (by kernel_rfl) rfl plain (by kernel_rfl)
#print axioms card
end LTreeMade
end Go.Proofs.YtpcbnpekdmobpaaGreatDoor
