/- TreeNexts is true for every list of numbers and every number, and what it rests on; no condition. -/
import Derived.KernelRfl
import Derived.Test.YtpcbnpekdmobpaaGreatDoorChecked
import Derived.Test.YtpcbnpekdmobpaaGreatDoorNxD
set_option linter.unusedSimpArgs false
set_option linter.unusedVariables false
set_option linter.constructorNameAsVariable false
set_option linter.unnecessarySimpa false
set_option maxRecDepth 100000
set_option linter.unusedVariables false
open Go Go.Ev Go.VL
namespace Go.Proofs.YtpcbnpekdmobpaaGreatDoor
instance (n : Nat) : OfNat VX n := ⟨.t n⟩
abbrev oA (d : Nat) (op : VOp) : VOper := ⟨some d, op, none, [], .n []⟩
abbrev oN (op : VOp) : VOper := ⟨none, op, none, [], .n []⟩
abbrev oT (g d : Nat) (op : VOp) : VOper := ⟨some d, op, some (g, true), [], .n []⟩
abbrev oF (g d : Nat) (op : VOp) : VOper := ⟨some d, op, some (g, false), [], .n []⟩
abbrev mA (d s : Nat) : VOper := ⟨some d, .mv (.t s), none, [], .n []⟩
abbrev cI (n : Int) : VX := .c (.int .i64 n)
abbrev cU (n : Int) : VX := .c (.int .u64 n)
abbrev cB (b : Bool) : VX := .c (.bool b)
abbrev kp (l : List Nat) : List Gh := [.keep l]
abbrev F_law16_TreeNexts : FuncId := 3
abbrev F_law16_Make : FuncId := 9
abbrev F_law16_put : FuncId := 10
abbrev F_law16_told : FuncId := 11
abbrev F_tree_May : FuncId := 12
abbrev F_ref15_May : FuncId := 13
abbrev F_ref10_SameAttrs : FuncId := 23
abbrev F_ref10_Scope_Pop : FuncId := 30
abbrev F_law16_attrs : FuncId := 31
abbrev F_ref10_Scope_Push : FuncId := 32
abbrev F_ref15_Names : FuncId := 33
abbrev F_scope_New : FuncId := 34
abbrev F_tree_stands : FuncId := 35
abbrev F_scope_Scope_Pop : FuncId := 36
abbrev F_tree_aside : FuncId := 37
abbrev F_tree_element : FuncId := 38
abbrev F_ref15_SameNode : FuncId := 39
abbrev F_ref15_element : FuncId := 40
abbrev F_ref15_plain : FuncId := 41
abbrev F_scope_Scope_Push : FuncId := 46
abbrev F_ref10_Declares : FuncId := 54
abbrev F_ref10_Scope_URI : FuncId := 55
abbrev F_scope_Scope_Depth : FuncId := 56
abbrev F_tree_chars : FuncId := 57
abbrev F_strings_Contains : FuncId := 58
abbrev F_strings_HasSuffix : FuncId := 59
abbrev F_token_Target : FuncId := 60
abbrev F_token_Spaces : FuncId := 61
abbrev F_tree_named : FuncId := 62
abbrev F_slices_Clone_Lapi_Attr_api_Attr : FuncId := 63
abbrev F_slices_ContainsFunc_Lapi_Attr_api_Attr : FuncId := 64
abbrev F_tree_element_c1 : FuncId := 65
abbrev F_scope_Scope_Names : FuncId := 66
abbrev F_slices_Equal_Lapi_Attr_api_Attr : FuncId := 67
abbrev F_ref15_named : FuncId := 68
abbrev F_ref1_Valid : FuncId := 69
abbrev F_ref15_holds : FuncId := 70
abbrev F_ref10_Target : FuncId := 71
abbrev F_ref1_Space : FuncId := 72
abbrev F_scope_Declares : FuncId := 74
abbrev F_scope_wrong : FuncId := 75
abbrev F_scope_Scope_Push_c1 : FuncId := 76
abbrev F_scope_Scope_level : FuncId := 77
abbrev F_scope_Scope_URI : FuncId := 80
abbrev F_slices_IndexFunc_Lapi_Attr_api_Attr : FuncId := 105
abbrev F_ref1_Split : FuncId := 106
abbrev F_ref15_qname : FuncId := 107
abbrev F_ref1_One : FuncId := 108
abbrev F_ref1_Char : FuncId := 109
abbrev F_ref1_NCName : FuncId := 110
abbrev F_ref10_lower : FuncId := 111
abbrev F_ref1_in : FuncId := 137
abbrev F_ref1_Name : FuncId := 138
abbrev F_ref1_Run : FuncId := 177
abbrev F_ref1_Part : FuncId := 199
abbrev F_ref1_Start : FuncId := 200
abbrev T_api_Node : TypeId := 29
abbrev T_api_Attr : TypeId := 41
abbrev T_ref10_Scope : TypeId := 49
abbrev T_int : TypeId := 3
abbrev T_Lapi_Attr : TypeId := 27
abbrev T_scope_Scope : TypeId := 82
abbrev T_interface : TypeId := 20
abbrev T_uint8 : TypeId := 5
def S_c : List Nat := [99]
def S_x : List Nat := [120]
def S_z : List Nat := [122]
def S_a : List Nat := [97]
def S_v : List Nat := [118]
def S_xml : List Nat := [120,109,108]
def Shttp_58__47__47_www_46_w3_46__36_910846 : List Nat := [104,116,116,112,58,47,47,119,119,119,46,119,51,46,111,114,103,47,88,77,76,47,49,57,57,56,47,110,97,109,101,115,112,97,99,101]
def Shttp_58__47__47_www_46_w3_46__29_391792 : List Nat := [104,116,116,112,58,47,47,119,119,119,46,119,51,46,111,114,103,47,50,48,48,48,47,120,109,108,110,115,47]
def S_b : List Nat := [98]
def S_p : List Nat := [112]
def S_q : List Nat := [113]
def S_32_y_10_ : List Nat := [32,121,10]
def S_60__38__62__34_ : List Nat := [60,38,62,34]
def S_13__9_ : List Nat := [13,9]
def S_195__169__93__93__62_ : List Nat := [195,169,93,93,62]
def S_text : List Nat := [116,101,120,116]
def S_32__45__32_ : List Nat := [32,45,32]
def S_60__38__62_ : List Nat := [60,38,62]
def S_pi : List Nat := [112,105]
def S_d : List Nat := [100]
def Sa_32__63__32__62_ : List Nat := [97,32,63,32,62]
def S_r : List Nat := [114]
def S_u : List Nat := [117]
def S_xmlns : List Nat := [120,109,108,110,115]
def S_w : List Nat := [119]
def S_1 : List Nat := [49]
def S_32__10__9_ : List Nat := [32,10,9]
def S_60__34__38__62_ : List Nat := [60,34,38,62]
def S_13_ : List Nat := [13]
def S_2 : List Nat := [50]
def S_id : List Nat := [105,100]
def S_i : List Nat := [105]
def S_45__45_ : List Nat := [45,45]
def S_45_ : List Nat := [45]
def S_63__62_ : List Nat := [63,62]
def S_58_ : List Nat := [58]
end Go.Proofs.YtpcbnpekdmobpaaGreatDoor
set_option maxRecDepth 100000
set_option linter.unusedVariables false
open Go Go.Ev Go.VL
namespace Go.Proofs.YtpcbnpekdmobpaaGreatDoor
def c_law16_Make_L1 : VCode := (.seq (.seq (.reg 0 [mA 70 4, oA 71 (.nilck 70), oA 72 (.off 71 0), oA 73 (.load 72 false 1), oA 74 (.lenL 73), mA 75 10, oA 76 (.bin .geq 74 75)] (kp [0,3,4,5,6,7,8,10,76]))
(.cond 76
(.gsk (kp [0,3,4,5,6,7,8,10]))
(.exit 2)))
(.block 3
(.reg 0 [mA 77 4, oA 78 (.call F_ref10_Scope_Pop [77])] (kp [0,3,4,5,6,7,8,10]))))
def c_law16_Make_R24 : VCode := (.seq (.reg 0 [oA 106 (.buildF 1 4 [(.str [])] [(0,(.c (.str S_a))),(1,(.c (.str S_b))),(2,(.c (.str S_c))),(3,(.c (.str S_a)))]), mA 107 7, oA 108 (.bin .quo 107 (cU 8)), oA 109 (.bin .rem 108 (cU 4)), oA 110 (.idx 1 106 109), oA 111 (.load 110 false 1), oA 112 (.off 11 0), oN (.store 112 (cI 2) 1), oA 113 (.off 11 3), oN (.store 113 111 1)] (kp [0,3,4,5,6,7,10,11]))
(.seq (.reg 0 [mA 114 7, oA 115 (.bin .quo 114 (cU 32)), oA 116 (.call F_law16_attrs [115]), oA 117 (.off 11 6), oN (.store 117 116 1)] (kp [0,3,4,5,6,7,10,11]))
(.seq (.reg 0 [oA 118 (.buildF 1 4 [(.str [])] [(0,(.c (.str []))),(1,(.c (.str []))),(2,(.c (.str S_p))),(3,(.c (.str S_q)))]), mA 119 7, oA 120 (.bin .quo 119 (cU 256)), oA 121 (.bin .rem 120 (cU 4)), oA 122 (.idx 1 118 121), oA 123 (.load 122 false 1), oA 124 (.off 11 2), oN (.store 124 123 1)] (kp [0,3,4,5,6,10,11]))
(.seq (.seq (.reg 0 [mA 125 4, oA 126 (.off 11 6), oA 127 (.load 126 false 1), oA 128 (.call F_ref10_Scope_Push [125,127]), oA 129 (.bin .neq 128 (cI 0))] (kp [0,3,4,5,6,10,11,129]))
(.cond 129
(.exit 1)
(.gsk (kp [0,3,4,5,6,10,11]))))
(.seq (.seq (.reg 0 [mA 130 4, oA 131 (.call F_ref15_Names [130,11]), oA 132 (.un .not 131)] (kp [0,3,4,5,6,10,11,132]))
(.cond 132
(.seq (.reg 0 [mA 133 4, oA 134 (.call F_ref10_Scope_Pop [133])] (kp [0,3,4,5,6,10,11]))
(.seq (.reg 0 [oA 135 (.off 11 2), oN (.store 135 (.c (.str [])) 1), oA 136 (.off 11 6), oN (.store 136 (.c .nils) 1)] (kp [0,3,4,5,6,10,11]))
(.seq (.reg 0 [mA 137 4, oA 138 (.call F_ref10_Scope_Push [137,(.c .nils)]), oA 139 (.bin .neq 138 (cI 0)), mA 140 139, oF 140 141 (.mv 4), oF 140 142 (.call F_ref15_Names [141,11]), oF 140 143 (.un .not 142), oA 144 (.pick 140 (cB true) 143)] (kp [0,3,4,5,6,10,11,144]))
(.cond 144
(.exit 1)
(.gsk (kp [0,3,4,5,6,10,11]))))))
(.gsk (kp [0,3,4,5,6,10,11]))))
(.reg 0 [mA 145 5, mA 146 145, oF 146 147 (.mv 10), oF 146 148 (.bin .eql 147 (cI 1)), oA 149 (.pick 146 (cB true) 148), mA 5 149] (kp [0,3,4,5,6,11])))))))
def c_law16_Make_R22 : VCode := (.seq (.reg 0 [mA 99 12, oA 100 (.bin .lss 99 (cU 4)), mA 98 100] (kp [0,3,4,5,6,7,8,10,11,12,98]))
(.cond 98
(.seq (.seq (.reg 0 [mA 101 10, oA 102 (.bin .eql 101 (cI 1)), mA 103 102, oT 103 104 (.mv 5), oA 105 (.pick 103 104 (cB false))] (kp [0,3,4,5,6,7,10,11,105]))
(.cond 105
(.exit 1)
(.gsk (kp [0,3,4,5,6,7,10,11]))))
(.cut c_law16_Make_R24))
(.seq (.reg 0 [mA 151 12, oA 152 (.bin .lss 151 (cU 6)), mA 150 152] (kp [0,3,4,5,6,7,8,10,11,12,150]))
(.cond 150
(.seq (.reg 0 [oA 153 (.buildF 1 6 [(.str [])] [(0,(.c (.str S_x))),(1,(.c (.str S_32_y_10_))),(2,(.c (.str S_60__38__62__34_))),(3,(.c (.str S_13__9_))),(4,(.c (.str S_195__169__93__93__62_))),(5,(.c (.str S_text)))]), mA 154 7, oA 155 (.bin .quo 154 (cU 8)), oA 156 (.bin .rem 155 (cU 6)), oA 157 (.idx 1 153 156), oA 158 (.load 157 false 1), oA 159 (.off 11 0), oN (.store 159 (cI 3) 1), oA 160 (.off 11 5), oN (.store 160 158 1)] (kp [0,3,4,5,6,8,10,11]))
(.seq (.reg 0 [mA 161 10, oA 162 (.bin .eql 161 (cI 1)), mA 163 162, oF 163 164 (.off 8 0), oF 163 165 (.load 164 false 1), oF 163 166 (.bin .eql 165 (cI 3)), oF 163 167 (.mv 166), oT 167 168 (.off 8 1), oT 167 169 (.load 168 false 1), oT 167 170 (.mv 10), oT 167 171 (.bin .eql 169 170), oF 163 172 (.pick 167 171 (cB false)), oA 173 (.pick 163 (cB true) 172)] (kp [0,3,4,5,6,11,173]))
(.cond 173
(.exit 1)
(.gsk (kp [0,3,4,5,6,11])))))
(.seq (.reg 0 [mA 175 12, oA 176 (.bin .eql 175 (cU 6)), mA 174 176] (kp [0,3,4,5,6,7,11,174]))
(.cond 174
(.reg 0 [oA 177 (.buildF 1 4 [(.str [])] [(0,(.c (.str []))),(1,(.c (.str S_c))),(2,(.c (.str S_32__45__32_))),(3,(.c (.str S_60__38__62_)))]), mA 178 7, oA 179 (.bin .quo 178 (cU 8)), oA 180 (.bin .rem 179 (cU 4)), oA 181 (.idx 1 177 180), oA 182 (.load 181 false 1), oA 183 (.off 11 0), oN (.store 183 (cI 4) 1), oA 184 (.off 11 5), oN (.store 184 182 1)] (kp [0,3,4,5,6,11]))
(.reg 1 [oA 83 (.buildF 1 2 [(.str [])] [(0,(.c (.str S_pi))),(1,(.c (.str S_q)))]), mA 84 7, oA 85 (.bin .quo 84 (cU 8)), oA 86 (.bin .rem 85 (cU 2)), oA 87 (.idx 1 83 86), oA 88 (.load 87 false 1), oA 89 (.buildF 1 3 [(.str [])] [(0,(.c (.str []))),(1,(.c (.str S_d))),(2,(.c (.str Sa_32__63__32__62_)))]), mA 90 7, oA 91 (.bin .quo 90 (cU 16)), oA 92 (.bin .rem 91 (cU 3)), oA 93 (.idx 1 89 92), oA 94 (.load 93 false 1), oA 95 (.off 11 0), oN (.store 95 (cI 5) 1), oA 96 (.off 11 3), oN (.store 96 88 1), oA 97 (.off 11 5), oN (.store 97 94 1)] (kp [0,3,4,5,6,11]))))))))
def c_law16_Make_R17 : VCode := (.seq (.block 2
(.loop c_law16_Make_L1))
(.seq (.reg 0 [mA 79 10, oA 80 (.build [(.int .i64 0),(.int .i64 0),(.str []),(.str []),(.str []),(.str []),.nils] [(1,1,79)]), oA 11 (.allocH [(.int .i64 0),(.int .i64 0),(.str []),(.str []),(.str []),(.str []),.nils] T_api_Node), oN (.store 11 80 7)] (kp [0,3,4,5,6,7,8,10,11]))
(.seq (.seq (.reg 0 [mA 81 7, oA 82 (.bin .rem 81 (cU 8)), mA 12 82] (kp [0,3,4,5,6,7,8,10,11,12]))
(.block 4
(.cut c_law16_Make_R22)))
(.reg 0 [mA 185 3, oA 186 (.load 11 true 7), ⟨some 187,.buildF 7 1 [(.int .i64 0),(.int .i64 0),(.str []),(.str []),(.str []),(.str []),.nils] [(0,186)],none,[.fza 186 6 4],.n []⟩, oA 188 (.app 7 [(.int .i64 0),(.int .i64 0),(.str []),(.str []),(.str []),(.str []),.nils] 104 T_api_Node 185 187), mA 3 188] (kp [0,3,4,5,6])))))
def c_law16_Make_R9 : VCode := (.seq (.reg 0 [oA 38 (.off 8 1), oA 39 (.load 38 false 1), mA 9 39] (kp [0,3,4,5,6,7,8,9]))
(.seq (.seq (.reg 0 [oA 40 (.off 8 0), oA 41 (.load 40 false 1), oA 42 (.bin .eql 41 (cI 2)), mA 43 42, oF 43 44 (.off 8 0), oF 43 45 (.load 44 false 1), oF 43 46 (.bin .eql 45 (cI 1)), oA 47 (.pick 43 (cB true) 46)] (kp [0,3,4,5,6,7,8,9,47]))
(.cond 47
(.reg 0 [mA 48 9, oA 49 (.bin .add 48 (cI 1)), mA 9 49] (kp [0,3,4,5,6,7,8,9]))
(.gsk (kp [0,3,4,5,6,7,8,9]))))
(.seq (.reg 0 [mA 50 9, mA 51 7, oA 52 (.bin .quo 51 (cU 64)), oA 53 (.cint .i64 52), oA 54 (.bin .rem 53 (cI 3)), oA 55 (.bin .sub 50 54), mA 10 55] (kp [0,3,4,5,6,7,8,9,10]))
(.seq (.seq (.reg 0 [mA 56 10, oA 57 (.bin .lss 56 (cI 1))] (kp [0,3,4,5,6,7,8,9,10,57]))
(.cond 57
(.reg 0 [oA 10 (.mv (cI 1))] (kp [0,3,4,5,6,7,8,9,10]))
(.gsk (kp [0,3,4,5,6,7,8,9,10]))))
(.seq (.seq (.reg 0 [mA 58 5, mA 59 58, oT 59 60 (.mv 10), oT 59 61 (.bin .lss 60 (cI 2)), oA 62 (.pick 59 61 (cB false)), mA 63 62, oT 63 64 (.mv 7), oT 63 65 (.bin .rem 64 (cU 8)), oT 63 66 (.bin .lss 65 (cU 6)), oA 67 (.pick 63 66 (cB false))] (kp [0,3,4,5,6,7,8,9,10,67]))
(.cond 67
(.reg 0 [mA 68 9, oA 69 (.mn [(cI 2),68]), mA 10 69] (kp [0,3,4,5,6,7,8,10]))
(.gsk (kp [0,3,4,5,6,7,8,10]))))
(.cut c_law16_Make_R17))))))
def c_law16_Make_L0 : VCode := (.seq (.seq (.reg 0 [mA 17 6, mA 18 0, oA 19 (.lenL 18), oA 20 (.bin .lss 17 19), mA 21 20, oT 21 22 (.mv 6), oT 21 23 (.bin .lss 22 (cI 30)), oA 24 (.pick 21 23 (cB false))] (kp [0,3,4,5,6,24]))
(.cond 24
(.gsk (kp [0,3,4,5,6]))
(.exit 0)))
(.seq (.block 1
(.seq (.reg 0 [mA 27 0, mA 28 6, oA 29 (.idx 1 27 28), oA 30 (.load 29 false 1), oA 31 (.cint .u64 30), mA 7 31] (kp [0,3,4,5,6,7]))
(.seq (.reg 0 [mA 32 3, mA 33 3, oA 34 (.lenL 33), oA 35 (.bin .sub 34 (cI 1)), oA 36 (.idx 7 32 35), oA 37 (.load 36 true 7), oA 8 (.allocL [(.int .i64 0),(.int .i64 0),(.str []),(.str []),(.str []),(.str []),.nils]), oN (.store 8 37 7)] (kp [0,3,4,5,6,7,8]))
(.cut c_law16_Make_R9))))
(.reg 0 [mA 25 6, oA 26 (.bin .add 25 (cI 1)), mA 6 26] (kp [0,3,4,5,6]))))
def c_law16_Make : VCode := (.seq (.reg 0 [oA 2 (.mv (.c .nils))] (kp [0]))
(.seq (.reg 0 [oA 13 (.build [(.int .i64 0),(.int .i64 0),(.str []),(.str []),(.str []),(.str []),.nils] [(0,1,(cI 1))]), ⟨some 14,.buildH 7 1 [(.int .i64 0),(.int .i64 0),(.str []),(.str []),(.str []),(.str []),.nils] [(0,13)] T_api_Node,none,[.fza 13 6 4],.n []⟩, mA 3 14] (kp [0,3]))
(.seq (.reg 0 [oA 15 (.build [.nils] []), ⟨some 16,.boxH 15 T_ref10_Scope,none,[.fza 15 0 1],.n []⟩, mA 4 16] (kp [0,3,4]))
(.seq (.reg 0 [oA 5 (.mv (cB false))] (kp [0,3,4,5]))
(.seq (.seq (.reg 0 [oA 6 (.mv (cI 0))] (kp [0,3,4,5,6]))
(.block 0
(.loop c_law16_Make_L0)))
(.seq (.seq (.reg 0 [mA 189 5, oA 190 (.un .not 189)] (kp [3,190]))
(.cond 190
(.reg 0 [mA 191 3, oA 192 (.build [(.int .i64 0),(.int .i64 0),(.str []),(.str []),(.str []),(.str []),.nils] [(0,1,(cI 2)),(1,1,(cI 1)),(3,1,(.c (.str S_r)))]), ⟨some 193,.buildF 7 1 [(.int .i64 0),(.int .i64 0),(.str []),(.str []),(.str []),(.str []),.nils] [(0,192)],none,[.fza 192 6 4],.n []⟩, oA 194 (.app 7 [(.int .i64 0),(.int .i64 0),(.str []),(.str []),(.str []),(.str []),.nils] 104 T_api_Node 191 193), mA 3 194] (kp [3]))
(.gsk (kp [3]))))
(.seq (.seq (.reg 0 [⟨some 195,.mv 3,none,[.fzs 3 7],.n []⟩, oA 196 (.call F_ref15_May [195]), oA 197 (.un .not 196)] (kp [3,197]))
(.cond 197
(.seq (.reg 0 [oA 198 (.build [(.int .i64 0),(.int .i64 0),(.str []),(.str []),(.str []),(.str []),.nils] [(0,1,(cI 1))]), oA 199 (.build [(.int .i64 0),(.int .i64 0),(.str []),(.str []),(.str []),(.str []),.nils] [(0,1,(cI 2)),(1,1,(cI 1)),(3,1,(.c (.str S_r)))]), ⟨some 200,.buildF 7 2 [(.int .i64 0),(.int .i64 0),(.str []),(.str []),(.str []),(.str []),.nils] [(0,198),(1,199)],none,[.fza 198 6 4,.fza 199 6 4],.n []⟩, mA 2 200] [.fzs 2 7,.keep [2]])
.ret)
(.gsk (kp [3]))))
(.seq (.reg 0 [mA 201 3, mA 2 201] (kp [2]))
.ret))))))))
def r_law16_Make : List VRes := [.tmp 2]
theorem k_law16_Make : Fits Tryz.prog F_law16_Make c_law16_Make r_law16_Make := .of Tryz.func9 (by kernel_rfl)
def c_law16_attrs_R12 : VCode := (.seq (.seq (.reg 0 [mA 57 0, oA 58 (.bin .and 57 (cU 256)), oA 59 (.bin .eql 58 (cU 256))] (kp [3,59]))
(.cond 59
(.reg 0 [mA 60 3, oA 61 (.build [(.str []),(.str []),(.str []),(.str [])] [(0,1,(.c (.str S_xmlns))),(1,1,(.c (.str S_q))),(2,1,(.c (.str Shttp_58__47__47_www_46_w3_46__29_391792))),(3,1,(.c (.str S_u)))]), oA 62 (.buildF 4 1 [(.str []),(.str []),(.str []),(.str [])] [(0,61)]), oA 63 (.app 4 [(.str []),(.str []),(.str []),(.str [])] 64 T_api_Attr 60 62), mA 3 63] (kp [3]))
(.gsk (kp [3]))))
(.seq (.reg 0 [mA 64 3, mA 2 64] (kp [2]))
.ret))
def c_law16_attrs_R10 : VCode := (.seq (.seq (.reg 0 [mA 50 0, oA 51 (.bin .and 50 (cU 128)), oA 52 (.bin .eql 51 (cU 128))] (kp [0,3,52]))
(.cond 52
(.reg 0 [mA 53 3, oA 54 (.build [(.str []),(.str []),(.str []),(.str [])] [(0,1,(.c (.str S_xml))),(1,1,(.c (.str S_id))),(3,1,(.c (.str S_i)))]), oA 55 (.buildF 4 1 [(.str []),(.str []),(.str []),(.str [])] [(0,54)]), oA 56 (.app 4 [(.str []),(.str []),(.str []),(.str [])] 64 T_api_Attr 53 55), mA 3 56] (kp [0,3]))
(.gsk (kp [0,3]))))
(.cut c_law16_attrs_R12))
def c_law16_attrs_R8 : VCode := (.seq (.seq (.reg 0 [mA 43 0, oA 44 (.bin .and 43 (cU 64)), oA 45 (.bin .eql 44 (cU 64))] (kp [0,3,45]))
(.cond 45
(.reg 0 [mA 46 3, oA 47 (.build [(.str []),(.str []),(.str []),(.str [])] [(0,1,(.c (.str S_p))),(1,1,(.c (.str S_x))),(3,1,(.c (.str S_2)))]), oA 48 (.buildF 4 1 [(.str []),(.str []),(.str []),(.str [])] [(0,47)]), oA 49 (.app 4 [(.str []),(.str []),(.str []),(.str [])] 64 T_api_Attr 46 48), mA 3 49] (kp [0,3]))
(.gsk (kp [0,3]))))
(.cut c_law16_attrs_R10))
def c_law16_attrs_R6 : VCode := (.seq (.seq (.reg 0 [mA 30 0, oA 31 (.bin .and 30 (cU 16)), oA 32 (.bin .eql 31 (cU 16))] (kp [0,3,32]))
(.cond 32
(.reg 0 [mA 33 3, oA 34 (.buildF 1 4 [(.str [])] [(0,(.c (.str S_1))),(1,(.c (.str S_32__10__9_))),(2,(.c (.str S_60__34__38__62_))),(3,(.c (.str S_13_)))]), mA 35 0, oA 36 (.bin .quo 35 (cU 32)), oA 37 (.bin .rem 36 (cU 4)), oA 38 (.idx 1 34 37), oA 39 (.load 38 false 1), oA 40 (.build [(.str []),(.str []),(.str []),(.str [])] [(1,1,(.c (.str S_x))),(3,1,39)]), oA 41 (.buildF 4 1 [(.str []),(.str []),(.str []),(.str [])] [(0,40)]), oA 42 (.app 4 [(.str []),(.str []),(.str []),(.str [])] 64 T_api_Attr 33 41), mA 3 42] (kp [0,3]))
(.gsk (kp [0,3]))))
(.cut c_law16_attrs_R8))
def c_law16_attrs_R4 : VCode := (.seq (.seq (.reg 0 [mA 17 0, oA 18 (.bin .and 17 (cU 4)), oA 19 (.bin .eql 18 (cU 4))] (kp [0,3,19]))
(.cond 19
(.reg 0 [mA 20 3, oA 21 (.buildF 1 3 [(.str [])] [(0,(.c (.str S_u))),(1,(.c (.str []))),(2,(.c (.str S_w)))]), mA 22 0, oA 23 (.bin .quo 22 (cU 8)), oA 24 (.bin .rem 23 (cU 3)), oA 25 (.idx 1 21 24), oA 26 (.load 25 false 1), oA 27 (.build [(.str []),(.str []),(.str []),(.str [])] [(1,1,(.c (.str S_xmlns))),(2,1,(.c (.str Shttp_58__47__47_www_46_w3_46__29_391792))),(3,1,26)]), oA 28 (.buildF 4 1 [(.str []),(.str []),(.str []),(.str [])] [(0,27)]), oA 29 (.app 4 [(.str []),(.str []),(.str []),(.str [])] 64 T_api_Attr 20 28), mA 3 29] (kp [0,3]))
(.gsk (kp [0,3]))))
(.cut c_law16_attrs_R6))
def c_law16_attrs_R2 : VCode := (.seq (.seq (.reg 0 [mA 4 0, oA 5 (.bin .and 4 (cU 1)), oA 6 (.bin .eql 5 (cU 1))] (kp [0,3,6]))
(.cond 6
(.reg 0 [mA 7 3, oA 8 (.buildF 1 2 [(.str [])] [(0,(.c (.str S_u))),(1,(.c (.str S_v)))]), mA 9 0, oA 10 (.bin .quo 9 (cU 2)), oA 11 (.bin .rem 10 (cU 2)), oA 12 (.idx 1 8 11), oA 13 (.load 12 false 1), oA 14 (.build [(.str []),(.str []),(.str []),(.str [])] [(0,1,(.c (.str S_xmlns))),(1,1,(.c (.str S_p))),(2,1,(.c (.str Shttp_58__47__47_www_46_w3_46__29_391792))),(3,1,13)]), oA 15 (.buildF 4 1 [(.str []),(.str []),(.str []),(.str [])] [(0,14)]), oA 16 (.app 4 [(.str []),(.str []),(.str []),(.str [])] 64 T_api_Attr 7 15), mA 3 16] (kp [0,3]))
(.gsk (kp [0,3]))))
(.cut c_law16_attrs_R4))
def c_law16_attrs : VCode := (.seq (.reg 0 [oA 2 (.mv (.c .nils))] (kp [0]))
(.seq (.reg 0 [oA 3 (.mv (.c .nils))] (kp [0,3]))
(.cut c_law16_attrs_R2)))
def r_law16_attrs : List VRes := [.tmp 2]
theorem k_law16_attrs : Fits Tryz.prog F_law16_attrs c_law16_attrs r_law16_attrs := .of Tryz.func31 (by kernel_rfl)
end Go.Proofs.YtpcbnpekdmobpaaGreatDoor
set_option maxRecDepth 100000
set_option linter.unusedVariables false
open Go Go.Ev Go.VL
namespace Go.Proofs.YtpcbnpekdmobpaaGreatDoor
def c_ref15_May_L1 : VCode := (.seq (.seq (.reg 1 [mA 84 3, oA 85 (.nilck 84), oA 86 (.off 85 0), oA 87 (.load 86 false 1), oA 88 (.lenL 87), oA 89 (.off 6 1), oA 90 (.load 89 false 1), oA 91 (.bin .geq 88 90)] (kp [0,3,4,5,6,91]))
(.cond 91
(.gsk (kp [0,3,4,5,6]))
(.exit 2)))
(.block 3
(.reg 0 [mA 92 3, oA 93 (.call F_ref10_Scope_Pop [92])] (kp [0,3,4,5,6]))))
def c_ref15_May_R11 : VCode := (.seq (.block 2
(.loop c_ref15_May_L1))
(.seq (.seq (.reg 0 [oA 94 (.off 6 0), oA 95 (.load 94 false 1), oA 96 (.bin .eql 95 (cI 2))] (kp [0,3,4,5,6,96]))
(.cond 96
(.seq (.seq (.reg 0 [mA 97 3, oA 98 (.load 6 true 7), oA 99 (.call F_ref15_element [97,98]), oA 100 (.un .not 99)] (kp [0,3,4,5,6,100]))
(.cond 100
(.seq (.reg 0 [oA 2 (.mv (cB false))] (kp [2]))
.ret)
(.gsk (kp [0,3,4,5,6]))))
(.seq (.seq (.reg 0 [oA 101 (.off 6 1), oA 102 (.load 101 false 1), oA 103 (.bin .eql 102 (cI 1))] (kp [0,3,4,5,103]))
(.cond 103
(.reg 0 [mA 104 4, oA 105 (.bin .add 104 (cI 1)), mA 4 105] (kp [0,3,4,5]))
(.gsk (kp [0,3,4,5]))))
(.exit 1)))
(.gsk (kp [0,3,4,5,6]))))
(.seq (.reg 1 [oA 106 (.load 6 true 7), oA 107 (.call F_ref15_plain [106]), oA 108 (.un .not 107), mA 109 108, oF 109 110 (.off 6 0), oF 109 111 (.load 110 false 1), oF 109 112 (.bin .eql 111 (cI 3)), oF 109 113 (.mv 112), oT 113 114 (.off 6 1), oT 113 115 (.load 114 false 1), oT 113 116 (.bin .eql 115 (cI 1)), oT 113 117 (.mv 116), oF 117 118 (.mv 0), oF 117 119 (.mv 5), oF 117 120 (.bin .sub 119 (cI 1)), oF 117 121 (.idx 7 118 120), oF 117 122 (.off 121 0), oF 117 123 (.load 122 false 1), oF 117 124 (.bin .eql 123 (cI 3)), oF 117 125 (.mv 124), oT 125 126 (.mv 0), oT 125 127 (.mv 5), oT 125 128 (.bin .sub 127 (cI 1)), oT 125 129 (.idx 7 126 128), oT 125 130 (.off 129 1), oT 125 131 (.load 130 false 1), oT 125 132 (.off 6 1), oT 125 133 (.load 132 false 1), oT 125 134 (.bin .eql 131 133), oF 117 135 (.pick 125 134 (cB false)), oT 113 136 (.pick 117 (cB true) 135), oF 109 137 (.pick 113 136 (cB false)), oA 138 (.pick 109 (cB true) 137)] (kp [0,3,4,5,138]))
(.cond 138
(.seq (.reg 0 [oA 2 (.mv (cB false))] (kp [2]))
.ret)
(.gsk (kp [0,3,4,5]))))))
def c_ref15_May_L0 : VCode := (.seq (.seq (.reg 0 [mA 25 5, mA 26 0, oA 27 (.lenL 26), oA 28 (.bin .lss 25 27)] (kp [0,3,4,5,28]))
(.cond 28
(.gsk (kp [0,3,4,5]))
(.exit 0)))
(.seq (.block 1
(.seq (.reg 0 [mA 31 0, mA 32 5, oA 33 (.idx 7 31 32), oA 34 (.load 33 true 7), oA 6 (.allocL [(.int .i64 0),(.int .i64 0),(.str []),(.str []),(.str []),(.str []),.nils]), oN (.store 6 34 7)] (kp [0,3,4,5,6]))
(.seq (.seq (.reg 1 [oA 35 (.off 6 1), oA 36 (.load 35 false 1), oA 37 (.bin .lss 36 (cI 1)), mA 38 37, oF 38 39 (.off 6 1), oF 38 40 (.load 39 false 1), oF 38 41 (.bin .gtr 40 (cI 201)), oA 42 (.pick 38 (cB true) 41), mA 43 42, oF 43 44 (.off 6 1), oF 43 45 (.load 44 false 1), oF 43 46 (.mv 0), oF 43 47 (.mv 5), oF 43 48 (.bin .sub 47 (cI 1)), oF 43 49 (.idx 7 46 48), oF 43 50 (.off 49 1), oF 43 51 (.load 50 false 1), oF 43 52 (.bin .add 51 (cI 1)), oF 43 53 (.bin .gtr 45 52), oA 54 (.pick 43 (cB true) 53), mA 55 54, oF 55 56 (.off 6 1), oF 55 57 (.load 56 false 1), oF 55 58 (.mv 0), oF 55 59 (.mv 5), oF 55 60 (.bin .sub 59 (cI 1)), oF 55 61 (.idx 7 58 60), oF 55 62 (.off 61 1), oF 55 63 (.load 62 false 1), oF 55 64 (.bin .gtr 57 63), oF 55 65 (.mv 64), oT 65 66 (.mv 0), oT 65 67 (.mv 5), oT 65 68 (.bin .sub 67 (cI 1)), oT 65 69 (.idx 7 66 68), oT 65 70 (.off 69 0), oT 65 71 (.load 70 false 1), oT 65 72 (.bin .neq 71 (cI 1)), oF 55 73 (.pick 65 72 (cB false)), oF 55 74 (.mv 73), oT 74 75 (.mv 0), oT 74 76 (.mv 5), oT 74 77 (.bin .sub 76 (cI 1)), oT 74 78 (.idx 7 75 77), oT 74 79 (.off 78 0), oT 74 80 (.load 79 false 1), oT 74 81 (.bin .neq 80 (cI 2)), oF 55 82 (.pick 74 81 (cB false)), oA 83 (.pick 55 (cB true) 82)] (kp [0,3,4,5,6,83]))
(.cond 83
(.seq (.reg 0 [oA 2 (.mv (cB false))] (kp [2]))
.ret)
(.gsk (kp [0,3,4,5,6]))))
(.cut c_ref15_May_R11))))
(.reg 0 [mA 29 5, oA 30 (.bin .add 29 (cI 1)), mA 5 30] (kp [0,3,4,5]))))
def c_ref15_May : VCode := (.seq (.reg 0 [oA 2 (.mv (cB false))] (kp [0]))
(.seq (.seq (.reg 0 [mA 7 0, oA 8 (.lenL 7), oA 9 (.bin .lss 8 (cI 1)), mA 10 9, oF 10 11 (.mv 0), oF 10 12 (.lenL 11), oF 10 13 (.bin .gtr 12 (cI 1048576)), oA 14 (.pick 10 (cB true) 13), mA 15 14, oF 15 16 (.mv 0), oF 15 17 (.idx 7 16 (cI 0)), oF 15 18 (.load 17 true 7), oF 15 19 (.build [(.int .i64 0),(.int .i64 0),(.str []),(.str []),(.str []),(.str []),.nils] [(0,1,(cI 1))]), oF 15 20 (.call F_ref15_SameNode [18,19]), oF 15 21 (.un .not 20), oA 22 (.pick 15 (cB true) 21)] (kp [0,22]))
(.cond 22
(.seq (.reg 0 [oA 2 (.mv (cB false))] (kp [2]))
.ret)
(.gsk (kp [0]))))
(.seq (.reg 0 [oA 23 (.build [.nils] []), ⟨some 24,.boxH 23 T_ref10_Scope,none,[.fza 23 0 1],.n []⟩, mA 3 24] (kp [0,3]))
(.seq (.reg 0 [oA 4 (.mv (cI 0))] (kp [0,3,4]))
(.seq (.seq (.reg 0 [oA 5 (.mv (cI 1))] (kp [0,3,4,5]))
(.block 0
(.loop c_ref15_May_L0)))
(.seq (.reg 0 [mA 139 4, oA 140 (.bin .eql 139 (cI 1)), mA 2 140] (kp [2]))
.ret))))))
def r_ref15_May : List VRes := [.tmp 2]
theorem k_ref15_May : Fits Tryz.prog F_ref15_May c_ref15_May r_ref15_May := .of Tryz.func13 (by kernel_rfl)
def c_ref10_SameAttrs_L0 : VCode := (.seq (.seq (.reg 0 [mA 11 5, mA 12 0, oA 13 (.lenL 12), oA 14 (.bin .lss 11 13)] (kp [0,1,5,14]))
(.cond 14
(.gsk (kp [0,1,5]))
(.exit 0)))
(.seq (.block 1
(.seq (.reg 1 [mA 17 0, mA 18 5, oA 19 (.idx 4 17 18), oA 20 (.load 19 true 4), mA 21 1, mA 22 5, oA 23 (.idx 4 21 22), oA 24 (.load 23 true 4), oA 25 (.eq (EK.t 4) .neq 20 24)] (kp [0,1,5,25]))
(.cond 25
(.seq (.reg 0 [oA 4 (.mv (cB false))] (kp [4]))
.ret)
(.gsk (kp [0,1,5])))))
(.reg 0 [mA 15 5, oA 16 (.bin .add 15 (cI 1)), mA 5 16] (kp [0,1,5]))))
def c_ref10_SameAttrs : VCode := (.seq (.reg 0 [oA 4 (.mv (cB false))] (kp [0,1]))
(.seq (.seq (.reg 0 [mA 6 0, oA 7 (.lenL 6), mA 8 1, oA 9 (.lenL 8), oA 10 (.bin .neq 7 9)] (kp [0,1,10]))
(.cond 10
(.seq (.reg 0 [oA 4 (.mv (cB false))] (kp [4]))
.ret)
(.gsk (kp [0,1]))))
(.seq (.seq (.reg 0 [oA 5 (.mv (cI 0))] (kp [0,1,5]))
(.block 0
(.loop c_ref10_SameAttrs_L0)))
(.seq (.reg 0 [oA 4 (.mv (cB true))] (kp [4]))
.ret))))
def r_ref10_SameAttrs : List VRes := [.tmp 4]
theorem k_ref10_SameAttrs : Fits Tryz.prog F_ref10_SameAttrs c_ref10_SameAttrs r_ref10_SameAttrs := .of Tryz.func23 (by kernel_rfl)
def c_ref10_Scope_Pop : VCode := (.seq (.reg 0 [oA 2 (.mv (cB false))] (kp [0]))
(.seq (.seq (.reg 0 [mA 3 0, oA 4 (.nilck 3), oA 5 (.off 4 0), oA 6 (.load 5 false 1), oA 7 (.lenL 6), oA 8 (.bin .eql 7 (cI 0))] (kp [0,8]))
(.cond 8
(.seq (.reg 0 [oA 2 (.mv (cB false))] (kp [2]))
.ret)
(.gsk (kp [0]))))
(.seq (.reg 1 [mA 9 0, mA 10 0, oA 11 (.nilck 10), oA 12 (.off 11 0), oA 13 (.load 12 false 1), mA 14 0, oA 15 (.nilck 14), oA 16 (.off 15 0), oA 17 (.load 16 false 1), oA 18 (.lenL 17), oA 19 (.bin .sub 18 (cI 1)), oA 20 (.cutL 1 13 none (some 19) none), oA 21 (.nilck 9), oA 22 (.off 21 0), oN (.store 22 20 1)] (kp []))
(.seq (.reg 0 [oA 2 (.mv (cB true))] (kp [2]))
.ret))))
def r_ref10_Scope_Pop : List VRes := [.tmp 2]
theorem k_ref10_Scope_Pop : Fits Tryz.prog F_ref10_Scope_Pop c_ref10_Scope_Pop r_ref10_Scope_Pop := .of Tryz.func30 (by kernel_rfl)
def c_ref10_Scope_Push_L1 : VCode := (.seq (.seq (.reg 0 [mA 80 11, mA 81 5, oA 82 (.lenL 81), oA 83 (.bin .lss 80 82)] (kp [0,1,5,6,11,83]))
(.cond 83
(.gsk (kp [0,1,5,6,11]))
(.exit 2)))
(.seq (.block 3
(.seq (.reg 1 [mA 86 5, mA 87 11, oA 88 (.idx 4 86 87), oA 89 (.off 88 0), oA 90 (.load 89 false 1), mA 91 1, mA 92 6, oA 93 (.idx 4 91 92), oA 94 (.off 93 0), oA 95 (.load 94 false 1), oA 96 (.bin .eql 90 95), mA 97 96, oT 97 98 (.mv 5), oT 97 99 (.mv 11), oT 97 100 (.idx 4 98 99), oT 97 101 (.off 100 1), oT 97 102 (.load 101 false 1), oT 97 103 (.mv 1), oT 97 104 (.mv 6), oT 97 105 (.idx 4 103 104), oT 97 106 (.off 105 1), oT 97 107 (.load 106 false 1), oT 97 108 (.bin .eql 102 107), oA 109 (.pick 97 108 (cB false))] (kp [0,1,5,6,11,109]))
(.cond 109
(.seq (.reg 0 [oA 4 (.mv (cI 2))] (kp [4]))
.ret)
(.gsk (kp [0,1,5,6,11])))))
(.reg 0 [mA 84 11, oA 85 (.bin .add 84 (cI 1)), mA 11 85] (kp [0,1,5,6,11]))))
def c_ref10_Scope_Push_R11 : VCode := (.seq (.seq (.reg 0 [oA 11 (.mv (cI 0))] (kp [0,1,5,6,11]))
(.block 2
(.loop c_ref10_Scope_Push_L1)))
(.reg 0 [mA 110 5, mA 111 1, mA 112 6, oA 113 (.idx 4 111 112), oA 114 (.load 113 true 4), oA 115 (.buildF 4 1 [(.str []),(.str []),(.str []),(.str [])] [(0,114)]), oA 116 (.app 4 [(.str []),(.str []),(.str []),(.str [])] 64 T_api_Attr 110 115), mA 5 116] (kp [0,1,5,6])))
def c_ref10_Scope_Push_L0 : VCode := (.seq (.seq (.reg 0 [mA 12 6, mA 13 1, oA 14 (.lenL 13), oA 15 (.bin .lss 12 14)] (kp [0,1,5,6,15]))
(.cond 15
(.gsk (kp [0,1,5,6]))
(.exit 0)))
(.seq (.block 1
(.seq (.reg 0 [mA 19 1, mA 20 6, oA 21 (.idx 4 19 20), oA 22 (.load 21 true 4), oA 23 (.call F_ref10_Declares [22]), mA 18 23, oA 24 (.ext 18 0), oA 25 (.ext 18 1), mA 7 24, mA 8 25] (kp [0,1,5,6,7,8]))
(.seq (.seq (.reg 0 [mA 26 8, oA 27 (.un .not 26)] (kp [0,1,5,6,7,27]))
(.cond 27
(.exit 1)
(.gsk (kp [0,1,5,6,7]))))
(.seq (.reg 0 [mA 28 1, mA 29 6, oA 30 (.idx 4 28 29), oA 31 (.off 30 3), oA 32 (.load 31 false 1), mA 9 32] (kp [0,1,5,6,7,9]))
(.seq (.reg 0 [mA 33 1, mA 34 6, oA 35 (.idx 4 33 34), oA 36 (.off 35 0), oA 37 (.load 36 false 1), oA 38 (.bin .eql 37 (.c (.str []))), mA 10 38] (kp [0,1,5,6,7,9,10]))
(.seq (.seq (.reg 0 [mA 39 7, oA 40 (.bin .eql 39 (.c (.str S_xmlns))), mA 41 40, oT 41 42 (.mv 10), oT 41 43 (.un .not 42), oA 44 (.pick 41 43 (cB false)), mA 45 44, oF 45 46 (.mv 7), oF 45 47 (.bin .eql 46 (.c (.str S_xml))), oF 45 48 (.mv 47), oT 48 49 (.mv 10), oT 48 50 (.un .not 49), oF 45 51 (.pick 48 50 (cB false)), oF 45 52 (.mv 51), oT 52 53 (.mv 9), oT 52 54 (.bin .neq 53 (.c (.str Shttp_58__47__47_www_46_w3_46__36_910846))), oF 45 55 (.pick 52 54 (cB false)), oA 56 (.pick 45 (cB true) 55), mA 57 56, oF 57 58 (.mv 7), oF 57 59 (.bin .neq 58 (.c (.str S_xml))), oF 57 60 (.mv 59), oF 60 61 (.mv 10), oF 57 62 (.pick 60 (cB true) 61), oF 57 63 (.mv 62), oT 63 64 (.mv 9), oT 63 65 (.bin .eql 64 (.c (.str Shttp_58__47__47_www_46_w3_46__36_910846))), oF 57 66 (.pick 63 65 (cB false)), oA 67 (.pick 57 (cB true) 66), mA 68 67, oF 68 69 (.mv 9), oF 68 70 (.bin .eql 69 (.c (.str Shttp_58__47__47_www_46_w3_46__29_391792))), oA 71 (.pick 68 (cB true) 70), mA 72 71, oF 72 73 (.mv 10), oF 72 74 (.un .not 73), oF 72 75 (.mv 74), oT 75 76 (.mv 9), oT 75 77 (.bin .eql 76 (.c (.str []))), oF 72 78 (.pick 75 77 (cB false)), oA 79 (.pick 72 (cB true) 78)] (kp [0,1,5,6,79]))
(.cond 79
(.seq (.reg 0 [oA 4 (.mv (cI 2))] (kp [4]))
.ret)
(.gsk (kp [0,1,5,6]))))
(.cut c_ref10_Scope_Push_R11)))))))
(.reg 0 [mA 16 6, oA 17 (.bin .add 16 (cI 1)), mA 6 17] (kp [0,1,5,6]))))
def c_ref10_Scope_Push_R17 : VCode := (.seq (.reg 0 [mA 117 0, ⟨some 118,.buildF 1 0 [.nils] [],none,[.fzs 5 4],.n []⟩, mA 119 0, oA 120 (.nilck 119), oA 121 (.off 120 0), oA 122 (.load 121 false 1), oA 123 (.app 1 [.nils] 24 T_Lapi_Attr 118 122), mA 124 5, oA 125 (.buildF 1 1 [.nils] [(0,124)]), oA 126 (.app 1 [.nils] 24 T_Lapi_Attr 123 125), ⟨some 127,.nilck 117,none,[.fzs 126 1],.n []⟩, oA 128 (.off 127 0), oN (.store 128 126 1)] (kp []))
(.seq (.reg 0 [oA 4 (.mv (cI 0))] (kp [4]))
.ret))
def c_ref10_Scope_Push : VCode := (.seq (.reg 0 [oA 4 (.mv (cI 0))] (kp [0,1]))
(.seq (.reg 0 [oA 5 (.mv (.c .nils))] (kp [0,1,5]))
(.seq (.seq (.reg 0 [oA 6 (.mv (cI 0))] (kp [0,1,5,6]))
(.block 0
(.loop c_ref10_Scope_Push_L0)))
(.cut c_ref10_Scope_Push_R17))))
def r_ref10_Scope_Push : List VRes := [.tmp 4]
theorem k_ref10_Scope_Push : Fits Tryz.prog F_ref10_Scope_Push c_ref10_Scope_Push r_ref10_Scope_Push := .of Tryz.func32 (by kernel_rfl)
def c_ref15_Names_L0 : VCode := (.seq (.seq (.reg 0 [mA 30 6, mA 31 1, oA 32 (.nilck 31), oA 33 (.off 32 6), oA 34 (.load 33 false 1), oA 35 (.lenL 34), oA 36 (.bin .lss 30 35)] (kp [0,1,6,36]))
(.cond 36
(.gsk (kp [0,1,6]))
(.exit 0)))
(.seq (.block 1
(.seq (.seq (.reg 0 [mA 39 1, oA 40 (.nilck 39), oA 41 (.off 40 6), oA 42 (.load 41 false 1), mA 43 6, oA 44 (.idx 4 42 43), oA 45 (.off 44 2), oA 46 (.load 45 false 1), oA 47 (.bin .eql 46 (.c (.str Shttp_58__47__47_www_46_w3_46__29_391792)))] (kp [0,1,6,47]))
(.cond 47
(.exit 1)
(.gsk (kp [0,1,6]))))
(.seq (.reg 0 [mA 48 1, oA 49 (.nilck 48), oA 50 (.off 49 6), oA 51 (.load 50 false 1), mA 52 6, oA 53 (.idx 4 51 52), oA 54 (.off 53 2), oN (.store 54 (.c (.str [])) 1)] (kp [0,1,6]))
(.seq (.seq (.reg 0 [mA 55 1, oA 56 (.nilck 55), oA 57 (.off 56 6), oA 58 (.load 57 false 1), mA 59 6, oA 60 (.idx 4 58 59), oA 61 (.off 60 0), oA 62 (.load 61 false 1), oA 63 (.bin .eql 62 (.c (.str [])))] (kp [0,1,6,63]))
(.cond 63
(.exit 1)
(.gsk (kp [0,1,6]))))
(.seq (.reg 2 [⟨some 65,.mv 1,none,[],.e⟩, ⟨some 66,.nilck 65,none,[],.e⟩, ⟨some 67,.off 66 6,none,[],.e⟩, ⟨some 68,.load 67 false 1,none,[],.e⟩, mA 69 6, mA 70 0, mA 71 1, oA 72 (.nilck 71), oA 73 (.off 72 6), oA 74 (.load 73 false 1), mA 75 6, oA 76 (.idx 4 74 75), oA 77 (.off 76 0), oA 78 (.load 77 false 1), ⟨some 79,.call F_ref10_Scope_URI [70,78],none,[],.n [3]⟩, mA 64 79, oA 80 (.ext 64 0), oA 81 (.ext 64 1), oA 82 (.idx 4 68 69), oA 83 (.off 82 2), oN (.store 83 80 1), mA 5 81] (kp [0,1,5,6]))
(.seq (.reg 0 [mA 84 5, oA 85 (.un .not 84)] (kp [0,1,6,85]))
(.cond 85
(.seq (.reg 0 [oA 4 (.mv (cB false))] (kp [4]))
.ret)
(.gsk (kp [0,1,6])))))))))
(.reg 0 [mA 37 6, oA 38 (.bin .add 37 (cI 1)), mA 6 38] (kp [0,1,6]))))
def c_ref15_Names_L2 : VCode := (.seq (.seq (.reg 0 [mA 95 8, mA 96 7, oA 97 (.bin .lss 95 96)] (kp [1,7,8,97]))
(.cond 97
(.gsk (kp [1,7,8]))
(.exit 4)))
(.seq (.block 5
(.seq (.reg 1 [mA 100 1, oA 101 (.nilck 100), oA 102 (.off 101 6), oA 103 (.load 102 false 1), mA 104 8, oA 105 (.idx 4 103 104), oA 106 (.off 105 2), oA 107 (.load 106 false 1), mA 108 1, oA 109 (.nilck 108), oA 110 (.off 109 6), oA 111 (.load 110 false 1), mA 112 7, oA 113 (.idx 4 111 112), oA 114 (.off 113 2), oA 115 (.load 114 false 1), oA 116 (.bin .eql 107 115), mA 117 116, oT 117 118 (.mv 1), oT 117 119 (.nilck 118), oT 117 120 (.off 119 6), oT 117 121 (.load 120 false 1), oT 117 122 (.mv 8), oT 117 123 (.idx 4 121 122), oT 117 124 (.off 123 1), oT 117 125 (.load 124 false 1), oT 117 126 (.mv 1), oT 117 127 (.nilck 126), oT 117 128 (.off 127 6), oT 117 129 (.load 128 false 1), oT 117 130 (.mv 7), oT 117 131 (.idx 4 129 130), oT 117 132 (.off 131 1), oT 117 133 (.load 132 false 1), oT 117 134 (.bin .eql 125 133), oA 135 (.pick 117 134 (cB false))] (kp [1,7,8,135]))
(.cond 135
(.seq (.reg 0 [oA 4 (.mv (cB false))] (kp [4]))
.ret)
(.gsk (kp [1,7,8])))))
(.reg 0 [mA 98 8, oA 99 (.bin .add 98 (cI 1)), mA 8 99] (kp [1,7,8]))))
def c_ref15_Names_L1 : VCode := (.seq (.seq (.reg 0 [mA 86 7, mA 87 1, oA 88 (.nilck 87), oA 89 (.off 88 6), oA 90 (.load 89 false 1), oA 91 (.lenL 90), oA 92 (.bin .lss 86 91)] (kp [1,7,92]))
(.cond 92
(.gsk (kp [1,7]))
(.exit 2)))
(.seq (.block 3
(.seq (.reg 0 [oA 8 (.mv (cI 0))] (kp [1,7,8]))
(.block 4
(.loop c_ref15_Names_L2))))
(.reg 0 [mA 93 7, oA 94 (.bin .add 93 (cI 1)), mA 7 94] (kp [1,7]))))
def c_ref15_Names : VCode := (.seq (.reg 0 [oA 4 (.mv (cB false))] (kp [0,1]))
(.seq (.reg 0 [oA 5 (.mv (cB false))] (kp [0,1]))
(.seq (.reg 0 [mA 10 1, mA 11 0, mA 12 1, oA 13 (.nilck 12), oA 14 (.off 13 2), oA 15 (.load 14 false 1), oA 16 (.call F_ref10_Scope_URI [11,15]), mA 9 16, oA 17 (.ext 9 0), oA 18 (.ext 9 1), oA 19 (.nilck 10), oA 20 (.off 19 4), oN (.store 20 17 1), mA 5 18] (kp [0,1,5]))
(.seq (.seq (.reg 0 [mA 21 5, oA 22 (.un .not 21), mA 23 22, oF 23 24 (.mv 1), oF 23 25 (.nilck 24), oF 23 26 (.off 25 2), oF 23 27 (.load 26 false 1), oF 23 28 (.bin .eql 27 (.c (.str S_xmlns))), oA 29 (.pick 23 (cB true) 28)] (kp [0,1,29]))
(.cond 29
(.seq (.reg 0 [oA 4 (.mv (cB false))] (kp [4]))
.ret)
(.gsk (kp [0,1]))))
(.seq (.seq (.reg 0 [oA 6 (.mv (cI 0))] (kp [0,1,6]))
(.block 0
(.loop c_ref15_Names_L0)))
(.seq (.seq (.reg 0 [oA 7 (.mv (cI 0))] (kp [1,7]))
(.block 2
(.loop c_ref15_Names_L1)))
(.seq (.reg 0 [oA 4 (.mv (cB true))] (kp [4]))
.ret)))))))
def r_ref15_Names : List VRes := [.tmp 4]
theorem k_ref15_Names : Fits Tryz.prog F_ref15_Names c_ref15_Names r_ref15_Names := .of Tryz.func33 (by kernel_rfl)
def c_ref15_SameNode : VCode := (.seq (.reg 0 [oA 2 (.boxL 0), oA 3 (.boxL 1), oA 4 (.mv (cB false))] (kp [2,3]))
(.seq (.reg 0 [oA 5 (.off 2 0), oA 6 (.load 5 false 1), oA 7 (.off 3 0), oA 8 (.load 7 false 1), oA 9 (.bin .eql 6 8), mA 10 9, oT 10 11 (.off 2 1), oT 10 12 (.load 11 false 1), oT 10 13 (.off 3 1), oT 10 14 (.load 13 false 1), oT 10 15 (.bin .eql 12 14), oA 16 (.pick 10 15 (cB false)), mA 17 16, oT 17 18 (.off 2 2), oT 17 19 (.load 18 false 1), oT 17 20 (.off 3 2), oT 17 21 (.load 20 false 1), oT 17 22 (.bin .eql 19 21), oA 23 (.pick 17 22 (cB false)), mA 24 23, oT 24 25 (.off 2 3), oT 24 26 (.load 25 false 1), oT 24 27 (.off 3 3), oT 24 28 (.load 27 false 1), oT 24 29 (.bin .eql 26 28), oA 30 (.pick 24 29 (cB false)), mA 31 30, oT 31 32 (.off 2 4), oT 31 33 (.load 32 false 1), oT 31 34 (.off 3 4), oT 31 35 (.load 34 false 1), oT 31 36 (.bin .eql 33 35), oA 37 (.pick 31 36 (cB false)), mA 38 37, oT 38 39 (.off 2 5), oT 38 40 (.load 39 false 1), oT 38 41 (.off 3 5), oT 38 42 (.load 41 false 1), oT 38 43 (.bin .eql 40 42), oA 44 (.pick 38 43 (cB false)), mA 45 44, oT 45 46 (.off 2 6), oT 45 47 (.load 46 false 1), oT 45 48 (.off 3 6), oT 45 49 (.load 48 false 1), oT 45 50 (.call F_ref10_SameAttrs [47,49]), oA 51 (.pick 45 50 (cB false)), mA 4 51] (kp [4]))
.ret))
def r_ref15_SameNode : List VRes := [.tmp 4]
theorem k_ref15_SameNode : Fits Tryz.prog F_ref15_SameNode c_ref15_SameNode r_ref15_SameNode := .of Tryz.func39 (by kernel_rfl)
def c_ref15_element_L1 : VCode := (.seq (.seq (.reg 0 [mA 50 8, mA 51 6, oA 52 (.bin .lss 50 51)] (kp [0,3,5,6,7,8,52]))
(.cond 52
(.gsk (kp [0,3,5,6,7,8]))
(.exit 2)))
(.seq (.block 3
(.seq (.reg 1 [oA 55 (.off 5 6), oA 56 (.load 55 false 1), mA 57 8, oA 58 (.idx 4 56 57), oA 59 (.off 58 0), oA 60 (.load 59 false 1), oA 61 (.off 7 0), oA 62 (.load 61 false 1), oA 63 (.bin .eql 60 62), mA 64 63, oT 64 65 (.off 5 6), oT 64 66 (.load 65 false 1), oT 64 67 (.mv 8), oT 64 68 (.idx 4 66 67), oT 64 69 (.off 68 1), oT 64 70 (.load 69 false 1), oT 64 71 (.off 7 1), oT 64 72 (.load 71 false 1), oT 64 73 (.bin .eql 70 72), oA 74 (.pick 64 73 (cB false))] (kp [0,3,5,6,7,8,74]))
(.cond 74
(.seq (.reg 0 [oA 4 (.mv (cB false))] (kp [4]))
.ret)
(.gsk (kp [0,3,5,6,7,8])))))
(.reg 0 [mA 53 8, oA 54 (.bin .add 53 (cI 1)), mA 8 54] (kp [0,3,5,6,7,8]))))
def c_ref15_element_L0 : VCode := (.seq (.seq (.reg 0 [mA 26 6, oA 27 (.off 5 6), oA 28 (.load 27 false 1), oA 29 (.lenL 28), oA 30 (.bin .lss 26 29)] (kp [0,3,5,6,30]))
(.cond 30
(.gsk (kp [0,3,5,6]))
(.exit 0)))
(.seq (.block 1
(.seq (.reg 0 [oA 33 (.off 5 6), oA 34 (.load 33 false 1), mA 35 6, oA 36 (.idx 4 34 35), oA 37 (.load 36 true 4), oA 7 (.allocL [(.str []),(.str []),(.str []),(.str [])]), oN (.store 7 37 4)] (kp [0,3,5,6,7]))
(.seq (.seq (.reg 0 [oA 38 (.off 7 0), oA 39 (.load 38 false 1), oA 40 (.off 7 1), oA 41 (.load 40 false 1), oA 42 (.call F_ref15_named [39,41]), oA 43 (.un .not 42), mA 44 43, oF 44 45 (.off 7 3), oF 44 46 (.load 45 false 1), oF 44 47 (.call F_ref1_Valid [46]), oF 44 48 (.un .not 47), oA 49 (.pick 44 (cB true) 48)] (kp [0,3,5,6,7,49]))
(.cond 49
(.seq (.reg 0 [oA 4 (.mv (cB false))] (kp [4]))
.ret)
(.gsk (kp [0,3,5,6,7]))))
(.seq (.seq (.reg 0 [oA 8 (.mv (cI 0))] (kp [0,3,5,6,7,8]))
(.block 2
(.loop c_ref15_element_L1)))
(.seq (.reg 0 [oA 75 (.off 5 6), oA 76 (.load 75 false 1), mA 77 6, oA 78 (.idx 4 76 77), oA 79 (.off 78 2), oN (.store 79 (.c (.str [])) 1)] (kp [0,3,5,6,7]))
(.seq (.reg 0 [oA 80 (.off 7 0), oA 81 (.load 80 false 1), oA 82 (.bin .eql 81 (.c (.str S_xmlns))), mA 83 82, oF 83 84 (.off 7 0), oF 83 85 (.load 84 false 1), oF 83 86 (.bin .eql 85 (.c (.str []))), oF 83 87 (.mv 86), oT 87 88 (.off 7 1), oT 87 89 (.load 88 false 1), oT 87 90 (.bin .eql 89 (.c (.str S_xmlns))), oF 83 91 (.pick 87 90 (cB false)), oA 92 (.pick 83 (cB true) 91)] (kp [0,3,5,6,92]))
(.cond 92
(.reg 0 [oA 93 (.off 5 6), oA 94 (.load 93 false 1), mA 95 6, oA 96 (.idx 4 94 95), oA 97 (.off 96 2), oN (.store 97 (.c (.str Shttp_58__47__47_www_46_w3_46__29_391792)) 1)] (kp [0,3,5,6]))
(.gsk (kp [0,3,5,6])))))))))
(.reg 0 [mA 31 6, oA 32 (.bin .add 31 (cI 1)), mA 6 32] (kp [0,3,5,6]))))
def c_ref15_element : VCode := (.seq (.reg 0 [oA 3 (.boxL 1), oA 4 (.mv (cB false))] (kp [0,3]))
(.seq (.seq (.reg 0 [oA 9 (.off 3 2), oA 10 (.load 9 false 1), oA 11 (.off 3 3), oA 12 (.load 11 false 1), oA 13 (.call F_ref15_named [10,12]), oA 14 (.un .not 13), mA 15 14, oF 15 16 (.off 3 5), oF 15 17 (.load 16 false 1), oF 15 18 (.bin .neq 17 (.c (.str []))), oA 19 (.pick 15 (cB true) 18)] (kp [0,3,19]))
(.cond 19
(.seq (.reg 0 [oA 4 (.mv (cB false))] (kp [4]))
.ret)
(.gsk (kp [0,3]))))
(.seq (.reg 0 [oA 20 (.load 3 true 7), oA 5 (.allocH [(.int .i64 0),(.int .i64 0),(.str []),(.str []),(.str []),(.str []),.nils] T_api_Node), oN (.store 5 20 7)] (kp [0,3,5]))
(.seq (.reg 0 [oA 21 (.buildF 4 0 [(.str []),(.str []),(.str []),(.str [])] []), oA 22 (.off 3 6), oA 23 (.load 22 false 1), oA 24 (.app 4 [(.str []),(.str []),(.str []),(.str [])] 64 T_api_Attr 21 23), oA 25 (.off 5 6), oN (.store 25 24 1)] (kp [0,3,5]))
(.seq (.seq (.reg 0 [oA 6 (.mv (cI 0))] (kp [0,3,5,6]))
(.block 0
(.loop c_ref15_element_L0)))
(.seq (.seq (.reg 0 [mA 98 0, oA 99 (.off 5 6), oA 100 (.load 99 false 1), oA 101 (.call F_ref10_Scope_Push [98,100]), oA 102 (.bin .neq 101 (cI 0))] (kp [0,3,5,102]))
(.cond 102
(.seq (.reg 0 [oA 4 (.mv (cB false))] (kp [4]))
.ret)
(.gsk (kp [0,3,5]))))
(.seq (.reg 0 [mA 103 0, oA 104 (.call F_ref15_Names [103,5]), mA 105 104, oT 105 106 (.off 5 4), oT 105 107 (.load 106 false 1), oT 105 108 (.off 3 4), oT 105 109 (.load 108 false 1), oT 105 110 (.bin .eql 107 109), oA 111 (.pick 105 110 (cB false)), mA 112 111, oT 112 113 (.off 5 6), oT 112 114 (.load 113 false 1), oT 112 115 (.off 3 6), oT 112 116 (.load 115 false 1), oT 112 117 (.call F_ref10_SameAttrs [114,116]), oA 118 (.pick 112 117 (cB false)), mA 4 118] (kp [4]))
.ret)))))))
def r_ref15_element : List VRes := [.tmp 4]
theorem k_ref15_element : Fits Tryz.prog F_ref15_element c_ref15_element r_ref15_element := .of Tryz.func40 (by kernel_rfl)
def c_ref15_plain : VCode := (.seq (.reg 0 [oA 1 (.boxL 0), oA 2 (.mv (cB false))] (kp [1]))
(.seq (.seq (.reg 0 [oA 3 (.off 1 2), oA 4 (.load 3 false 1), oA 5 (.bin .neq 4 (.c (.str []))), mA 6 5, oF 6 7 (.off 1 4), oF 6 8 (.load 7 false 1), oF 6 9 (.bin .neq 8 (.c (.str []))), oA 10 (.pick 6 (cB true) 9), mA 11 10, oF 11 12 (.off 1 6), oF 11 13 (.load 12 false 1), oF 11 14 (.lenL 13), oF 11 15 (.bin .gtr 14 (cI 0)), oA 16 (.pick 11 (cB true) 15), mA 17 16, oF 17 18 (.off 1 0), oF 17 19 (.load 18 false 1), oF 17 20 (.bin .neq 19 (cI 5)), oF 17 21 (.mv 20), oT 21 22 (.off 1 3), oT 21 23 (.load 22 false 1), oT 21 24 (.bin .neq 23 (.c (.str []))), oF 17 25 (.pick 21 24 (cB false)), oA 26 (.pick 17 (cB true) 25), mA 27 26, oF 27 28 (.off 1 5), oF 27 29 (.load 28 false 1), oF 27 30 (.call F_ref1_Valid [29]), oF 27 31 (.un .not 30), oA 32 (.pick 27 (cB true) 31)] (kp [1,32]))
(.cond 32
(.seq (.reg 0 [oA 2 (.mv (cB false))] (kp [2]))
.ret)
(.gsk (kp [1]))))
(.seq (.seq (.reg 0 [oA 33 (.off 1 0), oA 34 (.load 33 false 1)] (kp [1,34]))
(.block 0
(.seq (.reg 0 [oA 36 (.bin .eql 34 (cI 3)), mA 35 36] (kp [1,34,35]))
(.cond 35
(.seq (.reg 0 [oA 37 (.off 1 5), oA 38 (.load 37 false 1), oA 39 (.bin .neq 38 (.c (.str []))), mA 2 39] (kp [2]))
.ret)
(.seq (.reg 0 [oA 41 (.bin .eql 34 (cI 4)), mA 40 41] (kp [1,34,40]))
(.cond 40
(.seq (.reg 0 [oA 42 (.off 1 5), oA 43 (.load 42 false 1), oA 44 (.call F_ref15_holds [43,(.c (.str S_13_))]), oA 45 (.un .not 44), mA 46 45, oT 46 47 (.off 1 5), oT 46 48 (.load 47 false 1), oT 46 49 (.call F_ref15_holds [48,(.c (.str S_45__45_))]), oT 46 50 (.un .not 49), oA 51 (.pick 46 50 (cB false)), mA 52 51, oT 52 53 (.off 1 5), oT 52 54 (.load 53 false 1), oT 52 55 (.bin .eql 54 (.c (.str []))), oT 52 56 (.mv 55), oF 56 57 (.off 1 5), oF 56 58 (.load 57 false 1), oF 56 59 (.off 1 5), oF 56 60 (.load 59 false 1), oF 56 61 (.lenS 60), oF 56 62 (.bin .sub 61 (cI 1)), oF 56 63 (.at 58 62), oF 56 64 (.bin .neq 63 (.c (.int .u8 45))), oT 52 65 (.pick 56 (cB true) 64), oA 66 (.pick 52 65 (cB false)), mA 2 66] (kp [2]))
.ret)
(.seq (.reg 0 [oA 68 (.bin .eql 34 (cI 5)), mA 67 68] (kp [1,67]))
(.cond 67
(.seq (.reg 0 [oA 69 (.off 1 3), oA 70 (.load 69 false 1), oA 71 (.call F_ref10_Target [70]), mA 72 71, oT 72 73 (.off 1 5), oT 72 74 (.load 73 false 1), oT 72 75 (.call F_ref15_holds [74,(.c (.str S_13_))]), oT 72 76 (.un .not 75), oA 77 (.pick 72 76 (cB false)), mA 78 77, oT 78 79 (.off 1 5), oT 78 80 (.load 79 false 1), oT 78 81 (.call F_ref15_holds [80,(.c (.str S_63__62_))]), oT 78 82 (.un .not 81), oA 83 (.pick 78 82 (cB false)), mA 84 83, oT 84 85 (.off 1 5), oT 84 86 (.load 85 false 1), oT 84 87 (.bin .eql 86 (.c (.str []))), oT 84 88 (.mv 87), oF 88 89 (.off 1 5), oF 88 90 (.load 89 false 1), oF 88 91 (.at 90 (cI 0)), oF 88 92 (.cint .i32 91), oF 88 93 (.call F_ref1_Space [92]), oF 88 94 (.un .not 93), oT 84 95 (.pick 88 (cB true) 94), oA 96 (.pick 84 95 (cB false)), mA 2 96] (kp [2]))
.ret)
(.gsk (kp []))))))))))
(.seq (.reg 0 [oA 2 (.mv (cB false))] (kp [2]))
.ret))))
def r_ref15_plain : List VRes := [.tmp 2]
theorem k_ref15_plain : Fits Tryz.prog F_ref15_plain c_ref15_plain r_ref15_plain := .of Tryz.func41 (by kernel_rfl)
def c_ref10_Declares : VCode := (.seq (.reg 0 [oA 1 (.boxL 0), oA 2 (.mv (.c (.str []))), oA 3 (.mv (cB false))] (kp [1]))
(.seq (.block 0
(.seq (.reg 0 [oA 5 (.off 1 2), oA 6 (.load 5 false 1), oA 7 (.bin .neq 6 (.c (.str Shttp_58__47__47_www_46_w3_46__29_391792))), mA 4 7] (kp [1,4]))
(.cond 4
(.seq (.reg 0 [oA 2 (.mv (.c (.str []))), oA 3 (.mv (cB false))] (kp [2,3]))
.ret)
(.seq (.reg 0 [oA 9 (.off 1 0), oA 10 (.load 9 false 1), oA 11 (.bin .eql 10 (.c (.str S_xmlns))), mA 8 11] (kp [1,8]))
(.cond 8
(.seq (.reg 0 [oA 12 (.off 1 1), oA 13 (.load 12 false 1), mA 2 13, oA 3 (.mv (cB true))] (kp [2,3]))
.ret)
(.gsk (kp [1])))))))
(.seq (.reg 1 [oA 14 (.off 1 0), oA 15 (.load 14 false 1), oA 16 (.bin .eql 15 (.c (.str []))), mA 17 16, oT 17 18 (.off 1 1), oT 17 19 (.load 18 false 1), oT 17 20 (.bin .eql 19 (.c (.str S_xmlns))), oA 21 (.pick 17 20 (cB false)), oA 2 (.mv (.c (.str []))), mA 3 21] (kp [2,3]))
.ret)))
def r_ref10_Declares : List VRes := [.tmp 2,.tmp 3]
theorem k_ref10_Declares : Fits Tryz.prog F_ref10_Declares c_ref10_Declares r_ref10_Declares := .of Tryz.func54 (by kernel_rfl)
def c_ref10_Scope_URI_L1 : VCode := (.seq (.seq (.reg 0 [mA 22 7, mA 23 0, oA 24 (.nilck 23), oA 25 (.off 24 0), oA 26 (.load 25 false 1), mA 27 6, oA 28 (.idx 1 26 27), oA 29 (.load 28 false 1), oA 30 (.lenL 29), oA 31 (.bin .lss 22 30)] (kp [0,1,6,7,31]))
(.cond 31
(.gsk (kp [0,1,6,7]))
(.exit 2)))
(.seq (.block 3
(.seq (.reg 0 [mA 35 0, oA 36 (.nilck 35), oA 37 (.off 36 0), oA 38 (.load 37 false 1), mA 39 6, oA 40 (.idx 1 38 39), oA 41 (.load 40 false 1), mA 42 7, oA 43 (.idx 4 41 42), oA 44 (.load 43 true 4), oA 45 (.call F_ref10_Declares [44]), mA 34 45, oA 46 (.ext 34 0), oA 47 (.ext 34 1), mA 8 46, mA 9 47] (kp [0,1,6,7,8]))
(.seq (.reg 0 [mA 48 8, mA 49 1, oA 50 (.bin .eql 48 49)] (kp [0,1,6,7,50]))
(.cond 50
(.seq (.reg 0 [mA 51 0, oA 52 (.nilck 51), oA 53 (.off 52 0), oA 54 (.load 53 false 1), mA 55 6, oA 56 (.idx 1 54 55), oA 57 (.load 56 false 1), mA 58 7, oA 59 (.idx 4 57 58), oA 60 (.off 59 3), oA 61 (.load 60 false 1), mA 4 61, oA 5 (.mv (cB true))] (kp [4,5]))
.ret)
(.gsk (kp [0,1,6,7]))))))
(.reg 0 [mA 32 7, oA 33 (.bin .add 32 (cI 1)), mA 7 33] (kp [0,1,6,7]))))
def c_ref10_Scope_URI_L0 : VCode := (.seq (.seq (.reg 0 [mA 18 6, oA 19 (.bin .geq 18 (cI 0))] (kp [0,1,6,19]))
(.cond 19
(.gsk (kp [0,1,6]))
(.exit 0)))
(.seq (.block 1
(.seq (.reg 0 [oA 7 (.mv (cI 0))] (kp [0,1,6,7]))
(.block 2
(.loop c_ref10_Scope_URI_L1))))
(.reg 0 [mA 20 6, oA 21 (.bin .sub 20 (cI 1)), mA 6 21] (kp [0,1,6]))))
def c_ref10_Scope_URI : VCode := (.seq (.reg 0 [oA 4 (.mv (.c (.str []))), oA 5 (.mv (cB false))] (kp [0,1]))
(.seq (.seq (.reg 0 [mA 10 1, oA 11 (.bin .eql 10 (.c (.str S_xml)))] (kp [0,1,11]))
(.cond 11
(.seq (.reg 0 [oA 4 (.mv (.c (.str Shttp_58__47__47_www_46_w3_46__36_910846))), oA 5 (.mv (cB true))] (kp [4,5]))
.ret)
(.gsk (kp [0,1]))))
(.seq (.seq (.reg 0 [mA 12 0, oA 13 (.nilck 12), oA 14 (.off 13 0), oA 15 (.load 14 false 1), oA 16 (.lenL 15), oA 17 (.bin .sub 16 (cI 1)), mA 6 17] (kp [0,1,6]))
(.block 0
(.loop c_ref10_Scope_URI_L0)))
(.seq (.reg 0 [mA 62 1, oA 63 (.bin .eql 62 (.c (.str []))), oA 4 (.mv (.c (.str []))), mA 5 63] (kp [4,5]))
.ret))))
def r_ref10_Scope_URI : List VRes := [.tmp 4,.tmp 5]
theorem k_ref10_Scope_URI : Fits Tryz.prog F_ref10_Scope_URI c_ref10_Scope_URI r_ref10_Scope_URI := .of Tryz.func55 (by kernel_rfl)
def c_ref15_named : VCode := (.seq (.reg 0 [oA 4 (.mv (cB false))] (kp [0,1]))
(.seq (.reg 0 [mA 9 0, mA 10 1, oA 11 (.call F_ref15_qname [9,10]), oA 12 (.call F_ref1_Split [11]), mA 8 12, oA 13 (.ext 8 0), oA 14 (.ext 8 1), oA 15 (.ext 8 2), mA 5 13, mA 6 14, mA 7 15] (kp [0,1,5,6,7]))
(.seq (.reg 0 [mA 16 7, mA 17 16, oT 17 18 (.mv 5), oT 17 19 (.mv 0), oT 17 20 (.bin .eql 18 19), oA 21 (.pick 17 20 (cB false)), mA 22 21, oT 22 23 (.mv 6), oT 22 24 (.mv 1), oT 22 25 (.bin .eql 23 24), oA 26 (.pick 22 25 (cB false)), mA 4 26] (kp [4]))
.ret)))
def r_ref15_named : List VRes := [.tmp 4]
theorem k_ref15_named : Fits Tryz.prog F_ref15_named c_ref15_named r_ref15_named := .of Tryz.func68 (by kernel_rfl)
def c_ref15_holds_L0 : VCode := (.seq (.seq (.reg 0 [mA 6 5, mA 7 1, oA 8 (.lenS 7), oA 9 (.bin .add 6 8), mA 10 0, oA 11 (.lenS 10), oA 12 (.bin .leq 9 11)] (kp [0,1,5,12]))
(.cond 12
(.gsk (kp [0,1,5]))
(.exit 0)))
(.seq (.block 1
(.seq (.reg 0 [mA 15 0, mA 16 5, mA 17 5, mA 18 1, oA 19 (.lenS 18), oA 20 (.bin .add 17 19), oA 21 (.cutS 15 (some 16) (some 20)), mA 22 1, oA 23 (.bin .eql 21 22)] (kp [0,1,5,23]))
(.cond 23
(.seq (.reg 0 [oA 4 (.mv (cB true))] (kp [4]))
.ret)
(.gsk (kp [0,1,5])))))
(.reg 0 [mA 13 5, oA 14 (.bin .add 13 (cI 1)), mA 5 14] (kp [0,1,5]))))
def c_ref15_holds : VCode := (.seq (.reg 0 [oA 4 (.mv (cB false))] (kp [0,1]))
(.seq (.seq (.reg 0 [oA 5 (.mv (cI 0))] (kp [0,1,5]))
(.block 0
(.loop c_ref15_holds_L0)))
(.seq (.reg 0 [oA 4 (.mv (cB false))] (kp [4]))
.ret)))
def r_ref15_holds : List VRes := [.tmp 4]
theorem k_ref15_holds : Fits Tryz.prog F_ref15_holds c_ref15_holds r_ref15_holds := .of Tryz.func70 (by kernel_rfl)
def c_ref10_Target : VCode := (.seq (.reg 0 [oA 2 (.mv (cB false))] (kp [0]))
(.seq (.reg 0 [mA 3 0, oA 4 (.call F_ref1_NCName [3]), mA 5 4, oT 5 6 (.mv 0), oT 5 7 (.call F_ref10_lower [6]), oT 5 8 (.bin .neq 7 (.c (.str S_xml))), oA 9 (.pick 5 8 (cB false)), mA 2 9] (kp [2]))
.ret))
def r_ref10_Target : List VRes := [.tmp 2]
theorem k_ref10_Target : Fits Tryz.prog F_ref10_Target c_ref10_Target r_ref10_Target := .of Tryz.func71 (by kernel_rfl)
def c_ref15_qname : VCode := (.seq (.reg 0 [oA 4 (.mv (.c (.str [])))] (kp [0,1]))
(.seq (.seq (.reg 0 [mA 5 0, oA 6 (.bin .eql 5 (.c (.str [])))] (kp [0,1,6]))
(.cond 6
(.seq (.reg 0 [mA 7 1, mA 4 7] (kp [4]))
.ret)
(.gsk (kp [0,1]))))
(.seq (.reg 0 [mA 8 0, oA 9 (.bin .add 8 (.c (.str S_58_))), mA 10 1, oA 11 (.bin .add 9 10), mA 4 11] (kp [4]))
.ret)))
def r_ref15_qname : List VRes := [.tmp 4]
theorem k_ref15_qname : Fits Tryz.prog F_ref15_qname c_ref15_qname r_ref15_qname := .of Tryz.func107 (by kernel_rfl)
def c_ref10_lower_L0 : VCode := (.seq (.seq (.reg 0 [mA 7 4, mA 8 3, oA 9 (.lenL 8), oA 10 (.bin .lss 7 9)] (kp [3,4,10]))
(.cond 10
(.gsk (kp [3,4]))
(.exit 0)))
(.seq (.block 1
(.seq (.reg 0 [mA 13 3, mA 14 4, oA 15 (.idx 1 13 14), oA 16 (.load 15 false 1), oA 17 (.bin .geq 16 (.c (.int .u8 65))), mA 18 17, oT 18 19 (.mv 3), oT 18 20 (.mv 4), oT 18 21 (.idx 1 19 20), oT 18 22 (.load 21 false 1), oT 18 23 (.bin .leq 22 (.c (.int .u8 90))), oA 24 (.pick 18 23 (cB false))] (kp [3,4,24]))
(.cond 24
(.reg 0 [mA 25 3, mA 26 4, mA 27 3, mA 28 4, oA 29 (.idx 1 27 28), oA 30 (.load 29 false 1), oA 31 (.bin .add 30 (.c (.int .u8 32))), oA 32 (.idx 1 25 26), oN (.store 32 31 1)] (kp [3,4]))
(.gsk (kp [3,4])))))
(.reg 0 [mA 11 4, oA 12 (.bin .add 11 (cI 1)), mA 4 12] (kp [3,4]))))
def c_ref10_lower : VCode := (.seq (.reg 0 [oA 2 (.mv (.c (.str [])))] (kp [0]))
(.seq (.reg 0 [mA 5 0, oA 6 (.cbytes 5 T_uint8), mA 3 6] (kp [3]))
(.seq (.seq (.reg 0 [oA 4 (.mv (cI 0))] (kp [3,4]))
(.block 0
(.loop c_ref10_lower_L0)))
(.seq (.reg 0 [mA 33 3, oA 34 (.ctext 33), mA 2 34] (kp [2]))
.ret))))
def r_ref10_lower : List VRes := [.tmp 2]
theorem k_ref10_lower : Fits Tryz.prog F_ref10_lower c_ref10_lower r_ref10_lower := .of Tryz.func111 (by kernel_rfl)
end Go.Proofs.YtpcbnpekdmobpaaGreatDoor
set_option maxRecDepth 100000
set_option linter.unusedVariables false
open Go Go.Ev Go.VL
namespace Go.Proofs.YtpcbnpekdmobpaaGreatDoor
def c_ref1_Valid_L0 : VCode := (.seq (.seq (.reg 0 [mA 6 3, mA 7 0, oA 8 (.lenS 7), oA 9 (.bin .lss 6 8)] (kp [0,3,9]))
(.cond 9
(.gsk (kp [0,3]))
(.exit 0)))
(.block 1
(.seq (.reg 0 [mA 11 0, mA 12 3, oA 13 (.call F_ref1_One [11,12]), mA 10 13, oA 14 (.ext 10 0), oA 15 (.ext 10 1), mA 4 14, mA 5 15] (kp [0,3,4,5]))
(.seq (.seq (.reg 0 [mA 16 5, oA 17 (.bin .eql 16 (cI 0)), mA 18 17, oF 18 19 (.mv 4), oF 18 20 (.call F_ref1_Char [19]), oF 18 21 (.un .not 20), oA 22 (.pick 18 (cB true) 21)] (kp [0,3,5,22]))
(.cond 22
(.seq (.reg 0 [oA 2 (.mv (cB false))] (kp [2]))
.ret)
(.gsk (kp [0,3,5]))))
(.reg 0 [mA 23 3, mA 24 5, oA 25 (.bin .add 23 24), mA 3 25] (kp [0,3]))))))
def c_ref1_Valid : VCode := (.seq (.reg 0 [oA 2 (.mv (cB false))] (kp [0]))
(.seq (.seq (.reg 0 [oA 3 (.mv (cI 0))] (kp [0,3]))
(.block 0
(.loop c_ref1_Valid_L0)))
(.seq (.reg 0 [oA 2 (.mv (cB true))] (kp [2]))
.ret)))
def r_ref1_Valid : List VRes := [.tmp 2]
theorem k_ref1_Valid : Fits Tryz.prog F_ref1_Valid c_ref1_Valid r_ref1_Valid := .of Tryz.func69 (by kernel_rfl)
def c_ref1_Space : VCode := (.seq (.reg 0 [oA 2 (.mv (cB false))] (kp [0]))
(.seq (.reg 0 [mA 3 0, oA 4 (.bin .eql 3 (.c (.int .i32 32))), mA 5 4, oF 5 6 (.mv 0), oF 5 7 (.bin .eql 6 (.c (.int .i32 9))), oA 8 (.pick 5 (cB true) 7), mA 9 8, oF 9 10 (.mv 0), oF 9 11 (.bin .eql 10 (.c (.int .i32 13))), oA 12 (.pick 9 (cB true) 11), mA 13 12, oF 13 14 (.mv 0), oF 13 15 (.bin .eql 14 (.c (.int .i32 10))), oA 16 (.pick 13 (cB true) 15), mA 2 16] (kp [2]))
.ret))
def r_ref1_Space : List VRes := [.tmp 2]
theorem k_ref1_Space : Fits Tryz.prog F_ref1_Space c_ref1_Space r_ref1_Space := .of Tryz.func72 (by kernel_rfl)
def c_ref1_Split_L0 : VCode := (.seq (.seq (.reg 0 [mA 6 5, mA 7 0, oA 8 (.lenS 7), oA 9 (.bin .lss 6 8)] (kp [0,5,9]))
(.cond 9
(.gsk (kp [0,5]))
(.exit 0)))
(.seq (.block 1
(.seq (.reg 0 [mA 12 0, mA 13 5, oA 14 (.at 12 13), oA 15 (.bin .eql 14 (.c (.int .u8 58)))] (kp [0,5,15]))
(.cond 15
(.seq (.seq (.reg 0 [mA 16 0, mA 17 5, oA 18 (.cutS 16 none (some 17)), oA 19 (.call F_ref1_NCName [18]), mA 20 19, oT 20 21 (.mv 0), oT 20 22 (.mv 5), oT 20 23 (.bin .add 22 (cI 1)), oT 20 24 (.cutS 21 (some 23) none), oT 20 25 (.call F_ref1_NCName [24]), oA 26 (.pick 20 25 (cB false))] (kp [0,5,26]))
(.cond 26
(.seq (.reg 1 [mA 27 0, mA 28 5, oA 29 (.cutS 27 none (some 28)), mA 30 0, mA 31 5, oA 32 (.bin .add 31 (cI 1)), oA 33 (.cutS 30 (some 32) none), mA 2 29, mA 3 33, oA 4 (.mv (cB true))] (kp [2,3,4]))
.ret)
(.gsk (kp []))))
(.seq (.reg 0 [oA 2 (.mv (.c (.str []))), oA 3 (.mv (.c (.str []))), oA 4 (.mv (cB false))] (kp [2,3,4]))
.ret))
(.gsk (kp [0,5])))))
(.reg 0 [mA 10 5, oA 11 (.bin .add 10 (cI 1)), mA 5 11] (kp [0,5]))))
def c_ref1_Split : VCode := (.seq (.reg 0 [oA 2 (.mv (.c (.str []))), oA 3 (.mv (.c (.str []))), oA 4 (.mv (cB false))] (kp [0]))
(.seq (.seq (.reg 0 [oA 5 (.mv (cI 0))] (kp [0,5]))
(.block 0
(.loop c_ref1_Split_L0)))
(.seq (.seq (.reg 0 [mA 34 0, oA 35 (.call F_ref1_NCName [34]), oA 36 (.un .not 35)] (kp [0,36]))
(.cond 36
(.seq (.reg 0 [oA 2 (.mv (.c (.str []))), oA 3 (.mv (.c (.str []))), oA 4 (.mv (cB false))] (kp [2,3,4]))
.ret)
(.gsk (kp [0]))))
(.seq (.reg 0 [mA 37 0, oA 2 (.mv (.c (.str []))), mA 3 37, oA 4 (.mv (cB true))] (kp [2,3,4]))
.ret))))
def r_ref1_Split : List VRes := [.tmp 2,.tmp 3,.tmp 4]
theorem k_ref1_Split : Fits Tryz.prog F_ref1_Split c_ref1_Split r_ref1_Split := .of Tryz.func106 (by kernel_rfl)
def c_ref1_One_L0 : VCode := (.seq (.seq (.reg 0 [mA 59 10, mA 60 7, oA 61 (.bin .lss 59 60)] (kp [0,1,7,8,9,10,61]))
(.cond 61
(.gsk (kp [0,1,7,8,9,10]))
(.exit 1)))
(.seq (.block 2
(.seq (.seq (.reg 0 [mA 64 0, mA 65 1, mA 66 10, oA 67 (.bin .add 65 66), oA 68 (.at 64 67), oA 69 (.bin .and 68 (.c (.int .u8 192))), oA 70 (.bin .neq 69 (.c (.int .u8 128)))] (kp [0,1,7,8,9,10,70]))
(.cond 70
(.seq (.reg 0 [oA 4 (.mv (.c (.int .i32 0))), oA 5 (.mv (cI 0))] (kp [4,5]))
.ret)
(.gsk (kp [0,1,7,8,9,10]))))
(.reg 0 [mA 71 8, oA 72 (.bin .shl 71 (cU 6)), mA 73 0, mA 74 1, mA 75 10, oA 76 (.bin .add 74 75), oA 77 (.at 73 76), oA 78 (.bin .and 77 (.c (.int .u8 63))), oA 79 (.cint .i32 78), oA 80 (.bin .or 72 79), mA 8 80] (kp [0,1,7,8,9,10]))))
(.reg 0 [mA 62 10, oA 63 (.bin .add 62 (cI 1)), mA 10 63] (kp [0,1,7,8,9,10]))))
def c_ref1_One_R14 : VCode := (.seq (.seq (.reg 0 [mA 53 1, mA 54 7, oA 55 (.bin .add 53 54), mA 56 0, oA 57 (.lenS 56), oA 58 (.bin .gtr 55 57)] (kp [0,1,7,8,9,58]))
(.cond 58
(.seq (.reg 0 [oA 4 (.mv (.c (.int .i32 0))), oA 5 (.mv (cI 0))] (kp [4,5]))
.ret)
(.gsk (kp [0,1,7,8,9]))))
(.seq (.seq (.reg 0 [oA 10 (.mv (cI 1))] (kp [0,1,7,8,9,10]))
(.block 1
(.loop c_ref1_One_L0)))
(.seq (.seq (.reg 0 [mA 81 8, mA 82 9, oA 83 (.bin .lss 81 82), mA 84 83, oF 84 85 (.mv 8), oF 84 86 (.bin .gtr 85 (.c (.int .i32 1114111))), oA 87 (.pick 84 (cB true) 86), mA 88 87, oF 88 89 (.mv 8), oF 88 90 (.call F_ref1_in [89,(.c (.int .i32 55296)),(.c (.int .i32 57343))]), oA 91 (.pick 88 (cB true) 90)] (kp [7,8,91]))
(.cond 91
(.seq (.reg 0 [oA 4 (.mv (.c (.int .i32 0))), oA 5 (.mv (cI 0))] (kp [4,5]))
.ret)
(.gsk (kp [7,8]))))
(.seq (.reg 0 [mA 92 8, mA 93 7, mA 4 92, mA 5 93] (kp [4,5]))
.ret))))
def c_ref1_One : VCode := (.seq (.reg 0 [oA 4 (.mv (.c (.int .i32 0))), oA 5 (.mv (cI 0))] (kp [0,1]))
(.seq (.seq (.reg 0 [mA 11 1, mA 12 0, oA 13 (.lenS 12), oA 14 (.bin .geq 11 13)] (kp [0,1,14]))
(.cond 14
(.seq (.reg 0 [oA 4 (.mv (.c (.int .i32 0))), oA 5 (.mv (cI 0))] (kp [4,5]))
.ret)
(.gsk (kp [0,1]))))
(.seq (.reg 0 [mA 15 0, mA 16 1, oA 17 (.at 15 16), mA 6 17] (kp [0,1,6]))
(.seq (.reg 0 [oA 7 (.mv (cI 0)), oA 8 (.mv (.c (.int .i32 0))), oA 9 (.mv (.c (.int .i32 0)))] (kp [0,1,6]))
(.seq (.block 0
(.seq (.reg 0 [mA 19 6, oA 20 (.bin .lss 19 (.c (.int .u8 128))), mA 18 20] (kp [0,1,6,18]))
(.cond 18
(.seq (.reg 0 [mA 21 6, oA 22 (.cint .i32 21), mA 4 22, oA 5 (.mv (cI 1))] (kp [4,5]))
.ret)
(.seq (.reg 0 [mA 24 6, oA 25 (.bin .geq 24 (.c (.int .u8 192))), mA 26 25, oT 26 27 (.mv 6), oT 26 28 (.bin .lss 27 (.c (.int .u8 224))), oA 29 (.pick 26 28 (cB false)), mA 23 29] (kp [0,1,6,23]))
(.cond 23
(.reg 0 [mA 30 6, oA 31 (.bin .and 30 (.c (.int .u8 31))), oA 32 (.cint .i32 31), oA 7 (.mv (cI 2)), mA 8 32, oA 9 (.mv (.c (.int .i32 128)))] (kp [0,1,7,8,9]))
(.seq (.reg 0 [mA 34 6, oA 35 (.bin .geq 34 (.c (.int .u8 224))), mA 36 35, oT 36 37 (.mv 6), oT 36 38 (.bin .lss 37 (.c (.int .u8 240))), oA 39 (.pick 36 38 (cB false)), mA 33 39] (kp [0,1,6,33]))
(.cond 33
(.reg 0 [mA 40 6, oA 41 (.bin .and 40 (.c (.int .u8 15))), oA 42 (.cint .i32 41), oA 7 (.mv (cI 3)), mA 8 42, oA 9 (.mv (.c (.int .i32 2048)))] (kp [0,1,7,8,9]))
(.seq (.reg 0 [mA 44 6, oA 45 (.bin .geq 44 (.c (.int .u8 240))), mA 46 45, oT 46 47 (.mv 6), oT 46 48 (.bin .lss 47 (.c (.int .u8 248))), oA 49 (.pick 46 48 (cB false)), mA 43 49] (kp [0,1,6,43]))
(.cond 43
(.reg 0 [mA 50 6, oA 51 (.bin .and 50 (.c (.int .u8 7))), oA 52 (.cint .i32 51), oA 7 (.mv (cI 4)), mA 8 52, oA 9 (.mv (.c (.int .i32 65536)))] (kp [0,1,7,8,9]))
(.seq (.reg 0 [oA 4 (.mv (.c (.int .i32 0))), oA 5 (.mv (cI 0))] (kp [4,5]))
.ret))))))))))
(.cut c_ref1_One_R14))))))
def r_ref1_One : List VRes := [.tmp 4,.tmp 5]
theorem k_ref1_One : Fits Tryz.prog F_ref1_One c_ref1_One r_ref1_One := .of Tryz.func108 (by kernel_rfl)
def c_ref1_Char : VCode := (.seq (.reg 0 [oA 2 (.mv (cB false))] (kp [0]))
(.seq (.reg 0 [mA 3 0, oA 4 (.bin .eql 3 (.c (.int .i32 9))), mA 5 4, oF 5 6 (.mv 0), oF 5 7 (.bin .eql 6 (.c (.int .i32 10))), oA 8 (.pick 5 (cB true) 7), mA 9 8, oF 9 10 (.mv 0), oF 9 11 (.bin .eql 10 (.c (.int .i32 13))), oA 12 (.pick 9 (cB true) 11), mA 13 12, oF 13 14 (.mv 0), oF 13 15 (.call F_ref1_in [14,(.c (.int .i32 32)),(.c (.int .i32 55295))]), oA 16 (.pick 13 (cB true) 15), mA 17 16, oF 17 18 (.mv 0), oF 17 19 (.call F_ref1_in [18,(.c (.int .i32 57344)),(.c (.int .i32 65533))]), oA 20 (.pick 17 (cB true) 19), mA 21 20, oF 21 22 (.mv 0), oF 21 23 (.call F_ref1_in [22,(.c (.int .i32 65536)),(.c (.int .i32 1114111))]), oA 24 (.pick 21 (cB true) 23), mA 2 24] (kp [2]))
.ret))
def r_ref1_Char : List VRes := [.tmp 2]
theorem k_ref1_Char : Fits Tryz.prog F_ref1_Char c_ref1_Char r_ref1_Char := .of Tryz.func109 (by kernel_rfl)
def c_ref1_NCName_L0 : VCode := (.seq (.seq (.reg 0 [mA 4 3, mA 5 0, oA 6 (.lenS 5), oA 7 (.bin .lss 4 6)] (kp [0,3,7]))
(.cond 7
(.gsk (kp [0,3]))
(.exit 0)))
(.seq (.block 1
(.seq (.reg 0 [mA 10 0, mA 11 3, oA 12 (.at 10 11), oA 13 (.bin .eql 12 (.c (.int .u8 58)))] (kp [0,3,13]))
(.cond 13
(.seq (.reg 0 [oA 2 (.mv (cB false))] (kp [2]))
.ret)
(.gsk (kp [0,3])))))
(.reg 0 [mA 8 3, oA 9 (.bin .add 8 (cI 1)), mA 3 9] (kp [0,3]))))
def c_ref1_NCName : VCode := (.seq (.reg 0 [oA 2 (.mv (cB false))] (kp [0]))
(.seq (.seq (.reg 0 [oA 3 (.mv (cI 0))] (kp [0,3]))
(.block 0
(.loop c_ref1_NCName_L0)))
(.seq (.reg 0 [mA 14 0, oA 15 (.call F_ref1_Name [14]), mA 2 15] (kp [2]))
.ret)))
def r_ref1_NCName : List VRes := [.tmp 2]
theorem k_ref1_NCName : Fits Tryz.prog F_ref1_NCName c_ref1_NCName r_ref1_NCName := .of Tryz.func110 (by kernel_rfl)
def c_ref1_in : VCode := (.seq (.reg 0 [oA 6 (.mv (cB false))] (kp [0,1,2]))
(.seq (.reg 0 [mA 7 0, mA 8 1, oA 9 (.bin .geq 7 8), mA 10 9, oT 10 11 (.mv 0), oT 10 12 (.mv 2), oT 10 13 (.bin .leq 11 12), oA 14 (.pick 10 13 (cB false)), mA 6 14] (kp [6]))
.ret))
def r_ref1_in : List VRes := [.tmp 6]
theorem k_ref1_in : Fits Tryz.prog F_ref1_in c_ref1_in r_ref1_in := .of Tryz.func137 (by kernel_rfl)
def c_ref1_Name : VCode := (.seq (.reg 0 [oA 2 (.mv (cB false))] (kp [0]))
(.seq (.reg 0 [mA 3 0, oA 4 (.bin .neq 3 (.c (.str []))), mA 5 4, oT 5 6 (.mv 0), oT 5 7 (.call F_ref1_Run [6,(cI 0)]), oT 5 8 (.mv 0), oT 5 9 (.lenS 8), oT 5 10 (.bin .eql 7 9), oA 11 (.pick 5 10 (cB false)), mA 2 11] (kp [2]))
.ret))
def r_ref1_Name : List VRes := [.tmp 2]
theorem k_ref1_Name : Fits Tryz.prog F_ref1_Name c_ref1_Name r_ref1_Name := .of Tryz.func138 (by kernel_rfl)
def c_ref1_Run_L0 : VCode := (.block 1
(.seq (.reg 0 [mA 10 0, mA 11 5, oA 12 (.call F_ref1_One [10,11]), mA 9 12, oA 13 (.ext 9 0), oA 14 (.ext 9 1), mA 6 13, mA 7 14] (kp [0,1,5,6,7]))
(.seq (.seq (.reg 0 [mA 15 7, oA 16 (.bin .eql 15 (cI 0)), mA 17 16, oF 17 18 (.mv 6), oF 17 19 (.call F_ref1_Part [18]), oF 17 20 (.un .not 19), oA 21 (.pick 17 (cB true) 20), mA 22 21, oF 22 23 (.mv 5), oF 22 24 (.mv 1), oF 22 25 (.bin .eql 23 24), oF 22 26 (.mv 25), oT 26 27 (.mv 6), oT 26 28 (.call F_ref1_Start [27]), oT 26 29 (.un .not 28), oF 22 30 (.pick 26 29 (cB false)), oA 31 (.pick 22 (cB true) 30)] (kp [0,1,5,7,31]))
(.cond 31
(.seq (.reg 0 [mA 32 5, mA 4 32] (kp [4]))
.ret)
(.gsk (kp [0,1,5,7]))))
(.reg 0 [mA 33 5, mA 34 7, oA 35 (.bin .add 33 34), mA 5 35] (kp [0,1,5])))))
def c_ref1_Run : VCode := (.seq (.reg 0 [oA 4 (.mv (cI 0))] (kp [0,1]))
(.seq (.reg 0 [mA 8 1, mA 5 8] (kp [0,1,5]))
(.block 0
(.loop c_ref1_Run_L0))))
def r_ref1_Run : List VRes := [.tmp 4]
theorem k_ref1_Run : Fits Tryz.prog F_ref1_Run c_ref1_Run r_ref1_Run := .of Tryz.func177 (by kernel_rfl)
def c_ref1_Part : VCode := (.seq (.reg 0 [oA 2 (.mv (cB false))] (kp [0]))
(.seq (.reg 0 [mA 3 0, oA 4 (.call F_ref1_Start [3]), mA 5 4, oF 5 6 (.mv 0), oF 5 7 (.bin .eql 6 (.c (.int .i32 45))), oA 8 (.pick 5 (cB true) 7), mA 9 8, oF 9 10 (.mv 0), oF 9 11 (.bin .eql 10 (.c (.int .i32 46))), oA 12 (.pick 9 (cB true) 11), mA 13 12, oF 13 14 (.mv 0), oF 13 15 (.call F_ref1_in [14,(.c (.int .i32 48)),(.c (.int .i32 57))]), oA 16 (.pick 13 (cB true) 15), mA 17 16, oF 17 18 (.mv 0), oF 17 19 (.bin .eql 18 (.c (.int .i32 183))), oA 20 (.pick 17 (cB true) 19), mA 21 20, oF 21 22 (.mv 0), oF 21 23 (.call F_ref1_in [22,(.c (.int .i32 768)),(.c (.int .i32 879))]), oA 24 (.pick 21 (cB true) 23), mA 25 24, oF 25 26 (.mv 0), oF 25 27 (.call F_ref1_in [26,(.c (.int .i32 8255)),(.c (.int .i32 8256))]), oA 28 (.pick 25 (cB true) 27), mA 2 28] (kp [2]))
.ret))
def r_ref1_Part : List VRes := [.tmp 2]
theorem k_ref1_Part : Fits Tryz.prog F_ref1_Part c_ref1_Part r_ref1_Part := .of Tryz.func199 (by kernel_rfl)
def c_ref1_Start : VCode := (.seq (.reg 0 [oA 2 (.mv (cB false))] (kp [0]))
(.seq (.reg 0 [mA 3 0, oA 4 (.call F_ref1_in [3,(.c (.int .i32 65)),(.c (.int .i32 90))]), mA 5 4, oF 5 6 (.mv 0), oF 5 7 (.call F_ref1_in [6,(.c (.int .i32 97)),(.c (.int .i32 122))]), oA 8 (.pick 5 (cB true) 7), mA 9 8, oF 9 10 (.mv 0), oF 9 11 (.bin .eql 10 (.c (.int .i32 95))), oA 12 (.pick 9 (cB true) 11), mA 13 12, oF 13 14 (.mv 0), oF 13 15 (.bin .eql 14 (.c (.int .i32 58))), oA 16 (.pick 13 (cB true) 15), mA 17 16, oF 17 18 (.mv 0), oF 17 19 (.call F_ref1_in [18,(.c (.int .i32 192)),(.c (.int .i32 214))]), oA 20 (.pick 17 (cB true) 19), mA 21 20, oF 21 22 (.mv 0), oF 21 23 (.call F_ref1_in [22,(.c (.int .i32 216)),(.c (.int .i32 246))]), oA 24 (.pick 21 (cB true) 23), mA 25 24, oF 25 26 (.mv 0), oF 25 27 (.call F_ref1_in [26,(.c (.int .i32 248)),(.c (.int .i32 767))]), oA 28 (.pick 25 (cB true) 27), mA 29 28, oF 29 30 (.mv 0), oF 29 31 (.call F_ref1_in [30,(.c (.int .i32 880)),(.c (.int .i32 893))]), oA 32 (.pick 29 (cB true) 31), mA 33 32, oF 33 34 (.mv 0), oF 33 35 (.call F_ref1_in [34,(.c (.int .i32 895)),(.c (.int .i32 8191))]), oA 36 (.pick 33 (cB true) 35), mA 37 36, oF 37 38 (.mv 0), oF 37 39 (.call F_ref1_in [38,(.c (.int .i32 8204)),(.c (.int .i32 8205))]), oA 40 (.pick 37 (cB true) 39), mA 41 40, oF 41 42 (.mv 0), oF 41 43 (.call F_ref1_in [42,(.c (.int .i32 8304)),(.c (.int .i32 8591))]), oA 44 (.pick 41 (cB true) 43), mA 45 44, oF 45 46 (.mv 0), oF 45 47 (.call F_ref1_in [46,(.c (.int .i32 11264)),(.c (.int .i32 12271))]), oA 48 (.pick 45 (cB true) 47), mA 49 48, oF 49 50 (.mv 0), oF 49 51 (.call F_ref1_in [50,(.c (.int .i32 12289)),(.c (.int .i32 55295))]), oA 52 (.pick 49 (cB true) 51), mA 53 52, oF 53 54 (.mv 0), oF 53 55 (.call F_ref1_in [54,(.c (.int .i32 63744)),(.c (.int .i32 64975))]), oA 56 (.pick 53 (cB true) 55), mA 57 56, oF 57 58 (.mv 0), oF 57 59 (.call F_ref1_in [58,(.c (.int .i32 65008)),(.c (.int .i32 65533))]), oA 60 (.pick 57 (cB true) 59), mA 61 60, oF 61 62 (.mv 0), oF 61 63 (.call F_ref1_in [62,(.c (.int .i32 65536)),(.c (.int .i32 983039))]), oA 64 (.pick 61 (cB true) 63), mA 2 64] (kp [2]))
.ret))
def r_ref1_Start : List VRes := [.tmp 2]
theorem k_ref1_Start : Fits Tryz.prog F_ref1_Start c_ref1_Start r_ref1_Start := .of Tryz.func200 (by kernel_rfl)
end Go.Proofs.YtpcbnpekdmobpaaGreatDoor
set_option maxRecDepth 100000
set_option linter.unusedVariables false
open Go Go.Ev Go.VL
namespace Go.Proofs.YtpcbnpekdmobpaaGreatDoor
def c_tree_May_L1 : VCode := (.seq (.seq (.reg 1 [mA 28 5, oA 29 (.lenL 28), oA 30 (.bin .gtr 29 (cI 0)), mA 31 30, oT 31 32 (.mv 5), oT 31 33 (.mv 5), oT 31 34 (.lenL 33), oT 31 35 (.bin .sub 34 (cI 1)), oT 31 36 (.idx 1 32 35), oT 31 37 (.load 36 false 1), oT 31 38 (.off 7 1), oT 31 39 (.load 38 false 1), oT 31 40 (.bin .geq 37 39), oA 41 (.pick 31 40 (cB false))] (kp [0,3,4,5,7,17,18,19,41]))
(.cond 41
(.gsk (kp [0,3,4,5,7,17,18,19]))
(.exit 2)))
(.block 3
(.seq (.reg 0 [mA 42 5, mA 43 5, oA 44 (.lenL 43), oA 45 (.bin .sub 44 (cI 1)), oA 46 (.cutL 1 42 none (some 45) none), mA 5 46] (kp [0,3,4,5,7,17,18,19]))
(.reg 0 [mA 47 4, oA 48 (.call F_scope_Scope_Pop [47])] (kp [0,3,4,5,7,17,18,19])))))
def c_tree_May_L0 : VCode := (.seq (.reg 0 [oA 20 (.bin .lss 19 18)] (kp [0,3,4,5,17,18,19,20]))
(.seq (.cond 20
(.gsk (kp [0,3,4,5,17,18,19]))
(.exit 0))
(.seq (.block 1
(.seq (.reg 0 [mA 21 19, oA 22 (.idx 7 17 19), oA 23 (.load 22 true 7), oA 7 (.allocL [(.int .i64 0),(.int .i64 0),(.str []),(.str []),(.str []),(.str []),.nils]), mA 6 21, oN (.store 7 23 7)] (kp [0,3,4,5,6,7,17,18,19]))
(.seq (.seq (.reg 0 [mA 24 0, mA 25 6, oA 26 (.call F_tree_stands [24,25]), oA 27 (.un .not 26)] (kp [0,3,4,5,7,17,18,19,27]))
(.cond 27
(.seq (.reg 0 [oA 2 (.mv (cB false))] (kp [2]))
.ret)
(.gsk (kp [0,3,4,5,7,17,18,19]))))
(.seq (.block 2
(.loop c_tree_May_L1))
(.seq (.seq (.reg 0 [oA 49 (.off 7 0), oA 50 (.load 49 false 1), oA 51 (.bin .neq 50 (cI 2))] (kp [0,3,4,5,7,17,18,19,51]))
(.cond 51
(.seq (.seq (.reg 0 [oA 52 (.load 7 true 7), oA 53 (.call F_tree_aside [52]), oA 54 (.un .not 53)] (kp [0,3,4,5,17,18,19,54]))
(.cond 54
(.seq (.reg 0 [oA 2 (.mv (cB false))] (kp [2]))
.ret)
(.gsk (kp [0,3,4,5,17,18,19]))))
(.exit 1))
(.gsk (kp [0,3,4,5,7,17,18,19]))))
(.seq (.seq (.reg 0 [oA 55 (.load 7 true 7), mA 56 4, oA 57 (.call F_tree_element [55,56]), oA 58 (.un .not 57)] (kp [0,3,4,5,7,17,18,19,58]))
(.cond 58
(.seq (.reg 0 [oA 2 (.mv (cB false))] (kp [2]))
.ret)
(.gsk (kp [0,3,4,5,7,17,18,19]))))
(.seq (.reg 0 [mA 59 5, oA 60 (.off 7 1), oA 61 (.load 60 false 1), oA 62 (.buildF 1 1 [(.int .i64 0)] [(0,61)]), oA 63 (.app 1 [(.int .i64 0)] 8 T_int 59 62), mA 5 63] (kp [0,3,4,5,7,17,18,19]))
(.seq (.reg 0 [oA 64 (.off 7 1), oA 65 (.load 64 false 1), oA 66 (.bin .eql 65 (cI 1))] (kp [0,3,4,5,17,18,19,66]))
(.cond 66
(.reg 0 [mA 67 3, oA 68 (.bin .add 67 (cI 1)), mA 3 68] (kp [0,3,4,5,17,18,19]))
(.gsk (kp [0,3,4,5,17,18,19])))))))))))
(.reg 0 [oA 69 (.bin .add 19 (cI 1)), mA 19 69] (kp [0,3,4,5,17,18,19])))))
def c_tree_May : VCode := (.seq (.reg 0 [oA 2 (.mv (cB false))] (kp [0]))
(.seq (.seq (.reg 0 [mA 8 0, oA 9 (.lenL 8), oA 10 (.bin .lss 9 (cI 1)), mA 11 10, oF 11 12 (.mv 0), oF 11 13 (.lenL 12), oF 11 14 (.bin .gtr 13 (cI 1048576)), oA 15 (.pick 11 (cB true) 14)] (kp [0,15]))
(.cond 15
(.seq (.reg 0 [oA 2 (.mv (cB false))] (kp [2]))
.ret)
(.gsk (kp [0]))))
(.seq (.reg 0 [oA 3 (.mv (cI 0))] (kp [0,3]))
(.seq (.reg 0 [oA 16 (.call F_scope_New []), mA 4 16] (kp [0,3,4]))
(.seq (.reg 0 [oA 5 (.mv (.c .nils))] (kp [0,3,4,5]))
(.seq (.seq (.reg 0 [mA 17 0, oA 18 (.lenL 17), oA 19 (.mv (cI 0))] (kp [0,3,4,5,17,18,19]))
(.block 0
(.loop c_tree_May_L0)))
(.seq (.reg 0 [mA 70 3, oA 71 (.bin .eql 70 (cI 1)), mA 2 71] (kp [2]))
.ret)))))))
def r_tree_May : List VRes := [.tmp 2]
theorem k_tree_May : Fits Tryz.prog F_tree_May c_tree_May r_tree_May := .of Tryz.func12 (by kernel_rfl)
def c_scope_New : VCode := (.seq (.reg 0 [oA 0 (.mv (.c .nilp))] (kp []))
(.seq (.reg 0 [oA 1 (.build [.nils] []), oA 2 (.boxH 1 T_scope_Scope), mA 0 2] (kp [0]))
.ret))
def r_scope_New : List VRes := [.tmp 0]
theorem k_scope_New : Fits Tryz.prog F_scope_New c_scope_New r_scope_New := .of Tryz.func34 (by kernel_rfl)
def c_tree_stands : VCode := (.seq (.reg 0 [oA 4 (.mv (cB false))] (kp [0,1]))
(.seq (.reg 0 [mA 7 0, mA 8 1, oA 9 (.idx 7 7 8), oA 10 (.load 9 true 7), oA 5 (.allocL [(.int .i64 0),(.int .i64 0),(.str []),(.str []),(.str []),(.str []),.nils]), oN (.store 5 10 7)] (kp [0,1,5]))
(.seq (.seq (.reg 0 [mA 11 1, oA 12 (.bin .eql 11 (cI 0)), mA 13 12, oF 13 14 (.off 5 0), oF 13 15 (.load 14 false 1), oF 13 16 (.bin .eql 15 (cI 1)), oA 17 (.pick 13 (cB true) 16)] (kp [0,1,5,17]))
(.cond 17
(.seq (.reg 0 [mA 18 1, oA 19 (.bin .eql 18 (cI 0)), mA 20 19, oT 20 21 (.off 5 0), oT 20 22 (.load 21 false 1), oT 20 23 (.bin .eql 22 (cI 1)), oA 24 (.pick 20 23 (cB false)), mA 25 24, oT 25 26 (.off 5 1), oT 25 27 (.load 26 false 1), oT 25 28 (.bin .eql 27 (cI 0)), oA 29 (.pick 25 28 (cB false)), mA 4 29] (kp [4]))
.ret)
(.gsk (kp [0,1,5]))))
(.seq (.reg 0 [mA 30 0, mA 31 1, oA 32 (.bin .sub 31 (cI 1)), oA 33 (.idx 7 30 32), oA 34 (.load 33 true 7), oA 6 (.allocL [(.int .i64 0),(.int .i64 0),(.str []),(.str []),(.str []),(.str []),.nils]), oN (.store 6 34 7)] (kp [5,6]))
(.seq (.block 0
(.seq (.reg 0 [oA 36 (.off 5 1), oA 37 (.load 36 false 1), oA 38 (.bin .lss 37 (cI 1)), mA 39 38, oF 39 40 (.off 5 1), oF 39 41 (.load 40 false 1), oF 39 42 (.bin .gtr 41 (cI 201)), oA 43 (.pick 39 (cB true) 42), mA 44 43, oF 44 45 (.off 5 1), oF 44 46 (.load 45 false 1), oF 44 47 (.off 6 1), oF 44 48 (.load 47 false 1), oF 44 49 (.bin .add 48 (cI 1)), oF 44 50 (.bin .gtr 46 49), oA 51 (.pick 44 (cB true) 50), mA 35 51] (kp [5,6,35]))
(.cond 35
(.seq (.reg 0 [oA 4 (.mv (cB false))] (kp [4]))
.ret)
(.seq (.reg 0 [oA 53 (.off 5 1), oA 54 (.load 53 false 1), oA 55 (.off 6 1), oA 56 (.load 55 false 1), oA 57 (.bin .gtr 54 56), mA 58 57, oT 58 59 (.off 6 0), oT 58 60 (.load 59 false 1), oT 58 61 (.bin .neq 60 (cI 1)), oA 62 (.pick 58 61 (cB false)), mA 63 62, oT 63 64 (.off 6 0), oT 63 65 (.load 64 false 1), oT 63 66 (.bin .neq 65 (cI 2)), oA 67 (.pick 63 66 (cB false)), mA 52 67] (kp [5,6,52]))
(.cond 52
(.seq (.reg 0 [oA 4 (.mv (cB false))] (kp [4]))
.ret)
(.gsk (kp [5,6])))))))
(.seq (.reg 0 [oA 68 (.off 5 0), oA 69 (.load 68 false 1), oA 70 (.bin .neq 69 (cI 3)), mA 71 70, oF 71 72 (.off 5 1), oF 71 73 (.load 72 false 1), oF 71 74 (.bin .gtr 73 (cI 1)), oF 71 75 (.mv 74), oT 75 76 (.off 6 0), oT 75 77 (.load 76 false 1), oT 75 78 (.bin .neq 77 (cI 3)), oT 75 79 (.mv 78), oF 79 80 (.off 6 1), oF 79 81 (.load 80 false 1), oF 79 82 (.off 5 1), oF 79 83 (.load 82 false 1), oF 79 84 (.bin .neq 81 83), oT 75 85 (.pick 79 (cB true) 84), oF 71 86 (.pick 75 85 (cB false)), oA 87 (.pick 71 (cB true) 86), mA 4 87] (kp [4]))
.ret))))))
def r_tree_stands : List VRes := [.tmp 4]
theorem k_tree_stands : Fits Tryz.prog F_tree_stands c_tree_stands r_tree_stands := .of Tryz.func35 (by kernel_rfl)
def c_scope_Scope_Pop : VCode := (.seq (.reg 0 [oA 2 (.mv (cB false))] (kp [0]))
(.seq (.seq (.reg 0 [mA 3 0, oA 4 (.call F_scope_Scope_Depth [3]), oA 5 (.bin .eql 4 (cI 0))] (kp [0,5]))
(.cond 5
(.seq (.reg 0 [oA 2 (.mv (cB false))] (kp [2]))
.ret)
(.gsk (kp [0]))))
(.seq (.reg 1 [mA 6 0, mA 7 0, oA 8 (.nilck 7), oA 9 (.off 8 0), oA 10 (.load 9 false 1), mA 11 0, oA 12 (.nilck 11), oA 13 (.off 12 0), oA 14 (.load 13 false 1), oA 15 (.lenL 14), oA 16 (.bin .sub 15 (cI 1)), oA 17 (.cutL 1 10 none (some 16) none), oA 18 (.nilck 6), oA 19 (.off 18 0), oN (.store 19 17 1)] (kp []))
(.seq (.reg 0 [oA 2 (.mv (cB true))] (kp [2]))
.ret))))
def r_scope_Scope_Pop : List VRes := [.tmp 2]
theorem k_scope_Scope_Pop : Fits Tryz.prog F_scope_Scope_Pop c_scope_Scope_Pop r_scope_Scope_Pop := .of Tryz.func36 (by kernel_rfl)
def c_tree_aside : VCode := (.seq (.reg 0 [oA 1 (.boxL 0), oA 2 (.mv (cB false))] (kp [1]))
(.seq (.seq (.reg 0 [oA 3 (.off 1 2), oA 4 (.load 3 false 1), oA 5 (.bin .neq 4 (.c (.str []))), mA 6 5, oF 6 7 (.off 1 4), oF 6 8 (.load 7 false 1), oF 6 9 (.bin .neq 8 (.c (.str []))), oA 10 (.pick 6 (cB true) 9), mA 11 10, oF 11 12 (.off 1 6), oF 11 13 (.load 12 false 1), oF 11 14 (.lenL 13), oF 11 15 (.bin .gtr 14 (cI 0)), oA 16 (.pick 11 (cB true) 15), mA 17 16, oF 17 18 (.off 1 5), oF 17 19 (.load 18 false 1), oF 17 20 (.call F_tree_chars [19]), oF 17 21 (.un .not 20), oA 22 (.pick 17 (cB true) 21)] (kp [1,22]))
(.cond 22
(.seq (.reg 0 [oA 2 (.mv (cB false))] (kp [2]))
.ret)
(.gsk (kp [1]))))
(.seq (.seq (.reg 0 [oA 23 (.off 1 0), oA 24 (.load 23 false 1)] (kp [1,24]))
(.block 0
(.seq (.reg 0 [oA 26 (.bin .eql 24 (cI 1)), mA 25 26] (kp [1,24,25]))
(.cond 25
(.seq (.reg 0 [oA 27 (.off 1 3), oA 28 (.load 27 false 1), oA 29 (.bin .eql 28 (.c (.str []))), mA 30 29, oT 30 31 (.off 1 5), oT 30 32 (.load 31 false 1), oT 30 33 (.bin .eql 32 (.c (.str []))), oA 34 (.pick 30 33 (cB false)), mA 2 34] (kp [2]))
.ret)
(.seq (.reg 0 [oA 36 (.bin .eql 24 (cI 3)), mA 35 36] (kp [1,24,35]))
(.cond 35
(.seq (.reg 0 [oA 37 (.off 1 3), oA 38 (.load 37 false 1), oA 39 (.bin .eql 38 (.c (.str []))), mA 40 39, oT 40 41 (.off 1 5), oT 40 42 (.load 41 false 1), oT 40 43 (.bin .neq 42 (.c (.str []))), oA 44 (.pick 40 43 (cB false)), mA 2 44] (kp [2]))
.ret)
(.seq (.reg 0 [oA 46 (.bin .eql 24 (cI 4)), mA 45 46] (kp [1,24,45]))
(.cond 45
(.seq (.reg 0 [oA 47 (.off 1 3), oA 48 (.load 47 false 1), oA 49 (.bin .eql 48 (.c (.str []))), mA 50 49, oT 50 51 (.off 1 5), oT 50 52 (.load 51 false 1), oT 50 53 (.call F_strings_Contains [52,(.c (.str S_45__45_))]), oT 50 54 (.un .not 53), oA 55 (.pick 50 54 (cB false)), mA 56 55, oT 56 57 (.off 1 5), oT 56 58 (.load 57 false 1), oT 56 59 (.call F_strings_HasSuffix [58,(.c (.str S_45_))]), oT 56 60 (.un .not 59), oA 61 (.pick 56 60 (cB false)), mA 62 61, oT 62 63 (.off 1 5), oT 62 64 (.load 63 false 1), oT 62 65 (.call F_strings_Contains [64,(.c (.str S_13_))]), oT 62 66 (.un .not 65), oA 67 (.pick 62 66 (cB false)), mA 2 67] (kp [2]))
.ret)
(.seq (.reg 0 [oA 69 (.bin .eql 24 (cI 5)), mA 68 69] (kp [1,68]))
(.cond 68
(.seq (.reg 0 [oA 70 (.off 1 3), oA 71 (.load 70 false 1), oA 72 (.call F_token_Target [71]), mA 73 72, oT 73 74 (.off 1 5), oT 73 75 (.load 74 false 1), oT 73 76 (.call F_strings_Contains [75,(.c (.str S_63__62_))]), oT 73 77 (.un .not 76), oA 78 (.pick 73 77 (cB false)), mA 79 78, oT 79 80 (.off 1 5), oT 79 81 (.load 80 false 1), oT 79 82 (.call F_token_Spaces [81,(cI 0)]), oT 79 83 (.bin .eql 82 (cI 0)), oA 84 (.pick 79 83 (cB false)), mA 85 84, oT 85 86 (.off 1 5), oT 85 87 (.load 86 false 1), oT 85 88 (.call F_strings_Contains [87,(.c (.str S_13_))]), oT 85 89 (.un .not 88), oA 90 (.pick 85 89 (cB false)), mA 2 90] (kp [2]))
.ret)
(.gsk (kp []))))))))))))
(.seq (.reg 0 [oA 2 (.mv (cB false))] (kp [2]))
.ret))))
def r_tree_aside : List VRes := [.tmp 2]
theorem k_tree_aside : Fits Tryz.prog F_tree_aside c_tree_aside r_tree_aside := .of Tryz.func37 (by kernel_rfl)
def c_tree_element_L0 : VCode := (.seq (.reg 0 [oA 28 (.bin .lss 27 26)] (kp [1,2,5,6,25,26,27,28]))
(.seq (.cond 28
(.gsk (kp [1,2,5,6,25,26,27]))
(.exit 0))
(.seq (.block 1
(.seq (.reg 0 [mA 29 27, oA 30 (.idx 4 25 27), oA 31 (.load 30 true 4), oA 8 (.allocL [(.str []),(.str []),(.str []),(.str [])]), mA 7 29, oN (.store 8 31 4)] (kp [1,2,5,6,7,8,25,26,27]))
(.seq (.reg 0 [oA 32 (.off 6 6), oA 33 (.load 32 false 1), mA 34 7, oA 35 (.idx 4 33 34), oA 36 (.off 35 2), oN (.store 36 (.c (.str [])) 1)] (kp [1,2,5,6,7,8,25,26,27]))
(.seq (.reg 0 [mA 37 5, mA 38 37, oT 38 39 (.off 8 0), oT 38 40 (.load 39 false 1), oT 38 41 (.off 8 1), oT 38 42 (.load 41 false 1), oT 38 43 (.call F_tree_named [40,42]), oA 44 (.pick 38 43 (cB false)), mA 45 44, oT 45 46 (.off 8 3), oT 45 47 (.load 46 false 1), oT 45 48 (.call F_tree_chars [47]), oA 49 (.pick 45 48 (cB false)), mA 5 49] (kp [1,2,5,6,7,8,25,26,27]))
(.reg 0 [mA 50 5, mA 51 50, oT 51 52 (.off 2 6), oT 51 53 (.load 52 false 1), oT 51 54 (.mv 7), oT 51 55 (.cutL 4 53 none (some 54) none), ⟨some 56,.mkFn F_tree_element_c1 [] [8],(some (51,true)),[.fz 8],.n []⟩, oT 51 57 (.call F_slices_ContainsFunc_Lapi_Attr_api_Attr [55,56]), oT 51 58 (.un .not 57), oA 59 (.pick 51 58 (cB false)), mA 5 59] (kp [1,2,5,6,25,26,27]))))))
(.reg 0 [oA 60 (.bin .add 27 (cI 1)), mA 27 60] (kp [1,2,5,6,25,26,27])))))
def c_tree_element_R11 : VCode := (.seq (.reg 0 [mA 61 5, mA 62 61, oT 62 63 (.mv 1), oT 62 64 (.call F_scope_Scope_Names [63,6]), oT 62 65 (.bin .eql 64 (cI 0)), oA 66 (.pick 62 65 (cB false)), mA 67 66, oT 67 68 (.off 6 4), oT 67 69 (.load 68 false 1), oT 67 70 (.off 2 4), oT 67 71 (.load 70 false 1), oT 67 72 (.bin .eql 69 71), oA 73 (.pick 67 72 (cB false)), mA 74 73, oT 74 75 (.off 6 6), oT 74 76 (.load 75 false 1), oT 74 77 (.off 2 6), oT 74 78 (.load 77 false 1), oT 74 79 (.call F_slices_Equal_Lapi_Attr_api_Attr [76,78]), oA 80 (.pick 74 79 (cB false)), mA 4 80] (kp [4]))
.ret)
def c_tree_element_R2 : VCode := (.seq (.reg 0 [oA 19 (.load 2 true 7), oA 6 (.allocH [(.int .i64 0),(.int .i64 0),(.str []),(.str []),(.str []),(.str []),.nils] T_api_Node), oN (.store 6 19 7)] (kp [1,2,5,6]))
(.seq (.reg 0 [oA 20 (.off 2 6), oA 21 (.load 20 false 1), oA 22 (.call F_slices_Clone_Lapi_Attr_api_Attr [21]), oA 23 (.off 6 6), oN (.store 23 22 1)] (kp [1,2,5,6]))
(.seq (.seq (.reg 0 [oA 24 (.off 2 6), oA 25 (.load 24 false 1), oA 26 (.lenL 25), oA 27 (.mv (cI 0))] (kp [1,2,5,6,25,26,27]))
(.block 0
(.loop c_tree_element_L0)))
(.cut c_tree_element_R11))))
def c_tree_element : VCode := (.seq (.reg 0 [oA 2 (.boxL 0), oA 4 (.mv (cB false))] (kp [1,2]))
(.seq (.reg 0 [oA 9 (.off 2 2), oA 10 (.load 9 false 1), oA 11 (.off 2 3), oA 12 (.load 11 false 1), oA 13 (.call F_tree_named [10,12]), mA 14 13, oT 14 15 (.off 2 5), oT 14 16 (.load 15 false 1), oT 14 17 (.bin .eql 16 (.c (.str []))), oA 18 (.pick 14 17 (cB false)), mA 5 18] (kp [1,2,5]))
(.cut c_tree_element_R2)))
def r_tree_element : List VRes := [.tmp 4]
theorem k_tree_element : Fits Tryz.prog F_tree_element c_tree_element r_tree_element := .of Tryz.func38 (by kernel_rfl)
def c_scope_Scope_Push_L0 : VCode := (.seq (.reg 0 [oA 15 (.bin .lss 14 13)] (kp [0,5,12,13,14,15]))
(.seq (.cond 15
(.gsk (kp [0,5,12,13,14]))
(.exit 0))
(.seq (.block 1
(.seq (.reg 0 [oA 16 (.idx 4 12 14), oA 17 (.load 16 true 4), oA 7 (.allocL [(.str []),(.str []),(.str []),(.str [])]), oN (.store 7 17 4)] (kp [0,5,7,12,13,14]))
(.seq (.seq (.reg 0 [oA 19 (.load 7 true 4), oA 20 (.call F_scope_Declares [19]), mA 18 20, oA 21 (.ext 18 0), oA 22 (.ext 18 1), mA 8 21, mA 9 22] (kp [0,5,7,9,12,13,14]))
(.seq (.reg 0 [mA 23 9, oA 24 (.un .not 23)] (kp [0,5,7,12,13,14,24]))
(.cond 24
(.exit 1)
(.gsk (kp [0,5,7,12,13,14])))))
(.seq (.seq (.reg 0 [oA 25 (.load 7 true 4), oA 26 (.call F_scope_wrong [25]), mA 27 26, oF 27 28 (.mv 5), ⟨some 29,.mkFn F_scope_Scope_Push_c1 [] [7],(some (27,false)),[.fz 7],.n []⟩, oF 27 30 (.call F_slices_ContainsFunc_Lapi_Attr_api_Attr [28,29]), oA 31 (.pick 27 (cB true) 30)] (kp [0,5,7,12,13,14,31]))
(.cond 31
(.seq (.reg 0 [oA 4 (.mv (cI 2))] (kp [4]))
.ret)
(.gsk (kp [0,5,7,12,13,14]))))
(.reg 0 [mA 32 5, oA 33 (.load 7 true 4), oA 34 (.buildF 4 1 [(.str []),(.str []),(.str []),(.str [])] [(0,33)]), oA 35 (.app 4 [(.str []),(.str []),(.str []),(.str [])] 64 T_api_Attr 32 34), mA 5 35] (kp [0,5,12,13,14]))))))
(.reg 0 [oA 36 (.bin .add 14 (cI 1)), mA 14 36] (kp [0,5,12,13,14])))))
def c_scope_Scope_Push_R13 : VCode := (.seq (.reg 0 [mA 37 0, mA 38 0, oA 39 (.nilck 38), oA 40 (.off 39 0), oA 41 (.load 40 false 1), mA 42 5, ⟨some 43,.mkIfc T_Lapi_Attr 42,none,[.fzs 42 4],.n []⟩, oA 44 (.buildF 1 1 [.nili] [(0,43)]), oA 45 (.app 1 [.nili] 16 T_interface 41 44), oA 46 (.nilck 37), oA 47 (.off 46 0), oN (.store 47 45 1)] (kp []))
(.seq (.reg 0 [oA 4 (.mv (cI 0))] (kp [4]))
.ret))
def c_scope_Scope_Push : VCode := (.seq (.reg 0 [oA 4 (.mv (cI 0))] (kp [0,1]))
(.seq (.seq (.reg 0 [mA 10 0, oA 11 (.eq .p .eql 10 (.c .nilp))] (kp [0,1,11]))
(.cond 11
(.seq (.reg 0 [oA 4 (.mv (cI 1))] (kp [4]))
.ret)
(.gsk (kp [0,1]))))
(.seq (.reg 0 [oA 5 (.mv (.c .nils))] (kp [0,1,5]))
(.seq (.seq (.reg 0 [mA 12 1, oA 13 (.lenL 12), oA 14 (.mv (cI 0))] (kp [0,5,12,13,14]))
(.block 0
(.loop c_scope_Scope_Push_L0)))
(.cut c_scope_Scope_Push_R13)))))
def r_scope_Scope_Push : List VRes := [.tmp 4]
theorem k_scope_Scope_Push : Fits Tryz.prog F_scope_Scope_Push c_scope_Scope_Push r_scope_Scope_Push := .of Tryz.func46 (by kernel_rfl)
def c_scope_Scope_Depth : VCode := (.seq (.reg 0 [oA 2 (.mv (cI 0))] (kp [0]))
(.seq (.seq (.reg 0 [mA 3 0, oA 4 (.eq .p .eql 3 (.c .nilp))] (kp [0,4]))
(.cond 4
(.seq (.reg 0 [oA 2 (.mv (cI 0))] (kp [2]))
.ret)
(.gsk (kp [0]))))
(.seq (.reg 0 [mA 5 0, oA 6 (.nilck 5), oA 7 (.off 6 0), oA 8 (.load 7 false 1), oA 9 (.lenL 8), mA 2 9] (kp [2]))
.ret)))
def r_scope_Scope_Depth : List VRes := [.tmp 2]
theorem k_scope_Scope_Depth : Fits Tryz.prog F_scope_Scope_Depth c_scope_Scope_Depth r_scope_Scope_Depth := .of Tryz.func56 (by kernel_rfl)
def c_slices_Clone_Lapi_Attr_api_Attr : VCode := (.seq (.reg 0 [oA 2 (.mv (.c .nils))] (kp [0]))
(.seq (.seq (.reg 0 [mA 3 0, oA 4 (.eq .s .eql 3 (.c .nils))] (kp [0,4]))
(.cond 4
(.seq (.reg 0 [oA 2 (.mv (.c .nils))] (kp [2]))
.ret)
(.gsk (kp [0]))))
(.seq (.reg 0 [oA 5 (.buildF 4 0 [(.str []),(.str []),(.str []),(.str [])] []), mA 6 0, oA 7 (.app 4 [(.str []),(.str []),(.str []),(.str [])] 64 T_api_Attr 5 6), mA 2 7] (kp [2]))
.ret)))
def r_slices_Clone_Lapi_Attr_api_Attr : List VRes := [.tmp 2]
theorem k_slices_Clone_Lapi_Attr_api_Attr : Fits Tryz.prog F_slices_Clone_Lapi_Attr_api_Attr c_slices_Clone_Lapi_Attr_api_Attr r_slices_Clone_Lapi_Attr_api_Attr := .of Tryz.func63 (by kernel_rfl)
def c_slices_ContainsFunc_Lapi_Attr_api_Attr : VCode := (.seq (.reg 0 [oA 4 (.mv (cB false))] (kp [0,1]))
(.seq (.reg 0 [mA 5 0, mA 6 1, oA 7 (.call F_slices_IndexFunc_Lapi_Attr_api_Attr [5,6]), oA 8 (.bin .geq 7 (cI 0)), mA 4 8] (kp [4]))
.ret))
def r_slices_ContainsFunc_Lapi_Attr_api_Attr : List VRes := [.tmp 4]
theorem k_slices_ContainsFunc_Lapi_Attr_api_Attr : Fits Tryz.prog F_slices_ContainsFunc_Lapi_Attr_api_Attr c_slices_ContainsFunc_Lapi_Attr_api_Attr r_slices_ContainsFunc_Lapi_Attr_api_Attr := .of Tryz.func64 (by kernel_rfl)
def c_tree_element_c1 : VCode := (.seq (.reg 0 [oA 2 (.boxL 0), oA 3 (.mv (cB false))] (kp [1,2]))
(.seq (.reg 0 [oA 4 (.off 1 0), oA 5 (.load 4 false 1), oA 6 (.off 2 0), oA 7 (.load 6 false 1), oA 8 (.bin .eql 5 7), mA 9 8, oT 9 10 (.off 1 1), oT 9 11 (.load 10 false 1), oT 9 12 (.off 2 1), oT 9 13 (.load 12 false 1), oT 9 14 (.bin .eql 11 13), oA 15 (.pick 9 14 (cB false)), mA 3 15] (kp [3]))
.ret))
def r_tree_element_c1 : List VRes := [.tmp 3]
theorem k_tree_element_c1 : Fits Tryz.prog F_tree_element_c1 c_tree_element_c1 r_tree_element_c1 := .of Tryz.func65 (by kernel_rfl)
def c_scope_Scope_Names_L0 : VCode := (.seq (.reg 0 [oA 22 (.bin .lss 21 20)] (kp [0,1,19,20,21,22]))
(.seq (.cond 22
(.gsk (kp [0,1,19,20,21]))
(.exit 0))
(.seq (.block 1
(.seq (.reg 0 [mA 23 21, oA 24 (.idx 4 19 21), oA 25 (.load 24 true 4), oA 6 (.allocL [(.str []),(.str []),(.str []),(.str [])]), mA 5 23, oN (.store 6 25 4)] (kp [0,1,5,6,19,20,21]))
(.seq (.reg 0 [oA 26 (.off 6 0), oA 27 (.load 26 false 1), oA 28 (.bin .eql 27 (.c (.str S_xmlns))), mA 29 28, oF 29 30 (.off 6 0), oF 29 31 (.load 30 false 1), oF 29 32 (.bin .eql 31 (.c (.str []))), oF 29 33 (.mv 32), oT 33 34 (.off 6 1), oT 33 35 (.load 34 false 1), oT 33 36 (.bin .eql 35 (.c (.str S_xmlns))), oF 29 37 (.pick 33 36 (cB false)), oA 38 (.pick 29 (cB true) 37)] (kp [0,1,5,19,20,21,38]))
(.cond 38
(.reg 0 [mA 39 1, oA 40 (.nilck 39), oA 41 (.off 40 6), oA 42 (.load 41 false 1), mA 43 5, oA 44 (.idx 4 42 43), oA 45 (.off 44 2), oN (.store 45 (.c (.str Shttp_58__47__47_www_46_w3_46__29_391792)) 1)] (kp [0,1,19,20,21]))
(.gsk (kp [0,1,19,20,21]))))))
(.reg 0 [oA 46 (.bin .add 21 (cI 1)), mA 21 46] (kp [0,1,19,20,21])))))
def c_scope_Scope_Names_R19 : VCode := (.seq (.reg 1 [mA 115 1, oA 116 (.nilck 115), oA 117 (.off 116 6), oA 118 (.load 117 false 1), mA 119 11, oA 120 (.idx 4 118 119), oA 121 (.off 120 2), oA 122 (.load 121 false 1), oA 123 (.off 12 1), oA 124 (.load 123 false 1), oA 125 (.build [(.str []),(.str [])] [(0,1,122),(1,1,124)]), oA 15 (.allocL [(.str []),(.str [])]), oN (.store 15 125 2)] (kp [0,1,9,10,15,81,82,83]))
(.seq (.reg 0 [mA 126 9, mA 127 126, oT 127 128 (.mv 10), oT 127 129 (.load 15 true 2), oT 127 130 (.look [none,none] true (.bool false) 128 129 false), oT 127 131 (.un .not 130), oA 132 (.pick 127 131 (cB false)), mA 9 132] (kp [0,1,9,10,15,81,82,83]))
(.reg 0 [mA 133 10, oA 134 (.load 15 true 2), oN (.upd [none,none] true 133 134 (cB true))] (kp [0,1,9,10,81,82,83]))))
def c_scope_Scope_Names_L1 : VCode := (.seq (.reg 0 [oA 84 (.bin .lss 83 82)] (kp [0,1,9,10,81,82,83,84]))
(.seq (.cond 84
(.gsk (kp [0,1,9,10,81,82,83]))
(.exit 2))
(.seq (.block 3
(.seq (.reg 0 [mA 85 83, oA 86 (.idx 4 81 83), oA 87 (.load 86 true 4), oA 12 (.allocL [(.str []),(.str []),(.str []),(.str [])]), mA 11 85, oN (.store 12 87 4)] (kp [0,1,9,10,11,12,81,82,83]))
(.seq (.seq (.reg 0 [oA 88 (.off 12 2), oA 89 (.load 88 false 1), oA 90 (.bin .eql 89 (.c (.str []))), mA 91 90, oT 91 92 (.off 12 0), oT 91 93 (.load 92 false 1), oT 91 94 (.bin .neq 93 (.c (.str []))), oA 95 (.pick 91 94 (cB false))] (kp [0,1,9,10,11,12,81,82,83,95]))
(.cond 95
(.seq (.reg 0 [mA 97 0, oA 98 (.off 12 0), oA 99 (.load 98 false 1), oA 100 (.call F_scope_Scope_URI [97,99]), mA 96 100, oA 101 (.ext 96 0), oA 102 (.ext 96 1), mA 13 101, mA 14 102] (kp [0,1,9,10,11,12,13,14,81,82,83]))
(.reg 0 [mA 103 1, oA 104 (.nilck 103), oA 105 (.off 104 6), oA 106 (.load 105 false 1), mA 107 11, mA 108 13, mA 109 9, mA 110 109, oT 110 111 (.mv 14), oA 112 (.pick 110 111 (cB false)), oA 113 (.idx 4 106 107), oA 114 (.off 113 2), oN (.store 114 108 1), mA 9 112] (kp [0,1,9,10,11,12,81,82,83])))
(.gsk (kp [0,1,9,10,11,12,81,82,83]))))
(.cut c_scope_Scope_Names_R19))))
(.reg 0 [oA 135 (.bin .add 83 (cI 1)), mA 83 135] (kp [0,1,9,10,81,82,83])))))
def c_scope_Scope_Names_R23 : VCode := (.seq (.seq (.reg 0 [mA 136 9, oA 137 (.un .not 136)] (kp [0,137]))
(.cond 137
(.seq (.reg 0 [mA 138 0, oA 139 (.call F_scope_Scope_Pop [138])] (kp []))
(.seq (.reg 0 [oA 4 (.mv (cI 2))] (kp [4]))
.ret))
(.gsk (kp []))))
(.seq (.reg 0 [oA 4 (.mv (cI 0))] (kp [4]))
.ret))
def c_scope_Scope_Names_R13 : VCode := (.seq (.seq (.reg 0 [mA 78 1, oA 79 (.nilck 78), oA 80 (.off 79 6), oA 81 (.load 80 false 1), oA 82 (.lenL 81), oA 83 (.mv (cI 0))] (kp [0,1,9,10,81,82,83]))
(.block 2
(.loop c_scope_Scope_Names_L1)))
(.cut c_scope_Scope_Names_R23))
def c_scope_Scope_Names_R10 : VCode := (.seq (.reg 0 [mA 57 0, mA 58 1, oA 59 (.nilck 58), oA 60 (.off 59 2), oA 61 (.load 60 false 1), oA 62 (.call F_scope_Scope_URI [57,61]), mA 56 62, oA 63 (.ext 56 0), oA 64 (.ext 56 1), mA 8 63, mA 9 64] (kp [0,1,8,9]))
(.seq (.reg 0 [mA 65 1, mA 66 8, mA 67 9, mA 68 67, oT 68 69 (.mv 1), oT 68 70 (.nilck 69), oT 68 71 (.off 70 2), oT 68 72 (.load 71 false 1), oT 68 73 (.bin .neq 72 (.c (.str S_xmlns))), oA 74 (.pick 68 73 (cB false)), oA 75 (.nilck 65), oA 76 (.off 75 4), oN (.store 76 66 1), mA 9 74] (kp [0,1,9]))
(.seq (.reg 0 [oA 77 (.mkMap), mA 10 77] (kp [0,1,9,10]))
(.cut c_scope_Scope_Names_R13))))
def c_scope_Scope_Names : VCode := (.seq (.reg 0 [oA 4 (.mv (cI 0))] (kp [0,1]))
(.seq (.seq (.reg 0 [mA 16 1, oA 17 (.nilck 16), oA 18 (.off 17 6), oA 19 (.load 18 false 1), oA 20 (.lenL 19), oA 21 (.mv (cI 0))] (kp [0,1,19,20,21]))
(.block 0
(.loop c_scope_Scope_Names_L0)))
(.seq (.seq (.reg 0 [mA 47 0, mA 48 1, oA 49 (.nilck 48), oA 50 (.off 49 6), oA 51 (.load 50 false 1), oA 52 (.call F_scope_Scope_Push [47,51]), mA 7 52] (kp [0,1,7]))
(.seq (.reg 0 [mA 53 7, oA 54 (.bin .neq 53 (cI 0))] (kp [0,1,7,54]))
(.cond 54
(.seq (.reg 0 [mA 55 7, mA 4 55] (kp [4]))
.ret)
(.gsk (kp [0,1])))))
(.cut c_scope_Scope_Names_R10))))
def r_scope_Scope_Names : List VRes := [.tmp 4]
theorem k_scope_Scope_Names : Fits Tryz.prog F_scope_Scope_Names c_scope_Scope_Names r_scope_Scope_Names := .of Tryz.func66 (by kernel_rfl)
def c_slices_Equal_Lapi_Attr_api_Attr_L0 : VCode := (.seq (.reg 0 [oA 14 (.bin .lss 13 12)] (kp [0,1,12,13,14]))
(.seq (.cond 14
(.gsk (kp [0,1,12,13]))
(.exit 0))
(.seq (.block 1
(.seq (.reg 0 [mA 15 13, mA 5 15] (kp [0,1,5,12,13]))
(.seq (.reg 1 [mA 16 0, mA 17 5, oA 18 (.idx 4 16 17), oA 19 (.load 18 true 4), mA 20 1, mA 21 5, oA 22 (.idx 4 20 21), oA 23 (.load 22 true 4), oA 24 (.eq (EK.t 4) .neq 19 23)] (kp [0,1,12,13,24]))
(.cond 24
(.seq (.reg 0 [oA 4 (.mv (cB false))] (kp [4]))
.ret)
(.gsk (kp [0,1,12,13]))))))
(.reg 0 [oA 25 (.bin .add 13 (cI 1)), mA 13 25] (kp [0,1,12,13])))))
def c_slices_Equal_Lapi_Attr_api_Attr : VCode := (.seq (.reg 0 [oA 4 (.mv (cB false))] (kp [0,1]))
(.seq (.seq (.reg 0 [mA 6 0, oA 7 (.lenL 6), mA 8 1, oA 9 (.lenL 8), oA 10 (.bin .neq 7 9)] (kp [0,1,10]))
(.cond 10
(.seq (.reg 0 [oA 4 (.mv (cB false))] (kp [4]))
.ret)
(.gsk (kp [0,1]))))
(.seq (.seq (.reg 0 [mA 11 0, oA 12 (.lenL 11), oA 13 (.mv (cI 0))] (kp [0,1,12,13]))
(.block 0
(.loop c_slices_Equal_Lapi_Attr_api_Attr_L0)))
(.seq (.reg 0 [oA 4 (.mv (cB true))] (kp [4]))
.ret))))
def r_slices_Equal_Lapi_Attr_api_Attr : List VRes := [.tmp 4]
theorem k_slices_Equal_Lapi_Attr_api_Attr : Fits Tryz.prog F_slices_Equal_Lapi_Attr_api_Attr c_slices_Equal_Lapi_Attr_api_Attr r_slices_Equal_Lapi_Attr_api_Attr := .of Tryz.func67 (by kernel_rfl)
def c_scope_Declares : VCode := (.seq (.reg 0 [oA 1 (.boxL 0), oA 2 (.mv (.c (.str []))), oA 3 (.mv (cB false))] (kp [1]))
(.seq (.block 0
(.seq (.reg 0 [oA 5 (.off 1 2), oA 6 (.load 5 false 1), oA 7 (.bin .neq 6 (.c (.str Shttp_58__47__47_www_46_w3_46__29_391792))), mA 4 7] (kp [1,4]))
(.cond 4
(.seq (.reg 0 [oA 2 (.mv (.c (.str []))), oA 3 (.mv (cB false))] (kp [2,3]))
.ret)
(.seq (.reg 0 [oA 9 (.off 1 0), oA 10 (.load 9 false 1), oA 11 (.bin .eql 10 (.c (.str S_xmlns))), mA 8 11] (kp [1,8]))
(.cond 8
(.seq (.reg 0 [oA 12 (.off 1 1), oA 13 (.load 12 false 1), mA 2 13, oA 3 (.mv (cB true))] (kp [2,3]))
.ret)
(.gsk (kp [1])))))))
(.seq (.reg 1 [oA 14 (.off 1 0), oA 15 (.load 14 false 1), oA 16 (.bin .eql 15 (.c (.str []))), mA 17 16, oT 17 18 (.off 1 1), oT 17 19 (.load 18 false 1), oT 17 20 (.bin .eql 19 (.c (.str S_xmlns))), oA 21 (.pick 17 20 (cB false)), oA 2 (.mv (.c (.str []))), mA 3 21] (kp [2,3]))
.ret)))
def r_scope_Declares : List VRes := [.tmp 2,.tmp 3]
theorem k_scope_Declares : Fits Tryz.prog F_scope_Declares c_scope_Declares r_scope_Declares := .of Tryz.func74 (by kernel_rfl)
def c_scope_wrong : VCode := (.seq (.reg 0 [oA 1 (.boxL 0), oA 2 (.mv (cB false))] (kp [1]))
(.seq (.reg 0 [oA 4 (.off 1 1), oA 5 (.load 4 false 1), mA 3 5] (kp [1,3]))
(.seq (.seq (.reg 0 [oA 6 (.off 1 0), oA 7 (.load 6 false 1), oA 8 (.bin .eql 7 (.c (.str [])))] (kp [1,3,8]))
(.cond 8
(.seq (.reg 0 [oA 9 (.off 1 3), oA 10 (.load 9 false 1), oA 11 (.bin .eql 10 (.c (.str Shttp_58__47__47_www_46_w3_46__36_910846))), mA 12 11, oF 12 13 (.off 1 3), oF 12 14 (.load 13 false 1), oF 12 15 (.bin .eql 14 (.c (.str Shttp_58__47__47_www_46_w3_46__29_391792))), oA 16 (.pick 12 (cB true) 15), mA 2 16] (kp [2]))
.ret)
(.gsk (kp [1,3]))))
(.seq (.block 0
(.seq (.reg 0 [mA 18 3, oA 19 (.bin .eql 18 (.c (.str S_xmlns))), mA 20 19, oF 20 21 (.off 1 3), oF 20 22 (.load 21 false 1), oF 20 23 (.bin .eql 22 (.c (.str Shttp_58__47__47_www_46_w3_46__29_391792))), oA 24 (.pick 20 (cB true) 23), mA 17 24] (kp [1,3,17]))
(.cond 17
(.seq (.reg 0 [oA 2 (.mv (cB true))] (kp [2]))
.ret)
(.seq (.reg 0 [mA 26 3, oA 27 (.bin .eql 26 (.c (.str S_xml))), mA 28 27, oF 28 29 (.off 1 3), oF 28 30 (.load 29 false 1), oF 28 31 (.bin .eql 30 (.c (.str Shttp_58__47__47_www_46_w3_46__36_910846))), oA 32 (.pick 28 (cB true) 31), mA 25 32] (kp [1,3,25]))
(.cond 25
(.seq (.reg 0 [mA 33 3, oA 34 (.bin .neq 33 (.c (.str S_xml))), mA 35 34, oF 35 36 (.off 1 3), oF 35 37 (.load 36 false 1), oF 35 38 (.bin .neq 37 (.c (.str Shttp_58__47__47_www_46_w3_46__36_910846))), oA 39 (.pick 35 (cB true) 38), mA 2 39] (kp [2]))
.ret)
(.gsk (kp [1])))))))
(.seq (.reg 0 [oA 40 (.off 1 3), oA 41 (.load 40 false 1), oA 42 (.bin .eql 41 (.c (.str []))), mA 2 42] (kp [2]))
.ret)))))
def r_scope_wrong : List VRes := [.tmp 2]
theorem k_scope_wrong : Fits Tryz.prog F_scope_wrong c_scope_wrong r_scope_wrong := .of Tryz.func75 (by kernel_rfl)
def c_scope_Scope_Push_c1 : VCode := (.seq (.reg 0 [oA 2 (.boxL 0), oA 3 (.mv (cB false))] (kp [1,2]))
(.seq (.reg 0 [oA 4 (.off 1 0), oA 5 (.load 4 false 1), oA 6 (.off 2 0), oA 7 (.load 6 false 1), oA 8 (.bin .eql 5 7), mA 9 8, oT 9 10 (.off 1 1), oT 9 11 (.load 10 false 1), oT 9 12 (.off 2 1), oT 9 13 (.load 12 false 1), oT 9 14 (.bin .eql 11 13), oA 15 (.pick 9 14 (cB false)), mA 3 15] (kp [3]))
.ret))
def r_scope_Scope_Push_c1 : List VRes := [.tmp 3]
theorem k_scope_Scope_Push_c1 : Fits Tryz.prog F_scope_Scope_Push_c1 c_scope_Scope_Push_c1 r_scope_Scope_Push_c1 := .of Tryz.func76 (by kernel_rfl)
def c_scope_Scope_level : VCode := (.seq (.reg 0 [oA 4 (.mv (.c .nils))] (kp [0,1]))
(.seq (.reg 0 [mA 8 0, oA 9 (.nilck 8), oA 10 (.off 9 0), oA 11 (.load 10 false 1), mA 12 1, oA 13 (.idx 1 11 12), oA 14 (.load 13 false 1), oA 15 (.asrt T_Lapi_Attr .nils 14 true), mA 7 15, oA 16 (.ext 7 0), oA 17 (.ext 7 1), mA 5 16, mA 6 17] (kp [5]))
(.seq (.reg 0 [mA 18 5, mA 4 18] (kp [4]))
.ret)))
def r_scope_Scope_level : List VRes := [.tmp 4]
theorem k_scope_Scope_level : Fits Tryz.prog F_scope_Scope_level c_scope_Scope_level r_scope_Scope_level := .of Tryz.func77 (by kernel_rfl)
def c_scope_Scope_URI_L1 : VCode := (.seq (.reg 0 [oA 28 (.bin .lss 27 26)] (kp [0,1,6,25,26,27,28]))
(.seq (.cond 28
(.gsk (kp [0,1,6,25,26,27]))
(.exit 2))
(.seq (.block 3
(.seq (.reg 0 [oA 29 (.idx 4 25 27), oA 30 (.load 29 true 4), oA 8 (.allocL [(.str []),(.str []),(.str []),(.str [])]), oN (.store 8 30 4)] (kp [0,1,6,8,25,26,27]))
(.seq (.reg 0 [oA 32 (.load 8 true 4), oA 33 (.call F_scope_Declares [32]), mA 31 33, oA 34 (.ext 31 0), oA 35 (.ext 31 1), mA 9 34, mA 10 35] (kp [0,1,6,8,9,25,26,27]))
(.seq (.reg 0 [mA 36 9, mA 37 1, oA 38 (.bin .eql 36 37)] (kp [0,1,6,8,25,26,27,38]))
(.cond 38
(.seq (.reg 0 [oA 39 (.off 8 3), oA 40 (.load 39 false 1), mA 4 40, oA 5 (.mv (cB true))] (kp [4,5]))
.ret)
(.gsk (kp [0,1,6,25,26,27])))))))
(.reg 0 [oA 41 (.bin .add 27 (cI 1)), mA 27 41] (kp [0,1,6,25,26,27])))))
def c_scope_Scope_URI_L0 : VCode := (.seq (.seq (.reg 0 [mA 19 6, oA 20 (.bin .geq 19 (cI 0))] (kp [0,1,6,20]))
(.cond 20
(.gsk (kp [0,1,6]))
(.exit 0)))
(.seq (.block 1
(.seq (.reg 0 [mA 23 0, mA 24 6, oA 25 (.call F_scope_Scope_level [23,24]), oA 26 (.lenL 25), oA 27 (.mv (cI 0))] (kp [0,1,6,25,26,27]))
(.block 2
(.loop c_scope_Scope_URI_L1))))
(.reg 0 [mA 21 6, oA 22 (.bin .sub 21 (cI 1)), mA 6 22] (kp [0,1,6]))))
def c_scope_Scope_URI : VCode := (.seq (.reg 0 [oA 4 (.mv (.c (.str []))), oA 5 (.mv (cB false))] (kp [0,1]))
(.seq (.seq (.reg 0 [mA 11 0, oA 12 (.eq .p .eql 11 (.c .nilp))] (kp [0,1,12]))
(.cond 12
(.seq (.reg 0 [oA 4 (.mv (.c (.str []))), oA 5 (.mv (cB false))] (kp [4,5]))
.ret)
(.gsk (kp [0,1]))))
(.seq (.seq (.reg 0 [mA 13 0, oA 14 (.nilck 13), oA 15 (.off 14 0), oA 16 (.load 15 false 1), oA 17 (.lenL 16), oA 18 (.bin .sub 17 (cI 1)), mA 6 18] (kp [0,1,6]))
(.block 0
(.loop c_scope_Scope_URI_L0)))
(.seq (.seq (.reg 0 [mA 42 1, oA 43 (.bin .eql 42 (.c (.str S_xml)))] (kp [1,43]))
(.cond 43
(.seq (.reg 0 [oA 4 (.mv (.c (.str Shttp_58__47__47_www_46_w3_46__36_910846))), oA 5 (.mv (cB true))] (kp [4,5]))
.ret)
(.gsk (kp [1]))))
(.seq (.reg 0 [mA 44 1, oA 45 (.bin .eql 44 (.c (.str []))), oA 4 (.mv (.c (.str []))), mA 5 45] (kp [4,5]))
.ret)))))
def r_scope_Scope_URI : List VRes := [.tmp 4,.tmp 5]
theorem k_scope_Scope_URI : Fits Tryz.prog F_scope_Scope_URI c_scope_Scope_URI r_scope_Scope_URI := .of Tryz.func80 (by kernel_rfl)
def c_slices_IndexFunc_Lapi_Attr_api_Attr_L0 : VCode := (.seq (.reg 0 [oA 9 (.bin .lss 8 7)] (kp [0,1,7,8,9]))
(.seq (.cond 9
(.gsk (kp [0,1,7,8]))
(.exit 0))
(.seq (.block 1
(.seq (.reg 0 [mA 10 8, mA 5 10] (kp [0,1,5,7,8]))
(.seq (.reg 0 [mA 11 1, mA 12 0, mA 13 5, oA 14 (.idx 4 12 13), oA 15 (.load 14 true 4), oA 16 (.callv 11 [15])] (kp [0,1,5,7,8,16]))
(.cond 16
(.seq (.reg 0 [mA 17 5, mA 4 17] (kp [4]))
.ret)
(.gsk (kp [0,1,7,8]))))))
(.reg 0 [oA 18 (.bin .add 8 (cI 1)), mA 8 18] (kp [0,1,7,8])))))
def c_slices_IndexFunc_Lapi_Attr_api_Attr : VCode := (.seq (.reg 0 [oA 4 (.mv (cI 0))] (kp [0,1]))
(.seq (.seq (.reg 0 [mA 6 0, oA 7 (.lenL 6), oA 8 (.mv (cI 0))] (kp [0,1,7,8]))
(.block 0
(.loop c_slices_IndexFunc_Lapi_Attr_api_Attr_L0)))
(.seq (.reg 0 [oA 4 (.mv (cI (-1)))] (kp [4]))
.ret)))
def r_slices_IndexFunc_Lapi_Attr_api_Attr : List VRes := [.tmp 4]
theorem k_slices_IndexFunc_Lapi_Attr_api_Attr : Fits Tryz.prog F_slices_IndexFunc_Lapi_Attr_api_Attr c_slices_IndexFunc_Lapi_Attr_api_Attr r_slices_IndexFunc_Lapi_Attr_api_Attr := .of Tryz.func105 (by kernel_rfl)
end Go.Proofs.YtpcbnpekdmobpaaGreatDoor
set_option maxRecDepth 100000
set_option linter.unusedVariables false
open Go Go.Ev Go.VL
namespace Go.Proofs.YtpcbnpekdmobpaaGreatDoor
def c_law16_TreeNexts : VCode := (.seq (.reg 0 [oA 4 (.mv (cB false))] (kp [0,1]))
(.seq (.reg 0 [mA 12 0, oA 13 (.call F_law16_Make [12]), mA 5 13] (kp [1,5]))
(.seq (.reg 0 [mA 14 1, oA 15 (.cint .u64 14), mA 16 5, oA 17 (.lenL 16), oA 18 (.cint .u64 17), oA 19 (.bin .rem 15 18), oA 20 (.cint .i64 19), mA 6 20] (kp [5,6]))
(.seq (.reg 0 [mA 21 5, mA 22 6, oA 23 (.idx 7 21 22), oA 24 (.off 23 1), oA 25 (.load 24 false 1), mA 7 25] (kp [5,6,7]))
(.seq (.seq (.reg 0 [mA 26 5, mA 27 6, oA 28 (.idx 7 26 27), oA 29 (.off 28 0), oA 30 (.load 29 false 1), oA 31 (.bin .eql 30 (cI 2)), mA 32 31, oF 32 33 (.mv 5), oF 32 34 (.mv 6), oF 32 35 (.idx 7 33 34), oF 32 36 (.off 35 0), oF 32 37 (.load 36 false 1), oF 32 38 (.bin .eql 37 (cI 1)), oA 39 (.pick 32 (cB true) 38)] (kp [5,6,7,39]))
(.cond 39
(.reg 0 [mA 40 7, oA 41 (.bin .add 40 (cI 1)), mA 7 41] (kp [5,6,7]))
(.gsk (kp [5,6,7]))))
(.seq (.reg 0 [mA 42 5, mA 43 6, mA 44 7, oA 45 (.build [(.int .i64 0),(.int .i64 0),(.str []),(.str []),(.str []),(.str []),.nils] [(0,1,(cI 4)),(1,1,44),(5,1,(.c (.str S_c)))]), ⟨some 46,.call F_law16_put [42,43,45],none,[.fza 45 6 4],.n []⟩, mA 8 46] (kp [5,6,7,8]))
(.seq (.reg 0 [mA 47 5, mA 48 6, mA 49 7, oA 50 (.build [(.int .i64 0),(.int .i64 0),(.str []),(.str []),(.str []),(.str []),.nils] [(0,1,(cI 3)),(1,1,49),(5,1,(.c (.str S_x)))]), ⟨some 51,.call F_law16_put [47,48,50],none,[.fza 50 6 4],.n []⟩, mA 9 51] (kp [5,6,7,8,9]))
(.seq (.reg 0 [oA 52 (.buildF 7 0 [(.int .i64 0),(.int .i64 0),(.str []),(.str []),(.str []),(.str []),.nils] []), mA 53 5, oA 54 (.app 7 [(.int .i64 0),(.int .i64 0),(.str []),(.str []),(.str []),(.str []),.nils] 104 T_api_Node 52 53), oA 55 (.build [(.int .i64 0),(.int .i64 0),(.str []),(.str []),(.str []),(.str []),.nils] [(0,1,(cI 2)),(1,1,(cI 1)),(3,1,(.c (.str S_z)))]), ⟨some 56,.buildF 7 1 [(.int .i64 0),(.int .i64 0),(.str []),(.str []),(.str []),(.str []),.nils] [(0,55)],none,[.fza 55 6 4],.n []⟩, oA 57 (.app 7 [(.int .i64 0),(.int .i64 0),(.str []),(.str []),(.str []),(.str []),.nils] 104 T_api_Node 54 56), mA 10 57] [.fzs 10 7,.keep [5,6,7,8,9,10]])
(.seq (.reg 0 [mA 58 5, mA 59 6, oA 60 (.idx 7 58 59), oA 61 (.off 60 0), oA 62 (.load 61 false 1), oA 63 (.bin .eql 62 (cI 3)), mA 64 63, oF 64 65 (.mv 6), oF 64 66 (.bin .add 65 (cI 1)), oF 64 67 (.mv 5), oF 64 68 (.lenL 67), oF 64 69 (.bin .lss 66 68), oF 64 70 (.mv 69), oT 70 71 (.mv 5), oT 70 72 (.mv 6), oT 70 73 (.bin .add 72 (cI 1)), oT 70 74 (.idx 7 71 73), oT 70 75 (.off 74 0), oT 70 76 (.load 75 false 1), oT 70 77 (.bin .eql 76 (cI 3)), oF 64 78 (.pick 70 77 (cB false)), oF 64 79 (.mv 78), oT 79 80 (.mv 5), oT 79 81 (.mv 6), oT 79 82 (.bin .add 81 (cI 1)), oT 79 83 (.idx 7 80 82), oT 79 84 (.off 83 1), oT 79 85 (.load 84 false 1), oT 79 86 (.mv 7), oT 79 87 (.bin .eql 85 86), oF 64 88 (.pick 79 87 (cB false)), oA 89 (.pick 64 (cB true) 88), mA 11 89] (kp [5,7,8,9,10,11]))
(.seq (.reg 0 [oA 90 (.call F_law16_told []), mA 91 90, oT 91 92 (.mv 8), oT 91 93 (.call F_tree_May [92]), oA 94 (.pick 91 93 (cB false)), mA 95 94, oT 95 96 (.mv 10), oT 95 97 (.call F_tree_May [96]), oT 95 98 (.un .not 97), oA 99 (.pick 95 98 (cB false)), mA 100 99, oT 100 101 (.mv 9), oT 100 102 (.call F_tree_May [101]), oT 100 103 (.mv 7), oT 100 104 (.bin .gtr 103 (cI 1)), oT 100 105 (.mv 104), oT 105 106 (.mv 11), oT 105 107 (.un .not 106), oT 100 108 (.pick 105 107 (cB false)), oT 100 109 (.eq .b .eql 102 108), oA 110 (.pick 100 109 (cB false)), mA 111 110, oT 111 112 (.mv 5), oT 111 113 (.call F_ref15_May [112]), oA 114 (.pick 111 113 (cB false)), mA 4 114] (kp [4]))
.ret))))))))))
def r_law16_TreeNexts : List VRes := [.tmp 4]
theorem k_law16_TreeNexts : Fits Tryz.prog F_law16_TreeNexts c_law16_TreeNexts r_law16_TreeNexts := .of Tryz.func3 (by kernel_rfl)
def c_law16_put : VCode := (.seq (.reg 0 [oA 5 (.boxL 2), oA 6 (.mv (.c .nils))] [.fz 5,.keep [0,1,5]])
(.seq (.reg 2 [oA 7 (.buildF 7 0 [(.int .i64 0),(.int .i64 0),(.str []),(.str []),(.str []),(.str []),.nils] []), ⟨some 8,.mv 0,none,[],.e⟩, ⟨some 9,.mv 1,none,[],.e⟩, ⟨some 10,.bin .add 9 (cI 1),none,[],.e⟩, ⟨some 11,.cutL 7 8 none (some 10) none,none,[],.e⟩, ⟨some 12,.app 7 [(.int .i64 0),(.int .i64 0),(.str []),(.str []),(.str []),(.str []),.nils] 104 T_api_Node 7 11,none,[],.n [6,12]⟩, ⟨some 13,.load 5 true 7,none,[],.e⟩, oA 14 (.buildF 7 1 [(.int .i64 0),(.int .i64 0),(.str []),(.str []),(.str []),(.str []),.nils] [(0,13)]), ⟨some 15,.app 7 [(.int .i64 0),(.int .i64 0),(.str []),(.str []),(.str []),(.str []),.nils] 104 T_api_Node 12 14,none,[],.n [12]⟩, ⟨some 16,.mv 0,none,[],.e⟩, ⟨some 17,.mv 1,none,[],.e⟩, ⟨some 18,.bin .add 17 (cI 1),none,[],.e⟩, ⟨some 19,.cutL 7 16 (some 18) none none,none,[],.e⟩, oA 20 (.app 7 [(.int .i64 0),(.int .i64 0),(.str []),(.str []),(.str []),(.str []),.nils] 104 T_api_Node 15 19), mA 6 20] [.fzs 6 7,.keep [6]])
.ret))
def r_law16_put : List VRes := [.tmp 6]
theorem k_law16_put : Fits Tryz.prog F_law16_put c_law16_put r_law16_put := .of Tryz.func10 (by kernel_rfl)
end Go.Proofs.YtpcbnpekdmobpaaGreatDoor
