/- What SpaceSmall rests on; no condition. -/
import Derived.Test.YtjoadepfokpcoaaGreatDoorSpC
set_option linter.unusedSimpArgs false
set_option linter.unusedVariables false
set_option linter.constructorNameAsVariable false
set_option linter.unnecessarySimpa false
set_option maxRecDepth 100000
set_option linter.unusedVariables false
open Go Go.Ev Go.VL
namespace Go.Proofs.YtjoadepfokpcoaaGreatDoor
def LZ:aD:=(.seq (.seq (.reg 0 [mA 70 4,oA 71 (.nilck 70),oA 72 (.off 71 0),oA 73 (.load 72 false 1),oA 74 (.lenL 73),mA 75 10,oA 76 (.bin .geq 74 75)] (kp [0,3,4,5,6,7,8,10,76]))
(.cond 76
(.gsk (kp [0,3,4,5,6,7,8,10]))
(.exit 2)))
(.block 3
(.reg 0 [mA 77 4,oA 78 (.call pK [77])] (kp [0,3,4,5,6,7,8,10]))))
def L7:aD:=(.seq (.reg 0 [oA 106 (.buildF 1 4 [(.str [])] [(0,(.c (.str S_a))),(1,(.c (.str S_b))),(2,(.c (.str S_c))),(3,(.c (.str S_a)))]),mA 107 7,oA 108 (.bin .quo 107 (cU 8)),oA 109 (.bin .rem 108 (cU 4)),oA 110 (.idx 1 106 109),oA 111 (.load 110 false 1),oA 112 (.off 11 0),oN (.store 112 (cI 2) 1),oA 113 (.off 11 3),oN (.store 113 111 1)] (kp [0,3,4,5,6,7,10,11]))
(.seq (.reg 0 [mA 114 7,oA 115 (.bin .quo 114 (cU 32)),oA 116 (.call uH [115]),oA 117 (.off 11 6),oN (.store 117 116 1)] (kp [0,3,4,5,6,7,10,11]))
(.seq (.reg 0 [oA 118 (.buildF 1 4 [(.str [])] [(0,(.c (.str []))),(1,(.c (.str []))),(2,(.c (.str S_p))),(3,(.c (.str S_q)))]),mA 119 7,oA 120 (.bin .quo 119 (cU 256)),oA 121 (.bin .rem 120 (cU 4)),oA 122 (.idx 1 118 121),oA 123 (.load 122 false 1),oA 124 (.off 11 2),oN (.store 124 123 1)] (kp [0,3,4,5,6,10,11]))
(.seq (.seq (.reg 0 [mA 125 4,oA 126 (.off 11 6),oA 127 (.load 126 false 1),oA 128 (.call pL [125,127]),oA 129 (.bin .neq 128 (cI 0))] (kp [0,3,4,5,6,10,11,129]))
(.cond 129
(.exit 1)
(.gsk (kp [0,3,4,5,6,10,11]))))
(.seq (.seq (.reg 0 [mA 130 4,oA 131 (.call pM [130,11]),oA 132 (.un .not 131)] (kp [0,3,4,5,6,10,11,132]))
(.cond 132
(.seq (.reg 0 [mA 133 4,oA 134 (.call pK [133])] (kp [0,3,4,5,6,10,11]))
(.seq (.reg 0 [oA 135 (.off 11 2),oN (.store 135 (.c (.str [])) 1),oA 136 (.off 11 6),oN (.store 136 (.c .nils) 1)] (kp [0,3,4,5,6,10,11]))
(.seq (.reg 0 [mA 137 4,oA 138 (.call pL [137,(.c .nils)]),oA 139 (.bin .neq 138 (cI 0)),mA 140 139,oF 140 141 (.mv 4),oF 140 142 (.call pM [141,11]),oF 140 143 (.un .not 142),oA 144 (.pick 140 (cB true) 143)] (kp [0,3,4,5,6,10,11,144]))
(.cond 144
(.exit 1)
(.gsk (kp [0,3,4,5,6,10,11]))))))
(.gsk (kp [0,3,4,5,6,10,11]))))
(.reg 0 [mA 145 5,mA 146 145,oF 146 147 (.mv 10),oF 146 148 (.bin .eql 147 (cI 1)),oA 149 (.pick 146 (cB true) 148),mA 5 149] (kp [0,3,4,5,6,11])))))))
def L0:aD:=(.seq (.reg 0 [mA 99 12,oA 100 (.bin .lss 99 (cU 4)),mA 98 100] (kp [0,3,4,5,6,7,8,10,11,12,98]))
(.cond 98
(.seq (.seq (.reg 0 [mA 101 10,oA 102 (.bin .eql 101 (cI 1)),mA 103 102,oT 103 104 (.mv 5),oA 105 (.pick 103 104 (cB false))] (kp [0,3,4,5,6,7,10,11,105]))
(.cond 105
(.exit 1)
(.gsk (kp [0,3,4,5,6,7,10,11]))))
(.cut L7))
(.seq (.reg 0 [mA 151 12,oA 152 (.bin .lss 151 (cU 6)),mA 150 152] (kp [0,3,4,5,6,7,8,10,11,12,150]))
(.cond 150
(.seq (.reg 0 [oA 153 (.buildF 1 6 [(.str [])] [(0,(.c (.str S_x))),(1,(.c (.str rS))),(2,(.c (.str rV))),(3,(.c (.str rP))),(4,(.c (.str rQ))),(5,(.c (.str rY)))]),mA 154 7,oA 155 (.bin .quo 154 (cU 8)),oA 156 (.bin .rem 155 (cU 6)),oA 157 (.idx 1 153 156),oA 158 (.load 157 false 1),oA 159 (.off 11 0),oN (.store 159 (cI 3) 1),oA 160 (.off 11 5),oN (.store 160 158 1)] (kp [0,3,4,5,6,8,10,11]))
(.seq (.reg 0 [mA 161 10,oA 162 (.bin .eql 161 (cI 1)),mA 163 162,oF 163 164 (.off 8 0),oF 163 165 (.load 164 false 1),oF 163 166 (.bin .eql 165 (cI 3)),oF 163 167 (.mv 166),oT 167 168 (.off 8 1),oT 167 169 (.load 168 false 1),oT 167 170 (.mv 10),oT 167 171 (.bin .eql 169 170),oF 163 172 (.pick 167 171 (cB false)),oA 173 (.pick 163 (cB true) 172)] (kp [0,3,4,5,6,11,173]))
(.cond 173
(.exit 1)
(.gsk (kp [0,3,4,5,6,11])))))
(.seq (.reg 0 [mA 175 12,oA 176 (.bin .eql 175 (cU 6)),mA 174 176] (kp [0,3,4,5,6,7,11,174]))
(.cond 174
(.reg 0 [oA 177 (.buildF 1 4 [(.str [])] [(0,(.c (.str []))),(1,(.c (.str S_c))),(2,(.c (.str rR))),(3,(.c (.str rU)))]),mA 178 7,oA 179 (.bin .quo 178 (cU 8)),oA 180 (.bin .rem 179 (cU 4)),oA 181 (.idx 1 177 180),oA 182 (.load 181 false 1),oA 183 (.off 11 0),oN (.store 183 (cI 4) 1),oA 184 (.off 11 5),oN (.store 184 182 1)] (kp [0,3,4,5,6,11]))
(.reg 1 [oA 83 (.buildF 1 2 [(.str [])] [(0,(.c (.str rX))),(1,(.c (.str S_q)))]),mA 84 7,oA 85 (.bin .quo 84 (cU 8)),oA 86 (.bin .rem 85 (cU 2)),oA 87 (.idx 1 83 86),oA 88 (.load 87 false 1),oA 89 (.buildF 1 3 [(.str [])] [(0,(.c (.str []))),(1,(.c (.str S_d))),(2,(.c (.str rZ)))]),mA 90 7,oA 91 (.bin .quo 90 (cU 16)),oA 92 (.bin .rem 91 (cU 3)),oA 93 (.idx 1 89 92),oA 94 (.load 93 false 1),oA 95 (.off 11 0),oN (.store 95 (cI 5) 1),oA 96 (.off 11 3),oN (.store 96 88 1),oA 97 (.off 11 5),oN (.store 97 94 1)] (kp [0,3,4,5,6,11]))))))))
def ED:aD:=(.seq (.block 2
(.loop LZ))
(.seq (.reg 0 [mA 79 10,oA 80 (.build [(.int .i64 0),(.int .i64 0),(.str []),(.str []),(.str []),(.str []),.nils] [(1,1,79)]),oA 11 (.allocH [(.int .i64 0),(.int .i64 0),(.str []),(.str []),(.str []),(.str []),.nils] cS),oN (.store 11 80 7)] (kp [0,3,4,5,6,7,8,10,11]))
(.seq (.seq (.reg 0 [mA 81 7,oA 82 (.bin .rem 81 (cU 8)),mA 12 82] (kp [0,3,4,5,6,7,8,10,11,12]))
(.block 4
(.cut L0)))
(.reg 0 [mA 185 3,oA 186 (.load 11 true 7),⟨some 187,.buildF 7 1 [(.int .i64 0),(.int .i64 0),(.str []),(.str []),(.str []),(.str []),.nils] [(0,186)],none,[.fza 186 6 4],.n []⟩,oA 188 (.app 7 [(.int .i64 0),(.int .i64 0),(.str []),(.str []),(.str []),(.str []),.nils] 104 cS 185 187),mA 3 188] (kp [0,3,4,5,6])))))
def L8:aD:=(.seq (.reg 0 [oA 38 (.off 8 1),oA 39 (.load 38 false 1),mA 9 39] (kp [0,3,4,5,6,7,8,9]))
(.seq (.seq (.reg 0 [oA 40 (.off 8 0),oA 41 (.load 40 false 1),oA 42 (.bin .eql 41 (cI 2)),mA 43 42,oF 43 44 (.off 8 0),oF 43 45 (.load 44 false 1),oF 43 46 (.bin .eql 45 (cI 1)),oA 47 (.pick 43 (cB true) 46)] (kp [0,3,4,5,6,7,8,9,47]))
(.cond 47
(.reg 0 [mA 48 9,oA 49 (.bin .add 48 (cI 1)),mA 9 49] (kp [0,3,4,5,6,7,8,9]))
(.gsk (kp [0,3,4,5,6,7,8,9]))))
(.seq (.reg 0 [mA 50 9,mA 51 7,oA 52 (.bin .quo 51 (cU 64)),oA 53 (.cint .i64 52),oA 54 (.bin .rem 53 (cI 3)),oA 55 (.bin .sub 50 54),mA 10 55] (kp [0,3,4,5,6,7,8,9,10]))
(.seq (.seq (.reg 0 [mA 56 10,oA 57 (.bin .lss 56 (cI 1))] (kp [0,3,4,5,6,7,8,9,10,57]))
(.cond 57
(.reg 0 [oA 10 (.mv (cI 1))] (kp [0,3,4,5,6,7,8,9,10]))
(.gsk (kp [0,3,4,5,6,7,8,9,10]))))
(.seq (.seq (.reg 0 [mA 58 5,mA 59 58,oT 59 60 (.mv 10),oT 59 61 (.bin .lss 60 (cI 2)),oA 62 (.pick 59 61 (cB false)),mA 63 62,oT 63 64 (.mv 7),oT 63 65 (.bin .rem 64 (cU 8)),oT 63 66 (.bin .lss 65 (cU 6)),oA 67 (.pick 63 66 (cB false))] (kp [0,3,4,5,6,7,8,9,10,67]))
(.cond 67
(.reg 0 [mA 68 9,oA 69 (.mn [(cI 2),68]),mA 10 69] (kp [0,3,4,5,6,7,8,10]))
(.gsk (kp [0,3,4,5,6,7,8,10]))))
(.cut ED))))))
def LY:aD:=(.seq (.seq (.reg 0 [mA 17 6,mA 18 0,oA 19 (.lenL 18),oA 20 (.bin .lss 17 19),mA 21 20,oT 21 22 (.mv 6),oT 21 23 (.bin .lss 22 (cI 30)),oA 24 (.pick 21 23 (cB false))] (kp [0,3,4,5,6,24]))
(.cond 24
(.gsk (kp [0,3,4,5,6]))
(.exit 0)))
(.seq (.block 1
(.seq (.reg 0 [mA 27 0,mA 28 6,oA 29 (.idx 1 27 28),oA 30 (.load 29 false 1),oA 31 (.cint .u64 30),mA 7 31] (kp [0,3,4,5,6,7]))
(.seq (.reg 0 [mA 32 3,mA 33 3,oA 34 (.lenL 33),oA 35 (.bin .sub 34 (cI 1)),oA 36 (.idx 7 32 35),oA 37 (.load 36 true 7),oA 8 (.allocL [(.int .i64 0),(.int .i64 0),(.str []),(.str []),(.str []),(.str []),.nils]),oN (.store 8 37 7)] (kp [0,3,4,5,6,7,8]))
(.cut L8))))
(.reg 0 [mA 25 6,oA 26 (.bin .add 25 (cI 1)),mA 6 26] (kp [0,3,4,5,6]))))
def ZQ:aD:=(.seq (.reg 0 [oA 2 (.mv (.c .nils))] (kp [0]))
(.seq (.reg 0 [oA 13 (.build [(.int .i64 0),(.int .i64 0),(.str []),(.str []),(.str []),(.str []),.nils] [(0,1,(cI 1))]),⟨some 14,.buildH 7 1 [(.int .i64 0),(.int .i64 0),(.str []),(.str []),(.str []),(.str []),.nils] [(0,13)] cS,none,[.fza 13 6 4],.n []⟩,mA 3 14] (kp [0,3]))
(.seq (.reg 0 [oA 15 (.build [.nils] []),⟨some 16,.boxH 15 KN,none,[.fza 15 0 1],.n []⟩,mA 4 16] (kp [0,3,4]))
(.seq (.reg 0 [oA 5 (.mv (cB false))] (kp [0,3,4,5]))
(.seq (.seq (.reg 0 [oA 6 (.mv (cI 0))] (kp [0,3,4,5,6]))
(.block 0
(.loop LY)))
(.seq (.seq (.reg 0 [mA 189 5,oA 190 (.un .not 189)] (kp [3,190]))
(.cond 190
(.reg 0 [mA 191 3,oA 192 (.build [(.int .i64 0),(.int .i64 0),(.str []),(.str []),(.str []),(.str []),.nils] [(0,1,(cI 2)),(1,1,(cI 1)),(3,1,(.c (.str S_r)))]),⟨some 193,.buildF 7 1 [(.int .i64 0),(.int .i64 0),(.str []),(.str []),(.str []),(.str []),.nils] [(0,192)],none,[.fza 192 6 4],.n []⟩,oA 194 (.app 7 [(.int .i64 0),(.int .i64 0),(.str []),(.str []),(.str []),(.str []),.nils] 104 cS 191 193),mA 3 194] (kp [3]))
(.gsk (kp [3]))))
(.seq (.seq (.reg 0 [⟨some 195,.mv 3,none,[.fzs 3 7],.n []⟩,oA 196 (.call uQ [195]),oA 197 (.un .not 196)] (kp [3,197]))
(.cond 197
(.seq (.reg 0 [oA 198 (.build [(.int .i64 0),(.int .i64 0),(.str []),(.str []),(.str []),(.str []),.nils] [(0,1,(cI 1))]),oA 199 (.build [(.int .i64 0),(.int .i64 0),(.str []),(.str []),(.str []),(.str []),.nils] [(0,1,(cI 2)),(1,1,(cI 1)),(3,1,(.c (.str S_r)))]),⟨some 200,.buildF 7 2 [(.int .i64 0),(.int .i64 0),(.str []),(.str []),(.str []),(.str []),.nils] [(0,198),(1,199)],none,[.fza 198 6 4,.fza 199 6 4],.n []⟩,mA 2 200] [.fzs 2 7,.keep [2]])
.ret)
(.gsk (kp [3]))))
(.seq (.reg 0 [mA 201 3,mA 2 201] (kp [2]))
.ret))))))))
def aHI:List aJ:=[.tmp 2]
theorem aD0:aL Tryz.prog x9 ZQ aHI:=.of Tryz.func11 (by kernel_rfl)
def MB:aD:=(.seq (.seq (.reg 0 [mA 57 0,oA 58 (.bin .and 57 (cU 256)),oA 59 (.bin .eql 58 (cU 256))] (kp [3,59]))
(.cond 59
(.reg 0 [mA 60 3,oA 61 (.build [(.str []),(.str []),(.str []),(.str [])] [(0,1,(.c (.str bH))),(1,1,(.c (.str S_q))),(2,1,(.c (.str fJ))),(3,1,(.c (.str S_u)))]),oA 62 (.buildF 4 1 [(.str []),(.str []),(.str []),(.str [])] [(0,61)]),oA 63 (.app 4 [(.str []),(.str []),(.str []),(.str [])] 64 iR 60 62),mA 3 63] (kp [3]))
(.gsk (kp [3]))))
(.seq (.reg 0 [mA 64 3,mA 2 64] (kp [2]))
.ret))
def MA:aD:=(.seq (.seq (.reg 0 [mA 50 0,oA 51 (.bin .and 50 (cU 128)),oA 52 (.bin .eql 51 (cU 128))] (kp [0,3,52]))
(.cond 52
(.reg 0 [mA 53 3,oA 54 (.build [(.str []),(.str []),(.str []),(.str [])] [(0,1,(.c (.str dQ))),(1,1,(.c (.str DF))),(3,1,(.c (.str S_i)))]),oA 55 (.buildF 4 1 [(.str []),(.str []),(.str []),(.str [])] [(0,54)]),oA 56 (.app 4 [(.str []),(.str []),(.str []),(.str [])] 64 iR 53 55),mA 3 56] (kp [0,3]))
(.gsk (kp [0,3]))))
(.cut MB))
def MF:aD:=(.seq (.seq (.reg 0 [mA 43 0,oA 44 (.bin .and 43 (cU 64)),oA 45 (.bin .eql 44 (cU 64))] (kp [0,3,45]))
(.cond 45
(.reg 0 [mA 46 3,oA 47 (.build [(.str []),(.str []),(.str []),(.str [])] [(0,1,(.c (.str S_p))),(1,1,(.c (.str S_x))),(3,1,(.c (.str S_2)))]),oA 48 (.buildF 4 1 [(.str []),(.str []),(.str []),(.str [])] [(0,47)]),oA 49 (.app 4 [(.str []),(.str []),(.str []),(.str [])] 64 iR 46 48),mA 3 49] (kp [0,3]))
(.gsk (kp [0,3]))))
(.cut MA))
def ME:aD:=(.seq (.seq (.reg 0 [mA 30 0,oA 31 (.bin .and 30 (cU 16)),oA 32 (.bin .eql 31 (cU 16))] (kp [0,3,32]))
(.cond 32
(.reg 0 [mA 33 3,oA 34 (.buildF 1 4 [(.str [])] [(0,(.c (.str S_1))),(1,(.c (.str zN))),(2,(.c (.str zP))),(3,(.c (.str iC)))]),mA 35 0,oA 36 (.bin .quo 35 (cU 32)),oA 37 (.bin .rem 36 (cU 4)),oA 38 (.idx 1 34 37),oA 39 (.load 38 false 1),oA 40 (.build [(.str []),(.str []),(.str []),(.str [])] [(1,1,(.c (.str S_x))),(3,1,39)]),oA 41 (.buildF 4 1 [(.str []),(.str []),(.str []),(.str [])] [(0,40)]),oA 42 (.app 4 [(.str []),(.str []),(.str []),(.str [])] 64 iR 33 41),mA 3 42] (kp [0,3]))
(.gsk (kp [0,3]))))
(.cut MF))
def MD:aD:=(.seq (.seq (.reg 0 [mA 17 0,oA 18 (.bin .and 17 (cU 4)),oA 19 (.bin .eql 18 (cU 4))] (kp [0,3,19]))
(.cond 19
(.reg 0 [mA 20 3,oA 21 (.buildF 1 3 [(.str [])] [(0,(.c (.str S_u))),(1,(.c (.str []))),(2,(.c (.str S_w)))]),mA 22 0,oA 23 (.bin .quo 22 (cU 8)),oA 24 (.bin .rem 23 (cU 3)),oA 25 (.idx 1 21 24),oA 26 (.load 25 false 1),oA 27 (.build [(.str []),(.str []),(.str []),(.str [])] [(1,1,(.c (.str bH))),(2,1,(.c (.str fJ))),(3,1,26)]),oA 28 (.buildF 4 1 [(.str []),(.str []),(.str []),(.str [])] [(0,27)]),oA 29 (.app 4 [(.str []),(.str []),(.str []),(.str [])] 64 iR 20 28),mA 3 29] (kp [0,3]))
(.gsk (kp [0,3]))))
(.cut ME))
def MC:aD:=(.seq (.seq (.reg 0 [mA 4 0,oA 5 (.bin .and 4 (cU 1)),oA 6 (.bin .eql 5 (cU 1))] (kp [0,3,6]))
(.cond 6
(.reg 0 [mA 7 3,oA 8 (.buildF 1 2 [(.str [])] [(0,(.c (.str S_u))),(1,(.c (.str S_v)))]),mA 9 0,oA 10 (.bin .quo 9 (cU 2)),oA 11 (.bin .rem 10 (cU 2)),oA 12 (.idx 1 8 11),oA 13 (.load 12 false 1),oA 14 (.build [(.str []),(.str []),(.str []),(.str [])] [(0,1,(.c (.str bH))),(1,1,(.c (.str S_p))),(2,1,(.c (.str fJ))),(3,1,13)]),oA 15 (.buildF 4 1 [(.str []),(.str []),(.str []),(.str [])] [(0,14)]),oA 16 (.app 4 [(.str []),(.str []),(.str []),(.str [])] 64 iR 7 15),mA 3 16] (kp [0,3]))
(.gsk (kp [0,3]))))
(.cut MD))
def ZR:aD:=(.seq (.reg 0 [oA 2 (.mv (.c .nils))] (kp [0]))
(.seq (.reg 0 [oA 3 (.mv (.c .nils))] (kp [0,3]))
(.cut MC)))
def aHJ:List aJ:=[.tmp 2]
theorem aD1:aL Tryz.prog uH ZR aHJ:=.of Tryz.func46 (by kernel_rfl)
end Go.Proofs.YtjoadepfokpcoaaGreatDoor
set_option maxRecDepth 100000
set_option linter.unusedVariables false
namespace Go.Proofs.YtjoadepfokpcoaaGreatDoor
def aAW:aD:=(.seq (.reg 0 [oA 2 (.mv (cB false))] (kp [0]))
(.seq (.seq (.reg 0 [mA 3 0,oA 4 (.nilck 3),oA 5 (.off 4 0),oA 6 (.load 5 false 1),oA 7 (.lenL 6),oA 8 (.bin .eql 7 (cI 0))] (kp [0,8]))
(.cond 8
(.seq (.reg 0 [oA 2 (.mv (cB false))] (kp [2]))
.ret)
(.gsk (kp [0]))))
(.seq (.reg 1 [mA 9 0,mA 10 0,oA 11 (.nilck 10),oA 12 (.off 11 0),oA 13 (.load 12 false 1),mA 14 0,oA 15 (.nilck 14),oA 16 (.off 15 0),oA 17 (.load 16 false 1),oA 18 (.lenL 17),oA 19 (.bin .sub 18 (cI 1)),oA 20 (.cutL 1 13 none (some 19) none),oA 21 (.nilck 9),oA 22 (.off 21 0),oN (.store 22 20 1)] (kp []))
(.seq (.reg 0 [oA 2 (.mv (cB true))] (kp [2]))
.ret))))
def aHa:List aJ:=[.tmp 2]
theorem aDr:aL Tryz.prog pK aAW aHa:=.of Tryz.func45 (by kernel_rfl)
def MJ:aD:=(.seq (.seq (.reg 0 [mA 80 11,mA 81 5,oA 82 (.lenL 81),oA 83 (.bin .lss 80 82)] (kp [0,1,5,6,11,83]))
(.cond 83
(.gsk (kp [0,1,5,6,11]))
(.exit 2)))
(.seq (.block 3
(.seq (.reg 1 [mA 86 5,mA 87 11,oA 88 (.idx 4 86 87),oA 89 (.off 88 0),oA 90 (.load 89 false 1),mA 91 1,mA 92 6,oA 93 (.idx 4 91 92),oA 94 (.off 93 0),oA 95 (.load 94 false 1),oA 96 (.bin .eql 90 95),mA 97 96,oT 97 98 (.mv 5),oT 97 99 (.mv 11),oT 97 100 (.idx 4 98 99),oT 97 101 (.off 100 1),oT 97 102 (.load 101 false 1),oT 97 103 (.mv 1),oT 97 104 (.mv 6),oT 97 105 (.idx 4 103 104),oT 97 106 (.off 105 1),oT 97 107 (.load 106 false 1),oT 97 108 (.bin .eql 102 107),oA 109 (.pick 97 108 (cB false))] (kp [0,1,5,6,11,109]))
(.cond 109
(.seq (.reg 0 [oA 4 (.mv (cI 2))] (kp [4]))
.ret)
(.gsk (kp [0,1,5,6,11])))))
(.reg 0 [mA 84 11,oA 85 (.bin .add 84 (cI 1)),mA 11 85] (kp [0,1,5,6,11]))))
def MK:aD:=(.seq (.seq (.reg 0 [oA 11 (.mv (cI 0))] (kp [0,1,5,6,11]))
(.block 2
(.loop MJ)))
(.reg 0 [mA 110 5,mA 111 1,mA 112 6,oA 113 (.idx 4 111 112),oA 114 (.load 113 true 4),oA 115 (.buildF 4 1 [(.str []),(.str []),(.str []),(.str [])] [(0,114)]),oA 116 (.app 4 [(.str []),(.str []),(.str []),(.str [])] 64 iR 110 115),mA 5 116] (kp [0,1,5,6])))
def MI:aD:=(.seq (.seq (.reg 0 [mA 12 6,mA 13 1,oA 14 (.lenL 13),oA 15 (.bin .lss 12 14)] (kp [0,1,5,6,15]))
(.cond 15
(.gsk (kp [0,1,5,6]))
(.exit 0)))
(.seq (.block 1
(.seq (.reg 0 [mA 19 1,mA 20 6,oA 21 (.idx 4 19 20),oA 22 (.load 21 true 4),oA 23 (.call iQ [22]),mA 18 23,oA 24 (.ext 18 0),oA 25 (.ext 18 1),mA 7 24,mA 8 25] (kp [0,1,5,6,7,8]))
(.seq (.seq (.reg 0 [mA 26 8,oA 27 (.un .not 26)] (kp [0,1,5,6,7,27]))
(.cond 27
(.exit 1)
(.gsk (kp [0,1,5,6,7]))))
(.seq (.reg 0 [mA 28 1,mA 29 6,oA 30 (.idx 4 28 29),oA 31 (.off 30 3),oA 32 (.load 31 false 1),mA 9 32] (kp [0,1,5,6,7,9]))
(.seq (.reg 0 [mA 33 1,mA 34 6,oA 35 (.idx 4 33 34),oA 36 (.off 35 0),oA 37 (.load 36 false 1),oA 38 (.bin .eql 37 (.c (.str []))),mA 10 38] (kp [0,1,5,6,7,9,10]))
(.seq (.seq (.reg 0 [mA 39 7,oA 40 (.bin .eql 39 (.c (.str bH))),mA 41 40,oT 41 42 (.mv 10),oT 41 43 (.un .not 42),oA 44 (.pick 41 43 (cB false)),mA 45 44,oF 45 46 (.mv 7),oF 45 47 (.bin .eql 46 (.c (.str dQ))),oF 45 48 (.mv 47),oT 48 49 (.mv 10),oT 48 50 (.un .not 49),oF 45 51 (.pick 48 50 (cB false)),oF 45 52 (.mv 51),oT 52 53 (.mv 9),oT 52 54 (.bin .neq 53 (.c (.str nX))),oF 45 55 (.pick 52 54 (cB false)),oA 56 (.pick 45 (cB true) 55),mA 57 56,oF 57 58 (.mv 7),oF 57 59 (.bin .neq 58 (.c (.str dQ))),oF 57 60 (.mv 59),oF 60 61 (.mv 10),oF 57 62 (.pick 60 (cB true) 61),oF 57 63 (.mv 62),oT 63 64 (.mv 9),oT 63 65 (.bin .eql 64 (.c (.str nX))),oF 57 66 (.pick 63 65 (cB false)),oA 67 (.pick 57 (cB true) 66),mA 68 67,oF 68 69 (.mv 9),oF 68 70 (.bin .eql 69 (.c (.str fJ))),oA 71 (.pick 68 (cB true) 70),mA 72 71,oF 72 73 (.mv 10),oF 72 74 (.un .not 73),oF 72 75 (.mv 74),oT 75 76 (.mv 9),oT 75 77 (.bin .eql 76 (.c (.str []))),oF 72 78 (.pick 75 77 (cB false)),oA 79 (.pick 72 (cB true) 78)] (kp [0,1,5,6,79]))
(.cond 79
(.seq (.reg 0 [oA 4 (.mv (cI 2))] (kp [4]))
.ret)
(.gsk (kp [0,1,5,6]))))
(.cut MK)))))))
(.reg 0 [mA 16 6,oA 17 (.bin .add 16 (cI 1)),mA 6 17] (kp [0,1,5,6]))))
def ML:aD:=(.seq (.reg 0 [mA 117 0,⟨some 118,.buildF 1 0 [.nils] [],none,[.fzs 5 4],.n []⟩,mA 119 0,oA 120 (.nilck 119),oA 121 (.off 120 0),oA 122 (.load 121 false 1),oA 123 (.app 1 [.nils] 24 pV 118 122),mA 124 5,oA 125 (.buildF 1 1 [.nils] [(0,124)]),oA 126 (.app 1 [.nils] 24 pV 123 125),⟨some 127,.nilck 117,none,[.fzs 126 1],.n []⟩,oA 128 (.off 127 0),oN (.store 128 126 1)] (kp []))
(.seq (.reg 0 [oA 4 (.mv (cI 0))] (kp [4]))
.ret))
def aAX:aD:=(.seq (.reg 0 [oA 4 (.mv (cI 0))] (kp [0,1]))
(.seq (.reg 0 [oA 5 (.mv (.c .nils))] (kp [0,1,5]))
(.seq (.seq (.reg 0 [oA 6 (.mv (cI 0))] (kp [0,1,5,6]))
(.block 0
(.loop MI)))
(.cut ML))))
def aHb:List aJ:=[.tmp 4]
theorem aDs:aL Tryz.prog pL aAX aHb:=.of Tryz.func47 (by kernel_rfl)
def MT:aD:=(.seq (.seq (.reg 0 [mA 30 6,mA 31 1,oA 32 (.nilck 31),oA 33 (.off 32 6),oA 34 (.load 33 false 1),oA 35 (.lenL 34),oA 36 (.bin .lss 30 35)] (kp [0,1,6,36]))
(.cond 36
(.gsk (kp [0,1,6]))
(.exit 0)))
(.seq (.block 1
(.seq (.seq (.reg 0 [mA 39 1,oA 40 (.nilck 39),oA 41 (.off 40 6),oA 42 (.load 41 false 1),mA 43 6,oA 44 (.idx 4 42 43),oA 45 (.off 44 2),oA 46 (.load 45 false 1),oA 47 (.bin .eql 46 (.c (.str fJ)))] (kp [0,1,6,47]))
(.cond 47
(.exit 1)
(.gsk (kp [0,1,6]))))
(.seq (.reg 0 [mA 48 1,oA 49 (.nilck 48),oA 50 (.off 49 6),oA 51 (.load 50 false 1),mA 52 6,oA 53 (.idx 4 51 52),oA 54 (.off 53 2),oN (.store 54 (.c (.str [])) 1)] (kp [0,1,6]))
(.seq (.seq (.reg 0 [mA 55 1,oA 56 (.nilck 55),oA 57 (.off 56 6),oA 58 (.load 57 false 1),mA 59 6,oA 60 (.idx 4 58 59),oA 61 (.off 60 0),oA 62 (.load 61 false 1),oA 63 (.bin .eql 62 (.c (.str [])))] (kp [0,1,6,63]))
(.cond 63
(.exit 1)
(.gsk (kp [0,1,6]))))
(.seq (.reg 2 [⟨some 65,.mv 1,none,[],.e⟩,⟨some 66,.nilck 65,none,[],.e⟩,⟨some 67,.off 66 6,none,[],.e⟩,⟨some 68,.load 67 false 1,none,[],.e⟩,mA 69 6,mA 70 0,mA 71 1,oA 72 (.nilck 71),oA 73 (.off 72 6),oA 74 (.load 73 false 1),mA 75 6,oA 76 (.idx 4 74 75),oA 77 (.off 76 0),oA 78 (.load 77 false 1),⟨some 79,.call nT [70,78],none,[],.n [3]⟩,mA 64 79,oA 80 (.ext 64 0),oA 81 (.ext 64 1),oA 82 (.idx 4 68 69),oA 83 (.off 82 2),oN (.store 83 80 1),mA 5 81] (kp [0,1,5,6]))
(.seq (.reg 0 [mA 84 5,oA 85 (.un .not 84)] (kp [0,1,6,85]))
(.cond 85
(.seq (.reg 0 [oA 4 (.mv (cB false))] (kp [4]))
.ret)
(.gsk (kp [0,1,6])))))))))
(.reg 0 [mA 37 6,oA 38 (.bin .add 37 (cI 1)),mA 6 38] (kp [0,1,6]))))
def MV:aD:=(.seq (.seq (.reg 0 [mA 95 8,mA 96 7,oA 97 (.bin .lss 95 96)] (kp [1,7,8,97]))
(.cond 97
(.gsk (kp [1,7,8]))
(.exit 4)))
(.seq (.block 5
(.seq (.reg 1 [mA 100 1,oA 101 (.nilck 100),oA 102 (.off 101 6),oA 103 (.load 102 false 1),mA 104 8,oA 105 (.idx 4 103 104),oA 106 (.off 105 2),oA 107 (.load 106 false 1),mA 108 1,oA 109 (.nilck 108),oA 110 (.off 109 6),oA 111 (.load 110 false 1),mA 112 7,oA 113 (.idx 4 111 112),oA 114 (.off 113 2),oA 115 (.load 114 false 1),oA 116 (.bin .eql 107 115),mA 117 116,oT 117 118 (.mv 1),oT 117 119 (.nilck 118),oT 117 120 (.off 119 6),oT 117 121 (.load 120 false 1),oT 117 122 (.mv 8),oT 117 123 (.idx 4 121 122),oT 117 124 (.off 123 1),oT 117 125 (.load 124 false 1),oT 117 126 (.mv 1),oT 117 127 (.nilck 126),oT 117 128 (.off 127 6),oT 117 129 (.load 128 false 1),oT 117 130 (.mv 7),oT 117 131 (.idx 4 129 130),oT 117 132 (.off 131 1),oT 117 133 (.load 132 false 1),oT 117 134 (.bin .eql 125 133),oA 135 (.pick 117 134 (cB false))] (kp [1,7,8,135]))
(.cond 135
(.seq (.reg 0 [oA 4 (.mv (cB false))] (kp [4]))
.ret)
(.gsk (kp [1,7,8])))))
(.reg 0 [mA 98 8,oA 99 (.bin .add 98 (cI 1)),mA 8 99] (kp [1,7,8]))))
def MU:aD:=(.seq (.seq (.reg 0 [mA 86 7,mA 87 1,oA 88 (.nilck 87),oA 89 (.off 88 6),oA 90 (.load 89 false 1),oA 91 (.lenL 90),oA 92 (.bin .lss 86 91)] (kp [1,7,92]))
(.cond 92
(.gsk (kp [1,7]))
(.exit 2)))
(.seq (.block 3
(.seq (.reg 0 [oA 8 (.mv (cI 0))] (kp [1,7,8]))
(.block 4
(.loop MV))))
(.reg 0 [mA 93 7,oA 94 (.bin .add 93 (cI 1)),mA 7 94] (kp [1,7]))))
def aA6:aD:=(.seq (.reg 0 [oA 4 (.mv (cB false))] (kp [0,1]))
(.seq (.reg 0 [oA 5 (.mv (cB false))] (kp [0,1]))
(.seq (.reg 0 [mA 10 1,mA 11 0,mA 12 1,oA 13 (.nilck 12),oA 14 (.off 13 2),oA 15 (.load 14 false 1),oA 16 (.call nT [11,15]),mA 9 16,oA 17 (.ext 9 0),oA 18 (.ext 9 1),oA 19 (.nilck 10),oA 20 (.off 19 4),oN (.store 20 17 1),mA 5 18] (kp [0,1,5]))
(.seq (.seq (.reg 0 [mA 21 5,oA 22 (.un .not 21),mA 23 22,oF 23 24 (.mv 1),oF 23 25 (.nilck 24),oF 23 26 (.off 25 2),oF 23 27 (.load 26 false 1),oF 23 28 (.bin .eql 27 (.c (.str bH))),oA 29 (.pick 23 (cB true) 28)] (kp [0,1,29]))
(.cond 29
(.seq (.reg 0 [oA 4 (.mv (cB false))] (kp [4]))
.ret)
(.gsk (kp [0,1]))))
(.seq (.seq (.reg 0 [oA 6 (.mv (cI 0))] (kp [0,1,6]))
(.block 0
(.loop MT)))
(.seq (.seq (.reg 0 [oA 7 (.mv (cI 0))] (kp [1,7]))
(.block 2
(.loop MU)))
(.seq (.reg 0 [oA 4 (.mv (cB true))] (kp [4]))
.ret)))))))
def aHk:List aJ:=[.tmp 4]
theorem aEB:aL Tryz.prog pM aA6 aHk:=.of Tryz.func48 (by kernel_rfl)
def MR:aD:=(.seq (.seq (.reg 1 [mA 84 3,oA 85 (.nilck 84),oA 86 (.off 85 0),oA 87 (.load 86 false 1),oA 88 (.lenL 87),oA 89 (.off 6 1),oA 90 (.load 89 false 1),oA 91 (.bin .geq 88 90)] (kp [0,3,4,5,6,91]))
(.cond 91
(.gsk (kp [0,3,4,5,6]))
(.exit 2)))
(.block 3
(.reg 0 [mA 92 3,oA 93 (.call pK [92])] (kp [0,3,4,5,6]))))
def MS:aD:=(.seq (.block 2
(.loop MR))
(.seq (.seq (.reg 0 [oA 94 (.off 6 0),oA 95 (.load 94 false 1),oA 96 (.bin .eql 95 (cI 2))] (kp [0,3,4,5,6,96]))
(.cond 96
(.seq (.seq (.reg 0 [mA 97 3,oA 98 (.load 6 true 7),oA 99 (.call yO [97,98]),oA 100 (.un .not 99)] (kp [0,3,4,5,6,100]))
(.cond 100
(.seq (.reg 0 [oA 2 (.mv (cB false))] (kp [2]))
.ret)
(.gsk (kp [0,3,4,5,6]))))
(.seq (.seq (.reg 0 [oA 101 (.off 6 1),oA 102 (.load 101 false 1),oA 103 (.bin .eql 102 (cI 1))] (kp [0,3,4,5,103]))
(.cond 103
(.reg 0 [mA 104 4,oA 105 (.bin .add 104 (cI 1)),mA 4 105] (kp [0,3,4,5]))
(.gsk (kp [0,3,4,5]))))
(.exit 1)))
(.gsk (kp [0,3,4,5,6]))))
(.seq (.reg 1 [oA 106 (.load 6 true 7),oA 107 (.call yP [106]),oA 108 (.un .not 107),mA 109 108,oF 109 110 (.off 6 0),oF 109 111 (.load 110 false 1),oF 109 112 (.bin .eql 111 (cI 3)),oF 109 113 (.mv 112),oT 113 114 (.off 6 1),oT 113 115 (.load 114 false 1),oT 113 116 (.bin .eql 115 (cI 1)),oT 113 117 (.mv 116),oF 117 118 (.mv 0),oF 117 119 (.mv 5),oF 117 120 (.bin .sub 119 (cI 1)),oF 117 121 (.idx 7 118 120),oF 117 122 (.off 121 0),oF 117 123 (.load 122 false 1),oF 117 124 (.bin .eql 123 (cI 3)),oF 117 125 (.mv 124),oT 125 126 (.mv 0),oT 125 127 (.mv 5),oT 125 128 (.bin .sub 127 (cI 1)),oT 125 129 (.idx 7 126 128),oT 125 130 (.off 129 1),oT 125 131 (.load 130 false 1),oT 125 132 (.off 6 1),oT 125 133 (.load 132 false 1),oT 125 134 (.bin .eql 131 133),oF 117 135 (.pick 125 134 (cB false)),oT 113 136 (.pick 117 (cB true) 135),oF 109 137 (.pick 113 136 (cB false)),oA 138 (.pick 109 (cB true) 137)] (kp [0,3,4,5,138]))
(.cond 138
(.seq (.reg 0 [oA 2 (.mv (cB false))] (kp [2]))
.ret)
(.gsk (kp [0,3,4,5]))))))
def MQ:aD:=(.seq (.seq (.reg 0 [mA 25 5,mA 26 0,oA 27 (.lenL 26),oA 28 (.bin .lss 25 27)] (kp [0,3,4,5,28]))
(.cond 28
(.gsk (kp [0,3,4,5]))
(.exit 0)))
(.seq (.block 1
(.seq (.reg 0 [mA 31 0,mA 32 5,oA 33 (.idx 7 31 32),oA 34 (.load 33 true 7),oA 6 (.allocL [(.int .i64 0),(.int .i64 0),(.str []),(.str []),(.str []),(.str []),.nils]),oN (.store 6 34 7)] (kp [0,3,4,5,6]))
(.seq (.seq (.reg 1 [oA 35 (.off 6 1),oA 36 (.load 35 false 1),oA 37 (.bin .lss 36 (cI 1)),mA 38 37,oF 38 39 (.off 6 1),oF 38 40 (.load 39 false 1),oF 38 41 (.bin .gtr 40 (cI 201)),oA 42 (.pick 38 (cB true) 41),mA 43 42,oF 43 44 (.off 6 1),oF 43 45 (.load 44 false 1),oF 43 46 (.mv 0),oF 43 47 (.mv 5),oF 43 48 (.bin .sub 47 (cI 1)),oF 43 49 (.idx 7 46 48),oF 43 50 (.off 49 1),oF 43 51 (.load 50 false 1),oF 43 52 (.bin .add 51 (cI 1)),oF 43 53 (.bin .gtr 45 52),oA 54 (.pick 43 (cB true) 53),mA 55 54,oF 55 56 (.off 6 1),oF 55 57 (.load 56 false 1),oF 55 58 (.mv 0),oF 55 59 (.mv 5),oF 55 60 (.bin .sub 59 (cI 1)),oF 55 61 (.idx 7 58 60),oF 55 62 (.off 61 1),oF 55 63 (.load 62 false 1),oF 55 64 (.bin .gtr 57 63),oF 55 65 (.mv 64),oT 65 66 (.mv 0),oT 65 67 (.mv 5),oT 65 68 (.bin .sub 67 (cI 1)),oT 65 69 (.idx 7 66 68),oT 65 70 (.off 69 0),oT 65 71 (.load 70 false 1),oT 65 72 (.bin .neq 71 (cI 1)),oF 55 73 (.pick 65 72 (cB false)),oF 55 74 (.mv 73),oT 74 75 (.mv 0),oT 74 76 (.mv 5),oT 74 77 (.bin .sub 76 (cI 1)),oT 74 78 (.idx 7 75 77),oT 74 79 (.off 78 0),oT 74 80 (.load 79 false 1),oT 74 81 (.bin .neq 80 (cI 2)),oF 55 82 (.pick 74 81 (cB false)),oA 83 (.pick 55 (cB true) 82)] (kp [0,3,4,5,6,83]))
(.cond 83
(.seq (.reg 0 [oA 2 (.mv (cB false))] (kp [2]))
.ret)
(.gsk (kp [0,3,4,5,6]))))
(.cut MS))))
(.reg 0 [mA 29 5,oA 30 (.bin .add 29 (cI 1)),mA 5 30] (kp [0,3,4,5]))))
def aA4:aD:=(.seq (.reg 0 [oA 2 (.mv (cB false))] (kp [0]))
(.seq (.seq (.reg 0 [mA 7 0,oA 8 (.lenL 7),oA 9 (.bin .lss 8 (cI 1)),mA 10 9,oF 10 11 (.mv 0),oF 10 12 (.lenL 11),oF 10 13 (.bin .gtr 12 (cI 1048576)),oA 14 (.pick 10 (cB true) 13),mA 15 14,oF 15 16 (.mv 0),oF 15 17 (.idx 7 16 (cI 0)),oF 15 18 (.load 17 true 7),oF 15 19 (.build [(.int .i64 0),(.int .i64 0),(.str []),(.str []),(.str []),(.str []),.nils] [(0,1,(cI 1))]),oF 15 20 (.call l5 [18,19]),oF 15 21 (.un .not 20),oA 22 (.pick 15 (cB true) 21)] (kp [0,22]))
(.cond 22
(.seq (.reg 0 [oA 2 (.mv (cB false))] (kp [2]))
.ret)
(.gsk (kp [0]))))
(.seq (.reg 0 [oA 23 (.build [.nils] []),⟨some 24,.boxH 23 KN,none,[.fza 23 0 1],.n []⟩,mA 3 24] (kp [0,3]))
(.seq (.reg 0 [oA 4 (.mv (cI 0))] (kp [0,3,4]))
(.seq (.seq (.reg 0 [oA 5 (.mv (cI 1))] (kp [0,3,4,5]))
(.block 0
(.loop MQ)))
(.seq (.reg 0 [mA 139 4,oA 140 (.bin .eql 139 (cI 1)),mA 2 140] (kp [2]))
.ret))))))
def aHi:List aJ:=[.tmp 2]
theorem aDz:aL Tryz.prog uQ aA4 aHi:=.of Tryz.func49 (by kernel_rfl)
def aA7:aD:=(.seq (.reg 0 [oA 2 (.boxL 0),oA 3 (.boxL 1),oA 4 (.mv (cB false))] (kp [2,3]))
(.seq (.reg 0 [oA 5 (.off 2 0),oA 6 (.load 5 false 1),oA 7 (.off 3 0),oA 8 (.load 7 false 1),oA 9 (.bin .eql 6 8),mA 10 9,oT 10 11 (.off 2 1),oT 10 12 (.load 11 false 1),oT 10 13 (.off 3 1),oT 10 14 (.load 13 false 1),oT 10 15 (.bin .eql 12 14),oA 16 (.pick 10 15 (cB false)),mA 17 16,oT 17 18 (.off 2 2),oT 17 19 (.load 18 false 1),oT 17 20 (.off 3 2),oT 17 21 (.load 20 false 1),oT 17 22 (.bin .eql 19 21),oA 23 (.pick 17 22 (cB false)),mA 24 23,oT 24 25 (.off 2 3),oT 24 26 (.load 25 false 1),oT 24 27 (.off 3 3),oT 24 28 (.load 27 false 1),oT 24 29 (.bin .eql 26 28),oA 30 (.pick 24 29 (cB false)),mA 31 30,oT 31 32 (.off 2 4),oT 31 33 (.load 32 false 1),oT 31 34 (.off 3 4),oT 31 35 (.load 34 false 1),oT 31 36 (.bin .eql 33 35),oA 37 (.pick 31 36 (cB false)),mA 38 37,oT 38 39 (.off 2 5),oT 38 40 (.load 39 false 1),oT 38 41 (.off 3 5),oT 38 42 (.load 41 false 1),oT 38 43 (.bin .eql 40 42),oA 44 (.pick 38 43 (cB false)),mA 45 44,oT 45 46 (.off 2 6),oT 45 47 (.load 46 false 1),oT 45 48 (.off 3 6),oT 45 49 (.load 48 false 1),oT 45 50 (.call jE [47,49]),oA 51 (.pick 45 50 (cB false)),mA 4 51] (kp [4]))
.ret))
def aHl:List aJ:=[.tmp 4]
theorem aEC:aL Tryz.prog l5 aA7 aHl:=.of Tryz.func63 (by kernel_rfl)
def aAU:aD:=(.seq (.reg 0 [oA 1 (.boxL 0),oA 2 (.mv (.c (.str []))),oA 3 (.mv (cB false))] (kp [1]))
(.seq (.block 0
(.seq (.reg 0 [oA 5 (.off 1 2),oA 6 (.load 5 false 1),oA 7 (.bin .neq 6 (.c (.str fJ))),mA 4 7] (kp [1,4]))
(.cond 4
(.seq (.reg 0 [oA 2 (.mv (.c (.str []))),oA 3 (.mv (cB false))] (kp [2,3]))
.ret)
(.seq (.reg 0 [oA 9 (.off 1 0),oA 10 (.load 9 false 1),oA 11 (.bin .eql 10 (.c (.str bH))),mA 8 11] (kp [1,8]))
(.cond 8
(.seq (.reg 0 [oA 12 (.off 1 1),oA 13 (.load 12 false 1),mA 2 13,oA 3 (.mv (cB true))] (kp [2,3]))
.ret)
(.gsk (kp [1])))))))
(.seq (.reg 1 [oA 14 (.off 1 0),oA 15 (.load 14 false 1),oA 16 (.bin .eql 15 (.c (.str []))),mA 17 16,oT 17 18 (.off 1 1),oT 17 19 (.load 18 false 1),oT 17 20 (.bin .eql 19 (.c (.str bH))),oA 21 (.pick 17 20 (cB false)),oA 2 (.mv (.c (.str []))),mA 3 21] (kp [2,3]))
.ret)))
def aH8:List aJ:=[.tmp 2,.tmp 3]
theorem aDq:aL Tryz.prog iQ aAU aH8:=.of Tryz.func95 (by kernel_rfl)
def MN:aD:=(.seq (.seq (.reg 0 [mA 22 7,mA 23 0,oA 24 (.nilck 23),oA 25 (.off 24 0),oA 26 (.load 25 false 1),mA 27 6,oA 28 (.idx 1 26 27),oA 29 (.load 28 false 1),oA 30 (.lenL 29),oA 31 (.bin .lss 22 30)] (kp [0,1,6,7,31]))
(.cond 31
(.gsk (kp [0,1,6,7]))
(.exit 2)))
(.seq (.block 3
(.seq (.reg 0 [mA 35 0,oA 36 (.nilck 35),oA 37 (.off 36 0),oA 38 (.load 37 false 1),mA 39 6,oA 40 (.idx 1 38 39),oA 41 (.load 40 false 1),mA 42 7,oA 43 (.idx 4 41 42),oA 44 (.load 43 true 4),oA 45 (.call iQ [44]),mA 34 45,oA 46 (.ext 34 0),oA 47 (.ext 34 1),mA 8 46,mA 9 47] (kp [0,1,6,7,8]))
(.seq (.reg 0 [mA 48 8,mA 49 1,oA 50 (.bin .eql 48 49)] (kp [0,1,6,7,50]))
(.cond 50
(.seq (.reg 0 [mA 51 0,oA 52 (.nilck 51),oA 53 (.off 52 0),oA 54 (.load 53 false 1),mA 55 6,oA 56 (.idx 1 54 55),oA 57 (.load 56 false 1),mA 58 7,oA 59 (.idx 4 57 58),oA 60 (.off 59 3),oA 61 (.load 60 false 1),mA 4 61,oA 5 (.mv (cB true))] (kp [4,5]))
.ret)
(.gsk (kp [0,1,6,7]))))))
(.reg 0 [mA 32 7,oA 33 (.bin .add 32 (cI 1)),mA 7 33] (kp [0,1,6,7]))))
def MM:aD:=(.seq (.seq (.reg 0 [mA 18 6,oA 19 (.bin .geq 18 (cI 0))] (kp [0,1,6,19]))
(.cond 19
(.gsk (kp [0,1,6]))
(.exit 0)))
(.seq (.block 1
(.seq (.reg 0 [oA 7 (.mv (cI 0))] (kp [0,1,6,7]))
(.block 2
(.loop MN))))
(.reg 0 [mA 20 6,oA 21 (.bin .sub 20 (cI 1)),mA 6 21] (kp [0,1,6]))))
def aAY:aD:=(.seq (.reg 0 [oA 4 (.mv (.c (.str []))),oA 5 (.mv (cB false))] (kp [0,1]))
(.seq (.seq (.reg 0 [mA 10 1,oA 11 (.bin .eql 10 (.c (.str dQ)))] (kp [0,1,11]))
(.cond 11
(.seq (.reg 0 [oA 4 (.mv (.c (.str nX))),oA 5 (.mv (cB true))] (kp [4,5]))
.ret)
(.gsk (kp [0,1]))))
(.seq (.seq (.reg 0 [mA 12 0,oA 13 (.nilck 12),oA 14 (.off 13 0),oA 15 (.load 14 false 1),oA 16 (.lenL 15),oA 17 (.bin .sub 16 (cI 1)),mA 6 17] (kp [0,1,6]))
(.block 0
(.loop MM)))
(.seq (.reg 0 [mA 62 1,oA 63 (.bin .eql 62 (.c (.str []))),oA 4 (.mv (.c (.str []))),mA 5 63] (kp [4,5]))
.ret))))
def aHc:List aJ:=[.tmp 4,.tmp 5]
theorem aDt:aL Tryz.prog nT aAY aHc:=.of Tryz.func96 (by kernel_rfl)
def MW:aD:=(.seq (.seq (.reg 0 [mA 50 8,mA 51 6,oA 52 (.bin .lss 50 51)] (kp [0,3,5,6,7,8,52]))
(.cond 52
(.gsk (kp [0,3,5,6,7,8]))
(.exit 2)))
(.seq (.block 3
(.seq (.reg 1 [oA 55 (.off 5 6),oA 56 (.load 55 false 1),mA 57 8,oA 58 (.idx 4 56 57),oA 59 (.off 58 0),oA 60 (.load 59 false 1),oA 61 (.off 7 0),oA 62 (.load 61 false 1),oA 63 (.bin .eql 60 62),mA 64 63,oT 64 65 (.off 5 6),oT 64 66 (.load 65 false 1),oT 64 67 (.mv 8),oT 64 68 (.idx 4 66 67),oT 64 69 (.off 68 1),oT 64 70 (.load 69 false 1),oT 64 71 (.off 7 1),oT 64 72 (.load 71 false 1),oT 64 73 (.bin .eql 70 72),oA 74 (.pick 64 73 (cB false))] (kp [0,3,5,6,7,8,74]))
(.cond 74
(.seq (.reg 0 [oA 4 (.mv (cB false))] (kp [4]))
.ret)
(.gsk (kp [0,3,5,6,7,8])))))
(.reg 0 [mA 53 8,oA 54 (.bin .add 53 (cI 1)),mA 8 54] (kp [0,3,5,6,7,8]))))
def z6:aD:=(.seq (.seq (.reg 0 [mA 26 6,oA 27 (.off 5 6),oA 28 (.load 27 false 1),oA 29 (.lenL 28),oA 30 (.bin .lss 26 29)] (kp [0,3,5,6,30]))
(.cond 30
(.gsk (kp [0,3,5,6]))
(.exit 0)))
(.seq (.block 1
(.seq (.reg 0 [oA 33 (.off 5 6),oA 34 (.load 33 false 1),mA 35 6,oA 36 (.idx 4 34 35),oA 37 (.load 36 true 4),oA 7 (.allocL [(.str []),(.str []),(.str []),(.str [])]),oN (.store 7 37 4)] (kp [0,3,5,6,7]))
(.seq (.seq (.reg 0 [oA 38 (.off 7 0),oA 39 (.load 38 false 1),oA 40 (.off 7 1),oA 41 (.load 40 false 1),oA 42 (.call rA [39,41]),oA 43 (.un .not 42),mA 44 43,oF 44 45 (.off 7 3),oF 44 46 (.load 45 false 1),oF 44 47 (.call rD [46]),oF 44 48 (.un .not 47),oA 49 (.pick 44 (cB true) 48)] (kp [0,3,5,6,7,49]))
(.cond 49
(.seq (.reg 0 [oA 4 (.mv (cB false))] (kp [4]))
.ret)
(.gsk (kp [0,3,5,6,7]))))
(.seq (.seq (.reg 0 [oA 8 (.mv (cI 0))] (kp [0,3,5,6,7,8]))
(.block 2
(.loop MW)))
(.seq (.reg 0 [oA 75 (.off 5 6),oA 76 (.load 75 false 1),mA 77 6,oA 78 (.idx 4 76 77),oA 79 (.off 78 2),oN (.store 79 (.c (.str [])) 1)] (kp [0,3,5,6,7]))
(.seq (.reg 0 [oA 80 (.off 7 0),oA 81 (.load 80 false 1),oA 82 (.bin .eql 81 (.c (.str bH))),mA 83 82,oF 83 84 (.off 7 0),oF 83 85 (.load 84 false 1),oF 83 86 (.bin .eql 85 (.c (.str []))),oF 83 87 (.mv 86),oT 87 88 (.off 7 1),oT 87 89 (.load 88 false 1),oT 87 90 (.bin .eql 89 (.c (.str bH))),oF 83 91 (.pick 87 90 (cB false)),oA 92 (.pick 83 (cB true) 91)] (kp [0,3,5,6,92]))
(.cond 92
(.reg 0 [oA 93 (.off 5 6),oA 94 (.load 93 false 1),mA 95 6,oA 96 (.idx 4 94 95),oA 97 (.off 96 2),oN (.store 97 (.c (.str fJ)) 1)] (kp [0,3,5,6]))
(.gsk (kp [0,3,5,6])))))))))
(.reg 0 [mA 31 6,oA 32 (.bin .add 31 (cI 1)),mA 6 32] (kp [0,3,5,6]))))
def aA8:aD:=(.seq (.reg 0 [oA 3 (.boxL 1),oA 4 (.mv (cB false))] (kp [0,3]))
(.seq (.seq (.reg 0 [oA 9 (.off 3 2),oA 10 (.load 9 false 1),oA 11 (.off 3 3),oA 12 (.load 11 false 1),oA 13 (.call rA [10,12]),oA 14 (.un .not 13),mA 15 14,oF 15 16 (.off 3 5),oF 15 17 (.load 16 false 1),oF 15 18 (.bin .neq 17 (.c (.str []))),oA 19 (.pick 15 (cB true) 18)] (kp [0,3,19]))
(.cond 19
(.seq (.reg 0 [oA 4 (.mv (cB false))] (kp [4]))
.ret)
(.gsk (kp [0,3]))))
(.seq (.reg 0 [oA 20 (.load 3 true 7),oA 5 (.allocH [(.int .i64 0),(.int .i64 0),(.str []),(.str []),(.str []),(.str []),.nils] cS),oN (.store 5 20 7)] (kp [0,3,5]))
(.seq (.reg 0 [oA 21 (.buildF 4 0 [(.str []),(.str []),(.str []),(.str [])] []),oA 22 (.off 3 6),oA 23 (.load 22 false 1),oA 24 (.app 4 [(.str []),(.str []),(.str []),(.str [])] 64 iR 21 23),oA 25 (.off 5 6),oN (.store 25 24 1)] (kp [0,3,5]))
(.seq (.seq (.reg 0 [oA 6 (.mv (cI 0))] (kp [0,3,5,6]))
(.block 0
(.loop z6)))
(.seq (.seq (.reg 0 [mA 98 0,oA 99 (.off 5 6),oA 100 (.load 99 false 1),oA 101 (.call pL [98,100]),oA 102 (.bin .neq 101 (cI 0))] (kp [0,3,5,102]))
(.cond 102
(.seq (.reg 0 [oA 4 (.mv (cB false))] (kp [4]))
.ret)
(.gsk (kp [0,3,5]))))
(.seq (.reg 0 [mA 103 0,oA 104 (.call pM [103,5]),mA 105 104,oT 105 106 (.off 5 4),oT 105 107 (.load 106 false 1),oT 105 108 (.off 3 4),oT 105 109 (.load 108 false 1),oT 105 110 (.bin .eql 107 109),oA 111 (.pick 105 110 (cB false)),mA 112 111,oT 112 113 (.off 5 6),oT 112 114 (.load 113 false 1),oT 112 115 (.off 3 6),oT 112 116 (.load 115 false 1),oT 112 117 (.call jE [114,116]),oA 118 (.pick 112 117 (cB false)),mA 4 118] (kp [4]))
.ret)))))))
def aHm:List aJ:=[.tmp 4]
theorem aED:aL Tryz.prog yO aA8 aHm:=.of Tryz.func97 (by kernel_rfl)
def aAb:aD:=(.seq (.reg 0 [oA 1 (.boxL 0),oA 2 (.mv (cB false))] (kp [1]))
(.seq (.seq (.reg 0 [oA 3 (.off 1 2),oA 4 (.load 3 false 1),oA 5 (.bin .neq 4 (.c (.str []))),mA 6 5,oF 6 7 (.off 1 4),oF 6 8 (.load 7 false 1),oF 6 9 (.bin .neq 8 (.c (.str []))),oA 10 (.pick 6 (cB true) 9),mA 11 10,oF 11 12 (.off 1 6),oF 11 13 (.load 12 false 1),oF 11 14 (.lenL 13),oF 11 15 (.bin .gtr 14 (cI 0)),oA 16 (.pick 11 (cB true) 15),mA 17 16,oF 17 18 (.off 1 0),oF 17 19 (.load 18 false 1),oF 17 20 (.bin .neq 19 (cI 5)),oF 17 21 (.mv 20),oT 21 22 (.off 1 3),oT 21 23 (.load 22 false 1),oT 21 24 (.bin .neq 23 (.c (.str []))),oF 17 25 (.pick 21 24 (cB false)),oA 26 (.pick 17 (cB true) 25),mA 27 26,oF 27 28 (.off 1 5),oF 27 29 (.load 28 false 1),oF 27 30 (.call rD [29]),oF 27 31 (.un .not 30),oA 32 (.pick 27 (cB true) 31)] (kp [1,32]))
(.cond 32
(.seq (.reg 0 [oA 2 (.mv (cB false))] (kp [2]))
.ret)
(.gsk (kp [1]))))
(.seq (.seq (.reg 0 [oA 33 (.off 1 0),oA 34 (.load 33 false 1)] (kp [1,34]))
(.block 0
(.seq (.reg 0 [oA 36 (.bin .eql 34 (cI 3)),mA 35 36] (kp [1,34,35]))
(.cond 35
(.seq (.reg 0 [oA 37 (.off 1 5),oA 38 (.load 37 false 1),oA 39 (.bin .neq 38 (.c (.str []))),mA 2 39] (kp [2]))
.ret)
(.seq (.reg 0 [oA 41 (.bin .eql 34 (cI 4)),mA 40 41] (kp [1,34,40]))
(.cond 40
(.seq (.reg 0 [oA 42 (.off 1 5),oA 43 (.load 42 false 1),oA 44 (.call nU [43,(.c (.str iC))]),oA 45 (.un .not 44),mA 46 45,oT 46 47 (.off 1 5),oT 46 48 (.load 47 false 1),oT 46 49 (.call nU [48,(.c (.str rT))]),oT 46 50 (.un .not 49),oA 51 (.pick 46 50 (cB false)),mA 52 51,oT 52 53 (.off 1 5),oT 52 54 (.load 53 false 1),oT 52 55 (.bin .eql 54 (.c (.str []))),oT 52 56 (.mv 55),oF 56 57 (.off 1 5),oF 56 58 (.load 57 false 1),oF 56 59 (.off 1 5),oF 56 60 (.load 59 false 1),oF 56 61 (.lenS 60),oF 56 62 (.bin .sub 61 (cI 1)),oF 56 63 (.at 58 62),oF 56 64 (.bin .neq 63 (.c (.int .u8 45))),oT 52 65 (.pick 56 (cB true) 64),oA 66 (.pick 52 65 (cB false)),mA 2 66] (kp [2]))
.ret)
(.seq (.reg 0 [oA 68 (.bin .eql 34 (cI 5)),mA 67 68] (kp [1,67]))
(.cond 67
(.seq (.reg 0 [oA 69 (.off 1 3),oA 70 (.load 69 false 1),oA 71 (.call uN [70]),mA 72 71,oT 72 73 (.off 1 5),oT 72 74 (.load 73 false 1),oT 72 75 (.call nU [74,(.c (.str iC))]),oT 72 76 (.un .not 75),oA 77 (.pick 72 76 (cB false)),mA 78 77,oT 78 79 (.off 1 5),oT 78 80 (.load 79 false 1),oT 78 81 (.call nU [80,(.c (.str rW))]),oT 78 82 (.un .not 81),oA 83 (.pick 78 82 (cB false)),mA 84 83,oT 84 85 (.off 1 5),oT 84 86 (.load 85 false 1),oT 84 87 (.bin .eql 86 (.c (.str []))),oT 84 88 (.mv 87),oF 88 89 (.off 1 5),oF 88 90 (.load 89 false 1),oF 88 91 (.at 90 (cI 0)),oF 88 92 (.cint .i32 91),oF 88 93 (.call uS [92]),oF 88 94 (.un .not 93),oT 84 95 (.pick 88 (cB true) 94),oA 96 (.pick 84 95 (cB false)),mA 2 96] (kp [2]))
.ret)
(.gsk (kp []))))))))))
(.seq (.reg 0 [oA 2 (.mv (cB false))] (kp [2]))
.ret))))
def aHp:List aJ:=[.tmp 2]
theorem aEG:aL Tryz.prog yP aAb aHp:=.of Tryz.func98 (by kernel_rfl)
def EL:aD:=(.seq (.seq (.reg 0 [mA 11 5,mA 12 0,oA 13 (.lenL 12),oA 14 (.bin .lss 11 13)] (kp [0,1,5,14]))
(.cond 14
(.gsk (kp [0,1,5]))
(.exit 0)))
(.seq (.block 1
(.seq (.reg 1 [mA 17 0,mA 18 5,oA 19 (.idx 4 17 18),oA 20 (.load 19 true 4),mA 21 1,mA 22 5,oA 23 (.idx 4 21 22),oA 24 (.load 23 true 4),oA 25 (.eq (EK.t 4) .neq 20 24)] (kp [0,1,5,25]))
(.cond 25
(.seq (.reg 0 [oA 4 (.mv (cB false))] (kp [4]))
.ret)
(.gsk (kp [0,1,5])))))
(.reg 0 [mA 15 5,oA 16 (.bin .add 15 (cI 1)),mA 5 16] (kp [0,1,5]))))
def aAV:aD:=(.seq (.reg 0 [oA 4 (.mv (cB false))] (kp [0,1]))
(.seq (.seq (.reg 0 [mA 6 0,oA 7 (.lenL 6),mA 8 1,oA 9 (.lenL 8),oA 10 (.bin .neq 7 9)] (kp [0,1,10]))
(.cond 10
(.seq (.reg 0 [oA 4 (.mv (cB false))] (kp [4]))
.ret)
(.gsk (kp [0,1]))))
(.seq (.seq (.reg 0 [oA 5 (.mv (cI 0))] (kp [0,1,5]))
(.block 0
(.loop EL)))
(.seq (.reg 0 [oA 4 (.mv (cB true))] (kp [4]))
.ret))))
def aH9:List aJ:=[.tmp 4]
theorem QG:aL Tryz.prog jE aAV aH9:=.of Tryz.func113 (by kernel_rfl)
def aAa:aD:=(.seq (.reg 0 [oA 4 (.mv (cB false))] (kp [0,1]))
(.seq (.reg 0 [mA 9 0,mA 10 1,oA 11 (.call rB [9,10]),oA 12 (.call yQ [11]),mA 8 12,oA 13 (.ext 8 0),oA 14 (.ext 8 1),oA 15 (.ext 8 2),mA 5 13,mA 6 14,mA 7 15] (kp [0,1,5,6,7]))
(.seq (.reg 0 [mA 16 7,mA 17 16,oT 17 18 (.mv 5),oT 17 19 (.mv 0),oT 17 20 (.bin .eql 18 19),oA 21 (.pick 17 20 (cB false)),mA 22 21,oT 22 23 (.mv 6),oT 22 24 (.mv 1),oT 22 25 (.bin .eql 23 24),oA 26 (.pick 22 25 (cB false)),mA 4 26] (kp [4]))
.ret)))
def aHo:List aJ:=[.tmp 4]
theorem aEF:aL Tryz.prog rA aAa aHo:=.of Tryz.func132 (by kernel_rfl)
def MX:aD:=(.seq (.seq (.reg 0 [mA 6 5,mA 7 1,oA 8 (.lenS 7),oA 9 (.bin .add 6 8),mA 10 0,oA 11 (.lenS 10),oA 12 (.bin .leq 9 11)] (kp [0,1,5,12]))
(.cond 12
(.gsk (kp [0,1,5]))
(.exit 0)))
(.seq (.block 1
(.seq (.reg 0 [mA 15 0,mA 16 5,mA 17 5,mA 18 1,oA 19 (.lenS 18),oA 20 (.bin .add 17 19),oA 21 (.cutS 15 (some 16) (some 20)),mA 22 1,oA 23 (.bin .eql 21 22)] (kp [0,1,5,23]))
(.cond 23
(.seq (.reg 0 [oA 4 (.mv (cB true))] (kp [4]))
.ret)
(.gsk (kp [0,1,5])))))
(.reg 0 [mA 13 5,oA 14 (.bin .add 13 (cI 1)),mA 5 14] (kp [0,1,5]))))
def aA9:aD:=(.seq (.reg 0 [oA 4 (.mv (cB false))] (kp [0,1]))
(.seq (.seq (.reg 0 [oA 5 (.mv (cI 0))] (kp [0,1,5]))
(.block 0
(.loop MX)))
(.seq (.reg 0 [oA 4 (.mv (cB false))] (kp [4]))
.ret)))
def aHn:List aJ:=[.tmp 4]
theorem aEE:aL Tryz.prog nU aA9 aHn:=.of Tryz.func134 (by kernel_rfl)
def aAZ:aD:=(.seq (.reg 0 [oA 2 (.mv (cB false))] (kp [0]))
(.seq (.reg 0 [mA 3 0,oA 4 (.call l6 [3]),mA 5 4,oT 5 6 (.mv 0),oT 5 7 (.call q8 [6]),oT 5 8 (.bin .neq 7 (.c (.str dQ))),oA 9 (.pick 5 8 (cB false)),mA 2 9] (kp [2]))
.ret))
def aHd:List aJ:=[.tmp 2]
theorem aDu:aL Tryz.prog uN aAZ aHd:=.of Tryz.func135 (by kernel_rfl)
def aAc:aD:=(.seq (.reg 0 [oA 4 (.mv (.c (.str [])))] (kp [0,1]))
(.seq (.seq (.reg 0 [mA 5 0,oA 6 (.bin .eql 5 (.c (.str [])))] (kp [0,1,6]))
(.cond 6
(.seq (.reg 0 [mA 7 1,mA 4 7] (kp [4]))
.ret)
(.gsk (kp [0,1]))))
(.seq (.reg 0 [mA 8 0,oA 9 (.bin .add 8 (.c (.str nW))),mA 10 1,oA 11 (.bin .add 9 10),mA 4 11] (kp [4]))
.ret)))
def aHq:List aJ:=[.tmp 4]
theorem aEH:aL Tryz.prog rB aAc aHq:=.of Tryz.func176 (by kernel_rfl)
def EM:aD:=(.seq (.seq (.reg 0 [mA 7 4,mA 8 3,oA 9 (.lenL 8),oA 10 (.bin .lss 7 9)] (kp [3,4,10]))
(.cond 10
(.gsk (kp [3,4]))
(.exit 0)))
(.seq (.block 1
(.seq (.reg 0 [mA 13 3,mA 14 4,oA 15 (.idx 1 13 14),oA 16 (.load 15 false 1),oA 17 (.bin .geq 16 (.c (.int .u8 65))),mA 18 17,oT 18 19 (.mv 3),oT 18 20 (.mv 4),oT 18 21 (.idx 1 19 20),oT 18 22 (.load 21 false 1),oT 18 23 (.bin .leq 22 (.c (.int .u8 90))),oA 24 (.pick 18 23 (cB false))] (kp [3,4,24]))
(.cond 24
(.reg 0 [mA 25 3,mA 26 4,mA 27 3,mA 28 4,oA 29 (.idx 1 27 28),oA 30 (.load 29 false 1),oA 31 (.bin .add 30 (.c (.int .u8 32))),oA 32 (.idx 1 25 26),oN (.store 32 31 1)] (kp [3,4]))
(.gsk (kp [3,4])))))
(.reg 0 [mA 11 4,oA 12 (.bin .add 11 (cI 1)),mA 4 12] (kp [3,4]))))
def aA0:aD:=(.seq (.reg 0 [oA 2 (.mv (.c (.str [])))] (kp [0]))
(.seq (.reg 0 [mA 5 0,oA 6 (.cbytes 5 mD),mA 3 6] (kp [3]))
(.seq (.seq (.reg 0 [oA 4 (.mv (cI 0))] (kp [3,4]))
(.block 0
(.loop EM)))
(.seq (.reg 0 [mA 33 3,oA 34 (.ctext 33),mA 2 34] (kp [2]))
.ret))))
def aHe:List aJ:=[.tmp 2]
theorem aDv:aL Tryz.prog q8 aA0 aHe:=.of Tryz.func180 (by kernel_rfl)
end Go.Proofs.YtjoadepfokpcoaaGreatDoor
set_option maxRecDepth 100000
set_option linter.unusedVariables false
namespace Go.Proofs.YtjoadepfokpcoaaGreatDoor
def M9:aD:=(.seq (.seq (.reg 0 [mA 6 3,mA 7 0,oA 8 (.lenS 7),oA 9 (.bin .lss 6 8)] (kp [0,3,9]))
(.cond 9
(.gsk (kp [0,3]))
(.exit 0)))
(.block 1
(.seq (.reg 0 [mA 11 0,mA 12 3,oA 13 (.call jF [11,12]),mA 10 13,oA 14 (.ext 10 0),oA 15 (.ext 10 1),mA 4 14,mA 5 15] (kp [0,3,4,5]))
(.seq (.seq (.reg 0 [mA 16 5,oA 17 (.bin .eql 16 (cI 0)),mA 18 17,oF 18 19 (.mv 4),oF 18 20 (.call pN [19]),oF 18 21 (.un .not 20),oA 22 (.pick 18 (cB true) 21)] (kp [0,3,5,22]))
(.cond 22
(.seq (.reg 0 [oA 2 (.mv (cB false))] (kp [2]))
.ret)
(.gsk (kp [0,3,5]))))
(.reg 0 [mA 23 3,mA 24 5,oA 25 (.bin .add 23 24),mA 3 25] (kp [0,3]))))))
def aAm:aD:=(.seq (.reg 0 [oA 2 (.mv (cB false))] (kp [0]))
(.seq (.seq (.reg 0 [oA 3 (.mv (cI 0))] (kp [0,3]))
(.block 0
(.loop M9)))
(.seq (.reg 0 [oA 2 (.mv (cB true))] (kp [2]))
.ret)))
def aIA:List aJ:=[.tmp 2]
theorem aER:aL Tryz.prog rD aAm aIA:=.of Tryz.func133 (by kernel_rfl)
def aAj:aD:=(.seq (.reg 0 [oA 2 (.mv (cB false))] (kp [0]))
(.seq (.reg 0 [mA 3 0,oA 4 (.bin .eql 3 (.c (.int .i32 32))),mA 5 4,oF 5 6 (.mv 0),oF 5 7 (.bin .eql 6 (.c (.int .i32 9))),oA 8 (.pick 5 (cB true) 7),mA 9 8,oF 9 10 (.mv 0),oF 9 11 (.bin .eql 10 (.c (.int .i32 13))),oA 12 (.pick 9 (cB true) 11),mA 13 12,oF 13 14 (.mv 0),oF 13 15 (.bin .eql 14 (.c (.int .i32 10))),oA 16 (.pick 13 (cB true) 15),mA 2 16] (kp [2]))
.ret))
def aHx:List aJ:=[.tmp 2]
theorem aEO:aL Tryz.prog uS aAj aHx:=.of Tryz.func136 (by kernel_rfl)
def M7:aD:=(.seq (.seq (.reg 0 [mA 6 5,mA 7 0,oA 8 (.lenS 7),oA 9 (.bin .lss 6 8)] (kp [0,5,9]))
(.cond 9
(.gsk (kp [0,5]))
(.exit 0)))
(.seq (.block 1
(.seq (.reg 0 [mA 12 0,mA 13 5,oA 14 (.at 12 13),oA 15 (.bin .eql 14 (.c (.int .u8 58)))] (kp [0,5,15]))
(.cond 15
(.seq (.seq (.reg 0 [mA 16 0,mA 17 5,oA 18 (.cutS 16 none (some 17)),oA 19 (.call l6 [18]),mA 20 19,oT 20 21 (.mv 0),oT 20 22 (.mv 5),oT 20 23 (.bin .add 22 (cI 1)),oT 20 24 (.cutS 21 (some 23) none),oT 20 25 (.call l6 [24]),oA 26 (.pick 20 25 (cB false))] (kp [0,5,26]))
(.cond 26
(.seq (.reg 1 [mA 27 0,mA 28 5,oA 29 (.cutS 27 none (some 28)),mA 30 0,mA 31 5,oA 32 (.bin .add 31 (cI 1)),oA 33 (.cutS 30 (some 32) none),mA 2 29,mA 3 33,oA 4 (.mv (cB true))] (kp [2,3,4]))
.ret)
(.gsk (kp []))))
(.seq (.reg 0 [oA 2 (.mv (.c (.str []))),oA 3 (.mv (.c (.str []))),oA 4 (.mv (cB false))] (kp [2,3,4]))
.ret))
(.gsk (kp [0,5])))))
(.reg 0 [mA 10 5,oA 11 (.bin .add 10 (cI 1)),mA 5 11] (kp [0,5]))))
def aAk:aD:=(.seq (.reg 0 [oA 2 (.mv (.c (.str []))),oA 3 (.mv (.c (.str []))),oA 4 (.mv (cB false))] (kp [0]))
(.seq (.seq (.reg 0 [oA 5 (.mv (cI 0))] (kp [0,5]))
(.block 0
(.loop M7)))
(.seq (.seq (.reg 0 [mA 34 0,oA 35 (.call l6 [34]),oA 36 (.un .not 35)] (kp [0,36]))
(.cond 36
(.seq (.reg 0 [oA 2 (.mv (.c (.str []))),oA 3 (.mv (.c (.str []))),oA 4 (.mv (cB false))] (kp [2,3,4]))
.ret)
(.gsk (kp [0]))))
(.seq (.reg 0 [mA 37 0,oA 2 (.mv (.c (.str []))),mA 3 37,oA 4 (.mv (cB true))] (kp [2,3,4]))
.ret))))
def aHy:List aJ:=[.tmp 2,.tmp 3,.tmp 4]
theorem aEP:aL Tryz.prog yQ aAk aHy:=.of Tryz.func175 (by kernel_rfl)
def MZ:aD:=(.seq (.seq (.reg 0 [mA 59 10,mA 60 7,oA 61 (.bin .lss 59 60)] (kp [0,1,7,8,9,10,61]))
(.cond 61
(.gsk (kp [0,1,7,8,9,10]))
(.exit 1)))
(.seq (.block 2
(.seq (.seq (.reg 0 [mA 64 0,mA 65 1,mA 66 10,oA 67 (.bin .add 65 66),oA 68 (.at 64 67),oA 69 (.bin .and 68 (.c (.int .u8 192))),oA 70 (.bin .neq 69 (.c (.int .u8 128)))] (kp [0,1,7,8,9,10,70]))
(.cond 70
(.seq (.reg 0 [oA 4 (.mv (.c (.int .i32 0))),oA 5 (.mv (cI 0))] (kp [4,5]))
.ret)
(.gsk (kp [0,1,7,8,9,10]))))
(.reg 0 [mA 71 8,oA 72 (.bin .shl 71 (cU 6)),mA 73 0,mA 74 1,mA 75 10,oA 76 (.bin .add 74 75),oA 77 (.at 73 76),oA 78 (.bin .and 77 (.c (.int .u8 63))),oA 79 (.cint .i32 78),oA 80 (.bin .or 72 79),mA 8 80] (kp [0,1,7,8,9,10]))))
(.reg 0 [mA 62 10,oA 63 (.bin .add 62 (cI 1)),mA 10 63] (kp [0,1,7,8,9,10]))))
def M0:aD:=(.seq (.seq (.reg 0 [mA 53 1,mA 54 7,oA 55 (.bin .add 53 54),mA 56 0,oA 57 (.lenS 56),oA 58 (.bin .gtr 55 57)] (kp [0,1,7,8,9,58]))
(.cond 58
(.seq (.reg 0 [oA 4 (.mv (.c (.int .i32 0))),oA 5 (.mv (cI 0))] (kp [4,5]))
.ret)
(.gsk (kp [0,1,7,8,9]))))
(.seq (.seq (.reg 0 [oA 10 (.mv (cI 1))] (kp [0,1,7,8,9,10]))
(.block 1
(.loop MZ)))
(.seq (.seq (.reg 0 [mA 81 8,mA 82 9,oA 83 (.bin .lss 81 82),mA 84 83,oF 84 85 (.mv 8),oF 84 86 (.bin .gtr 85 (.c (.int .i32 1114111))),oA 87 (.pick 84 (cB true) 86),mA 88 87,oF 88 89 (.mv 8),oF 88 90 (.call b6 [89,(.c (.int .i32 55296)),(.c (.int .i32 57343))]),oA 91 (.pick 88 (cB true) 90)] (kp [7,8,91]))
(.cond 91
(.seq (.reg 0 [oA 4 (.mv (.c (.int .i32 0))),oA 5 (.mv (cI 0))] (kp [4,5]))
.ret)
(.gsk (kp [7,8]))))
(.seq (.reg 0 [mA 92 8,mA 93 7,mA 4 92,mA 5 93] (kp [4,5]))
.ret))))
def aAg:aD:=(.seq (.reg 0 [oA 4 (.mv (.c (.int .i32 0))),oA 5 (.mv (cI 0))] (kp [0,1]))
(.seq (.seq (.reg 0 [mA 11 1,mA 12 0,oA 13 (.lenS 12),oA 14 (.bin .geq 11 13)] (kp [0,1,14]))
(.cond 14
(.seq (.reg 0 [oA 4 (.mv (.c (.int .i32 0))),oA 5 (.mv (cI 0))] (kp [4,5]))
.ret)
(.gsk (kp [0,1]))))
(.seq (.reg 0 [mA 15 0,mA 16 1,oA 17 (.at 15 16),mA 6 17] (kp [0,1,6]))
(.seq (.reg 0 [oA 7 (.mv (cI 0)),oA 8 (.mv (.c (.int .i32 0))),oA 9 (.mv (.c (.int .i32 0)))] (kp [0,1,6]))
(.seq (.block 0
(.seq (.reg 0 [mA 19 6,oA 20 (.bin .lss 19 (.c (.int .u8 128))),mA 18 20] (kp [0,1,6,18]))
(.cond 18
(.seq (.reg 0 [mA 21 6,oA 22 (.cint .i32 21),mA 4 22,oA 5 (.mv (cI 1))] (kp [4,5]))
.ret)
(.seq (.reg 0 [mA 24 6,oA 25 (.bin .geq 24 (.c (.int .u8 192))),mA 26 25,oT 26 27 (.mv 6),oT 26 28 (.bin .lss 27 (.c (.int .u8 224))),oA 29 (.pick 26 28 (cB false)),mA 23 29] (kp [0,1,6,23]))
(.cond 23
(.reg 0 [mA 30 6,oA 31 (.bin .and 30 (.c (.int .u8 31))),oA 32 (.cint .i32 31),oA 7 (.mv (cI 2)),mA 8 32,oA 9 (.mv (.c (.int .i32 128)))] (kp [0,1,7,8,9]))
(.seq (.reg 0 [mA 34 6,oA 35 (.bin .geq 34 (.c (.int .u8 224))),mA 36 35,oT 36 37 (.mv 6),oT 36 38 (.bin .lss 37 (.c (.int .u8 240))),oA 39 (.pick 36 38 (cB false)),mA 33 39] (kp [0,1,6,33]))
(.cond 33
(.reg 0 [mA 40 6,oA 41 (.bin .and 40 (.c (.int .u8 15))),oA 42 (.cint .i32 41),oA 7 (.mv (cI 3)),mA 8 42,oA 9 (.mv (.c (.int .i32 2048)))] (kp [0,1,7,8,9]))
(.seq (.reg 0 [mA 44 6,oA 45 (.bin .geq 44 (.c (.int .u8 240))),mA 46 45,oT 46 47 (.mv 6),oT 46 48 (.bin .lss 47 (.c (.int .u8 248))),oA 49 (.pick 46 48 (cB false)),mA 43 49] (kp [0,1,6,43]))
(.cond 43
(.reg 0 [mA 50 6,oA 51 (.bin .and 50 (.c (.int .u8 7))),oA 52 (.cint .i32 51),oA 7 (.mv (cI 4)),mA 8 52,oA 9 (.mv (.c (.int .i32 65536)))] (kp [0,1,7,8,9]))
(.seq (.reg 0 [oA 4 (.mv (.c (.int .i32 0))),oA 5 (.mv (cI 0))] (kp [4,5]))
.ret))))))))))
(.cut M0))))))
def aHu:List aJ:=[.tmp 4,.tmp 5]
theorem aEL:aL Tryz.prog jF aAg aHu:=.of Tryz.func177 (by kernel_rfl)
def aAd:aD:=(.seq (.reg 0 [oA 2 (.mv (cB false))] (kp [0]))
(.seq (.reg 0 [mA 3 0,oA 4 (.bin .eql 3 (.c (.int .i32 9))),mA 5 4,oF 5 6 (.mv 0),oF 5 7 (.bin .eql 6 (.c (.int .i32 10))),oA 8 (.pick 5 (cB true) 7),mA 9 8,oF 9 10 (.mv 0),oF 9 11 (.bin .eql 10 (.c (.int .i32 13))),oA 12 (.pick 9 (cB true) 11),mA 13 12,oF 13 14 (.mv 0),oF 13 15 (.call b6 [14,(.c (.int .i32 32)),(.c (.int .i32 55295))]),oA 16 (.pick 13 (cB true) 15),mA 17 16,oF 17 18 (.mv 0),oF 17 19 (.call b6 [18,(.c (.int .i32 57344)),(.c (.int .i32 65533))]),oA 20 (.pick 17 (cB true) 19),mA 21 20,oF 21 22 (.mv 0),oF 21 23 (.call b6 [22,(.c (.int .i32 65536)),(.c (.int .i32 1114111))]),oA 24 (.pick 21 (cB true) 23),mA 2 24] (kp [2]))
.ret))
def aHr:List aJ:=[.tmp 2]
theorem aEI:aL Tryz.prog pN aAd aHr:=.of Tryz.func178 (by kernel_rfl)
def MY:aD:=(.seq (.seq (.reg 0 [mA 4 3,mA 5 0,oA 6 (.lenS 5),oA 7 (.bin .lss 4 6)] (kp [0,3,7]))
(.cond 7
(.gsk (kp [0,3]))
(.exit 0)))
(.seq (.block 1
(.seq (.reg 0 [mA 10 0,mA 11 3,oA 12 (.at 10 11),oA 13 (.bin .eql 12 (.c (.int .u8 58)))] (kp [0,3,13]))
(.cond 13
(.seq (.reg 0 [oA 2 (.mv (cB false))] (kp [2]))
.ret)
(.gsk (kp [0,3])))))
(.reg 0 [mA 8 3,oA 9 (.bin .add 8 (cI 1)),mA 3 9] (kp [0,3]))))
def aAe:aD:=(.seq (.reg 0 [oA 2 (.mv (cB false))] (kp [0]))
(.seq (.seq (.reg 0 [oA 3 (.mv (cI 0))] (kp [0,3]))
(.block 0
(.loop MY)))
(.seq (.reg 0 [mA 14 0,oA 15 (.call rC [14]),mA 2 15] (kp [2]))
.ret)))
def aHs:List aJ:=[.tmp 2]
theorem aEJ:aL Tryz.prog l6 aAe aHs:=.of Tryz.func179 (by kernel_rfl)
def aAo:aD:=(.seq (.reg 0 [oA 6 (.mv (cB false))] (kp [0,1,2]))
(.seq (.reg 0 [mA 7 0,mA 8 1,oA 9 (.bin .geq 7 8),mA 10 9,oT 10 11 (.mv 0),oT 10 12 (.mv 2),oT 10 13 (.bin .leq 11 12),oA 14 (.pick 10 13 (cB false)),mA 6 14] (kp [6]))
.ret))
def aIC:List aJ:=[.tmp 6]
theorem aET:aL Tryz.prog b6 aAo aIC:=.of Tryz.func206 (by kernel_rfl)
def aAf:aD:=(.seq (.reg 0 [oA 2 (.mv (cB false))] (kp [0]))
(.seq (.reg 0 [mA 3 0,oA 4 (.bin .neq 3 (.c (.str []))),mA 5 4,oT 5 6 (.mv 0),oT 5 7 (.call pO [6,(cI 0)]),oT 5 8 (.mv 0),oT 5 9 (.lenS 8),oT 5 10 (.bin .eql 7 9),oA 11 (.pick 5 10 (cB false)),mA 2 11] (kp [2]))
.ret))
def aHt:List aJ:=[.tmp 2]
theorem aEK:aL Tryz.prog rC aAf aHt:=.of Tryz.func207 (by kernel_rfl)
def M5:aD:=(.block 1
(.seq (.reg 0 [mA 10 0,mA 11 5,oA 12 (.call jF [10,11]),mA 9 12,oA 13 (.ext 9 0),oA 14 (.ext 9 1),mA 6 13,mA 7 14] (kp [0,1,5,6,7]))
(.seq (.seq (.reg 0 [mA 15 7,oA 16 (.bin .eql 15 (cI 0)),mA 17 16,oF 17 18 (.mv 6),oF 17 19 (.call l7 [18]),oF 17 20 (.un .not 19),oA 21 (.pick 17 (cB true) 20),mA 22 21,oF 22 23 (.mv 5),oF 22 24 (.mv 1),oF 22 25 (.bin .eql 23 24),oF 22 26 (.mv 25),oT 26 27 (.mv 6),oT 26 28 (.call j1 [27]),oT 26 29 (.un .not 28),oF 22 30 (.pick 26 29 (cB false)),oA 31 (.pick 22 (cB true) 30)] (kp [0,1,5,7,31]))
(.cond 31
(.seq (.reg 0 [mA 32 5,mA 4 32] (kp [4]))
.ret)
(.gsk (kp [0,1,5,7]))))
(.reg 0 [mA 33 5,mA 34 7,oA 35 (.bin .add 33 34),mA 5 35] (kp [0,1,5])))))
def aAi:aD:=(.seq (.reg 0 [oA 4 (.mv (cI 0))] (kp [0,1]))
(.seq (.reg 0 [mA 8 1,mA 5 8] (kp [0,1,5]))
(.block 0
(.loop M5))))
def aHw:List aJ:=[.tmp 4]
theorem aEN:aL Tryz.prog pO aAi aHw:=.of Tryz.func226 (by kernel_rfl)
def aAh:aD:=(.seq (.reg 0 [oA 2 (.mv (cB false))] (kp [0]))
(.seq (.reg 0 [mA 3 0,oA 4 (.call j1 [3]),mA 5 4,oF 5 6 (.mv 0),oF 5 7 (.bin .eql 6 (.c (.int .i32 45))),oA 8 (.pick 5 (cB true) 7),mA 9 8,oF 9 10 (.mv 0),oF 9 11 (.bin .eql 10 (.c (.int .i32 46))),oA 12 (.pick 9 (cB true) 11),mA 13 12,oF 13 14 (.mv 0),oF 13 15 (.call b6 [14,(.c (.int .i32 48)),(.c (.int .i32 57))]),oA 16 (.pick 13 (cB true) 15),mA 17 16,oF 17 18 (.mv 0),oF 17 19 (.bin .eql 18 (.c (.int .i32 183))),oA 20 (.pick 17 (cB true) 19),mA 21 20,oF 21 22 (.mv 0),oF 21 23 (.call b6 [22,(.c (.int .i32 768)),(.c (.int .i32 879))]),oA 24 (.pick 21 (cB true) 23),mA 25 24,oF 25 26 (.mv 0),oF 25 27 (.call b6 [26,(.c (.int .i32 8255)),(.c (.int .i32 8256))]),oA 28 (.pick 25 (cB true) 27),mA 2 28] (kp [2]))
.ret))
def aHv:List aJ:=[.tmp 2]
theorem aEM:aL Tryz.prog l7 aAh aHv:=.of Tryz.func247 (by kernel_rfl)
def aAl:aD:=(.seq (.reg 0 [oA 2 (.mv (cB false))] (kp [0]))
(.seq (.reg 0 [mA 3 0,oA 4 (.call b6 [3,(.c (.int .i32 65)),(.c (.int .i32 90))]),mA 5 4,oF 5 6 (.mv 0),oF 5 7 (.call b6 [6,(.c (.int .i32 97)),(.c (.int .i32 122))]),oA 8 (.pick 5 (cB true) 7),mA 9 8,oF 9 10 (.mv 0),oF 9 11 (.bin .eql 10 (.c (.int .i32 95))),oA 12 (.pick 9 (cB true) 11),mA 13 12,oF 13 14 (.mv 0),oF 13 15 (.bin .eql 14 (.c (.int .i32 58))),oA 16 (.pick 13 (cB true) 15),mA 17 16,oF 17 18 (.mv 0),oF 17 19 (.call b6 [18,(.c (.int .i32 192)),(.c (.int .i32 214))]),oA 20 (.pick 17 (cB true) 19),mA 21 20,oF 21 22 (.mv 0),oF 21 23 (.call b6 [22,(.c (.int .i32 216)),(.c (.int .i32 246))]),oA 24 (.pick 21 (cB true) 23),mA 25 24,oF 25 26 (.mv 0),oF 25 27 (.call b6 [26,(.c (.int .i32 248)),(.c (.int .i32 767))]),oA 28 (.pick 25 (cB true) 27),mA 29 28,oF 29 30 (.mv 0),oF 29 31 (.call b6 [30,(.c (.int .i32 880)),(.c (.int .i32 893))]),oA 32 (.pick 29 (cB true) 31),mA 33 32,oF 33 34 (.mv 0),oF 33 35 (.call b6 [34,(.c (.int .i32 895)),(.c (.int .i32 8191))]),oA 36 (.pick 33 (cB true) 35),mA 37 36,oF 37 38 (.mv 0),oF 37 39 (.call b6 [38,(.c (.int .i32 8204)),(.c (.int .i32 8205))]),oA 40 (.pick 37 (cB true) 39),mA 41 40,oF 41 42 (.mv 0),oF 41 43 (.call b6 [42,(.c (.int .i32 8304)),(.c (.int .i32 8591))]),oA 44 (.pick 41 (cB true) 43),mA 45 44,oF 45 46 (.mv 0),oF 45 47 (.call b6 [46,(.c (.int .i32 11264)),(.c (.int .i32 12271))]),oA 48 (.pick 45 (cB true) 47),mA 49 48,oF 49 50 (.mv 0),oF 49 51 (.call b6 [50,(.c (.int .i32 12289)),(.c (.int .i32 55295))]),oA 52 (.pick 49 (cB true) 51),mA 53 52,oF 53 54 (.mv 0),oF 53 55 (.call b6 [54,(.c (.int .i32 63744)),(.c (.int .i32 64975))]),oA 56 (.pick 53 (cB true) 55),mA 57 56,oF 57 58 (.mv 0),oF 57 59 (.call b6 [58,(.c (.int .i32 65008)),(.c (.int .i32 65533))]),oA 60 (.pick 57 (cB true) 59),mA 61 60,oF 61 62 (.mv 0),oF 61 63 (.call b6 [62,(.c (.int .i32 65536)),(.c (.int .i32 983039))]),oA 64 (.pick 61 (cB true) 63),mA 2 64] (kp [2]))
.ret))
def aHz:List aJ:=[.tmp 2]
theorem aEQ:aL Tryz.prog j1 aAl aHz:=.of Tryz.func248 (by kernel_rfl)
end Go.Proofs.YtjoadepfokpcoaaGreatDoor
set_option maxRecDepth 100000
set_option linter.unusedVariables false
namespace Go.Proofs.YtjoadepfokpcoaaGreatDoor
def NI:aD:=(.seq (.seq (.reg 1 [mA 28 5,oA 29 (.lenL 28),oA 30 (.bin .gtr 29 (cI 0)),mA 31 30,oT 31 32 (.mv 5),oT 31 33 (.mv 5),oT 31 34 (.lenL 33),oT 31 35 (.bin .sub 34 (cI 1)),oT 31 36 (.idx 1 32 35),oT 31 37 (.load 36 false 1),oT 31 38 (.off 7 1),oT 31 39 (.load 38 false 1),oT 31 40 (.bin .geq 37 39),oA 41 (.pick 31 40 (cB false))] (kp [0,3,4,5,7,17,18,19,41]))
(.cond 41
(.gsk (kp [0,3,4,5,7,17,18,19]))
(.exit 2)))
(.block 3
(.seq (.reg 0 [mA 42 5,mA 43 5,oA 44 (.lenL 43),oA 45 (.bin .sub 44 (cI 1)),oA 46 (.cutL 1 42 none (some 45) none),mA 5 46] (kp [0,3,4,5,7,17,18,19]))
(.reg 0 [mA 47 4,oA 48 (.call uU [47])] (kp [0,3,4,5,7,17,18,19])))))
def EX:aD:=(.seq (.reg 0 [oA 20 (.bin .lss 19 18)] (kp [0,3,4,5,17,18,19,20]))
(.seq (.cond 20
(.gsk (kp [0,3,4,5,17,18,19]))
(.exit 0))
(.seq (.block 1
(.seq (.reg 0 [mA 21 19,oA 22 (.idx 7 17 19),oA 23 (.load 22 true 7),oA 7 (.allocL [(.int .i64 0),(.int .i64 0),(.str []),(.str []),(.str []),(.str []),.nils]),mA 6 21,oN (.store 7 23 7)] (kp [0,3,4,5,6,7,17,18,19]))
(.seq (.seq (.reg 0 [mA 24 0,mA 25 6,oA 26 (.call zF [24,25]),oA 27 (.un .not 26)] (kp [0,3,4,5,7,17,18,19,27]))
(.cond 27
(.seq (.reg 0 [oA 2 (.mv (cB false))] (kp [2]))
.ret)
(.gsk (kp [0,3,4,5,7,17,18,19]))))
(.seq (.block 2
(.loop NI))
(.seq (.seq (.reg 0 [oA 49 (.off 7 0),oA 50 (.load 49 false 1),oA 51 (.bin .neq 50 (cI 2))] (kp [0,3,4,5,7,17,18,19,51]))
(.cond 51
(.seq (.seq (.reg 0 [oA 52 (.load 7 true 7),oA 53 (.call zD [52]),oA 54 (.un .not 53)] (kp [0,3,4,5,17,18,19,54]))
(.cond 54
(.seq (.reg 0 [oA 2 (.mv (cB false))] (kp [2]))
.ret)
(.gsk (kp [0,3,4,5,17,18,19]))))
(.exit 1))
(.gsk (kp [0,3,4,5,7,17,18,19]))))
(.seq (.seq (.reg 0 [oA 55 (.load 7 true 7),mA 56 4,oA 57 (.call zE [55,56]),oA 58 (.un .not 57)] (kp [0,3,4,5,7,17,18,19,58]))
(.cond 58
(.seq (.reg 0 [oA 2 (.mv (cB false))] (kp [2]))
.ret)
(.gsk (kp [0,3,4,5,7,17,18,19]))))
(.seq (.reg 0 [mA 59 5,oA 60 (.off 7 1),oA 61 (.load 60 false 1),oA 62 (.buildF 1 1 [(.int .i64 0)] [(0,61)]),oA 63 (.app 1 [(.int .i64 0)] 8 b9 59 62),mA 5 63] (kp [0,3,4,5,7,17,18,19]))
(.seq (.reg 0 [oA 64 (.off 7 1),oA 65 (.load 64 false 1),oA 66 (.bin .eql 65 (cI 1))] (kp [0,3,4,5,17,18,19,66]))
(.cond 66
(.reg 0 [mA 67 3,oA 68 (.bin .add 67 (cI 1)),mA 3 68] (kp [0,3,4,5,17,18,19]))
(.gsk (kp [0,3,4,5,17,18,19])))))))))))
(.reg 0 [oA 69 (.bin .add 19 (cI 1)),mA 19 69] (kp [0,3,4,5,17,18,19])))))
def aBP:aD:=(.seq (.reg 0 [oA 2 (.mv (cB false))] (kp [0]))
(.seq (.seq (.reg 0 [mA 8 0,oA 9 (.lenL 8),oA 10 (.bin .lss 9 (cI 1)),mA 11 10,oF 11 12 (.mv 0),oF 11 13 (.lenL 12),oF 11 14 (.bin .gtr 13 (cI 1048576)),oA 15 (.pick 11 (cB true) 14)] (kp [0,15]))
(.cond 15
(.seq (.reg 0 [oA 2 (.mv (cB false))] (kp [2]))
.ret)
(.gsk (kp [0]))))
(.seq (.reg 0 [oA 3 (.mv (cI 0))] (kp [0,3]))
(.seq (.reg 0 [oA 16 (.call yR []),mA 4 16] (kp [0,3,4]))
(.seq (.reg 0 [oA 5 (.mv (.c .nils))] (kp [0,3,4,5]))
(.seq (.seq (.reg 0 [mA 17 0,oA 18 (.lenL 17),oA 19 (.mv (cI 0))] (kp [0,3,4,5,17,18,19]))
(.block 0
(.loop EX)))
(.seq (.reg 0 [mA 70 3,oA 71 (.bin .eql 70 (cI 1)),mA 2 71] (kp [2]))
.ret)))))))
def aI1:List aJ:=[.tmp 2]
theorem aEj:aL Tryz.prog zC aBP aI1:=.of Tryz.func50 (by kernel_rfl)
def aAq:aD:=(.seq (.reg 0 [oA 0 (.mv (.c .nilp))] (kp []))
(.seq (.reg 0 [oA 1 (.build [.nils] []),oA 2 (.boxH 1 XV),mA 0 2] (kp [0]))
.ret))
def aIE:List aJ:=[.tmp 0]
theorem aEV:aL Tryz.prog yR aAq aIE:=.of Tryz.func77 (by kernel_rfl)
def aAr:aD:=(.seq (.reg 0 [oA 2 (.mv (cI 0))] (kp [0]))
(.seq (.seq (.reg 0 [mA 3 0,oA 4 (.eq .p .eql 3 (.c .nilp))] (kp [0,4]))
(.cond 4
(.seq (.reg 0 [oA 2 (.mv (cI 0))] (kp [2]))
.ret)
(.gsk (kp [0]))))
(.seq (.reg 0 [mA 5 0,oA 6 (.nilck 5),oA 7 (.off 6 0),oA 8 (.load 7 false 1),oA 9 (.lenL 8),mA 2 9] (kp [2]))
.ret)))
def aIF:List aJ:=[.tmp 2]
theorem aEW:aL Tryz.prog uT aAr aIF:=.of Tryz.func79 (by kernel_rfl)
def aAt:aD:=(.seq (.reg 0 [oA 2 (.mv (cB false))] (kp [0]))
(.seq (.seq (.reg 0 [mA 3 0,oA 4 (.call uT [3]),oA 5 (.bin .eql 4 (cI 0))] (kp [0,5]))
(.cond 5
(.seq (.reg 0 [oA 2 (.mv (cB false))] (kp [2]))
.ret)
(.gsk (kp [0]))))
(.seq (.reg 1 [mA 6 0,mA 7 0,oA 8 (.nilck 7),oA 9 (.off 8 0),oA 10 (.load 9 false 1),mA 11 0,oA 12 (.nilck 11),oA 13 (.off 12 0),oA 14 (.load 13 false 1),oA 15 (.lenL 14),oA 16 (.bin .sub 15 (cI 1)),oA 17 (.cutL 1 10 none (some 16) none),oA 18 (.nilck 6),oA 19 (.off 18 0),oN (.store 19 17 1)] (kp []))
(.seq (.reg 0 [oA 2 (.mv (cB true))] (kp [2]))
.ret))))
def aIG:List aJ:=[.tmp 2]
theorem aEY:aL Tryz.prog uU aAt aIG:=.of Tryz.func80 (by kernel_rfl)
def EO:aD:=(.seq (.reg 0 [oA 22 (.bin .lss 21 20)] (kp [0,1,19,20,21,22]))
(.seq (.cond 22
(.gsk (kp [0,1,19,20,21]))
(.exit 0))
(.seq (.block 1
(.seq (.reg 0 [mA 23 21,oA 24 (.idx 4 19 21),oA 25 (.load 24 true 4),oA 6 (.allocL [(.str []),(.str []),(.str []),(.str [])]),mA 5 23,oN (.store 6 25 4)] (kp [0,1,5,6,19,20,21]))
(.seq (.reg 0 [oA 26 (.off 6 0),oA 27 (.load 26 false 1),oA 28 (.bin .eql 27 (.c (.str bH))),mA 29 28,oF 29 30 (.off 6 0),oF 29 31 (.load 30 false 1),oF 29 32 (.bin .eql 31 (.c (.str []))),oF 29 33 (.mv 32),oT 33 34 (.off 6 1),oT 33 35 (.load 34 false 1),oT 33 36 (.bin .eql 35 (.c (.str bH))),oF 29 37 (.pick 33 36 (cB false)),oA 38 (.pick 29 (cB true) 37)] (kp [0,1,5,19,20,21,38]))
(.cond 38
(.reg 0 [mA 39 1,oA 40 (.nilck 39),oA 41 (.off 40 6),oA 42 (.load 41 false 1),mA 43 5,oA 44 (.idx 4 42 43),oA 45 (.off 44 2),oN (.store 45 (.c (.str fJ)) 1)] (kp [0,1,19,20,21]))
(.gsk (kp [0,1,19,20,21]))))))
(.reg 0 [oA 46 (.bin .add 21 (cI 1)),mA 21 46] (kp [0,1,19,20,21])))))
def ET:aD:=(.seq (.reg 1 [mA 115 1,oA 116 (.nilck 115),oA 117 (.off 116 6),oA 118 (.load 117 false 1),mA 119 11,oA 120 (.idx 4 118 119),oA 121 (.off 120 2),oA 122 (.load 121 false 1),oA 123 (.off 12 1),oA 124 (.load 123 false 1),oA 125 (.build [(.str []),(.str [])] [(0,1,122),(1,1,124)]),oA 15 (.allocL [(.str []),(.str [])]),oN (.store 15 125 2)] (kp [0,1,9,10,15,81,82,83]))
(.seq (.reg 0 [mA 126 9,mA 127 126,oT 127 128 (.mv 10),oT 127 129 (.load 15 true 2),oT 127 130 (.look [none,none] true (.bool false) 128 129 false),oT 127 131 (.un .not 130),oA 132 (.pick 127 131 (cB false)),mA 9 132] (kp [0,1,9,10,15,81,82,83]))
(.reg 0 [mA 133 10,oA 134 (.load 15 true 2),oN (.upd [none,none] true 133 134 (cB true))] (kp [0,1,9,10,81,82,83]))))
def z7:aD:=(.seq (.reg 0 [oA 84 (.bin .lss 83 82)] (kp [0,1,9,10,81,82,83,84]))
(.seq (.cond 84
(.gsk (kp [0,1,9,10,81,82,83]))
(.exit 2))
(.seq (.block 3
(.seq (.reg 0 [mA 85 83,oA 86 (.idx 4 81 83),oA 87 (.load 86 true 4),oA 12 (.allocL [(.str []),(.str []),(.str []),(.str [])]),mA 11 85,oN (.store 12 87 4)] (kp [0,1,9,10,11,12,81,82,83]))
(.seq (.seq (.reg 0 [oA 88 (.off 12 2),oA 89 (.load 88 false 1),oA 90 (.bin .eql 89 (.c (.str []))),mA 91 90,oT 91 92 (.off 12 0),oT 91 93 (.load 92 false 1),oT 91 94 (.bin .neq 93 (.c (.str []))),oA 95 (.pick 91 94 (cB false))] (kp [0,1,9,10,11,12,81,82,83,95]))
(.cond 95
(.seq (.reg 0 [mA 97 0,oA 98 (.off 12 0),oA 99 (.load 98 false 1),oA 100 (.call uV [97,99]),mA 96 100,oA 101 (.ext 96 0),oA 102 (.ext 96 1),mA 13 101,mA 14 102] (kp [0,1,9,10,11,12,13,14,81,82,83]))
(.reg 0 [mA 103 1,oA 104 (.nilck 103),oA 105 (.off 104 6),oA 106 (.load 105 false 1),mA 107 11,mA 108 13,mA 109 9,mA 110 109,oT 110 111 (.mv 14),oA 112 (.pick 110 111 (cB false)),oA 113 (.idx 4 106 107),oA 114 (.off 113 2),oN (.store 114 108 1),mA 9 112] (kp [0,1,9,10,11,12,81,82,83])))
(.gsk (kp [0,1,9,10,11,12,81,82,83]))))
(.cut ET))))
(.reg 0 [oA 135 (.bin .add 83 (cI 1)),mA 83 135] (kp [0,1,9,10,81,82,83])))))
def NA:aD:=(.seq (.seq (.reg 0 [mA 136 9,oA 137 (.un .not 136)] (kp [0,137]))
(.cond 137
(.seq (.reg 0 [mA 138 0,oA 139 (.call uU [138])] (kp []))
(.seq (.reg 0 [oA 4 (.mv (cI 2))] (kp [4]))
.ret))
(.gsk (kp []))))
(.seq (.reg 0 [oA 4 (.mv (cI 0))] (kp [4]))
.ret))
def EQ:aD:=(.seq (.seq (.reg 0 [mA 78 1,oA 79 (.nilck 78),oA 80 (.off 79 6),oA 81 (.load 80 false 1),oA 82 (.lenL 81),oA 83 (.mv (cI 0))] (kp [0,1,9,10,81,82,83]))
(.block 2
(.loop z7)))
(.cut NA))
def EP:aD:=(.seq (.reg 0 [mA 57 0,mA 58 1,oA 59 (.nilck 58),oA 60 (.off 59 2),oA 61 (.load 60 false 1),oA 62 (.call uV [57,61]),mA 56 62,oA 63 (.ext 56 0),oA 64 (.ext 56 1),mA 8 63,mA 9 64] (kp [0,1,8,9]))
(.seq (.reg 0 [mA 65 1,mA 66 8,mA 67 9,mA 68 67,oT 68 69 (.mv 1),oT 68 70 (.nilck 69),oT 68 71 (.off 70 2),oT 68 72 (.load 71 false 1),oT 68 73 (.bin .neq 72 (.c (.str bH))),oA 74 (.pick 68 73 (cB false)),oA 75 (.nilck 65),oA 76 (.off 75 4),oN (.store 76 66 1),mA 9 74] (kp [0,1,9]))
(.seq (.reg 0 [oA 77 (.mkMap),mA 10 77] (kp [0,1,9,10]))
(.cut EQ))))
def aAs:aD:=(.seq (.reg 0 [oA 4 (.mv (cI 0))] (kp [0,1]))
(.seq (.seq (.reg 0 [mA 16 1,oA 17 (.nilck 16),oA 18 (.off 17 6),oA 19 (.load 18 false 1),oA 20 (.lenL 19),oA 21 (.mv (cI 0))] (kp [0,1,19,20,21]))
(.block 0
(.loop EO)))
(.seq (.seq (.reg 0 [mA 47 0,mA 48 1,oA 49 (.nilck 48),oA 50 (.off 49 6),oA 51 (.load 50 false 1),oA 52 (.call yT [47,51]),mA 7 52] (kp [0,1,7]))
(.seq (.reg 0 [mA 53 7,oA 54 (.bin .neq 53 (cI 0))] (kp [0,1,7,54]))
(.cond 54
(.seq (.reg 0 [mA 55 7,mA 4 55] (kp [4]))
.ret)
(.gsk (kp [0,1])))))
(.cut EP))))
def SR:List aJ:=[.tmp 4]
theorem aEX:aL Tryz.prog yS aAs SR:=.of Tryz.func81 (by kernel_rfl)
def aBT:aD:=(.seq (.reg 0 [oA 4 (.mv (cB false))] (kp [0,1]))
(.seq (.reg 0 [mA 7 0,mA 8 1,oA 9 (.idx 7 7 8),oA 10 (.load 9 true 7),oA 5 (.allocL [(.int .i64 0),(.int .i64 0),(.str []),(.str []),(.str []),(.str []),.nils]),oN (.store 5 10 7)] (kp [0,1,5]))
(.seq (.seq (.reg 0 [mA 11 1,oA 12 (.bin .eql 11 (cI 0)),mA 13 12,oF 13 14 (.off 5 0),oF 13 15 (.load 14 false 1),oF 13 16 (.bin .eql 15 (cI 1)),oA 17 (.pick 13 (cB true) 16)] (kp [0,1,5,17]))
(.cond 17
(.seq (.reg 0 [mA 18 1,oA 19 (.bin .eql 18 (cI 0)),mA 20 19,oT 20 21 (.off 5 0),oT 20 22 (.load 21 false 1),oT 20 23 (.bin .eql 22 (cI 1)),oA 24 (.pick 20 23 (cB false)),mA 25 24,oT 25 26 (.off 5 1),oT 25 27 (.load 26 false 1),oT 25 28 (.bin .eql 27 (cI 0)),oA 29 (.pick 25 28 (cB false)),mA 4 29] (kp [4]))
.ret)
(.gsk (kp [0,1,5]))))
(.seq (.reg 0 [mA 30 0,mA 31 1,oA 32 (.bin .sub 31 (cI 1)),oA 33 (.idx 7 30 32),oA 34 (.load 33 true 7),oA 6 (.allocL [(.int .i64 0),(.int .i64 0),(.str []),(.str []),(.str []),(.str []),.nils]),oN (.store 6 34 7)] (kp [5,6]))
(.seq (.block 0
(.seq (.reg 0 [oA 36 (.off 5 1),oA 37 (.load 36 false 1),oA 38 (.bin .lss 37 (cI 1)),mA 39 38,oF 39 40 (.off 5 1),oF 39 41 (.load 40 false 1),oF 39 42 (.bin .gtr 41 (cI 201)),oA 43 (.pick 39 (cB true) 42),mA 44 43,oF 44 45 (.off 5 1),oF 44 46 (.load 45 false 1),oF 44 47 (.off 6 1),oF 44 48 (.load 47 false 1),oF 44 49 (.bin .add 48 (cI 1)),oF 44 50 (.bin .gtr 46 49),oA 51 (.pick 44 (cB true) 50),mA 35 51] (kp [5,6,35]))
(.cond 35
(.seq (.reg 0 [oA 4 (.mv (cB false))] (kp [4]))
.ret)
(.seq (.reg 0 [oA 53 (.off 5 1),oA 54 (.load 53 false 1),oA 55 (.off 6 1),oA 56 (.load 55 false 1),oA 57 (.bin .gtr 54 56),mA 58 57,oT 58 59 (.off 6 0),oT 58 60 (.load 59 false 1),oT 58 61 (.bin .neq 60 (cI 1)),oA 62 (.pick 58 61 (cB false)),mA 63 62,oT 63 64 (.off 6 0),oT 63 65 (.load 64 false 1),oT 63 66 (.bin .neq 65 (cI 2)),oA 67 (.pick 63 66 (cB false)),mA 52 67] (kp [5,6,52]))
(.cond 52
(.seq (.reg 0 [oA 4 (.mv (cB false))] (kp [4]))
.ret)
(.gsk (kp [5,6])))))))
(.seq (.reg 0 [oA 68 (.off 5 0),oA 69 (.load 68 false 1),oA 70 (.bin .neq 69 (cI 3)),mA 71 70,oF 71 72 (.off 5 1),oF 71 73 (.load 72 false 1),oF 71 74 (.bin .gtr 73 (cI 1)),oF 71 75 (.mv 74),oT 75 76 (.off 6 0),oT 75 77 (.load 76 false 1),oT 75 78 (.bin .neq 77 (cI 3)),oT 75 79 (.mv 78),oF 79 80 (.off 6 1),oF 79 81 (.load 80 false 1),oF 79 82 (.off 5 1),oF 79 83 (.load 82 false 1),oF 79 84 (.bin .neq 81 83),oT 75 85 (.pick 79 (cB true) 84),oF 71 86 (.pick 75 85 (cB false)),oA 87 (.pick 71 (cB true) 86),mA 4 87] (kp [4]))
.ret))))))
def aI4:List aJ:=[.tmp 4]
theorem aEn:aL Tryz.prog zF aBT aI4:=.of Tryz.func99 (by kernel_rfl)
def aBQ:aD:=(.seq (.reg 0 [oA 1 (.boxL 0),oA 2 (.mv (cB false))] (kp [1]))
(.seq (.seq (.reg 0 [oA 3 (.off 1 2),oA 4 (.load 3 false 1),oA 5 (.bin .neq 4 (.c (.str []))),mA 6 5,oF 6 7 (.off 1 4),oF 6 8 (.load 7 false 1),oF 6 9 (.bin .neq 8 (.c (.str []))),oA 10 (.pick 6 (cB true) 9),mA 11 10,oF 11 12 (.off 1 6),oF 11 13 (.load 12 false 1),oF 11 14 (.lenL 13),oF 11 15 (.bin .gtr 14 (cI 0)),oA 16 (.pick 11 (cB true) 15),mA 17 16,oF 17 18 (.off 1 5),oF 17 19 (.load 18 false 1),oF 17 20 (.call u7 [19]),oF 17 21 (.un .not 20),oA 22 (.pick 17 (cB true) 21)] (kp [1,22]))
(.cond 22
(.seq (.reg 0 [oA 2 (.mv (cB false))] (kp [2]))
.ret)
(.gsk (kp [1]))))
(.seq (.seq (.reg 0 [oA 23 (.off 1 0),oA 24 (.load 23 false 1)] (kp [1,24]))
(.block 0
(.seq (.reg 0 [oA 26 (.bin .eql 24 (cI 1)),mA 25 26] (kp [1,24,25]))
(.cond 25
(.seq (.reg 0 [oA 27 (.off 1 3),oA 28 (.load 27 false 1),oA 29 (.bin .eql 28 (.c (.str []))),mA 30 29,oT 30 31 (.off 1 5),oT 30 32 (.load 31 false 1),oT 30 33 (.bin .eql 32 (.c (.str []))),oA 34 (.pick 30 33 (cB false)),mA 2 34] (kp [2]))
.ret)
(.seq (.reg 0 [oA 36 (.bin .eql 24 (cI 3)),mA 35 36] (kp [1,24,35]))
(.cond 35
(.seq (.reg 0 [oA 37 (.off 1 3),oA 38 (.load 37 false 1),oA 39 (.bin .eql 38 (.c (.str []))),mA 40 39,oT 40 41 (.off 1 5),oT 40 42 (.load 41 false 1),oT 40 43 (.bin .neq 42 (.c (.str []))),oA 44 (.pick 40 43 (cB false)),mA 2 44] (kp [2]))
.ret)
(.seq (.reg 0 [oA 46 (.bin .eql 24 (cI 4)),mA 45 46] (kp [1,24,45]))
(.cond 45
(.seq (.reg 0 [oA 47 (.off 1 3),oA 48 (.load 47 false 1),oA 49 (.bin .eql 48 (.c (.str []))),mA 50 49,oT 50 51 (.off 1 5),oT 50 52 (.load 51 false 1),oT 50 53 (.call pR [52,(.c (.str rT))]),oT 50 54 (.un .not 53),oA 55 (.pick 50 54 (cB false)),mA 56 55,oT 56 57 (.off 1 5),oT 56 58 (.load 57 false 1),oT 56 59 (.call y8 [58,(.c (.str zO))]),oT 56 60 (.un .not 59),oA 61 (.pick 56 60 (cB false)),mA 62 61,oT 62 63 (.off 1 5),oT 62 64 (.load 63 false 1),oT 62 65 (.call pR [64,(.c (.str iC))]),oT 62 66 (.un .not 65),oA 67 (.pick 62 66 (cB false)),mA 2 67] (kp [2]))
.ret)
(.seq (.reg 0 [oA 69 (.bin .eql 24 (cI 5)),mA 68 69] (kp [1,68]))
(.cond 68
(.seq (.reg 0 [oA 70 (.off 1 3),oA 71 (.load 70 false 1),oA 72 (.call zB [71]),mA 73 72,oT 73 74 (.off 1 5),oT 73 75 (.load 74 false 1),oT 73 76 (.call pR [75,(.c (.str rW))]),oT 73 77 (.un .not 76),oA 78 (.pick 73 77 (cB false)),mA 79 78,oT 79 80 (.off 1 5),oT 79 81 (.load 80 false 1),oT 79 82 (.call zA [81,(cI 0)]),oT 79 83 (.bin .eql 82 (cI 0)),oA 84 (.pick 79 83 (cB false)),mA 85 84,oT 85 86 (.off 1 5),oT 85 87 (.load 86 false 1),oT 85 88 (.call pR [87,(.c (.str iC))]),oT 85 89 (.un .not 88),oA 90 (.pick 85 89 (cB false)),mA 2 90] (kp [2]))
.ret)
(.gsk (kp []))))))))))))
(.seq (.reg 0 [oA 2 (.mv (cB false))] (kp [2]))
.ret))))
def aI2:List aJ:=[.tmp 2]
theorem aEk:aL Tryz.prog zD aBQ aI2:=.of Tryz.func100 (by kernel_rfl)
def EY:aD:=(.seq (.reg 0 [oA 28 (.bin .lss 27 26)] (kp [1,2,5,6,25,26,27,28]))
(.seq (.cond 28
(.gsk (kp [1,2,5,6,25,26,27]))
(.exit 0))
(.seq (.block 1
(.seq (.reg 0 [mA 29 27,oA 30 (.idx 4 25 27),oA 31 (.load 30 true 4),oA 8 (.allocL [(.str []),(.str []),(.str []),(.str [])]),mA 7 29,oN (.store 8 31 4)] (kp [1,2,5,6,7,8,25,26,27]))
(.seq (.reg 0 [oA 32 (.off 6 6),oA 33 (.load 32 false 1),mA 34 7,oA 35 (.idx 4 33 34),oA 36 (.off 35 2),oN (.store 36 (.c (.str [])) 1)] (kp [1,2,5,6,7,8,25,26,27]))
(.seq (.reg 0 [mA 37 5,mA 38 37,oT 38 39 (.off 8 0),oT 38 40 (.load 39 false 1),oT 38 41 (.off 8 1),oT 38 42 (.load 41 false 1),oT 38 43 (.call u9 [40,42]),oA 44 (.pick 38 43 (cB false)),mA 45 44,oT 45 46 (.off 8 3),oT 45 47 (.load 46 false 1),oT 45 48 (.call u7 [47]),oA 49 (.pick 45 48 (cB false)),mA 5 49] (kp [1,2,5,6,7,8,25,26,27]))
(.reg 0 [mA 50 5,mA 51 50,oT 51 52 (.off 2 6),oT 51 53 (.load 52 false 1),oT 51 54 (.mv 7),oT 51 55 (.cutL 4 53 none (some 54) none),⟨some 56,.mkFn rH [] [8],(some (51,true)),[.fz 8],.n []⟩,oT 51 57 (.call rF [55,56]),oT 51 58 (.un .not 57),oA 59 (.pick 51 58 (cB false)),mA 5 59] (kp [1,2,5,6,25,26,27]))))))
(.reg 0 [oA 60 (.bin .add 27 (cI 1)),mA 27 60] (kp [1,2,5,6,25,26,27])))))
def NJ:aD:=(.seq (.reg 0 [mA 61 5,mA 62 61,oT 62 63 (.mv 1),oT 62 64 (.call yS [63,6]),oT 62 65 (.bin .eql 64 (cI 0)),oA 66 (.pick 62 65 (cB false)),mA 67 66,oT 67 68 (.off 6 4),oT 67 69 (.load 68 false 1),oT 67 70 (.off 2 4),oT 67 71 (.load 70 false 1),oT 67 72 (.bin .eql 69 71),oA 73 (.pick 67 72 (cB false)),mA 74 73,oT 74 75 (.off 6 6),oT 74 76 (.load 75 false 1),oT 74 77 (.off 2 6),oT 74 78 (.load 77 false 1),oT 74 79 (.call uZ [76,78]),oA 80 (.pick 74 79 (cB false)),mA 4 80] (kp [4]))
.ret)
def EZ:aD:=(.seq (.reg 0 [oA 19 (.load 2 true 7),oA 6 (.allocH [(.int .i64 0),(.int .i64 0),(.str []),(.str []),(.str []),(.str []),.nils] cS),oN (.store 6 19 7)] (kp [1,2,5,6]))
(.seq (.reg 0 [oA 20 (.off 2 6),oA 21 (.load 20 false 1),oA 22 (.call uY [21]),oA 23 (.off 6 6),oN (.store 23 22 1)] (kp [1,2,5,6]))
(.seq (.seq (.reg 0 [oA 24 (.off 2 6),oA 25 (.load 24 false 1),oA 26 (.lenL 25),oA 27 (.mv (cI 0))] (kp [1,2,5,6,25,26,27]))
(.block 0
(.loop EY)))
(.cut NJ))))
def aBR:aD:=(.seq (.reg 0 [oA 2 (.boxL 0),oA 4 (.mv (cB false))] (kp [1,2]))
(.seq (.reg 0 [oA 9 (.off 2 2),oA 10 (.load 9 false 1),oA 11 (.off 2 3),oA 12 (.load 11 false 1),oA 13 (.call u9 [10,12]),mA 14 13,oT 14 15 (.off 2 5),oT 14 16 (.load 15 false 1),oT 14 17 (.bin .eql 16 (.c (.str []))),oA 18 (.pick 14 17 (cB false)),mA 5 18] (kp [1,2,5]))
(.cut EZ)))
def SS:List aJ:=[.tmp 4]
theorem aEl:aL Tryz.prog zE aBR SS:=.of Tryz.func101 (by kernel_rfl)
def EU:aD:=(.seq (.reg 0 [oA 15 (.bin .lss 14 13)] (kp [0,5,12,13,14,15]))
(.seq (.cond 15
(.gsk (kp [0,5,12,13,14]))
(.exit 0))
(.seq (.block 1
(.seq (.reg 0 [oA 16 (.idx 4 12 14),oA 17 (.load 16 true 4),oA 7 (.allocL [(.str []),(.str []),(.str []),(.str [])]),oN (.store 7 17 4)] (kp [0,5,7,12,13,14]))
(.seq (.seq (.reg 0 [oA 19 (.load 7 true 4),oA 20 (.call rE [19]),mA 18 20,oA 21 (.ext 18 0),oA 22 (.ext 18 1),mA 8 21,mA 9 22] (kp [0,5,7,9,12,13,14]))
(.seq (.reg 0 [mA 23 9,oA 24 (.un .not 23)] (kp [0,5,7,12,13,14,24]))
(.cond 24
(.exit 1)
(.gsk (kp [0,5,7,12,13,14])))))
(.seq (.seq (.reg 0 [oA 25 (.load 7 true 4),oA 26 (.call uX [25]),mA 27 26,oF 27 28 (.mv 5),⟨some 29,.mkFn pP [] [7],(some (27,false)),[.fz 7],.n []⟩,oF 27 30 (.call rF [28,29]),oA 31 (.pick 27 (cB true) 30)] (kp [0,5,7,12,13,14,31]))
(.cond 31
(.seq (.reg 0 [oA 4 (.mv (cI 2))] (kp [4]))
.ret)
(.gsk (kp [0,5,7,12,13,14]))))
(.reg 0 [mA 32 5,oA 33 (.load 7 true 4),oA 34 (.buildF 4 1 [(.str []),(.str []),(.str []),(.str [])] [(0,33)]),oA 35 (.app 4 [(.str []),(.str []),(.str []),(.str [])] 64 iR 32 34),mA 5 35] (kp [0,5,12,13,14]))))))
(.reg 0 [oA 36 (.bin .add 14 (cI 1)),mA 14 36] (kp [0,5,12,13,14])))))
def NB:aD:=(.seq (.reg 0 [mA 37 0,mA 38 0,oA 39 (.nilck 38),oA 40 (.off 39 0),oA 41 (.load 40 false 1),mA 42 5,⟨some 43,.mkIfc pV 42,none,[.fzs 42 4],.n []⟩,oA 44 (.buildF 1 1 [.nili] [(0,43)]),oA 45 (.app 1 [.nili] 16 gB 41 44),oA 46 (.nilck 37),oA 47 (.off 46 0),oN (.store 47 45 1)] (kp []))
(.seq (.reg 0 [oA 4 (.mv (cI 0))] (kp [4]))
.ret))
def aAu:aD:=(.seq (.reg 0 [oA 4 (.mv (cI 0))] (kp [0,1]))
(.seq (.seq (.reg 0 [mA 10 0,oA 11 (.eq .p .eql 10 (.c .nilp))] (kp [0,1,11]))
(.cond 11
(.seq (.reg 0 [oA 4 (.mv (cI 1))] (kp [4]))
.ret)
(.gsk (kp [0,1]))))
(.seq (.reg 0 [oA 5 (.mv (.c .nils))] (kp [0,1,5]))
(.seq (.seq (.reg 0 [mA 12 1,oA 13 (.lenL 12),oA 14 (.mv (cI 0))] (kp [0,5,12,13,14]))
(.block 0
(.loop EU)))
(.cut NB)))))
def aIH:List aJ:=[.tmp 4]
theorem aEZ:aL Tryz.prog yT aAu aIH:=.of Tryz.func121 (by kernel_rfl)
def NC:aD:=(.seq (.reg 0 [oA 28 (.bin .lss 27 26)] (kp [0,1,6,25,26,27,28]))
(.seq (.cond 28
(.gsk (kp [0,1,6,25,26,27]))
(.exit 2))
(.seq (.block 3
(.seq (.reg 0 [oA 29 (.idx 4 25 27),oA 30 (.load 29 true 4),oA 8 (.allocL [(.str []),(.str []),(.str []),(.str [])]),oN (.store 8 30 4)] (kp [0,1,6,8,25,26,27]))
(.seq (.reg 0 [oA 32 (.load 8 true 4),oA 33 (.call rE [32]),mA 31 33,oA 34 (.ext 31 0),oA 35 (.ext 31 1),mA 9 34,mA 10 35] (kp [0,1,6,8,9,25,26,27]))
(.seq (.reg 0 [mA 36 9,mA 37 1,oA 38 (.bin .eql 36 37)] (kp [0,1,6,8,25,26,27,38]))
(.cond 38
(.seq (.reg 0 [oA 39 (.off 8 3),oA 40 (.load 39 false 1),mA 4 40,oA 5 (.mv (cB true))] (kp [4,5]))
.ret)
(.gsk (kp [0,1,6,25,26,27])))))))
(.reg 0 [oA 41 (.bin .add 27 (cI 1)),mA 27 41] (kp [0,1,6,25,26,27])))))
def EV:aD:=(.seq (.seq (.reg 0 [mA 19 6,oA 20 (.bin .geq 19 (cI 0))] (kp [0,1,6,20]))
(.cond 20
(.gsk (kp [0,1,6]))
(.exit 0)))
(.seq (.block 1
(.seq (.reg 0 [mA 23 0,mA 24 6,oA 25 (.call uW [23,24]),oA 26 (.lenL 25),oA 27 (.mv (cI 0))] (kp [0,1,6,25,26,27]))
(.block 2
(.loop NC))))
(.reg 0 [mA 21 6,oA 22 (.bin .sub 21 (cI 1)),mA 6 22] (kp [0,1,6]))))
def aAw:aD:=(.seq (.reg 0 [oA 4 (.mv (.c (.str []))),oA 5 (.mv (cB false))] (kp [0,1]))
(.seq (.seq (.reg 0 [mA 11 0,oA 12 (.eq .p .eql 11 (.c .nilp))] (kp [0,1,12]))
(.cond 12
(.seq (.reg 0 [oA 4 (.mv (.c (.str []))),oA 5 (.mv (cB false))] (kp [4,5]))
.ret)
(.gsk (kp [0,1]))))
(.seq (.seq (.reg 0 [mA 13 0,oA 14 (.nilck 13),oA 15 (.off 14 0),oA 16 (.load 15 false 1),oA 17 (.lenL 16),oA 18 (.bin .sub 17 (cI 1)),mA 6 18] (kp [0,1,6]))
(.block 0
(.loop EV)))
(.seq (.seq (.reg 0 [mA 42 1,oA 43 (.bin .eql 42 (.c (.str dQ)))] (kp [1,43]))
(.cond 43
(.seq (.reg 0 [oA 4 (.mv (.c (.str nX))),oA 5 (.mv (cB true))] (kp [4,5]))
.ret)
(.gsk (kp [1]))))
(.seq (.reg 0 [mA 44 1,oA 45 (.bin .eql 44 (.c (.str []))),oA 4 (.mv (.c (.str []))),mA 5 45] (kp [4,5]))
.ret)))))
def aIJ:List aJ:=[.tmp 4,.tmp 5]
theorem aE1:aL Tryz.prog uV aAw aIJ:=.of Tryz.func122 (by kernel_rfl)
def aAz:aD:=(.seq (.reg 0 [oA 2 (.mv (.c .nils))] (kp [0]))
(.seq (.seq (.reg 0 [mA 3 0,oA 4 (.eq .s .eql 3 (.c .nils))] (kp [0,4]))
(.cond 4
(.seq (.reg 0 [oA 2 (.mv (.c .nils))] (kp [2]))
.ret)
(.gsk (kp [0]))))
(.seq (.reg 0 [oA 5 (.buildF 4 0 [(.str []),(.str []),(.str []),(.str [])] []),mA 6 0,oA 7 (.app 4 [(.str []),(.str []),(.str []),(.str [])] 64 iR 5 6),mA 2 7] (kp [2]))
.ret)))
def aIM:List aJ:=[.tmp 2]
theorem aE4:aL Tryz.prog uY aAz aIM:=.of Tryz.func143 (by kernel_rfl)
def aBA:aD:=(.seq (.reg 0 [oA 4 (.mv (cB false))] (kp [0,1]))
(.seq (.reg 0 [mA 5 0,mA 6 1,oA 7 (.call rG [5,6]),oA 8 (.bin .geq 7 (cI 0)),mA 4 8] (kp [4]))
.ret))
def aIN:List aJ:=[.tmp 4]
theorem aE5:aL Tryz.prog rF aBA aIN:=.of Tryz.func144 (by kernel_rfl)
def aBS:aD:=(.seq (.reg 0 [oA 2 (.boxL 0),oA 3 (.mv (cB false))] (kp [1,2]))
(.seq (.reg 0 [oA 4 (.off 1 0),oA 5 (.load 4 false 1),oA 6 (.off 2 0),oA 7 (.load 6 false 1),oA 8 (.bin .eql 5 7),mA 9 8,oT 9 10 (.off 1 1),oT 9 11 (.load 10 false 1),oT 9 12 (.off 2 1),oT 9 13 (.load 12 false 1),oT 9 14 (.bin .eql 11 13),oA 15 (.pick 9 14 (cB false)),mA 3 15] (kp [3]))
.ret))
def aI3:List aJ:=[.tmp 3]
theorem aEm:aL Tryz.prog rH aBS aI3:=.of Tryz.func145 (by kernel_rfl)
def ND:aD:=(.seq (.reg 0 [oA 14 (.bin .lss 13 12)] (kp [0,1,12,13,14]))
(.seq (.cond 14
(.gsk (kp [0,1,12,13]))
(.exit 0))
(.seq (.block 1
(.seq (.reg 0 [mA 15 13,mA 5 15] (kp [0,1,5,12,13]))
(.seq (.reg 1 [mA 16 0,mA 17 5,oA 18 (.idx 4 16 17),oA 19 (.load 18 true 4),mA 20 1,mA 21 5,oA 22 (.idx 4 20 21),oA 23 (.load 22 true 4),oA 24 (.eq (EK.t 4) .neq 19 23)] (kp [0,1,12,13,24]))
(.cond 24
(.seq (.reg 0 [oA 4 (.mv (cB false))] (kp [4]))
.ret)
(.gsk (kp [0,1,12,13]))))))
(.reg 0 [oA 25 (.bin .add 13 (cI 1)),mA 13 25] (kp [0,1,12,13])))))
def aBB:aD:=(.seq (.reg 0 [oA 4 (.mv (cB false))] (kp [0,1]))
(.seq (.seq (.reg 0 [mA 6 0,oA 7 (.lenL 6),mA 8 1,oA 9 (.lenL 8),oA 10 (.bin .neq 7 9)] (kp [0,1,10]))
(.cond 10
(.seq (.reg 0 [oA 4 (.mv (cB false))] (kp [4]))
.ret)
(.gsk (kp [0,1]))))
(.seq (.seq (.reg 0 [mA 11 0,oA 12 (.lenL 11),oA 13 (.mv (cI 0))] (kp [0,1,12,13]))
(.block 0
(.loop ND)))
(.seq (.reg 0 [oA 4 (.mv (cB true))] (kp [4]))
.ret))))
def aIO:List aJ:=[.tmp 4]
theorem aE6:aL Tryz.prog uZ aBB aIO:=.of Tryz.func146 (by kernel_rfl)
def aAp:aD:=(.seq (.reg 0 [oA 1 (.boxL 0),oA 2 (.mv (.c (.str []))),oA 3 (.mv (cB false))] (kp [1]))
(.seq (.block 0
(.seq (.reg 0 [oA 5 (.off 1 2),oA 6 (.load 5 false 1),oA 7 (.bin .neq 6 (.c (.str fJ))),mA 4 7] (kp [1,4]))
(.cond 4
(.seq (.reg 0 [oA 2 (.mv (.c (.str []))),oA 3 (.mv (cB false))] (kp [2,3]))
.ret)
(.seq (.reg 0 [oA 9 (.off 1 0),oA 10 (.load 9 false 1),oA 11 (.bin .eql 10 (.c (.str bH))),mA 8 11] (kp [1,8]))
(.cond 8
(.seq (.reg 0 [oA 12 (.off 1 1),oA 13 (.load 12 false 1),mA 2 13,oA 3 (.mv (cB true))] (kp [2,3]))
.ret)
(.gsk (kp [1])))))))
(.seq (.reg 1 [oA 14 (.off 1 0),oA 15 (.load 14 false 1),oA 16 (.bin .eql 15 (.c (.str []))),mA 17 16,oT 17 18 (.off 1 1),oT 17 19 (.load 18 false 1),oT 17 20 (.bin .eql 19 (.c (.str bH))),oA 21 (.pick 17 20 (cB false)),oA 2 (.mv (.c (.str []))),mA 3 21] (kp [2,3]))
.ret)))
def aID:List aJ:=[.tmp 2,.tmp 3]
theorem aEU:aL Tryz.prog rE aAp aID:=.of Tryz.func159 (by kernel_rfl)
def aAy:aD:=(.seq (.reg 0 [oA 1 (.boxL 0),oA 2 (.mv (cB false))] (kp [1]))
(.seq (.reg 0 [oA 4 (.off 1 1),oA 5 (.load 4 false 1),mA 3 5] (kp [1,3]))
(.seq (.seq (.reg 0 [oA 6 (.off 1 0),oA 7 (.load 6 false 1),oA 8 (.bin .eql 7 (.c (.str [])))] (kp [1,3,8]))
(.cond 8
(.seq (.reg 0 [oA 9 (.off 1 3),oA 10 (.load 9 false 1),oA 11 (.bin .eql 10 (.c (.str nX))),mA 12 11,oF 12 13 (.off 1 3),oF 12 14 (.load 13 false 1),oF 12 15 (.bin .eql 14 (.c (.str fJ))),oA 16 (.pick 12 (cB true) 15),mA 2 16] (kp [2]))
.ret)
(.gsk (kp [1,3]))))
(.seq (.block 0
(.seq (.reg 0 [mA 18 3,oA 19 (.bin .eql 18 (.c (.str bH))),mA 20 19,oF 20 21 (.off 1 3),oF 20 22 (.load 21 false 1),oF 20 23 (.bin .eql 22 (.c (.str fJ))),oA 24 (.pick 20 (cB true) 23),mA 17 24] (kp [1,3,17]))
(.cond 17
(.seq (.reg 0 [oA 2 (.mv (cB true))] (kp [2]))
.ret)
(.seq (.reg 0 [mA 26 3,oA 27 (.bin .eql 26 (.c (.str dQ))),mA 28 27,oF 28 29 (.off 1 3),oF 28 30 (.load 29 false 1),oF 28 31 (.bin .eql 30 (.c (.str nX))),oA 32 (.pick 28 (cB true) 31),mA 25 32] (kp [1,3,25]))
(.cond 25
(.seq (.reg 0 [mA 33 3,oA 34 (.bin .neq 33 (.c (.str dQ))),mA 35 34,oF 35 36 (.off 1 3),oF 35 37 (.load 36 false 1),oF 35 38 (.bin .neq 37 (.c (.str nX))),oA 39 (.pick 35 (cB true) 38),mA 2 39] (kp [2]))
.ret)
(.gsk (kp [1])))))))
(.seq (.reg 0 [oA 40 (.off 1 3),oA 41 (.load 40 false 1),oA 42 (.bin .eql 41 (.c (.str []))),mA 2 42] (kp [2]))
.ret)))))
def aIL:List aJ:=[.tmp 2]
theorem aE3:aL Tryz.prog uX aAy aIL:=.of Tryz.func160 (by kernel_rfl)
def aAv:aD:=(.seq (.reg 0 [oA 2 (.boxL 0),oA 3 (.mv (cB false))] (kp [1,2]))
(.seq (.reg 0 [oA 4 (.off 1 0),oA 5 (.load 4 false 1),oA 6 (.off 2 0),oA 7 (.load 6 false 1),oA 8 (.bin .eql 5 7),mA 9 8,oT 9 10 (.off 1 1),oT 9 11 (.load 10 false 1),oT 9 12 (.off 2 1),oT 9 13 (.load 12 false 1),oT 9 14 (.bin .eql 11 13),oA 15 (.pick 9 14 (cB false)),mA 3 15] (kp [3]))
.ret))
def aII:List aJ:=[.tmp 3]
theorem aE0:aL Tryz.prog pP aAv aII:=.of Tryz.func161 (by kernel_rfl)
def aAx:aD:=(.seq (.reg 0 [oA 4 (.mv (.c .nils))] (kp [0,1]))
(.seq (.reg 0 [mA 8 0,oA 9 (.nilck 8),oA 10 (.off 9 0),oA 11 (.load 10 false 1),mA 12 1,oA 13 (.idx 1 11 12),oA 14 (.load 13 false 1),oA 15 (.asrt pV .nils 14 true),mA 7 15,oA 16 (.ext 7 0),oA 17 (.ext 7 1),mA 5 16,mA 6 17] (kp [5]))
(.seq (.reg 0 [mA 18 5,mA 4 18] (kp [4]))
.ret)))
def aIK:List aJ:=[.tmp 4]
theorem aE2:aL Tryz.prog uW aAx aIK:=.of Tryz.func162 (by kernel_rfl)
def EW:aD:=(.seq (.reg 0 [oA 9 (.bin .lss 8 7)] (kp [0,1,7,8,9]))
(.seq (.cond 9
(.gsk (kp [0,1,7,8]))
(.exit 0))
(.seq (.block 1
(.seq (.reg 0 [mA 10 8,mA 5 10] (kp [0,1,5,7,8]))
(.seq (.reg 0 [mA 11 1,mA 12 0,mA 13 5,oA 14 (.idx 4 12 13),oA 15 (.load 14 true 4),oA 16 (.callv 11 [15])] (kp [0,1,5,7,8,16]))
(.cond 16
(.seq (.reg 0 [mA 17 5,mA 4 17] (kp [4]))
.ret)
(.gsk (kp [0,1,7,8]))))))
(.reg 0 [oA 18 (.bin .add 8 (cI 1)),mA 8 18] (kp [0,1,7,8])))))
def aBC:aD:=(.seq (.reg 0 [oA 4 (.mv (cI 0))] (kp [0,1]))
(.seq (.seq (.reg 0 [mA 6 0,oA 7 (.lenL 6),oA 8 (.mv (cI 0))] (kp [0,1,7,8]))
(.block 0
(.loop EW)))
(.seq (.reg 0 [oA 4 (.mv (cI (-1)))] (kp [4]))
.ret)))
def aIP:List aJ:=[.tmp 4]
theorem aE7:aL Tryz.prog rG aBC aIP:=.of Tryz.func189 (by kernel_rfl)
end Go.Proofs.YtjoadepfokpcoaaGreatDoor
namespace Go.VL
section
open Go.Ev
def aQ{α:Type}(enc:α->List V)(es:Nat)(ty:TypeId)(lo:Nat)(vh:VH)(nx:Nat)(v:V)(xs:List α):Prop:=((v=.nils\/v=.sl es [] (some 0))/\xs=[])\/∃b,lo<=b/\b<nx/\v=.msl b 0 xs.length es none/\vh b=some (.cells (xs.map enc).flatten ty 0 false)
def aR:V->Nat->Prop
 |.msl b _ _ _ _,c=>c=b
 |.ptr b _,c=>c=b
 |_,_=>False
section
variable {α : Type} {enc : α → List V} {es by' : Nat} {ty : TypeId} {lo : Nat} {vh : VH} {nx : Nat} {v : V} {xs : List α}
theorem iI(hl:∀a,(enc a).length=es):∀xs:List α,(xs.map enc).flatten.length=xs.length*es
 |[]=>by simp
 |a::xs=>by simp only[List.map_cons,List.flatten_cons,List.length_append,hl,iI hl xs,List.length_cons,Nat.add_mul];omega
theorem FU(hl:∀a,(enc a).length=es):∀(xs:List α) (i:Nat),(xs.map enc).flatten.drop (i*es)=((xs.drop i).map enc).flatten
 |xs,0=>by simp
 |[],i+1=>by simp
 |a::xs,i+1=>by simp only[List.map_cons,List.flatten_cons,List.drop_succ_cons];rw[<-FU hl xs i,Nat.add_mul,Nat.one_mul,Nat.add_comm,<-hl a,List.drop_append];simp
theorem FV(hl:∀a,(enc a).length=es)(xs:List α)(i:Nat)(h:i<xs.length):((xs.map enc).flatten.drop (i*es)).take es=enc xs[i]:=by rw[FU hl,<-List.getElem_cons_drop h,List.map_cons,List.flatten_cons,<-hl xs[i],List.take_left]
theorem oK(hl:∀a,(enc a).length=es)(xs:List α)(i f:Nat)(h:i<xs.length)(hf:f<es):(xs.map enc).flatten[i*es+f]? =(enc xs[i])[f]?:=by rw[<-List.getElem?_drop,FU hl,<-List.getElem_cons_drop h,List.map_cons,List.flatten_cons,List.getElem?_append_left (by rw[hl];exact hf)]
theorem lH(hl:∀a,(enc a).length=es)(xs:List α)(i:Nat)(h:i<xs.length):i*es+es<=(xs.map enc).flatten.length:=by rw[iI hl];have:(i+1)*es<=xs.length*es:=Nat.mul_le_mul_right es h;rw[Nat.add_mul,Nat.one_mul] at this;exact this
def SlR{α:Type}(enc:α->List V)(es:Nat)(vh:VH)(v:V)(xs:List α):Prop:=(xs=[]/\v=.nils)\/(xs=[]/\v=.sl es [] (some 0))\/∃b ty,v=.msl b 0 xs.length es none/\vh b=some (.cells (xs.map enc).flatten ty 0 false)
theorem aQ.r(A:aQ enc es ty lo vh nx v xs):SlR enc es vh v xs:=by
 rcases A with⟨h1|h1,h2⟩|⟨b,_,_,h3,h4⟩
 ·exact .inl ⟨h2,h1⟩
 ·exact .inr (.inl ⟨h2,h1⟩)
 ·exact .inr (.inr ⟨b,ty,h3,h4⟩)
theorem aQ.nil:aQ enc es ty lo vh nx .nils []:=.inl ⟨.inl rfl,rfl⟩
theorem aQ.mono{vh':VH}{nx':Nat}(A:aQ enc es ty lo vh nx v xs)(hn:nx<=nx')(hv:∀c,lo<=c->c<nx->aR v c->vh' c=vh c):aQ enc es ty lo vh' nx' v xs:=by
 rcases A with A|⟨b,h1,h2,h3,h4⟩
 ·exact .inl A
 ·refine .inr ⟨b,h1,by omega,h3,?_⟩
  rw[hv b h1 h2 (by rw[h3];exact rfl),h4]
theorem aQ.app(hl:∀a,(enc a).length=es)(h0:0<es)(A:aQ enc es ty lo vh nx v xs)(hlo:lo<=nx)(a:α)(hroom:room by' (xs.length+1)){env:aH}{k:V->aH->VH->Nat->Prop}
  (hk:∀vh',aQ enc es ty lo vh' (nx+1) (.msl nx 0 (xs.length+1) es none) (xs++[a])->(∀c,c≠nx->¬aR v c->vh' c=vh c)->k (.msl nx 0 (xs.length+1) es none) env vh' (nx+1)):aM es by' ty v (enc a) 1 env vh nx k:=by
 rcases A with⟨rfl|rfl,rfl⟩|⟨b,h1,h2,rfl,h4⟩
 ·conv=>whnf
  refine⟨hroom,hk _ (.inr ⟨nx,hlo,by omega,rfl,?_⟩) fun c hc _=>aG hc⟩
  rw[aK];simp
 ·simp only[aM,aP.2 (rfl:es=es),cond_true]
  conv=>whnf
  refine⟨⟨by simp,hroom⟩,hk _ (.inr ⟨nx,hlo,by omega,rfl,?_⟩) fun c hc _=>aG hc⟩
  rw[aK];simp
 ·simp only[aM,aP.2 (rfl:es=es),cond_true]
  conv=>whnf
  refine⟨((xs.map enc).flatten,ty,0,false),h4,?_⟩;simp only;have hfl:=iI hl xs;have hdv:((xs.map enc).flatten.length-0) / es=xs.length:=by rw[hfl,Nat.sub_zero,Nat.mul_div_cancel _ h0]
  have hn:Nat.ble (xs.length+1) (((xs.map enc).flatten.length-0) / es)=false:=by
   rw[hdv];cases hb:Nat.ble (xs.length+1) xs.length with
   |false=>rfl
   |true=>have:=bC.1 hb;omega
  rw[hn]
  conv=>whnf
  refine⟨⟨trivial,by rw[hfl];exact Nat.le_refl _,Nat.zero_le _,trivial,hroom⟩,?_⟩
  refine hk _ (.inr ⟨nx,hlo,by omega,by simp,?_⟩) fun c hc hb=>?_
  ·rw[aK,List.take_of_length_le (by rw[hfl];exact Nat.le_refl _)]
   simp[fzOff]
  ·rw[aG hc,b5 hb]
theorem aQ.app'(hl:∀a,(enc a).length=es)(h0:0<es)(A:aQ enc es ty lo vh nx v xs)(hlo:lo<=nx)(a:α)(hroom:room by' (xs.length+1)){env:aH}{k:V->aH->VH->Nat->Prop}
  (hk:∀vh',vh' nx=some (.cells ((xs++[a]).map enc).flatten ty 0 false)->(∀c,c≠nx->¬aR v c->vh' c=vh c)->k (.msl nx 0 (xs++[a]).length es none) env vh' (nx+1)):aM es by' ty v (enc a) 1 env vh nx k:=by
 refine A.app hl h0 hlo a hroom fun vh' A' hf=>?_;have e:xs.length+1=(xs++[a]).length:=by simp
 rw[e] at A' ⊢;refine hk vh' ?_ hf;rcases A' with⟨h|h,_⟩|⟨bz,h1,h2,h3,h4⟩
 ·cases h
 ·cases h
 ·have:=(V.msl.inj h3).1;rw[this];exact h4
theorem aQ.fresh{ls:List (List V)}(hz:ls=xs.map enc)(hlo:lo<=nx)(hroom:room by' xs.length){env:aH}{k:V->aH->VH->Nat->Prop}
  (hk:∀v' vh' nx',aQ enc es ty lo vh' nx' v' xs->nx<=nx'->(∀c,c≠nx->vh' c=vh c)->k v' env vh' nx'):aM es by' ty (.sl es [] (some 0)) ls.flatten ls.length env vh nx k:=by
 subst hz;simp only[aM,aP.2 (rfl:es=es),cond_true];refine .mk (fun h=>?_) fun h=>?_
 ·have h0:=aP.1 h;have h1:xs=[]:=by simpa using h0
  exact hk _ _ _ (.inl ⟨.inr rfl,h1⟩) (Nat.le_refl _) fun _ _=>rfl
 ·have h0:=dW.1 h;simp only[List.length_map,List.length_nil,Nat.zero_add] at h0 ⊢;refine⟨⟨by omega,hroom⟩,hk _ _ _ (.inr ⟨nx,hlo,by omega,rfl,?_⟩) (by omega) fun c hc=>aG hc⟩
  rw[aK];simp
theorem gG(hl:∀a,(enc a).length=es)(h0:0<es):0<es/\0+xs.length*es<=(xs.map enc).flatten.length/\∀x,(none:Option Nat)=some x->xs.length<=x:=⟨h0,by rw[iI hl];omega,nofun⟩
theorem eU(hl:∀a,(enc a).length=es):oO es xs.length ((xs.map enc).flatten.drop 0) (xs.map enc):=by
 refine⟨?_,by simp,fun x hx=>?_⟩
 ·rw[List.drop_zero,List.take_of_length_le (by rw[iI hl];exact Nat.le_refl _)]
 ·obtain⟨a,_,rfl⟩:=List.mem_map.1 hx;exact hl a
end
theorem Get.lit{α:Type}{ls:List (List V)}{f:α->List V}{n:Int}{zs:List α}(hz:ls=zs.map f)(h0:0<=n)(h1:n<zs.length){k:Nat×List V->Prop}(hk:∀h:n.toNat<zs.length,k (n.toNat,f zs[n.toNat])):Get (fun p:Nat×List V=>n=(p.1:Int)/\ls[p.1]? =some p.2) k:=by
 have hlt:n.toNat<zs.length:=by omega
 refine .mk (n.toNat,f zs[n.toNat]) ⟨by simp only;omega,?_⟩ (hk hlt)
 subst hz;simp[hlt]
theorem aF{x:Int}(h1:-9223372036854775808<=x)(h2:x<9223372036854775808):wr .i64 x=x:=by
 rw[lZ];simp only[IntKind.wrap,IntKind.signed,IntKind.bits];by_cases h:x%2^(64:Nat) >= 2^((64:Nat)-1)
 ·simp only[h,decide_true,Bool.and_self,if_true];omega
 ·simp only[h,decide_false,Bool.and_false,Bool.false_eq_true,if_false];omega
theorem dA{x:Int}(h1:0<=x)(h2:x<18446744073709551616):wr .u64 x=x:=by rw[lZ];simp only[IntKind.wrap,IntKind.signed,IntKind.bits];simp;omega
theorem kN{x:Int}:0<=wr .u64 x/\wr .u64 x<18446744073709551616:=by rw[lZ];simp only[IntKind.wrap,IntKind.signed,IntKind.bits];simp;omega
theorem lW{x m:Int}(hx:0<=x)(hm:0<m):0<=x.tmod m/\x.tmod m<m:=by rw[Int.tmod_eq_emod_of_nonneg hx];exact⟨Int.emod_nonneg x (by omega:m≠0),Int.emod_lt_of_pos x hm⟩
end
end Go.VL
namespace Go.Proofs.YtjoadepfokpcoaaGreatDoor
structure aA where
 p:List Nat
 l:List Nat
 u:List Nat
 v:List Nat
structure Nd where
 k:Int
 d:Int
 p:List Nat
 l:List Nat
 u:List Nat
 v:List Nat
 s:List aA
def encA(a:aA):List V:=[.str a.p,.str a.l,.str a.u,.str a.v]
def aO(n:Nd):List V:=[.int .i64 n.k,.int .i64 n.d,.str n.p,.str n.l,.str n.u,.str n.v,.sl 4 (n.s.map encA) none]
def OV(d:Int):List Nd->Nat
 |[]=>0
 |n::l=>if d<n.d then OV d l+1 else 0
section
attribute [local irreducible] aM
variable {X : Ovr} {G : Gt}
def inR(r a b:Int):Bool:=decide (a<=r)&&decide (r<=b)
theorem AW(hX:X b6=none)(r a b:Int)(vh:VH)(vn:Nat):
  aE Tryz.prog X G b6 [.int .i32 r,.int .i32 a,.int .i32 b] vh vn fun v vh' vn'=>vh'=vh/\vn'=vn/\v=.bool (inR r a b):=by
 apply aET.run hX
 conv=>whnf
 refine aB.mk (fun h1=>?_) (fun h1=>?_)
 ·conv=>whnf
  refine Get.mk vh (fun _ _ h=>h) ⟨rfl,rfl,?_⟩;simp at h1;simp[inR,h1]
 ·conv=>whnf
  refine Get.mk vh (fun _ _ h=>h) ⟨rfl,rfl,?_⟩;simp at h1;simp[inR];omega
def o9(r:Int):Bool:=decide (r=32)||decide (r=9)||decide (r=13)||decide (r=10)
theorem XA(hX:X uS=none)(r:Int)(vh:VH)(vn:Nat):
  aE Tryz.prog X G uS [.int .i32 r] vh vn fun v vh' vn'=>vh'=vh/\vn'=vn/\v=.bool (o9 r):=by
 apply aEO.run hX
 conv=>whnf
 repeat' ((first|refine aB.mk (fun _=>?_) (fun _=>?_));conv=>whnf)
 all_goals
  refine Get.mk vh (fun _ _ h=>h) ⟨rfl,rfl,?_⟩
  simp_all[o9]
def sF(r:Int):Bool:=decide (r=9)||decide (r=10)||decide (r=13)||inR r 0x20 0xD7FF||inR r 0xE000 0xFFFD||inR r 0x10000 0x10FFFF
theorem US(hX:X b6=none)(hX':X pN=none)(r:Int)(vh:VH)(vn:Nat):
  aE Tryz.prog X G pN [.int .i32 r] vh vn fun v vh' vn'=>vh'=vh/\vn'=vn/\v=.bool (sF r):=by
 apply aEI.run hX'
 conv=>whnf
 repeat' ((first|refine aB.mk (fun _=>?_) (fun _=>?_)|(refine (AW hX _ _ _ _ _).mono (fun v vh' vn' he=>?_);obtain⟨e1,e2,e3⟩:=he;subst e1;subst e2;subst e3));conv=>whnf)
 all_goals
  refine Get.mk _ (fun _ _ h=>h) ⟨rfl,rfl,?_⟩
  simp_all[sF]
def tW(r:Int):Bool:=inR r 65 90||inR r 97 122||decide (r=95)||decide (r=58)||inR r 0xC0 0xD6||inR r 0xD8 0xF6||inR r 0xF8 0x2FF||inR r 0x370 0x37D||inR r 0x37F 0x1FFF||inR r 0x200C 0x200D||inR r 0x2070 0x218F||inR r 0x2C00 0x2FEF||inR r 0x3001 0xD7FF||inR r 0xF900 0xFDCF||inR r 0xFDF0 0xFFFD||inR r 0x10000 0xEFFFF
theorem KF(hX:X b6=none)(hX':X j1=none)(r:Int)(vh:VH)(vn:Nat):
  aE Tryz.prog X G j1 [.int .i32 r] vh vn fun v vh' vn'=>vh'=vh/\vn'=vn/\v=.bool (tW r):=by
 apply aEQ.run hX'
 conv=>whnf
 repeat' ((first|refine aB.mk (fun _=>?_) (fun _=>?_)|(refine (AW hX _ _ _ _ _).mono (fun v vh' vn' he=>?_);obtain⟨e1,e2,e3⟩:=he;subst e1;subst e2;subst e3));conv=>whnf)
 all_goals
  refine Get.mk _ (fun _ _ h=>h) ⟨rfl,rfl,?_⟩
  simp_all[tW]
def xA(r:Int):Bool:=tW r||decide (r=45)||decide (r=46)||inR r 48 57||decide (r=0xB7)||inR r 0x300 0x36F||inR r 0x203F 0x2040
theorem WF(hX:X b6=none)(hX1:X j1=none)(hX':X l7=none)(r:Int)(vh:VH)(vn:Nat):
  aE Tryz.prog X G l7 [.int .i32 r] vh vn fun v vh' vn'=>vh'=vh/\vn'=vn/\v=.bool (xA r):=by
 apply aEM.run hX'
 conv=>whnf
 repeat' ((first|refine aB.mk (fun _=>?_) (fun _=>?_)|(refine (AW hX _ _ _ _ _).mono (fun v vh' vn' he=>?_);obtain⟨e1,e2,e3⟩:=he;subst e1;subst e2;subst e3)|(refine (KF hX hX1 _ _ _).mono (fun v vh' vn' he=>?_);obtain⟨e1,e2,e3⟩:=he;subst e1;subst e2;subst e3));conv=>whnf)
 all_goals
  refine Get.mk _ (fun _ _ h=>h) ⟨rfl,rfl,?_⟩
  simp_all[xA]
end
section
attribute [local irreducible] aM
variable {X : Ovr} {G : Gt}
def jK(k:IntKind)(m n:Int):Int:=wr k (.ofNat (Nat.land (toU k m) (toU k n)))
def orU(k:IntKind)(m n:Int):Int:=wr k (.ofNat (Nat.lor (toU k m) (toU k n)))
def aIz(r:Int):Int:=wr .i32 (r*.ofNat (Nat.pow 2 6))
def wX:List Nat->Int->Option Int
 |[],r=>some r
 |b::l,r=>if jK .u8 (.ofNat b) 192=128 then wX l (orU .i32 (aIz r) (wr .i32 (jK .u8 (.ofNat b) 63))) else none
def lP(c:Int):Option (Nat×Int×Int):=
 if 192<=c/\c<224 then some (2,wr .i32 (jK .u8 c 31),128)
 else if 224<=c/\c<240 then some (3,wr .i32 (jK .u8 c 15),2048)
 else if 240<=c/\c<248 then some (4,wr .i32 (jK .u8 c 7),65536)
 else none
def qN(s:List Nat)(i n:Nat)(r least:Int):Int×Nat:=
 if s.length<i+n then (0,0) else match wX ((s.drop (i+1)).take (n-1)) r with
  |none=>(0,0)
  |some q=>if q<least\/1114111<q\/inR q 55296 57343=true then (0,0) else (q,n)
def cJ(s:List Nat)(i:Nat):Int×Nat:=match s[i]? with
 |none=>(0,0)
 |some c=>if (c:Int)<128 then (wr .i32 (.ofNat c),1) else match lP (.ofNat c) with
  |none=>(0,0)
  |some (n,r,least)=>qN s i n r least
theorem JQ(s:List Nat)(hs:s.length<2^40)(i n:Nat)(hn:i+n<=s.length)(least:Int)(vh:VH)(vn:Nat)(Q:FQ):∀(m k:Nat) (r:Int),n-k=m->k<=n->
  (wX ((s.drop (i+k)).take (n-k)) r=none->Q .ret [(4,.int .i32 0),(5,.int .i64 0)] vh vn)->
  (∀q,wX ((s.drop (i+k)).take (n-k)) r=some q->∀k' t,Q (.exit 1) [(0,.str s),(1,.int .i64 (i:Int)),(7,.int .i64 (n:Int)),(8,.int .i32 q),(9,.int .i32 least),(10,.int .i64 k'),(61,.bool t)] vh vn)->
  aC Tryz.prog X G (.loop MZ) [(0,.str s),(1,.int .i64 (i:Int)),(7,.int .i64 (n:Int)),(8,.int .i32 r),(9,.int .i32 least),(10,.int .i64 (k:Int))] vh vn Q
 |m,k,r,hm,hk,hR,hQ=>by
  refine aC.round ?_
  conv=>whnf
  refine aB.mk (fun h1=>?_) (fun h1=>?_)
  ·have hlt:k<n:=by simpa using h1
   have hik:i+k<s.length:=by omega
   have hd:(s.drop (i+k)).take (n-k)=s[i+k]::(s.drop (i+(k+1))).take (n-(k+1)):=by rw[<-List.getElem_cons_drop hik,show n-k=(n-(k+1))+1 by omega,List.take_succ_cons,Nat.add_assoc]
   rw[hd] at hR hQ;simp only[wX] at hR hQ;have e:wr .i64 ((k:Int)+1)=((k+1:Nat):Int):=by rw[aF]<;>omega
   have e2:wr .i64 ((i:Int)+(k:Int))=((i+k:Nat):Int):=by rw[aF]<;>omega
   conv=>whnf
   refine Get.mk (i+k,s[i+k]) ⟨e2,by simp[hik]⟩ ?_
   conv=>whnf
   refine aB.mk (fun h2=>?_) (fun h2=>?_)
   ·have h2:(!decide (jK .u8 (.ofNat s[i+k]) 192=128))=true:=h2;have h2':¬jK .u8 (.ofNat s[i+k]) 192=128:=by simpa using h2
    simp only[if_neg h2'] at hR
    conv=>whnf
    exact hR trivial
   ·have h2:(!decide (jK .u8 (.ofNat s[i+k]) 192=128))=false:=h2;have h2':jK .u8 (.ofNat s[i+k]) 192=128:=by simpa using h2
    simp only[if_pos h2'] at hR hQ
    conv=>whnf
    refine Get.mk 6 rfl ?_
    conv=>whnf
    refine Get.mk (i+k,s[i+k]) ⟨e2,by simp[hik]⟩ ?_
    conv=>whnf
    rw[e];exact JQ s hs i n hn least vh vn Q (m-1) (k+1) _ (by omega) (by omega) hR hQ
  ·have hlt:k=n:=by simp at h1;omega
   subst hlt;rw[Nat.sub_self,List.take_zero] at hQ
   conv=>whnf
   exact hQ _ rfl _ _
termination_by m=>m
decreasing_by all_goals omega
theorem CT(hX:X b6=none)(s:List Nat)(hs:s.length<2^40)(i n:Nat)(hi:i<s.length)(hn1:1<=n)(hn:n<=4)(r least:Int)(vh:VH)(vn:Nat)(Q:FQ)
  (hQ:Q .ret [(4,.int .i32 (qN s i n r least).1),(5,.int .i64 ((qN s i n r least).2:Int))] vh vn):
  aC Tryz.prog X G (.cut M0) [(0,.str s),(1,.int .i64 (i:Int)),(7,.int .i64 (n:Int)),(8,.int .i32 r),(9,.int .i32 least)] vh vn Q:=by
 refine aC.cut ?_;have e2:wr .i64 ((i:Int)+(n:Int))=((i+n:Nat):Int):=by rw[aF]<;>omega
 conv=>whnf
 refine aB.mk (fun h1=>?_) (fun h1=>?_)
 ·rw[e2] at h1;have h1':s.length<i+n:=by have:=of_decide_eq_true h1;simp only[Int.ofNat_eq_natCast] at this;omega
  simp only[qN,if_pos h1'] at hQ
  conv=>whnf
  exact hQ
 ·rw[e2] at h1;have h1':¬s.length<i+n:=by have:=of_decide_eq_false h1;simp only[Int.ofNat_eq_natCast] at this;omega
  simp only[qN,if_neg h1'] at hQ
  conv=>whnf
  refine JQ s hs i n (by omega) least vh vn _ (n-1) 1 r rfl hn1 (fun h=>?_) (fun q h k' t=>?_)
  ·rw[h] at hQ
   conv=>whnf
   exact hQ
  ·rw[h] at hQ;simp only at hQ
   conv=>whnf
   repeat' ((first|refine aB.mk (fun _=>?_) (fun _=>?_)|(refine (AW hX _ _ _ _ _).mono (fun v vh' vn' he=>?_);obtain⟨e1,e2,e3⟩:=he;subst e1;subst e2;subst e3))<;>(conv=>whnf))
   all_goals first
    |(
      have hc:q<least\/1114111<q\/inR q 55296 57343=true:=by clear hQ h e2 h1;simp_all
      rw[if_pos hc] at hQ;exact hQ)
    |(
      have hc:¬(q<least\/1114111<q\/inR q 55296 57343=true):=by clear hQ h e2 h1;simp_all
      rw[if_neg hc] at hQ;exact hQ)
set_option maxRecDepth 100000 in
theorem JR(hX:X b6=none)(hX':X jF=none)(s:List Nat)(hs:s.length<2^40)(i:Nat)(vh:VH)(vn:Nat):
  aE Tryz.prog X G jF [.str s,.int .i64 (i:Int)] vh vn fun v vh' vn'=>vh'=vh/\vn'=vn/\v=.tup [.int .i32 (cJ s i).1,.int .i64 ((cJ s i).2:Int)]:=by
 apply aEL.run hX'
 conv=>whnf
 refine aB.mk (fun h1=>?_) (fun h1=>?_)
 ·have h1':s.length<=i:=by have:=of_decide_eq_true h1;simp only[Int.ofNat_eq_natCast] at this;omega
  have h0:s[i]? =none:=List.getElem?_eq_none h1'
  conv=>whnf
  refine Get.mk _ (fun _ _ h=>h) ⟨rfl,rfl,?_⟩;simp only[cJ,h0];rfl
 ·have h1':i<s.length:=by have:=of_decide_eq_false h1;simp only[Int.ofNat_eq_natCast] at this;omega
  have h0:s[i]? =some s[i]:=List.getElem?_eq_getElem h1';have hp:∀n r least,lP (.ofNat s[i])=some (n,r,least)->¬(s[i]:Int)<128->cJ s i=qN s i n r least:=fun n r least h h2=>by simp only[cJ,h0,if_neg h2,h]
  conv=>whnf
  refine Get.mk (i,s[i]) ⟨rfl,h0⟩ ?_
  conv=>whnf
  refine aB.mk (fun h2=>?_) (fun h2=>?_)
  ·have h2':(s[i]:Int)<128:=by simpa using h2
   conv=>whnf
   refine Get.mk _ (fun _ _ h=>h) ⟨rfl,rfl,?_⟩;simp only[cJ,h0,if_pos h2'];rfl
  ·have h2':¬(s[i]:Int)<128:=by simpa using h2
   conv=>whnf
   repeat' ((first|refine aB.mk (fun _=>?_) (fun _=>?_))<;>(conv=>whnf))
   all_goals first
    |(
      refine CT hX s hs i 2 h1' (by decide) (by decide) _ 128 vh vn _ ?_
      have ho:lP (.ofNat s[i])=some (2,wr .i32 (jK .u8 (.ofNat s[i]) 31),128):=by clear hp h0 h1 h2;simp at *;simp only[lP];rw[if_pos (by constructor<;>omega)]
      refine Get.mk _ (fun _ _ h=>h) ⟨rfl,rfl,?_⟩;rw[hp _ _ _ ho h2'];rfl)
    |(
      refine CT hX s hs i 3 h1' (by decide) (by decide) _ 2048 vh vn _ ?_
      have ho:lP (.ofNat s[i])=some (3,wr .i32 (jK .u8 (.ofNat s[i]) 15),2048):=by clear hp h0 h1 h2;simp at *;simp only[lP];rw[if_neg (by omega),if_pos (by constructor<;>omega)]
      refine Get.mk _ (fun _ _ h=>h) ⟨rfl,rfl,?_⟩;rw[hp _ _ _ ho h2'];rfl)
    |(
      refine CT hX s hs i 4 h1' (by decide) (by decide) _ 65536 vh vn _ ?_
      have ho:lP (.ofNat s[i])=some (4,wr .i32 (jK .u8 (.ofNat s[i]) 7),65536):=by clear hp h0 h1 h2;simp at *;simp only[lP];rw[if_neg (by omega),if_neg (by omega),if_pos (by constructor<;>omega)]
      refine Get.mk _ (fun _ _ h=>h) ⟨rfl,rfl,?_⟩;rw[hp _ _ _ ho h2'];rfl)
    |(
      have ho:lP (.ofNat s[i])=none:=by clear hp h0 h1 h2;simp at *;simp only[lP];rw[if_neg (by omega),if_neg (by omega),if_neg (by omega)]
      refine Get.mk _ (fun _ _ h=>h) ⟨rfl,rfl,?_⟩;simp only[cJ,h0,if_neg h2',ho];rfl)
end
section
attribute [local irreducible] aM
variable {X : Ovr} {G : Gt}
theorem RP(s:List Nat)(i:Nat):(cJ s i).2=0\/i+(cJ s i).2<=s.length:=by
 unfold cJ;cases h:s[i]? with
 |none=>exact .inl rfl
 |some c=>
  have hi:i<s.length:=(List.getElem?_eq_some_iff.1 h).1;simp only;split
  ·exact .inr (by simp only;omega)
  ·split
   ·exact .inl rfl
   ·unfold qN;split
    ·exact .inl rfl
    ·split
     ·exact .inl rfl
     ·split
      ·exact .inl rfl
      ·exact .inr (by simp only;omega)
def tZ(s:List Nat):Nat->Nat->Bool
 |0,_=>true
 |f+1,i=>if s.length<=i then true else if (cJ s i).2=0\/sF (cJ s i).1=false then false else tZ s f (i+(cJ s i).2)
def fY(s:List Nat):Bool:=tZ s (s.length+1) 0
theorem KU(hX:X b6=none)(hX1:X jF=none)(hX2:X pN=none)(s:List Nat)(hs:s.length<2^40)(vh:VH)(vn:Nat)(Q:FQ):∀(f i:Nat),s.length-i<f->i<=s.length->
  (tZ s f i=false->Q .ret [(2,.bool false)] vh vn)->
  (tZ s f i=true->∀i' t,Q (.exit 0) [(0,.str s),(3,.int .i64 i'),(9,.bool t)] vh vn)->
  aC Tryz.prog X G (.loop M9) [(0,.str s),(3,.int .i64 (i:Int))] vh vn Q
 |0,i,hf,_,_,_=>by omega
 |f+1,i,hf,hi,hR,hQ=>by
  refine aC.round ?_
  conv=>whnf
  refine aB.mk (fun h1=>?_) (fun h1=>?_)
  ·have hlt:i<s.length:=by simpa using h1
   simp only[tZ,if_neg (by omega:¬s.length<=i)] at hR hQ
   conv=>whnf
   refine (JR hX hX1 s hs i vh vn).mono fun v vh' vn' he=>?_;obtain⟨e1,e2,e3⟩:=he;subst e1;subst e2;subst e3
   conv=>whnf
   refine aB.mk (fun h2=>?_) (fun h2=>?_)
   ·have h2':(cJ s i).2=0:=by simpa using h2
    conv=>whnf
    exact hR (by rw[if_pos (.inl h2')])
   ·have h2':¬(cJ s i).2=0:=by simpa using h2
    conv=>whnf
    refine (US hX hX2 _ _ _).mono fun v vh' vn' he=>?_;obtain⟨e1,e2,e3⟩:=he;subst e1;subst e2;subst e3
    conv=>whnf
    refine aB.mk (fun h3=>?_) (fun h3=>?_)
    ·have h3':sF (cJ s i).1=false:=by simpa using h3
     conv=>whnf
     exact hR (by rw[if_pos (.inr h3')])
    ·have h3':sF (cJ s i).1=true:=by simpa using h3
     have hc:¬((cJ s i).2=0\/sF (cJ s i).1=false):=by rw[h3'];simp[h2']
     have hle:=(RP s i).resolve_left h2';have e:wr .i64 ((i:Int)+((cJ s i).2:Int))=((i+(cJ s i).2:Nat):Int):=by rw[aF]<;>omega
     rw[if_neg hc] at hR hQ
     conv=>whnf
     rw[e];exact KU hX hX1 hX2 s hs _ _ Q f _ (by omega) hle hR hQ
  ·have hlt:s.length<=i:=by simpa using h1
   simp only[tZ,if_pos hlt] at hQ
   conv=>whnf
   exact hQ trivial _ _
theorem KV(hX:X b6=none)(hX1:X jF=none)(hX2:X pN=none)(hX3:X rD=none)(s:List Nat)(hs:s.length<2^40)(vh:VH)(vn:Nat):
  aE Tryz.prog X G rD [.str s] vh vn fun v vh' vn'=>vh'=vh/\vn'=vn/\v=.bool (fY s):=by
 apply aER.run hX3
 conv=>whnf
 refine KU hX hX1 hX2 s hs vh vn _ (s.length+1) 0 (by omega) (Nat.zero_le _) (fun h=>?_) (fun h i' t=>?_)
 ·conv=>whnf
  exact Get.mk _ (fun _ _ h=>h) ⟨rfl,rfl,by rw[fY,h]⟩
 ·conv=>whnf
  exact Get.mk _ (fun _ _ h=>h) ⟨rfl,rfl,by rw[fY,h]⟩
def tM(s:List Nat)(a:Nat):Nat->Nat->Nat
 |0,k=>k
 |f+1,k=>if ((cJ s k).2=0\/xA (cJ s k).1=false)\/k=a/\tW (cJ s k).1=false then k else tM s a f (k+(cJ s k).2)
theorem DB(hX:X b6=none)(hX1:X jF=none)(hX2:X l7=none)(hX4:X j1=none)(s:List Nat)(hs:s.length<2^40)(a:Nat)(vh:VH)(vn:Nat)(Q:FQ):∀(f k:Nat),s.length-k<f->k<=s.length->
  Q .ret [(4,.int .i64 (tM s a f k:Int))] vh vn->
  aC Tryz.prog X G (.loop M5) [(0,.str s),(1,.int .i64 (a:Int)),(5,.int .i64 (k:Int))] vh vn Q
 |0,i,hf,_,_=>by omega
 |f+1,k,hf,hk,hQ=>by
  refine aC.round ?_;simp only[tM] at hQ
  conv=>whnf
  refine (JR hX hX1 s hs k vh vn).mono fun v vh' vn' he=>?_;obtain⟨e1,e2,e3⟩:=he;subst e1;subst e2;subst e3
  conv=>whnf
  refine aB.mk (fun h2=>?_) (fun h2=>?_)
  ·have h2':(cJ s k).2=0:=by simpa using h2
   rw[if_pos (.inl (.inl h2'))] at hQ
   conv=>whnf
   exact hQ
  ·have h2':¬(cJ s k).2=0:=by simpa using h2
   conv=>whnf
   refine (WF hX hX4 hX2 _ _ _).mono fun v vh' vn' he=>?_;obtain⟨e1,e2,e3⟩:=he;subst e1;subst e2;subst e3
   conv=>whnf
   refine aB.mk (fun h3=>?_) (fun h3=>?_)
   ·have h3':xA (cJ s k).1=false:=by simpa using h3
    rw[if_pos (.inl (.inr h3'))] at hQ
    conv=>whnf
    exact hQ
   ·have h3':xA (cJ s k).1=true:=by simpa using h3
    have hle:=(RP s k).resolve_left h2';have e:wr .i64 ((k:Int)+((cJ s k).2:Int))=((k+(cJ s k).2:Nat):Int):=by rw[aF]<;>omega
    conv=>whnf
    refine aB.mk (fun h4=>?_) (fun h4=>?_)
    ·have h4':k=a:=by have:=of_decide_eq_true h4;omega
     conv=>whnf
     refine (KF hX hX4 _ _ _).mono fun v vh' vn' he=>?_;obtain⟨e1,e2,e3⟩:=he;subst e1;subst e2;subst e3
     conv=>whnf
     refine aB.mk (fun h5=>?_) (fun h5=>?_)
     ·have h5':tW (cJ s k).1=false:=by simpa using h5
      rw[if_pos (.inr ⟨h4',h5'⟩)] at hQ
      conv=>whnf
      exact hQ
     ·have h5':tW (cJ s k).1=true:=by simpa using h5
      rw[if_neg (by rw[h3',h5'];simp[h2'])] at hQ
      conv=>whnf
      rw[e];exact DB hX hX1 hX2 hX4 s hs a _ _ Q f _ (by omega) hle hQ
    ·have h4':¬k=a:=by have:=of_decide_eq_false h4;omega
     rw[if_neg (by rw[h3'];simp[h2',h4'])] at hQ
     conv=>whnf
     rw[e];exact DB hX hX1 hX2 hX4 s hs a _ _ Q f _ (by omega) hle hQ
end
section
attribute [local irreducible] aM
variable {X : Ovr} {G : Gt}
theorem WM(hX:X b6=none)(hX1:X jF=none)(hX2:X l7=none)(hX4:X j1=none)(hX5:X pO=none)(s:List Nat)(hs:s.length<2^40)(a:Nat)(ha:a<=s.length)(vh:VH)(vn:Nat):
  aE Tryz.prog X G pO [.str s,.int .i64 (a:Int)] vh vn fun v vh' vn'=>vh'=vh/\vn'=vn/\v=.int .i64 (tM s a (s.length+1) a:Int):=by
 apply aEN.run hX5
 conv=>whnf
 refine DB hX hX1 hX2 hX4 s hs a vh vn _ (s.length+1) a (by omega) ha ?_
 conv=>whnf
 exact Get.mk _ (fun _ _ h=>h) ⟨rfl,rfl,rfl⟩
def BA(s:List Nat):Bool:=!decide (s=[])&&decide (tM s 0 (s.length+1) 0=s.length)
theorem V5(hX:X b6=none)(hX1:X jF=none)(hX2:X l7=none)(hX4:X j1=none)(hX5:X pO=none)(hX6:X rC=none)(s:List Nat)(hs:s.length<2^40)(vh:VH)(vn:Nat):
  aE Tryz.prog X G rC [.str s] vh vn fun v vh' vn'=>vh'=vh/\vn'=vn/\v=.bool (BA s):=by
 apply aEK.run hX6
 conv=>whnf
 refine aB.mk (fun h1=>?_) (fun h1=>?_)
 ·have h1':¬s=[]:=by simpa using h1
  conv=>whnf
  refine (WM hX hX1 hX2 hX4 hX5 s hs 0 (Nat.zero_le _) vh vn).mono fun v vh' vn' he=>?_;obtain⟨e1,e2,e3⟩:=he;subst e1;subst e2;subst e3
  conv=>whnf
  refine Get.mk _ (fun _ _ h=>h) ⟨rfl,rfl,?_⟩;simp only[BA,h1',decide_false,Bool.not_false,Bool.true_and];show V.bool (decide ((tM s 0 (s.length+1) 0:Int)=Int.ofNat s.length))=_
  congr 1
  simp only[Int.ofNat_eq_natCast,decide_eq_decide];omega
 ·have h1':s=[]:=by simpa using h1
  conv=>whnf
  refine Get.mk _ (fun _ _ h=>h) ⟨rfl,rfl,?_⟩;simp[BA,h1']
def kY:List Nat->Option Nat
 |[]=>none
 |c::l=>if c=58 then some 0 else (kY l).map (·+1)
def ncP(s:List Nat):Bool:=decide (kY s=none)&&BA s
theorem JI(s:List Nat)(hs:s.length<2^40)(vh:VH)(vn:Nat)(Q:FQ):∀(m i:Nat),s.length-i=m->i<=s.length->
  (kY (s.drop i)≠none->Q .ret [(2,.bool false)] vh vn)->
  (kY (s.drop i)=none->∀i' t,Q (.exit 0) [(0,.str s),(3,.int .i64 i'),(7,.bool t)] vh vn)->
  aC Tryz.prog X G (.loop MY) [(0,.str s),(3,.int .i64 (i:Int))] vh vn Q
 |m,i,hm,hi,hR,hQ=>by
  refine aC.round ?_
  conv=>whnf
  refine aB.mk (fun h1=>?_) (fun h1=>?_)
  ·have hlt:i<s.length:=by simpa using h1
   have hd:s.drop i=s[i]::s.drop (i+1):=(List.getElem_cons_drop hlt).symm;rw[hd] at hR hQ;simp only[kY] at hR hQ;have e:wr .i64 ((i:Int)+1)=((i+1:Nat):Int):=by rw[aF]<;>omega
   conv=>whnf
   refine Get.mk (i,s[i]) ⟨rfl,by simp[hlt]⟩ ?_
   conv=>whnf
   refine aB.mk (fun h2=>?_) (fun h2=>?_)
   ·have h2':s[i]=58:=by have:=of_decide_eq_true h2;simp only[Int.ofNat_eq_natCast] at this;omega
    conv=>whnf
    exact hR (by rw[if_pos h2'];exact nofun)
   ·have h2':¬s[i]=58:=by have:=of_decide_eq_false h2;simp only[Int.ofNat_eq_natCast] at this;omega
    rw[if_neg h2'] at hR hQ
    conv=>whnf
    rw[e];refine JI s hs vh vn Q (m-1) (i+1) (by omega) (by omega) (fun h=>hR ?_) (fun h=>hQ ?_)
    ·cases hc:kY (s.drop (i+1)) with
     |none=>exact (h hc).elim
     |some x=>exact nofun
    ·rw[h];rfl
  ·have hlt:i=s.length:=by simp at h1;omega
   rw[hlt,List.drop_length] at hQ
   conv=>whnf
   exact hQ rfl _ _
termination_by m=>m
decreasing_by all_goals omega
theorem V4(hX:X b6=none)(hX1:X jF=none)(hX2:X l7=none)(hX4:X j1=none)(hX5:X pO=none)(hX6:X rC=none)(hX7:X l6=none)(s:List Nat)(hs:s.length<2^40)(vh:VH)(vn:Nat):
  aE Tryz.prog X G l6 [.str s] vh vn fun v vh' vn'=>vh'=vh/\vn'=vn/\v=.bool (ncP s):=by
 apply aEJ.run hX7
 conv=>whnf
 refine JI s hs vh vn _ s.length 0 rfl (Nat.zero_le _) (fun h=>?_) (fun h i' t=>?_)
 ·rw[List.drop_zero] at h
  conv=>whnf
  exact Get.mk _ (fun _ _ h=>h) ⟨rfl,rfl,by simp[ncP,h]⟩
 ·rw[List.drop_zero] at h
  conv=>whnf
  refine (V5 hX hX1 hX2 hX4 hX5 hX6 s hs vh vn).mono fun v vh' vn' he=>?_;obtain⟨e1,e2,e3⟩:=he;subst e1;subst e2;subst e3
  conv=>whnf
  exact Get.mk _ (fun _ _ h=>h) ⟨rfl,rfl,by simp[ncP,h]⟩
end
section
attribute [local irreducible] aM
variable {X : Ovr} {G : Gt}
def lU(s:List Nat)(i:Nat):List Nat×List Nat×Bool:=if ncP (s.take i)=true/\ncP (s.drop (i+1))=true then (s.take i,s.drop (i+1),true) else ([],[],false)
def nN(s:List Nat):List Nat×List Nat×Bool:=match kY s with
 |some i=>lU s i
 |none=>if ncP s=true then ([],s,true) else ([],[],false)
structure XN(X:Ovr):Prop where
 hin:X b6=none
 one:X jF=none
 part:X l7=none
 start:X j1=none
 run:X pO=none
 name:X rC=none
 nc:X l6=none
 split:X yQ=none
theorem XN.nc_ok(H:XN X)(s:List Nat)(hs:s.length<2^40)(vh:VH)(vn:Nat):
  aE Tryz.prog X G l6 [.str s] vh vn fun v vh' vn'=>vh'=vh/\vn'=vn/\v=.bool (ncP s):=
 V4 H.hin H.one H.part H.start H.run H.name H.nc s hs vh vn
theorem KC(H:XN X)(s:List Nat)(hs:s.length<2^40)(vh:VH)(vn:Nat)(Q:FQ):∀(m i:Nat),s.length-i=m->i<=s.length->
  (∀j,kY (s.drop i)=some j->Q .ret [(2,.str (lU s (i+j)).1),(3,.str (lU s (i+j)).2.1),(4,.bool (lU s (i+j)).2.2)] vh vn)->
  (kY (s.drop i)=none->∀i' t,Q (.exit 0) [(0,.str s),(5,.int .i64 i'),(9,.bool t)] vh vn)->
  aC Tryz.prog X G (.loop M7) [(0,.str s),(5,.int .i64 (i:Int))] vh vn Q
 |m,i,hm,hi,hR,hQ=>by
  refine aC.round ?_
  conv=>whnf
  refine aB.mk (fun h1=>?_) (fun h1=>?_)
  ·have hlt:i<s.length:=by simpa using h1
   have hd:s.drop i=s[i]::s.drop (i+1):=(List.getElem_cons_drop hlt).symm;rw[hd] at hR hQ;simp only[kY] at hR hQ;have e:wr .i64 ((i:Int)+1)=((i+1:Nat):Int):=by rw[aF]<;>omega
   have et:(s.drop 0).take (i-0)=s.take i:=rfl;have ed:(s.drop (i+1)).take (s.length-(i+1))=s.drop (i+1):=List.take_of_length_le (by simp)
   have lt1:(s.take i).length<2^40:=by rw[List.length_take];omega
   have lt2:(s.drop (i+1)).length<2^40:=by rw[List.length_drop];omega
   conv=>whnf
   refine Get.mk (i,s[i]) ⟨rfl,by simp[hlt]⟩ ?_
   conv=>whnf
   refine aB.mk (fun h2=>?_) (fun h2=>?_)
   ·have h2':s[i]=58:=by have:=of_decide_eq_true h2;simp only[Int.ofNat_eq_natCast] at this;omega
    have hR':=hR 0 (by rw[if_pos h2'])
    rw[Nat.add_zero] at hR'
    conv=>whnf
    refine Get.mk i rfl ?_
    conv=>whnf
    refine⟨⟨Nat.zero_le _,hi⟩,?_⟩
    conv=>whnf
    refine (H.nc_ok (s.take i) lt1 vh vn).mono fun v vh' vn' he=>?_;obtain⟨e1,e2,e3⟩:=he;subst e1;subst e2;subst e3
    conv=>whnf
    refine aB.mk (fun h3=>?_) (fun h3=>?_)
    ·conv=>whnf
     refine Get.mk (i+1) e ?_
     conv=>whnf
     refine⟨⟨hlt,Nat.le_refl _⟩,?_⟩
     conv=>whnf
     rw[ed];refine (H.nc_ok (s.drop (i+1)) lt2 _ _).mono fun v vh' vn' he=>?_;obtain⟨e1,e2,e3⟩:=he;subst e1;subst e2;subst e3
     conv=>whnf
     refine aB.mk (fun h4=>?_) (fun h4=>?_)
     ·have hn:lU s i=(s.take i,s.drop (i+1),true):=by rw[lU,if_pos ⟨h3,h4⟩]
      rw[hn] at hR'
      conv=>whnf
      refine Get.mk i rfl ?_
      conv=>whnf
      refine⟨⟨Nat.zero_le _,hi⟩,?_⟩
      conv=>whnf
      refine Get.mk (i+1) e ?_
      conv=>whnf
      refine⟨⟨hlt,Nat.le_refl _⟩,?_⟩
      conv=>whnf
      rw[ed];exact hR'
     ·have hn:lU s i=([],[],false):=by rw[lU,if_neg];rintro⟨_,h⟩;have h4:ncP (s.drop (i+1))=false:=h4;rw[h] at h4;cases h4
      rw[hn] at hR'
      conv=>whnf
      exact hR'
    ·have hn:lU s i=([],[],false):=by rw[lU,if_neg];rintro⟨h,_⟩;rw[h] at h3;cases h3
     rw[hn] at hR'
     conv=>whnf
     exact hR'
   ·have h2':¬s[i]=58:=by have:=of_decide_eq_false h2;simp only[Int.ofNat_eq_natCast] at this;omega
    rw[if_neg h2'] at hR hQ
    conv=>whnf
    rw[e];refine KC H s hs vh vn Q (m-1) (i+1) (by omega) (by omega) (fun j h=>?_) (fun h=>hQ ?_)
    ·have:=hR (j+1) (by rw[h];rfl)
     rw[show i+(j+1)=i+1+j by omega] at this
     exact this
    ·rw[h];rfl
  ·have hlt:i=s.length:=by simp at h1;omega
   rw[hlt,List.drop_length] at hQ
   conv=>whnf
   exact hQ rfl _ _
termination_by m=>m
decreasing_by all_goals omega
theorem XC(H:XN X)(s:List Nat)(hs:s.length<2^40)(vh:VH)(vn:Nat):
  aE Tryz.prog X G yQ [.str s] vh vn fun v vh' vn'=>vh'=vh/\vn'=vn/\v=.tup [.str (nN s).1,.str (nN s).2.1,.bool (nN s).2.2]:=by
 apply aEP.run H.split
 conv=>whnf
 refine KC H s hs vh vn _ s.length 0 rfl (Nat.zero_le _) (fun j h=>?_) (fun h i' t=>?_)
 ·rw[List.drop_zero] at h;rw[Nat.zero_add]
  conv=>whnf
  exact Get.mk _ (fun _ _ h=>h) ⟨rfl,rfl,by simp only[nN,h]⟩
 ·rw[List.drop_zero] at h
  conv=>whnf
  refine (H.nc_ok s hs vh vn).mono fun v vh' vn' he=>?_;obtain⟨e1,e2,e3⟩:=he;subst e1;subst e2;subst e3
  conv=>whnf
  refine aB.mk (fun h1=>?_) (fun h1=>?_)
  ·have h1':ncP s=false:=by simpa using h1
   conv=>whnf
   exact Get.mk _ (fun _ _ h=>h) ⟨rfl,rfl,by simp[nN,h,h1']⟩
  ·have h1':ncP s=true:=by simpa using h1
   conv=>whnf
   exact Get.mk _ (fun _ _ h=>h) ⟨rfl,rfl,by simp[nN,h,h1']⟩
end
section
attribute [local irreducible] aM
variable {X : Ovr} {G : Gt}
def oZ(p l:List Nat):List Nat:=if p=[] then l else (p++nW)++l
theorem aGl(hX:X rB=none)(p l:List Nat)(hp:p.length<2^38)(hl:l.length<2^38)(vh:VH)(vn:Nat):
  aE Tryz.prog X G rB [.str p,.str l] vh vn fun v vh' vn'=>vh'=vh/\vn'=vn/\v=.str (oZ p l):=by
 apply aEH.run hX;have e58:nW.length=1:=rfl
 conv=>whnf
 refine aB.mk (fun h1=>?_) (fun h1=>?_)
 ·have h1':p=[]:=by simpa using h1
  conv=>whnf
  exact Get.mk _ (fun _ _ h=>h) ⟨rfl,rfl,by rw[oZ,if_pos h1']⟩
 ·have h1':¬p=[]:=by simpa using h1
  conv=>whnf
  refine⟨by show _<9223372036854775808;omega,?_⟩
  conv=>whnf
  refine⟨by show _<9223372036854775808;rw[List.length_append];omega,?_⟩
  conv=>whnf
  exact Get.mk _ (fun _ _ h=>h) ⟨rfl,rfl,by rw[oZ,if_neg h1']⟩
def dT(p l:List Nat):Bool:=((nN (oZ p l)).2.2&&decide ((nN (oZ p l)).1=p))&&decide ((nN (oZ p l)).2.1=l)
theorem Q3(H:XN X)(hX:X rB=none)(hX':X rA=none)(p l:List Nat)(hp:p.length<2^38)(hl:l.length<2^38)(vh:VH)(vn:Nat):
  aE Tryz.prog X G rA [.str p,.str l] vh vn fun v vh' vn'=>vh'=vh/\vn'=vn/\v=.bool (dT p l):=by
 apply aEF.run hX';have hq:(oZ p l).length<2^40:=by
  have e58:nW.length=1:=rfl;unfold oZ;split
  ·omega
  ·simp only[List.length_append];omega
 conv=>whnf
 refine (aGl hX p l hp hl vh vn).mono fun v vh' vn' he=>?_;obtain⟨e1,e2,e3⟩:=he;subst e1;subst e2;subst e3
 conv=>whnf
 refine (XC H _ hq _ _).mono fun v vh' vn' he=>?_;obtain⟨e1,e2,e3⟩:=he;subst e1;subst e2;subst e3
 conv=>whnf
 repeat' ((first|refine aB.mk (fun _=>?_) (fun _=>?_))<;>(conv=>whnf))
 all_goals
  refine Get.mk _ (fun _ _ h=>h) ⟨rfl,rfl,?_⟩
  simp_all[dT]
def qD(s w:List Nat):Nat->Nat->Bool
 |0,_=>false
 |f+1,i=>if i+w.length<=s.length then (if (s.drop i).take (i+w.length-i)=w then true else qD s w f (i+1)) else false
def iJ(s w:List Nat):Bool:=qD s w (s.length+1) 0
theorem P8(s w:List Nat)(hs:s.length<2^40)(hw:w.length<2^40)(vh:VH)(vn:Nat)(Q:FQ):∀(f i:Nat),s.length+1-i<=f->i<=s.length+1->
  (qD s w f i=true->Q .ret [(4,.bool true)] vh vn)->
  (qD s w f i=false->∀i' t,Q (.exit 0) [(0,.str s),(1,.str w),(5,.int .i64 i'),(12,.bool t)] vh vn)->
  aC Tryz.prog X G (.loop MX) [(0,.str s),(1,.str w),(5,.int .i64 (i:Int))] vh vn Q
 |f,i,hf,hi,hR,hQ=>by
  refine aC.round ?_;have e2:wr .i64 ((i:Int)+Int.ofNat w.length)=((i+w.length:Nat):Int):=by simp only[Int.ofNat_eq_natCast];rw[aF]<;>omega
  conv=>whnf
  refine aB.mk (fun h1=>?_) (fun h1=>?_)
  ·rw[e2] at h1;have h1':i+w.length<=s.length:=by have:=of_decide_eq_true h1;simp only[Int.ofNat_eq_natCast] at this;omega
   have e:wr .i64 ((i:Int)+1)=((i+1:Nat):Int):=by rw[aF]<;>omega
   obtain⟨f,rfl⟩:∃k,f=k+1:=⟨f-1,by omega⟩
   simp only[qD,if_pos h1'] at hR hQ
   conv=>whnf
   refine Get.mk i rfl ?_
   conv=>whnf
   refine Get.mk (i+w.length) e2 ?_
   conv=>whnf
   refine⟨⟨Nat.le_add_right _ _,h1'⟩,?_⟩
   conv=>whnf
   refine aB.mk (fun h2=>?_) (fun h2=>?_)
   ·have h2':=of_decide_eq_true h2;rw[if_pos h2'] at hR
    conv=>whnf
    exact hR rfl
   ·have h2':=of_decide_eq_false h2;rw[if_neg h2'] at hR hQ
    conv=>whnf
    rw[e];exact P8 s w hs hw vh vn Q f (i+1) (by omega) (by omega) hR hQ
  ·rw[e2] at h1;have h1':¬i+w.length<=s.length:=by have:=of_decide_eq_false h1;simp only[Int.ofNat_eq_natCast] at this;omega
   have hz:qD s w f i=false:=by
    cases f with
    |zero=>rfl
    |succ f=>simp only[qD,if_neg h1']
   conv=>whnf
   exact hQ hz _ _
termination_by f=>f
decreasing_by all_goals omega
theorem aCt(hX:X nU=none)(s w:List Nat)(hs:s.length<2^40)(hw:w.length<2^40)(vh:VH)(vn:Nat):
  aE Tryz.prog X G nU [.str s,.str w] vh vn fun v vh' vn'=>vh'=vh/\vn'=vn/\v=.bool (iJ s w):=by
 apply aEE.run hX
 conv=>whnf
 refine P8 s w hs hw vh vn _ (s.length+1) 0 (by omega) (by omega) (fun h=>?_) (fun h i' t=>?_)
 ·conv=>whnf
  exact Get.mk _ (fun _ _ h=>h) ⟨rfl,rfl,by rw[iJ,h]⟩
 ·conv=>whnf
  exact Get.mk _ (fun _ _ h=>h) ⟨rfl,rfl,by rw[iJ,h]⟩
end
section
attribute [local irreducible] aM
variable {X : Ovr} {G : Gt}
theorem cV(a:aA):(encA a).length=4:=rfl
abbrev dP:=aQ encA 4 iR
def jL:List aA:=List.flatten [[S_u,S_v].map (fun v=>(⟨bH,S_p,fJ,v⟩:aA)),[S_u,[],S_w].map (fun v=>(⟨[],bH,fJ,v⟩:aA)),[S_1,zN,zP,iC].map (fun v=>(⟨[],S_x,[],v⟩:aA)),[(⟨S_p,S_x,[],S_2⟩:aA)],[(⟨dQ,DF,[],S_i⟩:aA)],[(⟨bH,S_q,fJ,S_u⟩:aA)]]
structure eV(k:Nat)(xs:List aA):Prop where
 len:xs.length<=k
 mem:∀a∈xs,a∈jL
theorem eV.app{k:Nat}{xs:List aA}(h:eV k xs){a:aA}(ha:a∈jL):eV (k+1) (xs++[a]):=by
 refine⟨?_,fun b hb=>?_⟩
 ·have:=h.len;rw[List.length_append,List.length_singleton];omega
 ·rcases List.mem_append.1 hb with h1|h1
  ·exact h.mem b h1
  ·rw[List.mem_singleton.1 h1];exact ha
theorem eV.up{k j:Nat}{xs:List aA}(h:eV k xs)(hj:k<=j):eV j xs:=⟨Nat.le_trans h.len hj,h.mem⟩
theorem sC{ls:List (List aA)}(hc:jL=ls.flatten){l:List aA}(hl:l∈ls){a:aA}(ha:a∈l):a∈jL:=by rw[hc];exact List.mem_flatten.2 ⟨l,hl,ha⟩
theorem LE(u:Int)(lo:Nat)(vh:VH)(nx:Nat)(v:V)(xs:List aA)(A:dP lo vh nx v xs)(hlo:lo<=nx)(hlen:eV 5 xs)(Q:FQ)
  (hQ:∀v' vh' nx' xs',dP lo vh' nx' v' xs'->eV 6 xs'->nx<=nx'->(∀c,c<lo->vh' c=vh c)->Q .ret [(2,v')] vh' nx'):
  aC Tryz.prog X G (.cut MB) [(0,.int .u64 u),(3,v)] vh nx Q:=by
 refine aC.cut ?_;rcases id A with⟨rfl|rfl,rfl⟩|⟨b,hb1,hb2,rfl,hb4⟩
 all_goals
  conv=>whnf
  refine aB.mk (fun h=>?_) (fun h=>?_)
  ·conv=>whnf
   refine aQ.app cV (by decide) A hlo (⟨bH,S_q,fJ,S_u⟩:aA) ⟨?_,?_⟩ fun vh' A' hf=>?_
   ·have:=hlen.len;omega
   ·have:=hlen.len;show _<9223372036854775808;omega
   conv=>whnf
   have hf':∀c,c<lo->vh' c=vh c:=fun c hc=>hf c (by omega) (by first|exact fun h=>h|exact fun (h:c=b)=>by omega)
   exact hQ _ _ _ _ A' (hlen.app (sC rfl (.tail _ (.tail _ (.tail _ (.tail _ (.tail _ (.head _)))))) (.head _))) (by omega) hf'
  ·conv=>whnf
   exact hQ _ _ _ _ A (hlen.up (by decide)) (Nat.le_refl _) fun _ _=>rfl
theorem LD(u:Int)(lo:Nat)(vh:VH)(nx:Nat)(v:V)(xs:List aA)(A:dP lo vh nx v xs)(hlo:lo<=nx)(hlen:eV 4 xs)(Q:FQ)
  (hQ:∀v' vh' nx' xs',dP lo vh' nx' v' xs'->eV 6 xs'->nx<=nx'->(∀c,c<lo->vh' c=vh c)->Q .ret [(2,v')] vh' nx'):
  aC Tryz.prog X G (.cut MA) [(0,.int .u64 u),(3,v)] vh nx Q:=by
 refine aC.cut ?_;rcases id A with⟨rfl|rfl,rfl⟩|⟨b,hb1,hb2,rfl,hb4⟩
 all_goals
  conv=>whnf
  refine aB.mk (fun h=>?_) (fun h=>?_)
  ·conv=>whnf
   refine aQ.app cV (by decide) A hlo (⟨dQ,DF,[],S_i⟩:aA) ⟨?_,?_⟩ fun vh' A' hf=>?_
   ·have:=hlen.len;omega
   ·have:=hlen.len;show _<9223372036854775808;omega
   conv=>whnf
   have hf':∀c,c<lo->vh' c=vh c:=fun c hc=>hf c (by omega) (by first|exact fun h=>h|exact fun (h:c=b)=>by omega)
   exact LE u lo vh' _ _ _ A' (by omega) (hlen.app (sC rfl (.tail _ (.tail _ (.tail _ (.tail _ (.head _))))) (.head _))) Q fun v2 vh2 n2 x2 A2 l2 g2 f2=>hQ v2 vh2 n2 x2 A2 l2 (by omega) fun c hc=>(f2 c hc).trans (hf' c hc)
  ·conv=>whnf
   exact LE u lo vh _ _ _ A hlo (hlen.up (by decide)) Q hQ
theorem LH(u:Int)(lo:Nat)(vh:VH)(nx:Nat)(v:V)(xs:List aA)(A:dP lo vh nx v xs)(hlo:lo<=nx)(hlen:eV 3 xs)(Q:FQ)
  (hQ:∀v' vh' nx' xs',dP lo vh' nx' v' xs'->eV 6 xs'->nx<=nx'->(∀c,c<lo->vh' c=vh c)->Q .ret [(2,v')] vh' nx'):
  aC Tryz.prog X G (.cut MF) [(0,.int .u64 u),(3,v)] vh nx Q:=by
 refine aC.cut ?_;rcases id A with⟨rfl|rfl,rfl⟩|⟨b,hb1,hb2,rfl,hb4⟩
 all_goals
  conv=>whnf
  refine aB.mk (fun h=>?_) (fun h=>?_)
  ·conv=>whnf
   refine aQ.app cV (by decide) A hlo (⟨S_p,S_x,[],S_2⟩:aA) ⟨?_,?_⟩ fun vh' A' hf=>?_
   ·have:=hlen.len;omega
   ·have:=hlen.len;show _<9223372036854775808;omega
   conv=>whnf
   have hf':∀c,c<lo->vh' c=vh c:=fun c hc=>hf c (by omega) (by first|exact fun h=>h|exact fun (h:c=b)=>by omega)
   exact LD u lo vh' _ _ _ A' (by omega) (hlen.app (sC rfl (.tail _ (.tail _ (.tail _ (.head _)))) (.head _))) Q fun v2 vh2 n2 x2 A2 l2 g2 f2=>hQ v2 vh2 n2 x2 A2 l2 (by omega) fun c hc=>(f2 c hc).trans (hf' c hc)
  ·conv=>whnf
   exact LD u lo vh _ _ _ A hlo (hlen.up (by decide)) Q hQ
theorem LG(u:Int)(lo:Nat)(vh:VH)(nx:Nat)(v:V)(xs:List aA)(A:dP lo vh nx v xs)(hlo:lo<=nx)(hlen:eV 2 xs)(Q:FQ)
  (hQ:∀v' vh' nx' xs',dP lo vh' nx' v' xs'->eV 6 xs'->nx<=nx'->(∀c,c<lo->vh' c=vh c)->Q .ret [(2,v')] vh' nx'):
  aC Tryz.prog X G (.cut ME) [(0,.int .u64 u),(3,v)] vh nx Q:=by
 refine aC.cut ?_;rcases id A with⟨rfl|rfl,rfl⟩|⟨b,hb1,hb2,rfl,hb4⟩
 all_goals
  conv=>whnf
  refine aB.mk (fun h=>?_) (fun h=>?_)
  ·conv=>whnf
   repeat (refine Owe.mk (by decide) ?_;conv=>whnf)
   have hr:=lW (x:=wr .u64 (u.tdiv 32)) (m:=4) kN.1 (by decide)
   refine Get.lit (f:=fun s=>[V.str s]) (zs:=[S_1,zN,zP,iC]) rfl hr.1 hr.2 fun hlt=>?_
   conv=>whnf
   refine aQ.app cV (by decide) A hlo (⟨[],S_x,[],[S_1,zN,zP,iC][((wr .u64 (u.tdiv 32)).tmod 4).toNat]⟩:aA) ⟨?_,?_⟩ fun vh' A' hf=>?_
   ·have:=hlen.len;omega
   ·have:=hlen.len;show _<9223372036854775808;omega
   conv=>whnf
   have hf':∀c,c<lo->vh' c=vh c:=fun c hc=>hf c (by omega) (by first|exact fun h=>h|exact fun (h:c=b)=>by omega)
   exact LH u lo vh' _ _ _ A' (by omega) (hlen.app (sC rfl (.tail _ (.tail _ (.head _))) (List.mem_map.2 ⟨_,List.getElem_mem _,rfl⟩))) Q fun v2 vh2 n2 x2 A2 l2 g2 f2=>hQ v2 vh2 n2 x2 A2 l2 (by omega) fun c hc=>(f2 c hc).trans (hf' c hc)
  ·conv=>whnf
   exact LH u lo vh _ _ _ A hlo (hlen.up (by decide)) Q hQ
theorem LF(u:Int)(lo:Nat)(vh:VH)(nx:Nat)(v:V)(xs:List aA)(A:dP lo vh nx v xs)(hlo:lo<=nx)(hlen:eV 1 xs)(Q:FQ)
  (hQ:∀v' vh' nx' xs',dP lo vh' nx' v' xs'->eV 6 xs'->nx<=nx'->(∀c,c<lo->vh' c=vh c)->Q .ret [(2,v')] vh' nx'):
  aC Tryz.prog X G (.cut MD) [(0,.int .u64 u),(3,v)] vh nx Q:=by
 refine aC.cut ?_;rcases id A with⟨rfl|rfl,rfl⟩|⟨b,hb1,hb2,rfl,hb4⟩
 all_goals
  conv=>whnf
  refine aB.mk (fun h=>?_) (fun h=>?_)
  ·conv=>whnf
   repeat (refine Owe.mk (by decide) ?_;conv=>whnf)
   have hr:=lW (x:=wr .u64 (u.tdiv 8)) (m:=3) kN.1 (by decide)
   refine Get.lit (f:=fun s=>[V.str s]) (zs:=[S_u,[],S_w]) rfl hr.1 hr.2 fun hlt=>?_
   conv=>whnf
   refine aQ.app cV (by decide) A hlo (⟨[],bH,fJ,[S_u,[],S_w][((wr .u64 (u.tdiv 8)).tmod 3).toNat]⟩:aA) ⟨?_,?_⟩ fun vh' A' hf=>?_
   ·have:=hlen.len;omega
   ·have:=hlen.len;show _<9223372036854775808;omega
   conv=>whnf
   have hf':∀c,c<lo->vh' c=vh c:=fun c hc=>hf c (by omega) (by first|exact fun h=>h|exact fun (h:c=b)=>by omega)
   exact LG u lo vh' _ _ _ A' (by omega) (hlen.app (sC rfl (.tail _ (.head _)) (List.mem_map.2 ⟨_,List.getElem_mem _,rfl⟩))) Q fun v2 vh2 n2 x2 A2 l2 g2 f2=>hQ v2 vh2 n2 x2 A2 l2 (by omega) fun c hc=>(f2 c hc).trans (hf' c hc)
  ·conv=>whnf
   exact LG u lo vh _ _ _ A hlo (hlen.up (by decide)) Q hQ
theorem YJ(u:Int)(lo:Nat)(vh:VH)(nx:Nat)(v:V)(xs:List aA)(A:dP lo vh nx v xs)(hlo:lo<=nx)(hlen:eV 0 xs)(Q:FQ)
  (hQ:∀v' vh' nx' xs',dP lo vh' nx' v' xs'->eV 6 xs'->nx<=nx'->(∀c,c<lo->vh' c=vh c)->Q .ret [(2,v')] vh' nx'):
  aC Tryz.prog X G (.cut MC) [(0,.int .u64 u),(3,v)] vh nx Q:=by
 refine aC.cut ?_;rcases id A with⟨rfl|rfl,rfl⟩|⟨b,hb1,hb2,rfl,hb4⟩
 all_goals
  conv=>whnf
  refine aB.mk (fun h=>?_) (fun h=>?_)
  ·conv=>whnf
   repeat (refine Owe.mk (by decide) ?_;conv=>whnf)
   have hr:=lW (x:=wr .u64 (u.tdiv 2)) (m:=2) kN.1 (by decide)
   refine Get.lit (f:=fun s=>[V.str s]) (zs:=[S_u,S_v]) rfl hr.1 hr.2 fun hlt=>?_
   conv=>whnf
   refine aQ.app cV (by decide) A hlo (⟨bH,S_p,fJ,[S_u,S_v][((wr .u64 (u.tdiv 2)).tmod 2).toNat]⟩:aA) ⟨?_,?_⟩ fun vh' A' hf=>?_
   ·have:=hlen.len;omega
   ·have:=hlen.len;show _<9223372036854775808;omega
   conv=>whnf
   have hf':∀c,c<lo->vh' c=vh c:=fun c hc=>hf c (by omega) (by first|exact fun h=>h|exact fun (h:c=b)=>by omega)
   exact LF u lo vh' _ _ _ A' (by omega) (hlen.app (sC rfl (.head _) (List.mem_map.2 ⟨_,List.getElem_mem _,rfl⟩))) Q fun v2 vh2 n2 x2 A2 l2 g2 f2=>hQ v2 vh2 n2 x2 A2 l2 (by omega) fun c hc=>(f2 c hc).trans (hf' c hc)
  ·conv=>whnf
   exact LF u lo vh _ _ _ A hlo (hlen.up (by decide)) Q hQ
theorem YK(hX:X uH=none)(u:Int)(vh:VH)(vn:Nat):
  aE Tryz.prog X G uH [.int .u64 u] vh vn fun v vh' vn'=>vn<=vn'/\(∀c,c<vn->vh' c=vh c)/\∃xs,eV 6 xs/\dP vn vh' vn' v xs:=by
 apply aD1.run hX
 conv=>whnf
 refine YJ u vn vh vn _ [] .nil (Nat.le_refl _) ⟨by decide,nofun⟩ _ fun v1 vh1 n1 x1 A1 l1 g1 f1=>?_
 rcases id A1 with⟨rfl|rfl,rfl⟩|⟨b,hb1,hb2,rfl,hb4⟩
 all_goals
  conv=>whnf
  refine Get.mk vh1 (fun _ _ h=>h) ⟨g1,f1,_,l1,A1⟩
end
section
attribute [local irreducible] aM
variable {X : Ovr} {G : Gt}
abbrev fE:List Nat:=fJ
abbrev gO:List Nat:=nX
def declares(a:aA):List Nat×Bool:=if a.u=fE then (if a.p=bH then (a.l,true) else ([],decide (a.p=[])&&decide (a.l=bH))) else ([],false)
theorem OH(hX:X iQ=none)(a:aA)(vh:VH)(vn:Nat):
  aE Tryz.prog X G iQ [.agg (encA a)] vh vn fun v vh' vn'=>vh'=vh/\vn'=vn/\v=.tup [.str (declares a).1,.bool (declares a).2]:=by
 apply aDq.run hX
 conv=>whnf
 refine aB.mk (fun h1=>?_) (fun h1=>?_)
 ·conv=>whnf
  refine Get.mk vh (fun _ _ h=>h) ⟨rfl,rfl,?_⟩;simp at h1;simp[declares,h1]
 ·simp at h1
  conv=>whnf
  refine aB.mk (fun h2=>?_) (fun h2=>?_)
  ·conv=>whnf
   refine Get.mk vh (fun _ _ h=>h) ⟨rfl,rfl,?_⟩;simp at h2;simp[declares,h1,h2]
  ·simp at h2
   conv=>whnf
   refine aB.mk (fun h3=>?_) (fun h3=>?_)
   ·conv=>whnf
    refine Get.mk vh (fun _ _ h=>h) ⟨rfl,rfl,?_⟩;simp at h3;simp[declares,h1,h2,h3,show bH≠[] from nofun]
   ·conv=>whnf
    refine Get.mk vh (fun _ _ h=>h) ⟨rfl,rfl,?_⟩;simp at h3;simp[declares,h1,h2,h3]
def iW(l:List aA):List V:=[.sl 4 (l.map encA) none]
def Sc(vh:VH)(b:Nat)(lv:List (List aA)):Prop:=∃ty,vh b=some (.cells [.sl 1 (lv.map iW) none] ty 0 false)
theorem CY(hX:X pK=none)(b:Nat)(lv:List (List aA))(vh:VH)(vn:Nat)(hs:Sc vh b lv)(hl:lv.length<2^40):
  aE Tryz.prog X G pK [.ptr b 0] vh vn fun v vh' vn'=>vn'=vn/\(∀c,c≠b->vh' c=vh c)/\Sc vh' b lv.dropLast/\∃t,v=.bool t:=by
 obtain⟨ty,hs⟩:=hs;apply aDr.run hX
 conv=>whnf
 refine Get.mk (_,_,_,_) hs ?_
 conv=>whnf
 refine Get.mk _ rfl ?_
 conv=>whnf
 refine aB.mk (fun h1=>?_) (fun h1=>?_)
 ·simp at h1;subst h1
  conv=>whnf
  exact Get.mk vh (fun _ _ h=>h) ⟨rfl,fun _ _=>rfl,⟨ty,hs⟩,_,rfl⟩
 ·simp at h1;have hp:0<lv.length:=by cases lv with|nil=>exact (h1 rfl).elim|cons _ _=>simp
  conv=>whnf
  refine Get.mk (_,_,_,_) hs ?_
  conv=>whnf
  refine Get.mk _ rfl ?_
  conv=>whnf
  refine Get.mk (_,_,_,_) hs ?_
  conv=>whnf
  refine Get.mk _ rfl ?_
  conv=>whnf
  refine Get.mk (lv.length-1) ?_ ?_
  ·simp only[Int.ofNat_eq_natCast,List.length_map];rw[aF]<;>omega
  conv=>whnf
  refine⟨⟨Nat.zero_le _,by simp⟩,?_⟩
  conv=>whnf
  refine Get.mk (_,_,_,_) hs ?_
  conv=>whnf
  refine⟨⟨Nat.le_refl _,Nat.le_refl _⟩,?_⟩
  conv=>whnf
  refine Get.mk _ (fun _ _ h=>h) ⟨rfl,fun c hc=>aG hc,⟨ty,?_⟩,_,rfl⟩;refine aK.trans ?_;rw[List.dropLast_eq_take,List.map_take];rfl
end
section
attribute [local irreducible] aM
variable {X : Ovr} {G : Gt}
def jX(p:List Nat):List aA->Option (List Nat)
 |[]=>none
 |a::l=>if (declares a).1=p then some a.v else jX p l
def fX(p:List Nat)(lv:List (List aA)):Nat->Option (List Nat)
 |0=>none
 |j+1=>match jX p (lv[j]?.getD []) with|some u=>some u|none=>fX p lv j
def cN(lv:List (List aA))(p:List Nat):List Nat×Bool:=if p=dQ then (gO,true) else match fX p lv lv.length with|some u=>(u,true)|none=>([],decide (p=[]))
theorem KR(hX:X iQ=none)(b:Nat)(lv:List (List aA))(p:List Nat)(vh:VH)(vn:Nat)(hs:Sc vh b lv)(i:Nat)(hi:i<lv.length)(hb:∀l∈lv,l.length<2^40)(Q:FQ):∀(m k:Nat),lv[i].length-k=m->k<=lv[i].length->
  (match jX p (lv[i].drop k) with
   |none=>∀k' t,Q (.exit 2) [(0,.ptr b 0),(1,.str p),(6,.int .i64 (i:Int)),(7,.int .i64 k'),(31,.bool t)] vh vn
   |some u=>Q .ret [(4,.str u),(5,.bool true)] vh vn)->
  aC Tryz.prog X G (.loop MN) [(0,.ptr b 0),(1,.str p),(6,.int .i64 (i:Int)),(7,.int .i64 (k:Int))] vh vn Q
 |m,k,hm,hk,hQ=>by
  have hs':=hs;obtain⟨ty,hs⟩:=hs;have hlen:lv[i].length<2^40:=hb _ (List.getElem_mem hi);refine aC.round ?_
  conv=>whnf
  refine Get.mk (_,_,_,_) hs ?_
  conv=>whnf
  refine Get.mk _ rfl ?_
  conv=>whnf
  refine Get.mk (i,iW lv[i]) ⟨rfl,by simp[hi]⟩ ?_
  conv=>whnf
  refine aB.mk (fun h1=>?_) (fun h1=>?_)
  ·have hlt:k<lv[i].length:=by simpa using h1
   have hd:lv[i].drop k=lv[i][k]::lv[i].drop (k+1):=(List.getElem_cons_drop hlt).symm
   conv=>whnf
   refine Get.mk (_,_,_,_) hs ?_
   conv=>whnf
   refine Get.mk _ rfl ?_
   conv=>whnf
   refine Get.mk (i,iW lv[i]) ⟨rfl,by simp[hi]⟩ ?_
   conv=>whnf
   refine Get.mk (k,encA lv[i][k]) ⟨rfl,by simp[hlt]⟩ ?_
   conv=>whnf
   refine (OH hX lv[i][k] vh vn).mono fun v vh' vn' ⟨e1,e2,e3⟩=>?_;subst e1;subst e2;subst e3
   conv=>whnf
   refine aB.mk (fun h2=>?_) (fun h2=>?_)
   ·have h2':(declares lv[i][k]).1=p:=by simpa using h2
    simp only[hd,jX,h2',if_true] at hQ
    conv=>whnf
    refine Get.mk (_,_,_,_) hs ?_
    conv=>whnf
    refine Get.mk _ rfl ?_
    conv=>whnf
    refine Get.mk (i,iW lv[i]) ⟨rfl,by simp[hi]⟩ ?_
    conv=>whnf
    refine Get.mk (k,encA lv[i][k]) ⟨rfl,by simp[hlt]⟩ ?_
    conv=>whnf
    exact hQ
   ·have h2':¬(declares lv[i][k]).1=p:=by simpa using h2
    simp only[hd,jX,h2',if_false] at hQ;have e:wr .i64 ((k:Int)+1)=((k+1:Nat):Int):=by rw[aF]<;>omega
    conv=>whnf
    rw[e];exact KR hX b lv p _ _ hs' i hi hb Q (m-1) (k+1) (by omega) (by omega) hQ
  ·have hlt:k=lv[i].length:=by simp at h1;omega
   rw[hlt,List.drop_length] at hQ
   conv=>whnf
   exact hQ _ _
termination_by m=>m
decreasing_by omega
theorem KQ(hX:X iQ=none)(b:Nat)(lv:List (List aA))(p:List Nat)(vh:VH)(vn:Nat)(hs:Sc vh b lv)(hb:∀l∈lv,l.length<2^40)(hlv:lv.length<2^40)(Q:FQ):∀(j:Nat),j<=lv.length->
  (match fX p lv j with
   |none=>∀i' t,Q (.exit 0) [(0,.ptr b 0),(1,.str p),(6,.int .i64 i'),(19,.bool t)] vh vn
   |some u=>Q .ret [(4,.str u),(5,.bool true)] vh vn)->
  aC Tryz.prog X G (.loop MM) [(0,.ptr b 0),(1,.str p),(6,.int .i64 ((j:Int)-1))] vh vn Q
 |0,hj,hQ=>by
  refine aC.round ?_
  conv=>whnf
  simp only[fX] at hQ;exact hQ _ _
 |j+1,hj,hQ=>by
  have hi:j<lv.length:=by omega
  have e0:((j+1:Nat):Int)-1=(j:Int):=by omega
  rw[e0];refine aC.round ?_
  conv=>whnf
  refine KR hX b lv p vh vn hs j hi hb _ _ 0 rfl (Nat.zero_le _) ?_;simp only[List.drop_zero];simp only[fX,List.getElem?_eq_getElem hi,Option.getD_some] at hQ;cases hu:jX p lv[j] with
  |none=>
   rw[hu] at hQ;intro k' t;have e:wr .i64 ((j:Int)-1)=((j:Int)-1):=by rw[aF]<;>omega
   conv=>whnf
   rw[e];exact KQ hX b lv p vh vn hs hb hlv Q j (by omega) hQ
  |some u=>rw[hu] at hQ;exact hQ
theorem KT(hX:X iQ=none)(hX':X nT=none)(b:Nat)(lv:List (List aA))(p:List Nat)(vh:VH)(vn:Nat)(hs:Sc vh b lv)(hb:∀l∈lv,l.length<2^40)(hlv:lv.length<2^40):
  aE Tryz.prog X G nT [.ptr b 0,.str p] vh vn fun v vh' vn'=>vh'=vh/\vn'=vn/\v=.tup [.str (cN lv p).1,.bool (cN lv p).2]:=by
 have hs':=hs;obtain⟨ty,hs⟩:=hs;apply aDt.run hX'
 conv=>whnf
 refine aB.mk (fun h1=>?_) (fun h1=>?_)
 ·simp at h1
  conv=>whnf
  refine Get.mk vh (fun _ _ h=>h) ⟨rfl,rfl,?_⟩;simp[cN,h1]
 ·simp at h1
  conv=>whnf
  refine Get.mk (_,_,_,_) hs ?_
  conv=>whnf
  refine Get.mk _ rfl ?_
  conv=>whnf
  have e:wr .i64 (Int.ofNat (lv.map iW).length-1)=((lv.length:Int)-1):=by simp only[Int.ofNat_eq_natCast,List.length_map];rw[aF]<;>omega
  rw[e];refine KQ hX b lv p vh vn hs' hb hlv _ lv.length (Nat.le_refl _) ?_;cases hu:fX p lv lv.length with
  |none=>
   intro i' t
   conv=>whnf
   refine Get.mk vh (fun _ _ h=>h) ⟨rfl,rfl,?_⟩;simp[cN,h1,hu]
  |some u=>
   conv=>whnf
   refine Get.mk vh (fun _ _ h=>h) ⟨rfl,rfl,?_⟩;simp[cN,h1,hu]
end
section
attribute [local irreducible] aM
variable {X : Ovr} {G : Gt}
def bW(a b:aA):Bool:=decide (a.p=b.p)&&decide (a.l=b.l)
def oC(a:aA):Bool:=
 let p:=(declares a).1;let df:=decide (a.p=[])
 (((decide (p=bH)&&!df||decide (p=dQ)&&!df&&!decide (a.v=gO))||(!decide (p=dQ)||df)&&decide (a.v=gO))||decide (a.v=fE))||!df&&decide (a.v=[])
def eK:List aA->List aA->Option (List aA)
 |m,[]=>some m
 |m,a::l=>if (declares a).2=true then (if oC a=true then none else if m.any (fun b=>bW b a)=true then none else eK (m++[a]) l) else eK m l
theorem sI{xs:List aA}{i:Nat}(h:i<xs.length):(xs.map encA).flatten[0+i*4+0]? =some (.str xs[i].p):=by rw[Nat.zero_add];exact oK cV xs i 0 h (by decide)
theorem vY{xs:List aA}{i:Nat}(h:i<xs.length):(xs.map encA).flatten[0+i*4+1]? =some (.str xs[i].l):=by rw[Nat.zero_add];exact oK cV xs i 1 h (by decide)
theorem AI{xs:List aA}{i:Nat}(h:i<xs.length):(xs.map encA).flatten[0+i*4+2]? =some (.str xs[i].u):=by rw[Nat.zero_add];exact oK cV xs i 2 h (by decide)
theorem aCE{xs:List aA}{i:Nat}(h:i<xs.length):(xs.map encA).flatten[0+i*4+3]? =some (.str xs[i].v):=by rw[Nat.zero_add];exact oK cV xs i 3 h (by decide)
theorem mP{xs:List aA}{i:Nat}(h:i<xs.length):((xs.map encA).flatten.drop (0+i*4)).take 4=encA xs[i]/\0+i*4+4<=(xs.map encA).flatten.length:=by rw[Nat.zero_add];exact⟨FV cV xs i h,lH cV xs i h⟩
theorem C4(b:Nat)(mv:V)(bv:Nat)(tv:TypeId)(xs:List aA)(vh:VH)(vn:Nat)(hvb:vh bv=some (.cells (xs.map encA).flatten tv 0 false))(ms:List aA)(lo:Nat)(A:dP lo vh vn mv ms)(hms:ms.length<2^40)(i:Nat)(hi:i<xs.length)(Q:FQ):∀(m k:Nat),ms.length-k=m->k<=ms.length->
  ((ms.drop k).any (fun b=>bW b xs[i])=true->Q .ret [(4,.int .i64 2)] vh vn)->
  ((ms.drop k).any (fun b=>bW b xs[i])=false->∀k' t,Q (.exit 2) [(0,.ptr b 0),(1,.msl bv 0 xs.length 4 none),(5,mv),(6,.int .i64 (i:Int)),(11,.int .i64 k'),(83,.bool t)] vh vn)->
  aC Tryz.prog X G (.loop MJ) [(0,.ptr b 0),(1,.msl bv 0 xs.length 4 none),(5,mv),(6,.int .i64 (i:Int)),(11,.int .i64 (k:Int))] vh vn Q
 |m,k,hm,hk,hR,hQ=>by
  refine aC.round ?_;rcases id A with⟨rfl|rfl,rfl⟩|⟨bm,hb1,hb2,rfl,hb4⟩
  ·conv=>whnf
   exact hQ (by simp) _ _
  ·conv=>whnf
   exact hQ (by simp) _ _
  ·conv=>whnf
   refine aB.mk (fun h1=>?_) (fun h1=>?_)
   ·have hlt:k<ms.length:=by simpa using h1
    have hd:ms.drop k=ms[k]::ms.drop (k+1):=(List.getElem_cons_drop hlt).symm;rw[hd,List.any_cons] at hR hQ;have e:wr .i64 ((k:Int)+1)=((k+1:Nat):Int):=by rw[aF]<;>omega
    conv=>whnf
    refine Get.mk _ ⟨rfl,hlt⟩ ?_
    conv=>whnf
    refine Get.mk (_,_,_,_) hb4 ?_
    conv=>whnf
    refine Get.mk _ (sI hlt) ?_
    conv=>whnf
    refine Get.mk _ ⟨rfl,hi⟩ ?_
    conv=>whnf
    refine Get.mk (_,_,_,_) hvb ?_
    conv=>whnf
    refine Get.mk _ (sI hi) ?_
    conv=>whnf
    refine aB.mk (fun h2=>?_) (fun h2=>?_)
    ·simp at h2
     conv=>whnf
     refine Get.mk _ ⟨rfl,hlt⟩ ?_
     conv=>whnf
     refine Get.mk (_,_,_,_) hb4 ?_
     conv=>whnf
     refine Get.mk _ (vY hlt) ?_
     conv=>whnf
     refine Get.mk _ ⟨rfl,hi⟩ ?_
     conv=>whnf
     refine Get.mk (_,_,_,_) hvb ?_
     conv=>whnf
     refine Get.mk _ (vY hi) ?_
     conv=>whnf
     refine aB.mk (fun h3=>?_) (fun h3=>?_)
     ·simp at h3;have hs:bW ms[k] xs[i]=true:=by simp[bW,h2,h3]
      conv=>whnf
      exact hR (by rw[hs];rfl)
     ·simp at h3;have hs:bW ms[k] xs[i]=false:=by simp[bW,h3]
      rw[hs,Bool.false_or] at hR hQ
      conv=>whnf
      rw[e];exact C4 b _ bv tv xs vh vn hvb ms lo A hms i hi Q (m-1) (k+1) (by omega) (by omega) hR hQ
    ·simp at h2;have hs:bW ms[k] xs[i]=false:=by simp[bW,h2]
     rw[hs,Bool.false_or] at hR hQ
     conv=>whnf
     rw[e];exact C4 b _ bv tv xs vh vn hvb ms lo A hms i hi Q (m-1) (k+1) (by omega) (by omega) hR hQ
   ·have hlt:k=ms.length:=by simp at h1;omega
    rw[hlt,List.drop_length] at hQ
    conv=>whnf
    exact hQ rfl _ _
termination_by m=>m
decreasing_by all_goals omega
theorem WH(b:Nat)(mv:V)(bv:Nat)(tv:TypeId)(xs:List aA)(vh:VH)(vn:Nat)(hvb:vh bv=some (.cells (xs.map encA).flatten tv 0 false))(ms:List aA)(lo:Nat)(A:dP lo vh vn mv ms)(hlo:lo<=vn)(hms:ms.length<2^30)(i:Nat)(hi:i<xs.length)(Q:FQ)
  (hR:ms.any (fun b=>bW b xs[i])=true->Q .ret [(4,.int .i64 2)] vh vn)
  (hN:ms.any (fun b=>bW b xs[i])=false->∀vh',dP lo vh' (vn+1) (.msl vn 0 (ms.length+1) 4 none) (ms++[xs[i]])->(∀c,c<lo->vh' c=vh c)->Q .norm [(0,.ptr b 0),(1,.msl bv 0 xs.length 4 none),(5,.msl vn 0 (ms.length+1) 4 none),(6,.int .i64 (i:Int))] vh' (vn+1)):
  aC Tryz.prog X G (.cut MK) [(0,.ptr b 0),(1,.msl bv 0 xs.length 4 none),(5,mv),(6,.int .i64 (i:Int))] vh vn Q:=by
 refine aC.cut ?_;rcases id A with⟨rfl|rfl,rfl⟩|⟨bm,hb1,hb2,rfl,hb4⟩
 all_goals
  conv=>whnf
  refine C4 b _ bv tv xs vh vn hvb _ lo A (by omega) i hi _ _ 0 rfl (Nat.zero_le _) (fun h=>?_) (fun h k' t=>?_)
  ·rw[List.drop_zero] at h;exact hR h
  ·rw[List.drop_zero] at h
   conv=>whnf
   refine Get.mk i ⟨rfl,hi⟩ ?_
   conv=>whnf
   refine Get.mk (_,_,_,_) hvb ?_
   conv=>whnf
   refine Get.mk _ (mP hi) ?_
   conv=>whnf
   refine aQ.app cV (by decide) A hlo xs[i] ⟨?_,?_⟩ fun vh' A' hf=>?_
   ·omega
   ·show _<9223372036854775808;omega
   conv=>whnf
   exact hN h _ A' fun c hc=>hf c (by omega) (by first|exact fun h=>h|exact fun (h:c=bm)=>by omega)
end
section
attribute [local irreducible] aM
variable {X : Ovr} {G : Gt}
set_option maxHeartbeats 4000000 in
theorem CZ(hX:X iQ=none)(b:Nat)(bv:Nat)(tv:TypeId)(xs:List aA)(hxs:xs.length<2^30)(lo:Nat)(hbv:bv<lo)(Q:FQ):∀(m i:Nat),xs.length-i=m->i<=xs.length->∀(vh:VH) (vn:Nat) (mv:V) (ms:List aA),vh bv=some (.cells (xs.map encA).flatten tv 0 false)->lo<=vn->dP lo vh vn mv ms->ms.length<=i->
  (eK ms (xs.drop i)=none->∀vh' vn',vn<=vn'->(∀c,c<lo->vh' c=vh c)->Q .ret [(4,.int .i64 2)] vh' vn')->
  (∀ms',eK ms (xs.drop i)=some ms'->∀mv' vh' vn' i' t,ms'.length<=xs.length->dP lo vh' vn' mv' ms'->vn<=vn'->(∀c,c<lo->vh' c=vh c)->Q (.exit 0) [(0,.ptr b 0),(1,.msl bv 0 xs.length 4 none),(5,mv'),(6,.int .i64 i'),(15,.bool t)] vh' vn')->
  aC Tryz.prog X G (.loop MI) [(0,.ptr b 0),(1,.msl bv 0 xs.length 4 none),(5,mv),(6,.int .i64 (i:Int))] vh vn Q
 |m,i,hm,hi,vh,vn,mv,ms,hvb,hlo,A,hms,hR,hQ=>by
  refine aC.round ?_;rcases id A with⟨rfl|rfl,rfl⟩|⟨bm,hb1,hb2,rfl,hb4⟩
  all_goals
   conv=>whnf
   refine aB.mk (fun h1=>?_) (fun h1=>?_)
   ·have hlt:i<xs.length:=by simpa using h1
    have hd:xs.drop i=xs[i]::xs.drop (i+1):=(List.getElem_cons_drop hlt).symm;rw[hd] at hR hQ;simp only[eK] at hR hQ;have e:wr .i64 ((i:Int)+1)=((i+1:Nat):Int):=by rw[aF]<;>omega
    conv=>whnf
    refine Get.mk i ⟨rfl,hlt⟩ ?_
    conv=>whnf
    refine Get.mk (_,_,_,_) hvb ?_
    conv=>whnf
    refine Get.mk _ (mP hlt) ?_
    conv=>whnf
    refine (OH hX xs[i] vh vn).mono fun v vh' vn' he=>?_;obtain⟨e1,e2,e3⟩:=he;subst e1;subst e2;subst e3
    conv=>whnf
    refine aB.mk (fun h2=>?_) (fun h2=>?_)
    ·have h2':(declares xs[i]).2=false:=by simpa using h2
     simp only[h2',Bool.false_eq_true,if_false] at hR hQ
     conv=>whnf
     rw[e];exact CZ hX b bv tv xs hxs lo hbv Q (m-1) (i+1) (by omega) (by omega) _ _ _ _ hvb hlo A (by omega) hR hQ
    ·have h2':(declares xs[i]).2=true:=by simpa using h2
     simp only[h2',if_true] at hR hQ;have hBad:oC xs[i]=true->Q .ret [(4,.int .i64 2)] vh' vn':=fun h=>hR (by rw[if_pos h]) _ _ (Nat.le_refl _) fun _ _=>rfl
     conv=>whnf
     refine Get.mk _ ⟨rfl,hlt⟩ ?_
     conv=>whnf
     refine Get.mk (_,_,_,_) hvb ?_
     conv=>whnf
     refine Get.mk _ (aCE hlt) ?_
     conv=>whnf
     refine Get.mk _ ⟨rfl,hlt⟩ ?_
     conv=>whnf
     refine Get.mk (_,_,_,_) hvb ?_
     conv=>whnf
     refine Get.mk _ (sI hlt) ?_
     conv=>whnf
     repeat' ((first|refine aB.mk (fun _=>?_) (fun _=>?_));conv=>whnf)
     all_goals first
      |exact hBad (by clear hBad hR hQ A hvb hd h1 hm;simp_all[oC])
      |skip
     all_goals
      have hnb:oC xs[i]=false:=by clear hBad hR hQ A hvb hd h1 hm;simp_all[oC]
      refine WH b _ bv tv xs vh' vn' hvb _ lo A hlo (by omega) i hlt _ (fun h=>?_) (fun h vh2 A2 f2=>?_)
      ·exact hR (by rw[hnb,h];rfl) _ _ (Nat.le_refl _) fun _ _=>rfl
      ·conv=>whnf
       rw[e];refine CZ hX b bv tv xs hxs lo hbv Q (m-1) (i+1) (by omega) (by omega) _ _ _ _ ((f2 bv hbv).trans hvb) (by omega) A2 (by rw[List.length_append,List.length_singleton];omega) (fun hp vh3 vn3 g3 f3=>?_) (fun ms' hp mv3 vh3 vn3 i3 t3 l3 A3 g3 f3=>?_)
       ·exact hR (by rw[hnb,h];exact hp) _ _ (by omega) fun c hc=>(f3 c hc).trans (f2 c hc)
       ·exact hQ ms' (by rw[hnb,h];exact hp) _ _ _ _ _ l3 A3 (by omega) fun c hc=>(f3 c hc).trans (f2 c hc)
   ·have hlt:i=xs.length:=by simp at h1;omega
    rw[hlt,List.drop_length] at hQ
    conv=>whnf
    exact hQ _ rfl _ _ _ _ _ (by omega) A (Nat.le_refl _) fun _ _=>rfl
termination_by m=>m
decreasing_by all_goals omega
end
section
attribute [local irreducible] aM
variable {X : Ovr} {G : Gt}
theorem mR(l:List aA):(iW l).length=1:=rfl
theorem C5(b:Nat)(lv:List (List aA))(vh:VH)(vn:Nat)(hs:Sc vh b lv)(hlv:lv.length<2^30)(lo:Nat)(hb:b<lo)(hlo:lo<=vn)(mv:V)(ms:List aA)(A:dP lo vh vn mv ms)(v:V)(tl:aH)(Q:FQ)
  (hQ:∀vh' vn',vn<=vn'->Sc vh' b (lv++[ms])->(∀c,c<lo->c≠b->vh' c=vh c)->Q .ret [(4,.int .i64 0)] vh' vn'):
  aC Tryz.prog X G (.cut ML) ((0,.ptr b 0)::(1,v)::(5,mv)::tl) vh vn Q:=by
 obtain⟨ty,hs⟩:=hs;refine aC.cut ?_;rcases id A with⟨rfl|rfl,rfl⟩|⟨bm,hb1,hb2,rfl,hb4⟩
 ·conv=>whnf
  refine Get.mk (_,_,_,_) hs ?_
  conv=>whnf
  refine Get.mk _ rfl ?_
  conv=>whnf
  refine aQ.fresh (enc:=iW) (xs:=lv) (lo:=lo) rfl hlo ⟨?_,?_⟩ fun v1 vh1 n1 A1 g1 f1=>?_
  ·omega
  ·show _<9223372036854775808;omega
  have hs1:vh1 b=some (.cells [.sl 1 (lv.map iW) none] ty 0 false):=(f1 b (by omega)).trans hs
  rcases id A1 with⟨rfl|rfl,rfl⟩|⟨bl,hl1,hl2,rfl,hl4⟩
  all_goals
   conv=>whnf
   refine aQ.app' mR (by decide) A1 (by omega) ([]:List aA) ⟨?_,?_⟩ fun vh2 hz f2=>?_
   ·omega
   ·show _<9223372036854775808;omega
   conv=>whnf
   refine Get.mk (_,_,_,_) hz ?_
   conv=>whnf
   refine⟨gG mR (by decide),?_⟩
   conv=>whnf
   refine Get.mk _ (eU mR) ?_
   conv=>whnf
   have f2':∀c,c<lo->vh2 c=vh1 c:=fun c hc=>f2 c (by omega) (by first|exact fun h=>h|exact fun (h:c=bl)=>by omega)
   have hs3:bX vh2 n1 b=some (.cells [.sl 1 (_:List (List V)) none] ty 0 false):=(b5 (by omega)).trans ((f2' b hb).trans hs1)
   refine Get.mk (_,_,_,_) hs3 ?_
   conv=>whnf
   refine⟨⟨Nat.le_refl _,Nat.le_refl _⟩,?_⟩
   conv=>whnf
   exact hQ _ _ (by omega) ⟨ty,aK⟩ fun c hc hcb=>(aG hcb).trans ((b5 (by omega)).trans ((f2' c hc).trans ((f1 c (by omega)).trans rfl)))
 ·conv=>whnf
  refine Get.mk (_,_,_,_) hs ?_
  conv=>whnf
  refine Get.mk _ rfl ?_
  conv=>whnf
  refine aQ.fresh (enc:=iW) (xs:=lv) (lo:=lo) rfl hlo ⟨?_,?_⟩ fun v1 vh1 n1 A1 g1 f1=>?_
  ·omega
  ·show _<9223372036854775808;omega
  have hs1:vh1 b=some (.cells [.sl 1 (lv.map iW) none] ty 0 false):=(f1 b (by omega)).trans hs
  rcases id A1 with⟨rfl|rfl,rfl⟩|⟨bl,hl1,hl2,rfl,hl4⟩
  all_goals
   conv=>whnf
   refine aQ.app' mR (by decide) A1 (by omega) ([]:List aA) ⟨?_,?_⟩ fun vh2 hz f2=>?_
   ·omega
   ·show _<9223372036854775808;omega
   conv=>whnf
   refine Get.mk (_,_,_,_) hz ?_
   conv=>whnf
   refine⟨gG mR (by decide),?_⟩
   conv=>whnf
   refine Get.mk _ (eU mR) ?_
   conv=>whnf
   have f2':∀c,c<lo->vh2 c=vh1 c:=fun c hc=>f2 c (by omega) (by first|exact fun h=>h|exact fun (h:c=bl)=>by omega)
   have hs3:bX vh2 n1 b=some (.cells [.sl 1 (_:List (List V)) none] ty 0 false):=(b5 (by omega)).trans ((f2' b hb).trans hs1)
   refine Get.mk (_,_,_,_) hs3 ?_
   conv=>whnf
   refine⟨⟨Nat.le_refl _,Nat.le_refl _⟩,?_⟩
   conv=>whnf
   exact hQ _ _ (by omega) ⟨ty,aK⟩ fun c hc hcb=>(aG hcb).trans ((b5 (by omega)).trans ((f2' c hc).trans ((f1 c (by omega)).trans rfl)))
 ·conv=>whnf
  refine Get.mk (_,_,_,_) hb4 ?_
  conv=>whnf
  refine⟨gG cV (by decide),?_⟩
  conv=>whnf
  refine Get.mk _ (eU cV) ?_
  conv=>whnf
  have hs2:bX vh bm b=some (.cells [.sl 1 (lv.map iW) none] ty 0 false):=(b5 (by omega)).trans hs
  refine Get.mk (_,_,_,_) hs2 ?_
  conv=>whnf
  refine Get.mk _ rfl ?_
  conv=>whnf
  refine aQ.fresh (enc:=iW) (xs:=lv) (lo:=lo) rfl hlo ⟨?_,?_⟩ fun v1 vh1 n1 A1 g1 f1=>?_
  ·omega
  ·show _<9223372036854775808;omega
  have hs1:vh1 b=some (.cells [.sl 1 (lv.map iW) none] ty 0 false):=(f1 b (by omega)).trans hs2
  rcases id A1 with⟨rfl|rfl,rfl⟩|⟨bl,hl1,hl2,rfl,hl4⟩
  all_goals
   conv=>whnf
   refine aQ.app' mR (by decide) A1 (by omega) (ms:List aA) ⟨?_,?_⟩ fun vh2 hz f2=>?_
   ·omega
   ·show _<9223372036854775808;omega
   conv=>whnf
   refine Get.mk (_,_,_,_) hz ?_
   conv=>whnf
   refine⟨gG mR (by decide),?_⟩
   conv=>whnf
   refine Get.mk _ (eU mR) ?_
   conv=>whnf
   have f2':∀c,c<lo->vh2 c=vh1 c:=fun c hc=>f2 c (by omega) (by first|exact fun h=>h|exact fun (h:c=bl)=>by omega)
   have hs3:bX vh2 n1 b=some (.cells [.sl 1 (_:List (List V)) none] ty 0 false):=(b5 (by omega)).trans ((f2' b hb).trans hs1)
   refine Get.mk (_,_,_,_) hs3 ?_
   conv=>whnf
   refine⟨⟨Nat.le_refl _,Nat.le_refl _⟩,?_⟩
   conv=>whnf
   exact hQ _ _ (by omega) ⟨ty,aK⟩ fun c hc hcb=>(aG hcb).trans ((b5 (by omega)).trans ((f2' c hc).trans ((f1 c (by omega)).trans (b5 (by omega)))))
theorem C8(hX:X iQ=none)(hX':X pL=none)(b:Nat)(lv:List (List aA))(v:V)(xs:List aA)(vh:VH)(vn:Nat)(hs:Sc vh b lv)(hb:b<vn)(hlv:lv.length<2^30)(hv:SlR encA 4 vh v xs)(hvb:∀c,aR v c->c<vn)(hxs:xs.length<2^30):
  aE Tryz.prog X G pL [.ptr b 0,v] vh vn fun r vh' vn'=>vn<=vn'/\(∀c,c<vn->c≠b->vh' c=vh c)/\
   match eK [] xs with
   |none=>r=.int .i64 2/\Sc vh' b lv
   |some ms=>r=.int .i64 0/\Sc vh' b (lv++[ms]):=by
 apply aDs.run hX';rcases id hv with⟨rfl,rfl⟩|⟨rfl,rfl⟩|⟨bv,tv,rfl,hv4⟩
 ·conv=>whnf
  refine aC.round ?_
  conv=>whnf
  refine C5 b lv vh vn hs hlv vn hb (Nat.le_refl _) _ [] .nil _ _ _ fun vh' vn' g1 g2 g3=>?_
  conv=>whnf
  exact Get.mk vh' (fun _ _ h=>h) ⟨g1,g3,rfl,g2⟩
 ·conv=>whnf
  refine aC.round ?_
  conv=>whnf
  refine C5 b lv vh vn hs hlv vn hb (Nat.le_refl _) _ [] .nil _ _ _ fun vh' vn' g1 g2 g3=>?_
  conv=>whnf
  exact Get.mk vh' (fun _ _ h=>h) ⟨g1,g3,rfl,g2⟩
 ·have hbv:bv<vn:=hvb bv rfl
  conv=>whnf
  refine CZ hX b bv tv xs hxs vn hbv _ xs.length 0 (by omega) (Nat.zero_le _) vh vn _ [] hv4 (Nat.le_refl _) .nil (Nat.le_refl _) (fun hp vh' vn' g1 f1=>?_) fun ms hp mv' vh' vn' i' t l1 A1 g1 f1=>?_
  ·rw[List.drop_zero] at hp
   conv=>whnf
   refine Get.mk vh' (fun _ _ h=>h) ⟨g1,fun c hc _=>f1 c hc,?_⟩;obtain⟨ty,hs⟩:=hs;simp only[hp];exact⟨trivial,ty,(f1 b hb).trans hs⟩
  ·rw[List.drop_zero] at hp;have hs1:Sc vh' b lv:=by obtain⟨ty,hs⟩:=hs;exact⟨ty,(f1 b hb).trans hs⟩
   rcases id A1 with⟨rfl|rfl,rfl⟩|⟨bl,hl1,hl2,rfl,hl4⟩
   all_goals
    conv=>whnf
    refine C5 b lv vh' vn' hs1 hlv vn hb g1 _ _ A1 _ _ _ fun vh2 vn2 g2 s2 f2=>?_
    conv=>whnf
    refine Get.mk vh2 (fun _ _ h=>h) ⟨Nat.le_trans g1 g2,fun c hc hcb=>(f2 c hc hcb).trans (f1 c hc),?_⟩;simp only[hp];exact⟨trivial,s2⟩
end
section
attribute [local irreducible] aM
variable {X : Ovr} {G : Gt}
def cD(n:Nd)(av:V):List V:=[.int .i64 n.k,.int .i64 n.d,.str n.p,.str n.l,.str n.u,.str n.v,av]
def nsA(lv:List (List aA))(a:aA):aA×Bool:=if a.u=fE then (a,true) else if a.p=[] then ({a with u:=[]},true) else ({a with u:=(cN lv a.p).1},(cN lv a.p).2)
def nsL(lv:List (List aA)):List aA->List aA×Bool
 |[]=>([],true)
 |a::l=>if (nsA lv a).2=true then ((nsA lv a).1::(nsL lv l).1,(nsL lv l).2) else ((nsA lv a).1::l,false)
theorem qC(xs:List aA)(i:Nat)(h:i<xs.length)(w:List Nat):setSeg (xs.map encA).flatten (0+i*4+2) [.str w]=((xs.set i {xs[i] with u:=w}).map encA).flatten:=by
 rw[Nat.zero_add]
 induction xs generalizing i with
 |nil=>simp at h
 |cons a xs ih=>
  cases i with
  |zero=>simp[encA,setSeg,dE,dI,aT]
  |succ i=>
   have:=ih i (by simpa using h)
   rw[show (i+1)*4+2=(i*4+2)+1+1+1+1 by omega]
   simp only[List.map_cons,List.flatten_cons,encA,List.cons_append,List.nil_append,setSeg,this,List.set_cons_succ,List.getElem_cons_succ]
theorem TN(xs:List aA)(i:Nat)(h:i<xs.length)(r:List aA):xs.take (i+1)++r=xs.take i++(xs[i]::r):=by
 induction xs generalizing i with
 |nil=>simp at h
 |cons a xs ih=>cases i with
  |zero=>simp
  |succ i=>have:=ih i (by simpa using h);simp only[List.take_succ_cons,List.cons_append,List.getElem_cons_succ,this]
theorem nP(xs:List aA)(i:Nat)(h:i<xs.length)(a:aA)(r:List aA):(xs.set i a).take (i+1)++r=xs.take i++(a::r):=by
 induction xs generalizing i with
 |nil=>simp at h
 |cons b xs ih=>cases i with
  |zero=>simp
  |succ i=>have:=ih i (by simpa using h);simp only[List.set_cons_succ,List.take_succ_cons,List.cons_append,this]
theorem k0(xs:List aA)(i:Nat)(a:aA):(xs.set i a).drop (i+1)=xs.drop (i+1):=by rw[List.drop_set_of_lt];omega
theorem zJ(hX:X iQ=none)(hX':X nT=none)(bs bn ba:Nat)(lv:List (List aA))(hb:∀l∈lv,l.length<2^40)(hlv:lv.length<2^40)(n:Nd)(N:Nat)(hN:N<2^30)(vn:Nat)(d1:bs≠bn)(d2:ba≠bs)(d3:ba≠bn)(ty ta:TypeId)(Q:FQ):∀(m i:Nat),N-i=m->i<=N->∀(vh:VH) (xs:List aA),xs.length=N->Sc vh bs lv->vh bn=some (.cells (cD n (.msl ba 0 N 4 none)) ty 0 false)->vh ba=some (.cells (xs.map encA).flatten ta 0 false)->
  ((nsL lv (xs.drop i)).2=false->∀vh',vh' ba=some (.cells ((xs.take i++(nsL lv (xs.drop i)).1).map encA).flatten ta 0 false)->(∀c,c≠ba->vh' c=vh c)->Q .ret [(4,.bool false)] vh' vn)->
  ((nsL lv (xs.drop i)).2=true->∀vh' i' t,vh' ba=some (.cells ((xs.take i++(nsL lv (xs.drop i)).1).map encA).flatten ta 0 false)->(∀c,c≠ba->vh' c=vh c)->Q (.exit 0) [(0,.ptr bs 0),(1,.ptr bn 0),(6,.int .i64 i'),(36,.bool t)] vh' vn)->
  aC Tryz.prog X G (.loop MT) [(0,.ptr bs 0),(1,.ptr bn 0),(6,.int .i64 (i:Int))] vh vn Q
 |m,i,hm,hi,vh,xs,hxs,hs,hn,ha,hR,hQ=>by
  refine aC.round ?_
  conv=>whnf
  refine Get.mk (_,_,_,_) hn ?_
  conv=>whnf
  refine Get.mk _ rfl ?_
  conv=>whnf
  refine aB.mk (fun h1=>?_) (fun h1=>?_)
  ·have hlt:i<xs.length:=by
                   have:i<N:=by simpa using h1
                   omega
   have hiN:i<N:=by omega
   have hd:xs.drop i=xs[i]::xs.drop (i+1):=(List.getElem_cons_drop hlt).symm;rw[hd] at hR hQ;simp only[nsL] at hR hQ;have e:wr .i64 ((i:Int)+1)=((i+1:Nat):Int):=by rw[aF]<;>omega
   conv=>whnf
   refine Get.mk (_,_,_,_) hn ?_
   conv=>whnf
   refine Get.mk _ rfl ?_
   conv=>whnf
   refine Get.mk i ⟨rfl,hiN⟩ ?_
   conv=>whnf
   refine Get.mk (_,_,_,_) ha ?_
   conv=>whnf
   refine Get.mk _ (AI hlt) ?_
   conv=>whnf
   refine aB.mk (fun h2=>?_) (fun h2=>?_)
   ·have h2':xs[i].u=fE:=by simpa using h2
    have ea:nsA lv xs[i]=(xs[i],true):=by simp only[nsA,h2',if_true]
    simp only[ea,if_true] at hR hQ
    conv=>whnf
    rw[e];refine zJ hX hX' bs bn ba lv hb hlv n N hN vn d1 d2 d3 ty ta Q (m-1) (i+1) (by omega) (by omega) vh xs hxs hs hn ha ?_ ?_
    ·rw[TN xs i hlt];exact hR
    ·rw[TN xs i hlt];exact hQ
   ·have h2':¬xs[i].u=fE:=by simpa using h2
    have hw:∀f,f<4->0+i*4+f+1<=(xs.map encA).flatten.length:=fun f hf=>by have:=lH cV xs i hlt;omega
    conv=>whnf
    refine Get.mk (_,_,_,_) hn ?_
    conv=>whnf
    refine Get.mk _ rfl ?_
    conv=>whnf
    refine Get.mk i ⟨rfl,hiN⟩ ?_
    conv=>whnf
    refine Get.mk (_,_,_,_) ha ?_
    conv=>whnf
    refine⟨⟨hw 2 (by decide),Nat.zero_le _⟩,?_⟩
    have ha1:aI vh ba (.cells (setSeg (xs.map encA).flatten (0+i*4+2) [.str []]) ta 0 false) ba=some (.cells ((xs.set i {xs[i] with u:=[]}).map encA).flatten ta 0 false):=by rw[aK,qC _ _ hlt]
    have hf1:∀c,c≠ba->aI vh ba (.cells (setSeg (xs.map encA).flatten (0+i*4+2) [.str []]) ta 0 false) c=vh c:=fun c hc=>aG hc;have hn1:=(hf1 bn (Ne.symm d3)).trans hn;have hs1:Sc (aI vh ba (.cells (setSeg (xs.map encA).flatten (0+i*4+2) [.str []]) ta 0 false)) bs lv:=by obtain⟨t,hs⟩:=hs;exact⟨t,(hf1 bs (Ne.symm d2)).trans hs⟩
    conv=>whnf
    generalize aI vh ba _=vh1 at ha1 hf1 hn1 hs1;have hl1:(xs.set i {xs[i] with u:=[]}).length=N:=by rw[List.length_set];exact hxs
    have hlt1:i<(xs.set i {xs[i] with u:=[]}).length:=by omega
    have hg1:(xs.set i {xs[i] with u:=[]})[i]={xs[i] with u:=[]}:=by simp
    refine Get.mk (_,_,_,_) hn1 ?_
    conv=>whnf
    refine Get.mk _ rfl ?_
    conv=>whnf
    refine Get.mk i ⟨rfl,hiN⟩ ?_
    conv=>whnf
    refine Get.mk (_,_,_,_) ha1 ?_
    conv=>whnf
    refine Get.mk _ (sI hlt1) ?_
    conv=>whnf
    refine aB.mk (fun h3=>?_) (fun h3=>?_)
    ·have h3':xs[i].p=[]:=by simpa[hg1] using h3
     have ea:nsA lv xs[i]=({xs[i] with u:=[]},true):=by simp only[nsA,h2',h3',if_false,if_true]
     simp only[ea,if_true] at hR hQ
     conv=>whnf
     rw[e];refine zJ hX hX' bs bn ba lv hb hlv n N hN vn d1 d2 d3 ty ta Q (m-1) (i+1) (by omega) (by omega) vh1 _ hl1 hs1 hn1 ha1 ?_ ?_
     ·rw[nP xs i hlt,k0];exact fun h vh' h1 h2=>hR h vh' h1 fun c hc=>(h2 c hc).trans (hf1 c hc)
     ·rw[nP xs i hlt,k0];exact fun h vh' i' t h1 h2=>hQ h vh' i' t h1 fun c hc=>(h2 c hc).trans (hf1 c hc)
    ·have h3':¬xs[i].p=[]:=by simpa[hg1] using h3
     have ea:nsA lv xs[i]=({xs[i] with u:=(cN lv xs[i].p).1},(cN lv xs[i].p).2):=by simp only[nsA,h2',h3',if_false]
     conv=>whnf
     refine Get.mk (_,_,_,_) hn1 ?_
     conv=>whnf
     refine Get.mk _ rfl ?_
     conv=>whnf
     refine Get.mk (_,_,_,_) hn1 ?_
     conv=>whnf
     refine Get.mk _ rfl ?_
     conv=>whnf
     refine Get.mk i ⟨rfl,hiN⟩ ?_
     conv=>whnf
     refine Get.mk (_,_,_,_) ha1 ?_
     conv=>whnf
     refine Get.mk (.str xs[i].p) ((sI hlt1).trans (by rw[hg1])) ?_
     conv=>whnf
     clear hd h1 h2 h3;refine (KT hX hX' bs lv _ vh1 vn hs1 hb hlv).mono fun v vh' vn' he=>?_;obtain⟨e1,e2,e3⟩:=he;subst e1;subst e2;subst e3
     conv=>whnf
     refine⟨⟨rfl,?_⟩,?_⟩
     ·conv=>whnf
      refine Get.mk (_,_,_,_) hn1 ?_
      conv=>whnf
      refine Get.mk _ rfl ?_
      conv=>whnf
     conv=>whnf
     refine Get.mk i ⟨rfl,hiN⟩ ?_
     conv=>whnf
     refine Get.mk (_,_,_,_) ha1 ?_
     conv=>whnf
     have hw1:0+i*4+2+1<=((xs.set i {xs[i] with u:=[]}).map encA).flatten.length:=by have:=lH cV _ i hlt1;omega
     refine⟨⟨hw1,Nat.zero_le _⟩,?_⟩;have ha2:aI vh' ba (.cells (setSeg ((xs.set i {xs[i] with u:=[]}).map encA).flatten (0+i*4+2) [.str (cN lv xs[i].p).1]) ta 0 false) ba=some (.cells ((xs.set i {xs[i] with u:=(cN lv xs[i].p).1}).map encA).flatten ta 0 false):=by rw[aK,qC _ _ hlt1,hg1,List.set_set]
     have hf2:∀c,c≠ba->aI vh' ba (.cells (setSeg ((xs.set i {xs[i] with u:=[]}).map encA).flatten (0+i*4+2) [.str (cN lv xs[i].p).1]) ta 0 false) c=vh c:=fun c hc=>(aG hc).trans (hf1 c hc);have hn2:=(hf2 bn (Ne.symm d3)).trans hn;have hs2:Sc (aI vh' ba (.cells (setSeg ((xs.set i {xs[i] with u:=[]}).map encA).flatten (0+i*4+2) [.str (cN lv xs[i].p).1]) ta 0 false)) bs lv:=by obtain⟨t,hs⟩:=hs;exact⟨t,(hf2 bs (Ne.symm d2)).trans hs⟩
     have hl2:(xs.set i {xs[i] with u:=(cN lv xs[i].p).1}).length=N:=by rw[List.length_set];exact hxs
     conv=>whnf
     generalize aI vh' ba _=vh2 at ha2 hf2 hn2 hs2;refine aB.mk (fun h4=>?_) (fun h4=>?_)
     ·have h4':(cN lv xs[i].p).2=false:=by simpa using h4
      rw[h4'] at ea;simp only[ea,Bool.false_eq_true,if_false] at hR hQ
      conv=>whnf
      refine hR trivial vh2 ?_ hf2;rw[ha2,<-nP xs i hlt,<-k0 xs i {xs[i] with u:=(cN lv xs[i].p).1},List.take_append_drop]
     ·have h4':(cN lv xs[i].p).2=true:=by simpa using h4
      rw[h4'] at ea;simp only[ea,if_true] at hR hQ
      conv=>whnf
      rw[e];refine zJ hX hX' bs bn ba lv hb hlv n N hN _ d1 d2 d3 ty ta Q (m-1) (i+1) (by omega) (by omega) vh2 _ hl2 hs2 hn2 ha2 ?_ ?_
      ·rw[nP xs i hlt,k0];exact fun h vh' h1 h2=>hR h vh' h1 fun c hc=>(h2 c hc).trans (hf2 c hc)
      ·rw[nP xs i hlt,k0];exact fun h vh' i' t h1 h2=>hQ h vh' i' t h1 fun c hc=>(h2 c hc).trans (hf2 c hc)
  ·have hlt:i=N:=by simp at h1;omega
   have e1:xs.drop i=[]:=by rw[hlt,<-hxs,List.drop_length]
   have e2:xs.take i=xs:=by rw[hlt,<-hxs,List.take_length]
   rw[e1,e2] at hQ
   conv=>whnf
   exact hQ rfl vh _ _ (by simpa[nsL] using ha) fun _ _=>rfl
termination_by m=>m
decreasing_by all_goals omega
end
section
attribute [local irreducible] aM
variable {X : Ovr} {G : Gt}
def i7(a b:aA):Bool:=decide (a.u=b.u)&&decide (a.l=b.l)
def lV:List aA->List aA->Bool
 |_,[]=>false
 |pre,a::l=>pre.any (fun b=>i7 b a)||lV (pre++[a]) l
theorem CO(bn ba:Nat)(n:Nd)(xs:List aA)(hN:xs.length<2^30)(vh:VH)(vn:Nat)(ty ta:TypeId)(hn:vh bn=some (.cells (cD n (.msl ba 0 xs.length 4 none)) ty 0 false))(ha:vh ba=some (.cells (xs.map encA).flatten ta 0 false))(i:Nat)(hi:i<xs.length)(Q:FQ):∀(m k:Nat),i-k=m->k<=i->
  (((xs.take i).drop k).any (fun b=>i7 b xs[i])=true->Q .ret [(4,.bool false)] vh vn)->
  (((xs.take i).drop k).any (fun b=>i7 b xs[i])=false->∀k' t,Q (.exit 4) [(1,.ptr bn 0),(7,.int .i64 (i:Int)),(8,.int .i64 k'),(97,.bool t)] vh vn)->
  aC Tryz.prog X G (.loop MV) [(1,.ptr bn 0),(7,.int .i64 (i:Int)),(8,.int .i64 (k:Int))] vh vn Q
 |m,k,hm,hk,hR,hQ=>by
  refine aC.round ?_
  conv=>whnf
  refine aB.mk (fun h1=>?_) (fun h1=>?_)
  ·have hlt:k<i:=by simpa using h1
   have hkx:k<xs.length:=by omega
   have hd:(xs.take i).drop k=xs[k]::(xs.take i).drop (k+1):=by rw[<-List.getElem_cons_drop (by simp;omega:k<(xs.take i).length),List.getElem_take]
   rw[hd,List.any_cons] at hR hQ;have e:wr .i64 ((k:Int)+1)=((k+1:Nat):Int):=by rw[aF]<;>omega
   conv=>whnf
   refine Get.mk (_,_,_,_) hn ?_
   conv=>whnf
   refine Get.mk _ rfl ?_
   conv=>whnf
   refine Get.mk _ ⟨rfl,hkx⟩ ?_
   conv=>whnf
   refine Get.mk (_,_,_,_) ha ?_
   conv=>whnf
   refine Get.mk _ (AI hkx) ?_
   conv=>whnf
   refine Get.mk (_,_,_,_) hn ?_
   conv=>whnf
   refine Get.mk _ rfl ?_
   conv=>whnf
   refine Get.mk _ ⟨rfl,hi⟩ ?_
   conv=>whnf
   refine Get.mk (_,_,_,_) ha ?_
   conv=>whnf
   refine Get.mk _ (AI hi) ?_
   conv=>whnf
   refine aB.mk (fun h2=>?_) (fun h2=>?_)
   ·simp at h2
    conv=>whnf
    refine Get.mk (_,_,_,_) hn ?_
    conv=>whnf
    refine Get.mk _ rfl ?_
    conv=>whnf
    refine Get.mk _ ⟨rfl,hkx⟩ ?_
    conv=>whnf
    refine Get.mk (_,_,_,_) ha ?_
    conv=>whnf
    refine Get.mk _ (vY hkx) ?_
    conv=>whnf
    refine Get.mk (_,_,_,_) hn ?_
    conv=>whnf
    refine Get.mk _ rfl ?_
    conv=>whnf
    refine Get.mk _ ⟨rfl,hi⟩ ?_
    conv=>whnf
    refine Get.mk (_,_,_,_) ha ?_
    conv=>whnf
    refine Get.mk _ (vY hi) ?_
    conv=>whnf
    refine aB.mk (fun h3=>?_) (fun h3=>?_)
    ·simp at h3;have hs:i7 xs[k] xs[i]=true:=by simp[i7,h2,h3]
     conv=>whnf
     exact hR (by rw[hs];rfl)
    ·simp at h3;have hs:i7 xs[k] xs[i]=false:=by simp[i7,h3]
     rw[hs,Bool.false_or] at hR hQ
     conv=>whnf
     rw[e];exact CO bn ba n xs hN vh vn ty ta hn ha i hi Q (m-1) (k+1) (by omega) (by omega) hR hQ
   ·simp at h2;have hs:i7 xs[k] xs[i]=false:=by simp[i7,h2]
    rw[hs,Bool.false_or] at hR hQ
    conv=>whnf
    rw[e];exact CO bn ba n xs hN vh vn ty ta hn ha i hi Q (m-1) (k+1) (by omega) (by omega) hR hQ
  ·have hlt:k=i:=by simp at h1;omega
   have e1:(xs.take i).drop k=[]:=List.drop_eq_nil_of_le (by simp;omega)
   rw[e1] at hQ
   conv=>whnf
   exact hQ rfl _ _
termination_by m=>m
decreasing_by all_goals omega
theorem JJ(bn ba:Nat)(n:Nd)(xs:List aA)(hN:xs.length<2^30)(vh:VH)(vn:Nat)(ty ta:TypeId)(hn:vh bn=some (.cells (cD n (.msl ba 0 xs.length 4 none)) ty 0 false))(ha:vh ba=some (.cells (xs.map encA).flatten ta 0 false))(Q:FQ):∀(m i:Nat),xs.length-i=m->i<=xs.length->
  (lV (xs.take i) (xs.drop i)=true->Q .ret [(4,.bool false)] vh vn)->
  (lV (xs.take i) (xs.drop i)=false->∀i' t,Q (.exit 2) [(1,.ptr bn 0),(7,.int .i64 i'),(92,.bool t)] vh vn)->
  aC Tryz.prog X G (.loop MU) [(1,.ptr bn 0),(7,.int .i64 (i:Int))] vh vn Q
 |m,i,hm,hi,hR,hQ=>by
  refine aC.round ?_
  conv=>whnf
  refine Get.mk (_,_,_,_) hn ?_
  conv=>whnf
  refine Get.mk _ rfl ?_
  conv=>whnf
  refine aB.mk (fun h1=>?_) (fun h1=>?_)
  ·have hlt:i<xs.length:=by simpa using h1
   have hd:xs.drop i=xs[i]::xs.drop (i+1):=(List.getElem_cons_drop hlt).symm;have ht:xs.take i++[xs[i]]=xs.take (i+1):=by simp
   rw[hd] at hR hQ;simp only[lV,ht] at hR hQ;have e:wr .i64 ((i:Int)+1)=((i+1:Nat):Int):=by rw[aF]<;>omega
   conv=>whnf
   refine CO bn ba n xs hN vh vn ty ta hn ha i hlt _ i 0 (by omega) (Nat.zero_le _) (fun h=>?_) (fun h k' t=>?_)
   ·rw[List.drop_zero] at h;exact hR (by rw[h];rfl)
   ·rw[List.drop_zero] at h;rw[h,Bool.false_or] at hR hQ
    conv=>whnf
    rw[e];exact JJ bn ba n xs hN vh vn ty ta hn ha Q (m-1) (i+1) (by omega) (by omega) hR hQ
  ·have hlt:i=xs.length:=by simp at h1;omega
   rw[hlt,List.drop_length] at hQ
   conv=>whnf
   exact hQ rfl _ _
termination_by m=>m
decreasing_by all_goals omega
end
section
attribute [local irreducible] aM
variable {X : Ovr} {G : Gt}
def bQ(lv:List (List aA))(n:Nd):Nd×Bool:=
 if (cN lv n.p).2=false\/n.p=bH then ({n with u:=(cN lv n.p).1},false)
 else ({n with u:=(cN lv n.p).1,s:=(nsL lv n.s).1},(nsL lv n.s).2&&!lV [] (nsL lv n.s).1)
def nV(vh:VH)(b:Nat)(n:Nd)(av:V):Prop:=∃ty,vh b=some (.cells (cD n av) ty 0 false)
theorem oU(lv:List (List aA)):∀xs:List aA,(nsL lv xs).1.length=xs.length
 |[]=>rfl
 |a::l=>by
  simp only[nsL];split
  ·simp[oU lv l]
  ·simp
theorem CP(hX:X iQ=none)(hX':X nT=none)(hX2:X pM=none)(bs bn:Nat)(lv:List (List aA))(hb:∀l∈lv,l.length<2^40)(hlv:lv.length<2^40)(n:Nd)(av:V)(hN:n.s.length<2^30)(vh:VH)(vn:Nat)
  (d1:bs≠bn) (d2:¬aR av bs) (d3:¬aR av bn) (hs:Sc vh bs lv) (hn:nV vh bn n av) (ha:SlR encA 4 vh av n.s):
  aE Tryz.prog X G pM [.ptr bs 0,.ptr bn 0] vh vn fun v vh' vn'=>vn'=vn/\v=.bool (bQ lv n).2/\nV vh' bn (bQ lv n).1 av/\SlR encA 4 vh' av (bQ lv n).1.s/\∀c,c≠bn->¬aR av c->vh' c=vh c:=by
 obtain⟨ty,hn⟩:=hn;apply aEB.run hX2
 conv=>whnf
 refine Get.mk (_,_,_,_) hn ?_
 conv=>whnf
 refine Get.mk _ rfl ?_
 conv=>whnf
 refine (KT hX hX' bs lv n.p vh vn hs hb hlv).mono fun v vh' vn' he=>?_;obtain⟨e1,e2,e3⟩:=he;subst e1;subst e2;subst e3
 conv=>whnf
 refine Get.mk (_,_,_,_) hn ?_
 conv=>whnf
 refine⟨⟨by simp[cD],Nat.zero_le _⟩,?_⟩
 conv=>whnf
 generalize hv:aI vh' bn _=vh1;have hn1:vh1 bn=some (.cells (cD {n with u:=(cN lv n.p).1} av) ty 0 false):=by rw[<-hv];exact aK
 have hf1:∀c,c≠bn->vh1 c=vh' c:=fun c hc=>by rw[<-hv];exact aG hc
 have hs1:Sc vh1 bs lv:=by obtain⟨t,hs⟩:=hs;exact⟨t,(hf1 bs d1).trans hs⟩
 clear hv;have fail:∀(hc:(cN lv n.p).2=false\/n.p=bH),∃vh2,vh2=vh1/\(vn'=vn'/\V.bool false=V.bool (bQ lv n).2/\nV vh2 bn (bQ lv n).1 av/\SlR encA 4 vh2 av (bQ lv n).1.s/\∀c,c≠bn->¬aR av c->vh2 c=vh' c):=fun hc=>by
  refine⟨vh1,rfl,rfl,by simp only[bQ,if_pos hc],⟨ty,by simp only[bQ,if_pos hc];exact hn1⟩,?_,fun c hc _=>hf1 c hc⟩
  simp only[bQ,if_pos hc];rcases ha with h|h|⟨ba,ta,rfl,h2⟩
  ·exact .inl h
  ·exact .inr (.inl h)
  ·exact .inr (.inr ⟨ba,ta,rfl,(hf1 ba fun h=>d3 h.symm).trans h2⟩)
 refine aB.mk (fun h1=>?_) (fun h1=>?_)
 ·have h1':(cN lv n.p).2=false:=by simpa using h1
  conv=>whnf
  obtain⟨_,rfl,hf⟩:=fail (.inl h1');exact Get.mk _ (fun _ _ h=>h) hf
 ·have h1':(cN lv n.p).2=true:=by simpa using h1
  conv=>whnf
  refine Get.mk (_,_,_,_) hn1 ?_
  conv=>whnf
  refine Get.mk _ rfl ?_
  conv=>whnf
  refine aB.mk (fun h2=>?_) (fun h2=>?_)
  ·have h2':n.p=bH:=by simpa using h2
   conv=>whnf
   obtain⟨_,rfl,hf⟩:=fail (.inr h2');exact Get.mk _ (fun _ _ h=>h) hf
  ·have h2':¬n.p=bH:=by simpa using h2
   have hc:¬((cN lv n.p).2=false\/n.p=bH):=by rw[h1'];simp[h2']
   clear fail
   conv=>whnf
   rcases id ha with⟨h0,rfl⟩|⟨h0,rfl⟩|⟨ba,ta,rfl,ha2⟩
   ·refine aC.round ?_
    conv=>whnf
    refine Get.mk (_,_,_,_) hn1 ?_
    conv=>whnf
    refine Get.mk _ rfl ?_
    conv=>whnf
    refine aC.round ?_
    conv=>whnf
    refine Get.mk (_,_,_,_) hn1 ?_
    conv=>whnf
    refine Get.mk _ rfl ?_
    conv=>whnf
    refine Get.mk _ (fun _ _ h=>h) ⟨rfl,?_,⟨ty,?_⟩,?_,fun c hc _=>hf1 c hc⟩
    ·simp[bQ,hc,h0,nsL,lV]
    ·simp only[bQ,if_neg hc];exact hn1
    ·simp only[bQ,if_neg hc,h0,nsL];exact .inl ⟨rfl,rfl⟩
   ·refine aC.round ?_
    conv=>whnf
    refine Get.mk (_,_,_,_) hn1 ?_
    conv=>whnf
    refine Get.mk _ rfl ?_
    conv=>whnf
    refine aC.round ?_
    conv=>whnf
    refine Get.mk (_,_,_,_) hn1 ?_
    conv=>whnf
    refine Get.mk _ rfl ?_
    conv=>whnf
    refine Get.mk _ (fun _ _ h=>h) ⟨rfl,?_,⟨ty,?_⟩,?_,fun c hc _=>hf1 c hc⟩
    ·simp[bQ,hc,h0,nsL,lV]
    ·simp only[bQ,if_neg hc];exact hn1
    ·simp only[bQ,if_neg hc,h0,nsL];exact .inr (.inl ⟨rfl,rfl⟩)
   ·have e1:ba≠bs:=fun h=>d2 h.symm;have e2:ba≠bn:=fun h=>d3 h.symm;have ha3:vh1 ba=some (.cells (n.s.map encA).flatten ta 0 false):=(hf1 ba e2).trans ha2;refine zJ hX hX' bs bn ba lv hb hlv _ n.s.length hN _ d1 e1 e2 ty ta _ n.s.length 0 rfl (Nat.zero_le _) vh1 n.s rfl hs1 hn1 ha3 (fun h vh2 a2 f2=>?_) (fun h vh2 i' t a2 f2=>?_)
    ·rw[List.drop_zero] at h a2
     conv=>whnf
     refine Get.mk _ (fun _ _ h=>h) ⟨rfl,?_,⟨ty,?_⟩,?_,fun c hc hca=>(f2 c hca).trans (hf1 c hc)⟩
     ·simp[bQ,hc,h]
     ·simp only[bQ,if_neg hc];exact (f2 bn (Ne.symm e2)).trans hn1
     ·simp only[bQ,if_neg hc];exact .inr (.inr ⟨ba,ta,by rw[oU],a2⟩)
    ·rw[List.drop_zero] at h a2;have a2':vh2 ba=some (.cells ((nsL lv n.s).1.map encA).flatten ta 0 false):=a2;have hn2:vh2 bn=some (.cells (cD {n with u:=(cN lv n.p).1} (.msl ba 0 (nsL lv n.s).1.length 4 none)) ty 0 false):=by rw[oU];exact (f2 bn (Ne.symm e2)).trans hn1
     conv=>whnf
     refine JJ bn ba _ (nsL lv n.s).1 (by rw[oU];exact hN) vh2 _ ty ta hn2 a2' _ _ 0 rfl (Nat.zero_le _) (fun h3=>?_) (fun h3 i2 t2=>?_)
     ·rw[List.drop_zero,List.take_zero] at h3
      conv=>whnf
      refine Get.mk _ (fun _ _ h=>h) ⟨rfl,?_,⟨ty,?_⟩,?_,fun c hc hca=>(f2 c hca).trans (hf1 c hc)⟩
      ·simp[bQ,hc,h,h3]
      ·simp only[bQ,if_neg hc];exact (f2 bn (Ne.symm e2)).trans hn1
      ·simp only[bQ,if_neg hc];exact .inr (.inr ⟨ba,ta,by rw[oU],a2'⟩)
     ·rw[List.drop_zero,List.take_zero] at h3
      conv=>whnf
      refine Get.mk _ (fun _ _ h=>h) ⟨rfl,?_,⟨ty,?_⟩,?_,fun c hc hca=>(f2 c hca).trans (hf1 c hc)⟩
      ·simp[bQ,hc,h,h3]
      ·simp only[bQ,if_neg hc];exact (f2 bn (Ne.symm e2)).trans hn1
      ·simp only[bQ,if_neg hc];exact .inr (.inr ⟨ba,ta,by rw[oU],a2'⟩)
end
section
attribute [local irreducible] aM
variable {X : Ovr} {G : Gt}
theorem DZ{a b:aA}(h:decide ([a.p,a.l,a.u,a.v]=[b.p,b.l,b.u,b.v])=true):a=b:=by cases a;cases b;simpa using h
theorem J6(ba:Nat)(ta:TypeId)(xs ys:List aA)(hl:xs.length=ys.length)(hN:xs.length<2^30)(vh:VH)(vn:Nat)(ha:vh ba=some (.cells (xs.map encA).flatten ta 0 false))(Q:FQ):∀(m i:Nat),xs.length-i=m->i<=xs.length->
  (¬xs.drop i=ys.drop i->Q .ret [(4,.bool false)] vh vn)->
  (xs.drop i=ys.drop i->∀i' t,Q (.exit 0) [(0,.msl ba 0 xs.length 4 none),(1,.sl 4 (ys.map encA) none),(5,.int .i64 i'),(14,.bool t)] vh vn)->
  aC Tryz.prog X G (.loop EL) [(0,.msl ba 0 xs.length 4 none),(1,.sl 4 (ys.map encA) none),(5,.int .i64 (i:Int))] vh vn Q
 |m,i,hm,hi,hR,hQ=>by
  refine aC.round ?_
  conv=>whnf
  refine aB.mk (fun h1=>?_) (fun h1=>?_)
  ·have hlt:i<xs.length:=by simpa using h1
   have hly:i<ys.length:=by omega
   have hd:xs.drop i=xs[i]::xs.drop (i+1):=(List.getElem_cons_drop hlt).symm;have hd2:ys.drop i=ys[i]::ys.drop (i+1):=(List.getElem_cons_drop hly).symm;rw[hd,hd2] at hR hQ;have e:wr .i64 ((i:Int)+1)=((i+1:Nat):Int):=by rw[aF]<;>omega
   conv=>whnf
   refine Get.mk i ⟨rfl,hlt⟩ ?_
   conv=>whnf
   refine Get.mk (_,_,_,_) ha ?_
   conv=>whnf
   refine Get.mk _ (mP hlt) ?_
   conv=>whnf
   refine Get.mk (i,encA ys[i]) ⟨rfl,by simp[hly]⟩ ?_
   conv=>whnf
   refine aB.mk (fun h2=>?_) (fun h2=>?_)
   ·have h2:(!decide ([xs[i].p,xs[i].l,xs[i].u,xs[i].v]=[ys[i].p,ys[i].l,ys[i].u,ys[i].v]))=true:=h2
    conv=>whnf
    refine hR fun h=>?_;rw[(List.cons.inj h).1] at h2;simp at h2
   ·have h2:(!decide ([xs[i].p,xs[i].l,xs[i].u,xs[i].v]=[ys[i].p,ys[i].l,ys[i].u,ys[i].v]))=false:=h2;have h2':xs[i]=ys[i]:=DZ (by simpa using h2)
    conv=>whnf
    rw[e];refine J6 ba ta xs ys hl hN vh vn ha Q (m-1) (i+1) (by omega) (by omega) (fun h=>hR fun h3=>h (List.cons.inj h3).2) (fun h=>hQ (by rw[h,h2']))
  ·have hlt:i=xs.length:=by simp at h1;omega
   have e1:xs.drop i=ys.drop i:=by rw[hlt,List.drop_length,hl,List.drop_length]
   conv=>whnf
   exact hQ e1 _ _
termination_by m=>m
decreasing_by all_goals omega
theorem WZ(hX:X jE=none)(v:V)(xs ys:List aA)(hN:xs.length<2^30)(vh:VH)(vn:Nat)(ha:SlR encA 4 vh v xs):
  aE Tryz.prog X G jE [v,.sl 4 (ys.map encA) none] vh vn fun r vh' vn'=>vh'=vh/\vn'=vn/\∃b,r=.bool b/\(b=true↔xs=ys):=by
 apply QG.run hX;rcases id ha with⟨rfl,rfl⟩|⟨rfl,rfl⟩|⟨ba,ta,rfl,h4⟩
 ·conv=>whnf
  refine aB.mk (fun h1=>?_) (fun h1=>?_)
  ·have hne:ys≠[]:=fun h=>by subst h;simp at h1
   conv=>whnf
   exact Get.mk _ (fun _ _ h=>h) ⟨rfl,rfl,_,rfl,by simp[hne.symm]⟩
  ·have hy:ys=[]:=List.eq_nil_of_length_eq_zero (by simp at h1;omega)
   subst hy
   conv=>whnf
   refine aC.round ?_
   conv=>whnf
   exact Get.mk _ (fun _ _ h=>h) ⟨rfl,rfl,_,rfl,by simp⟩
 ·conv=>whnf
  refine aB.mk (fun h1=>?_) (fun h1=>?_)
  ·have hne:ys≠[]:=fun h=>by subst h;simp at h1
   conv=>whnf
   exact Get.mk _ (fun _ _ h=>h) ⟨rfl,rfl,_,rfl,by simp[hne.symm]⟩
  ·have hy:ys=[]:=List.eq_nil_of_length_eq_zero (by simp at h1;omega)
   subst hy
   conv=>whnf
   refine aC.round ?_
   conv=>whnf
   exact Get.mk _ (fun _ _ h=>h) ⟨rfl,rfl,_,rfl,by simp⟩
 ·conv=>whnf
  refine aB.mk (fun h1=>?_) (fun h1=>?_)
  ·have hne:xs≠ys:=fun h=>by subst h;simp at h1
   conv=>whnf
   exact Get.mk _ (fun _ _ h=>h) ⟨rfl,rfl,_,rfl,by simp[hne]⟩
  ·have hl:xs.length=ys.length:=by simp at h1;omega
   conv=>whnf
   refine J6 ba ta xs ys hl hN vh vn h4 _ xs.length 0 rfl (Nat.zero_le _) (fun h=>?_) (fun h i' t=>?_)
   ·rw[List.drop_zero,List.drop_zero] at h
    conv=>whnf
    exact Get.mk _ (fun _ _ h=>h) ⟨rfl,rfl,_,rfl,by simp[h]⟩
   ·rw[List.drop_zero,List.drop_zero] at h
    conv=>whnf
    exact Get.mk _ (fun _ _ h=>h) ⟨rfl,rfl,_,rfl,by simp[h]⟩
end
section
attribute [local irreducible] aM
variable {X : Ovr} {G : Gt}
def oQ(c:Nat):Nat:=if 65<=c/\c<=90 then c+32 else c
theorem aFT(c:Nat)(h:c<=90):wr .u8 (Int.ofNat c+32)=Int.ofNat (c+32):=by rw[lZ];simp only[IntKind.wrap,IntKind.signed,IntKind.bits];simp;omega
theorem D9{l:List Nat}{i:Nat}(h:i<l.length):(l.map cP)[0+i*1]? =some (cP l[i]):=by rw[Nat.zero_add,Nat.mul_one,List.getElem?_map,List.getElem?_eq_getElem h];rfl
theorem YW{l:List Nat}{i:Nat}(h:i<l.length)(c:Nat):setSeg (l.map cP) (0+i*1) [cP c]=(l.set i c).map cP:=by
 rw[Nat.zero_add,Nat.mul_one]
 induction l generalizing i with
 |nil=>simp at h
 |cons a l ih=>cases i with
  |zero=>simp[setSeg,dE,dI,aT]
  |succ i=>simp only[List.map_cons,setSeg,List.set_cons_succ,ih (by simpa using h)]
theorem TO{α:Type}(xs:List α)(i:Nat)(h:i<xs.length)(a:α)(r:List α):(xs.set i a).take (i+1)++r=xs.take i++(a::r):=by
 induction xs generalizing i with
 |nil=>simp at h
 |cons b xs ih=>cases i with
  |zero=>simp
  |succ i=>have:=ih i (by simpa using h);simp only[List.set_cons_succ,List.take_succ_cons,List.cons_append,this]
theorem aBy{α:Type}(xs:List α)(i:Nat)(a:α):(xs.set i a).drop (i+1)=xs.drop (i+1):=by rw[List.drop_set_of_lt];omega
theorem GL(b:Nat)(ty:TypeId)(n:Nat)(hn:n<2^40)(vn:Nat)(Q:FQ):∀(m i:Nat),n-i=m->i<=n->∀(vh:VH) (l:List Nat),l.length=n->vh b=some (.cells (l.map cP) ty 0 true)->
  (∀vh' i' t,vh' b=some (.cells ((l.take i++(l.drop i).map oQ).map cP) ty 0 true)->(∀c,c≠b->vh' c=vh c)->Q (.exit 0) [(3,.msl b 0 n 1 none),(4,.int .i64 i'),(10,.bool t)] vh' vn)->
  aC Tryz.prog X G (.loop EM) [(3,.msl b 0 n 1 none),(4,.int .i64 (i:Int))] vh vn Q
 |m,i,hm,hi,vh,l,hl,hb,hQ=>by
  refine aC.round ?_
  conv=>whnf
  refine aB.mk (fun h1=>?_) (fun h1=>?_)
  ·have hin:i<n:=by simpa using h1
   have hlt:i<l.length:=by omega
   have hd:l.drop i=l[i]::l.drop (i+1):=(List.getElem_cons_drop hlt).symm;have e:wr .i64 ((i:Int)+1)=((i+1:Nat):Int):=by rw[aF]<;>omega
   rw[hd] at hQ
   conv=>whnf
   refine Get.mk i ⟨rfl,hin⟩ ?_
   conv=>whnf
   refine Get.mk (_,_,_,_) hb ?_
   conv=>whnf
   refine Get.mk _ (D9 hlt) ?_
   conv=>whnf
   have same:¬(65<=l[i]/\l[i]<=90)->aC Tryz.prog X G (.loop EM) [(3,.msl b 0 n 1 none),(4,.int .i64 ((i+1:Nat):Int))] vh vn Q:=fun h=>by
    refine GL b ty n hn vn Q (m-1) (i+1) (by omega) (by omega) vh l hl hb fun vh' i' t h1 h2=>hQ vh' i' t ?_ h2
    have:=TO l i hlt l[i] ((l.drop (i+1)).map oQ);rw[List.set_getElem_self] at this;rw[this] at h1;rw[List.map_cons,oQ,if_neg h];exact h1
   refine aB.mk (fun h2=>?_) (fun h2=>?_)
   ·have h2':65<=l[i]:=by have:=of_decide_eq_true h2;simp only[Int.ofNat_eq_natCast] at this;omega
    conv=>whnf
    refine Get.mk i ⟨rfl,hin⟩ ?_
    conv=>whnf
    refine Get.mk (_,_,_,_) hb ?_
    conv=>whnf
    refine Get.mk _ (D9 hlt) ?_
    conv=>whnf
    refine aB.mk (fun h3=>?_) (fun h3=>?_)
    ·have h3':l[i]<=90:=by have:=of_decide_eq_true h3;simp only[Int.ofNat_eq_natCast] at this;omega
     conv=>whnf
     refine Get.mk i ⟨rfl,hin⟩ ?_
     conv=>whnf
     refine Get.mk (_,_,_,_) hb ?_
     conv=>whnf
     refine Get.mk _ (D9 hlt) ?_
     conv=>whnf
     refine Get.mk i ⟨rfl,hin⟩ ?_
     conv=>whnf
     refine Get.mk (_,_,_,_) hb ?_
     conv=>whnf
     refine⟨⟨by show _<=(l.map cP).length;rw[List.length_map];omega,Nat.zero_le _⟩,?_⟩
     conv=>whnf
     generalize hv:aI vh b _=vh1;have hb1:vh1 b=some (.cells ((l.set i (l[i]+32)).map cP) ty 0 true):=by rw[<-hv];refine aK.trans ?_;show some (VB.cells (setSeg (l.map cP) (0+i*1) [.int .u8 (wr .u8 (Int.ofNat l[i]+32))]) ty 0 true)=_;rw[aFT _ h3',<-YW hlt];rfl
     have hf1:∀c,c≠b->vh1 c=vh c:=fun c hc=>by rw[<-hv];exact aG hc
     rw[e];refine GL b ty n hn vn Q (m-1) (i+1) (by omega) (by omega) vh1 _ (by rw[List.length_set];exact hl) hb1 fun vh' i' t h1 h2=>hQ vh' i' t ?_ fun c hc=>(h2 c hc).trans (hf1 c hc)
     rw[TO l i hlt,aBy] at h1;rw[List.map_cons,oQ,if_pos ⟨h2',h3'⟩];exact h1
    ·have h3':¬l[i]<=90:=by have:=of_decide_eq_false h3;simp only[Int.ofNat_eq_natCast] at this;omega
     conv=>whnf
     rw[e];exact same fun h=>h3' h.2
   ·have h2':¬65<=l[i]:=by have:=of_decide_eq_false h2;simp only[Int.ofNat_eq_natCast] at this;omega
    conv=>whnf
    rw[e];exact same fun h=>h2' h.1
  ·have hlt:i=l.length:=by simp at h1;omega
   rw[hlt,List.drop_length,List.take_length] at hQ
   conv=>whnf
   exact hQ vh _ _ (by simpa using hb) fun _ _=>rfl
termination_by m=>m
decreasing_by all_goals omega
def GK(s:List Nat):List Nat:=s.map oQ
theorem aFU(hX:X q8=none)(s:List Nat)(hs:s.length<2^40)(hB:∀c∈s,c<256)(vh:VH)(vn:Nat):
  aE Tryz.prog X G q8 [.str s] vh vn fun v vh' vn'=>vn<=vn'/\(∀c,c<vn->vh' c=vh c)/\v=.str (GK s):=by
 apply aDv.run hX
 conv=>whnf
 refine GL vn mD s.length hs (vn+1) _ s.length 0 rfl (Nat.zero_le _) _ s rfl aK fun vh' i' t h1 h2=>?_;rw[List.drop_zero,List.take_zero,List.nil_append] at h1
 conv=>whnf
 refine Get.mk (_,_,_,_) h1 ?_
 conv=>whnf
 refine Get.mk (GK s) ⟨?_,?_,?_⟩ ?_
 ·show ((((s.map oQ).map cP).drop 0).take s.length)=_;rw[List.drop_zero,List.take_of_length_le (by simp)];rfl
 ·show 0+s.length<=((s.map oQ).map cP).length;simp
 ·intro c hc;obtain⟨d,hd,rfl⟩:=List.mem_map.1 hc;have:=hB d hd;unfold oQ;split<;>omega
 conv=>whnf
 exact Get.mk _ (fun _ _ h=>h) ⟨Nat.le_succ _,fun c hc=>(h2 c (by omega)).trans (aG (by omega)),rfl⟩
end
section
attribute [local irreducible] aM
variable {X : Ovr} {G : Gt}
def pC(s:List Nat):Bool:=ncP s&&!decide (GK s=dQ)
theorem XW(H:XN X)(hX:X q8=none)(hX':X uN=none)(s:List Nat)(hs:s.length<2^40)(hB:∀c∈s,c<256)(vh:VH)(vn:Nat):
  aE Tryz.prog X G uN [.str s] vh vn fun v vh' vn'=>vn<=vn'/\(∀c,c<vn->vh' c=vh c)/\v=.bool (pC s):=by
 apply aDu.run hX'
 conv=>whnf
 refine (H.nc_ok s hs vh vn).mono fun v vh' vn' he=>?_;obtain⟨e1,e2,e3⟩:=he;subst e1;subst e2;subst e3
 conv=>whnf
 refine aB.mk (fun h1=>?_) (fun h1=>?_)
 ·conv=>whnf
  refine (aFU hX s hs hB _ _).mono fun v vh2 vn2 he=>?_;obtain⟨e1,e2,e3⟩:=he;subst e3
  conv=>whnf
  exact Get.mk _ (fun _ _ h=>h) ⟨e1,e2,by simp[pC,h1]⟩
 ·conv=>whnf
  exact Get.mk _ (fun _ _ h=>h) ⟨Nat.le_refl _,fun _ _=>rfl,by simp[pC,h1]⟩
end
section
attribute [local irreducible] aM
variable {X : Ovr} {G : Gt}
structure XP(X:Ovr):Prop extends XN X where
 char:X pN=none
 valid:X rD=none
 space:X uS=none
 holds:X nU=none
 lower:X q8=none
 target:X uN=none
 plain:X yP=none
def xB(n:Nd):Bool:=(((!decide (n.p=[])||!decide (n.u=[]))||decide (0<n.s.length))||(!decide (n.k=5)&&!decide (n.l=[])))||!fY n.v
def kH(n:Nd):Bool:=
 if xB n=true then false
 else if n.k=3 then !decide (n.v=[])
 else if n.k=4 then (!iJ n.v iC&&!iJ n.v rT)&&(decide (n.v=[])||!decide ((n.v.getLastD 0:Int)=45))
 else if n.k=5 then ((pC n.l&&!iJ n.v iC)&&!iJ n.v rW)&&(decide (n.v=[])||!o9 (wr .i32 (.ofNat (n.v.headD 0))))
 else false
theorem aCk{l:List Nat}(hl:l.length<2^40)(hne:¬l=[]){k:Nat×Nat->Prop}(hk:k (l.length-1,l.getLastD 0)):Get (fun p:Nat×Nat=>wr .i64 (Int.ofNat l.length-1)=(p.1:Int)/\l[p.1]? =some p.2) k:=by
 have hp:0<l.length:=by cases l with|nil=>exact (hne rfl).elim|cons _ _=>simp
 refine .mk _ ⟨?_,?_⟩ hk
 ·simp only[Int.ofNat_eq_natCast];rw[aF]<;>omega
 ·show l[l.length-1]? =some (l.getLastD 0);rw[List.getLastD_eq_getLast?,<-List.getLast?_eq_getElem?];cases h:l.getLast? with
  |none=>exact (hne (List.getLast?_eq_none_iff.1 h)).elim
  |some x=>rfl
theorem aCj{l:List Nat}(hne:¬l=[]){k:Nat×Nat->Prop}(hk:k (0,l.headD 0)):Get (fun p:Nat×Nat=>(0:Int)=(p.1:Int)/\l[p.1]? =some p.2) k:=by
 refine .mk _ ⟨rfl,?_⟩ hk;cases l with
 |nil=>exact (hne rfl).elim
 |cons _ _=>rfl
theorem aGi(H:XP X)(n:Nd)(hv:n.v.length<2^40)(hl:n.l.length<2^40)(hB:∀c∈n.l,c<256)(vh:VH)(vn:Nat):
  aE Tryz.prog X G yP [.agg (aO n)] vh vn fun v vh' vn'=>vn<=vn'/\(∀c,c<vn->vh' c=vh c)/\v=.bool (kH n):=by
 apply aEG.run H.plain
 conv=>whnf
 repeat' ((first|refine aB.mk (fun _=>?_) (fun _=>?_)|(refine (KV H.hin H.one H.char H.valid n.v hv _ _).mono (fun v vh' vn' he=>?_);obtain⟨e1,e2,e3⟩:=he;subst e1;subst e2;subst e3)|(refine (aCt H.holds n.v _ hv (by decide) _ _).mono (fun v vh' vn' he=>?_);obtain⟨f1,f2,f3⟩:=he;rw[f1,f2,f3])|(refine (XW H.toXN H.lower H.target n.l hl hB _ _).mono (fun v vh' vn' he=>?_);obtain⟨e1,e2,e3⟩:=he;subst e3)|(refine aCk hv (of_decide_eq_false (by assumption)) ?_)|(refine aCj (of_decide_eq_false (by assumption)) ?_)|(refine (XA H.space (wr .i32 (Int.ofNat (n.v.headD 0))) _ _).mono (fun v vh' vn' he=>?_);obtain⟨f1,f2,f3⟩:=he;rw[f1,f2,f3]))<;>(conv=>whnf))
 all_goals first
  |(
    refine Get.mk _ (fun _ _ h=>h) ⟨Nat.le_refl _,fun _ _=>rfl,?_⟩;clear hB H
    simp_all[kH,xB]
    done)
  |(
    refine Get.mk _ (fun _ _ h=>h) ⟨by omega,by intro c hc;simp_all,?_⟩
    clear hB H
    simp_all[kH,xB]
    done)
  |trace_state
end
section
attribute [local irreducible] aM
variable {X : Ovr} {G : Gt}
def bB(a:aA):aA:={a with u:=if a.p=bH\/a.p=[]/\a.l=bH then fE else []}
def gD:List aA->List aA->Bool
 |_,[]=>true
 |pre,a::l=>(dT a.p a.l&&fY a.v)&&!pre.any (fun b=>bW b a)&&gD (pre++[bB a]) l
def cE(a:aA):List (List Nat):=[a.p,a.l,a.u,a.v]
theorem oB{xs ys:List aA}:xs.map cE=ys.map cE↔xs=ys:=by
 refine⟨fun h=>?_,fun h=>by rw[h]⟩
 induction xs generalizing ys with
 |nil=>cases ys with|nil=>rfl|cons _ _=>cases h
 |cons a xs ih=>cases ys with
  |nil=>cases h
  |cons b ys=>simp only[List.map_cons,List.cons.injEq] at h;rw[ih h.2];obtain⟨p,l,u,v⟩:=a;obtain⟨p',l',u',v'⟩:=b;have:=h.1;simp only[cE,List.cons.injEq,and_true] at this;obtain⟨rfl,rfl,rfl,rfl⟩:=this;rfl
def eQ(lv:List (List aA))(n:Nd):Bool×List (List aA):=
 if dT n.p n.l=false\/n.v≠[] then (false,lv)
 else if gD [] n.s=false then (false,lv)
 else match eK [] (n.s.map bB) with
  |none=>(false,lv)
  |some ms=>((bQ (lv++[ms]) {n with s:=n.s.map bB}).2&&decide ((bQ (lv++[ms]) {n with s:=n.s.map bB}).1.u=n.u)&&decide ((bQ (lv++[ms]) {n with s:=n.s.map bB}).1.s.map cE=n.s.map cE),lv++[ms])
end
section
attribute [local irreducible] aM
variable {X : Ovr} {G : Gt}
structure XE(X:Ovr):Prop extends XP X where
 declares:X iQ=none
 uri:X nT=none
 push:X pL=none
 pop:X pK=none
 names:X pM=none
 same:X jE=none
 qname:X rB=none
 named:X rA=none
 element:X yO=none
structure t7(a:aA):Prop where
 p:a.p.length<2^38
 l:a.l.length<2^38
 v:a.v.length<2^40
structure pS(n:Nd):Prop where
 p:n.p.length<2^38
 l:n.l.length<2^38
 v:n.v.length<2^40
 b:∀c∈n.l,c<256
 s:n.s.length<2^30
 a:∀a∈n.s,t7 a
theorem CH(bs bm ba:Nat)(n nm:Nd)(a:aA)(ys:List aA)(hN:ys.length<2^30)(vh:VH)(vn:Nat)(ty ta:TypeId)(hn:vh bm=some (.cells (cD nm (.msl ba 0 ys.length 4 none)) ty 0 false))(ha:vh ba=some (.cells (ys.map encA).flatten ta 0 false))(i:Nat)(hi:i<ys.length)(Q:FQ):∀(m k:Nat),i-k=m->k<=i->
  (((ys.take i).drop k).any (fun b=>bW b a)=true->Q .ret [(4,.bool false)] vh vn)->
  (((ys.take i).drop k).any (fun b=>bW b a)=false->∀k' t,Q (.exit 2) [(0,.ptr bs 0),(3,.bx (aO n)),(5,.ptr bm 0),(6,.int .i64 (i:Int)),(7,.bx (encA a)),(8,.int .i64 k'),(52,.bool t)] vh vn)->
  aC Tryz.prog X G (.loop MW) [(0,.ptr bs 0),(3,.bx (aO n)),(5,.ptr bm 0),(6,.int .i64 (i:Int)),(7,.bx (encA a)),(8,.int .i64 (k:Int))] vh vn Q
 |m,k,hm,hk,hR,hQ=>by
  refine aC.round ?_
  conv=>whnf
  refine aB.mk (fun h1=>?_) (fun h1=>?_)
  ·have hlt:k<i:=by simpa using h1
   have hkx:k<ys.length:=by omega
   have hd:(ys.take i).drop k=ys[k]::(ys.take i).drop (k+1):=by rw[<-List.getElem_cons_drop (by simp;omega:k<(ys.take i).length),List.getElem_take]
   rw[hd,List.any_cons] at hR hQ;have e:wr .i64 ((k:Int)+1)=((k+1:Nat):Int):=by rw[aF]<;>omega
   conv=>whnf
   refine Get.mk (_,_,_,_) hn ?_
   conv=>whnf
   refine Get.mk _ rfl ?_
   conv=>whnf
   refine Get.mk _ ⟨rfl,hkx⟩ ?_
   conv=>whnf
   refine Get.mk (_,_,_,_) ha ?_
   conv=>whnf
   refine Get.mk _ (sI hkx) ?_
   conv=>whnf
   refine aB.mk (fun h2=>?_) (fun h2=>?_)
   ·simp at h2
    conv=>whnf
    refine Get.mk (_,_,_,_) hn ?_
    conv=>whnf
    refine Get.mk _ rfl ?_
    conv=>whnf
    refine Get.mk _ ⟨rfl,hkx⟩ ?_
    conv=>whnf
    refine Get.mk (_,_,_,_) ha ?_
    conv=>whnf
    refine Get.mk _ (vY hkx) ?_
    conv=>whnf
    refine aB.mk (fun h3=>?_) (fun h3=>?_)
    ·simp at h3;have hs:bW ys[k] a=true:=by simp[bW,h2,h3]
     conv=>whnf
     exact hR (by rw[hs];rfl)
    ·simp at h3;have hs:bW ys[k] a=false:=by simp[bW,h3]
     rw[hs,Bool.false_or] at hR hQ
     conv=>whnf
     rw[e];exact CH bs bm ba n nm a ys hN vh vn ty ta hn ha i hi Q (m-1) (k+1) (by omega) (by omega) hR hQ
   ·simp at h2;have hs:bW ys[k] a=false:=by simp[bW,h2]
    rw[hs,Bool.false_or] at hR hQ
    conv=>whnf
    rw[e];exact CH bs bm ba n nm a ys hN vh vn ty ta hn ha i hi Q (m-1) (k+1) (by omega) (by omega) hR hQ
  ·have hlt:k=i:=by simp at h1;omega
   have e1:(ys.take i).drop k=[]:=List.drop_eq_nil_of_le (by simp;omega)
   rw[e1] at hQ
   conv=>whnf
   exact hQ rfl _ _
termination_by m=>m
decreasing_by all_goals omega
theorem aJI{ys:List aA}(h:∀a∈ys,t7 a){i:Nat}(hi:i<ys.length)(w:List Nat):∀a∈ys.set i {ys[i] with u:=w},t7 a:=by
 intro a ha;rcases List.mem_or_eq_of_mem_set ha with h1|rfl
 ·exact h a h1
 ·obtain⟨h1,h2,h3⟩:=h _ (List.getElem_mem hi);exact⟨h1,h2,h3⟩
theorem I0(H:XE X)(bs bm ba:Nat)(n nm:Nd)(N:Nat)(hN:N<2^30)(vn:Nat)(d3:ba≠bm)(ty ta:TypeId)(Q:FQ):∀(m i:Nat),N-i=m->i<=N->∀(vh:VH) (ys:List aA),ys.length=N->(∀a∈ys,t7 a)->vh bm=some (.cells (cD nm (.msl ba 0 N 4 none)) ty 0 false)->vh ba=some (.cells (ys.map encA).flatten ta 0 false)->
  (gD (ys.take i) (ys.drop i)=false->∀vh',(∀c,c≠ba->vh' c=vh c)->Q .ret [(4,.bool false)] vh' vn)->
  (gD (ys.take i) (ys.drop i)=true->∀vh' i' t,vh' ba=some (.cells ((ys.take i++(ys.drop i).map bB).map encA).flatten ta 0 false)->(∀c,c≠ba->vh' c=vh c)->Q (.exit 0) [(0,.ptr bs 0),(3,.bx (aO n)),(5,.ptr bm 0),(6,.int .i64 i'),(30,.bool t)] vh' vn)->
  aC Tryz.prog X G (.loop z6) [(0,.ptr bs 0),(3,.bx (aO n)),(5,.ptr bm 0),(6,.int .i64 (i:Int))] vh vn Q
 |m,i,hm,hi,vh,ys,hys,hsm,hn,ha,hR,hQ=>by
  refine aC.round ?_
  conv=>whnf
  refine Get.mk (_,_,_,_) hn ?_
  conv=>whnf
  refine Get.mk _ rfl ?_
  conv=>whnf
  refine aB.mk (fun h1=>?_) (fun h1=>?_)
  ·have hlt:i<ys.length:=by
                   have:i<N:=by simpa using h1
                   omega
   have hiN:i<N:=by omega
   have hd:ys.drop i=ys[i]::ys.drop (i+1):=(List.getElem_cons_drop hlt).symm;rw[hd] at hR hQ;simp only[gD,List.map_cons] at hR hQ;have e:wr .i64 ((i:Int)+1)=((i+1:Nat):Int):=by rw[aF]<;>omega
   have hw:∀zs:List aA,zs.length=N->0+i*4+2+1<=(zs.map encA).flatten.length:=fun zs hz=>by have:=lH cV zs i (by omega);omega
   have sm:=hsm ys[i] (List.getElem_mem hlt);have nxt:∀(w:List Nat) (vh2:VH),bB ys[i]={ys[i] with u:=w}->dT ys[i].p ys[i].l=true->fY ys[i].v=true->(ys.take i).any (fun b=>bW b ys[i])=false->vh2 ba=some (.cells ((ys.set i {ys[i] with u:=w}).map encA).flatten ta 0 false)->(∀c,c≠ba->vh2 c=vh c)->
     aC Tryz.prog X G (.loop z6) [(0,.ptr bs 0),(3,.bx (aO n)),(5,.ptr bm 0),(6,.int .i64 ((i+1:Nat):Int))] vh2 vn Q:=fun w vh2 ew q1 q2 q3 a2 f2=>by
    rw[q1,q2,q3,ew] at hR hQ;simp only[Bool.and_self,Bool.not_false,Bool.true_and] at hR hQ;have hp:(ys.set i {ys[i] with u:=w}).take (i+1)=ys.take i++[{ys[i] with u:=w}]:=by have:=nP ys i hlt {ys[i] with u:=w} [];simpa using this
    refine I0 H bs bm ba n nm N hN vn d3 ty ta Q (m-1) (i+1) (by omega) (by omega) vh2 _ (by rw[List.length_set];exact hys) (aJI hsm hlt w) ((f2 bm (Ne.symm d3)).trans hn) a2 ?_ ?_
    ·rw[hp,k0];exact fun h vh' h1=>hR h vh' fun c hc=>(h1 c hc).trans (f2 c hc)
    ·rw[hp,k0];refine fun h vh' i' t h1 h2=>hQ h vh' i' t ?_ fun c hc=>(h2 c hc).trans (f2 c hc);rw[List.append_assoc] at h1;exact h1
   conv=>whnf
   refine Get.mk (_,_,_,_) hn ?_
   conv=>whnf
   refine Get.mk _ rfl ?_
   conv=>whnf
   refine Get.mk i ⟨rfl,hiN⟩ ?_
   conv=>whnf
   refine Get.mk (_,_,_,_) ha ?_
   conv=>whnf
   refine Get.mk _ (mP hlt) ?_
   conv=>whnf
   refine (Q3 H.toXN H.qname H.named ys[i].p ys[i].l sm.p sm.l vh vn).mono fun v vh' vn' he=>?_;obtain⟨e1,e2,e3⟩:=he;rw[e1,e2,e3];clear e1 e2 e3
   conv=>whnf
   refine aB.mk (fun h2=>?_) (fun h2=>?_)
   ·have h2':dT ys[i].p ys[i].l=false:=by simpa using h2
    conv=>whnf
    exact hR (by rw[h2'];rfl) vh fun _ _=>rfl
   ·have h2':dT ys[i].p ys[i].l=true:=by simpa using h2
    conv=>whnf
    refine (KV H.hin H.one H.char H.valid ys[i].v sm.v vh vn).mono fun v vh' vn' he=>?_;obtain⟨e1,e2,e3⟩:=he;rw[e1,e2,e3];clear e1 e2 e3
    conv=>whnf
    refine aB.mk (fun h3=>?_) (fun h3=>?_)
    ·have h3':fY ys[i].v=false:=by simpa using h3
     conv=>whnf
     exact hR (by rw[h3',h2'];rfl) vh fun _ _=>rfl
    ·have h3':fY ys[i].v=true:=by simpa using h3
     conv=>whnf
     refine CH bs bm ba n nm ys[i] ys (by omega) vh vn ty ta (by rw[hys];exact hn) ha i hlt _ i 0 (by omega) (Nat.zero_le _) (fun h4=>?_) (fun h4 k' t=>?_)
     ·rw[List.drop_zero] at h4;exact hR (by rw[h4,h3',h2'];rfl) vh fun _ _=>rfl
     ·rw[List.drop_zero] at h4
      conv=>whnf
      refine Get.mk (_,_,_,_) hn ?_
      conv=>whnf
      refine Get.mk _ rfl ?_
      conv=>whnf
      refine Get.mk i ⟨rfl,hiN⟩ ?_
      conv=>whnf
      refine Get.mk (_,_,_,_) ha ?_
      conv=>whnf
      refine⟨⟨hw _ hys,Nat.zero_le _⟩,?_⟩;have ha1:aI vh ba (.cells (setSeg (ys.map encA).flatten (0+i*4+2) [.str []]) ta 0 false) ba=some (.cells ((ys.set i {ys[i] with u:=[]}).map encA).flatten ta 0 false):=by rw[aK,qC _ _ hlt]
      have hf1:∀c,c≠ba->aI vh ba (.cells (setSeg (ys.map encA).flatten (0+i*4+2) [.str []]) ta 0 false) c=vh c:=fun c hc=>aG hc
      conv=>whnf
      generalize aI vh ba _=vh1 at ha1 hf1;have hn1:=(hf1 bm (Ne.symm d3)).trans hn;have hlt1:i<(ys.set i {ys[i] with u:=[]}).length:=by rw[List.length_set];exact hlt
      have hg1:(ys.set i {ys[i] with u:=[]})[i]={ys[i] with u:=[]}:=by simp
      have hw1:0+i*4+2+1<=((ys.set i {ys[i] with u:=[]}).map encA).flatten.length:=hw _ (by rw[List.length_set];exact hys)
      have ha2:aI vh1 ba (.cells (setSeg ((ys.set i {ys[i] with u:=[]}).map encA).flatten (0+i*4+2) [.str fE]) ta 0 false) ba=some (.cells ((ys.set i {ys[i] with u:=fE}).map encA).flatten ta 0 false):=by rw[aK,qC _ _ hlt1,hg1,List.set_set]
      have hf2:∀c,c≠ba->aI vh1 ba (.cells (setSeg ((ys.set i {ys[i] with u:=[]}).map encA).flatten (0+i*4+2) [.str fE]) ta 0 false) c=vh c:=fun c hc=>(aG hc).trans (hf1 c hc);refine aB.mk (fun h5=>?_) (fun h5=>?_)
      ·have h5':ys[i].p=bH:=by simpa using h5
       conv=>whnf
       refine Get.mk (_,_,_,_) hn1 ?_
       conv=>whnf
       refine Get.mk _ rfl ?_
       conv=>whnf
       refine Get.mk i ⟨rfl,hiN⟩ ?_
       conv=>whnf
       refine Get.mk (_,_,_,_) ha1 ?_
       conv=>whnf
       refine⟨⟨hw1,Nat.zero_le _⟩,?_⟩
       conv=>whnf
       rw[e];exact nxt fE _ (by simp[bB,h5']) h2' h3' h4 ha2 hf2
      ·have h5':¬ys[i].p=bH:=by simpa using h5
       conv=>whnf
       refine aB.mk (fun h6=>?_) (fun h6=>?_)
       ·have h6':ys[i].p=[]:=by simpa using h6
        conv=>whnf
        refine aB.mk (fun h7=>?_) (fun h7=>?_)
        ·have h7':ys[i].l=bH:=by simpa using h7
         conv=>whnf
         refine Get.mk (_,_,_,_) hn1 ?_
         conv=>whnf
         refine Get.mk _ rfl ?_
         conv=>whnf
         refine Get.mk i ⟨rfl,hiN⟩ ?_
         conv=>whnf
         refine Get.mk (_,_,_,_) ha1 ?_
         conv=>whnf
         refine⟨⟨hw1,Nat.zero_le _⟩,?_⟩
         conv=>whnf
         rw[e];exact nxt fE _ (by simp[bB,h6',h7']) h2' h3' h4 ha2 hf2
        ·have h7':¬ys[i].l=bH:=by simpa using h7
         conv=>whnf
         rw[e];exact nxt [] _ (by simp[bB,h5',h7']) h2' h3' h4 ha1 hf1
       ·have h6':¬ys[i].p=[]:=by simpa using h6
        conv=>whnf
        rw[e];exact nxt [] _ (by simp[bB,h5',h6']) h2' h3' h4 ha1 hf1
  ·have hlt:i=N:=by simp at h1;omega
   have e1:ys.drop i=[]:=by rw[hlt,<-hys,List.drop_length]
   have e2:ys.take i=ys:=by rw[hlt,<-hys,List.take_length]
   rw[e1,e2] at hQ
   conv=>whnf
   exact hQ rfl vh _ _ (by simpa using ha) fun _ _=>rfl
termination_by m=>m
decreasing_by all_goals omega
end
section
attribute [local irreducible] aM
variable {X : Ovr} {G : Gt}
theorem UW(H:XE X)(bs bm:Nat)(n nm:Nd)(v:V)(xs:List aA)(hN:xs.length<2^30)(hsm:∀a∈xs,t7 a)(vh:VH)(vn:Nat)(ty:TypeId)(hn:vh bm=some (.cells (cD nm v) ty 0 false))(hv:SlR encA 4 vh v xs)(d:¬aR v bm)(Q:FQ)
  (hR:gD [] xs=false->∀vh',(∀c,¬aR v c->vh' c=vh c)->Q .ret [(4,.bool false)] vh' vn)
  (hQ:gD [] xs=true->∀vh' i' t,SlR encA 4 vh' v (xs.map bB)->(∀c,¬aR v c->vh' c=vh c)->Q (.exit 0) [(0,.ptr bs 0),(3,.bx (aO n)),(5,.ptr bm 0),(6,.int .i64 i'),(30,.bool t)] vh' vn):
  aC Tryz.prog X G (.loop z6) [(0,.ptr bs 0),(3,.bx (aO n)),(5,.ptr bm 0),(6,.int .i64 0)] vh vn Q:=by
 rcases id hv with⟨rfl,rfl⟩|⟨rfl,rfl⟩|⟨ba,ta,rfl,h4⟩
 ·refine aC.round ?_
  conv=>whnf
  refine Get.mk (_,_,_,_) hn ?_
  conv=>whnf
  refine Get.mk _ rfl ?_
  conv=>whnf
  exact hQ rfl vh _ _ (.inl ⟨rfl,rfl⟩) fun _ _=>rfl
 ·refine aC.round ?_
  conv=>whnf
  refine Get.mk (_,_,_,_) hn ?_
  conv=>whnf
  refine Get.mk _ rfl ?_
  conv=>whnf
  exact hQ rfl vh _ _ (.inr (.inl ⟨rfl,rfl⟩)) fun _ _=>rfl
 ·have dn:ba≠bm:=fun h=>d h.symm;refine I0 H bs bm ba n nm xs.length hN vn dn ty ta Q xs.length 0 rfl (Nat.zero_le _) vh xs rfl hsm hn h4 (fun h vh' f=>?_) (fun h vh' i' t a f=>?_)
  ·rw[List.drop_zero,List.take_zero] at h;exact hR h vh' fun c hc=>f c hc
  ·rw[List.drop_zero,List.take_zero] at h;rw[List.drop_zero,List.take_zero,List.nil_append] at a;exact hQ h vh' i' t (.inr (.inr ⟨ba,ta,by rw[List.length_map],a⟩)) fun c hc=>f c hc
theorem xD:∀(xs m ms:List aA),eK m xs=some ms->ms.length<=m.length+xs.length
 |[],m,ms,h=>by simp only[eK,Option.some.injEq] at h;subst h;simp
 |a::l,m,ms,h=>by
  simp only[eK] at h;split at h
  ·split at h
   ·cases h
   ·split at h
    ·cases h
    ·have:=xD l _ _ h;simp only[List.length_append,List.length_cons,List.length_nil] at this ⊢;omega
  ·have:=xD l _ _ h;simp only[List.length_cons];omega
theorem AH{lv:List (List aA)}{n:Nd}(h:dT n.p n.l=false\/n.v≠[]):eQ lv n=(false,lv):=by simp only[eQ,if_pos h]
theorem FB{lv:List (List aA)}{n:Nd}(h:¬(dT n.p n.l=false\/n.v≠[]))(h2:gD [] n.s=false):eQ lv n=(false,lv):=by simp only[eQ,if_neg h,if_pos h2]
theorem FC{lv:List (List aA)}{n:Nd}(h:¬(dT n.p n.l=false\/n.v≠[]))(h2:gD [] n.s=true)(h3:eK [] (n.s.map bB)=none):eQ lv n=(false,lv):=by simp only[eQ,if_neg h,h2,Bool.true_eq_false,if_false,h3]
theorem FD{lv:List (List aA)}{n:Nd}(h:¬(dT n.p n.l=false\/n.v≠[]))(h2:gD [] n.s=true){ms:List aA}(h3:eK [] (n.s.map bB)=some ms):eQ lv n=((bQ (lv++[ms]) {n with s:=n.s.map bB}).2&&decide ((bQ (lv++[ms]) {n with s:=n.s.map bB}).1.u=n.u)&&decide ((bQ (lv++[ms]) {n with s:=n.s.map bB}).1.s.map cE=n.s.map cE),lv++[ms]):=by simp only[eQ,if_neg h,h2,Bool.true_eq_false,if_false,h3]
theorem aF8(lv:List (List aA))(n:Nd):(bQ lv n).1.s.length=n.s.length:=by
 unfold bQ;split
 ·rfl
 ·exact oU _ _
theorem gA{vh vh':VH}{b:Nat}{lv:List (List aA)}(h:Sc vh b lv)(e:vh' b=vh b):Sc vh' b lv:=by obtain⟨ty,h⟩:=h;exact⟨ty,e.trans h⟩
theorem _root_.Go.VL.SlR.at{α:Type}{enc:α->List V}{es:Nat}{vh vh':VH}{v:V}{xs:List α}(A:SlR enc es vh v xs)(h:∀c,aR v c->vh' c=vh c):SlR enc es vh' v xs:=by
 rcases A with h1|h1|⟨b,ty,rfl,h4⟩
 ·exact .inl h1
 ·exact .inr (.inl h1)
 ·exact .inr (.inr ⟨b,ty,rfl,(h b rfl).trans h4⟩)
set_option maxHeartbeats 4000000 in
theorem aCD(H:XE X)(bs:Nat)(lv:List (List aA))(n:Nd)(sm:pS n)(vh:VH)(vn:Nat)(hs:Sc vh bs lv)(hbs:bs<vn)(hlv:lv.length<2^29)(hb:∀l∈lv,l.length<2^40):
  aE Tryz.prog X G yO [.ptr bs 0,.agg (aO n)] vh vn fun r vh' vn'=>vn<=vn'/\(∀c,c<vn->c≠bs->vh' c=vh c)/\r=.bool (eQ lv n).1/\Sc vh' bs (eQ lv n).2:=by
 apply aED.run H.element
 conv=>whnf
 refine (Q3 H.toXN H.qname H.named n.p n.l sm.p sm.l vh vn).mono fun v vh' vn' he=>?_;obtain⟨e1,e2,e3⟩:=he;rw[e1,e2,e3];clear e1 e2 e3
 conv=>whnf
 refine aB.mk (fun h1=>?_) (fun h1=>?_)
 ·have h1':dT n.p n.l=false:=by simpa using h1
  conv=>whnf
  refine Get.mk vh (fun _ _ h=>h) ⟨Nat.le_refl _,fun _ _ _=>rfl,?_⟩;rw[AH (.inl h1')];exact⟨rfl,hs⟩
 ·have h1':dT n.p n.l=true:=by simpa using h1
  conv=>whnf
  refine aB.mk (fun h2=>?_) (fun h2=>?_)
  ·have h2':n.v≠[]:=by simpa using h2
   conv=>whnf
   refine Get.mk vh (fun _ _ h=>h) ⟨Nat.le_refl _,fun _ _ _=>rfl,?_⟩;rw[AH (.inr h2')];exact⟨rfl,hs⟩
  ·have h2':¬(dT n.p n.l=false\/n.v≠[]):=by rw[h1'];simpa using h2
   conv=>whnf
   refine Get.mk (_,_,_,_) aK ?_
   conv=>whnf
   repeat (refine Owe.mk (by decide) ?_;conv=>whnf)
   refine aQ.fresh (enc:=encA) (xs:=n.s) (lo:=vn+1) rfl (Nat.le_refl _) ⟨?_,?_⟩ fun v1 vh1 n1 A1 g1 f1=>?_
   ·have:=sm.s;omega
   ·have:=sm.s;show _<9223372036854775808;omega
   have hm1:vh1 vn=some (.cells (cD n (.sl 4 (n.s.map encA) none)) cS 0 false):=(f1 vn (by omega)).trans aK
   have hf1:∀c,c<vn->vh1 c=vh c:=fun c hc=>(f1 c (by omega)).trans ((aG (by omega)).trans (aG (by omega)))
   clear f1;have hv1:∀c,aR v1 c->vn<c/\c<n1:=fun c hc=>by
    rcases A1 with⟨rfl|rfl,_⟩|⟨b,hb1,hb2,rfl,_⟩
    ·cases hc
    ·cases hc
    ·obtain rfl:c=b:=hc;exact⟨by omega,hb2⟩
   obtain⟨w,hw⟩:∃w,w=v1:=⟨_,rfl⟩;rcases id A1 with⟨rfl|rfl,hnil⟩|⟨ba,hb1,hb2,rfl,hb4⟩
   all_goals
    conv=>whnf
    refine Get.mk (_,_,_,_) hm1 ?_
    conv=>whnf
    refine⟨⟨by simp[cD],Nat.zero_le _⟩,?_⟩
    conv=>whnf
    generalize hvv:aI vh1 vn _=vh2;have f2:∀c,c≠vn->vh2 c=vh1 c:=fun c hc=>by rw[<-hvv];exact aG hc
    have A2:=A1.mono (vh':=vh2) (Nat.le_refl n1) (fun c h1 _ _=>f2 c (by omega))
    have dvn:=fun h=>Nat.lt_irrefl _ (hv1 vn h).1;have dbs:=fun h=>Nat.lt_asymm hbs (hv1 bs h).1;have hm2:vh2 vn=some (.cells (cD n w) cS 0 false):=by rw[hw,<-hvv];exact aK
    rw[hw] at hm2;refine UW H bs vn n n _ n.s sm.s sm.a vh2 n1 cS hm2 A2.r dvn _ (fun h3 vh3 f3=>?_) (fun h3 vh3 i' t a3 f3=>?_)
    ·conv=>whnf
     refine Get.mk vh3 (fun _ _ h=>h) ⟨(by omega:vn<=n1),fun c hc hcb=>(f3 c fun h=>by have:=hv1 c h;omega).trans ((f2 c (by omega)).trans (hf1 c hc)),?_⟩
     rw[FB h2' h3];exact⟨rfl,gA hs ((f3 bs dbs).trans ((f2 bs (by omega)).trans (hf1 bs hbs)))⟩
    ·have hm3:=(f3 vn dvn).trans hm2;have s3:=gA hs ((f3 bs dbs).trans ((f2 bs (by omega)).trans (hf1 bs hbs)))
     have hf3:∀c,c<vn->vh3 c=vh c:=fun c hc=>(f3 c fun h=>by have:=hv1 c h;omega).trans ((f2 c (by omega)).trans (hf1 c hc))
     conv=>whnf
     refine Get.mk (_,_,_,_) hm3 ?_
     conv=>whnf
     refine Get.mk _ rfl ?_
     conv=>whnf
     refine (C8 H.declares H.push bs lv _ (n.s.map bB) vh3 n1 s3 (by omega) (by omega) a3 (fun c hc=>(hv1 c hc).2) (by rw[List.length_map];exact sm.s)).mono fun r vh4 n4 he=>?_
     obtain⟨g4,f4,he⟩:=he;cases hp:eK [] (n.s.map bB) with
     |none=>
      rw[hp] at he;obtain⟨rfl,s4⟩:=he
      conv=>whnf
      refine Get.mk vh4 (fun _ _ h=>h) ⟨(by omega:vn<=n4),fun c hc hcb=>(f4 c (by omega) hcb).trans (hf3 c hc),?_⟩
      rw[FC h2' h3 hp];exact⟨rfl,s4⟩
     |some ms=>
      rw[hp] at he;obtain⟨rfl,s4⟩:=he;have hlms:ms.length<2^40:=by have:=xD _ _ _ hp;have h1:=sm.s;simp only[List.length_nil,List.length_map] at this;omega
      have hm4:=(f4 vn (by omega) (by omega)).trans hm3
      have a4:=a3.at fun c hc=>f4 c (hv1 c hc).2 (fun h=>dbs (h▸hc))
      conv=>whnf
      refine (CP H.declares H.uri H.names bs vn (lv++[ms]) (by
       intro l hl;rcases List.mem_append.1 hl with h|h
       ·exact hb l h
       ·rw[List.mem_singleton.1 h];exact hlms) (by rw[List.length_append,List.length_singleton];omega) {n with s:=n.s.map bB} _ (by show (n.s.map bB).length<_;rw[List.length_map];exact sm.s) vh4 n4 (by omega) dbs dvn s4 ⟨cS,hm4⟩ a4).mono fun r vh5 n5 he=>?_
      obtain⟨e1,e2,⟨ty5,hm5⟩,a5,f5⟩:=he;rw[e1,e2];have hf5:∀c,c<vn->c≠bs->vh5 c=vh c:=fun c hc hcb=>(f5 c (by omega) fun h=>by have:=hv1 c h;omega).trans ((f4 c (by omega) hcb).trans (hf3 c hc))
      have s5:Sc vh5 bs (lv++[ms]):=gA s4 (f5 bs (by omega) dbs)
      rw[FD h2' h3 hp];clear f5 f4 f3 s4 s3 a4 a3 hm4 hm3 hm2 A2
      conv=>whnf
      refine aB.mk (fun h6=>?_) (fun h6=>?_)
      ·conv=>whnf
       refine Get.mk (_,_,_,_) hm5 ?_
       conv=>whnf
       refine Get.mk _ rfl ?_
       conv=>whnf
       refine aB.mk (fun h7=>?_) (fun h7=>?_)
       ·conv=>whnf
        refine Get.mk (_,_,_,_) hm5 ?_
        conv=>whnf
        refine Get.mk _ rfl ?_
        conv=>whnf
        refine (WZ H.same _ _ n.s ?_ vh5 _ a5).mono fun r vh6 n6 he=>?_
        ·show (bQ (lv++[ms]) {n with s:=n.s.map bB}).1.s.length<_;rw[aF8];show (n.s.map bB).length<_;rw[List.length_map];exact sm.s
        obtain⟨e1,e2,b,e3,e4⟩:=he;rw[e1,e2,e3]
        conv=>whnf
        refine Get.mk vh5 (fun _ _ h=>h) ⟨(by omega:vn<=n4),hf5,?_,s5⟩
        have h7':=of_decide_eq_true h7;have eb:b=decide ((bQ (lv++[ms]) {n with s:=n.s.map bB}).1.s.map cE=n.s.map cE):=by rw[Bool.eq_iff_iff,e4,decide_eq_true_iff,oB]
        rw[eb];simp[h6,h7']
       ·have h7':=of_decide_eq_false h7
        conv=>whnf
        refine Get.mk vh5 (fun _ _ h=>h) ⟨(by omega:vn<=n4),hf5,?_,s5⟩
        simp[h6,h7']
      ·conv=>whnf
       refine Get.mk vh5 (fun _ _ h=>h) ⟨(by omega:vn<=n4),hf5,?_,s5⟩
       simp[h6]
end
section
attribute [local irreducible] aM
variable {X : Ovr} {G : Gt}
def SlF{α:Type}(enc:α->List V)(es:Nat)(v:V)(xs:List α):Prop:=(xs=[]/\v=.nils)\/∃c,v=.sl es (xs.map enc) c
theorem J4(c1 c2:Option Nat)(xs ys:List aA)(hl:xs.length=ys.length)(hN:xs.length<2^30)(vh:VH)(vn:Nat)(Q:FQ):∀(m i:Nat),xs.length-i=m->i<=xs.length->
  (¬xs.drop i=ys.drop i->Q .ret [(4,.bool false)] vh vn)->
  (xs.drop i=ys.drop i->∀i' t,Q (.exit 0) [(0,.sl 4 (xs.map encA) c1),(1,.sl 4 (ys.map encA) c2),(5,.int .i64 i'),(14,.bool t)] vh vn)->
  aC Tryz.prog X G (.loop EL) [(0,.sl 4 (xs.map encA) c1),(1,.sl 4 (ys.map encA) c2),(5,.int .i64 (i:Int))] vh vn Q
 |m,i,hm,hi,hR,hQ=>by
  refine aC.round ?_
  conv=>whnf
  refine aB.mk (fun h1=>?_) (fun h1=>?_)
  ·have hlt:i<xs.length:=by simpa using h1
   have hly:i<ys.length:=by omega
   have hd:xs.drop i=xs[i]::xs.drop (i+1):=(List.getElem_cons_drop hlt).symm;have hd2:ys.drop i=ys[i]::ys.drop (i+1):=(List.getElem_cons_drop hly).symm;rw[hd,hd2] at hR hQ;have e:wr .i64 ((i:Int)+1)=((i+1:Nat):Int):=by rw[aF]<;>omega
   conv=>whnf
   refine Get.mk (i,encA xs[i]) ⟨rfl,by simp[hlt]⟩ ?_
   conv=>whnf
   refine Get.mk (i,encA ys[i]) ⟨rfl,by simp[hly]⟩ ?_
   conv=>whnf
   refine aB.mk (fun h2=>?_) (fun h2=>?_)
   ·have h2:(!decide ([xs[i].p,xs[i].l,xs[i].u,xs[i].v]=[ys[i].p,ys[i].l,ys[i].u,ys[i].v]))=true:=h2
    conv=>whnf
    refine hR fun h=>?_;rw[(List.cons.inj h).1] at h2;simp at h2
   ·have h2:(!decide ([xs[i].p,xs[i].l,xs[i].u,xs[i].v]=[ys[i].p,ys[i].l,ys[i].u,ys[i].v]))=false:=h2;have h2':xs[i]=ys[i]:=DZ (by simpa using h2)
    conv=>whnf
    rw[e];refine J4 c1 c2 xs ys hl hN vh vn Q (m-1) (i+1) (by omega) (by omega) (fun h=>hR fun h3=>h (List.cons.inj h3).2) (fun h=>hQ (by rw[h,h2']))
  ·have hlt:i=xs.length:=by simp at h1;omega
   have e1:xs.drop i=ys.drop i:=by rw[hlt,List.drop_length,hl,List.drop_length]
   conv=>whnf
   exact hQ e1 _ _
termination_by m=>m
decreasing_by all_goals omega
theorem WY(hX:X jE=none)(v1 v2:V)(xs ys:List aA)(hN:xs.length<2^30)(h1:SlF encA 4 v1 xs)(h2:SlF encA 4 v2 ys)(vh:VH)(vn:Nat):
  aE Tryz.prog X G jE [v1,v2] vh vn fun r vh' vn'=>vh'=vh/\vn'=vn/\r=.bool (decide (xs.map cE=ys.map cE)):=by
 apply QG.run hX;have tt:decide (([]:List aA).map cE=([]:List aA).map cE)=true:=rfl;have n1:∀zs:List aA,zs≠[]->decide (([]:List aA).map cE=zs.map cE)=false:=fun zs hz=>by cases zs with|nil=>exact (hz rfl).elim|cons _ _=>simp
 have n2:∀zs:List aA,zs≠[]->decide (zs.map cE=([]:List aA).map cE)=false:=fun zs hz=>by cases zs with|nil=>exact (hz rfl).elim|cons _ _=>simp
 rcases h1 with⟨rfl,rfl⟩|⟨c1,rfl⟩
 ·rcases h2 with⟨rfl,rfl⟩|⟨c2,rfl⟩
  ·conv=>whnf
   refine aC.round ?_
   conv=>whnf
   exact Get.mk _ (fun _ _ h=>h) ⟨rfl,rfl,by rw[tt]⟩
  ·conv=>whnf
   refine aB.mk (fun h1=>?_) (fun h1=>?_)
   ·have hne:ys≠[]:=fun h=>by subst h;simp at h1
    conv=>whnf
    exact Get.mk _ (fun _ _ h=>h) ⟨rfl,rfl,by rw[n1 ys hne]⟩
   ·have hy:ys=[]:=by first|simpa using h1|exact List.eq_nil_of_length_eq_zero (by simp at h1;omega)
    subst hy
    conv=>whnf
    refine aC.round ?_
    conv=>whnf
    exact Get.mk _ (fun _ _ h=>h) ⟨rfl,rfl,by rw[tt]⟩
 ·rcases h2 with⟨rfl,rfl⟩|⟨c2,rfl⟩
  ·conv=>whnf
   refine aB.mk (fun h1=>?_) (fun h1=>?_)
   ·have hne:xs≠[]:=fun h=>by subst h;simp at h1
    conv=>whnf
    exact Get.mk _ (fun _ _ h=>h) ⟨rfl,rfl,by rw[n2 xs hne]⟩
   ·have hy:xs=[]:=by first|simpa using h1|exact List.eq_nil_of_length_eq_zero (by simp at h1;omega)
    subst hy
    conv=>whnf
    refine aC.round ?_
    conv=>whnf
    exact Get.mk _ (fun _ _ h=>h) ⟨rfl,rfl,by rw[tt]⟩
  ·conv=>whnf
   refine aB.mk (fun h1=>?_) (fun h1=>?_)
   ·have hne:¬xs.map cE=ys.map cE:=fun h=>by rw[oB] at h;subst h;simp at h1
    conv=>whnf
    exact Get.mk _ (fun _ _ h=>h) ⟨rfl,rfl,by simp only[hne,decide_false]⟩
   ·have hl:xs.length=ys.length:=by simp at h1;omega
    conv=>whnf
    refine J4 c1 c2 xs ys hl hN vh vn _ xs.length 0 rfl (Nat.zero_le _) (fun h=>?_) (fun h i' t=>?_)
    ·rw[List.drop_zero,List.drop_zero] at h
     conv=>whnf
     exact Get.mk _ (fun _ _ h=>h) ⟨rfl,rfl,by rw[decide_eq_false (fun h2=>h (oB.1 h2))]⟩
    ·rw[List.drop_zero,List.drop_zero] at h
     conv=>whnf
     exact Get.mk _ (fun _ _ h=>h) ⟨rfl,rfl,by rw[decide_eq_true (oB.2 h)]⟩
def gZ(a b:Nd):Bool:=(((((decide (a.k=b.k)&&decide (a.d=b.d))&&decide (a.p=b.p))&&decide (a.l=b.l))&&decide (a.u=b.u))&&decide (a.v=b.v))&&decide (a.s.map cE=b.s.map cE)
theorem tP{a b:Nd}:gZ a b=true↔a=b:=by obtain⟨k,d,p,l,u,v,s⟩:=a;obtain⟨k',d',p',l',u',v',s'⟩:=b;simp only[gZ,Bool.and_eq_true,decide_eq_true_iff,oB,Nd.mk.injEq];simp only[and_assoc]
theorem J5(hX:X jE=none)(hX':X l5=none)(a b:Nd)(va vb:V)(ha:SlF encA 4 va a.s)(hb:SlF encA 4 vb b.s)(hN:a.s.length<2^30)(vh:VH)(vn:Nat):
  aE Tryz.prog X G l5 [.agg (cD a va),.agg (cD b vb)] vh vn fun r vh' vn'=>vh'=vh/\vn'=vn/\r=.bool (gZ a b):=by
 apply aEC.run hX';have key:=fun vh vn=>WY (G:=G) hX va vb a.s b.s hN ha hb vh vn;rcases ha with⟨ha,rfl⟩|⟨c1,rfl⟩<;>rcases hb with⟨hb,rfl⟩|⟨c2,rfl⟩
 all_goals
  conv=>whnf
  repeat' ((first|refine aB.mk (fun _=>?_) (fun _=>?_)|(refine (key _ _).mono (fun v vh' vn' he=>?_);obtain⟨e1,e2,e3⟩:=he;rw[e1,e2,e3]))<;>(conv=>whnf))
  all_goals
   refine Get.mk _ (fun _ _ h=>h) ⟨rfl,rfl,?_⟩;clear key
   simp_all[gZ]
end
section
attribute [local irreducible] aM
variable {X : Ovr} {G : Gt}
structure XM(X:Ovr):Prop extends XE X where
 samend:X l5=none
 may:X uQ=none
def fL(prev n:Nd):Bool:=((decide (n.d<1)||decide (201<n.d))||decide (prev.d+1<n.d))||((decide (prev.d<n.d)&&!decide (prev.k=1))&&!decide (prev.k=2))
def gM(prev n:Nd)(lv:List (List aA))(roots:Nat):Option (List (List aA)×Nat):=
 if n.k=2 then (if (eQ (lv.take (n.d.toNat-1)) n).1=true then some ((eQ (lv.take (n.d.toNat-1)) n).2,if n.d=1 then roots+1 else roots) else none)
 else if kH n=false then none
 else if n.k=3/\(n.d=1\/prev.k=3/\prev.d=n.d) then none
 else some (lv.take (n.d.toNat-1),roots)
def gJ:Nd->List (List aA)->Nat->List Nd->Option Nat
 |_,_,roots,[]=>some roots
 |prev,lv,roots,n::l=>if fL prev n=true then none else match gM prev n lv roots with
  |none=>none
  |some s=>gJ n s.1 s.2 l
def gN:Nd:=⟨1,0,[],[],[],[],[]⟩
def gI(t:List Nd):Bool:=match t with
 |[]=>false
 |n::l=>decide ((n::l).length<=1048576)&&gZ n gN&&decide (gJ n [] 0 l=some 1)
theorem JH(H:XM X)(bs:Nat)(ts:List Nd)(c:Option Nat)(r i:Int)(n:Nd)(hd:1<=n.d)(vn:Nat)(Q:FQ):∀(m:Nat) (lv:List (List aA)) (vh:VH),lv.length=m->lv.length<2^40->Sc vh bs lv->
  (∀vh' b,Sc vh' bs (lv.take (n.d.toNat-1))->(∀c,c≠bs->vh' c=vh c)->Q (.exit 2) [(0,.sl 7 (ts.map aO) c),(3,.ptr bs 0),(4,.int .i64 r),(5,.int .i64 i),(6,.bx (aO n)),(91,.bool b)] vh' vn)->
  aC Tryz.prog X G (.loop MR) [(0,.sl 7 (ts.map aO) c),(3,.ptr bs 0),(4,.int .i64 r),(5,.int .i64 i),(6,.bx (aO n))] vh vn Q
 |m,lv,vh,hm,hl,hs,hQ=>by
  refine aC.round ?_;obtain⟨ty,hs4⟩:=id hs
  conv=>whnf
  refine Get.mk (_,_,_,_) hs4 ?_
  conv=>whnf
  refine Get.mk _ rfl ?_
  conv=>whnf
  refine aB.mk (fun h1=>?_) (fun h1=>?_)
  ·have h1':n.d<=(lv.length:Int):=by simpa using h1
   conv=>whnf
   refine (CY H.pop bs lv vh vn hs hl).mono fun v vh' vn' he=>?_;obtain⟨e1,f1,s1,b1,e2⟩:=he;rw[e1,e2]
   conv=>whnf
   refine JH H bs ts c r i n hd vn Q (m-1) lv.dropLast vh' (by rw[List.length_dropLast];omega) (by rw[List.length_dropLast];omega) s1 fun vh2 b s2 f2=>hQ vh2 b ?_ fun c hc=>(f2 c hc).trans (f1 c hc)
   have e:lv.dropLast.take (n.d.toNat-1)=lv.take (n.d.toNat-1):=by
    rw[List.dropLast_eq_take,List.take_take]
    congr 1
    omega
   rw[e] at s2;exact s2
  ·have h1':¬n.d<=(lv.length:Int):=by simpa using h1
   have e:lv.take (n.d.toNat-1)=lv:=List.take_of_length_le (by omega)
   rw[e] at hQ
   conv=>whnf
   exact hQ vh _ hs fun _ _=>rfl
termination_by m=>m
decreasing_by all_goals omega
theorem V1(H:XM X)(bs:Nat)(ts:List Nd)(c:Option Nat)(hts:ts.length<2^30)(i:Nat)(h0:0<i)(hi:i<ts.length)(r:Nat)(hr:r<2^31)(n prev:Nd)(hp:ts[i-1]? =some prev)(sm:pS n)(hd:1<=n.d)(lv:List (List aA))(hlv:lv.length<2^29)(hb:∀l∈lv,l.length<2^40)(vh:VH)(vn:Nat)(hs:Sc vh bs lv)(hbs:bs<vn)(Q:FQ)
  (hR:gM prev n lv r=none->∀vh' vn',vn<=vn'->(∀c,c<vn->c≠bs->vh' c=vh c)->Q .ret [(2,.bool false)] vh' vn')
  (hQ:∀lv' r',gM prev n lv r=some (lv',r')->∀vh' vn',vn<=vn'->(∀c,c<vn->c≠bs->vh' c=vh c)->Sc vh' bs lv'->∀k,k=.exit 1\/k=.norm->Q k [(0,.sl 7 (ts.map aO) c),(3,.ptr bs 0),(4,.int .i64 (r':Int)),(5,.int .i64 (i:Int))] vh' vn'):
  aC Tryz.prog X G (.cut MS) [(0,.sl 7 (ts.map aO) c),(3,.ptr bs 0),(4,.int .i64 (r:Int)),(5,.int .i64 (i:Int)),(6,.bx (aO n))] vh vn Q:=by
 refine aC.cut ?_
 conv=>whnf
 refine JH H bs ts c r i n hd vn _ lv.length lv vh rfl (by omega) hs fun vh1 b s1 f1=>?_
 conv=>whnf
 refine aB.mk (fun h1=>?_) (fun h1=>?_)
 ·have h1':n.k=2:=by simpa using h1
  conv=>whnf
  refine (aCD H.toXE bs (lv.take (n.d.toNat-1)) n sm vh1 vn s1 hbs (by rw[List.length_take];omega) (fun l hl=>hb l (List.mem_of_mem_take hl))).mono fun v vh2 n2 he=>?_
  obtain⟨g2,f2,e2,s2⟩:=he;have fr:∀c,c<vn->c≠bs->vh2 c=vh c:=fun c hc hcb=>(f2 c hc hcb).trans (f1 c hcb);rw[e2]
  conv=>whnf
  refine aB.mk (fun h2=>?_) (fun h2=>?_)
  ·have h2':(eQ (lv.take (n.d.toNat-1)) n).1=false:=by simpa using h2
   conv=>whnf
   exact hR (by simp[gM,h1',h2']) _ _ g2 fr
  ·have h2':(eQ (lv.take (n.d.toNat-1)) n).1=true:=by simpa using h2
   conv=>whnf
   refine aB.mk (fun h3=>?_) (fun h3=>?_)
   ·have h3':n.d=1:=by simpa using h3
    have e:wr .i64 ((r:Int)+1)=((r+1:Nat):Int):=by rw[aF]<;>omega
    conv=>whnf
    rw[e];exact hQ _ _ (by simp only[gM,h1',h2',if_true,if_pos h3']) _ _ g2 fr s2 _ (.inl rfl)
   ·have h3':¬n.d=1:=by simpa using h3
    conv=>whnf
    exact hQ _ _ (by simp only[gM,h1',h2',if_true,if_neg h3']) _ _ g2 fr s2 _ (.inl rfl)
 ·have h1':¬n.k=2:=by simpa using h1
  have hprev:wr .i64 ((i:Int)-1)=((i-1:Nat):Int)/\(ts.map aO)[i-1]? =some (aO prev):=⟨by rw[aF]<;>omega,by rw[List.getElem?_map,hp];rfl⟩
  conv=>whnf
  refine (aGi H.toXP n sm.v (Nat.lt_trans sm.l (by decide)) sm.b vh1 vn).mono fun v vh2 n2 he=>?_
  obtain⟨g2,f2,e2⟩:=he;have fr:∀c,c<vn->c≠bs->vh2 c=vh c:=fun c hc hcb=>(f2 c hc).trans (f1 c hcb);have s2:=gA s1 (f2 bs hbs);rw[e2]
  conv=>whnf
  repeat' ((first|refine aB.mk (fun _=>?_) (fun _=>?_)|refine Get.mk (i-1,aO prev) hprev ?_)<;>(conv=>whnf))
  all_goals first
   |exact hR (by clear hR hQ fr f1 f2 s2 hs s1 hb sm hprev;simp_all[gM];done) _ _ g2 fr
   |exact hQ _ _ (by clear hR hQ fr f1 f2 s2 hs s1 hb sm hprev;simp_all[gM];done) _ _ g2 fr s2 _ (.inr rfl)
end
section
attribute [local irreducible] aM
variable {X : Ovr} {G : Gt}
theorem aCC(lv:List (List aA))(n:Nd):(eQ lv n).2=lv\/∃ms,eK [] (n.s.map bB)=some ms/\(eQ lv n).2=lv++[ms]:=by
 by_cases h:dT n.p n.l=false\/n.v≠[]
 ·exact .inl (by rw[AH h])
 ·by_cases h2:gD [] n.s=true
  ·cases h3:eK [] (n.s.map bB) with
   |none=>exact .inl (by rw[FC h h2 h3])
   |some ms=>exact .inr ⟨ms,rfl,by rw[FD h h2 h3]⟩
  ·exact .inl (by rw[FB h (by simpa using h2)])
theorem aJT{prev n:Nd}{lv lv':List (List aA)}{r r':Nat}(h:gM prev n lv r=some (lv',r'))(hd:n.d<=201)(sm:pS n)(hb:∀l∈lv,l.length<2^40):lv'.length<=201/\(∀l∈lv',l.length<2^40)/\r'<=r+1:=by
 have h1:(lv.take (n.d.toNat-1)).length<=200:=by rw[List.length_take];omega
 have h2:∀l∈lv.take (n.d.toNat-1),l.length<2^40:=fun l hl=>hb l (List.mem_of_mem_take hl);unfold gM at h;split at h
 ·split at h
  ·simp only[Option.some.injEq,Prod.mk.injEq] at h;obtain⟨rfl,rfl⟩:=h;have h4:(if n.d=1 then r+1 else r)<=r+1:=by split<;>omega
   rcases aCC (lv.take (n.d.toNat-1)) n with e|⟨ms,e1,e⟩
   ·rw[e];exact⟨by omega,h2,h4⟩
   ·rw[e];refine⟨by rw[List.length_append,List.length_singleton];omega,fun l hl=>?_,h4⟩
    rcases List.mem_append.1 hl with h5|h5
    ·exact h2 l h5
    ·rw[List.mem_singleton.1 h5];have:=xD _ _ _ e1;have h6:=sm.s;simp only[List.length_nil,List.length_map] at this;omega
  ·cases h
 ·split at h
  ·cases h
  ·split at h
   ·cases h
   ·simp only[Option.some.injEq,Prod.mk.injEq] at h;obtain⟨rfl,rfl⟩:=h;exact⟨by omega,h2,by omega⟩
theorem JG(H:XM X)(bs:Nat)(ts:List Nd)(c:Option Nat)(hts:ts.length<2^30)(hsm:∀n∈ts,pS n)(Q:FQ):∀(m i:Nat),ts.length-i=m->0<i->i<=ts.length->∀(prev:Nd) (lv:List (List aA)) (r:Nat) (vh:VH) (vn:Nat),ts[i-1]? =some prev-> -1<=prev.d->prev.d<=201->lv.length<=201->(∀l∈lv,l.length<2^40)->r<=i->Sc vh bs lv->bs<vn->
  (gJ prev lv r (ts.drop i)=none->∀vh' vn',vn<=vn'->(∀c,c<vn->c≠bs->vh' c=vh c)->Q .ret [(2,.bool false)] vh' vn')->
  (∀k,gJ prev lv r (ts.drop i)=some k->∀vh' vn' i' b,vn<=vn'->(∀c,c<vn->c≠bs->vh' c=vh c)->Q (.exit 0) [(0,.sl 7 (ts.map aO) c),(3,.ptr bs 0),(4,.int .i64 (k:Int)),(5,.int .i64 i'),(28,.bool b)] vh' vn')->
  aC Tryz.prog X G (.loop MQ) [(0,.sl 7 (ts.map aO) c),(3,.ptr bs 0),(4,.int .i64 (r:Int)),(5,.int .i64 (i:Int))] vh vn Q
 |m,i,hm,h0,hi,prev,lv,r,vh,vn,hp,hd0,hd1,hlv,hb,hr,hs,hbs,hR,hQ=>by
  refine aC.round ?_
  conv=>whnf
  refine aB.mk (fun h1=>?_) (fun h1=>?_)
  ·have hlt:i<ts.length:=by simpa using h1
   have hd:ts.drop i=ts[i]::ts.drop (i+1):=(List.getElem_cons_drop hlt).symm;have hnx:ts[i+1-1]? =some ts[i]:=by simp[hlt]
   have sm:pS ts[i]:=hsm _ (List.getElem_mem hlt);rw[hd] at hR hQ;simp only[gJ] at hR hQ;have e:wr .i64 ((i:Int)+1)=((i+1:Nat):Int):=by rw[aF]<;>omega
   have ew:wr .i64 (prev.d+1)=prev.d+1:=by rw[aF]<;>omega
   have hprev:wr .i64 ((i:Int)-1)=((i-1:Nat):Int)/\(ts.map aO)[i-1]? =some (aO prev):=⟨by rw[aF]<;>omega,by rw[List.getElem?_map,hp];rfl⟩
   have hBad:fL prev ts[i]=true->Q .ret [(2,.bool false)] vh vn:=fun h=>hR (by rw[if_pos h]) vh vn (Nat.le_refl _) fun _ _ _=>rfl
   conv=>whnf
   refine Get.mk (i,aO ts[i]) ⟨rfl,by simp[hlt]⟩ ?_
   conv=>whnf
   repeat' ((first|refine aB.mk (fun _=>?_) (fun _=>?_)|refine Get.mk (i-1,aO prev) hprev ?_)<;>(conv=>whnf))
   all_goals first
    |exact hBad (by clear hBad hR hQ hs hb hprev hsm sm hd hnx;simp_all[fL];done)
    |skip
   all_goals
    have hg:fL prev ts[i]=false:=by clear hBad hR hQ hs hb hprev hsm sm hd hnx;first|(simp_all[fL];done)|(simp_all[fL];intros;omega)
    rw[hg] at hR hQ;simp only[Bool.false_eq_true,if_false] at hR hQ;have hgd:1<=ts[i].d/\ts[i].d<=201:=by clear hBad hR hQ hs hb hprev hsm sm hd hnx;simp[fL] at hg;omega
    refine V1 H bs ts c hts i h0 hlt r (by omega) ts[i] prev hp sm hgd.1 lv (by omega) hb vh vn hs hbs _ (fun h2 vh2 n2 g2 f2=>?_) (fun lv' r' h2 vh2 n2 g2 f2 s2 k hk=>?_)
    ·rw[h2] at hR;exact hR rfl _ _ g2 f2
    ·rw[h2] at hR hQ;obtain⟨q1,q2,q3⟩:=aJT h2 hgd.2 sm hb;have nxt:=JG H bs ts c hts hsm Q (m-1) (i+1) (by omega) (by omega) (by omega) ts[i] lv' r' vh2 n2 hnx (by omega) hgd.2 q1 q2 (by omega) s2 (by omega) (fun h vh3 n3 g3 f3=>hR h vh3 n3 (by omega) fun c hc hcb=>(f3 c (by omega) hcb).trans (f2 c hc hcb)) (fun k h vh3 n3 i' b g3 f3=>hQ k h vh3 n3 i' b (by omega) fun c hc hcb=>(f3 c (by omega) hcb).trans (f2 c hc hcb))
     rcases hk with rfl|rfl
     ·conv=>whnf
      rw[e];exact nxt
     ·conv=>whnf
      rw[e];exact nxt
  ·have hlt:i=ts.length:=by simp at h1;omega
   rw[hlt,List.drop_length] at hQ
   conv=>whnf
   exact hQ r rfl vh vn _ _ (Nat.le_refl _) fun _ _ _=>rfl
termination_by m=>m
decreasing_by all_goals omega
theorem V2(H:XM X)(ts:List Nd)(c:Option Nat)(hts:ts.length<2^30)(hsm:∀n∈ts,pS n)(vh:VH)(vn:Nat):
  aE Tryz.prog X G uQ [.sl 7 (ts.map aO) c] vh vn fun v vh' vn'=>vn<=vn'/\(∀c,c<vn->vh' c=vh c)/\v=.bool (gI ts):=by
 apply aDz.run H.may
 conv=>whnf
 refine aB.mk (fun h1=>?_) (fun h1=>?_)
 ·have h1':ts=[]:=List.eq_nil_of_length_eq_zero (by simp at h1;omega)
  subst h1'
  conv=>whnf
  exact Get.mk _ (fun _ _ h=>h) ⟨Nat.le_refl _,fun _ _=>rfl,rfl⟩
 ·obtain⟨n,l,rfl⟩:∃n l,ts=n::l:=by
   cases ts with
   |nil=>simp at h1
   |cons n l=>exact⟨n,l,rfl⟩
  conv=>whnf
  refine aB.mk (fun h2=>?_) (fun h2=>?_)
  ·have h2':¬(n::l).length<=1048576:=by simp at h2 ⊢;omega
   conv=>whnf
   refine Get.mk _ (fun _ _ h=>h) ⟨Nat.le_refl _,fun _ _=>rfl,?_⟩;simp only[gI,decide_eq_false h2',Bool.false_and]
  ·have h2':(n::l).length<=1048576:=by simp at h2 ⊢;omega
   conv=>whnf
   refine Get.mk (0,aO n) ⟨rfl,rfl⟩ ?_
   conv=>whnf
   refine (J5 H.same H.samend n gN (.sl 4 (n.s.map encA) none) .nils (.inr ⟨_,rfl⟩) (.inl ⟨rfl,rfl⟩) (hsm n (.head _)).s vh vn).mono fun v vh' vn' he=>?_;obtain⟨e1,e2,e3⟩:=he;rw[e1,e2,e3];clear e1 e2 e3
   conv=>whnf
   refine aB.mk (fun h3=>?_) (fun h3=>?_)
   ·have h3':gZ n gN=false:=by simpa using h3
    conv=>whnf
    refine Get.mk _ (fun _ _ h=>h) ⟨Nat.le_refl _,fun _ _=>rfl,?_⟩;simp only[gI,h3',Bool.and_false,Bool.false_and]
   ·have h3':gZ n gN=true:=by simpa using h3
    have hz:=tP.1 h3';have hd0:n.d=0:=by rw[hz];rfl
    conv=>whnf
    refine JG H vn (n::l) c hts hsm _ l.length 1 (by simp) (by decide) (by simp) n [] 0 _ (vn+1) rfl (by omega) (by omega) (by decide) nofun (by decide) ⟨_,aK⟩ (by omega) (fun h4 vh4 n4 g4 f4=>?_) (fun k h4 vh4 n4 i' b g4 f4=>?_)
    ·conv=>whnf
     refine Get.mk _ (fun _ _ h=>h) ⟨(by omega:vn<=n4),fun c hc=>(f4 c (by omega) (by omega)).trans (aG (by omega)),?_⟩
     have h4':gJ n [] 0 l=none:=h4;simp only[gI,h4',h3',reduceCtorEq,decide_false,Bool.and_false]
    ·have h4':gJ n [] 0 l=some k:=h4
     conv=>whnf
     refine Get.mk _ (fun _ _ h=>h) ⟨(by omega:vn<=n4),fun c hc=>(f4 c (by omega) (by omega)).trans (aG (by omega)),?_⟩
     simp only[gI,h4',h3',decide_eq_true h2',Bool.true_and,Option.some.injEq]
     congr 1
     simp;omega
end
section
attribute [local irreducible] aM
variable {X : Ovr} {G : Gt}
theorem HU(hX:X rE=none)(a:aA)(vh:VH)(vn:Nat):
  aE Tryz.prog X G rE [.agg (encA a)] vh vn fun v vh' vn'=>vh'=vh/\vn'=vn/\v=.tup [.str (declares a).1,.bool (declares a).2]:=by
 apply aEU.run hX
 conv=>whnf
 repeat' ((first|refine aB.mk (fun _=>?_) (fun _=>?_))<;>(conv=>whnf))
 all_goals
  refine Get.mk vh (fun _ _ h=>h) ⟨rfl,rfl,?_⟩
  simp_all[declares]
def hZ(a:aA):Bool:=
 if a.p=[] then decide (a.v=gO)||decide (a.v=fE)
 else if decide (a.l=bH)||decide (a.v=fE) then true
 else if decide (a.l=dQ)||decide (a.v=gO) then !decide (a.l=dQ)||!decide (a.v=gO)
 else decide (a.v=[])
theorem UI(hX:X uX=none)(a:aA)(vh:VH)(vn:Nat):
  aE Tryz.prog X G uX [.agg (encA a)] vh vn fun v vh' vn'=>vh'=vh/\vn'=vn/\v=.bool (hZ a):=by
 apply aE3.run hX
 conv=>whnf
 repeat' ((first|refine aB.mk (fun _=>?_) (fun _=>?_))<;>(conv=>whnf))
 all_goals
  refine Get.mk vh (fun _ _ h=>h) ⟨rfl,rfl,?_⟩
  simp_all[hZ]
theorem SB(hX:X pP=none)(a b:aA)(vh:VH)(vn:Nat):
  aE Tryz.prog X G pP [.agg (encA b),.fp (encA a) 0] vh vn fun v vh' vn'=>vh'=vh/\vn'=vn/\v=.bool (bW a b):=by
 apply aE0.run hX
 conv=>whnf
 repeat' ((first|refine aB.mk (fun _=>?_) (fun _=>?_))<;>(conv=>whnf))
 all_goals
  refine Get.mk vh (fun _ _ h=>h) ⟨rfl,rfl,?_⟩
  simp_all[bW]
theorem aBz(hX:X rH=none)(a b:aA)(vh:VH)(vn:Nat):
  aE Tryz.prog X G rH [.agg (encA b),.fp (encA a) 0] vh vn fun v vh' vn'=>vh'=vh/\vn'=vn/\v=.bool (bW a b):=by
 apply aEm.run hX
 conv=>whnf
 repeat' ((first|refine aB.mk (fun _=>?_) (fun _=>?_))<;>(conv=>whnf))
 all_goals
  refine Get.mk vh (fun _ _ h=>h) ⟨rfl,rfl,?_⟩
  simp_all[bW]
def SlA(vh:VH)(v:V)(xs:List aA):Prop:=SlR encA 4 vh v xs\/∃c,v=.sl 4 (xs.map encA) c
theorem I7(p:aA->Bool)(g:FuncId)(cs:List V)(hg:∀b vh vn,aE Tryz.prog X G g (.agg (encA b)::cs) vh vn fun v vh' vn'=>vh'=vh/\vn'=vn/\v=.bool (p b))(bv:Nat)(tv:TypeId)(xs:List aA)(hN:xs.length<2^30)(vh:VH)(vn:Nat)(hb:vh bv=some (.cells (xs.map encA).flatten tv 0 false))(Q:FQ):∀(m i:Nat),xs.length-i=m->i<=xs.length->
  ((xs.drop i).any p=true->∀j:Nat,Q .ret [(4,.int .i64 (j:Int))] vh vn)->
  ((xs.drop i).any p=false->∀i' t,Q (.exit 0) [(0,.msl bv 0 xs.length 4 none),(1,.func g [] cs),(7,.int .i64 (xs.length:Int)),(8,.int .i64 i'),(9,.bool t)] vh vn)->
  aC Tryz.prog X G (.loop EW) [(0,.msl bv 0 xs.length 4 none),(1,.func g [] cs),(7,.int .i64 (xs.length:Int)),(8,.int .i64 (i:Int))] vh vn Q
 |m,i,hm,hi,hR,hQ=>by
  refine aC.round ?_
  conv=>whnf
  refine aB.mk (fun h1=>?_) (fun h1=>?_)
  ·have hlt:i<xs.length:=by simp at h1;omega
   have hd:xs.drop i=xs[i]::xs.drop (i+1):=(List.getElem_cons_drop hlt).symm;rw[hd,List.any_cons] at hR hQ;have e:wr .i64 ((i:Int)+1)=((i+1:Nat):Int):=by rw[aF]<;>omega
   conv=>whnf
   refine Get.mk i ⟨rfl,hlt⟩ ?_
   conv=>whnf
   refine Get.mk (_,_,_,_) hb ?_
   conv=>whnf
   refine Get.mk _ (mP hlt) ?_
   conv=>whnf
   refine (hg xs[i] vh vn).mono fun v vh' vn' he=>?_;obtain⟨e1,e2,e3⟩:=he;rw[e1,e2,e3]
   conv=>whnf
   refine aB.mk (fun h2=>?_) (fun h2=>?_)
   ·rw[h2] at hR
    conv=>whnf
    exact hR rfl i
   ·rw[h2,Bool.false_or] at hR hQ
    conv=>whnf
    rw[e];exact I7 p g cs hg bv tv xs hN vh vn hb Q (m-1) (i+1) (by omega) (by omega) hR hQ
  ·have hlt:i=xs.length:=by simp at h1;omega
   rw[hlt,List.drop_length] at hQ
   conv=>whnf
   exact hQ rfl _ _
termination_by m=>m
decreasing_by all_goals omega
theorem I6(p:aA->Bool)(g:FuncId)(cs:List V)(hg:∀b vh vn,aE Tryz.prog X G g (.agg (encA b)::cs) vh vn fun v vh' vn'=>vh'=vh/\vn'=vn/\v=.bool (p b))(c:Option Nat)(xs:List aA)(hN:xs.length<2^30)(vh:VH)(vn:Nat)(Q:FQ):∀(m i:Nat),xs.length-i=m->i<=xs.length->
  ((xs.drop i).any p=true->∀j:Nat,Q .ret [(4,.int .i64 (j:Int))] vh vn)->
  ((xs.drop i).any p=false->∀i' t,Q (.exit 0) [(0,.sl 4 (xs.map encA) c),(1,.func g [] cs),(7,.int .i64 (xs.length:Int)),(8,.int .i64 i'),(9,.bool t)] vh vn)->
  aC Tryz.prog X G (.loop EW) [(0,.sl 4 (xs.map encA) c),(1,.func g [] cs),(7,.int .i64 (xs.length:Int)),(8,.int .i64 (i:Int))] vh vn Q
 |m,i,hm,hi,hR,hQ=>by
  refine aC.round ?_
  conv=>whnf
  refine aB.mk (fun h1=>?_) (fun h1=>?_)
  ·have hlt:i<xs.length:=by simp at h1;omega
   have hd:xs.drop i=xs[i]::xs.drop (i+1):=(List.getElem_cons_drop hlt).symm;rw[hd,List.any_cons] at hR hQ;have e:wr .i64 ((i:Int)+1)=((i+1:Nat):Int):=by rw[aF]<;>omega
   conv=>whnf
   refine Get.mk (i,encA xs[i]) ⟨rfl,by simp[hlt]⟩ ?_
   conv=>whnf
   refine (hg xs[i] vh vn).mono fun v vh' vn' he=>?_;obtain⟨e1,e2,e3⟩:=he;rw[e1,e2,e3]
   conv=>whnf
   refine aB.mk (fun h2=>?_) (fun h2=>?_)
   ·rw[h2] at hR
    conv=>whnf
    exact hR rfl i
   ·rw[h2,Bool.false_or] at hR hQ
    conv=>whnf
    rw[e];exact I6 p g cs hg c xs hN vh vn Q (m-1) (i+1) (by omega) (by omega) hR hQ
  ·have hlt:i=xs.length:=by simp at h1;omega
   rw[hlt,List.drop_length] at hQ
   conv=>whnf
   exact hQ rfl _ _
termination_by m=>m
decreasing_by all_goals omega
theorem VN(hX:X rG=none)(p:aA->Bool)(g:FuncId)(cs:List V)(hg:∀b vh vn,aE Tryz.prog X G g (.agg (encA b)::cs) vh vn fun v vh' vn'=>vh'=vh/\vn'=vn/\v=.bool (p b))(v:V)(xs:List aA)(hN:xs.length<2^30)(vh:VH)(vn:Nat)(hv:SlA vh v xs):
  aE Tryz.prog X G rG [v,.func g [] cs] vh vn fun r vh' vn'=>vh'=vh/\vn'=vn/\((xs.any p=true/\∃j:Nat,r=.int .i64 (j:Int))\/(xs.any p=false/\r=.int .i64 (-1))):=by
 apply aE7.run hX;rcases hv with (⟨rfl,rfl⟩|⟨rfl,rfl⟩|⟨b,ty,rfl,hb⟩)|⟨c,rfl⟩
 ·conv=>whnf
  refine aC.round ?_
  conv=>whnf
  exact Get.mk _ (fun _ _ h=>h) ⟨rfl,rfl,.inr ⟨rfl,rfl⟩⟩
 ·conv=>whnf
  refine aC.round ?_
  conv=>whnf
  exact Get.mk _ (fun _ _ h=>h) ⟨rfl,rfl,.inr ⟨rfl,rfl⟩⟩
 ·conv=>whnf
  refine I7 p g cs hg b ty xs hN vh vn hb _ xs.length 0 rfl (Nat.zero_le _) (fun h j=>?_) (fun h i' t=>?_)
  ·conv=>whnf
   exact Get.mk _ (fun _ _ h=>h) ⟨rfl,rfl,.inl ⟨h,j,rfl⟩⟩
  ·conv=>whnf
   exact Get.mk _ (fun _ _ h=>h) ⟨rfl,rfl,.inr ⟨h,rfl⟩⟩
 ·conv=>whnf
  have hl:Int.ofNat (xs.map encA).length=(xs.length:Int):=by simp
  rw[hl];refine I6 p g cs hg c xs hN vh vn _ xs.length 0 rfl (Nat.zero_le _) (fun h j=>?_) (fun h i' t=>?_)
  ·conv=>whnf
   exact Get.mk _ (fun _ _ h=>h) ⟨rfl,rfl,.inl ⟨h,j,rfl⟩⟩
  ·conv=>whnf
   exact Get.mk _ (fun _ _ h=>h) ⟨rfl,rfl,.inr ⟨h,rfl⟩⟩
theorem CG(hX:X rG=none)(hX':X rF=none)(p:aA->Bool)(g:FuncId)(cs:List V)(hg:∀b vh vn,aE Tryz.prog X G g (.agg (encA b)::cs) vh vn fun v vh' vn'=>vh'=vh/\vn'=vn/\v=.bool (p b))(v:V)(xs:List aA)(hN:xs.length<2^30)(vh:VH)(vn:Nat)(hv:SlA vh v xs):
  aE Tryz.prog X G rF [v,.func g [] cs] vh vn fun r vh' vn'=>vh'=vh/\vn'=vn/\r=.bool (xs.any p):=by
 apply aE5.run hX';have key:=VN (G:=G) hX p g cs hg v xs hN vh vn hv;rcases hv with (⟨rfl,rfl⟩|⟨rfl,rfl⟩|⟨b,ty,rfl,hb⟩)|⟨c,rfl⟩
 all_goals
  conv=>whnf
  refine key.mono fun r vh' vn' he=>?_;obtain⟨e1,e2,⟨e3,j,e4⟩|⟨e3,e4⟩⟩:=he
  ·rw[e1,e2,e4]
   conv=>whnf
   exact Get.mk _ (fun _ _ h=>h) ⟨rfl,rfl,by rw[e3];simp⟩
  ·rw[e1,e2,e4]
   conv=>whnf
   exact Get.mk _ (fun _ _ h=>h) ⟨rfl,rfl,by rw[e3];rfl⟩
end
section
attribute [local irreducible] aM
variable {X : Ovr} {G : Gt}
theorem wM{α:Type}{enc:α->List V}(hl:∀a,(enc a).length=1)(xs:List α):(xs.map enc).flatten.length=xs.length:=by rw[iI hl,Nat.mul_one]
theorem TD:∀(l:List V) (v:V) (r:List V),setSeg (l++r) l.length [v]=l++v::r.drop 1
 |[],v,r=>by cases r<;>simp[setSeg,dE,dI,aT]
 |a::l,v,r=>by simp only[List.cons_append,List.length_cons,setSeg,TD l v r]
theorem zT{α:Type}{enc:α->List V}{by':Nat}{ty:TypeId}{vh:VH}{nx b:Nat}{xs:List α}{rest:List V}(hl:∀a,(enc a).length=1)(hb:vh b=some (.cells ((xs.map enc).flatten++rest) ty 0 false))(hbn:b<nx)(a:α)(hroom:room by' (xs.length+1)){env:aH}{k:V->aH->VH->Nat->Prop}
  (hk:∀b' vh' nx' rest',(b'=b/\nx'=nx)\/(b'=nx/\nx'=nx+1)->vh' b'=some (.cells (((xs++[a]).map enc).flatten++rest') ty 0 false)->(∀d,d≠nx->d≠b->vh' d=vh d)->k (.msl b' 0 (xs++[a]).length 1 none) env vh' nx'):aM 1 by' ty (.msl b 0 xs.length 1 none) (enc a) 1 env vh nx k:=by
 have hfl:=wM hl xs;obtain⟨v,hv⟩:∃v,enc a=[v]:=List.length_eq_one_iff.1 (hl a);simp only[aM,aP.2 (rfl:1=1),cond_true]
 conv=>whnf
 refine⟨((xs.map enc).flatten++rest,ty,0,false),hb,?_⟩;simp only;refine .mk (fun h=>?_) fun h=>?_
 ·have h:=bC.1 h;simp only[List.length_append,hfl,Nat.sub_zero,Nat.div_one] at h;refine⟨⟨by simp only[List.length_append,hfl];omega,Nat.zero_le _⟩,?_⟩
  have:=hk b (aI vh b (.cells (setSeg ((xs.map enc).flatten++rest) (0+xs.length*1) (enc a)) ty 0 false)) nx (rest.drop 1) (.inl ⟨rfl,rfl⟩) ?_ (fun d h1 h2=>aG h2)
  ·rw[List.length_append,List.length_singleton] at this;exact this
  ·rw[aK,Nat.zero_add,Nat.mul_one,<-hfl,hv,TD];simp[hv]
 ·have h1:¬xs.length+1<=(((xs.map enc).flatten++rest).length-0) / 1:=fun h2=>by rw[bC.2 h2] at h;cases h
  simp only[List.length_append,hfl,Nat.sub_zero,Nat.div_one] at h1;have hr:rest=[]:=List.eq_nil_of_length_eq_zero (by omega)
  subst hr;refine⟨⟨trivial,by rw[List.append_nil,hfl];omega,Nat.zero_le _,trivial,hroom⟩,?_⟩
  have:=hk nx (aI (bX vh b) nx (.cells (((xs.map enc).flatten++[]).take (xs.length*1)++enc a) ty (Ev.fzOff 0 0) false)) (nx+1) [] (.inr ⟨rfl,rfl⟩) ?_ (fun d h1 h2=>by rw[aG h1,b5 h2])
  ·rw[List.length_append,List.length_singleton] at this;exact this
  ·rw[aK,List.append_nil,List.take_of_length_le (by rw[hfl];omega)]
   simp[fzOff]
def iF(l:List aA):List V:=[.ifc pV (.sl 4 (l.map encA) none)]
theorem sK(l:List aA):(iF l).length=1:=rfl
def SP(vh:VH)(b:Nat)(o:Option Nat)(lv:List (List aA)):Prop:=∃ty,match o with
 |none=>lv=[]/\vh b=some (.cells [.nils] ty 0 false)
 |some bl=>bl≠b/\∃rest,vh b=some (.cells [.msl bl 0 lv.length 1 none] ty 0 false)/\vh bl=some (.cells ((lv.map iF).flatten++rest) gB 0 false)
theorem SP.at{vh vh':VH}{b:Nat}{o:Option Nat}{lv:List (List aA)}(h:SP vh b o lv)(hb:vh' b=vh b)(ho:∀c,o=some c->vh' c=vh c):SP vh' b o lv:=by
 obtain⟨ty,h⟩:=h;cases o with
 |none=>exact⟨ty,h.1,hb.trans h.2⟩
 |some bl=>obtain⟨h1,rest,h2,h3⟩:=h;exact⟨ty,h1,rest,hb.trans h2,(ho bl rfl).trans h3⟩
structure XS(X:Ovr):Prop where
 declares:X rE=none
 wrong:X uX=none
 c1:X pP=none
 index:X rG=none
 contains:X rF=none
 push:X yT=none
 depth:X uT=none
 pop:X uU=none
 level:X uW=none
 uri:X uV=none
def fI:List aA->List aA->Option (List aA)
 |m,[]=>some m
 |m,a::l=>if (declares a).2=true then (if hZ a=true then none else if m.any (bW a)=true then none else fI (m++[a]) l) else fI m l
end
end Go.Proofs.YtjoadepfokpcoaaGreatDoor
open Go Go.Ev Go.VL
