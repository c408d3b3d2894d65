/- What SpaceSmall rests on; no condition. -/
import Derived.Test.YtjoadepfokpcoaaGreatDoorSpE
set_option linter.unusedSimpArgs false
set_option linter.unusedVariables false
set_option linter.constructorNameAsVariable false
set_option linter.unnecessarySimpa false
set_option maxRecDepth 100000
set_option linter.unusedVariables false
open Go Go.Ev Go.VL
namespace Go.Proofs.YtjoadepfokpcoaaGreatDoor
def Z9:aD:=(.seq (.reg 0 [oA 2 (.mv (cI 0))] (kp [0]))
(.seq (.seq (.reg 0 [mA 3 0,oA 4 (.eq .p .eql 3 (.c .nilp))] (kp [0,4]))
(.cond 4
(.seq (.reg 0 [oA 2 (.mv (cI 0))] (kp [2]))
.ret)
(.gsk (kp [0]))))
(.seq (.reg 0 [mA 5 0,oA 6 (.nilck 5),oA 7 (.off 6 0),oA 8 (.load 7 false 1),oA 9 (.call pI [8]),mA 2 9] (kp [2]))
.ret)))
def aHU:List aJ:=[.tmp 2]
theorem aDc:aL Tryz.prog pJ Z9 aHU:=.of Tryz.func31 (by kernel_rfl)
def aAC:aD:=(.seq (.reg 0 [oA 4 (.mv (cI 0))] (kp [0,1]))
(.seq (.seq (.reg 0 [mA 5 0,oA 6 (.eq .p .eql 5 (.c .nilp))] (kp [0,1,6]))
(.cond 6
(.seq (.reg 0 [oA 4 (.mv (cI (-1)))] (kp [4]))
.ret)
(.gsk (kp [0,1]))))
(.seq (.reg 0 [mA 7 0,oA 8 (.nilck 7),oA 9 (.off 8 0),oA 10 (.load 9 false 1),mA 11 1,oA 12 (.call uB [10,11,(cB true)]),mA 4 12] (kp [4]))
.ret)))
def aHX:List aJ:=[.tmp 4]
theorem aDf:aL Tryz.prog yG aAC aHX:=.of Tryz.func34 (by kernel_rfl)
def aAD:aD:=(.seq (.reg 0 [oA 4 (.mv (cI 0))] (kp [0,1]))
(.seq (.seq (.reg 0 [mA 5 0,mA 6 1,oA 7 (.call j0 [5,6]),oA 8 (.un .not 7)] (kp [0,1,8]))
(.cond 8
(.seq (.reg 0 [oA 4 (.mv (cI 0))] (kp [4]))
.ret)
(.gsk (kp [0,1]))))
(.seq (.reg 0 [mA 9 0,mA 10 1,oA 11 (.call uJ [9,10]),mA 12 1,oA 13 (.bin .sub 11 12),oA 14 (.bin .add 13 (cI 1)),oA 15 (.bin .quo 14 (cI 2)),mA 4 15] (kp [4]))
.ret)))
def aHY:List aJ:=[.tmp 4]
theorem aDg:aL Tryz.prog yH aAD aHY:=.of Tryz.func36 (by kernel_rfl)
def aAA:aD:=(.seq (.reg 0 [oA 4 (.mv (cI 0))] (kp [0,1]))
(.seq (.seq (.reg 0 [mA 5 0,mA 6 1,oA 7 (.call j0 [5,6]),oA 8 (.un .not 7)] (kp [0,1,8]))
(.cond 8
(.seq (.reg 0 [oA 4 (.mv (cI (-1)))] (kp [4]))
.ret)
(.gsk (kp [0,1]))))
(.seq (.reg 0 [mA 9 0,oA 10 (.nilck 9),oA 11 (.off 10 0),oA 12 (.load 11 false 1),mA 13 1,oA 14 (.call kS [12,13,(cB true)]),mA 4 14] (kp [4]))
.ret)))
def aHV:List aJ:=[.tmp 4]
theorem aDd:aL Tryz.prog qZ aAA aHV:=.of Tryz.func37 (by kernel_rfl)
def ZZ:aD:=(.seq (.seq (.reg 0 [mA 32 6,oA 33 (.nilck 32),oA 34 (.off 33 2),oA 35 (.load 34 false 1),oA 36 (.bin .mul 35 (cI 64)),mA 37 0,oA 38 (.lenL 37),oA 39 (.bin .lss 36 38)] (kp [0,6,39]))
(.cond 39
(.gsk (kp [0,6]))
(.exit 0)))
(.block 1
(.reg 0 [mA 40 6,oA 41 (.nilck 40),oA 42 (.off 41 2),oA 43 (.load 42 false 1),oA 44 (.bin .mul 43 (cI 2)),oA 45 (.nilck 40),oA 46 (.off 45 2),oN (.store 46 44 1)] (kp [0,6]))))
def Z0:aD:=(.seq (.reg 0 [oA 58 (.bin .lss 57 56)] (kp [0,6,7,56,57,58]))
(.seq (.cond 58
(.gsk (kp [0,6,7,56,57]))
(.exit 2))
(.seq (.block 3
(.seq (.reg 0 [mA 59 57,mA 8 59] (kp [0,6,7,8,56,57]))
(.reg 0 [mA 60 7,mA 61 6,oA 62 (.nilck 61),oA 63 (.off 62 2),oA 64 (.load 63 false 1),mA 65 8,oA 66 (.bin .add 64 65),mA 67 0,oA 68 (.lenL 67),oA 69 (.idx 1 60 66),oN (.store 69 68 1)] (kp [0,6,7,56,57]))))
(.reg 0 [oA 70 (.bin .add 57 (cI 1)),mA 57 70] (kp [0,6,7,56,57])))))
def EG:aD:=(.seq (.reg 0 [oA 74 (.bin .lss 73 72)] (kp [6,7,9,71,72,73,74]))
(.seq (.cond 74
(.gsk (kp [6,7,9,71,72,73]))
(.exit 4))
(.seq (.block 5
(.seq (.reg 0 [mA 75 73,oA 76 (.idx 1 71 73),oA 77 (.load 76 false 1),mA 10 75,mA 11 77] (kp [6,7,9,10,11,71,72,73]))
(.seq (.seq (.reg 0 [mA 78 9,oA 79 (.bin .sub 78 (cI 1)),mA 9 79] (kp [6,7,9,10,11,71,72,73]))
(.seq (.reg 0 [mA 80 11] (kp [6,7,9,10,71,72,73,80]))
(.cond 80
(.reg 0 [mA 81 9,oA 82 (.bin .add 81 (cI 2)),mA 9 82] (kp [6,7,9,10,71,72,73]))
(.gsk (kp [6,7,9,10,71,72,73])))))
(.seq (.reg 0 [mA 83 6,oA 84 (.nilck 83),oA 85 (.off 84 2),oA 86 (.load 85 false 1),mA 87 10,oA 88 (.bin .quo 87 (cI 64)),oA 89 (.bin .add 86 88),mA 12 89] (kp [6,7,9,12,71,72,73]))
(.reg 0 [mA 90 7,mA 91 12,mA 92 7,mA 93 12,oA 94 (.idx 1 92 93),oA 95 (.load 94 false 1),mA 96 9,oA 97 (.mn [95,96]),oA 98 (.idx 1 90 91),oN (.store 98 97 1)] (kp [6,7,9,71,72,73]))))))
(.reg 0 [oA 99 (.bin .add 73 (cI 1)),mA 73 99] (kp [6,7,9,71,72,73])))))
def Z2:aD:=(.seq (.seq (.reg 0 [mA 105 13,oA 106 (.bin .gtr 105 (cI 0))] (kp [6,7,13,106]))
(.cond 106
(.gsk (kp [6,7,13]))
(.exit 6)))
(.seq (.block 7
(.reg 1 [mA 109 7,mA 110 13,mA 111 7,mA 112 13,oA 113 (.bin .mul (cI 2) 112),oA 114 (.idx 1 111 113),oA 115 (.load 114 false 1),mA 116 7,mA 117 13,oA 118 (.bin .mul (cI 2) 117),oA 119 (.bin .add 118 (cI 1)),oA 120 (.idx 1 116 119),oA 121 (.load 120 false 1),oA 122 (.mn [115,121]),oA 123 (.idx 1 109 110),oN (.store 123 122 1)] (kp [6,7,13])))
(.reg 0 [mA 107 13,oA 108 (.bin .sub 107 (cI 1)),mA 13 108] (kp [6,7,13]))))
def ZY:aD:=(.seq (.reg 0 [oA 2 (.mv (.c .nilp)),oA 3 (.mv (cI 0))] (kp [0]))
(.seq (.seq (.reg 0 [mA 14 0,oA 15 (.call yC [14]),oA 16 (.un .not 15)] (kp [0,16]))
(.cond 16
(.seq (.reg 0 [oA 2 (.mv (.c .nilp)),oA 3 (.mv (cI 1))] (kp [2,3]))
.ret)
(.gsk (kp [0]))))
(.seq (.reg 0 [mA 18 0,oA 19 (.call qV [18]),mA 17 19,oA 20 (.ext 17 0),oA 21 (.ext 17 1),mA 4 20,mA 5 21] (kp [0,4,5]))
(.seq (.seq (.reg 0 [mA 22 5,oA 23 (.bin .neq 22 (cI 0)),mA 24 23,oF 24 25 (.mv 0),oF 24 26 (.lenL 25),oF 24 27 (.bin .gtr 26 (cI 4194304)),oA 28 (.pick 24 (cB true) 27)] (kp [0,4,28]))
(.cond 28
(.seq (.reg 0 [oA 2 (.mv (.c .nilp)),oA 3 (.mv (cI 7))] (kp [2,3]))
.ret)
(.gsk (kp [0,4]))))
(.seq (.reg 0 [mA 29 4,oA 30 (.build [.nilp,.nili,(.int .i64 0),(.int .i64 0)] [(0,1,29),(2,1,(cI 1))]),oA 31 (.boxH 30 DJ),mA 6 31] (kp [0,6]))
(.seq (.block 0
(.loop ZZ))
(.seq (.reg 0 [mA 47 6,oA 48 (.nilck 47),oA 49 (.off 48 2),oA 50 (.load 49 false 1),oA 51 (.bin .mul (cI 2) 50),oA 52 (.mkSl 1 [(.int .i64 0)] b9 8 51 51),mA 7 52] (kp [0,6,7]))
(.seq (.seq (.reg 0 [mA 53 6,oA 54 (.nilck 53),oA 55 (.off 54 2),oA 56 (.load 55 false 1),oA 57 (.mv (cI 0))] (kp [0,6,7,56,57]))
(.block 2
(.loop Z0)))
(.seq (.reg 0 [oA 9 (.mv (cI 0))] (kp [0,6,7,9]))
(.seq (.seq (.reg 0 [mA 71 0,oA 72 (.lenL 71),oA 73 (.mv (cI 0))] (kp [6,7,9,71,72,73]))
(.block 4
(.loop EG)))
(.seq (.seq (.reg 0 [mA 100 6,oA 101 (.nilck 100),oA 102 (.off 101 2),oA 103 (.load 102 false 1),oA 104 (.bin .sub 103 (cI 1)),mA 13 104] (kp [6,7,13]))
(.block 6
(.loop Z2)))
(.seq (.reg 0 [mA 124 6,mA 125 7,⟨some 126,.mkIfc KK 125,none,[.fzs 125 1],.n []⟩,oA 127 (.nilck 124),oA 128 (.off 127 1),oN (.store 128 126 1)] (kp [6]))
(.seq (.reg 0 [mA 129 6,mA 2 129,oA 3 (.mv (cI 0))] (kp [2,3]))
.ret)))))))))))))
def aHQ:List aJ:=[.tmp 2,.tmp 3]
theorem aD8:aL Tryz.prog yD ZY aHQ:=.of Tryz.func52 (by kernel_rfl)
def Z6:aD:=(.seq (.reg 0 [oA 4 (.mv (cI 0))] (kp [0,1]))
(.seq (.reg 0 [mA 5 0,mA 6 1,oA 7 (.call yJ [5,6,(cI 1)]),mA 4 7] (kp [4]))
.ret))
def aHT:List aJ:=[.tmp 4]
theorem aDb:aL Tryz.prog yF Z6 aHT:=.of Tryz.func58 (by kernel_rfl)
def Z3:aD:=(.seq (.reg 0 [oA 4 (.mv (cI 0))] (kp [0,1]))
(.seq (.seq (.reg 0 [mA 5 0,oA 6 (.eq .p .eql 5 (.c .nilp))] (kp [0,1,6]))
(.cond 6
(.seq (.reg 0 [oA 4 (.mv (cI (-1)))] (kp [4]))
.ret)
(.gsk (kp [0,1]))))
(.seq (.seq (.reg 0 [mA 7 0,oA 8 (.nilck 7),oA 9 (.off 8 3),oN (.store 9 (cI 0) 1)] (kp [0,1]))
(.seq (.reg 0 [mA 10 0,mA 11 1,oA 12 (.call yL [10,11]),oA 13 (.un .not 12)] (kp [0,1,13]))
(.cond 13
(.seq (.reg 0 [oA 4 (.mv (cI (-1)))] (kp [4]))
.ret)
(.gsk (kp [0,1])))))
(.seq (.reg 0 [mA 14 0,mA 15 1,mA 16 0,mA 17 1,oA 18 (.call kT [16,17]),oA 19 (.call uK [14,15,18]),oA 20 (.bin .add 19 (cI 1)),oA 21 (.mx [20,(cI (-1))]),mA 4 21] (kp [4]))
.ret))))
def aHR:List aJ:=[.tmp 4]
theorem aD9:aL Tryz.prog yE Z3 aHR:=.of Tryz.func59 (by kernel_rfl)
def aAF:aD:=(.seq (.reg 0 [oA 6 (.mv (cI 0))] (kp [0,1,2]))
(.seq (.seq (.reg 0 [mA 7 0,oA 8 (.eq .p .eql 7 (.c .nilp))] (kp [0,1,2,8]))
(.cond 8
(.seq (.reg 0 [oA 6 (.mv (cI (-1)))] (kp [6]))
.ret)
(.gsk (kp [0,1,2]))))
(.seq (.reg 0 [mA 9 0,oA 10 (.nilck 9),oA 11 (.off 10 3),oN (.store 11 (cI 0) 1)] (kp [0,1,2]))
(.seq (.seq (.reg 0 [mA 12 0,mA 13 1,oA 14 (.call j0 [12,13]),oA 15 (.un .not 14),mA 16 15,oF 16 17 (.mv 2),oF 16 18 (.bin .lss 17 (cI 0)),oA 19 (.pick 16 (cB true) 18),mA 20 19,oF 20 21 (.mv 2),oF 20 22 (.mv 0),oF 20 23 (.mv 1),oF 20 24 (.call kT [22,23]),oF 20 25 (.bin .geq 21 24),oA 26 (.pick 20 (cB true) 25)] (kp [0,1,2,26]))
(.cond 26
(.seq (.reg 0 [oA 6 (.mv (cI (-1)))] (kp [6]))
.ret)
(.gsk (kp [0,1,2]))))
(.seq (.seq (.reg 0 [mA 27 2,oA 28 (.bin .eql 27 (cI 0))] (kp [0,1,2,28]))
(.cond 28
(.seq (.reg 0 [mA 29 1,mA 6 29] (kp [6]))
.ret)
(.gsk (kp [0,1,2]))))
(.seq (.reg 0 [mA 30 0,mA 31 1,mA 32 0,mA 33 1,oA 34 (.call kT [32,33]),oA 35 (.bin .sub 34 (cI 1)),mA 36 2,oA 37 (.bin .sub 35 36),oA 38 (.call uK [30,31,37]),oA 39 (.bin .add 38 (cI 1)),mA 6 39] (kp [6]))
.ret))))))
def aH0:List aJ:=[.tmp 6]
theorem aDi:aL Tryz.prog yJ aAF aH0:=.of Tryz.func60 (by kernel_rfl)
def Z4:aD:=(.seq (.reg 0 [oA 4 (.mv (cI 0))] (kp [0,1]))
(.seq (.seq (.reg 0 [mA 5 0,oA 6 (.eq .p .eql 5 (.c .nilp))] (kp [0,1,6]))
(.cond 6
(.seq (.reg 0 [oA 4 (.mv (cI (-1)))] (kp [4]))
.ret)
(.gsk (kp [0,1]))))
(.seq (.seq (.reg 0 [mA 7 0,oA 8 (.nilck 7),oA 9 (.off 8 3),oN (.store 9 (cI 0) 1)] (kp [0,1]))
(.seq (.reg 0 [mA 10 0,mA 11 1,oA 12 (.call j0 [10,11]),oA 13 (.un .not 12)] (kp [0,1,13]))
(.cond 13
(.seq (.reg 0 [oA 4 (.mv (cI (-1)))] (kp [4]))
.ret)
(.gsk (kp [0,1])))))
(.seq (.reg 0 [mA 14 0,mA 15 1,mA 16 0,mA 17 1,oA 18 (.call kT [16,17]),oA 19 (.bin .sub 18 (cI 1)),oA 20 (.call yM [14,15,19]),mA 4 20] (kp [4]))
.ret))))
def aHS:List aJ:=[.tmp 4]
theorem aDa:aL Tryz.prog uJ Z4 aHS:=.of Tryz.func61 (by kernel_rfl)
def aAE:aD:=(.seq (.reg 0 [oA 2 (.mv (cI 0))] (kp [0]))
(.seq (.seq (.reg 0 [mA 3 0,oA 4 (.eq .p .eql 3 (.c .nilp))] (kp [0,4]))
(.cond 4
(.seq (.reg 0 [oA 2 (.mv (cI 0))] (kp [2]))
.ret)
(.gsk (kp [0]))))
(.seq (.reg 0 [mA 5 0,oA 6 (.nilck 5),oA 7 (.off 6 3),oA 8 (.load 7 false 1),mA 2 8] (kp [2]))
.ret)))
def aHZ:List aJ:=[.tmp 2]
theorem aDh:aL Tryz.prog yI aAE aHZ:=.of Tryz.func64 (by kernel_rfl)
def aAB:aD:=(.seq (.reg 0 [oA 4 (.mv (cB false))] (kp [0,1]))
(.seq (.seq (.reg 0 [mA 7 0,oA 8 (.eq .p .eql 7 (.c .nilp))] (kp [0,1,8]))
(.cond 8
(.seq (.reg 0 [oA 4 (.mv (cB false))] (kp [4]))
.ret)
(.gsk (kp [0,1]))))
(.seq (.reg 0 [mA 10 0,oA 11 (.nilck 10),oA 12 (.off 11 0),oA 13 (.load 12 false 1),mA 14 1,oA 15 (.call xU [13,14]),mA 9 15,oA 16 (.ext 9 0),oA 17 (.ext 9 1),mA 5 16,mA 6 17] (kp [5]))
(.seq (.reg 0 [mA 18 5,mA 4 18] (kp [4]))
.ret))))
def aHW:List aJ:=[.tmp 4]
theorem aDe:aL Tryz.prog j0 aAB aHW:=.of Tryz.func87 (by kernel_rfl)
def aAS:aD:=(.seq (.reg 0 [oA 4 (.mv (cI 0))] (kp [0,1]))
(.seq (.reg 0 [mA 5 0,oA 6 (.nilck 5),oA 7 (.off 6 0),oA 8 (.load 7 false 1),mA 9 1,oA 10 (.bin .add 9 (cI 1)),oA 11 (.call kS [8,10,(cB true)]),oA 12 (.bin .mul (cI 2) 11),mA 13 1,oA 14 (.bin .sub 12 13),oA 15 (.bin .sub 14 (cI 1)),mA 4 15] (kp [4]))
.ret))
def aH6:List aJ:=[.tmp 4]
theorem aDo:aL Tryz.prog kT aAS aH6:=.of Tryz.func89 (by kernel_rfl)
def MH:aD:=(.seq (.reg 0 [oA 9 (.bin .lss 8 7)] (kp [3,6,7,8,9]))
(.seq (.cond 9
(.gsk (kp [3,6,7,8]))
(.exit 0))
(.seq (.block 1
(.seq (.reg 0 [oA 10 (.idx 1 6 8),oA 11 (.load 10 false 1),mA 5 11] (kp [3,5,6,7,8]))
(.seq (.seq (.reg 0 [mA 12 3,oA 13 (.bin .sub 12 (cI 1)),mA 3 13] (kp [3,5,6,7,8]))
(.seq (.reg 0 [mA 14 5] (kp [3,6,7,8,14]))
(.cond 14
(.reg 0 [mA 15 3,oA 16 (.bin .add 15 (cI 2)),mA 3 16] (kp [3,6,7,8]))
(.gsk (kp [3,6,7,8])))))
(.seq (.reg 0 [mA 17 3,oA 18 (.bin .lss 17 (cI 0))] (kp [3,6,7,8,18]))
(.cond 18
(.seq (.reg 0 [oA 2 (.mv (cB false))] (kp [2]))
.ret)
(.gsk (kp [3,6,7,8])))))))
(.reg 0 [oA 19 (.bin .add 8 (cI 1)),mA 8 19] (kp [3,6,7,8])))))
def ZX:aD:=(.seq (.reg 0 [oA 2 (.mv (cB false))] (kp [0]))
(.seq (.reg 0 [oA 3 (.mv (cI 0))] (kp [0,3]))
(.seq (.seq (.reg 0 [mA 6 0,oA 7 (.lenL 6),oA 8 (.mv (cI 0))] (kp [3,6,7,8]))
(.block 0
(.loop MH)))
(.seq (.reg 0 [mA 20 3,oA 21 (.bin .eql 20 (cI 0)),mA 2 21] (kp [2]))
.ret))))
def aHP:List aJ:=[.tmp 2]
theorem aD7:aL Tryz.prog yC ZX aHP:=.of Tryz.func105 (by kernel_rfl)
def aAM:aD:=(.seq (.reg 0 [oA 4 (.mv (cB false))] (kp [0,1]))
(.seq (.reg 0 [mA 5 1,oA 6 (.bin .geq 5 (cI 0)),mA 7 6,oT 7 8 (.mv 1),oT 7 9 (.mv 0),oT 7 10 (.call pJ [9]),oT 7 11 (.bin .lss 8 10),oA 12 (.pick 7 11 (cB false)),mA 13 12,oT 13 14 (.mv 0),oT 13 15 (.mv 1),oT 13 16 (.call j0 [14,15]),oT 13 17 (.un .not 16),oA 18 (.pick 13 17 (cB false)),mA 4 18] (kp [4]))
.ret))
def aH4:List aJ:=[.tmp 4]
theorem aDm:aL Tryz.prog yL aAM aH4:=.of Tryz.func110 (by kernel_rfl)
def aAJ:aD:=(.seq (.seq (.reg 0 [mA 27 8,oA 28 (.bin .rem 27 (cI 2)),oA 29 (.bin .eql 28 (cI 0))] (kp [0,2,8,29]))
(.cond 29
(.gsk (kp [0,2,8]))
(.exit 2)))
(.block 3
(.reg 0 [mA 30 8,oA 31 (.bin .quo 30 (cI 2)),mA 8 31] (kp [0,2,8]))))
def aAK:aD:=(.seq (.seq (.reg 0 [mA 40 8,mA 41 0,oA 42 (.nilck 41),oA 43 (.off 42 2),oA 44 (.load 43 false 1),oA 45 (.bin .lss 40 44)] (kp [0,2,8,45]))
(.cond 45
(.gsk (kp [0,2,8]))
(.exit 4)))
(.block 5
(.seq (.reg 0 [mA 46 8,oA 47 (.bin .mul (cI 2) 46),oA 48 (.bin .add 47 (cI 1)),mA 8 48] (kp [0,2,8]))
(.seq (.reg 0 [mA 49 0,mA 50 8,mA 51 2,oA 52 (.call yN [49,50,51]),oA 53 (.un .not 52)] (kp [0,2,8,53]))
(.cond 53
(.reg 0 [mA 54 8,oA 55 (.bin .sub 54 (cI 1)),mA 8 55] (kp [0,2,8]))
(.gsk (kp [0,2,8])))))))
def aAI:aD:=(.block 1
(.seq (.block 2
(.loop aAJ))
(.seq (.seq (.reg 0 [mA 32 8,oA 33 (.bin .eql 32 (cI 1))] (kp [0,2,8,33]))
(.cond 33
(.exit 0)
(.gsk (kp [0,2,8]))))
(.seq (.reg 0 [mA 34 8,oA 35 (.bin .sub 34 (cI 1)),mA 8 35] (kp [0,2,8]))
(.seq (.reg 0 [mA 36 0,mA 37 8,mA 38 2,oA 39 (.call yN [36,37,38])] (kp [0,2,8,39]))
(.cond 39
(.seq (.block 4
(.loop aAK))
(.seq (.reg 0 [mA 56 8,mA 57 0,oA 58 (.nilck 57),oA 59 (.off 58 2),oA 60 (.load 59 false 1),oA 61 (.bin .sub 56 60),oA 62 (.bin .add 61 (cI 1)),oA 63 (.bin .mul 62 (cI 64)),mA 9 63] (kp [0,2,9]))
(.seq (.reg 0 [mA 64 0,mA 65 9,mA 66 9,oA 67 (.bin .sub 66 (cI 64)),mA 68 2,oA 69 (.call uL [64,65,67,68]),mA 6 69] (kp [6]))
.ret)))
(.gsk (kp [0,2,8]))))))))
def aAH:aD:=(.seq (.reg 0 [oA 6 (.mv (cI 0))] (kp [0,1,2]))
(.seq (.seq (.reg 0 [mA 10 0,mA 11 1,mA 12 1,oA 13 (.bin .quo 12 (cI 64)),oA 14 (.bin .mul 13 (cI 64)),mA 15 2,oA 16 (.call uL [10,11,14,15]),mA 7 16] (kp [0,1,2,7]))
(.seq (.reg 0 [mA 17 7,oA 18 (.bin .geq 17 (cI 0))] (kp [0,1,2,7,18]))
(.cond 18
(.seq (.reg 0 [mA 19 7,mA 6 19] (kp [6]))
.ret)
(.gsk (kp [0,1,2])))))
(.seq (.reg 0 [mA 20 0,oA 21 (.nilck 20),oA 22 (.off 21 2),oA 23 (.load 22 false 1),mA 24 1,oA 25 (.bin .quo 24 (cI 64)),oA 26 (.bin .add 23 25),mA 8 26] (kp [0,2,8]))
(.seq (.block 0
(.loop aAI))
(.seq (.seq (.reg 0 [mA 70 2,oA 71 (.bin .eql 70 (cI 0))] (kp [71]))
(.cond 71
(.seq (.reg 0 [oA 6 (.mv (cI (-1)))] (kp [6]))
.ret)
(.gsk (kp []))))
(.seq (.reg 0 [oA 6 (.mv (cI (-2)))] (kp [6]))
.ret))))))
def aH2:List aJ:=[.tmp 6]
theorem aDk:aL Tryz.prog uK aAH aH2:=.of Tryz.func111 (by kernel_rfl)
def aAP:aD:=(.seq (.seq (.reg 0 [mA 26 8,oA 27 (.bin .rem 26 (cI 2)),oA 28 (.bin .eql 27 (cI 1))] (kp [0,2,8,28]))
(.cond 28
(.gsk (kp [0,2,8]))
(.exit 2)))
(.block 3
(.seq (.seq (.reg 0 [mA 29 8,oA 30 (.bin .eql 29 (cI 1))] (kp [0,2,8,30]))
(.cond 30
(.seq (.reg 0 [oA 6 (.mv (cI (-1)))] (kp [6]))
.ret)
(.gsk (kp [0,2,8]))))
(.reg 0 [mA 31 8,oA 32 (.bin .quo 31 (cI 2)),mA 8 32] (kp [0,2,8])))))
def aAO:aD:=(.block 1
(.seq (.block 2
(.loop aAP))
(.seq (.reg 0 [mA 33 8,oA 34 (.bin .add 33 (cI 1)),mA 8 34] (kp [0,2,8]))
(.seq (.reg 0 [mA 35 0,mA 36 8,mA 37 2,oA 38 (.call yN [35,36,37])] (kp [0,2,8,38]))
(.cond 38
(.exit 0)
(.gsk (kp [0,2,8])))))))
def aAQ:aD:=(.seq (.seq (.reg 0 [mA 39 8,mA 40 0,oA 41 (.nilck 40),oA 42 (.off 41 2),oA 43 (.load 42 false 1),oA 44 (.bin .lss 39 43)] (kp [0,2,8,44]))
(.cond 44
(.gsk (kp [0,2,8]))
(.exit 4)))
(.block 5
(.seq (.reg 0 [mA 45 8,oA 46 (.bin .mul 45 (cI 2)),mA 8 46] (kp [0,2,8]))
(.seq (.reg 0 [mA 47 0,mA 48 8,mA 49 2,oA 50 (.call yN [47,48,49]),oA 51 (.un .not 50)] (kp [0,2,8,51]))
(.cond 51
(.reg 0 [mA 52 8,oA 53 (.bin .add 52 (cI 1)),mA 8 53] (kp [0,2,8]))
(.gsk (kp [0,2,8])))))))
def aAR:aD:=(.seq (.seq (.reg 0 [mA 66 11,mA 67 9,oA 68 (.bin .add 67 (cI 64)),mA 69 0,oA 70 (.call pJ [69]),oA 71 (.mn [68,70]),oA 72 (.bin .lss 66 71)] (kp [0,2,9,10,11,72]))
(.cond 72
(.gsk (kp [0,2,9,10,11]))
(.exit 6)))
(.seq (.block 7
(.seq (.seq (.reg 0 [mA 75 10,oA 76 (.bin .sub 75 (cI 1)),mA 10 76] (kp [0,2,9,10,11]))
(.seq (.reg 0 [mA 77 0,mA 78 11,oA 79 (.call j0 [77,78])] (kp [0,2,9,10,11,79]))
(.cond 79
(.reg 0 [mA 80 10,oA 81 (.bin .add 80 (cI 2)),mA 10 81] (kp [0,2,9,10,11]))
(.gsk (kp [0,2,9,10,11])))))
(.seq (.reg 0 [mA 82 10,mA 83 2,oA 84 (.bin .eql 82 83)] (kp [0,2,9,10,11,84]))
(.cond 84
(.seq (.reg 0 [mA 85 11,mA 6 85] (kp [6]))
.ret)
(.gsk (kp [0,2,9,10,11]))))))
(.reg 0 [mA 73 11,oA 74 (.bin .add 73 (cI 1)),mA 11 74] (kp [0,2,9,10,11]))))
def aAN:aD:=(.seq (.reg 0 [oA 6 (.mv (cI 0))] (kp [0,1,2]))
(.seq (.seq (.reg 0 [mA 12 0,mA 13 1,mA 14 2,oA 15 (.call yK [12,13,14]),mA 7 15] (kp [0,1,2,7]))
(.seq (.reg 0 [mA 16 7,oA 17 (.bin .geq 16 (cI 0))] (kp [0,1,2,7,17]))
(.cond 17
(.seq (.reg 0 [mA 18 7,mA 6 18] (kp [6]))
.ret)
(.gsk (kp [0,1,2])))))
(.seq (.reg 0 [mA 19 0,oA 20 (.nilck 19),oA 21 (.off 20 2),oA 22 (.load 21 false 1),mA 23 1,oA 24 (.bin .quo 23 (cI 64)),oA 25 (.bin .add 22 24),mA 8 25] (kp [0,2,8]))
(.seq (.block 0
(.loop aAO))
(.seq (.block 4
(.loop aAQ))
(.seq (.reg 0 [mA 54 8,mA 55 0,oA 56 (.nilck 55),oA 57 (.off 56 2),oA 58 (.load 57 false 1),oA 59 (.bin .sub 54 58),oA 60 (.bin .mul 59 (cI 64)),mA 9 60] (kp [0,2,9]))
(.seq (.reg 0 [mA 61 0,mA 62 9,oA 63 (.bin .sub 62 (cI 1)),oA 64 (.call kT [61,63]),mA 10 64] (kp [0,2,9,10]))
(.seq (.seq (.reg 0 [mA 65 9,mA 11 65] (kp [0,2,9,10,11]))
(.block 6
(.loop aAR)))
(.seq (.reg 0 [oA 6 (.mv (cI (-1)))] (kp [6]))
.ret)))))))))
def aH5:List aJ:=[.tmp 6]
theorem aDn:aL Tryz.prog yM aAN aH5:=.of Tryz.func112 (by kernel_rfl)
def EI:aD:=(.seq (.seq (.reg 0 [mA 23 10,mA 24 2,oA 25 (.bin .geq 23 24)] (kp [0,2,3,9,10,25]))
(.cond 25
(.gsk (kp [0,2,3,9,10]))
(.exit 0)))
(.seq (.block 1
(.seq (.seq (.reg 0 [mA 28 9,oA 29 (.bin .add 28 (cI 1)),mA 9 29] (kp [0,2,3,9,10]))
(.seq (.reg 0 [mA 30 0,mA 31 10,oA 32 (.bin .add 31 (cI 1)),oA 33 (.call j0 [30,32])] (kp [0,2,3,9,10,33]))
(.cond 33
(.reg 0 [mA 34 9,oA 35 (.bin .sub 34 (cI 2)),mA 9 35] (kp [0,2,3,9,10]))
(.gsk (kp [0,2,3,9,10])))))
(.seq (.reg 0 [mA 36 9,mA 37 3,oA 38 (.bin .eql 36 37)] (kp [0,2,3,9,10,38]))
(.cond 38
(.seq (.reg 0 [mA 39 10,mA 8 39] (kp [8]))
.ret)
(.gsk (kp [0,2,3,9,10]))))))
(.reg 0 [mA 26 10,oA 27 (.bin .sub 26 (cI 1)),mA 10 27] (kp [0,2,3,9,10]))))
def aAL:aD:=(.seq (.reg 0 [oA 8 (.mv (cI 0))] (kp [0,1,2,3]))
(.seq (.reg 0 [mA 11 0,oA 12 (.nilck 11),oA 13 (.off 12 3),oA 14 (.load 13 false 1),oA 15 (.bin .add 14 (cI 1)),oA 16 (.nilck 11),oA 17 (.off 16 3),oN (.store 17 15 1)] (kp [0,1,2,3]))
(.seq (.reg 0 [mA 18 0,mA 19 1,oA 20 (.call kT [18,19]),mA 9 20] (kp [0,1,2,3,9]))
(.seq (.seq (.reg 0 [mA 21 1,oA 22 (.bin .sub 21 (cI 1)),mA 10 22] (kp [0,2,3,9,10]))
(.block 0
(.loop EI)))
(.seq (.reg 0 [oA 8 (.mv (cI (-2)))] (kp [8]))
.ret)))))
def aH3:List aJ:=[.tmp 8]
theorem aDl:aL Tryz.prog uL aAL aH3:=.of Tryz.func152 (by kernel_rfl)
def EH:aD:=(.seq (.seq (.reg 0 [mA 21 8,mA 22 1,oA 23 (.bin .quo 22 (cI 64)),oA 24 (.bin .add 23 (cI 1)),oA 25 (.bin .mul 24 (cI 64)),mA 26 0,oA 27 (.call pJ [26]),oA 28 (.mn [25,27]),oA 29 (.bin .lss 21 28)] (kp [0,1,2,7,8,29]))
(.cond 29
(.gsk (kp [0,1,2,7,8]))
(.exit 0)))
(.seq (.block 1
(.seq (.seq (.reg 0 [mA 32 7,oA 33 (.bin .sub 32 (cI 1)),mA 7 33] (kp [0,1,2,7,8]))
(.seq (.reg 0 [mA 34 0,mA 35 8,oA 36 (.call j0 [34,35])] (kp [0,1,2,7,8,36]))
(.cond 36
(.reg 0 [mA 37 7,oA 38 (.bin .add 37 (cI 2)),mA 7 38] (kp [0,1,2,7,8]))
(.gsk (kp [0,1,2,7,8])))))
(.seq (.reg 0 [mA 39 7,mA 40 2,oA 41 (.bin .eql 39 40)] (kp [0,1,2,7,8,41]))
(.cond 41
(.seq (.reg 0 [mA 42 8,mA 6 42] (kp [6]))
.ret)
(.gsk (kp [0,1,2,7,8]))))))
(.reg 0 [mA 30 8,oA 31 (.bin .add 30 (cI 1)),mA 8 31] (kp [0,1,2,7,8]))))
def aAG:aD:=(.seq (.reg 0 [oA 6 (.mv (cI 0))] (kp [0,1,2]))
(.seq (.reg 0 [mA 9 0,oA 10 (.nilck 9),oA 11 (.off 10 3),oA 12 (.load 11 false 1),oA 13 (.bin .add 12 (cI 1)),oA 14 (.nilck 9),oA 15 (.off 14 3),oN (.store 15 13 1)] (kp [0,1,2]))
(.seq (.reg 0 [mA 16 0,mA 17 1,oA 18 (.call kT [16,17]),mA 7 18] (kp [0,1,2,7]))
(.seq (.seq (.reg 0 [mA 19 1,oA 20 (.bin .add 19 (cI 1)),mA 8 20] (kp [0,1,2,7,8]))
(.block 0
(.loop EH)))
(.seq (.reg 0 [oA 6 (.mv (cI (-1)))] (kp [6]))
.ret)))))
def aH1:List aJ:=[.tmp 6]
theorem aDj:aL Tryz.prog yK aAG aH1:=.of Tryz.func154 (by kernel_rfl)
open Go.Num
section
attribute [local irreducible] aM wd aZ aN pc cX bL rkN cK dF
variable {X : Ovr} {G : Gt}
theorem W0(H:XBit3 X)(bs:List Bool)(hb:bs.length<=4194304)(j:Int)(bit:Bool)(hj:j<0\/(rkN bs bit bs.length:Int)<=j)(vh:VH)(vn:Nat):
  aE Tryz.prog X G uB [iD bs,.int .i64 j,.bool bit] vh vn fun v vh' vn'=>vh'=vh/\vn'=vn/\v=.int .i64 (-1):=by
 apply QF.run H.sel
 conv=>whnf
 refine aB.mk (fun c0=>?_) (fun c0=>?_)
 ·conv=>whnf
  exact Get.mk _ (fun _ _ h=>h) ⟨rfl,rfl,rfl⟩
 ·have c0':=of_decide_eq_false c0
  conv=>whnf
  refine (t8 H.toXBit2 bs vh vn).mono fun v vh' vn' he=>?_;obtain⟨e1,e2,e3⟩:=he;rw[e1,e2,e3];clear e1 e2 e3
  conv=>whnf
  refine (rN H bs hb bit bs.length (Nat.le_refl _) vh vn).mono fun v vh' vn' he=>?_;obtain⟨e1,e2,e3⟩:=he;rw[e1,e2,e3];clear e1 e2 e3
  conv=>whnf
  refine aB.mk (fun c1=>?_) (fun c1=>?_)
  ·conv=>whnf
   exact Get.mk _ (fun _ _ h=>h) ⟨rfl,rfl,rfl⟩
  ·exfalso;have:=of_decide_eq_false c1;omega
structure XPar(X:Ovr):Prop extends XBit3 X where
 plen:X pJ=none
 popen:X j0=none
 upto:X kT=none
 number:X qZ=none
 place:X yG=none
 closes:X yL=none
def PAt(vh:VH)(b:Nat)(bs:List Bool)(ls:List Int)(wide:Nat)(st:Int):Prop:=vh b=some (.cells [iD bs,.ifc KK (.sl 1 (ls.map eR) none),.int .i64 (wide:Int),.int .i64 st] DJ 0 false)
def opB(bs:List Bool)(k:Int):Bool:=if 0<=k then bs.getD k.toNat false else false
def ex(bs:List Bool)(n:Nat):Int:=2*(aN (bs.take n):Int)-n
variable {b : Nat} {bs : List Bool} {ls : List Int} {wide : Nat} {st : Int} {vh : VH} {vn : Nat}
theorem CU(H:XPar X)(P:PAt vh b bs ls wide st):
  aE Tryz.prog X G pJ [.ptr b 0] vh vn fun v vh' vn'=>vh'=vh/\vn'=vn/\v=.int .i64 (bs.length:Int):=by
 apply aDc.run H.plen
 conv=>whnf
 refine Get.mk (_,_,_,_) P ?_
 conv=>whnf
 refine Get.mk _ rfl ?_
 conv=>whnf
 refine (t8 H.toXBit2 bs vh vn).mono fun v vh' vn' he=>?_;obtain⟨e1,e2,e3⟩:=he;rw[e1,e2,e3]
 conv=>whnf
 exact Get.mk _ (fun _ _ h=>h) ⟨rfl,rfl,rfl⟩
theorem pU(H:XPar X)(hb:bs.length<=4194304)(P:PAt vh b bs ls wide st)(k:Int):
  aE Tryz.prog X G j0 [.ptr b 0,.int .i64 k] vh vn fun v vh' vn'=>vh'=vh/\vn'=vn/\v=.bool (opB bs k):=by
 apply aDe.run H.popen
 conv=>whnf
 refine Get.mk (_,_,_,_) P ?_
 conv=>whnf
 refine Get.mk _ rfl ?_
 conv=>whnf
 refine (UN H.toXBit2 bs hb k vh vn).mono fun v vh' vn' he=>?_;obtain⟨e1,e2,e3⟩:=he;rw[e1,e2];by_cases hk:0<=k/\k.toNat<bs.length
 ·rw[dif_pos hk] at e3;rw[e3]
  conv=>whnf
  refine Get.mk _ (fun _ _ h=>h) ⟨rfl,rfl,?_⟩;have:opB bs k=bs[k.toNat]'hk.2:=by simp[opB,hk.1,hk.2]
  rw[this]
 ·rw[dif_neg hk] at e3;rw[e3]
  conv=>whnf
  refine Get.mk _ (fun _ _ h=>h) ⟨rfl,rfl,?_⟩;have:opB bs k=false:=by
   unfold opB;split
   ·rw[List.getD_eq_getElem?_getD,List.getElem?_eq_none (by omega)]
    rfl
   ·rfl
  rw[this]
theorem rK(H:XPar X)(hb:bs.length<=4194304)(P:PAt vh b bs ls wide st)(n:Nat)(hn:n<=bs.length)(k:Int)(hk:k=(n:Int)-1):
  aE Tryz.prog X G kT [.ptr b 0,.int .i64 k] vh vn fun v vh' vn'=>vh'=vh/\vn'=vn/\v=.int .i64 (ex bs n):=by
 subst hk;have hc:=mO (bs.take n);rw[List.length_take] at hc;have e1:wr .i64 ((n:Int)-1+1)=(n:Int):=by rw[show (n:Int)-1+1=n by omega,aF]<;>omega
 apply aDo.run H.upto
 conv=>whnf
 refine Get.mk (_,_,_,_) P ?_
 conv=>whnf
 refine Get.mk _ rfl ?_
 conv=>whnf
 rw[e1];refine (rN H.toXBit3 bs hb true n hn vh vn).mono fun v vh' vn' he=>?_;obtain⟨e2,e3,e4⟩:=he;rw[e2,e3,e4];clear e2 e3 e4
 conv=>whnf
 refine Get.mk _ (fun _ _ h=>h) ⟨rfl,rfl,?_⟩;have er:(rkN bs true n:Int)=(aN (bs.take n):Int):=by unfold rkN;rw[if_pos rfl]
 rw[er];have e5:wr .i64 (2*(aN (bs.take n):Int))=2*(aN (bs.take n):Int):=by rw[aF]<;>omega
 have e6:wr .i64 (2*(aN (bs.take n):Int)-((n:Int)-1))=2*(aN (bs.take n):Int)-((n:Int)-1):=by rw[aF]<;>omega
 have e7:wr .i64 (2*(aN (bs.take n):Int)-((n:Int)-1)-1)=ex bs n:=by unfold ex;rw[aF]<;>omega
 rw[e5,e6,e7]
theorem CW(H:XPar X)(hb:bs.length<=4194304)(P:PAt vh b bs ls wide st)(k:Int):
  aE Tryz.prog X G qZ [.ptr b 0,.int .i64 k] vh vn fun v vh' vn'=>vh'=vh/\vn'=vn/\v=.int .i64 (if opB bs k=true then (aN (bs.take k.toNat):Int) else -1):=by
 apply aDd.run H.number
 conv=>whnf
 refine (pU H hb P k).mono fun v vh' vn' he=>?_;obtain⟨e1,e2,e3⟩:=he;rw[e1,e2,e3];clear e1 e2 e3;cases ho:opB bs k with
 |false=>
  conv=>whnf
  exact Get.mk _ (fun _ _ h=>h) ⟨rfl,rfl,rfl⟩
 |true=>
  have hk:0<=k/\k.toNat<bs.length:=by
   unfold opB at ho;split at ho
   ·refine⟨by assumption,Decidable.byContradiction fun h=>?_⟩
    rw[List.getD_eq_getElem?_getD,List.getElem?_eq_none (by omega)] at ho
    cases ho
   ·cases ho
  have hkn:k=((k.toNat:Nat):Int):=by omega
  conv=>whnf
  refine Get.mk (_,_,_,_) P ?_
  conv=>whnf
  refine Get.mk _ rfl ?_
  conv=>whnf
  rw[hkn];refine (rN H.toXBit3 bs hb true k.toNat (by omega) vh vn).mono fun v vh' vn' he=>?_
  obtain⟨e2,e3,e4⟩:=he;rw[e2,e3,e4];clear e2 e3 e4
  conv=>whnf
  refine Get.mk _ (fun _ _ h=>h) ⟨rfl,rfl,?_⟩;have er:(rkN bs true k.toNat:Int)=(aN (bs.take k.toNat):Int):=by unfold rkN;rw[if_pos rfl]
  rw[er,Int.toNat_natCast];rfl
theorem WD(H:XPar X)(hG:G jG=some tzL)(hb:bs.length<=4194304)(P:PAt vh b bs ls wide st)(k:Int):
  aE Tryz.prog X G yG [.ptr b 0,.int .i64 k] vh vn fun v vh' vn'=>vh'=vh/\vn'=vn/\∃p:Int,v=.int .i64 p/\((0<=k/\k.toNat<rkN bs true bs.length/\∃q:Nat,p=(q:Int)/\DG bs true k.toNat q)\/(p= -1/\¬(0<=k/\k.toNat<rkN bs true bs.length))):=by
 apply aDf.run H.place
 conv=>whnf
 refine Get.mk (_,_,_,_) P ?_
 conv=>whnf
 refine Get.mk _ rfl ?_
 conv=>whnf
 by_cases hk:0<=k/\k.toNat<rkN bs true bs.length
 ·have hkn:k=((k.toNat:Nat):Int):=by omega
  have h:=W4 (X:=X) H.toXBit3 hG bs hb k.toNat true hk.2 vh vn;rw[<-hkn] at h;refine h.mono fun v vh' vn' he=>?_;obtain⟨e1,e2,p,e3,e4⟩:=he;rw[e1,e2,e3]
  conv=>whnf
  exact Get.mk _ (fun _ _ h=>h) ⟨rfl,rfl,_,rfl,.inl ⟨hk.1,hk.2,p,rfl,e4⟩⟩
 ·refine (W0 H.toXBit3 bs hb k true (by omega) vh vn).mono fun v vh' vn' he=>?_
  obtain⟨e1,e2,e3⟩:=he;rw[e1,e2,e3]
  conv=>whnf
  exact Get.mk _ (fun _ _ h=>h) ⟨rfl,rfl,_,rfl,.inr ⟨rfl,hk⟩⟩
end
section
theorem PA(bs:List Bool)(i:Nat)(hi:i<bs.length):ex bs (i+1)=ex bs i+(if opB bs (i:Int)=true then 1 else -1):=by
 have e:bs.take (i+1)=bs.take i++[bs[i]]:=(List.take_append_getElem hi).symm;have o:opB bs (i:Int)=bs[i]:=by simp[opB,hi]
 unfold ex;rw[e,AC,o];cases bs[i] with
 |true=>rw[show aN [true]=1 from rfl,if_pos rfl];omega
 |false=>rw[show aN [false]=0 from rfl,if_neg (by decide)];omega
theorem v7(bs:List Bool)(i:Nat):-(i:Int)<=ex bs i/\ex bs i<=i:=by have hc:=mO (bs.take i);rw[List.length_take] at hc;unfold ex;omega
def gC(bs:List Bool)(to:Int):Nat->Nat->Int
 |0,_=>-1
 |m+1,i=>if ex bs (i+1)=to then (i:Int) else gC bs to m (i+1)
theorem DN(bs:List Bool)(to:Int):∀m i,gC bs to m i<0->gC bs to m i= -1
 |0,_,_=>rfl
 |m+1,i,h=>by
  rw[gC] at h ⊢;split
  ·rename_i he;rw[if_pos he] at h;omega
  ·rename_i he;rw[if_neg he] at h;exact DN bs to m (i+1) h
theorem K1(bs:List Bool)(to:Int):∀m i,gC bs to m i<((i+m:Nat):Int)/\ -1<=gC bs to m i
 |0,i=>⟨by rw[gC];omega,Int.le_refl _⟩
 |m+1,i=>by
  rw[gC];split
  ·omega
  ·have:=K1 bs to m (i+1);omega
attribute [local irreducible] aM wd aZ aN pc cX bL rkN cK dF ex
variable {X : Ovr} {G : Gt}
structure XPar2(X:Ovr):Prop extends XPar X where
 ahead:X yK=none
 behind:X uL=none
 fwd:X yM=none
 bwd:X uK=none
variable {b : Nat} {bs : List Bool} {ls : List Int} {wide : Nat} {st : Int} {vh : VH} {vn : Nat}
theorem IR(H:XPar X)(hb:bs.length<=4194304)(P:PAt vh b bs ls wide st)(k:Nat)(hk:k<bs.length)(to:Int)(Q:FQ)(A:Int)
  (hR:0<=A->Q .ret [(6,.int .i64 A)] vh vn)
  (hE:A<0->∀n i t,Q (.exit 0) [(0,.ptr b 0),(1,.int .i64 (k:Int)),(2,.int .i64 to),(7,.int .i64 n),(8,.int .i64 i),(29,.bool t)] vh vn):
  ∀(m i:Nat),min ((k / 64+1)*64) bs.length-i=m->i<=min ((k / 64+1)*64) bs.length->gC bs to m i=A->
  aC Tryz.prog X G (.loop EH) [(0,.ptr b 0),(1,.int .i64 (k:Int)),(2,.int .i64 to),(7,.int .i64 (ex bs i)),(8,.int .i64 (i:Int))] vh vn Q
 |m,i,hm,hi,hA=>by
  have e1:wr .i64 ((wr .i64 (wr .i64 ((k:Int).tdiv 64)+1))*64)=(((k / 64+1)*64:Nat):Int):=by
   have a1:(k:Int).tdiv 64=((k / 64:Nat):Int):=rfl;have a2:wr .i64 ((k / 64:Nat):Int)=((k / 64:Nat):Int):=by rw[aF]<;>omega
   have a3:wr .i64 (((k / 64:Nat):Int)+1)=((k / 64+1:Nat):Int):=by rw[aF]<;>omega
   rw[a1,a2,a3,aF]<;>omega
  refine aC.round ?_
  conv=>whnf
  repeat (refine Owe.mk (by decide) ?_;conv=>whnf)
  rw[e1];refine (CU H P).mono fun v vh' vn' he=>?_;obtain⟨e2,e3,e4⟩:=he;rw[e2,e3,e4];clear e2 e3 e4
  conv=>whnf
  refine aB.mk (fun c1=>?_) (fun c1=>?_)
  ·have c1':i<min ((k / 64+1)*64) bs.length:=by have:=of_decide_eq_true c1;omega
   have hib:i<bs.length:=by omega
   conv=>whnf
   refine (pU H hb P (i:Int)).mono fun v vh' vn' he=>?_;obtain⟨e2,e3,e4⟩:=he;rw[e2,e3,e4];clear e2 e3 e4;have hs:=PA bs i hib;have hB:=v7 bs i;obtain⟨m',rfl⟩:∃m',m=m'+1:=⟨m-1,by omega⟩
   have hi1:wr .i64 ((i:Int)+1)=((i+1:Nat):Int):=by rw[aF]<;>omega
   have hn1:wr .i64 (ex bs i-1)=ex bs i-1:=by rw[aF]<;>omega
   have go:¬ex bs (i+1)=to->aC Tryz.prog X G (.loop EH) [(0,.ptr b 0),(1,.int .i64 (k:Int)),(2,.int .i64 to),(7,.int .i64 (ex bs (i+1))),(8,.int .i64 ((i+1:Nat):Int))] vh vn Q:=fun hne=>IR H hb P k hk to Q A hR hE m' (i+1) (by omega) (by omega) (by rw[<-hA,gC,if_neg hne])
   have ret:ex bs (i+1)=to->Q .ret [(6,.int .i64 (i:Int))] vh vn:=fun he=>by rw[gC,if_pos he] at hA;rw[hA];exact hR (by omega)
   cases ho:opB bs (i:Int) with
   |true=>
    have en:wr .i64 (wr .i64 (ex bs i-1)+2)=ex bs (i+1):=by rw[hs,ho,if_pos rfl,hn1,aF]<;>omega
    conv=>whnf
    rw[en];refine aB.mk (fun c2=>?_) (fun c2=>?_)
    ·conv=>whnf
     exact ret (of_decide_eq_true c2)
    ·conv=>whnf
     rw[hi1];exact go (of_decide_eq_false c2)
   |false=>
    have en:wr .i64 (ex bs i-1)=ex bs (i+1):=by
     rw[hs,ho,if_neg (by decide),hn1]
     rfl
    conv=>whnf
    rw[en];refine aB.mk (fun c2=>?_) (fun c2=>?_)
    ·conv=>whnf
     exact ret (of_decide_eq_true c2)
    ·conv=>whnf
     rw[hi1];exact go (of_decide_eq_false c2)
  ·have c1':i=min ((k / 64+1)*64) bs.length:=by have:=of_decide_eq_false c1;omega
   obtain rfl:m=0:=by omega
   conv=>whnf
   exact hE (by rw[<-hA,gC];decide) _ _ _
termination_by m=>m
decreasing_by all_goals omega
theorem UL(H:XPar2 X)(hb:bs.length<=4194304)(P:PAt vh b bs ls wide st)(k:Nat)(hk:k<bs.length)(to:Int):
  aE Tryz.prog X G yK [.ptr b 0,.int .i64 (k:Int),.int .i64 to] vh vn fun v vh' vn'=>vn'=vn/\(∀c,c≠b->vh' c=vh c)/\PAt vh' b bs ls wide (wr .i64 (st+1))/\v=.int .i64 (gC bs to (min ((k / 64+1)*64) bs.length-(k+1)) (k+1)):=by
 apply aDj.run H.ahead
 conv=>whnf
 refine Get.mk (_,_,_,_) P ?_
 conv=>whnf
 refine Get.mk _ rfl ?_
 conv=>whnf
 refine Get.mk (_,_,_,_) P ?_
 conv=>whnf
 refine⟨⟨(by decide:4<=4),Nat.zero_le _⟩,?_⟩
 conv=>whnf
 generalize hv:aI vh b _=vh1;have P1:PAt vh1 b bs ls wide (wr .i64 (st+1)):=hv▸aK;have F1:∀c,c≠b->vh1 c=vh c:=fun c hc=>hv▸aG hc;have ek:wr .i64 ((k:Int)+1)=((k+1:Nat):Int):=by rw[aF]<;>omega
 refine (rK H.toXPar hb P1 (k+1) (by omega) (k:Int) (by omega)).mono fun v vh' vn' he=>?_
 obtain⟨e2,e3,e4⟩:=he;rw[e2,e3,e4];clear e2 e3 e4
 conv=>whnf
 rw[ek];refine IR H.toXPar hb P1 k hk to _ _ ?_ ?_ _ (k+1) rfl (by omega) rfl
 ·intro hA
  conv=>whnf
  exact Get.mk _ (fun _ _ h=>h) ⟨rfl,F1,P1,rfl⟩
 ·intro hA n i t
  conv=>whnf
  exact Get.mk _ (fun _ _ h=>h) ⟨rfl,F1,P1,congrArg _ (by have:=DN bs to (min ((k / 64+1)*64) bs.length-(k+1)) (k+1) hA;exact this.symm)⟩
end
section
def iT(bs:List Bool)(to:Int):Nat->Int
 |0=>-2
 |m+1=>if ex bs (m+1)=to then (m:Int) else iT bs to m
theorem zY(bs:List Bool)(to:Int):∀m,iT bs to m<(m:Int)/\(0<=iT bs to m\/iT bs to m= -2)
 |0=>⟨by rw[iT];omega,.inr rfl⟩
 |m+1=>by
  rw[iT];split
  ·omega
  ·have:=zY bs to m;omega
def gR(bs:List Bool)(to:Int)(k:Nat):Int:=if 0<=iT bs to k then iT bs to k else if to=0 then -1 else -2
attribute [local irreducible] aM wd aZ aN pc cX bL rkN cK dF ex
variable {X : Ovr} {G : Gt}
variable {b : Nat} {bs : List Bool} {ls : List Int} {wide : Nat} {st : Int} {vh : VH} {vn : Nat}
theorem IU(H:XPar X)(hb:bs.length<=4194304)(P:PAt vh b bs ls wide st)(to:Int)(Q:FQ)(A:Int)
  (hR:0<=A->Q .ret [(8,.int .i64 A)] vh vn)
  (hE:A= -2->∀n i t,Q (.exit 0) [(0,.ptr b 0),(2,.int .i64 0),(3,.int .i64 to),(9,.int .i64 n),(10,.int .i64 i),(25,.bool t)] vh vn):
  ∀(m:Nat),m<bs.length->iT bs to m=A->
  aC Tryz.prog X G (.loop EI) [(0,.ptr b 0),(2,.int .i64 0),(3,.int .i64 to),(9,.int .i64 (ex bs (m+1))),(10,.int .i64 ((m:Int)-1))] vh vn Q
 |0,hm,hA=>by
  refine aC.round ?_
  conv=>whnf
  exact hE (by rw[<-hA];rfl) _ _ _
 |m+1,hm,hA=>by
  have hs:=PA bs (m+1) hm;have hB:=v7 bs (m+2);have hB':=v7 bs (m+1);have e0:((m+1:Nat):Int)-1=(m:Int):=by omega
  have hi1:wr .i64 ((m:Int)+1)=((m+1:Nat):Int):=by rw[aF]<;>omega
  have hd1:wr .i64 ((m:Int)-1)=(m:Int)-1:=by rw[aF]<;>omega
  have hn1:wr .i64 (ex bs (m+1+1)+1)=ex bs (m+1+1)+1:=by rw[aF]<;>omega
  rw[e0];refine aC.round ?_
  conv=>whnf
  rw[hi1];refine (pU H hb P ((m+1:Nat):Int)).mono fun v vh' vn' he=>?_;obtain⟨e2,e3,e4⟩:=he;rw[e2,e3,e4];clear e2 e3 e4;have go:¬ex bs (m+1)=to->aC Tryz.prog X G (.loop EI) [(0,.ptr b 0),(2,.int .i64 0),(3,.int .i64 to),(9,.int .i64 (ex bs (m+1))),(10,.int .i64 ((m:Int)-1))] vh vn Q:=fun hne=>IU H hb P to Q A hR hE m (by omega) (by rw[<-hA,iT,if_neg hne])
  have ret:ex bs (m+1)=to->Q .ret [(8,.int .i64 (m:Int))] vh vn:=fun he=>by rw[iT,if_pos he] at hA;rw[hA];exact hR (by omega)
  cases ho:opB bs ((m+1:Nat):Int) with
  |true=>
   have en:wr .i64 (wr .i64 (ex bs (m+1+1)+1)-2)=ex bs (m+1):=by rw[hn1,hs,ho,if_pos rfl,aF]<;>omega
   conv=>whnf
   rw[en];refine aB.mk (fun c2=>?_) (fun c2=>?_)
   ·conv=>whnf
    exact ret (of_decide_eq_true c2)
   ·conv=>whnf
    rw[hd1];exact go (of_decide_eq_false c2)
  |false=>
   have en:wr .i64 (ex bs (m+1+1)+1)=ex bs (m+1):=by
    rw[hn1,hs,ho,if_neg (by decide)]
    omega
   conv=>whnf
   rw[en];refine aB.mk (fun c2=>?_) (fun c2=>?_)
   ·conv=>whnf
    exact ret (of_decide_eq_true c2)
   ·conv=>whnf
    rw[hd1];exact go (of_decide_eq_false c2)
theorem UQ(H:XPar2 X)(hb:bs.length<=4194304)(P:PAt vh b bs ls wide st)(k:Nat)(hk:k<bs.length)(to:Int):
  aE Tryz.prog X G uL [.ptr b 0,.int .i64 (k:Int),.int .i64 0,.int .i64 to] vh vn fun v vh' vn'=>vn'=vn/\(∀c,c≠b->vh' c=vh c)/\PAt vh' b bs ls wide (wr .i64 (st+1))/\v=.int .i64 (iT bs to k):=by
 apply aDl.run H.behind
 conv=>whnf
 refine Get.mk (_,_,_,_) P ?_
 conv=>whnf
 refine Get.mk _ rfl ?_
 conv=>whnf
 refine Get.mk (_,_,_,_) P ?_
 conv=>whnf
 refine⟨⟨(by decide:4<=4),Nat.zero_le _⟩,?_⟩
 conv=>whnf
 generalize hv:aI vh b _=vh1;have P1:PAt vh1 b bs ls wide (wr .i64 (st+1)):=hv▸aK;have F1:∀c,c≠b->vh1 c=vh c:=fun c hc=>hv▸aG hc;have ek:wr .i64 ((k:Int)-1)=(k:Int)-1:=by rw[aF]<;>omega
 refine (rK H.toXPar hb P1 (k+1) (by omega) (k:Int) (by omega)).mono fun v vh' vn' he=>?_
 obtain⟨e2,e3,e4⟩:=he;rw[e2,e3,e4];clear e2 e3 e4
 conv=>whnf
 rw[ek];refine IU H.toXPar hb P1 to _ _ ?_ ?_ k hk rfl
 ·intro hA
  conv=>whnf
  exact Get.mk _ (fun _ _ h=>h) ⟨rfl,F1,P1,rfl⟩
 ·intro hA n i t
  conv=>whnf
  exact Get.mk _ (fun _ _ h=>h) ⟨rfl,F1,P1,congrArg _ hA.symm⟩
theorem IS(H:XPar2 X)(hb:bs.length<=64)(P:PAt vh b bs ls 1 st)(k:Nat)(hk:k<bs.length)(to:Int):
  aE Tryz.prog X G uK [.ptr b 0,.int .i64 (k:Int),.int .i64 to] vh vn fun v vh' vn'=>vn'=vn/\(∀c,c≠b->vh' c=vh c)/\PAt vh' b bs ls 1 (wr .i64 (st+1))/\v=.int .i64 (gR bs to k):=by
 have e1:wr .i64 ((k:Int).tdiv 64)=0:=by
  have a1:(k:Int).tdiv 64=((k / 64:Nat):Int):=rfl;rw[a1,show k / 64=0 by omega]
  rfl
 apply aDk.run H.bwd
 conv=>whnf
 repeat (refine Owe.mk (by decide) ?_;conv=>whnf)
 rw[e1];refine (UQ H (by omega) P k hk to).mono fun v vh' vn' he=>?_
 obtain⟨e2,F1,P1,e4⟩:=he;rw[e2,e4];clear e2 e4;have hlt:=zY bs to k
 conv=>whnf
 refine aB.mk (fun c1=>?_) (fun c1=>?_)
 ·conv=>whnf
  have hA:iT bs to k=gR bs to k:=by have:=of_decide_eq_true c1;rw[gR,if_pos this]
  exact Get.mk _ (fun _ _ h=>h) ⟨rfl,F1,P1,congrArg _ hA⟩
 ·have c1':=of_decide_eq_false c1
  conv=>whnf
  refine Get.mk (_,_,_,_) P1 ?_
  conv=>whnf
  refine Get.mk _ rfl ?_
  conv=>whnf
  conv=>whnf
  repeat (refine Owe.mk (by decide) ?_;conv=>whnf)
  rw[e1]
  conv=>whnf
  refine aC.round ?_
  conv=>whnf
  refine aC.round ?_
  conv=>whnf
  repeat (refine Owe.mk (by decide) ?_;conv=>whnf)
  refine aB.mk (fun c2=>?_) (fun c2=>?_)
  ·have hA:-1=gR bs to k:=by rw[gR,if_neg c1',if_pos (of_decide_eq_true c2)]
   conv=>whnf
   exact Get.mk _ (fun _ _ h=>h) ⟨rfl,F1,P1,congrArg _ hA⟩
  ·have hA:-2=gR bs to k:=by rw[gR,if_neg c1',if_neg (of_decide_eq_false c2)]
   conv=>whnf
   exact Get.mk _ (fun _ _ h=>h) ⟨rfl,F1,P1,congrArg _ hA⟩
theorem VF(H:XPar2 X)(hb:bs.length<=64)(P:PAt vh b bs ls 1 st)(k:Nat)(hk:k<bs.length)(to:Int):
  aE Tryz.prog X G yM [.ptr b 0,.int .i64 (k:Int),.int .i64 to] vh vn fun v vh' vn'=>vn'=vn/\(∀c,c≠b->vh' c=vh c)/\PAt vh' b bs ls 1 (wr .i64 (st+1))/\v=.int .i64 (gC bs to (bs.length-(k+1)) (k+1)):=by
 have e1:wr .i64 ((k:Int).tdiv 64)=0:=by
  have a1:(k:Int).tdiv 64=((k / 64:Nat):Int):=rfl;rw[a1,show k / 64=0 by omega]
  rfl
 have e2:min ((k / 64+1)*64) bs.length=bs.length:=by omega
 apply aDn.run H.fwd
 conv=>whnf
 refine (UL H (by omega) P k hk to).mono fun v vh' vn' he=>?_
 rw[e2] at he;obtain⟨e2,F1,P1,e4⟩:=he;rw[e2,e4];clear e2 e4;have hng:=DN bs to (bs.length-(k+1)) (k+1)
 conv=>whnf
 refine aB.mk (fun c1=>?_) (fun c1=>?_)
 ·conv=>whnf
  exact Get.mk _ (fun _ _ h=>h) ⟨rfl,F1,P1,rfl⟩
 ·have c1':=of_decide_eq_false c1;have hA:=hng (by omega)
  conv=>whnf
  refine Get.mk (_,_,_,_) P1 ?_
  conv=>whnf
  refine Get.mk _ rfl ?_
  conv=>whnf
  conv=>whnf
  repeat (refine Owe.mk (by decide) ?_;conv=>whnf)
  rw[e1]
  conv=>whnf
  refine aC.round ?_
  conv=>whnf
  refine aC.round ?_
  conv=>whnf
  repeat (refine Owe.mk (by decide) ?_;conv=>whnf)
  exact Get.mk _ (fun _ _ h=>h) ⟨rfl,F1,P1,congrArg _ hA.symm⟩
end
section
theorem G1{bs:List Bool}{k:Int}(ho:opB bs k=true):∃n:Nat,k=(n:Int)/\n<bs.length:=by
 unfold opB at ho;split at ho
 ·refine⟨k.toNat,by omega,Decidable.byContradiction fun h=>?_⟩
  rw[List.getD_eq_getElem?_getD,List.getElem?_eq_none (by omega)] at ho
  cases ho
 ·cases ho
def gE(bs:List Bool)(k:Nat):Int:=gC bs (ex bs (k+1)-1) (bs.length-(k+1)) (k+1)
theorem aJ1:∀x:Int,(-1000000<=x-> -1000000<=x.tdiv 2)/\(x<=1000000->x.tdiv 2<=1000000)
 |.ofNat n=>by rw[show (Int.ofNat n).tdiv 2=((n / 2:Nat):Int) from rfl,show Int.ofNat n=(n:Int) from rfl];omega
 |.negSucc n=>by rw[show (Int.negSucc n).tdiv 2= -(((n+1) / 2:Nat):Int) from rfl,Int.negSucc_eq];omega
attribute [local irreducible] aM wd aZ aN pc cX bL rkN cK dF ex
variable {X : Ovr} {G : Gt}
structure XPar3(X:Ovr):Prop extends XPar2 X where
 close:X uJ=none
 begin_:X yE=none
 up:X yJ=none
 enclose:X yF=none
 span:X yH=none
 steps:X yI=none
variable {b : Nat} {bs : List Bool} {ls : List Int} {wide : Nat} {st : Int} {vh : VH} {vn : Nat}
theorem XG(H:XPar3 X)(P:PAt vh b bs ls wide st):
  aE Tryz.prog X G yI [.ptr b 0] vh vn fun v vh' vn'=>vh'=vh/\vn'=vn/\v=.int .i64 st:=by
 apply aDh.run H.steps
 conv=>whnf
 refine Get.mk (_,_,_,_) P ?_
 conv=>whnf
 refine Get.mk _ rfl ?_
 conv=>whnf
 exact Get.mk _ (fun _ _ h=>h) ⟨rfl,rfl,rfl⟩
theorem IW(H:XPar3 X)(hb:bs.length<=64)(P:PAt vh b bs ls 1 st)(k:Int):
  aE Tryz.prog X G uJ [.ptr b 0,.int .i64 k] vh vn fun v vh' vn'=>vn'=vn/\(∀c,c≠b->vh' c=vh c)/\PAt vh' b bs ls 1 (if opB bs k=true then 1 else 0)/\v=.int .i64 (if opB bs k=true then gE bs k.toNat else -1):=by
 apply aDa.run H.close
 conv=>whnf
 refine Get.mk (_,_,_,_) P ?_
 conv=>whnf
 refine⟨⟨(by decide:4<=4),Nat.zero_le _⟩,?_⟩
 conv=>whnf
 generalize hv:aI vh b _=vh1;have P1:PAt vh1 b bs ls 1 0:=hv▸aK;have F1:∀c,c≠b->vh1 c=vh c:=fun c hc=>hv▸aG hc;refine (pU H.toXPar (by omega) P1 k).mono fun v vh' vn' he=>?_
 obtain⟨e2,e3,e4⟩:=he;rw[e2,e3,e4];clear e2 e3 e4;cases ho:opB bs k with
 |false=>
  conv=>whnf
  exact Get.mk _ (fun _ _ h=>h) ⟨rfl,F1,P1,rfl⟩
 |true=>
  obtain⟨n,rfl,hn⟩:=G1 ho;have hB:=v7 bs (n+1);have e1:wr .i64 (ex bs (n+1)-1)=ex bs (n+1)-1:=by rw[aF]<;>omega
  conv=>whnf
  refine (rK H.toXPar (by omega) P1 (n+1) (by omega) (n:Int) (by omega)).mono fun v vh' vn' he=>?_
  obtain⟨e2,e3,e4⟩:=he;rw[e2,e3,e4];clear e2 e3 e4
  conv=>whnf
  rw[e1];refine (VF H.toXPar2 hb P1 n hn _).mono fun v vh' vn' he=>?_;obtain⟨e2,F2,P2,e4⟩:=he;rw[e2,e4];clear e2 e4
  conv=>whnf
  exact Get.mk _ (fun _ _ h=>h) ⟨rfl,fun c hc=>(F2 c hc).trans (F1 c hc),P2,rfl⟩
theorem XB(H:XPar3 X)(hb:bs.length<=64)(P:PAt vh b bs ls 1 st)(k:Int):
  aE Tryz.prog X G yH [.ptr b 0,.int .i64 k] vh vn fun v vh' vn'=>vn'=vn/\(∀c,c≠b->vh' c=vh c)/\PAt vh' b bs ls 1 (if opB bs k=true then 1 else st)/\v=.int .i64 (if opB bs k=true then (gE bs k.toNat-k+1).tdiv 2 else 0):=by
 apply aDg.run H.span
 conv=>whnf
 refine (pU H.toXPar (by omega) P k).mono fun v vh' vn' he=>?_
 obtain⟨e2,e3,e4⟩:=he;rw[e2,e3,e4];clear e2 e3 e4;have hC:=IW (G:=G) (vn:=vn) H hb P k;cases ho:opB bs k with
 |false=>
  conv=>whnf
  exact Get.mk _ (fun _ _ h=>h) ⟨rfl,fun _ _=>rfl,P,rfl⟩
 |true=>
  rw[ho] at hC;obtain⟨n,rfl,hn⟩:=G1 ho
  conv=>whnf
  refine hC.mono fun v vh' vn' he=>?_;obtain⟨e2,F2,P2,e4⟩:=he;rw[e2,e4];clear e2 e4;have hl:=K1 bs (ex bs (n+1)-1) (bs.length-(n+1)) (n+1);rw[show gC bs (ex bs (n+1)-1) (bs.length-(n+1)) (n+1)=gE bs n from rfl] at hl;have ht:=aJ1 (gE bs n-n+1);have e1:wr .i64 ((wr .i64 (wr .i64 (gE bs n-n)+1)).tdiv 2)=(gE bs n-n+1).tdiv 2:=by
   rw[show wr .i64 (gE bs n-n)=gE bs n-n by rw[aF]<;>omega,show wr .i64 (gE bs n-n+1)=gE bs n-n+1 by rw[aF]<;>omega,aF]
   ·omega
   ·omega
  conv=>whnf
  repeat (refine Owe.mk (by decide) ?_;conv=>whnf)
  refine Get.mk _ (fun _ _ h=>h) ⟨rfl,F2,P2,?_⟩;rw[if_pos rfl,if_pos rfl,Int.toNat_natCast,e1]
theorem UU(H:XPar3 X)(hb:bs.length<=64)(P:PAt vh b bs ls wide st)(k:Int):
  aE Tryz.prog X G yL [.ptr b 0,.int .i64 k] vh vn fun v vh' vn'=>vh'=vh/\vn'=vn/\v=.bool (decide (0<=k)&&decide (k<bs.length)&&!opB bs k):=by
 apply aDm.run H.closes
 conv=>whnf
 refine aB.mk (fun c1=>?_) (fun c1=>?_)
 ·conv=>whnf
  refine (CU H.toXPar P).mono fun v vh' vn' he=>?_;obtain⟨e2,e3,e4⟩:=he;rw[e2,e3,e4];clear e2 e3 e4
  conv=>whnf
  refine aB.mk (fun c2=>?_) (fun c2=>?_)
  ·conv=>whnf
   refine (pU H.toXPar (by omega) P k).mono fun v vh' vn' he=>?_
   obtain⟨e2,e3,e4⟩:=he;rw[e2,e3,e4];clear e2 e3 e4
   conv=>whnf
   refine Get.mk _ (fun _ _ h=>h) ⟨rfl,rfl,?_⟩;have c2':decide (k<bs.length)=true:=c2;rw[c1,c2'];rfl
  ·conv=>whnf
   refine Get.mk _ (fun _ _ h=>h) ⟨rfl,rfl,?_⟩;have c2':decide (k<bs.length)=false:=c2;rw[c1,c2'];rfl
 ·conv=>whnf
  refine Get.mk _ (fun _ _ h=>h) ⟨rfl,rfl,?_⟩;rw[c1];rfl
def pX(bs:List Bool)(k:Nat):Int:=max (gR bs (ex bs (k+1)) k+1) (-1)
def clB(bs:List Bool)(k:Int):Bool:=decide (0<=k)&&decide (k<bs.length)&&!opB bs k
theorem UP(H:XPar3 X)(hb:bs.length<=64)(P:PAt vh b bs ls 1 st)(k:Int):
  aE Tryz.prog X G yE [.ptr b 0,.int .i64 k] vh vn fun v vh' vn'=>vn'=vn/\(∀c,c≠b->vh' c=vh c)/\PAt vh' b bs ls 1 (if clB bs k=true then 1 else 0)/\v=.int .i64 (if clB bs k=true then pX bs k.toNat else -1):=by
 apply aD9.run H.begin_
 conv=>whnf
 refine Get.mk (_,_,_,_) P ?_
 conv=>whnf
 refine⟨⟨(by decide:4<=4),Nat.zero_le _⟩,?_⟩
 conv=>whnf
 generalize hv:aI vh b _=vh1;have P1:PAt vh1 b bs ls 1 0:=hv▸aK;have F1:∀c,c≠b->vh1 c=vh c:=fun c hc=>hv▸aG hc;refine (UU H hb P1 k).mono fun v vh' vn' he=>?_;obtain⟨e2,e3,e4⟩:=he;rw[show (decide (0<=k)&&decide (k<bs.length)&&!opB bs k)=clB bs k from rfl] at e4;rw[e2,e3,e4];clear e2 e3 e4;cases ho:clB bs k with
 |false=>
  conv=>whnf
  exact Get.mk _ (fun _ _ h=>h) ⟨rfl,F1,P1,rfl⟩
 |true=>
  obtain⟨n,rfl,hn⟩:∃n:Nat,k=(n:Int)/\n<bs.length:=by simp only[clB,Bool.and_eq_true,decide_eq_true_eq] at ho;exact⟨k.toNat,by omega,by omega⟩
  have hl:=zY bs (ex bs (n+1)) n;have e1:wr .i64 (gR bs (ex bs (n+1)) n+1)=gR bs (ex bs (n+1)) n+1:=by
   unfold gR;split
   ·rw[aF]<;>omega
   ·split<;>rfl
  conv=>whnf
  refine (rK H.toXPar (by omega) P1 (n+1) (by omega) (n:Int) (by omega)).mono fun v vh' vn' he=>?_
  obtain⟨e2,e3,e4⟩:=he;rw[e2,e3,e4];clear e2 e3 e4
  conv=>whnf
  refine (IS H.toXPar2 hb P1 n hn _).mono fun v vh' vn' he=>?_;obtain⟨e2,F2,P2,e4⟩:=he;rw[e2,e4];clear e2 e4
  conv=>whnf
  rw[e1];refine Get.mk _ (fun _ _ h=>h) ⟨rfl,fun c hc=>(F2 c hc).trans (F1 c hc),P2,?_⟩;rw[if_pos rfl];rfl
def upN(bs:List Bool)(k:Nat)(n:Int):Int:=if n<0\/ex bs (k+1)<=n then -1 else if n=0 then k else gR bs (ex bs (k+1)-1-n) k+1
theorem XX(H:XPar3 X)(hb:bs.length<=64)(P:PAt vh b bs ls 1 st)(k n:Int):
  aE Tryz.prog X G yJ [.ptr b 0,.int .i64 k,.int .i64 n] vh vn fun v vh' vn'=>vn'=vn/\(∀c,c≠b->vh' c=vh c)/\(∃st',PAt vh' b bs ls 1 st'/\0<=st'/\st'<=1)/\v=.int .i64 (if opB bs k=true then upN bs k.toNat n else -1):=by
 apply aDi.run H.up
 conv=>whnf
 refine Get.mk (_,_,_,_) P ?_
 conv=>whnf
 refine⟨⟨(by decide:4<=4),Nat.zero_le _⟩,?_⟩
 conv=>whnf
 generalize hv:aI vh b _=vh1;have P1:PAt vh1 b bs ls 1 0:=hv▸aK;have F1:∀c,c≠b->vh1 c=vh c:=fun c hc=>hv▸aG hc;refine (pU H.toXPar (by omega) P1 k).mono fun v vh' vn' he=>?_
 obtain⟨e2,e3,e4⟩:=he;rw[e2,e3,e4];clear e2 e3 e4;have fin:∀(A:Int),(if opB bs k=true then upN bs k.toNat n else -1)=A->∀(vh2:VH) (st':Int),PAt vh2 b bs ls 1 st'->(0<=st'/\st'<=1)->(∀c,c≠b->vh2 c=vh1 c)->(vn=vn/\(∀c,c≠b->vh2 c=vh c)/\(∃st',PAt vh2 b bs ls 1 st'/\0<=st'/\st'<=1)/\V.int .i64 A=.int .i64 (if opB bs k=true then upN bs k.toNat n else -1)):=fun A hA vh2 st' p2 h2 f2=>⟨rfl,fun c hc=>(f2 c hc).trans (F1 c hc),⟨st',p2,h2⟩,congrArg _ hA.symm⟩
 cases ho:opB bs k with
 |false=>
  rw[ho] at fin
  conv=>whnf
  exact Get.mk _ (fun _ _ h=>h) (fin _ rfl _ _ P1 (by decide) fun _ _=>rfl)
 |true=>
  rw[ho] at fin;obtain⟨m,rfl,hn⟩:=G1 ho;have hB:=v7 bs (m+1)
  conv=>whnf
  refine aB.mk (fun c1=>?_) (fun c1=>?_)
  ·have c1':n<0:=of_decide_eq_true c1
   conv=>whnf
   exact Get.mk _ (fun _ _ h=>h) (fin _ (by rw[if_pos rfl,Int.toNat_natCast,upN,if_pos (.inl c1')]) _ _ P1 (by decide) fun _ _=>rfl)
  ·have c1':¬n<0:=of_decide_eq_false c1
   conv=>whnf
   refine (rK H.toXPar (by omega) P1 (m+1) (by omega) (m:Int) (by omega)).mono fun v vh' vn' he=>?_
   obtain⟨e2,e3,e4⟩:=he;rw[e2,e3,e4];clear e2 e3 e4
   conv=>whnf
   refine aB.mk (fun c2=>?_) (fun c2=>?_)
   ·have c2':ex bs (m+1)<=n:=of_decide_eq_true c2
    conv=>whnf
    exact Get.mk _ (fun _ _ h=>h) (fin _ (by rw[if_pos rfl,Int.toNat_natCast,upN,if_pos (.inr c2')]) _ _ P1 (by decide) fun _ _=>rfl)
   ·have c2':¬ex bs (m+1)<=n:=of_decide_eq_false c2;have c12:¬(n<0\/ex bs (m+1)<=n):=fun h=>h.elim c1' c2'
    conv=>whnf
    refine aB.mk (fun c3=>?_) (fun c3=>?_)
    ·conv=>whnf
     exact Get.mk _ (fun _ _ h=>h) (fin _ (by rw[if_pos rfl,Int.toNat_natCast,upN,if_neg c12,if_pos (of_decide_eq_true c3)]) _ _ P1 (by decide) fun _ _=>rfl)
    ·have c3':¬n=0:=of_decide_eq_false c3;have ea:wr .i64 (wr .i64 (ex bs (m+1)-1)-n)=ex bs (m+1)-1-n:=by rw[show wr .i64 (ex bs (m+1)-1)=ex bs (m+1)-1 by rw[aF]<;>omega,aF]<;>omega
     conv=>whnf
     refine (rK H.toXPar (by omega) P1 (m+1) (by omega) (m:Int) (by omega)).mono fun v vh' vn' he=>?_
     obtain⟨e2,e3,e4⟩:=he;rw[e2,e3,e4];clear e2 e3 e4
     conv=>whnf
     rw[ea];have hl:=zY bs (ex bs (m+1)-1-n) m;have e1:wr .i64 (gR bs (ex bs (m+1)-1-n) m+1)=gR bs (ex bs (m+1)-1-n) m+1:=by
      unfold gR;split
      ·rw[aF]<;>omega
      ·split<;>rfl
     refine (IS H.toXPar2 hb P1 m hn _).mono fun v vh' vn' he=>?_;obtain⟨e2,F2,P2,e4⟩:=he;rw[e2,e4];clear e2 e4
     conv=>whnf
     rw[e1];exact Get.mk _ (fun _ _ h=>h) (fin _ (by rw[if_pos rfl,Int.toNat_natCast,upN,if_neg c12,if_neg c3']) _ _ P2 (by decide) F2)
theorem UX(H:XPar3 X)(hb:bs.length<=64)(P:PAt vh b bs ls 1 st)(k:Int):
  aE Tryz.prog X G yF [.ptr b 0,.int .i64 k] vh vn fun v vh' vn'=>vn'=vn/\(∀c,c≠b->vh' c=vh c)/\(∃st',PAt vh' b bs ls 1 st'/\0<=st'/\st'<=1)/\v=.int .i64 (if opB bs k=true then upN bs k.toNat 1 else -1):=by
 apply aDb.run H.enclose
 conv=>whnf
 refine (XX H hb P k 1).mono fun v vh' vn' he=>?_;obtain⟨e2,F2,P2,e4⟩:=he;rw[e2,e4];clear e2 e4
 conv=>whnf
 exact Get.mk _ (fun _ _ h=>h) ⟨rfl,F2,P2,rfl⟩
end
section
def jQ:List Bool->Int->Bool
 |[],n=>decide (n=0)
 |o::l,n=>if (if o then n+1 else n-1)<0 then false else jQ l (if o then n+1 else n-1)
attribute [local irreducible] aM wd aZ aN pc cX bL rkN cK dF ex
variable {X : Ovr} {G : Gt}
structure XPar4(X:Ovr):Prop extends XPar3 X where
 may:X yC=none
 pnew:X yD=none
variable {vh : VH} {vn : Nat}
theorem CV(bs:List Bool)(hb:bs.length<=4194304)(c:Option Nat)(vh:VH)(vn:Nat)(Q:FQ)(A:Bool)
  (hR:A=false->Q .ret [(2,.bool false)] vh vn)
  (hE:∀(n i:Int) t,A=decide (n=0)->Q (.exit 0) [(3,.int .i64 n),(6,.sl 1 (bs.map bS) c),(7,.int .i64 (bs.length:Int)),(8,.int .i64 i),(9,.bool t)] vh vn):
  ∀(m i:Nat),bs.length-i=m->i<=bs.length->∀n:Int,0<=n->n<=i->jQ (bs.drop i) n=A->
  aC Tryz.prog X G (.loop MH) [(3,.int .i64 n),(6,.sl 1 (bs.map bS) c),(7,.int .i64 (bs.length:Int)),(8,.int .i64 (i:Int))] vh vn Q
 |m,i,hm,hi,n,hn,hni,hA=>by
  refine aC.round ?_
  conv=>whnf
  refine aB.mk (fun h1=>?_) (fun h1=>?_)
  ·have hlt:i<bs.length:=by have:=of_decide_eq_true h1;omega
   have e:wr .i64 ((i:Int)+1)=((i+1:Nat):Int):=by rw[aF]<;>omega
   have hd:bs.drop i=bs[i]::bs.drop (i+1):=(List.getElem_cons_drop hlt).symm;rw[hd,jQ] at hA;have en:wr .i64 (n-1)=n-1:=by rw[aF]<;>omega
   conv=>whnf
   refine Get.mk (i,bS bs[i]) ⟨rfl,by simp[hlt]⟩ ?_
   cases ho:bs[i] with
   |true=>
    rw[ho,show (if true=true then n+1 else n-1)=n+1 from rfl,if_neg (by omega)] at hA
    have en2:wr .i64 (wr .i64 (n-1)+2)=n+1:=by rw[en,aF]<;>omega
    conv=>whnf
    rw[en2];refine aB.mk (fun h2=>?_) (fun h2=>?_)
    ·exact absurd (of_decide_eq_true h2) (by omega)
    ·conv=>whnf
     rw[e];exact CV bs hb c vh vn Q A hR hE (m-1) (i+1) (by omega) (by omega) (n+1) (by omega) (by omega) hA
   |false=>
    rw[ho,show (if false=true then n+1 else n-1)=n-1 from rfl] at hA
    conv=>whnf
    rw[en];refine aB.mk (fun h2=>?_) (fun h2=>?_)
    ·conv=>whnf
     rw[if_pos (of_decide_eq_true h2)] at hA;exact hR hA.symm
    ·have h2':=of_decide_eq_false h2;rw[if_neg h2'] at hA
     conv=>whnf
     rw[e];exact CV bs hb c vh vn Q A hR hE (m-1) (i+1) (by omega) (by omega) (n-1) (by omega) (by omega) hA
  ·have hlt:i=bs.length:=by have:=of_decide_eq_false h1;omega
   rw[hlt,List.drop_length] at hA
   conv=>whnf
   exact hE n _ _ hA.symm
termination_by m=>m
decreasing_by all_goals omega
theorem WA(H:XPar4 X)(bs:List Bool)(hb:bs.length<=4194304)(c:Option Nat):
  aE Tryz.prog X G yC [.sl 1 (bs.map bS) c] vh vn fun v vh' vn'=>vh'=vh/\vn'=vn/\v=.bool (jQ bs 0):=by
 have hlen:Int.ofNat (bs.map bS).length=(bs.length:Int):=by simp
 apply aD7.run H.may
 conv=>whnf
 rw[hlen];refine CV bs hb c vh vn _ (jQ bs 0) ?_ ?_ _ 0 rfl (Nat.zero_le _) 0 (by decide) (by decide) rfl
 ·intro hA
  conv=>whnf
  exact Get.mk _ (fun _ _ h=>h) ⟨rfl,rfl,by rw[hA]⟩
 ·intro n i t hA
  conv=>whnf
  exact Get.mk _ (fun _ _ h=>h) ⟨rfl,rfl,by rw[hA]⟩
end
section
attribute [local irreducible] aM wd aZ aN pc cX bL rkN cK dF ex
variable {X : Ovr} {G : Gt}
variable {vh : VH} {vn : Nat}
theorem OU(x:Int):(eR x).length=1:=rfl
def PB(vh:VH)(b:Nat)(bs:List Bool):Prop:=vh b=some (.cells [iD bs,.nili,.int .i64 1,.int .i64 0] DJ 0 false)
def LB(vh:VH)(b:Nat)(x:Int):Prop:=vh b=some (.cells [.int .i64 0,.int .i64 x] b9 0 false)
theorem JS(bs:List Bool)(hb:bs.length<=64)(c:Option Nat)(b bl:Nat)(hne:b≠bl)(vh0:VH)(vn:Nat)(Q:FQ)
  (hQ:∀vh' x n i t,PB vh' b bs->LB vh' bl x->(∀c,c≠bl->vh' c=vh0 c)->Q (.exit 4) [(6,.ptr b 0),(7,.msl bl 0 2 1 (some 2)),(9,.int .i64 n),(71,.sl 1 (bs.map bS) c),(72,.int .i64 (bs.length:Int)),(73,.int .i64 i),(74,.bool t)] vh' vn):
  ∀(m i:Nat),bs.length-i=m->i<=bs.length->∀(x n:Int) (vh:VH),-(i:Int)<=n->n<=i->PB vh b bs->LB vh bl x->(∀c,c≠bl->vh c=vh0 c)->
  aC Tryz.prog X G (.loop EG) [(6,.ptr b 0),(7,.msl bl 0 2 1 (some 2)),(9,.int .i64 n),(71,.sl 1 (bs.map bS) c),(72,.int .i64 (bs.length:Int)),(73,.int .i64 (i:Int))] vh vn Q
 |m,i,hm,hi,x,n,vh,hn,hni,P,L,F=>by
  refine aC.round ?_
  conv=>whnf
  refine aB.mk (fun h1=>?_) (fun h1=>?_)
  ·have hlt:i<bs.length:=by have:=of_decide_eq_true h1;omega
   have e:wr .i64 ((i:Int)+1)=((i+1:Nat):Int):=by rw[aF]<;>omega
   have en:wr .i64 (n-1)=n-1:=by rw[aF]<;>omega
   have en2:wr .i64 (wr .i64 (n-1)+2)=n+1:=by rw[en,aF]<;>omega
   have eq:wr .i64 (1+wr .i64 ((i:Int).tdiv 64))=1:=by
    have a1:(i:Int).tdiv 64=((i / 64:Nat):Int):=rfl;rw[a1,show i / 64=0 by omega]
    rfl
   have nxt:∀(n' x':Int) (vh2:VH),-((i+1:Nat):Int)<=n'->n'<=((i+1:Nat):Int)->LB vh2 bl x'->(∀c,c≠bl->vh2 c=vh c)->aC Tryz.prog X G (.loop EG) [(6,.ptr b 0),(7,.msl bl 0 2 1 (some 2)),(9,.int .i64 n'),(71,.sl 1 (bs.map bS) c),(72,.int .i64 (bs.length:Int)),(73,.int .i64 ((i+1:Nat):Int))] vh2 vn Q:=fun n' x' vh2 h1 h2 l2 f2=>JS bs hb c b bl hne vh0 vn Q hQ (m-1) (i+1) (by omega) (by omega) x' n' vh2 h1 h2 ((f2 b hne).trans P) l2 fun d hd=>(f2 d hd).trans (F d hd)
   conv=>whnf
   refine Get.mk (i,bS bs[i]) ⟨rfl,by simp[hlt]⟩ ?_
   cases ho:bs[i] with
   |true=>
    conv=>whnf
    rw[en2];refine Get.mk (_,_,_,_) P ?_
    conv=>whnf
    refine Get.mk _ rfl ?_
    conv=>whnf
    conv=>whnf
    repeat (refine Owe.mk (by decide) ?_;conv=>whnf)
    rw[eq]
    conv=>whnf
    refine Get.mk 1 ⟨rfl,by decide⟩ ?_
    conv=>whnf
    refine Get.mk (_,_,_,_) L ?_
    conv=>whnf
    refine Get.mk _ rfl ?_
    conv=>whnf
    refine Get.mk 1 ⟨rfl,by decide⟩ ?_
    conv=>whnf
    refine Get.mk (_,_,_,_) L ?_
    conv=>whnf
    refine⟨⟨(by decide:2<=2),Nat.zero_le _⟩,?_⟩
    conv=>whnf
    rw[e];exact nxt _ _ _ (by omega) (by omega) aK fun d hd=>aG hd
   |false=>
    conv=>whnf
    rw[en];refine Get.mk (_,_,_,_) P ?_
    conv=>whnf
    refine Get.mk _ rfl ?_
    conv=>whnf
    conv=>whnf
    repeat (refine Owe.mk (by decide) ?_;conv=>whnf)
    rw[eq]
    conv=>whnf
    refine Get.mk 1 ⟨rfl,by decide⟩ ?_
    conv=>whnf
    refine Get.mk (_,_,_,_) L ?_
    conv=>whnf
    refine Get.mk _ rfl ?_
    conv=>whnf
    refine Get.mk 1 ⟨rfl,by decide⟩ ?_
    conv=>whnf
    refine Get.mk (_,_,_,_) L ?_
    conv=>whnf
    refine⟨⟨(by decide:2<=2),Nat.zero_le _⟩,?_⟩
    conv=>whnf
    rw[e];exact nxt _ _ _ (by omega) (by omega) aK fun d hd=>aG hd
  ·conv=>whnf
   exact hQ vh x n _ _ P L F
termination_by m=>m
decreasing_by all_goals omega
theorem WC(H:XPar4 X)(bs:List Bool)(hb:bs.length<=64)(hm:jQ bs 0=true)(c:Option Nat):
  aE Tryz.prog X G yD [.sl 1 (bs.map bS) c] vh vn fun v vh' vn'=>∃(b:Nat) (ls:List Int),v=.tup [.ptr b 0,.int .i64 0]/\PAt vh' b bs ls 1 0/\vn<=b/\b<vn'/\∀d,d<vn->vh' d=vh d:=by
 have hlen:Int.ofNat (bs.map bS).length=(bs.length:Int):=by simp
 apply aD8.run H.pnew
 conv=>whnf
 refine (WA H bs (by omega) c).mono fun v vh' vn' he=>?_
 obtain⟨e2,e3,e4⟩:=he;rw[hm] at e4;rw[e2,e3,e4];clear e2 e3 e4
 conv=>whnf
 refine (CD H.toXBits bs (by omega) c vh vn).mono fun v vh1 n1 he=>?_
 obtain⟨e4,hF⟩:=he;rw[e4];clear e4
 conv=>whnf
 rw[hlen];refine aB.mk (fun c1=>?_) (fun c1=>?_)
 ·exfalso;have:=of_decide_eq_true c1;omega
 ·conv=>whnf
  generalize hv:aI vh1 n1 _=vh2;have P2:PB vh2 n1 bs:=hv▸aK;have F2:∀d,d≠n1->vh2 d=vh1 d:=fun d hd=>hv▸aG hd;refine aC.round ?_
  conv=>whnf
  refine Get.mk (_,_,_,_) P2 ?_
  conv=>whnf
  refine Get.mk _ rfl ?_
  conv=>whnf
  rw[hlen];refine aB.mk (fun c2=>?_) (fun c2=>?_)
  ·exfalso;have c2':(64:Int)<bs.length:=of_decide_eq_true c2;omega
  ·conv=>whnf
   refine Get.mk (_,_,_,_) P2 ?_
   conv=>whnf
   refine Get.mk _ rfl ?_
   conv=>whnf
   refine Get.mk 2 rfl ?_;refine Get.mk 2 ⟨rfl,by decide,by decide,by decide⟩ ?_
   conv=>whnf
   generalize hv3:aI vh2 (n1+1) _=vh3;have P3:PB vh3 n1 bs:=hv3▸(aG (by omega)).trans P2
   have F3:∀d,d≠n1+1->vh3 d=vh2 d:=fun d hd=>hv3▸aG hd;have L3:LB vh3 (n1+1) 0:=hv3▸aK;refine Get.mk (_,_,_,_) P3 ?_
   conv=>whnf
   refine Get.mk _ rfl ?_
   conv=>whnf
   refine aC.round ?_
   conv=>whnf
   refine Get.mk (_,_,_,_) P3 ?_
   conv=>whnf
   refine Get.mk _ rfl ?_
   conv=>whnf
   rw[hlen];refine Get.mk 1 ⟨rfl,by decide⟩ ?_
   conv=>whnf
   refine Get.mk (_,_,_,_) L3 ?_
   conv=>whnf
   refine⟨⟨(by decide:2<=2),Nat.zero_le _⟩,?_⟩
   conv=>whnf
   generalize hv4:aI vh3 (n1+1) _=vh4;have P4:PB vh4 n1 bs:=hv4▸(aG (by omega)).trans P3
   have F4:∀d,d≠n1+1->vh4 d=vh3 d:=fun d hd=>hv4▸aG hd;have L4:LB vh4 (n1+1) bs.length:=hv4▸aK;refine aC.round ?_
   conv=>whnf
   rw[hlen];refine JS bs hb c n1 (n1+1) (by omega) vh4 _ _ ?_ _ 0 rfl (Nat.zero_le _) _ 0 vh4 (by decide) (by decide) P4 L4 fun _ _=>rfl
   intro vh5 x n i t P5 L5 F5;have L6:vh5 (n1+1)=some (.cells (([0,x].map eR).flatten) b9 0 false):=L5
   conv=>whnf
   refine Get.mk (_,_,_,_) P5 ?_
   conv=>whnf
   refine Get.mk _ rfl ?_
   conv=>whnf
   conv=>whnf
   refine aC.round ?_
   conv=>whnf
   refine Get.mk (_,_,_,_) L6 ?_
   conv=>whnf
   refine⟨⟨by decide,Nat.le_refl _,fun y hy=>by cases hy;exact Nat.le_refl _⟩,?_⟩
   conv=>whnf
   refine Get.mk _ (show oO 1 2 (([0,x].map eR).flatten) ([0,x].map eR) from eU (xs:=[0,x]) OU) ?_
   conv=>whnf
   have P7:PB (bX vh5 (n1+1)) n1 bs:=(b5 (by omega)).trans P5
   refine Get.mk (_,_,_,_) P7 ?_
   conv=>whnf
   refine⟨⟨(by decide:2<=4),Nat.zero_le _⟩,?_⟩
   conv=>whnf
   refine Get.mk _ (fun _ _ h=>h) ⟨n1,[0,x],rfl,aK,hF.1,by show n1<n1+1+1;omega,fun d hd=>?_⟩
   have h1:=hF.1;exact (aG (by omega)).trans ((b5 (by omega)).trans ((F5 d (by omega)).trans ((F4 d (by omega)).trans ((F3 d (by omega)).trans ((F2 d (by omega)).trans (hF.2 d hd))))))
end
section
attribute [local irreducible] aM
variable {X : Ovr} {G : Gt} {vh : VH} {vn : Nat}
structure XInt(X:Ovr):Prop extends XPar4 X where
 mx:X yU=none
 inew:X x8=none
 width:X qW=none
 len64:X yB=none
def fN(n:Nat):List V:=[.int .u64 (n:Int)]
def nB:List Nat->Nat->Nat
 |[],a=>a
 |x::l,a=>nB l (max a x)
theorem JF(l:List Nat)(hl:l.length<=4194304)(c:Option Nat)(vh:VH)(vn:Nat)(Q:FQ)(A:Nat)
  (hE:∀(i:Int) t,Q (.exit 0) [(0,.sl 1 (l.map fN) c),(3,.int .u64 (A:Int)),(4,.int .i64 i),(15,.bool t)] vh vn):
  ∀(m i:Nat),l.length-i=m->i<=l.length->∀a:Nat,nB (l.drop i) a=A->
  aC Tryz.prog X G (.loop NE) [(0,.sl 1 (l.map fN) c),(3,.int .u64 (a:Int)),(4,.int .i64 (i:Int))] vh vn Q
 |m,i,hm,hi,a,hA=>by
  have hlen:Int.ofNat (l.map fN).length=(l.length:Int):=by simp
  refine aC.round ?_
  conv=>whnf
  rw[hlen];refine aB.mk (fun h1=>?_) (fun h1=>?_)
  ·have hlt:i<l.length:=by have:=of_decide_eq_true h1;omega
   have e:wr .i64 ((i:Int)+1)=((i+1:Nat):Int):=by rw[aF]<;>omega
   have hd:l.drop i=l[i]::l.drop (i+1):=(List.getElem_cons_drop hlt).symm;rw[hd,nB] at hA;have em:max (a:Int) (l[i]:Int)=((max a l[i]:Nat):Int):=by omega
   conv=>whnf
   refine Get.mk (i,fN l[i]) ⟨rfl,by simp[hlt]⟩ ?_
   conv=>whnf
   rw[e,em];exact JF l hl c vh vn Q A hE (m-1) (i+1) (by omega) (by omega) _ hA
  ·have hlt:i=l.length:=by have:=of_decide_eq_false h1;omega
   rw[hlt,List.drop_length] at hA;cases hA
   conv=>whnf
   exact hE _ _
termination_by m=>m
decreasing_by all_goals omega
theorem V0(H:XInt X)(x:Nat)(l:List Nat)(hl:(x::l).length<=4194304)(c:Option Nat):
  aE Tryz.prog X G yU [.sl 1 ((x::l).map fN) c] vh vn fun v vh' vn'=>vh'=vh/\vn'=vn/\v=.int .u64 (nB l x:Int):=by
 have hlen:Int.ofNat ((x::l).map fN).length=((x::l).length:Int):=by simp
 apply aE9.run H.mx
 conv=>whnf
 refine Get.mk (0,fN x) ⟨rfl,rfl⟩ ?_
 conv=>whnf
 refine JF (x::l) hl c vh vn _ (nB l x) ?_ _ 1 rfl (by simp) x rfl
 intro i t
 conv=>whnf
 exact Get.mk _ (fun _ _ h=>h) ⟨rfl,rfl,rfl⟩
theorem QL:∀x∈jH,x<=8:=fun x hx=>of_decide_eq_true (List.all_eq_true.mp (show jH.all (fun x=>decide (x<=8))=true by kernel_rfl) x hx)
theorem aFC:jH.length=256:=by kernel_rfl
theorem aJo{n:Nat}(hn:n<256):wr .u8 (n:Int)=(n:Int):=by show (n:Int)%256=n;omega
theorem VS(H:XInt X)(n:Nat)(hn:n<256):
  aE Tryz.prog X G yB [.int .u64 (n:Int)] vh vn fun v vh' vn'=>vh'=vh/\vn'=vn/\v=.int .i64 (jH.getD n 0:Nat):=by
 apply aD3.run H.len64
 conv=>whnf
 refine aB.mk (fun c1=>?_) (fun c1=>?_)
 ·exact absurd (of_decide_eq_true c1) (by omega)
 conv=>whnf
 refine aB.mk (fun c2=>?_) (fun c2=>?_)
 ·exact absurd (of_decide_eq_true c2) (by omega)
 conv=>whnf
 refine aB.mk (fun c3=>?_) (fun c3=>?_)
 ·exact absurd (of_decide_eq_true c3) (by omega)
 conv=>whnf
 have hl:n<jH.length:=Nat.lt_of_lt_of_eq hn aFC.symm;have hx:=QL _ (List.getElem_mem hl);have hg:jH.getD n 0=jH[n]:=by rw[List.getD_eq_getElem?_getD,List.getElem?_eq_getElem hl];rfl
 rw[hg];refine Get.mk (n,jH[n]) ⟨aJo hn,List.getElem?_eq_getElem hl⟩ ?_;generalize jH[n]=y at hx ⊢
 conv=>whnf
 refine Get.mk _ (fun _ _ h=>h) ⟨rfl,rfl,?_⟩;show V.int .i64 (wr .i64 (0+wr .i64 (y:Int)))=_;have h1:wr .i64 (y:Int)=(y:Int):=aF (by omega) (by omega)
 have h2:wr .i64 (0+(y:Int))=(y:Int):=by rw[Int.zero_add,h1]
 rw[h1,h2]
def hY(n:Nat):Nat:=jH.getD n 0
theorem DK(H:XInt X)(n:Nat)(hn:n<256):
  aE Tryz.prog X G qW [.int .u64 (n:Int)] vh vn fun v vh' vn'=>vh'=vh/\vn'=vn/\v=.int .i64 (hY n:Nat):=by
 apply aDZ.run H.width
 conv=>whnf
 refine (VS H n hn).mono fun v vh' vn' he=>?_;obtain⟨e2,e3,e4⟩:=he;rw[e2,e3,e4];clear e2 e3 e4
 conv=>whnf
 exact Get.mk _ (fun _ _ h=>h) ⟨rfl,rfl,rfl⟩
end
end Go.Proofs.YtjoadepfokpcoaaGreatDoor
set_option maxRecDepth 100000
set_option linter.unusedVariables false
namespace Go.Proofs.YtjoadepfokpcoaaGreatDoor
def LS:aD:=(.seq (.reg 0 [mA 73 6,mA 74 12,oA 75 (.buildF 1 1 [(.int .i64 0)] [(0,74)]),oA 76 (.app 1 [(.int .i64 0)] 8 b9 73 75),mA 6 76] [.fz 10,.keep [0,4,5,6,7,8,10,22,23,24]])
(.reg 2 [mA 77 7,oA 78 (.off 10 5),oA 79 (.load 78 false 1),oA 80 (.buildF 1 1 [(.str [])] [(0,79)]),⟨some 81,.app 1 [(.str [])] 16 iS 77 80,none,[],.n [7]⟩,mA 82 8,⟨some 83,.off 10 6,none,[],.e⟩,⟨some 84,.load 83 false 1,none,[],.e⟩,oA 85 (.call xY [84]),oA 86 (.buildF 1 1 [(.str [])] [(0,85)]),oA 87 (.app 1 [(.str [])] 16 iS 82 86),mA 7 81,mA 8 87] (kp [0,4,5,6,7,8,22,23,24])))
def EB:aD:=(.seq (.reg 0 [oA 25 (.bin .lss 24 23)] (kp [0,4,5,6,7,8,22,23,24,25]))
(.seq (.cond 25
(.gsk (kp [0,4,5,6,7,8,22,23,24]))
(.exit 0))
(.seq (.block 1
(.seq (.reg 0 [oA 26 (.idx 7 22 24),oA 27 (.load 26 true 7),oA 10 (.allocL [(.int .i64 0),(.int .i64 0),(.str []),(.str []),(.str []),(.str []),.nils]),oN (.store 10 27 7)] (kp [0,4,5,6,7,8,10,22,23,24]))
(.seq (.reg 0 [oA 28 (.off 10 0),oA 29 (.load 28 false 1),oA 30 (.off 10 2),oA 31 (.load 30 false 1),oA 32 (.off 10 3),oA 33 (.load 32 false 1),oA 34 (.off 10 4),oA 35 (.load 34 false 1),oA 36 (.build [(.int .i64 0),(.str []),(.str []),(.str [])] [(0,1,29),(1,1,31),(2,1,33),(3,1,35)]),oA 11 (.allocL [(.int .i64 0),(.str []),(.str []),(.str [])]),oN (.store 11 36 4)] (kp [0,4,5,6,7,8,10,11,22,23,24]))
(.seq (.reg 0 [mA 38 5,oA 39 (.load 11 true 4),oA 40 (.look [some .i64,none,none,none] true .nili 38 39 false),oA 41 (.asrt b9 (.int .i64 0) 40 true),mA 37 41,oA 42 (.ext 37 0),oA 43 (.ext 37 1),mA 12 42,mA 13 43] (kp [0,4,5,6,7,8,10,11,12,13,22,23,24]))
(.seq (.seq (.reg 0 [mA 44 13,oA 45 (.un .not 44)] (kp [0,4,5,6,7,8,10,11,12,22,23,24,45]))
(.cond 45
(.seq (.reg 0 [mA 46 4,oA 47 (.nilck 46),oA 48 (.off 47 3),oA 49 (.load 48 false 1),oA 50 (.lenL 49),mA 12 50] (kp [0,4,5,6,7,8,10,11,12,22,23,24]))
(.seq (.reg 0 [mA 51 5,oA 52 (.load 11 true 4),mA 53 12,oA 54 (.mkIfc b9 53),oN (.upd [some .i64,none,none,none] true 51 52 54)] (kp [0,4,5,6,7,8,10,12,22,23,24]))
(.reg 1 [mA 55 4,mA 56 4,oA 57 (.nilck 56),oA 58 (.off 57 3),oA 59 (.load 58 false 1),oA 60 (.off 10 0),oA 61 (.load 60 false 1),oA 62 (.off 10 2),oA 63 (.load 62 false 1),oA 64 (.off 10 3),oA 65 (.load 64 false 1),oA 66 (.off 10 4),oA 67 (.load 66 false 1),oA 68 (.build [(.int .i64 0),(.int .i64 0),(.str []),(.str []),(.str []),(.str []),.nils] [(0,1,61),(2,1,63),(3,1,65),(4,1,67)]),oA 69 (.buildF 7 1 [(.int .i64 0),(.int .i64 0),(.str []),(.str []),(.str []),(.str []),.nils] [(0,68)]),oA 70 (.app 7 [(.int .i64 0),(.int .i64 0),(.str []),(.str []),(.str []),(.str []),.nils] 104 cS 59 69),oA 71 (.nilck 55),oA 72 (.off 71 3),oN (.store 72 70 1)] (kp [0,4,5,6,7,8,10,12,22,23,24]))))
(.gsk (kp [0,4,5,6,7,8,10,12,22,23,24]))))
(.cut LS))))))
(.reg 0 [oA 88 (.bin .add 24 (cI 1)),mA 24 88] (kp [0,4,5,6,7,8,22,23,24])))))
def ZB:aD:=(.seq (.reg 0 [oA 2 (.mv (.c .nilp)),oA 3 (.mv (cI 0))] (kp [0]))
(.seq (.seq (.reg 0 [mA 16 0,oA 17 (.call zC [16]),oA 18 (.un .not 17)] (kp [0,18]))
(.cond 18
(.seq (.reg 0 [oA 2 (.mv (.c .nilp)),oA 3 (.mv (cI 1))] (kp [2,3]))
.ret)
(.gsk (kp [0]))))
(.seq (.reg 0 [oA 19 (.build [.nilp,.nilp,.nilp,.nils,.nilp] []),oA 20 (.boxH 19 jI),mA 4 20] (kp [0,4]))
(.seq (.reg 0 [oA 21 (.mkMap),mA 5 21] (kp [0,4,5]))
(.seq (.reg 0 [oA 6 (.mv (.c .nils))] (kp [0,4,5,6]))
(.seq (.reg 0 [oA 7 (.mv (.c .nils)),oA 8 (.mv (.c .nils))] (kp [0,4,5,6,7,8]))
(.seq (.seq (.reg 0 [mA 22 0,oA 23 (.lenL 22),oA 24 (.mv (cI 0))] (kp [0,4,5,6,7,8,22,23,24]))
(.block 0
(.loop EB)))
(.seq (.reg 0 [oA 14 (.allocH [(.int .i64 0),(.int .i64 0),(.int .i64 0),(.int .i64 0)] r5)] (kp [0,4,6,7,8,14]))
(.seq (.reg 0 [mA 90 4,mA 91 0,oA 92 (.call uC [91]),⟨some 93,.call yD [92],none,[.fzs 92 1],.n []⟩,mA 89 93,oA 94 (.ext 89 0),oA 95 (.ext 89 1),oA 96 (.nilck 90),oA 97 (.off 96 0),oN (.store 97 94 1),oA 98 (.idxA 1 4 14 (cI 0)),oN (.store 98 95 1)] (kp [4,6,7,8,14]))
(.seq (.reg 0 [mA 100 4,mA 101 6,mA 102 4,oA 103 (.nilck 102),oA 104 (.off 103 3),oA 105 (.load 104 false 1),oA 106 (.lenL 105),⟨some 107,.call zG [101,106],none,[.fzs 101 1],.n []⟩,mA 99 107,oA 108 (.ext 99 0),oA 109 (.ext 99 1),oA 110 (.nilck 100),oA 111 (.off 110 1),oN (.store 111 108 1),oA 112 (.idxA 1 4 14 (cI 1)),oN (.store 112 109 1)] (kp [4,7,8,14]))
(.seq (.reg 0 [mA 114 4,mA 115 7,⟨some 116,.call uM [115],none,[.fzs 115 1],.n []⟩,mA 113 116,oA 117 (.ext 113 0),oA 118 (.ext 113 1),oA 119 (.nilck 114),oA 120 (.off 119 2),oN (.store 120 117 1),oA 121 (.idxA 1 4 14 (cI 2)),oN (.store 121 118 1)] (kp [4,8,14]))
(.seq (.reg 0 [mA 123 4,mA 124 8,⟨some 125,.call uM [124],none,[.fzs 124 1],.n []⟩,mA 122 125,oA 126 (.ext 122 0),oA 127 (.ext 122 1),oA 128 (.nilck 123),oA 129 (.off 128 4),oN (.store 129 126 1),oA 130 (.idxA 1 4 14 (cI 3)),oN (.store 130 127 1)] (kp [4,14]))
(.seq (.seq (.reg 0 [oA 131 (.cutA 1 4 14 none none),⟨some 132,.call u4 [131],none,[.fzs 131 1],.n []⟩,mA 15 132] (kp [4,15]))
(.seq (.reg 0 [mA 133 15,oA 134 (.bin .neq 133 (cI 0))] (kp [4,15,134]))
(.cond 134
(.seq (.reg 0 [mA 135 15,oA 2 (.mv (.c .nilp)),mA 3 135] (kp [2,3]))
.ret)
(.gsk (kp [4])))))
(.seq (.reg 0 [mA 136 4,mA 2 136,oA 3 (.mv (cI 0))] (kp [2,3]))
.ret))))))))))))))
def aGu:List aJ:=[.tmp 2,.tmp 3]
theorem aDM:aL Tryz.prog xX ZB aGu:=.of Tryz.func12 (by kernel_rfl)
def ZH:aD:=(.seq (.reg 0 [oA 4 (.mv (cI 0))] (kp [0,1]))
(.seq (.reg 0 [mA 8 0,mA 9 1,oA 10 (.call nS [8,9]),mA 7 10,oA 11 (.ext 7 0),oA 12 (.ext 7 1),mA 5 11,mA 6 12] (kp [5,6]))
(.seq (.reg 0 [mA 13 5,mA 14 5,mA 15 6,oA 16 (.call yF [14,15]),oA 17 (.call qZ [13,16]),mA 4 17] (kp [4]))
.ret)))
def aHA:List aJ:=[.tmp 4]
theorem aDS:aL Tryz.prog uF ZH aHA:=.of Tryz.func14 (by kernel_rfl)
def ZI:aD:=(.seq (.reg 0 [oA 4 (.mv (cI 0))] (kp [0,1]))
(.seq (.reg 0 [mA 8 0,mA 9 1,oA 10 (.call nS [8,9]),mA 7 10,oA 11 (.ext 7 0),oA 12 (.ext 7 1),mA 5 11,mA 6 12] (kp [5,6]))
(.seq (.reg 0 [mA 13 5,mA 14 5,mA 15 6,oA 16 (.bin .sub 15 (cI 1)),oA 17 (.call yE [14,16]),oA 18 (.call qZ [13,17]),mA 4 18] (kp [4]))
.ret)))
def aHB:List aJ:=[.tmp 4]
theorem aDT:aL Tryz.prog uG ZI aHB:=.of Tryz.func15 (by kernel_rfl)
def ZE:aD:=(.seq (.reg 0 [oA 4 (.mv (cI 0))] (kp [0,1]))
(.seq (.reg 0 [mA 8 0,mA 9 1,oA 10 (.call nS [8,9]),mA 7 10,oA 11 (.ext 7 0),oA 12 (.ext 7 1),mA 5 11,mA 6 12] (kp [5,6]))
(.seq (.reg 0 [mA 13 5,mA 14 6,oA 15 (.call yH [13,14]),mA 4 15] (kp [4]))
.ret)))
def aGx:List aJ:=[.tmp 4]
theorem aDP:aL Tryz.prog uD ZE aGx:=.of Tryz.func18 (by kernel_rfl)
def ZG:aD:=(.seq (.reg 0 [oA 4 (.mv (cI 0))] (kp [0,1]))
(.seq (.reg 0 [mA 8 0,mA 9 1,oA 10 (.call nS [8,9]),mA 7 10,oA 11 (.ext 7 0),oA 12 (.ext 7 1),mA 5 11,mA 6 12] (kp [5,6]))
(.seq (.seq (.reg 0 [mA 13 6,oA 14 (.bin .lss 13 (cI 0))] (kp [5,6,14]))
(.cond 14
(.seq (.reg 0 [oA 4 (.mv (cI (-1)))] (kp [4]))
.ret)
(.gsk (kp [5,6]))))
(.seq (.reg 0 [mA 15 5,mA 16 5,mA 17 6,oA 18 (.call uJ [16,17]),oA 19 (.bin .add 18 (cI 1)),oA 20 (.call qZ [15,19]),mA 4 20] (kp [4]))
.ret))))
def aGz:List aJ:=[.tmp 4]
theorem aDR:aL Tryz.prog uE ZG aGz:=.of Tryz.func19 (by kernel_rfl)
def LU:aD:=(.seq (.reg 0 [oA 23 (.bin .lss 22 21)] (kp [3,8,9,10,20,21,22,23]))
(.seq (.cond 23
(.gsk (kp [3,8,9,10,20,21,22]))
(.exit 2))
(.seq (.block 3
(.seq (.reg 0 [oA 24 (.idx 1 20 22),oA 25 (.load 24 false 1),mA 7 25] (kp [3,7,8,9,10,20,21,22]))
(.reg 0 [mA 26 7,oA 27 (.lenS 26),oA 28 (.call yX [27]),oA 29 (.bin .add 28 (.c (.str nW))),mA 30 7,oA 31 (.bin .add 29 30),oA 32 (.call pQ [3,31])] (kp [3,8,9,10,20,21,22]))))
(.reg 0 [oA 33 (.bin .add 22 (cI 1)),mA 22 33] (kp [3,8,9,10,20,21,22])))))
def LT:aD:=(.seq (.reg 0 [oA 11 (.bin .lss 10 9)] (kp [3,8,9,10,11]))
(.seq (.cond 11
(.gsk (kp [3,8,9,10]))
(.exit 0))
(.seq (.block 1
(.seq (.reg 0 [oA 12 (.idx 4 8 10),oA 13 (.load 12 true 4),oA 5 (.allocL [(.str []),(.str []),(.str []),(.str [])]),oN (.store 5 13 4)] (kp [3,5,8,9,10]))
(.seq (.reg 0 [oA 14 (.off 5 0),oA 15 (.load 14 false 1),oA 16 (.off 5 1),oA 17 (.load 16 false 1),oA 18 (.off 5 3),oA 19 (.load 18 false 1),oA 20 (.buildF 1 3 [(.str [])] [(0,15),(1,17),(2,19)]),oA 21 (.lenL 20),oA 22 (.mv (cI 0))] (kp [3,8,9,10,20,21,22]))
(.block 2
(.loop LU)))))
(.reg 0 [oA 34 (.bin .add 10 (cI 1)),mA 10 34] (kp [3,8,9,10])))))
def ZC:aD:=(.seq (.reg 0 [oA 2 (.mv (.c (.str [])))] (kp [0]))
(.seq (.reg 0 [oA 3 (.allocH [.nilp,.nils] mC)] (kp [0,3]))
(.seq (.seq (.reg 0 [mA 8 0,oA 9 (.lenL 8),oA 10 (.mv (cI 0))] (kp [3,8,9,10]))
(.block 0
(.loop LT)))
(.seq (.reg 0 [oA 35 (.call u5 [3]),mA 2 35] (kp [2]))
.ret))))
def aGv:List aJ:=[.tmp 2]
theorem aDN:aL Tryz.prog xY ZC aGv:=.of Tryz.func51 (by kernel_rfl)
def LW:aD:=(.seq (.seq (.reg 0 [mA 13 4,oA 14 (.off 6 1),oA 15 (.load 14 false 1),oA 16 (.bin .gtr 13 15)] (kp [3,4,6,7,8,9,16]))
(.cond 16
(.gsk (kp [3,4,6,7,8,9]))
(.exit 2)))
(.seq (.block 3
(.reg 0 [mA 19 3,oA 20 (.buildF 1 1 [(.bool false)] [(0,(cB false))]),oA 21 (.app 1 [(.bool false)] 1 fB 19 20),mA 3 21] (kp [3,4,6,7,8,9])))
(.reg 0 [mA 17 4,oA 18 (.bin .sub 17 (cI 1)),mA 4 18] (kp [3,4,6,7,8,9]))))
def LV:aD:=(.seq (.reg 0 [oA 10 (.bin .lss 9 8)] (kp [3,4,7,8,9,10]))
(.seq (.cond 10
(.gsk (kp [3,4,7,8,9]))
(.exit 0))
(.seq (.block 1
(.seq (.reg 0 [oA 11 (.idx 7 7 9),oA 12 (.load 11 true 7),oA 6 (.allocL [(.int .i64 0),(.int .i64 0),(.str []),(.str []),(.str []),(.str []),.nils]),oN (.store 6 12 7)] (kp [3,4,6,7,8,9]))
(.seq (.block 2
(.loop LW))
(.seq (.reg 0 [mA 22 3,oA 23 (.buildF 1 1 [(.bool false)] [(0,(cB true))]),oA 24 (.app 1 [(.bool false)] 1 fB 22 23),mA 3 24] (kp [3,4,7,8,9]))
(.reg 0 [mA 25 4,oA 26 (.bin .add 25 (cI 1)),mA 4 26] (kp [3,4,7,8,9]))))))
(.reg 0 [oA 27 (.bin .add 9 (cI 1)),mA 9 27] (kp [3,4,7,8,9])))))
def LX:aD:=(.seq (.seq (.reg 0 [mA 28 4,oA 29 (.bin .gtr 28 (cI 0))] (kp [3,4,29]))
(.cond 29
(.gsk (kp [3,4]))
(.exit 4)))
(.seq (.block 5
(.reg 0 [mA 32 3,oA 33 (.buildF 1 1 [(.bool false)] [(0,(cB false))]),oA 34 (.app 1 [(.bool false)] 1 fB 32 33),mA 3 34] (kp [3,4])))
(.reg 0 [mA 30 4,oA 31 (.bin .sub 30 (cI 1)),mA 4 31] (kp [3,4]))))
def ZD:aD:=(.seq (.reg 0 [oA 2 (.mv (.c .nils))] (kp [0]))
(.seq (.reg 0 [oA 3 (.mv (.c .nils))] (kp [0,3]))
(.seq (.reg 0 [oA 4 (.mv (cI 0))] (kp [0,3,4]))
(.seq (.seq (.reg 0 [mA 7 0,oA 8 (.lenL 7),oA 9 (.mv (cI 0))] (kp [3,4,7,8,9]))
(.block 0
(.loop LV)))
(.seq (.block 4
(.loop LX))
(.seq (.reg 0 [mA 35 3,mA 2 35] (kp [2]))
.ret))))))
def aGw:List aJ:=[.tmp 2]
theorem aDO:aL Tryz.prog uC ZD aGw:=.of Tryz.func53 (by kernel_rfl)
def NK:aD:=(.seq (.reg 0 [oA 26 (.bin .lss 25 24)] (kp [0,1,23,24,25,26]))
(.seq (.cond 26
(.gsk (kp [0,1,23,24,25]))
(.exit 0))
(.seq (.block 1
(.seq (.reg 0 [oA 27 (.idx 1 23 25),oA 28 (.load 27 false 1),mA 7 28] (kp [0,1,7,23,24,25]))
(.seq (.reg 0 [mA 29 7,oA 30 (.bin .lss 29 (cI 0)),mA 31 30,oF 31 32 (.mv 7),oF 31 33 (.mv 1),oF 31 34 (.bin .geq 32 33),oA 35 (.pick 31 (cB true) 34)] (kp [0,1,23,24,25,35]))
(.cond 35
(.seq (.reg 0 [oA 4 (.mv (.c .nilp)),oA 5 (.mv (cI 1))] (kp [4,5]))
.ret)
(.gsk (kp [0,1,23,24,25]))))))
(.reg 0 [oA 36 (.bin .add 25 (cI 1)),mA 25 36] (kp [0,1,23,24,25])))))
def NL:aD:=(.seq (.reg 0 [oA 60 (.bin .lss 59 58)] (kp [8,9,10,11,12,57,58,59,60]))
(.seq (.cond 60
(.gsk (kp [8,9,10,11,12,57,58,59]))
(.exit 4))
(.seq (.block 5
(.seq (.reg 0 [mA 61 59,oA 62 (.idx 1 57 59),oA 63 (.load 62 false 1),mA 13 61,mA 14 63] (kp [8,9,10,11,12,13,14,57,58,59]))
(.seq (.reg 0 [mA 64 10,mA 65 13,mA 66 14,mA 67 9,oA 68 (.cint .u64 67),oA 69 (.bin .shr 66 68),oA 70 (.bin .and 69 (cI 1)),oA 71 (.bin .eql 70 (cI 1)),oA 72 (.idx 1 64 65),oN (.store 72 71 1)] (kp [8,9,10,11,12,13,14,57,58,59]))
(.seq (.reg 0 [mA 73 10,mA 74 13,oA 75 (.idx 1 73 74),oA 76 (.load 75 false 1)] (kp [8,9,10,11,12,14,57,58,59,76]))
(.cond 76
(.reg 0 [mA 77 12,mA 78 14,oA 79 (.buildF 1 1 [(.int .i64 0)] [(0,78)]),oA 80 (.app 1 [(.int .i64 0)] 8 b9 77 79),mA 12 80] (kp [8,9,10,11,12,57,58,59]))
(.reg 0 [mA 81 11,mA 82 14,oA 83 (.buildF 1 1 [(.int .i64 0)] [(0,82)]),oA 84 (.app 1 [(.int .i64 0)] 8 b9 81 83),mA 11 84] (kp [8,9,10,11,12,57,58,59])))))))
(.reg 0 [oA 85 (.bin .add 59 (cI 1)),mA 59 85] (kp [8,9,10,11,12,57,58,59])))))
def vM:aD:=(.seq (.seq (.reg 0 [mA 50 9,oA 51 (.bin .geq 50 (cI 0))] (kp [0,8,9,51]))
(.cond 51
(.gsk (kp [0,8,9]))
(.exit 2)))
(.seq (.block 3
(.seq (.reg 0 [mA 54 0,oA 55 (.lenL 54),oA 56 (.mkSl 1 [(.bool false)] fB 1 55 55),mA 10 56] (kp [0,8,9,10]))
(.seq (.reg 0 [oA 11 (.mv (.c .nils)),oA 12 (.mv (.c .nils))] (kp [0,8,9,10,11,12]))
(.seq (.seq (.reg 0 [mA 57 0,oA 58 (.lenL 57),oA 59 (.mv (cI 0))] (kp [8,9,10,11,12,57,58,59]))
(.block 4
(.loop NL)))
(.seq (.reg 0 [mA 87 10,⟨some 88,.call qV [87],none,[.fzs 87 1],.n []⟩,mA 86 88,oA 89 (.ext 86 0),oA 90 (.ext 86 1),mA 15 89,mA 16 90] (kp [8,9,11,12,15]))
(.seq (.reg 0 [mA 91 8,mA 92 8,oA 93 (.nilck 92),oA 94 (.off 93 0),oA 95 (.load 94 false 1),mA 96 15,oA 97 (.mkIfc DI 96),oA 98 (.buildF 1 1 [.nili] [(0,97)]),oA 99 (.app 1 [.nili] 16 gB 95 98),oA 100 (.nilck 91),oA 101 (.off 100 0),oN (.store 101 99 1)] (kp [8,9,11,12]))
(.reg 0 [mA 102 11,mA 103 12,oA 104 (.app 1 [(.int .i64 0)] 8 b9 102 103),mA 0 104] [.fzs 0 1,.keep [0,8,9]])))))))
(.reg 0 [mA 52 9,oA 53 (.bin .sub 52 (cI 1)),mA 9 53] (kp [0,8,9]))))
def aBU:aD:=(.seq (.reg 0 [oA 4 (.mv (.c .nilp)),oA 5 (.mv (cI 0))] (kp [0,1]))
(.seq (.seq (.reg 0 [mA 17 1,oA 18 (.bin .lss 17 (cI 1)),mA 19 18,oF 19 20 (.mv 1),oF 19 21 (.bin .gtr 20 (cI 1048576)),oA 22 (.pick 19 (cB true) 21)] (kp [0,1,22]))
(.cond 22
(.seq (.reg 0 [oA 4 (.mv (.c .nilp)),oA 5 (.mv (cI 1))] (kp [4,5]))
.ret)
(.gsk (kp [0,1]))))
(.seq (.seq (.reg 0 [mA 23 0,oA 24 (.lenL 23),oA 25 (.mv (cI 0))] (kp [0,1,23,24,25]))
(.block 0
(.loop NK)))
(.seq (.seq (.reg 0 [mA 37 0,oA 38 (.lenL 37),oA 39 (.bin .gtr 38 (cI 1048576))] (kp [0,1,39]))
(.cond 39
(.seq (.reg 0 [oA 4 (.mv (.c .nilp)),oA 5 (.mv (cI 7))] (kp [4,5]))
.ret)
(.gsk (kp [0,1]))))
(.seq (.reg 0 [mA 40 0,oA 41 (.lenL 40),mA 42 1,oA 43 (.build [.nils,(.int .i64 0),(.int .i64 0),(.int .i64 0)] [(1,1,41),(2,1,42)]),oA 44 (.boxH 43 KO),mA 8 44] (kp [0,1,8]))
(.seq (.seq (.reg 0 [mA 45 1,oA 46 (.bin .sub 45 (cI 1)),oA 47 (.cint .u64 46),oA 48 (.call qW [47]),oA 49 (.bin .sub 48 (cI 1)),mA 9 49] (kp [0,8,9]))
(.block 2
(.loop vM)))
(.seq (.reg 0 [mA 105 8,mA 4 105,oA 5 (.mv (cI 0))] (kp [4,5]))
.ret)))))))
def aI5:List aJ:=[.tmp 4,.tmp 5]
theorem aEo:aL Tryz.prog zG aBU aI5:=.of Tryz.func54 (by kernel_rfl)
def EJ:aD:=(.seq (.reg 0 [oA 13 (.bin .lss 12 11)] (kp [0,4,10,11,12,13]))
(.seq (.cond 13
(.gsk (kp [0,4,10,11,12]))
(.exit 0))
(.seq (.block 1
(.seq (.reg 0 [mA 14 12,oA 15 (.idx 1 10 12),oA 16 (.load 15 false 1),mA 5 14,mA 6 16] (kp [0,4,5,6,10,11,12]))
(.seq (.seq (.reg 0 [mA 17 6,oA 18 (.lenS 17),mA 19 4,mA 20 5,oA 21 (.idx 1 19 20),oA 22 (.load 21 false 1),oA 23 (.bin .sub (cI 8388608) 22),oA 24 (.bin .gtr 18 23)] (kp [0,4,5,6,10,11,12,24]))
(.cond 24
(.seq (.reg 0 [oA 2 (.mv (.c .nilp)),oA 3 (.mv (cI 7))] (kp [2,3]))
.ret)
(.gsk (kp [0,4,5,6,10,11,12]))))
(.reg 0 [mA 25 4,mA 26 4,mA 27 5,oA 28 (.idx 1 26 27),oA 29 (.load 28 false 1),mA 30 6,oA 31 (.lenS 30),oA 32 (.bin .add 29 31),oA 33 (.buildF 1 1 [(.int .i64 0)] [(0,32)]),oA 34 (.app 1 [(.int .i64 0)] 8 b9 25 33),mA 4 34] (kp [0,4,10,11,12])))))
(.reg 0 [oA 35 (.bin .add 12 (cI 1)),mA 12 35] (kp [0,4,10,11,12])))))
def aAT:aD:=(.seq (.reg 0 [oA 2 (.mv (.c .nilp)),oA 3 (.mv (cI 0))] (kp [0]))
(.seq (.reg 0 [oA 9 (.buildF 1 1 [(.int .i64 0)] [(0,(cI 0))]),mA 4 9] (kp [0,4]))
(.seq (.seq (.reg 0 [mA 10 0,oA 11 (.lenL 10),oA 12 (.mv (cI 0))] (kp [0,4,10,11,12]))
(.block 0
(.loop EJ)))
(.seq (.reg 0 [mA 37 4,⟨some 38,.call uI [37],none,[.fzs 37 1],.n []⟩,mA 36 38,oA 39 (.ext 36 0),oA 40 (.ext 36 1),mA 7 39,mA 8 40] (kp [0,7,8]))
(.seq (.seq (.reg 0 [mA 41 8,oA 42 (.bin .neq 41 (cI 0))] (kp [0,7,42]))
(.cond 42
(.seq (.reg 0 [oA 2 (.mv (.c .nilp)),oA 3 (.mv (cI 7))] (kp [2,3]))
.ret)
(.gsk (kp [0,7]))))
(.seq (.reg 0 [mA 43 0,oA 44 (.call y9 [43,(.c (.str []))]),mA 45 7,oA 46 (.mkIfc XT 45),mA 47 0,oA 48 (.lenL 47),oA 49 (.build [(.str []),.nili,(.int .i64 0)] [(0,1,44),(1,1,46),(2,1,48)]),oA 50 (.boxH 49 XU),mA 2 50,oA 3 (.mv (cI 0))] (kp [2,3]))
.ret))))))
def aH7:List aJ:=[.tmp 2,.tmp 3]
theorem aDp:aL Tryz.prog uM aAT aH7:=.of Tryz.func55 (by kernel_rfl)
def ZJ:aD:=(.seq (.reg 0 [oA 4 (.mv (.c .nilp)),oA 5 (.mv (cI 0))] (kp [0,1]))
(.seq (.seq (.reg 0 [mA 6 0,oA 7 (.eq .p .eql 6 (.c .nilp)),mA 8 7,oF 8 9 (.mv 1),oF 8 10 (.bin .lss 9 (cI 0)),oA 11 (.pick 8 (cB true) 10)] (kp [0,1,11]))
(.cond 11
(.seq (.reg 0 [oA 4 (.mv (.c .nilp)),oA 5 (.mv (cI (-1)))] (kp [4,5]))
.ret)
(.gsk (kp [0,1]))))
(.seq (.reg 2 [⟨some 12,.mv 0,none,[],.e⟩,⟨some 13,.nilck 12,none,[],.e⟩,⟨some 14,.off 13 0,none,[],.e⟩,⟨some 15,.load 14 false 1,none,[],.e⟩,mA 16 0,oA 17 (.nilck 16),oA 18 (.off 17 0),oA 19 (.load 18 false 1),mA 20 1,⟨some 21,.call yG [19,20],none,[],.n [3]⟩,mA 4 15,mA 5 21] (kp [4,5]))
.ret)))
def aHC:List aJ:=[.tmp 4,.tmp 5]
theorem aDU:aL Tryz.prog nS ZJ aHC:=.of Tryz.func57 (by kernel_rfl)
def ZF:aD:=(.seq (.reg 0 [oA 4 (.mv (cB false))] (kp [0,1]))
(.seq (.reg 0 [mA 8 0,mA 9 1,oA 10 (.call nS [8,9]),mA 7 10,oA 11 (.ext 7 0),oA 12 (.ext 7 1),mA 5 11,mA 6 12] (kp [6]))
(.seq (.reg 0 [mA 13 6,oA 14 (.bin .geq 13 (cI 0)),mA 4 14] (kp [4]))
.ret)))
def aGy:List aJ:=[.tmp 4]
theorem aDQ:aL Tryz.prog xZ ZF aGy:=.of Tryz.func62 (by kernel_rfl)
def aBW:aD:=(.seq (.reg 0 [oA 2 (.mv (cI 0))] (kp [0]))
(.seq (.seq (.reg 0 [mA 3 0,oA 4 (.eq .p .eql 3 (.c .nilp))] (kp [0,4]))
(.cond 4
(.seq (.reg 0 [oA 2 (.mv (cI 0))] (kp [2]))
.ret)
(.gsk (kp [0]))))
(.seq (.reg 0 [mA 5 0,oA 6 (.nilck 5),oA 7 (.off 6 3),oA 8 (.load 7 false 1),mA 2 8] (kp [2]))
.ret)))
def aI7:List aJ:=[.tmp 2]
theorem aEq:aL Tryz.prog zI aBW aI7:=.of Tryz.func65 (by kernel_rfl)
def ZA:aD:=(.seq (.reg 0 [oA 2 (.mv (cI 0))] (kp [0]))
(.seq (.seq (.reg 0 [mA 3 0,oA 4 (.eq .p .eql 3 (.c .nilp))] (kp [0,4]))
(.cond 4
(.seq (.reg 0 [oA 2 (.mv (cI 0))] (kp [2]))
.ret)
(.gsk (kp [0]))))
(.seq (.reg 0 [mA 5 0,oA 6 (.nilck 5),oA 7 (.off 6 0),oA 8 (.load 7 false 1),oA 9 (.call pJ [8]),oA 10 (.bin .quo 9 (cI 2)),mA 2 10] (kp [2]))
.ret)))
def aGt:List aJ:=[.tmp 2]
theorem aDL:aL Tryz.prog xW ZA aGt:=.of Tryz.func69 (by kernel_rfl)
def aBV:aD:=(.seq (.reg 0 [oA 2 (.mv (cI 0))] (kp [0]))
(.seq (.seq (.reg 0 [mA 3 0,oA 4 (.eq .p .eql 3 (.c .nilp))] (kp [0,4]))
(.cond 4
(.seq (.reg 0 [oA 2 (.mv (cI 0))] (kp [2]))
.ret)
(.gsk (kp [0]))))
(.seq (.reg 2 [⟨some 5,.mv 0,none,[],.e⟩,⟨some 6,.nilck 5,none,[],.e⟩,⟨some 7,.off 6 0,none,[],.e⟩,⟨some 8,.load 7 false 1,none,[],.e⟩,⟨some 9,.lenL 8,none,[],.e⟩,mA 10 0,oA 11 (.nilck 10),oA 12 (.off 11 1),oA 13 (.load 12 false 1),⟨some 14,.call xV [13],none,[],.n [3,4]⟩,oA 15 (.bin .mul 9 14),mA 2 15] (kp [2]))
.ret)))
def aI6:List aJ:=[.tmp 2]
theorem aEp:aL Tryz.prog zH aBV aI6:=.of Tryz.func70 (by kernel_rfl)
def aBL:aD:=(.seq (.reg 0 [oA 4 (.mv (cI 0)),oA 5 (.mv (.c .nili))] (kp [0,1]))
(.seq (.reg 0 [mA 6 0,oA 7 (.call u6 [6])] (kp [0,1]))
(.seq (.reg 0 [mA 8 0,mA 9 0,oA 10 (.nilck 9),oA 11 (.off 10 1),oA 12 (.load 11 false 1),mA 13 1,oA 14 (.app 1 [(.int .u8 0)] 1 mD 12 13),oA 15 (.nilck 8),oA 16 (.off 15 1),oN (.store 16 14 1)] (kp [1]))
(.seq (.reg 0 [mA 17 1,oA 18 (.lenS 17),mA 4 18,oA 5 (.mv (.c .nili))] (kp [4,5]))
.ret))))
def aIX:List aJ:=[.tmp 4,.tmp 5]
theorem aEf:aL Tryz.prog pQ aBL aIX:=.of Tryz.func102 (by kernel_rfl)
def aBK:aD:=(.seq (.reg 0 [oA 2 (.mv (.c (.str [])))] (kp [0]))
(.seq (.reg 2 [mA 3 0,oA 4 (.nilck 3),oA 5 (.off 4 1),oA 6 (.load 5 false 1),⟨some 7,.data 6,none,[],.n [8,9]⟩,⟨some 8,.mv 0,none,[],.e⟩,⟨some 9,.nilck 8,none,[],.e⟩,⟨some 10,.off 9 1,none,[],.e⟩,⟨some 11,.load 10 false 1,none,[],.e⟩,⟨some 12,.lenL 11,none,[],.e⟩,oA 13 (.ustr mD 7 12),mA 2 13] (kp [2]))
.ret))
def aIW:List aJ:=[.tmp 2]
theorem aEe:aL Tryz.prog u5 aBK aIW:=.of Tryz.func104 (by kernel_rfl)
def MG:aD:=(.seq (.reg 0 [oA 15 (.bin .lss 14 13)] (kp [0,4,12,13,14,15]))
(.seq (.cond 15
(.gsk (kp [0,4,12,13,14]))
(.exit 0))
(.seq (.block 1
(.seq (.reg 0 [oA 16 (.idx 1 12 14),oA 17 (.load 16 false 1),mA 6 17] (kp [0,4,6,12,13,14]))
(.seq (.seq (.reg 0 [mA 18 6,mA 19 4,oA 20 (.bin .lss 18 19)] (kp [0,6,12,13,14,20]))
(.cond 20
(.seq (.reg 0 [oA 2 (.mv (.c .nilp)),oA 3 (.mv (cI 1))] (kp [2,3]))
.ret)
(.gsk (kp [0,6,12,13,14]))))
(.reg 0 [mA 21 6,mA 4 21] (kp [0,4,12,13,14])))))
(.reg 0 [oA 22 (.bin .add 14 (cI 1)),mA 14 22] (kp [0,4,12,13,14])))))
def EE:aD:=(.seq (.reg 0 [oA 71 (.bin .lss 70 69)] (kp [7,8,9,68,69,70,71]))
(.seq (.cond 71
(.gsk (kp [7,8,9,68,69,70]))
(.exit 2))
(.seq (.block 3
(.seq (.reg 0 [mA 72 70,oA 73 (.idx 1 68 70),oA 74 (.load 73 false 1),mA 10 72,mA 11 74] (kp [7,8,9,10,11,68,69,70]))
(.seq (.reg 0 [mA 75 8,mA 76 11,mA 77 7,oA 78 (.nilck 77),oA 79 (.off 78 3),oA 80 (.load 79 false 1),oA 81 (.cint .u64 80),oA 82 (.bin .shr 76 81),mA 83 10,oA 84 (.bin .add 82 83),oA 85 (.idx 1 75 84),oN (.store 85 (cB true) 1)] (kp [7,8,9,11,68,69,70]))
(.reg 0 [mA 86 9,mA 87 11,mA 88 7,oA 89 (.nilck 88),oA 90 (.off 89 3),oA 91 (.load 90 false 1),oA 92 (.cint .u64 91),oA 93 (.bin .shl (cI 1) 92),oA 94 (.bin .sub 93 (cI 1)),oA 95 (.bin .and 87 94),oA 96 (.cint .u64 95),oA 97 (.buildF 1 1 [(.int .u64 0)] [(0,96)]),oA 98 (.app 1 [(.int .u64 0)] 8 r6 86 97),mA 9 98] (kp [7,8,9,68,69,70])))))
(.reg 0 [oA 99 (.bin .add 70 (cI 1)),mA 70 99] (kp [7,8,9,68,69,70])))))
def ZW:aD:=(.seq (.reg 0 [oA 2 (.mv (.c .nilp)),oA 3 (.mv (cI 0))] (kp [0]))
(.seq (.reg 0 [oA 4 (.mv (cI 0))] (kp [0,4]))
(.seq (.seq (.reg 0 [mA 12 0,oA 13 (.lenL 12),oA 14 (.mv (cI 0))] (kp [0,4,12,13,14]))
(.block 0
(.loop MG)))
(.seq (.seq (.reg 0 [mA 23 4,oA 24 (.bin .gtr 23 (cI 8388608))] (kp [0,4,24]))
(.cond 24
(.seq (.reg 0 [oA 2 (.mv (.c .nilp)),oA 3 (.mv (cI 1))] (kp [2,3]))
.ret)
(.gsk (kp [0,4]))))
(.seq (.reg 0 [mA 25 0,oA 26 (.lenL 25),oA 27 (.build [.nili,.nili,(.int .i64 0),(.int .i64 0),(.int .i64 0)] [(2,1,26)]),oA 28 (.boxH 27 KM),mA 7 28] (kp [0,4,7]))
(.seq (.seq (.reg 0 [mA 29 7,oA 30 (.nilck 29),oA 31 (.off 30 2),oA 32 (.load 31 false 1),oA 33 (.bin .gtr 32 (cI 0))] (kp [0,4,7,33]))
(.cond 33
(.reg 0 [mA 34 7,mA 35 4,mA 36 7,oA 37 (.nilck 36),oA 38 (.off 37 2),oA 39 (.load 38 false 1),oA 40 (.bin .quo 35 39),oA 41 (.cint .u64 40),oA 42 (.call qW [41]),oA 43 (.bin .sub 42 (cI 1)),oA 44 (.mx [43,(cI 0)]),oA 45 (.nilck 34),oA 46 (.off 45 3),oN (.store 46 44 1)] (kp [0,4,7]))
(.gsk (kp [0,4,7]))))
(.seq (.reg 0 [mA 47 7,mA 48 4,mA 49 7,oA 50 (.nilck 49),oA 51 (.off 50 3),oA 52 (.load 51 false 1),oA 53 (.cint .u64 52),oA 54 (.bin .shr 48 53),oA 55 (.nilck 47),oA 56 (.off 55 4),oN (.store 56 54 1)] (kp [0,7]))
(.seq (.reg 1 [mA 57 7,oA 58 (.nilck 57),oA 59 (.off 58 2),oA 60 (.load 59 false 1),mA 61 7,oA 62 (.nilck 61),oA 63 (.off 62 4),oA 64 (.load 63 false 1),oA 65 (.bin .add 60 64),oA 66 (.bin .add 65 (cI 1)),oA 67 (.mkSl 1 [(.bool false)] fB 1 66 66),mA 8 67] (kp [0,7,8]))
(.seq (.reg 0 [oA 9 (.mv (.c .nils))] (kp [0,7,8,9]))
(.seq (.seq (.reg 0 [mA 68 0,oA 69 (.lenL 68),oA 70 (.mv (cI 0))] (kp [7,8,9,68,69,70]))
(.block 2
(.loop EE)))
(.seq (.reg 0 [mA 101 7,mA 102 8,⟨some 103,.call qV [102],none,[.fzs 102 1],.n []⟩,mA 100 103,oA 104 (.ext 100 0),oA 105 (.mkIfc DI 104),oA 106 (.ext 100 1),oA 107 (.nilck 101),oA 108 (.off 107 0),oN (.store 108 105 1)] (kp [7,9]))
(.seq (.reg 0 [mA 109 7,mA 110 9,⟨some 111,.call x8 [110],none,[.fzs 110 1],.n []⟩,oA 112 (.mkIfc XR 111),oA 113 (.nilck 109),oA 114 (.off 113 1),oN (.store 114 112 1)] (kp [7]))
(.seq (.reg 0 [mA 115 7,mA 2 115,oA 3 (.mv (cI 0))] (kp [2,3]))
.ret)))))))))))))
def aHO:List aJ:=[.tmp 2,.tmp 3]
theorem aD6:aL Tryz.prog uI ZW aHO:=.of Tryz.func108 (by kernel_rfl)
def NG:aD:=(.seq (.reg 0 [oA 42 (.bin .lss 41 40)] (kp [0,1,5,39,40,41,42]))
(.seq (.cond 42
(.gsk (kp [0,1,5,39,40,41]))
(.exit 1))
(.seq (.block 2
(.seq (.reg 0 [oA 43 (.idx 1 39 41),oA 44 (.load 43 false 1),mA 7 44] (kp [0,1,5,7,39,40,41]))
(.seq (.seq (.reg 0 [mA 45 7,oA 46 (.lenS 45),mA 47 5,oA 48 (.bin .sub (cI 9223372036854775807) 47),oA 49 (.bin .gtr 46 48)] (kp [0,1,5,7,39,40,41,49]))
(.cond 49
(.reg 0 [oA 50 (.mkIfc iS (.c (.str KE))),oN (.bad)] (kp [0,1,5,7,39,40,41]))
(.gsk (kp [0,1,5,7,39,40,41]))))
(.reg 0 [mA 51 5,mA 52 7,oA 53 (.lenS 52),oA 54 (.bin .add 51 53),mA 5 54] (kp [0,1,5,39,40,41])))))
(.reg 0 [oA 55 (.bin .add 41 (cI 1)),mA 41 55] (kp [0,1,5,39,40,41])))))
def NH:aD:=(.seq (.reg 0 [oA 66 (.bin .lss 65 64)] (kp [1,8,63,64,65,66]))
(.seq (.cond 66
(.gsk (kp [1,8,63,64,65]))
(.exit 3))
(.seq (.block 4
(.seq (.reg 0 [oA 67 (.idx 1 63 65),oA 68 (.load 67 false 1),mA 10 68] (kp [1,8,10,63,64,65]))
(.seq (.reg 0 [mA 69 1,oA 70 (.call pQ [8,69])] (kp [1,8,10,63,64,65]))
(.reg 0 [mA 71 10,oA 72 (.call pQ [8,71])] (kp [1,8,63,64,65])))))
(.reg 0 [oA 73 (.bin .add 65 (cI 1)),mA 65 73] (kp [1,8,63,64,65])))))
def aBO:aD:=(.seq (.reg 0 [oA 4 (.mv (.c (.str [])))] (kp [0,1]))
(.seq (.seq (.reg 0 [mA 11 0,oA 12 (.lenL 11)] (kp [0,1,12]))
(.block 0
(.seq (.reg 0 [oA 14 (.bin .eql 12 (cI 0)),mA 13 14] (kp [0,1,12,13]))
(.cond 13
(.seq (.reg 0 [oA 4 (.mv (.c (.str [])))] (kp [4]))
.ret)
(.seq (.reg 0 [oA 16 (.bin .eql 12 (cI 1)),mA 15 16] (kp [0,1,15]))
(.cond 15
(.seq (.reg 0 [mA 17 0,oA 18 (.idx 1 17 (cI 0)),oA 19 (.load 18 false 1),mA 4 19] (kp [4]))
.ret)
(.gsk (kp [0,1]))))))))
(.seq (.reg 0 [oA 5 (.mv (cI 0))] (kp [0,1,5]))
(.seq (.seq (.reg 0 [mA 20 1,oA 21 (.lenS 20),oA 22 (.bin .gtr 21 (cI 0))] (kp [0,1,5,22]))
(.cond 22
(.seq (.seq (.reg 0 [mA 23 1,oA 24 (.lenS 23),mA 25 0,oA 26 (.lenL 25),oA 27 (.bin .sub 26 (cI 1)),oA 28 (.bin .quo (cI 9223372036854775807) 27),oA 29 (.bin .geq 24 28)] (kp [0,1,5,29]))
(.cond 29
(.reg 0 [oA 30 (.mkIfc iS (.c (.str KE))),oN (.bad)] (kp [0,1,5]))
(.gsk (kp [0,1,5]))))
(.reg 0 [mA 31 5,mA 32 1,oA 33 (.lenS 32),mA 34 0,oA 35 (.lenL 34),oA 36 (.bin .sub 35 (cI 1)),oA 37 (.bin .mul 33 36),oA 38 (.bin .add 31 37),mA 5 38] (kp [0,1,5])))
(.gsk (kp [0,1,5]))))
(.seq (.seq (.reg 0 [mA 39 0,oA 40 (.lenL 39),oA 41 (.mv (cI 0))] (kp [0,1,5,39,40,41]))
(.block 1
(.loop NG)))
(.seq (.reg 0 [oA 8 (.allocH [.nilp,.nils] mC)] (kp [0,1,5,8]))
(.seq (.reg 0 [mA 56 5,oA 57 (.call yY [8,56])] (kp [0,1,8]))
(.seq (.reg 0 [mA 58 0,oA 59 (.idx 1 58 (cI 0)),oA 60 (.load 59 false 1),oA 61 (.call pQ [8,60])] (kp [0,1,8]))
(.seq (.seq (.reg 0 [mA 62 0,oA 63 (.cutL 1 62 (some (cI 1)) none none),oA 64 (.lenL 63),oA 65 (.mv (cI 0))] (kp [1,8,63,64,65]))
(.block 3
(.loop NH)))
(.seq (.reg 0 [oA 74 (.call u5 [8]),mA 4 74] (kp [4]))
.ret))))))))))
def aI0:List aJ:=[.tmp 4]
theorem aEi:aL Tryz.prog y9 aBO aI0:=.of Tryz.func109 (by kernel_rfl)
def aBM:aD:=(.seq (.reg 0 [mA 2 0,oA 3 (.nilck 2),oA 4 (.off 3 0),oA 5 (.load 4 false 1),oA 6 (.eq .p .eql 5 (.c .nilp))] (kp [0,6]))
(.cond 6
(.reg 0 [mA 7 0,mA 8 0,oA 9 (.uconv 8),oA 10 (.call I2 [9]),oA 11 (.pconv mC 2 10),oA 12 (.nilck 7),oA 13 (.off 12 0),oN (.store 13 11 1)] (kp []))
(.seq (.reg 0 [mA 14 0,oA 15 (.nilck 14),oA 16 (.off 15 0),oA 17 (.load 16 false 1),mA 18 0,oA 19 (.eq .p .neq 17 18)] (kp [19]))
(.cond 19
.no
(.gsk (kp []))))))
def aIY:List aJ:=[]
theorem aEg:aL Tryz.prog u6 aBM aIY:=.of Tryz.func147 (by kernel_rfl)
def aBJ:aD:=(.seq (.reg 0 [mA 4 0,oA 5 (.call u6 [4])] (kp [0,1]))
(.seq (.seq (.reg 0 [mA 6 1,oA 7 (.bin .lss 6 (cI 0))] (kp [0,1,7]))
(.cond 7
(.reg 0 [oA 8 (.mkIfc iS (.c (.str XD))),oN (.bad)] (kp [0,1]))
(.gsk (kp [0,1]))))
(.seq (.reg 1 [mA 9 0,oA 10 (.nilck 9),oA 11 (.off 10 1),oA 12 (.load 11 false 1),oA 13 (.cap 12),mA 14 0,oA 15 (.nilck 14),oA 16 (.off 15 1),oA 17 (.load 16 false 1),oA 18 (.lenL 17),oA 19 (.bin .sub 13 18),mA 20 1,oA 21 (.bin .lss 19 20)] (kp [0,1,21]))
(.cond 21
(.reg 0 [mA 22 0,mA 23 1,oA 24 (.call yZ [22,23])] (kp []))
(.gsk (kp []))))))
def aIV:List aJ:=[]
theorem aEd:aL Tryz.prog yY aBJ aIV:=.of Tryz.func151 (by kernel_rfl)
def aBN:aD:=(.seq (.reg 2 [mA 5 0,oA 6 (.nilck 5),oA 7 (.off 6 1),oA 8 (.load 7 false 1),oA 9 (.cap 8),oA 10 (.bin .mul (cI 2) 9),mA 11 1,oA 12 (.bin .add 10 11),⟨some 13,.call I3 [12],none,[],.n [12,13]⟩,⟨some 14,.mv 0,none,[],.e⟩,⟨some 15,.nilck 14,none,[],.e⟩,⟨some 16,.off 15 1,none,[],.e⟩,⟨some 17,.load 16 false 1,none,[],.e⟩,⟨some 18,.lenL 17,none,[],.e⟩,oA 19 (.cutL 1 13 none (some 18) none),mA 4 19] (kp [0,4]))
(.seq (.reg 0 [mA 20 4,mA 21 0,oA 22 (.nilck 21),oA 23 (.off 22 1),oA 24 (.load 23 false 1),oA 25 (.copy 1 20 24)] (kp [0,4]))
(.reg 0 [mA 26 0,mA 27 4,oA 28 (.nilck 26),oA 29 (.off 28 1),oN (.store 29 27 1)] (kp []))))
def aIZ:List aJ:=[]
theorem aEh:aL Tryz.prog yZ aBN aIZ:=.of Tryz.func193 (by kernel_rfl)
open Go.Num
section
attribute [local irreducible] aM
variable {X : Ovr} {G : Gt}
theorem iE(a:Bool):(bS a).length=1:=rfl
theorem KA(lo:Nat)(vh0:VH)(n0:Nat)(B:List Bool)(Q:FQ)
  (hQ:∀sv vh' vn' t,aQ bS 1 fB lo vh' vn' sv B->n0<=vn'->(∀c,c<lo->vh' c=vh0 c)->Q (.exit 4) [(3,sv),(4,.int .i64 0),(29,.bool t)] vh' vn'):
  ∀(m:Nat),m<=1048576->∀(bs:List Bool) (sv:V) (vh:VH) (vn:Nat),bs.length<=1048576*2-m->bs++List.replicate m false=B->aQ bS 1 fB lo vh vn sv bs->lo<=vn->n0<=vn->(∀c,c<lo->vh c=vh0 c)->
  ∀tl:aH,aC Tryz.prog X G (.loop LX) ((3,sv)::(4,.int .i64 (m:Int))::tl) vh vn Q
 |0,_,bs,sv,vh,vn,_,hB,A,_,h0,hf,tl=>by
  rw[List.replicate_zero,List.append_nil] at hB;subst hB;refine aC.round ?_;rcases id A with⟨rfl|rfl,rfl⟩|⟨b,h1,h2,rfl,h4⟩
  all_goals
   conv=>whnf
   exact hQ _ vh vn _ A h0 hf
 |m+1,hm,bs,sv,vh,vn,hl,hB,A,hlo,h0,hf,tl=>by
  have e:wr .i64 (((m+1:Nat):Int)-1)=(m:Int):=by rw[aF]<;>omega
  have hB':(bs++[false])++List.replicate m false=B:=by rw[<-hB,List.replicate_succ,List.append_assoc];rfl
  refine aC.round ?_;rcases id A with⟨rfl|rfl,rfl⟩|⟨b,h1,h2,rfl,h4⟩
  all_goals
   conv=>whnf
   refine aB.mk (fun _=>?_) (fun h=>absurd (of_decide_eq_false h) (by omega))
   conv=>whnf
   refine aQ.app (enc:=bS) (es:=1) iE (Nat.zero_lt_succ 0) A hlo false ⟨?_,?_⟩ fun vh' A' f'=>?_
   ·(try simp only[List.length_nil] at hl ⊢);omega
   ·refine show _<9223372036854775808 from ?_
    (try simp only[List.length_nil] at hl ⊢);omega
   conv=>whnf
   rw[e];refine KA lo vh0 n0 B Q hQ m (by omega) _ _ vh' _ (by rw[List.length_append,List.length_singleton];omega) hB' A' (by omega) (by omega) (fun c hc=>(f' c (by omega) ?_).trans (hf c hc)) []
   first
    |exact id
    |exact fun h:c=b=>by omega
theorem J9(lo:Nat)(vh0:VH)(n0:Nat)(B:List Bool)(n:Nd)(d:Nat)(hd:n.d=(d:Int))(T:List (List V))(c:Option Nat)(L i:Int)(Q:FQ)
  (hQ:∀sv vh' vn' t,aQ bS 1 fB lo vh' vn' sv B->n0<=vn'->(∀c,c<lo->vh' c=vh0 c)->Q (.exit 2) [(3,sv),(4,.int .i64 (d:Int)),(6,.bx (aO n)),(7,.sl 7 T c),(8,.int .i64 L),(9,.int .i64 i),(16,.bool t)] vh' vn'):
  ∀(m:Nat),d+m<=1048576->∀(bs:List Bool) (sv:V) (vh:VH) (vn:Nat),bs.length<=1048576*2-m->bs++List.replicate m false=B->aQ bS 1 fB lo vh vn sv bs->lo<=vn->n0<=vn->(∀c,c<lo->vh c=vh0 c)->
  aC Tryz.prog X G (.loop LW) [(3,sv),(4,.int .i64 ((d+m:Nat):Int)),(6,.bx (aO n)),(7,.sl 7 T c),(8,.int .i64 L),(9,.int .i64 i)] vh vn Q
 |0,_,bs,sv,vh,vn,_,hB,A,_,h0,hf=>by
  rw[List.replicate_zero,List.append_nil] at hB;subst hB;refine aC.round ?_;rcases id A with⟨rfl|rfl,rfl⟩|⟨b,h1,h2,rfl,h4⟩
  all_goals
   conv=>whnf
   refine aB.mk (fun h=>absurd (of_decide_eq_true h) (by omega)) (fun _=>?_)
   conv=>whnf
   exact hQ _ vh vn _ A h0 hf
 |m+1,hm,bs,sv,vh,vn,hl,hB,A,hlo,h0,hf=>by
  have e:wr .i64 (((d+(m+1):Nat):Int)-1)=((d+m:Nat):Int):=by rw[aF]<;>omega
  have hB':(bs++[false])++List.replicate m false=B:=by rw[<-hB,List.replicate_succ,List.append_assoc];rfl
  refine aC.round ?_;rcases id A with⟨rfl|rfl,rfl⟩|⟨b,h1,h2,rfl,h4⟩
  all_goals
   conv=>whnf
   refine aB.mk (fun _=>?_) (fun h=>absurd (of_decide_eq_false h) (by omega))
   conv=>whnf
   refine aQ.app (enc:=bS) (es:=1) iE (Nat.zero_lt_succ 0) A hlo false ⟨?_,?_⟩ fun vh' A' f'=>?_
   ·(try simp only[List.length_nil] at hl ⊢);omega
   ·refine show _<9223372036854775808 from ?_
    (try simp only[List.length_nil] at hl ⊢);omega
   conv=>whnf
   rw[e];refine J9 lo vh0 n0 B n d hd T c L i Q hQ m (by omega) _ _ vh' _ (by rw[List.length_append,List.length_singleton];omega) hB' A' (by omega) (by omega) fun c hc=>(f' c (by omega) ?_).trans (hf c hc)
   first
    |exact id
    |exact fun h:c=b=>by omega
def dM:List Nd->Nat->List Bool
 |[],o=>List.replicate o false
 |n::ts,o=>List.replicate (o-n.d.toNat) false++true::dM ts (n.d.toNat+1)
def fV:List Nd->Nat->Bool
 |[],_=>true
 |n::ts,o=>decide (0<=n.d)&&decide (n.d.toNat<=o)&&fV ts (n.d.toNat+1)
theorem J8(lo:Nat){n0:Nat}(hln:lo<=n0)(vh0:VH)(B:List Bool)(ts:List Nd)(hts:ts.length<=500000)(c:Option Nat)(Q:FQ)
  (hQ:∀sv vh' vn' i t (o:Nat),o<=ts.length->(∃bs,bs++List.replicate o false=B/\bs.length<=1048576/\aQ bS 1 fB lo vh' vn' sv bs)->n0<=vn'->(∀c,c<lo->vh' c=vh0 c)->Q (.exit 0) [(3,sv),(4,.int .i64 (o:Int)),(7,.sl 7 (ts.map aO) c),(8,.int .i64 (ts.length:Int)),(9,.int .i64 i),(10,.bool t)] vh' vn'):
  ∀(m i:Nat),ts.length-i=m->i<=ts.length->∀(bs:List Bool) (sv:V) (vh:VH) (vn o:Nat),o<=i->bs.length+o=2*i->fV (ts.drop i) o=true->bs++dM (ts.drop i) o=B->aQ bS 1 fB lo vh vn sv bs->lo<=vn->n0<=vn->(∀c,c<lo->vh c=vh0 c)->
  aC Tryz.prog X G (.loop LV) [(3,sv),(4,.int .i64 (o:Int)),(7,.sl 7 (ts.map aO) c),(8,.int .i64 (ts.length:Int)),(9,.int .i64 (i:Int))] vh vn Q
 |m,i,hm,hi,bs,sv,vh,vn,o,ho,hbo,hst,hB,A,hlo,h0,hf=>by
  refine aC.round ?_;by_cases hlt:i<ts.length
  ·have e:wr .i64 ((i:Int)+1)=((i+1:Nat):Int):=by rw[aF]<;>omega
   have hd:ts.drop i=ts[i]::ts.drop (i+1):=(List.getElem_cons_drop hlt).symm;rw[hd,fV,Bool.and_eq_true,Bool.and_eq_true,decide_eq_true_eq,decide_eq_true_eq] at hst;rw[hd,dM] at hB;obtain⟨⟨hs1,hs2⟩,hs3⟩:=hst;have hdn:ts[i].d=(ts[i].d.toNat:Int):=by omega
   have ed:wr .i64 ((ts[i].d.toNat:Int)+1)=((ts[i].d.toNat+1:Nat):Int):=by rw[aF]<;>omega
   have eo:o=ts[i].d.toNat+(o-ts[i].d.toNat):=by omega
   rcases id A with⟨rfl|rfl,rfl⟩|⟨b,h1,h2,rfl,h4⟩
   all_goals
    conv=>whnf
    refine aB.mk (fun _=>?_) (fun h=>absurd (of_decide_eq_false h) (by omega))
    conv=>whnf
    refine Get.mk (i,aO ts[i]) ⟨rfl,by simp[hlt]⟩ ?_
    conv=>whnf
    rw[eo];refine J9 lo vh0 n0 _ ts[i] ts[i].d.toNat hdn _ c _ _ _ (fun sv2 vh2 n2 t A2 g2 f2=>?_) (o-ts[i].d.toNat) (by omega) _ _ vh vn (by omega) rfl A hlo h0 hf
    rcases id A2 with⟨rfl|rfl,hz⟩|⟨b2,k1,k2,rfl,k4⟩
    all_goals
     conv=>whnf
     refine aQ.app (enc:=bS) (es:=1) iE (Nat.zero_lt_succ 0) A2 (by omega) true ⟨?_,?_⟩ fun vh3 A3 f3=>?_
     ·simp only[List.length_append,List.length_replicate,List.length_nil] at hbo ⊢;omega
     ·refine show _<9223372036854775808 from ?_;simp only[List.length_append,List.length_replicate,List.length_nil] at hbo ⊢;omega
     conv=>whnf
     rw[e,ed];refine J8 lo hln vh0 B ts hts c Q hQ (m-1) (i+1) (by omega) (by omega) _ _ vh3 _ (ts[i].d.toNat+1) (by omega) ?_ hs3 ?_ A3 (by omega) (by omega) fun c hc=>(f3 c (by omega) ?_).trans (f2 c hc)
     ·simp only[List.length_append,List.length_replicate,List.length_nil,List.length_singleton] at hbo ⊢;omega
     ·rw[<-hB];simp only[List.append_assoc,List.singleton_append]
     ·first
       |exact id
       |exact fun h:c=b2=>by omega
  ·have hlt:i=ts.length:=by omega
   rw[hlt,List.drop_length,dM] at hB;rcases id A with⟨rfl|rfl,rfl⟩|⟨b,h1,h2,rfl,h4⟩
   all_goals
    conv=>whnf
    refine aB.mk (fun h=>absurd (of_decide_eq_true h) (by omega)) (fun _=>?_)
    conv=>whnf
    exact hQ _ vh vn _ _ o (by omega) ⟨_,hB,by omega,A⟩ h0 hf
termination_by m=>m
decreasing_by all_goals omega
theorem W5(H:X uC=none)(ts:List Nd)(hts:ts.length<=500000)(hst:fV ts 0=true)(c:Option Nat)(vh:VH)(vn:Nat):
  aE Tryz.prog X G uC [.sl 7 (ts.map aO) c] vh vn fun v vh' vn'=>aQ bS 1 fB vn vh' vn' v (dM ts 0)/\Frm vh vn vh' vn':=by
 have hlen:Int.ofNat (ts.map aO).length=(ts.length:Int):=by simp
 apply aDO.run H
 conv=>whnf
 rw[hlen];refine J8 vn (Nat.le_refl _) vh (dM ts 0) ts hts c _ ?_ _ 0 rfl (Nat.zero_le _) [] .nils vh vn 0 (Nat.le_refl _) rfl hst rfl .nil (Nat.le_refl _) (Nat.le_refl _) fun _ _=>rfl;rintro sv vh1 n1 i t o ho ⟨bs,hB,hl,A⟩ g1 f1;rcases id A with⟨rfl|rfl,hz⟩|⟨b2,k1,k2,rfl,k4⟩
 all_goals
  conv=>whnf
  refine KA vn vh vn (dM ts 0) _ (fun sv2 vh2 n2 t A2 g2 f2=>?_) o (by omega) bs _ vh1 n1 (by omega) hB A (by omega) g1 f1 _
  rcases id A2 with⟨rfl|rfl,hz⟩|⟨b2,k1,k2,rfl,k4⟩
  all_goals
   conv=>whnf
   exact Get.mk _ (fun _ _ h=>h) ⟨A2,g2,f2⟩
end
theorem QY:∀(l:List Nd) (prev:Nd) (lv:List (List aA)) (r k:Nat),0<=prev.d->gJ prev lv r l=some k->fV l (prev.d.toNat+1)=true
 |[],_,_,_,_,_,_=>rfl
 |x::l,prev,lv,r,k,hp,h=>by
  simp only[gJ] at h;split at h
  ·cases h
  ·rename_i hb;split at h
   ·cases h
   ·rename_i s hs;simp[fL] at hb;rw[fV,Bool.and_eq_true,Bool.and_eq_true,decide_eq_true_eq,decide_eq_true_eq];exact⟨⟨by omega,by omega⟩,QY l x s.1 s.2 k (by omega) h⟩
theorem Made.steps{t:List Nd}(M:Made t):fV t 0=true:=by
 have h:=M.may;cases t with
 |nil=>cases h
 |cons n l=>
  simp only[gI,Bool.and_eq_true,decide_eq_true_eq] at h;have hz:=tP.1 h.1.2;have hd:n.d=0:=by rw[hz];rfl
  have:=QY l n [] 0 1 (by omega) h.2
  rw[fV,Bool.and_eq_true,Bool.and_eq_true,decide_eq_true_eq,decide_eq_true_eq];exact⟨⟨by omega,by omega⟩,this⟩
end Go.Proofs.YtjoadepfokpcoaaGreatDoor
namespace Go.VL
section
open Go.Ev Go.RowKit
section
variable {P : Program}
def aJx(g:Nat):Ent:=fun args h nx=>match args with
 |[]=>(match h.get g with
  |some (.cells [.int .i64 _] _ _ _)=>.ok (.bool true) h nx
  |_=>.bad)
 |_=>.bad
def wOf(h:H):Wd:=⟨fun _=>none,fun i=>match h.get i with|some (.cells l _ _ _)=>some l|_=>none⟩
theorem aJe{h:H}{nx vn:Nat}{σ:Map}{W:World}(rh:RH σ h W)(bd:Bd σ nx):HR (wOf h) (fun _=>none) vn h nx:=by
 refine⟨fun b B e=>(by cases e),fun b c i e=>(by cases e),fun i L e=>?_,fun b i e=>(by cases e),fun i L e=>?_⟩
 ·simp only[wOf] at e;split at e
  ·rename_i l t fz raw hb;cases e;exact⟨_,_,_,hb⟩
  ·cases e
 ·simp only[wOf] at e;split at e
  ·rename_i l t fz raw hb;obtain⟨M,hM,_⟩:=rh.blk i _ hb;rcases Nat.lt_or_ge i nx with h|h
   ·exact h
   ·rw[bd i h] at hM;cases hM
  ·cases e
theorem Ext.below'{N:Nat->Prop}{σ σ':Map}{h h':H}{W w':World}(hro:∀i A,h.get i=some A->A.ro=true)(e:Ext N σ h W σ' h' w'):Below W.heap.size W w':=by
 refine⟨e.rest.1,e.rest.2.2,e.rest.2.1,e.size,fun k hk=>?_⟩;by_cases hin:∃i A M,h.get i=some A/\σ i=some M/\M.b=k
 ·obtain⟨i,A,M,h1,h2,rfl⟩:=hin;exact (e.keep i A M h1 (hro i A h1) h2).1
 ·exact e.unch k hk fun i A M h1 h2 h3=>hin ⟨i,A,M,h1,h2,h3⟩
theorem aJ7{X:Ovr}(hX:rJ P X)(hc:wU P=true){f:FuncId}{fn:Func}{c:Code}(hf:P.funcs[f]? =some fn)(hb:fn.body=some c){W:World}{σ:Map}{h:H}{nx vn:Nat}(rh:RH σ h W)(bd:Bd σ nx)(gl:f0 P σ)(hro:∀i A,h.get i=some A->A.ro=true)
  {G:Gt} (hG:aV G (wOf h)) {vs:List V} {us:List AV} {args:List Value} (hd:aX (wOf h) vs us) (ha:RVs σ us args) (hw:aE P X G f vs (fun _=>none) vn fun v _ _=>v=.bool true):
  Calls P f args.toArray W (fun e w'=>e=.returned (.bool true)/\Below W.heap.size W w'):=by
 obtain⟨v,vh',vn',a,h',an',w',rfl,⟨N,hev⟩,hr',hd',st⟩:=hw.out (wOf h) h nx us hG (aJe rh bd) hd;cases hd';have key:=FM hX hc N f us _ _ _ h' an' (hev N (Nat.le_refl _)) _ W args rh bd gl ha;rcases key with⟨_,h2⟩|⟨u,w',h1,_⟩
 ·refine h2.mono ?_;rintro e w' ⟨u,rfl,σ',h3,_,h4⟩;cases h4;exact⟨rfl,Ext.below' hro h3⟩
 ·exfalso
  have h5 : fn.name = "runtime.NumGoroutine" ∨ (callFunc f args.toArray).run P W = .ok (.enter f args.toArray) W := by
   by_cases h1 : fn.name = "runtime.NumGoroutine"
   ·exact .inl h1
   ·exact .inr (by simp[callFunc,hf,h1,hb])
  rcases h5 with h5|h5
  ·have:=List.all_eq_true.1 hc fn (by have:=(Array.getElem?_eq_some_iff.1 hf).2;rw[<-this];simp)
   simp[hb,h5] at this
  ·rw[h5] at h1;cases h1
theorem RH.add{σ:Map}{h:H}{W:World}{nx:Nat}(rh:RH σ h W)(bd:Bd σ nx)(gl:f0 P σ){L:Go.Ev.Loc}{A:AB}(hlt:L.b<W.heap.size)(hne:∀i A M,h.get i=some A->σ i=some M->M.b≠L.b)(hB:RB (σ.put nx L) W L A):
  RH (σ.put nx L) (h.set nx A) W/\Bd (σ.put nx L) (nx+1)/\f0 P (σ.put nx L):=by
 have hle:σ.le (σ.put nx L):=Map.le_put (bd nx (Nat.le_refl _));have hold:∀i A,h.get i=some A->i≠nx:=fun i A hi e=>by subst e;obtain⟨M,hM,_⟩:=rh.blk i A hi;rw[bd i (Nat.le_refl _)] at hM;cases hM
 refine⟨⟨fun i B hi=>?_,fun i j B C M M' hi hj hM hM' e=>?_,fun i M hi=>?_⟩,fun i hi=>?_,gl.mono hle⟩
 ·rw[Tr.get_set] at hi;by_cases ei:i=nx
  ·simp only[ei,if_true,Option.some.injEq] at hi;subst hi;exact⟨L,by rw[ei,Map.put_same],hB⟩
  ·simp only[ei,if_false] at hi;obtain⟨M,k1,k2⟩:=rh.blk i B hi;exact⟨M,hle _ _ k1,k2.mono hle rfl⟩
 ·rw[Tr.get_set] at hi hj;by_cases ei:i=nx
  ·by_cases ej:j=nx
   ·rw[ei,ej]
   ·exfalso;rw[ei,Map.put_same] at hM;cases hM;rw[Map.put_other _ _ ej] at hM';simp only[ej,if_false] at hj;exact hne j C M' hj hM' e.symm
  ·rw[Map.put_other _ _ ei] at hM;simp only[ei,if_false] at hi;by_cases ej:j=nx
   ·exfalso;rw[ej,Map.put_same] at hM';cases hM';exact hne i B M hi hM e
   ·rw[Map.put_other _ _ ej] at hM';simp only[ej,if_false] at hj;exact rh.inj i j B C M M' hi hj hM hM' e
 ·by_cases ei:i=nx
  ·rw[ei,Map.put_same] at hi;cases hi;exact hlt
  ·rw[Map.put_other _ _ ei] at hi;exact rh.old i M hi
 ·rw[Map.put_other _ _ (by omega)]
  exact bd i (by omega)
end
end
section
open Go.Ev Go.RowKit
def oX:AV->Bool
 |.bool _=>true
 |.int _ _=>true
 |.str _=>true
 |_=>false
theorem SG{σ τ:Map}{a:AV}{v:Value}(hp:oX a=true)(h:RV σ a v):RV τ a v:=by
 cases h<;>first|cases hp;done|skip
 ·exact .bool _
 ·exact .int _ _
 ·exact .str _ _ (by assumption)
theorem SH{σ τ:Map}:∀(us:List AV) {vs:List Value},us.all oX=true->RVs σ us vs->RVs τ us vs
 |[],vs,_,h=>by cases h;exact .nil
 |a::l,vs,hp,h=>by simp only[List.all_cons,Bool.and_eq_true] at hp;cases h with|cons _ v _ m h hl=>exact .cons a v l m (SG hp.1 h) (SH l hp.2 hl)
section
variable {P : Program}
theorem aF5{X:Ovr}(hX:rJ P X)(hc:wU P=true){f:FuncId}{n:Nat}{us:List AV}{r:AV}(hu:us.all oX=true)(hpr:oX r=true){h0 h h':H}{nx nx':Nat}
  (hs:∀i A,h0.get i=some A->i<P.globals.size/\h.get i=some A/\h'.get i=some A/\∃l e fz raw,A=.cells l e fz raw/\l.all kB=true)
  (hr:bM P X n f us h0 P.globals.size=.ok r h' nx') {σ:Map} {w:World} (rh:RH σ h w) (gl:f0 P σ) {vs:List Value} (hvs:RVs σ us vs):
  qT P f vs.toArray w (fun u w'=>Ext (Rg nx nx) σ h w σ h w'/\RV σ r u):=by
 have rh0:RH (σ.low P.globals.size) h0 w:=by
  refine⟨fun i A hi=>?_,fun i j A B M M' hi hj hM hM' e=>?_,fun i M hi=>rh.old i M (Map.low_le _ _ _ _ hi)⟩
  ·obtain⟨k1,k2,_,l,e,fz,raw,rfl,k3⟩:=hs i A hi;obtain⟨L,hL,hb⟩:=rh.blk i _ k2;exact⟨L,by rw[Map.low_at k1];exact hL,RB.ints k3 hb⟩
  ·exact rh.inj i j A B M M' (hs i A hi).2.1 (hs j B hj).2.1 (Map.low_le _ _ _ _ hM) (Map.low_le _ _ _ _ hM') e
 have bd0:Bd (σ.low P.globals.size) P.globals.size:=fun i hi=>by simp[Map.low,Nat.not_lt.2 hi]
 have gl0:f0 P (σ.low P.globals.size):=fun i hi=>by rw[Map.low_at hi];exact gl i hi
 refine (FM hX hc n f us _ _ _ h' nx' hr _ w vs rh0 bd0 gl0 (SH us hu hvs)).mono ?_;rintro u w' ⟨τ,E,_,hu⟩;refine⟨?_,SG hpr hu⟩;have other:∀B,B<w.heap.size->(∀i A M,h0.get i=some A->σ i=some M->B≠M.b)->w'.heap[B]? =w.heap[B]?:=fun B hB hne=>E.unch B hB fun i A M hi hM hb'=>hne i A M hi (Map.low_le _ _ _ _ hM) hb'.symm
 refine⟨Map.le_refl _,⟨fun i A hi=>?_,rh.inj,fun i M hi=>Nat.lt_of_lt_of_le (rh.old i M hi) E.size⟩,E.size,fun B hB hno=>other B hB fun i A M h1 h2 e=>hno i A M (hs i A h1).2.1 h2 e.symm,fun _ _ h=>.inl h,fun _ A _ h _=>⟨A,h⟩,E.rest,fun i A M h1 h2 h3=>⟨?_,h1⟩⟩
 ·obtain⟨M,k1,k2⟩:=rh.blk i A hi;cases h0i:h0.get i with
  |some B=>
   obtain⟨m1,m2,m3,l,e,fz,raw,rfl,m4⟩:=hs i B h0i;rw[hi] at m2;cases m2;obtain⟨M2,q1,q2⟩:=E.rh.blk i _ m3;have hτ:τ i=some M:=E.le i M (by rw[Map.low_at m1];exact k1)
   rw[hτ] at q1;cases q1;exact⟨M,k1,RB.ints m4 q2⟩
  |none=>refine⟨M,k1,k2.mono (Map.le_refl _) (other M.b (rh.old i M k1) fun j B L h1 h2 e=>?_)⟩;have:=rh.inj i j A B M L hi (hs j B h1).2.1 k1 h2 e;rw[this,h1] at h0i;cases h0i
 ·cases h0i:h0.get i with
  |some B=>obtain⟨m1,m2,m3,_⟩:=hs i B h0i;rw[h1] at m2;cases m2;exact (E.keep i _ M h0i h2 (by rw[Map.low_at m1];exact h3)).1
  |none=>refine other M.b (rh.old i M h3) fun j B L k1 k2 e=>?_;have:=rh.inj i j A B M L h1 (hs j B k1).2.1 h3 k2 e;rw[this,k1] at h0i;cases h0i
abbrev Tb:=List (Nat×List AV)
def tbH:Tb->List (TypeId×Nat×Bool)->H
 |(g,l)::r,t::ts=>(tbH r ts).set g (.cells l t.1 t.2.1 t.2.2)
 |_,_=>.e
def xO(h:H):Tb->List (TypeId×Nat×Bool)->Bool->Prop
 |[],[],_=>True
 |(g,l)::r,t::ts,b=>h.get g=some (.cells l t.1 t.2.1 t.2.2)/\xO h r ts b
 |_,_,_=>False
theorem TP:∀{L:Tb} {ts:List (TypeId×Nat×Bool)} {h:H} {i:Nat} {A:AB},xO h L ts true->(tbH L ts).get i=some A->h.get i=some A/\∃p∈L,p.1=i/\∃e fz raw,A=.cells p.2 e fz raw
 |[],[],h,i,A,_,hg=>by have e:tbH [] []=.e:=rfl;rw[e,Tr.get_e] at hg;cases hg
 |[],_::_,h,i,A,hi,_=>hi.elim
 |_::_,[],h,i,A,hi,_=>hi.elim
 |(g,l)::r,t::ts,h,i,A,hi,hg=>by
  rw[tbH,Tr.get_set] at hg;by_cases e:i=g
  ·rw[if_pos e] at hg;cases hg;exact⟨by rw[e];exact hi.1,_,.head _,e.symm,_,_,_,rfl⟩
  ·rw[if_neg e] at hg;obtain⟨k1,p,k2,k3⟩:=TP hi.2 hg;exact⟨k1,p,.tail _ k2,k3⟩
def IF(L:Tb):CR->Option (AV×List (Option AB))
 |.ok v h _=>some (v,L.map fun p=>h.get p.1)
 |_=>none
def xN:Tb->List (TypeId×Nat×Bool)->List (Option AB)
 |(_,l)::r,t::ts=>some (.cells l t.1 t.2.1 t.2.2)::xN r ts
 |_,_=>[]
theorem TR:∀{L:Tb} {ts:List (TypeId×Nat×Bool)} {h h':H},xO h L ts true->(L.map fun p=>h'.get p.1)=xN L ts->∀p∈L,h'.get p.1=h.get p.1
 |[],_,_,_,_,_,p,hp=>by cases hp
 |_::_,[],_,_,hi,_,_,_=>hi.elim
 |(g,l)::r,t::ts,h,h',hi,he,p,hp=>by
  simp only[List.map_cons,xN,List.cons.injEq] at he;rcases List.mem_cons.1 hp with rfl|hp
  ·rw[he.1,hi.1]
  ·exact TR hi.2 he.2 p hp
open Classical in
noncomputable def i0(L:Tb)(T:List (List AV))(F:List AV->AV):Ent:=fun args h nx=>if (∃ts,xO h L ts true)/\args∈T then .ok (F args) h nx else .bad
theorem aDC{X:Ovr}(hX:rJ P X)(hc:wU P=true){f:FuncId}{n:Nat}{L:Tb}{T:List (List AV)}{F:List AV->AV}(hg:L.all (fun p=>Nat.blt p.1 P.globals.size&&p.2.all kB)=true)(hT:T.all (fun us=>us.all oX&&oX (F us))=true)
  (hrun:∀ts,ts.length=L.length->T.map (fun us=>IF L (bM P X n f us (tbH L ts) P.globals.size))=T.map fun us=>some (F us,xN L ts)):nR P f (i0 L T F):=by
 intro args h nx v h' nx' hr σ w vs rh bd gl hvs;unfold i0 at hr;split at hr
 ·rename_i hm;cases hr;obtain⟨⟨ts,hin⟩,hm⟩:=hm;have h1:=List.all_eq_true.1 hT args hm;simp only[Bool.and_eq_true] at h1;have hlen:ts.length=L.length:=by
   clear hrun hg hT hvs rh gl bd
   induction L generalizing ts with
   |nil=>cases ts with
    |nil=>rfl
    |cons _ _=>exact hin.elim
   |cons p L ih=>cases ts with
    |nil=>exact hin.elim
    |cons t ts=>rw[List.length_cons,List.length_cons,ih ts hin.2]
  have h2:=List.map_inj_left.1 (hrun ts hlen) args hm;cases hev:bM P X n f args (tbH L ts) P.globals.size with
  |bad=>rw[hev] at h2;cases h2
  |ok v h2' n2=>
   rw[hev] at h2;simp only[IF,Option.some.injEq,Prod.mk.injEq] at h2;obtain⟨rfl,h3⟩:=h2;refine (aF5 hX hc h1.1 h1.2 (nx:=nx) (fun i A hi=>?_) hev rh gl hvs).mono ?_
   ·obtain⟨k1,p,k2,rfl,e,fz,raw,rfl⟩:=TP hin hi;have k4:=List.all_eq_true.1 hg p k2;simp only[Bool.and_eq_true] at k4;exact⟨Nat.blt_eq.mp k4.1,k1,by rw[TR hin h3 p k2,k1],_,_,_,_,rfl,k4.2⟩
   ·rintro u w' ⟨E,hu⟩;exact⟨σ,E,Nat.le_refl _,hu⟩
 ·cases hr
def plA:V->AV
 |.bool b=>.bool b
 |.int k n=>.int k n
 |.str s=>.str s
 |_=>.nilp
def kI:V->Bool
 |.bool _=>true
 |.int _ _=>true
 |.str _=>true
 |_=>false
theorem aBs{w:Wd}{v:V}{a:AV}(hp:kI v=true)(h:Den w v a):a=plA v:=by cases h<;>first|rfl|cases hp
theorem E8{w:Wd}:∀(vs:List V) {us:List AV},vs.all kI=true->aX w vs us->us=vs.map plA
 |[],us,_,h=>by cases h;rfl
 |v::l,us,hp,h=>by simp only[List.all_cons,Bool.and_eq_true] at hp;cases h with|cons _ a _ m h hl=>rw[List.map_cons,aBs hp.1 h,E8 l hp.2 hl]
theorem aGg{w:Wd}{v:V}(hp:kI v=true):Den w v (plA v):=by
 cases v<;>first|cases hp;done|skip
 ·exact .bool _
 ·exact .int _ _
 ·exact .str _
theorem TQ{G:Gt}{w:Wd}(hg:aV G w){vh:VH}{vn:Nat}{h:H}{an:Nat}(hh:HR w vh vn h an):∀{L:Tb},(∀p∈L,∃l,G p.1=some l/\l.all kI=true/\l.map plA=p.2)->∃ts,xO h L ts true
 |[],_=>⟨[],trivial⟩
 |p::L,hL=>by obtain⟨l,h1,h2,h3⟩:=hL p (.head _);obtain⟨ts,hts⟩:=TQ hg hh (L:=L) fun q hq=>hL q (.tail _ hq);obtain⟨A,hK,hA⟩:=hg p.1 _ h1;obtain⟨e,fz,raw,hb⟩:=hh.frz p.1 A hK;refine⟨(e,fz,raw)::ts,?_,hts⟩;rw[hb,<-h3,E8 l h2 hA]
theorem oR{X:Ovr}{G:Gt}{f:FuncId}{L:Tb}{T:List (List AV)}{F:List AV->AV}(hX:X f=some (i0 L T F))(hG:∀p∈L,∃l,G p.1=some l/\l.all kI=true/\l.map plA=p.2){vs:List V}{r:V}(hp:vs.all kI=true)(hr:kI r=true)(hm:vs.map plA∈T)(hF:F (vs.map plA)=plA r)(vh:VH)(vn:Nat):
  aE P X G f vs vh vn fun v vh' vn'=>v=r/\vh'=vh/\vn'=vn:=by
 refine⟨fun w h an us hg hh hd=>?_⟩;have hts:=TQ hg hh hG;cases E8 vs hp hd;refine⟨r,vh,vn,plA r,h,an,w,⟨rfl,rfl,rfl⟩,⟨1,fun k hk=>?_⟩,hh,aGg hr,.refl fun _ h=>.inl h⟩;obtain⟨k,rfl⟩:∃j,k=j+1:=⟨k-1,by omega⟩
 simp only[bM,hX,i0,if_pos (And.intro hts hm),hF]
end
end
end Go.VL
namespace Go.Proofs.YtjoadepfokpcoaaGreatDoor
section
open Go Go.Ev Go.VL
def Q2:List (List Nat×List Nat):=(wN.flatMap fun p=>oP.map fun l=>(p,l))++jL.map fun a=>(a.p,a.l)
def xS:List (List Nat):=lJ++jL.map fun a=>a.v
def TM:List (List Nat):=oP
def H4:List (List AV):=Q2.map fun p=>[.str p.1,.str p.2]
def DQ:List AV->AV|[.str p,.str l]=>.bool (dT p l)|_=>.bool false
def H1:List (List AV):=xS.map fun s=>[.str s]
def DO:List AV->AV|[.str s]=>.bool (fY s)|_=>.bool false
def H7:List (List AV):=TM.map fun s=>[.str s]
def DU:List AV->AV|[.str s]=>.bool (pC s)|_=>.bool false
def H3:List (List AV):=xS.flatMap fun s=>[iC,rT,rW].map fun w=>[.str s,.str w]
def DP:List AV->AV|[.str s,.str w]=>.bool (iJ s w)|_=>.bool false
def H6:List (List AV):=xS.map fun s=>[.str s,.str zO]
def DT:List AV->AV|[.str s,.str _]=>.bool (!decide (s=[])&&decide ((s.getLastD 0:Int)=45))|_=>.bool false
def H5:List (List AV):=xS.map fun s=>[.str s,.int .i64 0]
def DR:List AV->AV|[.str s,_]=>.int .i64 ((s.takeWhile fun c=>o9 (wr .i32 (.ofNat c))).length:Int)|_=>.bool false
def u8(n:Nat):AV:=.int .u8 (.ofNat n)
def mX:List AV:=((List.replicate 128 240++List.replicate 66 241)++List.replicate 30 2++[19]++List.replicate 12 3++[35,3,3,52,4,4,4,68]++List.replicate 11 241).map u8
def mH:List AV:=([128,191,160,191,128,159,144,191,128,143]++List.replicate 22 0).map u8
def dbL:List AV:=(tzL.map fun v=>match v with|.int k n=>AV.int k n|_=>.bool false)
def tb(m:Int):Tb:=[(0,dbL),(1,mX),(2,mH),(3,[.int .i64 m])]
def ran(f:FuncId)(T:List (List AV))(A:List AV->AV):Prop:=∀(m:Int) (t0 t1 t2 t3:TypeId×Nat×Bool),T.map (fun us=>IF (tb m) (bM Tryz.prog (ovr base) 1000000 f us (tbH (tb m) [t0,t1,t2,t3]) Tryz.prog.globals.size))=T.map fun us=>some (A us,xN (tb m) [t0,t1,t2,t3])
set_option maxRecDepth 100000
theorem aI8:ran u7 H1 DO:=fun m t0 t1 t2 t3=>by kernel_rfl
theorem aId:ran zB H7 DU:=fun m t0 t1 t2 t3=>by kernel_rfl
theorem aI9:ran pR H3 DP:=fun m t0 t1 t2 t3=>by kernel_rfl
theorem aIc:ran y8 H6 DT:=fun m t0 t1 t2 t3=>by kernel_rfl
theorem aIb:ran zA H5 DR:=fun m t0 t1 t2 t3=>by kernel_rfl
theorem aIa:ran u9 H4 DQ:=fun m t0 t1 t2 t3=>by kernel_rfl
end
section
open Go Go.Ev Go.VL
def r8:List AV->AV|_=>.bool true
set_option maxRecDepth 100000
theorem aIe:ran 21 [[]] r8:=fun m t0 t1 t2 t3=>by kernel_rfl
end
section
open Go Go.Ev Go.VL
set_option maxRecDepth 100000
theorem aIf:ran 25 [[]] r8:=fun m t0 t1 t2 t3=>by kernel_rfl
end
open Go.Num
theorem GP:∀(k:Nat) (l:List Bool) (n:Int),(k:Int)<=n->jQ (List.replicate k false++l) n=jQ l (n-k)
 |0,l,n,_=>by simp
 |k+1,l,n,h=>by
  rw[List.replicate_succ,List.cons_append,jQ,show (if false=true then n+1 else n-1)=n-1 from rfl,if_neg (by omega),GP k l (n-1) (by omega)]
  congr 1
  omega
theorem QZ:∀(ts:List Nd) (o:Nat),fV ts o=true->jQ (dM ts o) o=true
 |[],o,_=>by
  have:=GP o [] o (by omega)
  rw[List.append_nil] at this;rw[dM,this,jQ];exact decide_eq_true (by omega)
 |n::ts,o,h=>by
  rw[fV,Bool.and_eq_true,Bool.and_eq_true,decide_eq_true_eq,decide_eq_true_eq] at h;obtain⟨⟨h1,h2⟩,h3⟩:=h;rw[dM,GP _ _ _ (by omega),jQ,show ∀x:Int,(if true=true then x+1 else x-1)=x+1 from fun _=>rfl,if_neg (by omega)]
  have:=QZ ts _ h3;rw[show (o:Int)-((o-n.d.toNat:Nat):Int)+1=((n.d.toNat+1:Nat):Int) by omega]
  exact this
theorem HV:∀(ts:List Nd) (o:Nat),fV ts o=true->(dM ts o).length=2*ts.length+o
 |[],o,_=>by simp[dM]
 |n::ts,o,h=>by rw[fV,Bool.and_eq_true,Bool.and_eq_true,decide_eq_true_eq,decide_eq_true_eq] at h;obtain⟨⟨h1,h2⟩,h3⟩:=h;rw[dM,List.length_append,List.length_replicate,List.length_cons,HV ts _ h3,List.length_cons];omega
def pos(t:List Nd)(k:Nat):Nat:=2*k-(dep t k).toNat
section
variable {t : List Nd} (h : fV t 0 = true)
include h
theorem aIx:(dM t 0).length=2*t.length:=by rw[HV t 0 h];rfl
end
def aCb(t:List Nd)(k:Nat):Int:=if k+1<t.length/\dep t (k+1)=dep t k+1 then ((k+1:Nat):Int) else -1
def qM(t:List Nd)(k:Nat):Int:=if sM t k<t.length/\dep t (sM t k)=dep t k then (sM t k:Int) else -1
def aGk(t:List Nd)(k:Nat):Int:=if 0<=qO t (dep t k+1) k/\dep t (qO t (dep t k+1) k).toNat=dep t k then qO t (dep t k+1) k else -1
def aEx(t:List Nd)(k:Nat):Int:=if sM t k=k+1 then -1 else qO t (dep t k+2) (sM t k)
def anc(t:List Nd)(k:Nat):Nat->Nat
 |0=>k
 |i+1=>(R7 t (anc t k i)).toNat
def upA(t:List Nd)(k:Nat)(n:Int):Int:=if n<0\/dep t k<n then -1 else (anc t k n.toNat:Int)
section
variable {t : List Nd} (h : fV t 0 = true)
include h
omit h in
end
def aEy(t:List Nd)(k x:Nat):Int:=if x=k+1 then -1 else qO t (dep t k+2) x
section
variable {t : List Nd} (h : fV t 0 = true)
include h
end
section
attribute [local irreducible] aM
variable {X : Ovr} {G : Gt} {vh : VH} {vn : Nat}
theorem BO{α:Type}(a:α):∀n,Ev.reps n [a]=List.replicate n a
 |0=>rfl
 |n+1=>by rw[List.replicate_succ,<-BO a n];rfl
theorem IL(n:Nat):hY n<=8:=by
 unfold hY;rw[List.getD_eq_getElem?_getD];cases h:jH[n]? with
 |none=>exact Nat.zero_le _
 |some x=>exact QL x (List.mem_of_getElem? h)
theorem QV{b:Nat}:∀(l:List Nat) (a:Nat),a<b->(∀x∈l,x<b)->nB l a<b
 |[],a,h,_=>h
 |x::l,a,h,hl=>QV l _ (by have:=hl x (.head _);omega) fun y hy=>hl y (.tail _ hy)
def r7(vh:VH)(b n:Nat):Prop:=∃L:List V,vh b=some (.cells L r6 0 false)/\L.length=n/\∀v∈L,∃x,v=.int .u64 x
theorem UG{L:List V}{n i:Nat}{x:Int}(hn:L.length=n)(hi:i<n)(h:∀v∈L,∃x,v=.int .u64 x):(setSeg L (0+i*1) [V.int .u64 x]).length=n/\∀v∈setSeg L (0+i*1) [V.int .u64 x],∃x,v=.int .u64 x:=by
 have e:setSeg L (0+i*1) [V.int .u64 x]=L.take i++[V.int .u64 x]++L.drop (i+1):=by
  rw[qQ _ _ _ (by show 0+i*1+1<=L.length;omega),Nat.zero_add,Nat.mul_one]
  rfl
 rw[e];refine⟨by simp only[List.length_append,List.length_take,List.length_drop,List.length_singleton];omega,fun v hv=>?_⟩
 rcases List.mem_append.1 hv with hv|hv
 ·rcases List.mem_append.1 hv with hv|hv
  ·exact h v (List.mem_of_mem_take hv)
  ·rw[List.mem_singleton.1 hv];exact⟨x,rfl⟩
 ·exact h v (List.mem_of_mem_drop hv)
theorem UF{L:List V}{n i:Nat}(hn:L.length=n)(hi:i<n)(h:∀v∈L,∃x,v=.int .u64 x):∃x,L[0+i*1]? =some (.int .u64 x):=by
 rw[Nat.zero_add,Nat.mul_one,List.getElem?_eq_getElem (by omega)]
 obtain⟨x,hx⟩:=h _ (List.getElem_mem (by omega:i<L.length))
 exact⟨x,by rw[hx]⟩
def IB(vh:VH)(b n w:Nat):Prop:=vh b=some (.cells [.nili,.int .i64 (n:Int),.int .i64 (w:Int)] KL 0 false)
theorem I8(l:List Nat)(hl:l.length<=1048576)(c:Option Nat)(b bw w nw:Nat)(hw:w<=8)(hnw:nw=(l.length*w+63) / 64)(hne:b≠bw)(vh0:VH)(vn:Nat)(Q:FQ)
  (hQ:∀vh' i t,IB vh' b l.length w->r7 vh' bw nw->(∀d,d≠bw->vh' d=vh0 d)->Q (.exit 0) [(3,.ptr b 0),(4,.msl bw 0 nw 1 (some nw)),(35,.sl 1 (l.map fN) c),(36,.int .i64 (l.length:Int)),(37,.int .i64 i),(38,.bool t)] vh' vn):
  ∀(m i:Nat),l.length-i=m->i<=l.length->∀(vh:VH),IB vh b l.length w->r7 vh bw nw->(∀d,d≠bw->vh d=vh0 d)->
  aC Tryz.prog X G (.loop EC) [(3,.ptr b 0),(4,.msl bw 0 nw 1 (some nw)),(35,.sl 1 (l.map fN) c),(36,.int .i64 (l.length:Int)),(37,.int .i64 (i:Int))] vh vn Q
 |m,i,hm,hi,vh,B,W,F=>by
  refine aC.round ?_
  conv=>whnf
  refine aB.mk (fun h1=>?_) (fun h1=>?_)
  ·have hlt:i<l.length:=by have:=of_decide_eq_true h1;omega
   have e:wr .i64 ((i:Int)+1)=((i+1:Nat):Int):=by rw[aF]<;>omega
   have nxt:∀vh2,IB vh2 b l.length w->r7 vh2 bw nw->(∀d,d≠bw->vh2 d=vh d)->aC Tryz.prog X G (.loop EC) [(3,.ptr b 0),(4,.msl bw 0 nw 1 (some nw)),(35,.sl 1 (l.map fN) c),(36,.int .i64 (l.length:Int)),(37,.int .i64 ((i+1:Nat):Int))] vh2 vn Q:=fun vh2 B2 W2 F2=>I8 l hl c b bw w nw hw hnw hne vh0 vn Q hQ (m-1) (i+1) (by omega) (by omega) vh2 B2 W2 fun d hd=>(F2 d hd).trans (F d hd)
   have hiw:i*w<=l.length*w:=Nat.mul_le_mul_right w hi;have hiw1:(i+1)*w<=l.length*w:=Nat.mul_le_mul_right w hlt;have hlw:l.length*w<=1048576*8:=Nat.mul_le_mul hl hw;rw[Nat.add_mul,Nat.one_mul] at hiw1;generalize hmw:i*w=iw at hiw hiw1;generalize l.length*w=lw at hnw hiw hiw1 hlw;have em:wr .i64 ((i:Int)*(w:Int))=(iw:Int):=by rw[<-Int.natCast_mul,hmw,aF]<;>omega
   have eq:wr .i64 ((iw:Int).tdiv 64)=((iw / 64:Nat):Int):=by rw[show (iw:Int).tdiv 64=((iw / 64:Nat):Int) from rfl,aF]<;>omega
   have er:wr .u64 ((iw:Int).tmod 64)=((iw%64:Nat):Int):=by rw[show (iw:Int).tmod 64=((iw%64:Nat):Int) from rfl,dA]<;>omega
   conv=>whnf
   refine Get.mk (i,fN l[i]) ⟨rfl,by simp[hlt]⟩ ?_
   conv=>whnf
   refine Get.mk (_,_,_,_) B ?_
   conv=>whnf
   refine Get.mk _ rfl ?_
   conv=>whnf
   repeat (refine Owe.mk (by decide) ?_;conv=>whnf)
   refine Get.mk (_,_,_,_) B ?_
   conv=>whnf
   refine Get.mk _ rfl ?_
   conv=>whnf
   repeat (refine Owe.mk (by decide) ?_;conv=>whnf)
   rw[em,eq,er];refine Get.mk (_,_,_,_) B ?_
   conv=>whnf
   refine Get.mk _ rfl ?_
   conv=>whnf
   repeat (refine Owe.mk (by decide) ?_;conv=>whnf)
   refine aB.mk (fun c1=>?_) (fun c1=>?_)
   ·conv=>whnf
    rw[e];exact nxt vh B W fun _ _=>rfl
   ·have c1':w≠0:=by rintro rfl;exact absurd c1 (by decide)
    obtain⟨L,W1,W2,W3⟩:=id W;have hat:iw / 64<nw:=by omega
    obtain⟨x,hx⟩:=UF W2 hat W3
    conv=>whnf
    refine Get.mk (iw / 64) ⟨rfl,hat⟩ ?_
    conv=>whnf
    refine Get.mk (_,_,_,_) W1 ?_
    conv=>whnf
    refine Get.mk _ hx ?_
    conv=>whnf
    refine Get.mk (iw%64) rfl ?_
    conv=>whnf
    refine Get.mk (iw / 64) ⟨rfl,hat⟩ ?_
    conv=>whnf
    refine Get.mk (_,_,_,_) W1 ?_
    conv=>whnf
    refine⟨⟨by show 0+iw / 64*1+1<=L.length;omega,Nat.zero_le _⟩,?_⟩
    generalize wr .u64 _=y;obtain⟨s1,s2⟩:=UG (x:=y) W2 hat W3;generalize setSeg L _ _=L2 at s1 s2;generalize hv:aI vh bw _=vh2;have W2':r7 vh2 bw nw:=hv▸⟨L2,aK,s1,s2⟩;have F2:∀d,d≠bw->vh2 d=vh d:=fun d hd=>hv▸aG hd;have B2:IB vh2 b l.length w:=(F2 b hne).trans B;clear hv;refine Get.mk (_,_,_,_) B2 ?_
    conv=>whnf
    refine Get.mk _ rfl ?_
    conv=>whnf
    have e3:wr .i64 (wr .i64 ((iw%64:Nat):Int)+(w:Int))=((iw%64+w:Nat):Int):=by rw[show wr .i64 ((iw%64:Nat):Int)=((iw%64:Nat):Int) by rw[aF]<;>omega,aF]<;>omega
    rw[e3];refine aB.mk (fun c2=>?_) (fun c2=>?_)
    ·have c2':64<iw%64+w:=by have:=of_decide_eq_true c2;omega
     obtain⟨L,W1,W2,W3⟩:=id W2';have hat:iw / 64+1<nw:=by omega
     have e4:wr .i64 (((iw / 64:Nat):Int)+1)=((iw / 64+1:Nat):Int):=by rw[aF]<;>omega
     have e5:wr .u64 (64-((iw%64:Nat):Int))=((64-iw%64:Nat):Int):=by rw[dA]<;>omega
     obtain⟨x,hx⟩:=UF W2 hat W3
     conv=>whnf
     rw[e4];refine Get.mk (iw / 64+1) ⟨rfl,hat⟩ ?_
     conv=>whnf
     refine Get.mk (_,_,_,_) W1 ?_
     conv=>whnf
     refine Get.mk _ hx ?_
     conv=>whnf
     rw[e5];refine Get.mk (64-iw%64) rfl ?_
     conv=>whnf
     refine Get.mk (iw / 64+1) ⟨rfl,hat⟩ ?_
     conv=>whnf
     refine Get.mk (_,_,_,_) W1 ?_
     conv=>whnf
     refine⟨⟨by show 0+(iw / 64+1)*1+1<=L.length;omega,Nat.zero_le _⟩,?_⟩
     generalize wr .u64 _=y;obtain⟨s1,s2⟩:=UG (x:=y) W2 hat W3;generalize setSeg L _ _=L2 at s1 s2;generalize hv:aI vh2 bw _=vh3;have W3':r7 vh3 bw nw:=hv▸⟨L2,aK,s1,s2⟩;have F3:∀d,d≠bw->vh3 d=vh2 d:=fun d hd=>hv▸aG hd;have B3:IB vh3 b l.length w:=(F3 b hne).trans B2;clear hv
     conv=>whnf
     rw[e];exact nxt vh3 B3 W3' fun d hd=>(F3 d hd).trans (F2 d hd)
    ·conv=>whnf
     rw[e];exact nxt vh2 B2 W2' F2
  ·have hlt:i=l.length:=by have:=of_decide_eq_false h1;omega
   conv=>whnf
   exact hQ vh _ _ B W F
termination_by m=>m
decreasing_by all_goals omega
theorem VO(H:XInt X)(x:Nat)(l:List Nat)(hl:(x::l).length<=1048576)(hx:∀y∈x::l,y<256)(c:Option Nat)(vh:VH)(vn:Nat):
  aE Tryz.prog X G x8 [.sl 1 ((x::l).map fN) c] vh vn fun v vh' vn'=>v=.ptr vn 0/\vn<vn'/\Frm vh vn vh' vn':=by
 have hlen:Int.ofNat ((x::l).map fN).length=((x::l).length:Int):=by simp
 have hm:nB l x<256:=QV l x (hx x (.head _)) fun y hy=>hx y (.tail _ hy);have hw:=IL (nB l x);apply aDY.run H.inew
 conv=>whnf
 rw[hlen];generalize hv:aI vh vn _=vh1;have B1:IB vh1 vn (x::l).length 0:=hv▸aK;have F1:∀d,d≠vn->vh1 d=vh d:=fun d hd=>hv▸aG hd;clear hv;refine aB.mk (fun _=>?_) (fun h=>absurd (of_decide_eq_false h) (by simp only[List.length_cons];omega))
 conv=>whnf
 refine (V0 H x l (by omega) c).mono fun v vh' vn' he=>?_
 obtain⟨e2,e3,e4⟩:=he;rw[e2,e3,e4];clear e2 e3 e4
 conv=>whnf
 refine (DK H _ hm).mono fun v vh' vn' he=>?_;obtain⟨e2,e3,e4⟩:=he;rw[e2,e3,e4];clear e2 e3 e4;generalize hY (nB l x)=w at hw
 conv=>whnf
 refine Get.mk (_,_,_,_) B1 ?_
 conv=>whnf
 refine⟨⟨(by decide:3<=3),Nat.zero_le _⟩,?_⟩
 conv=>whnf
 generalize hv:aI vh1 vn _=vh2;have B2:IB vh2 vn (x::l).length w:=hv▸aK;have F2:∀d,d≠vn->vh2 d=vh1 d:=fun d hd=>hv▸aG hd;clear hv;refine Get.mk (_,_,_,_) B2 ?_
 conv=>whnf
 refine Get.mk _ rfl ?_
 conv=>whnf
 refine Get.mk (_,_,_,_) B2 ?_
 conv=>whnf
 refine Get.mk _ rfl ?_
 conv=>whnf
 have hlw:(x::l).length*w<=1048576*8:=Nat.mul_le_mul hl hw;have e1:wr .i64 ((wr .i64 (wr .i64 (wr .i64 (((x::l).length:Int)*(w:Int))+64)-1)).tdiv 64)=((((x::l).length*w+63) / 64:Nat):Int):=by rw[<-Int.natCast_mul];generalize (x::l).length*w=lw at hlw;rw[show wr .i64 (lw:Int)=(lw:Int) by rw[aF]<;>omega,show wr .i64 ((lw:Int)+64)=(lw:Int)+64 by rw[aF]<;>omega,show wr .i64 ((lw:Int)+64-1)=((lw+63:Nat):Int) by rw[aF]<;>omega,show (((lw+63:Nat):Int)).tdiv 64=(((lw+63) / 64:Nat):Int) from rfl,aF]<;>omega
 conv=>whnf
 repeat (refine Owe.mk (by decide) ?_;conv=>whnf)
 rw[e1];have hnw:((x::l).length*w+63) / 64<=1048576:=by generalize (x::l).length*w=lw at hlw;omega
 obtain⟨nw,hnw'⟩:∃nw,nw=((x::l).length*w+63) / 64:=⟨_,rfl⟩;rw[<-hnw'] at hnw ⊢;refine Get.mk nw rfl ?_;refine Get.mk nw ⟨rfl,Nat.le_refl _,by omega,by show nw<9223372036854775808;omega⟩ ?_
 conv=>whnf
 generalize hv:aI vh2 (vn+1) _=vh3;have B3:IB vh3 vn (x::l).length w:=by rw[<-hv];exact (aG (by omega)).trans B2
 have W3:r7 vh3 (vn+1) nw:=by rw[<-hv,BO];exact⟨_,aK,List.length_replicate,fun v hv=>⟨0,(List.mem_replicate.1 hv).2⟩⟩
 have F3:∀d,d≠vn+1->vh3 d=vh2 d:=fun d hd=>by rw[<-hv];exact aG hd
 clear hv;rw[hlen];refine I8 (x::l) hl c vn (vn+1) w nw hw hnw' (by omega) vh3 _ _ (fun vh4 i t B4 _ F4=>?_) _ 0 rfl (Nat.zero_le _) vh3 B3 W3 fun _ _=>rfl
 conv=>whnf
 refine Get.mk (_,_,_,_) B4 ?_
 conv=>whnf
 refine⟨⟨(by decide:1<=3),Nat.zero_le _⟩,?_⟩
 conv=>whnf
 refine Get.mk _ (fun _ _ h=>h) ⟨rfl,by show vn<vn+1+1;omega,by show vn<=vn+1+1;omega,fun d hd=>?_⟩
 exact (aG (by omega)).trans ((F4 d (by omega)).trans ((F3 d (by omega)).trans ((F2 d (by omega)).trans (F1 d (by omega)))))
end
end Go.Proofs.YtjoadepfokpcoaaGreatDoor
namespace Go.VL
section
open Go.Ev
section
variable {P : Program} {X : Ovr} {G : Gt}
theorem aFd{f:FuncId}(hX:X f=some sZ)(b o:Nat)(vh:VH)(vn:Nat):
  aE P X G f [.ptr b o] vh vn fun v vh' vn'=>v=.ptr b o/\vh'=vh/\vn'=vn:=by
 refine⟨fun w h an us hg hr hd=>?_⟩;cases hd with|cons _ a _ m ha hl=>
 cases hl;cases ha with|ptr _ _ i hi=>
 refine⟨.ptr b o,vh,vn,.ptr i o,h,an,w,⟨rfl,rfl,rfl⟩,⟨1,fun k hk=>?_⟩,hr,.ptr _ _ _ hi,.refl fun _ h=>.inl h⟩;obtain⟨k,rfl⟩:∃j,k=j+1:=⟨k-1,by omega⟩
 simp only[bM,hX,sZ]
theorem QP(w:Wd):∀n,aX w (List.replicate n V.lost) (Ev.reps n [AV.junk])
 |0=>.nil
 |n+1=>.cons _ _ _ _ .junk (QP w n)
theorem aFf{f:FuncId}{e:TypeId}(hX:X f=some (wI e))(n:Nat)(hn:n<=281474976710656)(vh:VH)(vn:Nat):
  aE P X G f [.int .i64 (n:Int)] vh vn fun v vh' vn'=>v=.msl vn 0 n 1 none/\vh'=aI vh vn (.cells (List.replicate n .lost) e 0 false)/\vn'=vn+1:=by
 refine⟨fun w h an us hg hr hd=>?_⟩;cases hd with|cons _ a _ m ha hl=>
 cases hl;cases ha;have hD:jC (w.addB vn an) (.cells (List.replicate n .lost) e 0 false) (.cells (Ev.reps n [.junk]) e 0 false):=.cells _ _ _ _ _ (QP _ n);refine⟨.msl vn 0 n 1 none,_,vn+1,.sl an 0 n 1 none,h.set an (.cells (Ev.reps n [.junk]) e 0 false),an+1,w.addB vn an,⟨rfl,rfl,rfl⟩,⟨1,fun k hk=>?_⟩,hr.newB hr.free (Nat.le_succ _) (Nat.lt_succ_self _) hD,.msl _ _ _ _ _ _ (by simp[Wd.addB]),hr.le_addB an,Nat.le_succ _,fun i hi _=>by rw[Tr.get_set,if_neg (by omega)],fun b i hb=>?_,fun i L hi=>.inl hi,fun i hi=>?_⟩
 ·obtain⟨k,rfl⟩:∃j,k=j+1:=⟨k-1,by omega⟩
  have hb:(keq IntKind.i64 .i64&&Nat.ble n 281474976710656)=true:=by rw[Bool.and_eq_true];exact⟨rfl,bC.2 hn⟩
  simp only[bM,hX];show (bif keq IntKind.i64 .i64&&Nat.ble n 281474976710656 then CR.ok (AV.sl an 0 n 1 none) (h.set an (.cells (Ev.reps n [.junk]) e 0 false)) (Nat.succ an) else .bad)=_;rw[hb];rfl
 ·simp only[Wd.addB] at hb;split at hb
  ·cases hb;exact .inr (.inl (Nat.le_refl _))
  ·exact .inl hb
 ·obtain⟨b,B,h1,h2⟩:=hi;simp only[Wd.addB] at h2;split at h2
  ·cases h2;exact .inr (Nat.le_refl _)
  ·rename_i hne;rw[aG hne] at h1;exact .inl ⟨b,B,h1,h2⟩
theorem PX{α:Type}{enc:α->List V}{es:Nat}(hl:∀a,(enc a).length=es):∀(xs:List α) (i:Nat),(xs.map enc).flatten.take (i*es)=((xs.take i).map enc).flatten
 |[],i=>by simp
 |a::xs,0=>by simp
 |a::xs,i+1=>by
  have e:(i+1)*es-(enc a).length=i*es:=by rw[hl,Nat.succ_mul];omega
  simp only[List.map_cons,List.flatten_cons,List.take_succ_cons,List.take_append,e];rw[PX hl xs i,List.take_of_length_le (by rw[hl,Nat.succ_mul];omega)]
theorem PU{α:Type}{enc:α->List V}{es:Nat}(hl:∀a,(enc a).length=es):∀(xs:List α) (i:Nat),(xs.map enc).flatten.drop (i*es)=((xs.drop i).map enc).flatten
 |[],i=>by simp
 |a::xs,0=>by simp
 |a::xs,i+1=>by
  have e:(i+1)*es-(enc a).length=i*es:=by rw[hl,Nat.succ_mul];omega
  simp only[List.map_cons,List.flatten_cons,List.drop_succ_cons,List.drop_append,e];rw[PU hl xs i,List.drop_eq_nil_of_le (by rw[hl,Nat.succ_mul];omega),List.nil_append]
theorem PW{α:Type}{enc:α->List V}{es:Nat}(hl:∀a,(enc a).length=es)(xs:List α)(i:Nat)(h:i<xs.length)(a:α):setSeg (xs.map enc).flatten (0+i*es) (enc a)=((xs.set i a).map enc).flatten:=by
 have hle:=lH hl xs i h;rw[qQ _ _ _ (by rw[hl];omega),Nat.zero_add,PX hl,hl,<-Nat.succ_mul,PU hl,List.set_eq_take_append_cons_drop,if_pos h]
 simp
theorem PZ{α:Type}{enc:α->List V}{es:Nat}{xs:List α}(hl:∀a,(enc a).length=es)(h0:0<es):0<es/\0+xs.length*es<=(xs.map enc).flatten.length/\∀x,some xs.length=some x->xs.length<=x:=⟨h0,by rw[iI hl];omega,fun x hx=>by cases hx;exact Nat.le_refl _⟩
end
end
end Go.VL
open Go.Num
namespace Go.Proofs.YtjoadepfokpcoaaGreatDoor
section
attribute [local irreducible] aM hY
variable {X : Ovr} {G : Gt} {vh : VH} {vn : Nat}
structure XOffs(X:Ovr):Prop extends XInt X where
 onew:X uI=none
def bK(n:Nat):List V:=[.int .i64 (n:Int)]
theorem gS(n:Nat):(bK n).length=1:=rfl
theorem FG(n:Nat):(fN n).length=1:=rfl
theorem FE:∀n,((List.replicate n false).map bS).flatten=List.replicate n (V.bool false)
 |0=>rfl
 |n+1=>by rw[List.replicate_succ,List.map_cons,List.flatten_cons,FE n];rfl
theorem JO(l:List Nat)(hl:l.length<=1048576)(c:Option Nat)(vh:VH)(vn:Nat)(Q:FQ)
  (hQ:∀(z:Nat) i t,(∀x∈l,x<=z)->(z=0\/z∈l)->Q (.exit 0) [(0,.sl 1 (l.map bK) c),(4,.int .i64 (z:Int)),(12,.sl 1 (l.map bK) c),(13,.int .i64 (l.length:Int)),(14,.int .i64 i),(15,.bool t)] vh vn):
  ∀(m i:Nat),l.length-i=m->i<=l.length->∀a:Nat,(∀x∈l.take i,x<=a)->(a=0\/a∈l)->(∀x∈l.drop i,a<=x)->(l.drop i).Pairwise (·<=·)->
  aC Tryz.prog X G (.loop MG) [(0,.sl 1 (l.map bK) c),(4,.int .i64 (a:Int)),(12,.sl 1 (l.map bK) c),(13,.int .i64 (l.length:Int)),(14,.int .i64 (i:Int))] vh vn Q
 |m,i,hm,hi,a,h1,h2,h3,h4=>by
  refine aC.round ?_
  conv=>whnf
  refine aB.mk (fun c1=>?_) (fun c1=>?_)
  ·have hlt:i<l.length:=by have:=of_decide_eq_true c1;omega
   have e:wr .i64 ((i:Int)+1)=((i+1:Nat):Int):=by rw[aF]<;>omega
   have hd:l.drop i=l[i]::l.drop (i+1):=(List.getElem_cons_drop hlt).symm;have hle:a<=l[i]:=h3 _ (by rw[hd];exact .head _)
   conv=>whnf
   refine Get.mk (i,bK l[i]) ⟨rfl,by simp[hlt]⟩ ?_
   conv=>whnf
   refine aB.mk (fun c2=>?_) (fun c2=>?_)
   ·exfalso;have:=of_decide_eq_true c2;omega
   conv=>whnf
   rw[e];rw[hd] at h4;refine JO l hl c vh vn Q hQ (m-1) (i+1) (by omega) (by omega) l[i] (fun x hx=>?_) (.inr (List.getElem_mem hlt)) (fun x hx=>(List.pairwise_cons.1 h4).1 x hx) (List.pairwise_cons.1 h4).2
   rw[<-List.take_append_getElem hlt] at hx;rcases List.mem_append.1 hx with hx|hx
   ·exact Nat.le_trans (h1 x hx) hle
   ·rw[List.mem_singleton.1 hx];exact Nat.le_refl _
  ·have hlt:i=l.length:=by have:=of_decide_eq_false c1;omega
   rw[hlt,List.take_length] at h1
   conv=>whnf
   exact hQ a _ _ h1 h2
termination_by m=>m
decreasing_by all_goals omega
def OB(vh:VH)(b n k h:Nat)(u v:V):Prop:=vh b=some (.cells [u,v,.int .i64 (n:Int),.int .i64 (k:Int),.int .i64 (h:Int)] KM 0 false)
def CE(vh:VH)(b n:Nat):Prop:=∃bs:List Bool,vh b=some (.cells (bs.map bS).flatten fB 0 false)/\bs.length=n
theorem JP(l:List Nat)(hl:l.length<=1048576)(c:Option Nat)(z k h:Nat)(hk:k<=7)(hz:∀x∈l,x<=z)(hz2:z<=8388608)(hh:h=z / 2^k)(lo b bu nu:Nat)(hnu:nu=l.length+h+1)(hne:b≠bu)(hblo:b<lo)(hbul:bu<lo)(vh0:VH)(Q:FQ)
  (hQ:∀sv vh' vn' ys i t,OB vh' b l.length k h .nili .nili->CE vh' bu nu->aQ fN 1 r6 lo vh' vn' sv ys->ys.length=l.length->(∀y∈ys,y<256)->lo<=vn'->(∀d,d<lo->d≠b->d≠bu->vh' d=vh0 d)->Q (.exit 2) [(7,.ptr b 0),(8,.msl bu 0 nu 1 (some nu)),(9,sv),(68,.sl 1 (l.map bK) c),(69,.int .i64 (l.length:Int)),(70,.int .i64 i),(71,.bool t)] vh' vn'):
  ∀(m i:Nat),l.length-i=m->i<=l.length->∀(sv:V) (ys:List Nat) (vh:VH) (vn:Nat),OB vh b l.length k h .nili .nili->CE vh bu nu->aQ fN 1 r6 lo vh vn sv ys->ys.length=i->(∀y∈ys,y<256)->lo<=vn->(∀d,d<lo->d≠b->d≠bu->vh d=vh0 d)->
  aC Tryz.prog X G (.loop EE) [(7,.ptr b 0),(8,.msl bu 0 nu 1 (some nu)),(9,sv),(68,.sl 1 (l.map bK) c),(69,.int .i64 (l.length:Int)),(70,.int .i64 (i:Int))] vh vn Q
 |m,i,hm,hi,sv,ys,vh,vn,B,U,A,hy,hy2,hlo,F=>by
  refine aC.round ?_;by_cases hlt:i<l.length
  ·have e:wr .i64 ((i:Int)+1)=((i+1:Nat):Int):=by rw[aF]<;>omega
   obtain⟨bs,U1,U2⟩:=id U;have hxz:=hz l[i] (List.getElem_mem hlt);have hp0:0<2^k:=Nat.pow_pos (by decide)
   have hp:2^k<=128:=Nat.pow_le_pow_right (by decide) hk
   obtain⟨q,hq⟩:∃q,q=l[i] / 2^k:=⟨_,rfl⟩;have hxd:q<=z / 2^k:=hq▸Nat.div_le_div_right hxz;have hxs:q<=l[i]:=hq▸Nat.div_le_self _ _;have ek:wr .u64 (k:Int)=(k:Int):=by rw[dA]<;>omega
   have ebl:(bif Nat.blt k (kbits .i64) then k else kbits .i64)=k:=by rw[show Nat.blt k (kbits .i64)=true from cF.2 (by show k<64;omega)];rfl
   have ea:wr .i64 ((q:Int)+(i:Int))=((q+i:Nat):Int):=by rw[aF]<;>omega
   obtain⟨P,hP⟩:∃P,P=2^k:=⟨_,rfl⟩;have hlow:l[i]&&& (P-1)<128:=by have:l[i]&&& (P-1)<=P-1:=Nat.and_le_right;omega
   have e1:wr .i64 (wr .i64 (1*.ofNat (Nat.pow 2 (bif Nat.blt k (kbits .i64) then k else kbits .i64)))-1)=((P-1:Nat):Int):=by rw[ebl,show (1:Int)*.ofNat (Nat.pow 2 k)=(P:Int) by rw[Int.one_mul,hP];rfl,show wr .i64 (P:Int)=(P:Int) by rw[aF]<;>omega,aF]<;>omega
   have e2:wr .u64 (wr .i64 (.ofNat (Nat.land (toU .i64 (l[i]:Int)) (toU .i64 ((P-1:Nat):Int)))))=((l[i]&&& (P-1):Nat):Int):=by
    rw[xP (by omega),xP (by omega)]
    show wr .u64 (wr .i64 ((l[i]&&& (P-1):Nat):Int))=_;rw[show wr .i64 ((l[i]&&& (P-1):Nat):Int)=((l[i]&&& (P-1):Nat):Int) by rw[aF]<;>omega,dA]<;>omega
   have fin:∀(ys:List Nat) (sv:V) (vh1 vh2:VH) (vn vn2:Nat),ys.length=i->(∀y∈ys,y<256)->vh1 bu=some (.cells (setSeg (bs.map bS).flatten (0+(q+i)*1) [V.bool true]) fB 0 false)->vh1 b=vh b->(∀d,d≠bu->vh1 d=vh d)->aQ fN 1 r6 lo vh2 vn2 sv (ys++[l[i]&&& (P-1)])->(∀d,d<lo->vh2 d=vh1 d)->lo<=vn2->aC Tryz.prog X G (.loop EE) [(7,.ptr b 0),(8,.msl bu 0 nu 1 (some nu)),(9,sv),(68,.sl 1 (l.map bK) c),(69,.int .i64 (l.length:Int)),(70,.int .i64 ((i+1:Nat):Int))] vh2 vn2 Q:=by
    intro ys sv vh1 vh2 vn vn2 g1 g2 g3 g4 g5 g6 g7 g8;refine JP l hl c z k h hk hz hz2 hh lo b bu nu hnu hne hblo hbul vh0 Q hQ (m-1) (i+1) (by omega) (by omega) sv _ vh2 vn2 ?_ ?_ g6 (by rw[List.length_append,List.length_singleton,g1]) (fun y hy=>?_) g8 (fun d d1 d2 d3=>(g7 d d1).trans ((g5 d d3).trans (F d d1 d2 d3)))
    ·exact (g7 b hblo).trans (g4.trans B)
    ·refine⟨bs.set (q+i) true,(g7 bu hbul).trans (g3.trans ?_),by rw[List.length_set];exact U2⟩
     rw[show[V.bool true]=bS true from rfl,PW iE bs (q+i) (by omega)]
    ·rcases List.mem_append.1 hy with hy|hy
     ·exact g2 y hy
     ·rw[List.mem_singleton.1 hy];omega
   rcases id A with⟨rfl|rfl,rfl⟩|⟨bq,q1,q2,rfl,q4⟩
   all_goals
    conv=>whnf
    refine aB.mk (fun _=>?_) (fun h=>absurd (of_decide_eq_false h) (by omega))
    conv=>whnf
    refine Get.mk (i,bK l[i]) ⟨rfl,by simp[hlt]⟩ ?_
    conv=>whnf
    refine Get.mk (_,_,_,_) B ?_
    conv=>whnf
    refine Get.mk _ rfl ?_
    conv=>whnf
    rw[ek];refine Get.mk k rfl ?_
    conv=>whnf
    rw[ebl,nL,<-hq,ea];refine Get.mk (q+i) ⟨rfl,by omega⟩ ?_
    conv=>whnf
    refine Get.mk (_,_,_,_) U1 ?_
    conv=>whnf
    refine⟨⟨by rw[iI iE];show 0+(q+i)*1+1<=_;omega,Nat.zero_le _⟩,?_⟩
    generalize hv:aI vh bu _=vh1;have U3:vh1 bu=some (.cells (setSeg (bs.map bS).flatten (0+(q+i)*1) [V.bool true]) fB 0 false):=hv▸aK;have F1:∀d,d≠bu->vh1 d=vh d:=fun d hd=>hv▸aG hd;clear hv;have B1:OB vh1 b l.length k h .nili .nili:=(F1 b hne).trans B;have A1:=A.mono (vh':=vh1) (Nat.le_refl _) fun d d1 d2 d3=>F1 d (by omega)
    refine Get.mk (_,_,_,_) B1 ?_
    conv=>whnf
    refine Get.mk _ rfl ?_
    conv=>whnf
    rw[ek];refine Get.mk k rfl ?_
    conv=>whnf
    rw[e1,e2];refine aQ.app (enc:=fN) (es:=1) FG (Nat.zero_lt_succ 0) A1 hlo (l[i]&&& (P-1)) ⟨?_,?_⟩ fun vh2 A2 f2=>?_
    ·(try simp only[List.length_nil] at hy ⊢);omega
    ·refine show _<9223372036854775808 from ?_
     (try simp only[List.length_nil] at hy ⊢);omega
    conv=>whnf
    rw[e];refine fin _ _ vh1 vh2 vn (vn+1) hy hy2 U3 (F1 b hne) F1 A2 (fun d hd=>f2 d (by omega) ?_) (by omega)
    first
     |exact id
     |exact fun h:d=bq=>by omega
  ·have hlt:i=l.length:=by omega
   subst hlt;rcases id A with⟨rfl|rfl,rfl⟩|⟨bq,q1,q2,rfl,q4⟩
   all_goals
    conv=>whnf
    refine aB.mk (fun h=>absurd (of_decide_eq_true h) (by omega)) (fun _=>?_)
    conv=>whnf
    exact hQ _ vh vn _ _ _ B U A hy hy2 hlo F
termination_by m=>m
decreasing_by all_goals omega
theorem V9(H:XOffs X)(l:List Nat)(h0:0<l.length)(hl:l.length<=1048575)(hr:l.Pairwise (·<=·))(hb:∀x∈l,x<=1048576/\x<256*l.length)(c:Option Nat)(vh:VH)(vn:Nat):
  aE Tryz.prog X G uI [.sl 1 (l.map bK) c] vh vn fun v vh' vn'=>v=.tup [.ptr vn 0,.int .i64 0]/\vn<vn'/\Frm vh vn vh' vn':=by
 have hlen:Int.ofNat (l.map bK).length=(l.length:Int):=by simp
 apply aD6.run H.onew
 conv=>whnf
 rw[hlen];refine JO l (by omega) c _ _ _ (fun z i t hz hz0=>?_) _ 0 rfl (Nat.zero_le _) 0 (by simp) (.inl rfl) (fun _ _=>Nat.zero_le _) hr
 have hzb:z<=1048576/\z<256*l.length:=by
  rcases hz0 with rfl|h
  ·omega
  ·exact hb z h
 have hq:z / l.length<256:=(Nat.div_lt_iff_lt_mul h0).2 hzb.2
 conv=>whnf
 refine aB.mk (fun c1=>?_) (fun c1=>?_)
 ·have:=of_decide_eq_true c1;omega
 conv=>whnf
 rw[hlen];generalize hv:aI vh vn _=vh1;have B1:OB vh1 vn l.length 0 0 .nili .nili:=hv▸aK;have F1:∀d,d≠vn->vh1 d=vh d:=fun d hd=>hv▸aG hd;clear hv;refine Get.mk (_,_,_,_) B1 ?_
 conv=>whnf
 refine Get.mk _ rfl ?_
 conv=>whnf
 refine aB.mk (fun _=>?_) (fun h=>absurd (of_decide_eq_false h) (by omega))
 conv=>whnf
 refine Get.mk (_,_,_,_) B1 ?_
 conv=>whnf
 refine Get.mk _ rfl ?_
 conv=>whnf
 refine⟨by omega,?_⟩
 have e1:wr .u64 (wr .i64 ((z:Int).tdiv (l.length:Int)))=((z / l.length:Nat):Int):=by rw[show (z:Int).tdiv (l.length:Int)=((z / l.length:Nat):Int) from rfl];generalize z / l.length=q at hq;rw[show wr .i64 (q:Int)=(q:Int) by rw[aF]<;>omega,dA]<;>omega
 conv=>whnf
 rw[e1];refine (DK H.toXInt _ hq).mono fun v vh' vn' he=>?_;obtain⟨e2,e3,e4⟩:=he;rw[e2,e3,e4];clear e2 e3 e4;have hw:=IL (z / l.length);generalize hY (z / l.length)=w at hw;have ek:max (wr .i64 ((w:Int)-1)) 0=((w-1:Nat):Int):=by
  rw[show wr .i64 ((w:Int)-1)=(w:Int)-1 by rw[aF]<;>omega]
  omega
 conv=>whnf
 rw[ek];generalize hk:w-1=k;have hk7:k<=7:=by omega
 refine Get.mk (_,_,_,_) B1 ?_
 conv=>whnf
 refine⟨⟨(by decide:4<=5),Nat.zero_le _⟩,?_⟩
 conv=>whnf
 generalize hv:aI vh1 vn _=vh2;have B2:OB vh2 vn l.length k 0 .nili .nili:=hv▸aK;have F2:∀d,d≠vn->vh2 d=vh1 d:=fun d hd=>hv▸aG hd;clear hv;have ek2:wr .u64 (k:Int)=(k:Int):=by rw[dA]<;>omega
 have ebl:(bif Nat.blt k (kbits .i64) then k else kbits .i64)=k:=by rw[show Nat.blt k (kbits .i64)=true from cF.2 (by show k<64;omega)];rfl
 refine Get.mk (_,_,_,_) B2 ?_
 conv=>whnf
 refine Get.mk _ rfl ?_
 conv=>whnf
 rw[ek2];refine Get.mk k rfl ?_
 conv=>whnf
 rw[ebl,nL];have hh:z / 2^k<=z:=Nat.div_le_self _ _;obtain⟨h,hh2⟩:∃h,h=z / 2^k:=⟨_,rfl⟩;rw[<-hh2] at hh ⊢;refine Get.mk (_,_,_,_) B2 ?_
 conv=>whnf
 refine⟨⟨(by decide:5<=5),Nat.zero_le _⟩,?_⟩
 conv=>whnf
 generalize hv:aI vh2 vn _=vh3;have B3:OB vh3 vn l.length k h .nili .nili:=hv▸aK;have F3:∀d,d≠vn->vh3 d=vh2 d:=fun d hd=>hv▸aG hd;clear hv;refine Get.mk (_,_,_,_) B3 ?_
 conv=>whnf
 refine Get.mk _ rfl ?_
 conv=>whnf
 refine Get.mk (_,_,_,_) B3 ?_
 conv=>whnf
 refine Get.mk _ rfl ?_
 conv=>whnf
 have en:wr .i64 (wr .i64 ((l.length:Int)+(h:Int))+1)=((l.length+h+1:Nat):Int):=by rw[show wr .i64 ((l.length:Int)+(h:Int))=(l.length:Int)+h by rw[aF]<;>omega,aF]<;>omega
 rw[en];obtain⟨nu,hnu⟩:∃nu,nu=l.length+h+1:=⟨_,rfl⟩;rw[<-hnu];refine Get.mk nu rfl ?_;refine Get.mk nu ⟨rfl,Nat.le_refl _,by omega,by show nu<9223372036854775808;omega⟩ ?_
 conv=>whnf
 generalize hv:aI vh3 (vn+1) _=vh4;have B4:OB vh4 vn l.length k h .nili .nili:=by rw[<-hv];exact (aG (by omega)).trans B3
 have U4:CE vh4 (vn+1) nu:=by rw[<-hv,BO];exact⟨List.replicate nu false,by rw[aK,FE],List.length_replicate⟩
 have F4:∀d,d≠vn+1->vh4 d=vh3 d:=fun d hd=>by rw[<-hv];exact aG hd
 clear hv
 conv=>whnf
 rw[hlen];refine JP l (by omega) c z k h hk7 hz (by omega) hh2 (vn+2) vn (vn+1) nu hnu (by omega) (by omega) (by omega) vh4 _ (fun sv vh5 n5 ys i t B5 U5 A5 hy1 hy2 hlo F5=>?_) _ 0 rfl (Nat.zero_le _) .nils [] vh4 (vn+2) B4 U4 .nil rfl nofun (Nat.le_refl _) fun _ _ _ _=>rfl
 obtain⟨bs,U6,U7⟩:=U5;rcases A5 with⟨_,rfl⟩|⟨bq,q1,q2,rfl,q4⟩
 ·simp at hy1;omega
 obtain⟨y0,ys,rfl⟩:∃y0 ys',ys=y0::ys':=by
  cases ys with
  |nil=>simp at hy1;omega
  |cons a b=>exact⟨a,b,rfl⟩
 subst U7;have hbs:bs.length<=4194304:=by omega
 conv=>whnf
 refine Get.mk (_,_,_,_) U6 ?_
 conv=>whnf
 refine⟨PZ iE (by decide),?_⟩
 conv=>whnf
 refine Get.mk _ (eU iE) ?_;refine (CD H.toXBits bs hbs none _ _).mono fun v vh6 n6 he=>?_;obtain⟨e4,hF⟩:=he;rw[e4];clear e4;have F6:∀d,d<n5->d≠vn+1->vh6 d=vh5 d:=fun d d1 d2=>(hF.2 d d1).trans (b5 d2);have g6:=hF.1;clear hF;have B6:OB vh6 vn l.length k h .nili .nili:=(F6 vn (by omega) (by omega)).trans B5
 have q6:=(F6 bq (by omega) (by omega)).trans q4
 conv=>whnf
 refine Get.mk (_,_,_,_) B6 ?_
 conv=>whnf
 refine⟨⟨(by decide:1<=5),Nat.zero_le _⟩,?_⟩
 conv=>whnf
 generalize hv:aI vh6 vn _=vh7;have B7:∃u,OB vh7 vn l.length k h u .nili:=⟨_,hv▸aK⟩;have F7:∀d,d≠vn->vh7 d=vh6 d:=fun d hd=>hv▸aG hd;clear hv;have q7:=(F7 bq (by omega)).trans q6
 obtain⟨u,B7⟩:=B7;refine Get.mk (_,_,_,_) q7 ?_
 conv=>whnf
 refine⟨gG FG (by decide),?_⟩
 conv=>whnf
 refine Get.mk _ (eU FG) ?_
 conv=>whnf
 refine (VO H.toXInt y0 ys (by omega) hy2 none _ _).mono fun v vh8 n8 he=>?_
 obtain⟨e4,g8,hF⟩:=he;rw[e4];clear e4;have F8:∀d,d<n6->d≠bq->vh8 d=vh7 d:=fun d d1 d2=>(hF.2 d d1).trans (b5 d2);have B8:OB vh8 vn l.length k h u .nili:=(F8 vn (by omega) (by omega)).trans B7
 have g9:=hF.1;clear hF
 conv=>whnf
 refine Get.mk (_,_,_,_) B8 ?_
 conv=>whnf
 refine⟨⟨(by decide:2<=5),Nat.zero_le _⟩,?_⟩
 conv=>whnf
 refine Get.mk _ (fun _ _ h=>h) ⟨rfl,by show vn<n8;omega,by show vn<=n8;omega,fun d hd=>?_⟩
 exact (aG (by omega)).trans ((F8 d (by omega) (by omega)).trans ((F7 d (by omega)).trans ((F6 d (by omega) (by omega)).trans ((F5 d (by omega) (by omega) (by omega)).trans ((F4 d (by omega)).trans ((F3 d (by omega)).trans ((F2 d (by omega)).trans (F1 d (by omega)))))))))
end
end Go.Proofs.YtjoadepfokpcoaaGreatDoor
set_option maxRecDepth 100000
set_option linter.unusedVariables false
namespace Go.Proofs.YtjoadepfokpcoaaGreatDoor
def aBI:aD:=(.seq (.reg 0 [oA 2 (.mv (.c (.str [])))] (kp [0]))
(.seq (.reg 0 [mA 3 0,oA 4 (.call x6 [3]),mA 2 4] (kp [2]))
.ret))
def aIU:List aJ:=[.tmp 2]
theorem aEc:aL Tryz.prog yX aBI aIU:=.of Tryz.func103 (by kernel_rfl)
def ZM:aD:=(.seq (.reg 0 [oA 2 (.mv (.c (.str [])))] (kp [0]))
(.seq (.reg 0 [mA 3 0,oA 4 (.call x0 [3,(cI 10)]),mA 2 4] (kp [2]))
.ret))
def aHE:List aJ:=[.tmp 2]
theorem aDW:aL Tryz.prog x6 ZM aHE:=.of Tryz.func148 (by kernel_rfl)
def ZL:aD:=(.seq (.reg 0 [oA 4 (.mv (.c (.str [])))] (kp [0,1]))
(.seq (.seq (.reg 0 [mA 10 1,oA 11 (.bin .eql 10 (cI 10))] (kp [0,1,11]))
(.cond 11
(.seq (.seq (.reg 0 [mA 12 0,oA 13 (.bin .leq (cI 0) 12),mA 14 13,oT 14 15 (.mv 0),oT 14 16 (.bin .lss 15 (cI 100)),oA 17 (.pick 14 16 (cB false))] (kp [0,17]))
(.cond 17
(.seq (.reg 0 [mA 18 0,oA 19 (.call x7 [18]),mA 4 19] (kp [4]))
.ret)
(.gsk (kp [0]))))
(.seq (.reg 0 [oA 5 (.allocH [(.int .u8 0),(.int .u8 0),(.int .u8 0),(.int .u8 0),(.int .u8 0),(.int .u8 0),(.int .u8 0),(.int .u8 0),(.int .u8 0),(.int .u8 0),(.int .u8 0),(.int .u8 0),(.int .u8 0),(.int .u8 0),(.int .u8 0),(.int .u8 0),(.int .u8 0),(.int .u8 0),(.int .u8 0),(.int .u8 0),(.int .u8 0),(.int .u8 0),(.int .u8 0),(.int .u8 0)] XO)] (kp [0,5]))
(.seq (.reg 0 [mA 20 0,oA 21 (.cint .u64 20),mA 6 21] (kp [0,5,6]))
(.seq (.seq (.reg 0 [mA 22 0,oA 23 (.bin .lss 22 (cI 0))] (kp [0,5,6,23]))
(.cond 23
(.reg 0 [mA 24 6,oA 25 (.un .neg 24),mA 6 25] (kp [0,5,6]))
(.gsk (kp [0,5,6]))))
(.seq (.reg 0 [mA 26 6,oA 27 (.call VD [26]),mA 7 27] (kp [0,5,6,7]))
(.seq (.reg 0 [mA 28 7,oA 29 (.bin .add (cI 1) 28),oA 30 (.cutA 1 24 5 (some (cI 1)) (some 29)),mA 31 6,oA 32 (.call VA [30,31])] (kp [0,5,7]))
(.seq (.seq (.reg 0 [mA 33 0,oA 34 (.bin .lss 33 (cI 0))] (kp [5,7,34]))
(.cond 34
(.seq (.reg 0 [oA 35 (.idxA 1 24 5 (cI 0)),oN (.store 35 (.c (.int .u8 45)) 1)] (kp [5,7]))
(.seq (.reg 0 [mA 36 7,oA 37 (.bin .add (cI 1) 36),oA 38 (.cutA 1 24 5 none (some 37)),oA 39 (.ctext 38),mA 4 39] (kp [4]))
.ret))
(.gsk (kp [5,7]))))
(.seq (.reg 0 [mA 40 7,oA 41 (.bin .add (cI 1) 40),oA 42 (.cutA 1 24 5 (some (cI 1)) (some 41)),oA 43 (.ctext 42),mA 4 43] (kp [4]))
.ret))))))))
(.gsk (kp [0,1]))))
(.seq (.reg 0 [mA 45 0,oA 46 (.cint .u64 45),mA 47 1,mA 48 0,oA 49 (.bin .lss 48 (cI 0)),oA 50 (.call VC [(.c .nils),46,47,49,(cB false)]),mA 44 50,oA 51 (.ext 44 0),oA 52 (.ext 44 1),mA 8 51,mA 9 52] (kp [9]))
(.seq (.reg 0 [mA 53 9,mA 4 53] (kp [4]))
.ret))))
def aHD:List aJ:=[.tmp 4]
theorem aDV:aL Tryz.prog x0 ZL aHD:=.of Tryz.func191 (by kernel_rfl)
def ZN:aD:=(.seq (.reg 0 [oA 2 (.mv (.c (.str [])))] (kp [0]))
(.seq (.seq (.reg 0 [mA 3 0,oA 4 (.bin .lss 3 (cI 10))] (kp [0,4]))
(.cond 4
(.seq (.reg 0 [mA 5 0,mA 6 0,oA 7 (.bin .add 6 (cI 1)),oA 8 (.cutS (.c (.str zL)) (some 5) (some 7)),mA 2 8] (kp [2]))
.ret)
(.gsk (kp [0]))))
(.seq (.reg 0 [mA 9 0,oA 10 (.bin .mul 9 (cI 2)),mA 11 0,oA 12 (.bin .mul 11 (cI 2)),oA 13 (.bin .add 12 (cI 2)),oA 14 (.cutS (.c (.str WN)) (some 10) (some 13)),mA 2 14] (kp [2]))
.ret)))
def aHF:List aJ:=[.tmp 2]
theorem aDX:aL Tryz.prog x7 ZN aHF:=.of Tryz.func214 (by kernel_rfl)
section
attribute [local irreducible] aM
variable {X : Ovr} {G : Gt} {vh : VH} {vn : Nat}
structure XStr(X:Ovr):Prop where
 itoa:X yX=none
 itoa2:X x6=none
 fmt:X x0=none
 small:X x7=none
 noesc:X I2=some sZ
 check:X u6=none
 writes:X pQ=none
 string:X u5=none
 nozero:X I3=some (wI mD)
 grow:X yY=none
 grow2:X yZ=none
 join:X y9=none
theorem aBu:zL.length=36:=by kernel_rfl
def fQ(n:Nat):List Nat:=(zL.drop n).take 1
theorem OK:∀n,n<10->(fQ n).length=1/\∀c∈fQ n,c<256:=by decide
set_option maxRecDepth 100000 in
theorem W6(H:XStr X)(n:Nat)(hn:n<10)(vh:VH)(vn:Nat):
  aE Tryz.prog X G x7 [.int .i64 (n:Int)] vh vn fun v vh' vn'=>vh'=vh/\vn'=vn/\v=.str (fQ n):=by
 have e:wr .i64 ((n:Int)+1)=((n+1:Nat):Int):=by rw[aF]<;>omega
 apply aDX.run H.small
 conv=>whnf
 refine aB.mk (fun _=>?_) (fun h=>absurd (of_decide_eq_false h) (by omega))
 conv=>whnf
 rw[e];refine Get.mk n rfl ?_;refine Get.mk (n+1) rfl ?_;refine Owe.mk ⟨Nat.le_succ n,by rw[aBu];exact Nat.le_trans hn (by decide)⟩ ?_
 rw[Nat.add_sub_cancel_left,show List.take 1 (List.drop n zL)=fQ n from rfl];generalize fQ n=D
 conv=>whnf
 exact Get.mk _ (fun _ _ h=>h) ⟨rfl,rfl,rfl⟩
set_option maxRecDepth 100000 in
theorem VP(H:XStr X)(n:Nat)(hn:n<10)(vh:VH)(vn:Nat):
  aE Tryz.prog X G yX [.int .i64 (n:Int)] vh vn fun v vh' vn'=>vh'=vh/\vn'=vn/\v=.str (fQ n):=by
 apply aEc.run H.itoa
 conv=>whnf
 have h3:aE Tryz.prog X G x0 [.int .i64 (n:Int),.int .i64 10] vh vn fun v vh' vn'=>vh'=vh/\vn'=vn/\v=.str (fQ n):=by
  apply aDV.run H.fmt
  conv=>whnf
  refine aB.mk (fun _=>?_) (fun h=>absurd (of_decide_eq_false h) (by omega))
  conv=>whnf
  refine (W6 H n hn vh vn).mono fun v vh' vn' he=>?_;obtain⟨e1,e2,e3⟩:=he;rw[e1,e2,e3]
  conv=>whnf
  exact Get.mk _ (fun _ _ h=>h) ⟨rfl,rfl,rfl⟩
 have h2:aE Tryz.prog X G x6 [.int .i64 (n:Int)] vh vn fun v vh' vn'=>vh'=vh/\vn'=vn/\v=.str (fQ n):=by
  apply aDW.run H.itoa2
  conv=>whnf
  refine h3.mono fun v vh' vn' he=>?_;obtain⟨e1,e2,e3⟩:=he;rw[e1,e2,e3]
  conv=>whnf
  exact Get.mk _ (fun _ _ h=>h) ⟨rfl,rfl,rfl⟩
 refine h2.mono fun v vh' vn' he=>?_;obtain⟨e1,e2,e3⟩:=he;rw[e1,e2,e3]
 conv=>whnf
 exact Get.mk _ (fun _ _ h=>h) ⟨rfl,rfl,rfl⟩
def Buf(g:Bool)(vh:VH)(b vn:Nat)(v:V)(l:List Nat):Prop:=(v=.nils/\l=[])\/∃d rest,(g=false->l≠[])/\v=.msl d 0 l.length 1 none/\b<d/\d<vn/\vh d=some (.cells (l.map cP++rest) mD 0 false)
theorem YE{g:Bool}{b:Nat}{v:V}{l s:List Nat}(B:Buf g vh b vn v l)(hb:b<vn)(hl:l.length+s.length<1048576){env:aH}{k:V->aH->VH->Nat->Prop}
  (hk:∀v' vh' vn',vn<=vn'->Buf g vh' b vn' v' (l++s)->(∀c,c<=b->vh' c=vh c)->k v' env vh' vn'):aM 1 1 mD v (s.map cP) s.length env vh vn k:=by
 have hroom:∀n,n<1048576->room 1 n:=fun n hn=>⟨by omega,by show n<9223372036854775808;omega⟩
 by_cases h0:s=[]
 ·subst h0;rw[List.append_nil] at hk;rcases B with⟨rfl,rfl⟩|⟨d,rest,dg,rfl,d1,d2,d3⟩
  ·simp only[aM];exact hk _ _ _ (Nat.le_refl _) (.inl ⟨rfl,rfl⟩) fun _ _=>rfl
  ·simp only[aM,aP.2 (rfl:(1:Nat)=1),cond_true];exact hk _ _ _ (Nat.le_refl _) (.inr ⟨d,rest,dg,rfl,d1,d2,d3⟩) fun _ _=>rfl
 ·have hs:Nat.beq s.length 0=false:=dW.2 (fun h=>h0 (List.length_eq_zero_iff.1 h));rcases B with⟨rfl,rfl⟩|⟨d,rest,dg,rfl,d1,d2,d3⟩
  ·simp only[aM,hs];refine .no rfl ⟨hroom _ (by simpa using hl),hk _ _ _ (Nat.le_succ _) (.inr ⟨vn,[],fun _=>by simp[h0],by simp,hb,Nat.lt_succ_self _,by rw[aK];simp⟩) fun c hc=>aG (by omega)⟩
  ·simp only[aM,hs,aP.2 (rfl:(1:Nat)=1),cond_true];refine .no rfl (Get.mk (_,_,_,_) d3 ?_);simp only;have hlen:((l.map cP++rest).length-0) / 1=l.length+rest.length:=by simp
   rw[hlen];refine aB.mk (fun hc=>?_) (fun hc=>?_)
   ·have hc':=bC.1 hc;refine⟨⟨by simp;omega,Nat.zero_le _⟩,?_⟩
    have e:setSeg (l.map cP++rest) (0+l.length*1) (s.map cP)=(l++s).map cP++rest.drop s.length:=by
     rw[qQ _ _ _ (by simp;omega),Nat.zero_add,Nat.mul_one,List.take_left' (by simp),List.map_append]
     congr 1
     rw[List.drop_append,List.drop_eq_nil_of_le (by simp),List.nil_append]
     congr 1
     simp
    rw[e];refine hk _ _ _ (Nat.le_refl _) (.inr ⟨d,rest.drop s.length,fun _=>by simp[h0],by simp,d1,d2,aK⟩) fun c hc=>aG (by omega)
   ·refine⟨⟨trivial,by simp,Nat.zero_le _,trivial,hroom _ hl⟩,?_⟩
    refine hk _ _ _ (Nat.le_succ _) (.inr ⟨vn,[],fun _=>by simp[h0],by simp,hb,Nat.lt_succ_self _,?_⟩) fun c hc=>(aG (by omega)).trans (b5 (by omega))
    rw[aK,Nat.mul_one,List.take_left' (by simp),List.map_append,List.append_nil]
    rfl
def jZ(g:Bool)(vh:VH)(b vn:Nat)(l:List Nat):Prop:=∃a v,vh b=some (.cells [a,v] mC 0 false)/\(a=.nilp\/a=.ptr b 0)/\Buf g vh b vn v l
theorem IV(H:XStr X)(b:Nat)(a v:V)(hb:vh b=some (.cells [a,v] mC 0 false))(ha:a=.nilp\/a=.ptr b 0):
  aE Tryz.prog X G u6 [.ptr b 0] vh vn fun u vh' vn'=>u=.tup []/\vn'=vn/\vh' b=some (.cells [.ptr b 0,v] mC 0 false)/\∀c,c≠b->vh' c=vh c:=by
 apply aEg.run H.check
 conv=>whnf
 refine Get.mk (_,_,_,_) hb ?_
 conv=>whnf
 refine Get.mk _ rfl ?_
 conv=>whnf
 rcases ha with rfl|rfl
 ·conv=>whnf
  refine Get.mk (_,_,_,_) hb ?_
  conv=>whnf
  refine⟨by show 0<2;decide,?_⟩
  conv=>whnf
  refine (aFd H.noesc b 0 vh vn).mono fun v vh' vn' he=>?_;obtain⟨e1,e2,e3⟩:=he;rw[e1,e2,e3]
  conv=>whnf
  refine Get.mk (_,_,_,_) hb ?_
  conv=>whnf
  refine⟨⟨rfl,rfl,rfl,by show 2<=2;decide⟩,?_⟩
  conv=>whnf
  refine Get.mk (_,_,_,_) hb ?_
  conv=>whnf
  refine⟨⟨(by decide:1<=2),Nat.zero_le _⟩,?_⟩
  conv=>whnf
  exact Get.mk _ (fun _ _ h=>h) ⟨rfl,rfl,aK,fun c hc=>aG hc⟩
 ·have hbb:Nat.beq b b=true:=aP.2 rfl
  conv=>whnf
  refine Get.mk (_,_,_,_) hb ?_
  conv=>whnf
  refine Get.mk _ rfl ?_
  conv=>whnf
  rw[hbb]
  conv=>whnf
  exact Get.mk _ (fun _ _ h=>h) ⟨rfl,rfl,hb,fun _ _=>rfl⟩
theorem zR(H:XStr X){g:Bool}(b:Nat)(l s:List Nat)(B:jZ g vh b vn l)(hb:b<vn)(hl:l.length+s.length<1048576):
  aE Tryz.prog X G pQ [.ptr b 0,.str s] vh vn fun u vh' vn'=>u=.tup [.int .i64 (s.length:Int),.nili]/\vn<=vn'/\jZ g vh' b vn' (l++s)/\∀c,c<vn->c<b->vh' c=vh c:=by
 obtain⟨a,v,B1,B2,B3⟩:=B;apply aEf.run H.writes
 conv=>whnf
 refine (IV H b a v B1 B2).mono fun u vh1 n1 he=>?_;obtain⟨e0,e1,C1,F1⟩:=he;rw[e0,e1];clear e0 e1;have B4:Buf g vh1 b vn v l:=by
  rcases B3 with h|⟨d,rest,dg,d0,d1,d2,d3⟩
  ·exact .inl h
  ·exact .inr ⟨d,rest,dg,d0,d1,d2,(F1 d (by omega)).trans d3⟩
 rcases id B4 with⟨rfl,rfl⟩|⟨d,rest,dg,rfl,d1,d2,d3⟩
 all_goals
  conv=>whnf
  refine Get.mk (_,_,_,_) C1 ?_
  conv=>whnf
  refine Get.mk _ rfl ?_
  conv=>whnf
  refine YE B4 hb hl fun v' vh2 n2 g2 B5 F2=>?_;have C2:=(F2 b (Nat.le_refl _)).trans C1;rcases id B5 with⟨rfl,h5⟩|⟨d',rest',dg',rfl,h1,h2,h3⟩
  all_goals
   conv=>whnf
   refine Get.mk (_,_,_,_) C2 ?_
   conv=>whnf
   refine⟨⟨(by decide:2<=2),Nat.zero_le _⟩,?_⟩
   conv=>whnf
   refine Get.mk _ (fun _ _ h=>h) ⟨rfl,g2,⟨.ptr b 0,_,aK,.inr rfl,?_⟩,fun c c1 c2=>(aG (by omega)).trans ((F2 c (by omega)).trans (F1 c (by omega)))⟩
   first
    |exact .inl ⟨rfl,h5⟩
    |exact .inr ⟨d',rest',dg',rfl,h1,h2,(aG (by omega)).trans h3⟩
end
section
attribute [local irreducible] aM fQ
variable {X : Ovr} {G : Gt} {vh : VH} {vn : Nat}
theorem KG(H:XStr X){g:Bool}(b:Nat)(l:List Nat)(B:jZ g vh b vn l)(h0:g=true->l≠[])(hl:l.length<1048576)(hc:∀c∈l,c<256):
  aE Tryz.prog X G u5 [.ptr b 0] vh vn fun v vh' vn'=>v=.str l/\vn'=vn/\∀c,c<=b->vh' c=vh c:=by
 apply aEe.run H.string;obtain⟨a,v,B1,B2,B3⟩:=B;rcases B3 with⟨rfl,rfl⟩|⟨d,rest,dg,rfl,d1,d2,d3⟩
 ·conv=>whnf
  refine Get.mk (_,_,_,_) B1 ?_
  conv=>whnf
  refine Get.mk _ rfl ?_
  conv=>whnf
  refine Get.mk (_,_,_,_) B1 ?_
  conv=>whnf
  refine Get.mk _ rfl ?_
  conv=>whnf
  conv=>whnf
  refine⟨⟨rfl,?_⟩,?_⟩
  ·refine Get.mk (_,_,_,_) B1 ?_
   conv=>whnf
   refine Get.mk _ rfl ?_
   conv=>whnf
  conv=>whnf
  refine⟨rfl,?_⟩
  conv=>whnf
  exact Get.mk _ (fun _ _ h=>h) ⟨rfl,rfl,fun _ _=>rfl⟩
 ·have hp:0<l.length:=List.length_pos_iff.2 (by cases g with|true=>exact h0 rfl|false=>exact dg rfl)
  conv=>whnf
  refine Get.mk (_,_,_,_) B1 ?_
  conv=>whnf
  refine Get.mk _ rfl ?_
  conv=>whnf
  refine Get.mk (_,_,_,_) B1 ?_
  conv=>whnf
  refine Get.mk _ rfl ?_
  conv=>whnf
  refine⟨hp,?_⟩
  conv=>whnf
  refine⟨⟨rfl,?_⟩,?_⟩
  ·refine Get.mk (_,_,_,_) B1 ?_
   conv=>whnf
   refine Get.mk _ rfl ?_
   conv=>whnf
  conv=>whnf
  refine⟨⟨rfl,rfl⟩,?_⟩
  conv=>whnf
  refine Get.mk l.length ⟨rfl,hp,by show l.length<9223372036854775808;omega,rfl⟩ ?_
  conv=>whnf
  refine Get.mk (_,_,_,_) d3 ?_
  conv=>whnf
  refine⟨⟨rfl,rfl⟩,?_⟩
  conv=>whnf
  refine Get.mk l ⟨by rw[List.take_left' (by simp)],rfl,hc⟩ ?_
  conv=>whnf
  exact Get.mk _ (fun _ _ h=>h) ⟨rfl,rfl,fun c hc=>aG (by omega)⟩
def iK(s:List Nat):List Nat:=(fQ s.length++nW)++s
def nE(a:aA):List Nat:=(iK a.p++iK a.l)++iK a.v
def cR(l:List aA):List Nat:=(l.map nE).flatten
structure pH(a:aA):Prop where
 p:a.p.length<10
 l:a.l.length<10
 v:a.v.length<10
 pc:∀c∈a.p,c<256
 lc:∀c∈a.l,c<256
 vc:∀c∈a.v,c<256
theorem GE{s:List Nat}(h:s.length<10)(hc:∀c∈s,c<256):(iK s).length<12/\∀c∈iK s,c<256:=by
 obtain⟨d1,d2⟩:=OK s.length h;unfold iK;refine⟨by simp only[List.length_append,d1];show 1+1+s.length<12;omega,fun c hm=>?_⟩
 rcases List.mem_append.1 hm with hm|hm
 ·rcases List.mem_append.1 hm with hm|hm
  ·exact d2 c hm
  ·rw[List.mem_singleton.1 hm];decide
 ·exact hc c hm
theorem R4{a:aA}(h:pH a):(nE a).length<=33/\∀c∈nE a,c<256:=by
 obtain⟨p1,p2⟩:=GE h.p h.pc;obtain⟨l1,l2⟩:=GE h.l h.lc;obtain⟨v1,v2⟩:=GE h.v h.vc;unfold nE;refine⟨by simp only[List.length_append];omega,fun c hm=>?_⟩
 rcases List.mem_append.1 hm with hm|hm
 ·rcases List.mem_append.1 hm with hm|hm
  ·exact p2 c hm
  ·exact l2 c hm
 ·exact v2 c hm
theorem G5:∀(l:List aA),(∀a∈l,pH a)->(cR l).length<=33*l.length/\∀c∈cR l,c<256
 |[],_=>⟨Nat.le_refl _,nofun⟩
 |a::l,h=>by
  obtain⟨h1,h2⟩:=R4 (h a (.head _));obtain⟨h3,h4⟩:=G5 l fun b hb=>h b (.tail _ hb);have e:cR (a::l)=nE a++cR l:=rfl;rw[e];refine⟨by rw[List.length_append,List.length_cons];omega,fun c hm=>?_⟩
  rcases List.mem_append.1 hm with hm|hm
  ·exact h2 c hm
  ·exact h4 c hm
structure XPack(X:Ovr):Prop extends XStr X where
 packed:X xY=none
attribute [local irreducible] iK
def bY(s:List Nat):List V:=[.str s]
theorem JU(H:XPack X)(ss:List (List Nat))(h3:ss.length<=3)(hs:∀s∈ss,s.length<10)(b:Nat)(T:List (List V))(c c2:Option Nat)(L i:Int)(Q:FQ)(vh0:VH)(n0:Nat)(A:List Nat)
  (hQ:∀vh' vn' j t,jZ false vh' b vn' A->n0<=vn'->(∀d,d<b->vh' d=vh0 d)->Q (.exit 2) [(3,.ptr b 0),(8,.sl 4 T c),(9,.int .i64 L),(10,.int .i64 i),(20,.sl 1 (ss.map bY) c2),(21,.int .i64 (ss.length:Int)),(22,.int .i64 j),(23,.bool t)] vh' vn'):
  ∀(m j:Nat),ss.length-j=m->j<=ss.length->∀(acc:List Nat),acc.length+12*m<=1000000->acc++((ss.drop j).map iK).flatten=A->∀(vh:VH) (vn:Nat),jZ false vh b vn acc->b<vn->n0<=vn->(∀d,d<b->vh d=vh0 d)->
  aC Tryz.prog X G (.loop LU) [(3,.ptr b 0),(8,.sl 4 T c),(9,.int .i64 L),(10,.int .i64 i),(20,.sl 1 (ss.map bY) c2),(21,.int .i64 (ss.length:Int)),(22,.int .i64 (j:Int))] vh vn Q
 |m,j,hm,hj,acc,hacc,hA,vh,vn,B,hb,hn,F=>by
  refine aC.round ?_
  conv=>whnf
  refine aB.mk (fun c1=>?_) (fun c1=>?_)
  ·have hlt:j<ss.length:=by have:=of_decide_eq_true c1;omega
   have e:wr .i64 ((j:Int)+1)=((j+1:Nat):Int):=by rw[aF]<;>omega
   have hs1:=hs _ (List.getElem_mem hlt);obtain⟨d1,d2⟩:=OK ss[j].length hs1;have h58:nW.length=1:=rfl;have hp63:∀n:Nat,n<30->n<p63:=fun n hn=>by show n<9223372036854775808;omega
   have hd:ss.drop j=ss[j]::ss.drop (j+1):=(List.getElem_cons_drop hlt).symm;have hi:(iK ss[j]).length<=12:=by unfold iK;simp only[List.length_append,d1,h58];omega
   rw[hd,List.map_cons,List.flatten_cons,<-List.append_assoc] at hA
   conv=>whnf
   refine Get.mk (j,bY ss[j]) ⟨rfl,by simp[hlt]⟩ ?_
   conv=>whnf
   refine (VP H.toXStr ss[j].length hs1 _ _).mono fun v vh' vn' he=>?_;obtain⟨e1,e2,e3⟩:=he;rw[e1,e2,e3];clear e1 e2 e3
   conv=>whnf
   refine⟨hp63 _ (by rw[d1,h58];decide),?_⟩
   conv=>whnf
   refine⟨hp63 _ (by rw[List.length_append,d1,h58];omega),?_⟩
   rw[show (fQ ss[j].length++nW)++ss[j]=iK ss[j] by unfold iK;rfl]
   conv=>whnf
   refine (zR H.toXStr b acc (iK ss[j]) B hb (by omega)).mono fun v vh1 n1 he=>?_
   obtain⟨e1,g1,B1,F1⟩:=he;rw[e1];clear e1
   conv=>whnf
   rw[e];exact JU H ss h3 hs b T c c2 L i Q vh0 n0 A hQ (m-1) (j+1) (by omega) (by omega) _ (by rw[List.length_append];omega) hA vh1 n1 B1 (by omega) (by omega) fun d hd=>(F1 d (by omega) hd).trans (F d hd)
  ·have hlt:j=ss.length:=by have:=of_decide_eq_false c1;omega
   rw[hlt,List.drop_length,List.map_nil,List.flatten_nil,List.append_nil] at hA;subst hA
   conv=>whnf
   exact hQ vh vn _ _ B hn F
termination_by m=>m
decreasing_by all_goals omega
theorem JT(H:XPack X)(l:List aA)(hl:l.length<=1000)(hs:∀a∈l,pH a)(b:Nat)(c:Option Nat)(Q:FQ)(vh0:VH)(n0:Nat)(A:List Nat)
  (hQ:∀vh' vn' i t,jZ false vh' b vn' A->n0<=vn'->b<vn'->(∀d,d<b->vh' d=vh0 d)->Q (.exit 0) [(3,.ptr b 0),(8,.sl 4 (l.map encA) c),(9,.int .i64 (l.length:Int)),(10,.int .i64 i),(11,.bool t)] vh' vn'):
  ∀(m i:Nat),l.length-i=m->i<=l.length->∀(acc:List Nat),acc.length+40*m<=100000->acc++cR (l.drop i)=A->∀(vh:VH) (vn:Nat),jZ false vh b vn acc->b<vn->n0<=vn->(∀d,d<b->vh d=vh0 d)->
  aC Tryz.prog X G (.loop LT) [(3,.ptr b 0),(8,.sl 4 (l.map encA) c),(9,.int .i64 (l.length:Int)),(10,.int .i64 (i:Int))] vh vn Q
 |m,i,hm,hi,acc,hacc,hA,vh,vn,B,hb,hn,F=>by
  refine aC.round ?_
  conv=>whnf
  refine aB.mk (fun c1=>?_) (fun c1=>?_)
  ·have hlt:i<l.length:=by have:=of_decide_eq_true c1;omega
   have e:wr .i64 ((i:Int)+1)=((i+1:Nat):Int):=by rw[aF]<;>omega
   have ha:=hs _ (List.getElem_mem hlt);have hd:l.drop i=l[i]::l.drop (i+1):=(List.getElem_cons_drop hlt).symm;have hp:=(R4 ha).1;have e2:nE l[i]=(([l[i].p,l[i].l,l[i].v].drop 0).map iK).flatten:=by unfold nE;simp
   rw[hd,show cR (l[i]::l.drop (i+1))=nE l[i]++cR (l.drop (i+1)) from rfl,<-List.append_assoc] at hA
   conv=>whnf
   refine Get.mk (i,encA l[i]) ⟨rfl,by simp[hlt]⟩ ?_
   conv=>whnf
   refine JU H [l[i].p,l[i].l,l[i].v] (Nat.le_refl _) (fun s hs'=>?_) b _ c (some 3) _ _ _ vh vn (acc++nE l[i]) (fun vh1 n1 j t B1 g1 F1=>?_) 3 0 rfl (Nat.zero_le _) acc (by omega) (by rw[e2]) vh vn B hb (Nat.le_refl _) fun _ _=>rfl
   ·simp only[List.mem_cons,List.not_mem_nil,or_false] at hs';rcases hs' with rfl|rfl|rfl
    ·exact ha.p
    ·exact ha.l
    ·exact ha.v
   ·conv=>whnf
    rw[e];exact JT H l hl hs b c Q vh0 n0 A hQ (m-1) (i+1) (by omega) (by omega) _ (by rw[List.length_append];omega) hA vh1 n1 B1 (by omega) (by omega) fun d hd=>(F1 d hd).trans (F d hd)
  ·have hlt:i=l.length:=by have:=of_decide_eq_false c1;omega
   rw[hlt,List.drop_length,show cR []=[] from rfl,List.append_nil] at hA;subst hA
   conv=>whnf
   exact hQ vh vn _ _ B hn hb F
termination_by m=>m
decreasing_by all_goals omega
theorem WE(H:XPack X)(l:List aA)(hl:l.length<=1000)(hs:∀a∈l,pH a)(c:Option Nat)(vh:VH)(vn:Nat):
  aE Tryz.prog X G xY [.sl 4 (l.map encA) c] vh vn fun v vh' vn'=>v=.str (cR l)/\Frm vh vn vh' vn':=by
 have hlen:Int.ofNat (l.map encA).length=(l.length:Int):=by simp
 obtain⟨p1,p2⟩:=G5 l hs;apply aDN.run H.packed
 conv=>whnf
 rw[hlen];refine JT H l hl hs vn c _ vh (vn+1) (cR l) (fun vh1 n1 i t B1 g1 hb F1=>?_) _ 0 rfl (Nat.zero_le _) [] (by show 0+40*(l.length-0)<=_;omega) rfl _ (vn+1) ⟨.nilp,.nils,aK,.inl rfl,.inl ⟨rfl,rfl⟩⟩ (Nat.lt_succ_self _) (Nat.le_refl _) fun d hd=>aG (by omega)
 conv=>whnf
 refine (KG H.toXStr vn (cR l) B1 nofun (by omega) p2).mono fun v vh2 n2 he=>?_
 obtain⟨e1,e2,F2⟩:=he;rw[e1,e2]
 conv=>whnf
 exact Get.mk _ (fun _ _ h=>h) ⟨rfl,by show vn<=n1;omega,fun d hd=>(F2 d (by omega)).trans (F1 d hd)⟩
end
section
attribute [local irreducible] aM fQ
variable {X : Ovr} {G : Gt} {vh : VH} {vn : Nat}
theorem VI(H:XStr X)(b n:Nat)(hn:n<=1048576)(hb:vh b=some (.cells [.ptr b 0,.nils] mC 0 false))(hbn:b<vn):
  aE Tryz.prog X G yZ [.ptr b 0,.int .i64 (n:Int)] vh vn fun v vh' vn'=>v=.tup []/\vn<=vn'/\jZ true vh' b vn' []/\∀c,c<vn->c≠b->vh' c=vh c:=by
 have e1:wr .i64 (wr .i64 (2*0)+(n:Int))=(n:Int):=by rw[show wr .i64 (2*0)=0 from rfl,Int.zero_add,aF]<;>omega
 apply aEh.run H.grow2
 conv=>whnf
 refine Get.mk (_,_,_,_) hb ?_
 conv=>whnf
 refine Get.mk _ rfl ?_
 conv=>whnf
 refine Get.mk (_,_,_,_) hb ?_
 conv=>whnf
 refine Get.mk _ rfl ?_
 conv=>whnf
 rw[e1];refine (aFf H.nozero n (by omega) vh vn).mono fun v vh1 n1 he=>?_
 obtain⟨e2,e3,e4⟩:=he;rw[e2,e4];have D1:vh1 vn=some (.cells (List.replicate n .lost) mD 0 false):=by rw[e3];exact aK
 have F1:∀c,c≠vn->vh1 c=vh c:=fun c hc=>by rw[e3];exact aG hc
 have B1:=(F1 b (by omega)).trans hb
 clear e2 e3 e4
 conv=>whnf
 refine⟨⟨rfl,?_⟩,?_⟩
 ·refine Get.mk (_,_,_,_) B1 ?_
  conv=>whnf
  refine Get.mk _ rfl ?_
  conv=>whnf
 conv=>whnf
 refine Get.mk 0 rfl ?_
 conv=>whnf
 refine Get.mk (_,_,_,_) D1 ?_
 conv=>whnf
 refine⟨⟨Nat.le_refl _,Nat.zero_le _,.inr rfl⟩,?_⟩
 conv=>whnf
 refine Get.mk (_,_,_,_) B1 ?_
 conv=>whnf
 refine Get.mk _ rfl ?_
 conv=>whnf
 refine Get.mk (_,_,_,_) D1 ?_
 conv=>whnf
 refine⟨⟨Nat.zero_le _,Nat.zero_le _⟩,?_⟩;generalize hv:aI vh1 vn _=vh2;have D2:∃rest,vh2 vn=some (.cells (([]:List Nat).map cP++rest) mD 0 false):=⟨_,hv▸aK⟩;have F2:∀c,c≠vn->vh2 c=vh1 c:=fun c hc=>hv▸aG hc;clear hv;obtain⟨rest,D2⟩:=D2;have B2:=(F2 b (by omega)).trans B1
 conv=>whnf
 refine Get.mk (_,_,_,_) B2 ?_
 conv=>whnf
 refine⟨⟨(by decide:2<=2),Nat.zero_le _⟩,?_⟩
 conv=>whnf
 exact Get.mk _ (fun _ _ h=>h) ⟨rfl,Nat.le_succ _,⟨_,_,aK,.inr rfl,.inr ⟨vn,rest,nofun,rfl,hbn,Nat.lt_succ_self _,(aG (by omega)).trans D2⟩⟩,fun c h1 h2=>(aG h2).trans ((F2 c (by omega)).trans (F1 c (by omega)))⟩
theorem VJ(H:XStr X)(b n:Nat)(hn:n<=1048576)(hb:vh b=some (.cells [.nilp,.nils] mC 0 false))(hbn:b<vn):
  aE Tryz.prog X G yY [.ptr b 0,.int .i64 (n:Int)] vh vn fun v vh' vn'=>v=.tup []/\vn<=vn'/\jZ (decide (0<n)) vh' b vn' []/\∀c,c<vn->c≠b->vh' c=vh c:=by
 apply aEd.run H.grow
 conv=>whnf
 refine (IV H b .nilp .nils hb (.inl rfl)).mono fun u vh1 n1 he=>?_;obtain⟨e0,e1,C1,F1⟩:=he;rw[e0,e1];clear e0 e1
 conv=>whnf
 refine Get.mk (_,_,_,_) C1 ?_
 conv=>whnf
 refine Get.mk _ rfl ?_
 conv=>whnf
 refine Get.mk (_,_,_,_) C1 ?_
 conv=>whnf
 refine Get.mk _ rfl ?_
 conv=>whnf
 have e0:wr .i64 (0-0)=0:=rfl;refine aB.mk (fun c1=>?_) (fun c1=>?_)
 ·have hp:0<n:=by have:=of_decide_eq_true c1;omega
  conv=>whnf
  refine (VI H b n hn C1 hbn).mono fun u vh2 n2 he=>?_;obtain⟨e0,g2,B2,F2⟩:=he;rw[e0]
  conv=>whnf
  rw[decide_eq_true hp];exact Get.mk _ (fun _ _ h=>h) ⟨rfl,g2,B2,fun c h1 h2=>(F2 c h1 h2).trans (F1 c h2)⟩
 ·have hp:¬0<n:=by have:=of_decide_eq_false c1;omega
  conv=>whnf
  rw[decide_eq_false hp];exact Get.mk _ (fun _ _ h=>h) ⟨rfl,Nat.le_refl _,⟨_,_,C1,.inr rfl,.inl ⟨rfl,rfl⟩⟩,fun c h1 h2=>F1 c h2⟩
theorem I9(ss:List (List Nat))(hl:ss.length<=1048576)(ht:ss.flatten.length<=1048576)(c:Option Nat)(vh:VH)(vn:Nat)(Q:FQ)
  (hQ:∀i t,Q (.exit 1) [(0,.sl 1 (ss.map bY) c),(1,.str []),(5,.int .i64 (ss.flatten.length:Int)),(39,.sl 1 (ss.map bY) c),(40,.int .i64 (ss.length:Int)),(41,.int .i64 i),(42,.bool t)] vh vn):
  ∀(m i:Nat),ss.length-i=m->i<=ss.length->∀n:Nat,n+(ss.drop i).flatten.length=ss.flatten.length->
  aC Tryz.prog X G (.loop NG) [(0,.sl 1 (ss.map bY) c),(1,.str []),(5,.int .i64 (n:Int)),(39,.sl 1 (ss.map bY) c),(40,.int .i64 (ss.length:Int)),(41,.int .i64 (i:Int))] vh vn Q
 |m,i,hm,hi,n,hn=>by
  refine aC.round ?_
  conv=>whnf
  refine aB.mk (fun c1=>?_) (fun c1=>?_)
  ·have hlt:i<ss.length:=by have:=of_decide_eq_true c1;omega
   have e:wr .i64 ((i:Int)+1)=((i+1:Nat):Int):=by rw[aF]<;>omega
   have hd:ss.drop i=ss[i]::ss.drop (i+1):=(List.getElem_cons_drop hlt).symm;rw[hd,List.flatten_cons,List.length_append] at hn;have e1:wr .i64 (9223372036854775807-(n:Int))=9223372036854775807-(n:Int):=by rw[aF]<;>omega
   have e2:wr .i64 ((n:Int)+Int.ofNat ss[i].length)=((n+ss[i].length:Nat):Int):=by rw[show Int.ofNat ss[i].length=(ss[i].length:Int) from rfl,aF]<;>omega
   conv=>whnf
   refine Get.mk (i,bY ss[i]) ⟨rfl,by simp[hlt]⟩ ?_
   conv=>whnf
   rw[e1];refine aB.mk (fun c2=>?_) (fun c2=>?_)
   ·exfalso;have:=of_decide_eq_true c2;rw[show Int.ofNat ss[i].length=(ss[i].length:Int) from rfl] at this;omega
   conv=>whnf
   rw[e,e2];exact I9 ss hl ht c vh vn Q hQ (m-1) (i+1) (by omega) (by omega) _ (by omega)
  ·have hlt:i=ss.length:=by have:=of_decide_eq_false c1;omega
   rw[hlt,List.drop_length,List.flatten_nil] at hn;rw[show n=ss.flatten.length from hn]
   conv=>whnf
   exact hQ _ _
termination_by m=>m
decreasing_by all_goals omega
theorem JA(H:XStr X)(g:Bool)(rs:List (List Nat))(b:Nat)(Q:FQ)(vh0:VH)(n0:Nat)(A:List Nat)(hA1:A.length<1048576)(hl:rs.length<=1048576)
  (hQ:∀vh' vn' i t,jZ g vh' b vn' A->n0<=vn'->(∀d,d<b->vh' d=vh0 d)->Q (.exit 3) [(1,.str []),(8,.ptr b 0),(63,.sl 1 (rs.map bY) none),(64,.int .i64 (rs.length:Int)),(65,.int .i64 i),(66,.bool t)] vh' vn'):
  ∀(m i:Nat),rs.length-i=m->i<=rs.length->∀(acc:List Nat),acc++(rs.drop i).flatten=A->∀(vh:VH) (vn:Nat),jZ g vh b vn acc->b<vn->n0<=vn->(∀d,d<b->vh d=vh0 d)->
  aC Tryz.prog X G (.loop NH) [(1,.str []),(8,.ptr b 0),(63,.sl 1 (rs.map bY) none),(64,.int .i64 (rs.length:Int)),(65,.int .i64 (i:Int))] vh vn Q
 |m,i,hm,hi,acc,hA,vh,vn,B,hb,hn,F=>by
  refine aC.round ?_
  conv=>whnf
  refine aB.mk (fun c1=>?_) (fun c1=>?_)
  ·have hlt:i<rs.length:=by have:=of_decide_eq_true c1;omega
   have e:wr .i64 ((i:Int)+1)=((i+1:Nat):Int):=by rw[aF]<;>omega
   have hd:rs.drop i=rs[i]::rs.drop (i+1):=(List.getElem_cons_drop hlt).symm;rw[hd,List.flatten_cons,<-List.append_assoc] at hA;have hle:acc.length+rs[i].length<=A.length:=by rw[<-hA];simp only[List.length_append];omega
   conv=>whnf
   refine Get.mk (i,bY rs[i]) ⟨rfl,by simp[hlt]⟩ ?_
   conv=>whnf
   refine (zR H b acc [] B hb (by show acc.length+0<_;omega)).mono fun v vh1 n1 he=>?_
   obtain⟨e1,g1,B1,F1⟩:=he;rw[e1];clear e1;rw[List.append_nil] at B1
   conv=>whnf
   refine (zR H b acc rs[i] B1 (by omega) (by omega)).mono fun v vh2 n2 he=>?_
   obtain⟨e1,g2,B2,F2⟩:=he;rw[e1];clear e1
   conv=>whnf
   rw[e];exact JA H g rs b Q vh0 n0 A hA1 hl hQ (m-1) (i+1) (by omega) (by omega) _ hA vh2 n2 B2 (by omega) (by omega) fun d hd=>(F2 d (by omega) hd).trans ((F1 d (by omega) hd).trans (F d hd))
  ·have hlt:i=rs.length:=by have:=of_decide_eq_false c1;omega
   rw[hlt,List.drop_length,List.flatten_nil,List.append_nil] at hA;subst hA
   conv=>whnf
   exact hQ vh vn _ _ B hn F
termination_by m=>m
decreasing_by all_goals omega
theorem JB(H:XStr X)(ss:List (List Nat))(hl:ss.length<=1048576)(ht:ss.flatten.length<1048576)(hc:∀s∈ss,∀x∈s,x<256)(c:Option Nat)(vh:VH)(vn:Nat):
  aE Tryz.prog X G y9 [.sl 1 (ss.map bY) c,.str []] vh vn fun v vh' vn'=>v=.str ss.flatten/\Frm vh vn vh' vn':=by
 have hlen:Int.ofNat (ss.map bY).length=(ss.length:Int):=by simp
 apply aEi.run H.join
 conv=>whnf
 rw[hlen];refine aB.mk (fun c0=>?_) (fun c0=>?_)
 ·have h0:ss=[]:=List.length_eq_zero_iff.1 (by have:=of_decide_eq_true c0;omega)
  subst h0
  conv=>whnf
  exact Get.mk _ (fun _ _ h=>h) ⟨rfl,Nat.le_refl _,fun _ _=>rfl⟩
 conv=>whnf
 refine aB.mk (fun c1=>?_) (fun c1=>?_)
 ·obtain⟨s0,rfl⟩:∃s0,ss=[s0]:=by
   have:=of_decide_eq_true c1
   match ss,this with
   |[s0],_=>exact⟨s0,rfl⟩
   |[],h=>simp at h
   |_::_::_,h=>simp at h;omega
  conv=>whnf
  refine Get.mk (0,bY s0) ⟨rfl,rfl⟩ ?_
  conv=>whnf
  exact Get.mk _ (fun _ _ h=>h) ⟨by simp,Nat.le_refl _,fun _ _=>rfl⟩
 obtain⟨s0,rs,rfl⟩:∃s0 rs,ss=s0::rs:=by
  have:=of_decide_eq_false c0;cases ss with
  |nil=>simp at this
  |cons a b=>exact⟨a,b,rfl⟩
 conv=>whnf
 rw[hlen];refine I9 (s0::rs) hl (by omega) c vh vn _ (fun i t=>?_) _ 0 rfl (Nat.zero_le _) 0 (Nat.zero_add _)
 conv=>whnf
 generalize hv:aI vh vn _=vh1;have C1:vh1 vn=some (.cells [.nilp,.nils] mC 0 false):=hv▸aK;have F1:∀d,d≠vn->vh1 d=vh d:=fun d hd=>hv▸aG hd;clear hv;refine (VJ H vn (s0::rs).flatten.length (by omega) C1 (Nat.lt_succ_self _)).mono fun v vh2 n2 he=>?_
 obtain⟨e1,g2,B2,F2⟩:=he;rw[e1];clear e1
 conv=>whnf
 refine Get.mk (0,bY s0) ⟨rfl,rfl⟩ ?_
 conv=>whnf
 rw[List.flatten_cons,List.length_append] at ht;refine (zR H vn [] s0 B2 (by omega) (by show 0+s0.length<_;omega)).mono fun v vh3 n3 he=>?_
 obtain⟨e1,g3,B3,F3⟩:=he;rw[e1];clear e1;rw[List.nil_append] at B3
 conv=>whnf
 refine Get.mk 1 rfl ?_
 conv=>whnf
 refine⟨⟨by rw[List.length_map,List.length_cons];omega,Nat.le_refl _⟩,?_⟩
 have er:(((s0::rs).map bY).drop 1).take (((s0::rs).map bY).length-1)=rs.map bY:=by rw[List.map_cons,List.drop_succ_cons,List.drop_zero,List.length_cons,Nat.add_sub_cancel,List.take_length]
 have hlen2:Int.ofNat (rs.map bY).length=(rs.length:Int):=by simp
 rw[er]
 conv=>whnf
 rw[hlen2];refine JA H _ rs vn _ vh3 n3 (s0++rs.flatten) (by rw[List.length_append];omega) (by rw[List.length_cons] at hl;omega) (fun vh4 n4 i t B4 g4 F4=>?_) _ 0 rfl (Nat.zero_le _) s0 rfl vh3 n3 B3 (by omega) (Nat.le_refl _) fun _ _=>rfl
 conv=>whnf
 refine (KG H vn (s0++rs.flatten) B4 (fun hg h=>?_) (by rw[List.length_append];omega) (fun x hx=>?_)).mono fun v vh5 n5 he=>?_
 ·have hg':=of_decide_eq_true hg;rw[List.flatten_cons,h] at hg';exact absurd hg' (by decide)
 ·rw[<-List.flatten_cons] at hx;obtain⟨s,h1,h2⟩:=List.mem_flatten.1 hx;exact hc s h1 x h2
 obtain⟨e1,e2,F5⟩:=he;rw[e1,e2]
 conv=>whnf
 exact Get.mk _ (fun _ _ h=>h) ⟨rfl,by show vn<=n4;omega,fun d hd=>(F5 d (by omega)).trans ((F4 d hd).trans ((F3 d (by omega) hd).trans ((F2 d (by omega) (by omega)).trans (F1 d (by omega)))))⟩
end
section
attribute [local irreducible] aM fQ
variable {X : Ovr} {G : Gt}
structure XPool(X:Ovr):Prop extends XPack X,XOffs X where
 pool:X uM=none
def pre(ss:List (List Nat))(i:Nat):Nat:=(ss.take i).flatten.length
theorem HD(ss:List (List Nat))(i:Nat)(h:i<ss.length):pre ss (i+1)=pre ss i+ss[i].length:=by unfold pre;rw[<-List.take_append_getElem h,List.flatten_append,List.length_append,List.flatten_singleton]
theorem HC(ss:List (List Nat)):∀(j i:Nat),i<=j->pre ss i<=pre ss j
 |0,i,h=>by rw[show i=0 by omega];exact Nat.le_refl _
 |j+1,i,h=>by
  by_cases hi:i=j+1
  ·rw[hi];exact Nat.le_refl _
  ·refine Nat.le_trans (HC ss j i (by omega)) ?_
   by_cases hj:j<ss.length
   ·rw[HD ss j hj];omega
   ·unfold pre;rw[List.take_of_length_le (by omega),List.take_of_length_le (by omega)]
    exact Nat.le_refl _
theorem HB(ss:List (List Nat))(hs:∀s∈ss,s.length<256):∀i,i<=ss.length->pre ss i<=255*i
 |0,_=>by unfold pre;exact Nat.le_refl _
 |i+1,h=>by
  have:=HB ss hs i (by omega)
  have:=hs _ (List.getElem_mem (show i<ss.length from h));rw[HD ss i h];omega
def eX(ss:List (List Nat))(i:Nat):List Nat:=(List.range (i+1)).map (pre ss)
theorem RJ(ss:List (List Nat))(i:Nat):(eX ss i).length=i+1:=by simp[eX]
theorem aFj(ss:List (List Nat))(i:Nat):eX ss i++[pre ss (i+1)]=eX ss (i+1):=by unfold eX;rw[List.range_succ (n:=i+1),List.map_append];rfl
theorem RI(ss:List (List Nat))(i:Nat):(eX ss i)[i]? =some (pre ss i):=by simp[eX]
theorem aFi(ss:List (List Nat))(i:Nat):(eX ss i).Pairwise (·<=·):=by unfold eX;rw[List.pairwise_map];exact (List.pairwise_lt_range (n:=i+1)).imp fun h=>HC ss _ _ (Nat.le_of_lt h)
def SlG(lo:Nat)(vh:VH)(nx:Nat)(v:V)(xs:List Nat):Prop:=(v=.sl 1 (xs.map bK) (some xs.length))\/∃b,lo<=b/\b<nx/\v=.msl b 0 xs.length 1 none/\vh b=some (.cells (xs.map bK).flatten b9 0 false)
theorem SlG.app{lo:Nat}{vh:VH}{nx:Nat}{v:V}{xs:List Nat}(A:SlG lo vh nx v xs)(hlo:lo<=nx)(a:Nat)(hroom:room 8 (xs.length+1)){env:aH}{k:V->aH->VH->Nat->Prop}
  (hk:∀vh',vh' nx=some (.cells ((xs++[a]).map bK).flatten b9 0 false)->(∀c,c<lo->vh' c=vh c)->k (.msl nx 0 (xs++[a]).length 1 none) env vh' (nx+1)):aM 1 8 b9 v (bK a) 1 env vh nx k:=by
 rcases A with rfl|⟨b,b1,b2,rfl,b4⟩
 ·simp only[aM,aP.2 (rfl:(1:Nat)=1),cond_true];refine .no rfl ⟨⟨by rw[List.length_map];omega,by rw[List.length_map];exact hroom⟩,?_⟩
  have:=hk (aI vh nx (.cells ((xs.map bK).flatten++bK a) b9 0 false)) (by rw[aK];simp) fun c hc=>aG (by omega)
  rw[List.length_append,List.length_singleton] at this;rw[List.length_map];exact this
 ·exact vI gS (by decide) b4 rfl (.inl rfl) a hroom fun vh' h1 h2=>hk vh' h1 fun c hc=>h2 c (by omega) (by omega)
theorem JV(ss:List (List Nat))(hl:ss.length<=4000)(hs:∀s∈ss,s.length<256)(c:Option Nat)(lo:Nat)(vh0:VH)(Q:FQ)
  (hQ:∀v vh' vn' i t,SlG lo vh' vn' v (eX ss ss.length)->lo<=vn'->(∀d,d<lo->vh' d=vh0 d)->Q (.exit 0) [(0,.sl 1 (ss.map bY) c),(4,v),(10,.sl 1 (ss.map bY) c),(11,.int .i64 (ss.length:Int)),(12,.int .i64 i),(13,.bool t)] vh' vn'):
  ∀(m i:Nat),ss.length-i=m->i<=ss.length->∀(v:V) (vh:VH) (vn:Nat),SlG lo vh vn v (eX ss i)->lo<=vn->(∀d,d<lo->vh d=vh0 d)->
  aC Tryz.prog X G (.loop EJ) [(0,.sl 1 (ss.map bY) c),(4,v),(10,.sl 1 (ss.map bY) c),(11,.int .i64 (ss.length:Int)),(12,.int .i64 (i:Int))] vh vn Q
 |m,i,hm,hi,v,vh,vn,A,hlo,F=>by
  refine aC.round ?_;by_cases hlt:i<ss.length
  ·have e:wr .i64 ((i:Int)+1)=((i+1:Nat):Int):=by rw[aF]<;>omega
   have hb:=HB ss hs i hi;have hsi:=hs _ (List.getElem_mem hlt);have hp:=HD ss i hlt;have e1:wr .i64 (8388608-(pre ss i:Int))=8388608-(pre ss i:Int):=by rw[aF]<;>omega
   have e2:wr .i64 ((pre ss i:Int)+Int.ofNat ss[i].length)=(pre ss (i+1):Int):=by rw[hp,show Int.ofNat ss[i].length=(ss[i].length:Int) from rfl,aF]<;>omega
   have hol:=RJ ss i;have hat:((eX ss i).map bK)[i]? =some (bK (pre ss i)):=by rw[List.getElem?_map,RI];rfl
   have fin:∀vh',vh' vn=some (.cells ((eX ss i++[pre ss (i+1)]).map bK).flatten b9 0 false)->(∀c,c<lo->vh' c=vh c)->aC Tryz.prog X G (.loop EJ) [(0,.sl 1 (ss.map bY) c),(4,.msl vn 0 (eX ss i++[pre ss (i+1)]).length 1 none),(10,.sl 1 (ss.map bY) c),(11,.int .i64 (ss.length:Int)),(12,.int .i64 ((i+1:Nat):Int))] vh' (vn+1) Q:=fun vh' h1 h2=>by rw[aFj] at h1 ⊢;exact JV ss hl hs c lo vh0 Q hQ (m-1) (i+1) (by omega) (by omega) _ vh' (vn+1) (.inr ⟨vn,hlo,Nat.lt_succ_self _,rfl,h1⟩) (by omega) fun d hd=>(h2 d hd).trans (F d hd)
   rcases id A with rfl|⟨b,b1,b2,rfl,b4⟩
   ·conv=>whnf
    refine aB.mk (fun _=>?_) (fun h=>absurd (of_decide_eq_false h) (by omega))
    conv=>whnf
    refine Get.mk (i,bY ss[i]) ⟨rfl,by simp[hlt]⟩ ?_
    conv=>whnf
    refine Get.mk (i,bK (pre ss i)) ⟨rfl,hat⟩ ?_
    conv=>whnf
    rw[e1];refine aB.mk (fun c2=>?_) (fun c2=>?_)
    ·exfalso;have:=of_decide_eq_true c2;rw[show Int.ofNat ss[i].length=(ss[i].length:Int) from rfl] at this;omega
    conv=>whnf
    refine Get.mk (i,bK (pre ss i)) ⟨rfl,hat⟩ ?_
    conv=>whnf
    rw[e2];refine SlG.app A hlo (pre ss (i+1)) ⟨by omega,by show _<9223372036854775808;omega⟩ fun vh1 h1 h2=>?_
    conv=>whnf
    rw[e];exact fin vh1 h1 h2
   ·have hfl:((eX ss i).map bK).flatten[0+i*1]? =some (.int .i64 (pre ss i:Int)):=by
     have h1:=oK gS (eX ss i) i 0 (by omega) (by decide)
     rw[Nat.add_zero] at h1;rw[Nat.zero_add,h1];have h2:=RI ss i;rw[List.getElem?_eq_getElem (by omega),Option.some.injEq] at h2
     rw[h2];rfl
    conv=>whnf
    refine aB.mk (fun _=>?_) (fun h=>absurd (of_decide_eq_false h) (by omega))
    conv=>whnf
    refine Get.mk (i,bY ss[i]) ⟨rfl,by simp[hlt]⟩ ?_
    conv=>whnf
    refine Get.mk i ⟨rfl,by omega⟩ ?_
    conv=>whnf
    refine Get.mk (_,_,_,_) b4 ?_
    conv=>whnf
    refine Get.mk _ hfl ?_
    conv=>whnf
    rw[e1];refine aB.mk (fun c2=>?_) (fun c2=>?_)
    ·exfalso;have:=of_decide_eq_true c2;rw[show Int.ofNat ss[i].length=(ss[i].length:Int) from rfl] at this;omega
    conv=>whnf
    refine Get.mk i ⟨rfl,by omega⟩ ?_
    conv=>whnf
    refine Get.mk (_,_,_,_) b4 ?_
    conv=>whnf
    refine Get.mk _ hfl ?_
    conv=>whnf
    rw[e2];refine SlG.app A hlo (pre ss (i+1)) ⟨by omega,by show _<9223372036854775808;omega⟩ fun vh1 h1 h2=>?_
    conv=>whnf
    rw[e];exact fin vh1 h1 h2
  ·have hlt:i=ss.length:=by omega
   subst hlt;rcases id A with rfl|⟨b,b1,b2,rfl,b4⟩
   all_goals
    conv=>whnf
    refine aB.mk (fun h=>absurd (of_decide_eq_true h) (by omega)) (fun _=>?_)
    conv=>whnf
    exact hQ _ vh vn _ _ A hlo F
termination_by m=>m
decreasing_by all_goals omega
theorem JW(H:XPool X)(ss:List (List Nat))(hl:ss.length<=4000)(hs:∀s∈ss,s.length<256/\∀x∈s,x<256)(c:Option Nat)(vh:VH)(vn:Nat):
  aE Tryz.prog X G uM [.sl 1 (ss.map bY) c] vh vn fun v vh' vn'=>∃b,v=.tup [.ptr b 0,.int .i64 0]/\Frm vh vn vh' vn':=by
 have hlen:Int.ofNat (ss.map bY).length=(ss.length:Int):=by simp
 have hpb:∀i,i<=ss.length->pre ss i<=255*i:=HB ss fun s h=>(hs s h).1;have htot:pre ss ss.length=ss.flatten.length:=by unfold pre;rw[List.take_length]
 have htb:=hpb ss.length (Nat.le_refl _);have hol:=RJ ss ss.length;have hO:∀x∈eX ss ss.length,x<=1048576/\x<256*(eX ss ss.length).length:=fun x hx=>by
  obtain⟨i,hi,rfl⟩:=List.mem_map.1 hx;have:=HC ss ss.length i (by have:=List.mem_range.1 hi;omega)
  rw[hol];omega
 apply aDp.run H.pool
 conv=>whnf
 rw[hlen];refine JV ss hl (fun s h=>(hs s h).1) c vn vh _ (fun v vh1 n1 i t A1 g1 F1=>?_) _ 0 rfl (Nat.zero_le _) _ vh vn (.inl rfl) (Nat.le_refl _) fun _ _=>rfl;have fin:∀(vh2:VH) (F2:∀d,d<vn->vh2 d=vh d),aE Tryz.prog X G uI [.sl 1 ((eX ss ss.length).map bK) none] vh2 n1 fun v vh' vn'=>v=.tup [.ptr n1 0,.int .i64 0]/\n1<vn'/\∀d,d<vn->vh' d=vh d:=fun vh2 F2=>(V9 H.toXOffs (eX ss ss.length) (by omega) (by omega) (aFi ss _) hO none vh2 n1).mono fun v vh3 n3 ⟨e1,g3,F3⟩=>⟨e1,g3,fun d hd=>(F3.2 d (by omega)).trans (F2 d hd)⟩
 rcases A1 with rfl|⟨b,b1,b2,rfl,b4⟩
 ·conv=>whnf
  refine (fin vh1 F1).mono fun v vh3 n3 he=>?_;obtain⟨e1,g3,F3⟩:=he;rw[e1];clear e1
  conv=>whnf
  refine (JB H.toXStr ss (by omega) (by omega) (fun s h=>(hs s h).2) c vh3 n3).mono fun v vh4 n4 he=>?_
  obtain⟨e1,F4⟩:=he;rw[e1];have g4:=F4.1
  conv=>whnf
  exact Get.mk _ (fun _ _ h=>h) ⟨_,rfl,by show vn<=n4+1;omega,fun d hd=>(aG (by omega)).trans ((F4.2 d (by omega)).trans (F3 d hd))⟩
 ·conv=>whnf
  refine Get.mk (_,_,_,_) b4 ?_
  conv=>whnf
  refine⟨gG gS (by decide),?_⟩
  conv=>whnf
  refine Get.mk _ (eU gS) ?_
  conv=>whnf
  refine (fin (bX vh1 b) fun d hd=>(b5 (by omega)).trans (F1 d hd)).mono fun v vh3 n3 he=>?_
  obtain⟨e1,g3,F3⟩:=he;rw[e1];clear e1
  conv=>whnf
  refine (JB H.toXStr ss (by omega) (by omega) (fun s h=>(hs s h).2) c vh3 n3).mono fun v vh4 n4 he=>?_
  obtain⟨e1,F4⟩:=he;rw[e1];have g4:=F4.1
  conv=>whnf
  exact Get.mk _ (fun _ _ h=>h) ⟨_,rfl,by show vn<=n4+1;omega,fun d hd=>(aG (by omega)).trans ((F4.2 d (by omega)).trans (F3 d hd))⟩
end
end Go.Proofs.YtjoadepfokpcoaaGreatDoor
set_option maxRecDepth 100000
set_option linter.unusedVariables false
namespace Go.Proofs.YtjoadepfokpcoaaGreatDoor
def aBE:aD:=(.seq (.seq (.reg 0 [mA 12 4,mA 13 0,oA 14 (.lenL 13),oA 15 (.bin .lss 12 14)] (kp [0,3,4,15]))
(.cond 15
(.gsk (kp [0,3,4]))
(.exit 0)))
(.seq (.block 1
(.reg 0 [mA 18 3,mA 19 0,mA 20 4,oA 21 (.idx 1 19 20),oA 22 (.load 21 false 1),oA 23 (.mx [18,22]),mA 3 23] (kp [0,3,4])))
(.reg 0 [mA 16 4,oA 17 (.bin .add 16 (cI 1)),mA 4 17] (kp [0,3,4]))))
def aBD:aD:=(.seq (.reg 0 [oA 2 (.mv (cI 0))] (kp [0]))
(.seq (.seq (.reg 0 [mA 5 0,oA 6 (.lenL 5),oA 7 (.bin .lss 6 (cI 1))] (kp [0,7]))
(.cond 7
(.reg 0 [oA 8 (.mkIfc iS (.c (.str KD))),oN (.bad)] (kp [0]))
(.gsk (kp [0]))))
(.seq (.reg 0 [mA 9 0,oA 10 (.idx 1 9 (cI 0)),oA 11 (.load 10 false 1),mA 3 11] (kp [0,3]))
(.seq (.seq (.reg 0 [oA 4 (.mv (cI 1))] (kp [0,3,4]))
(.block 0
(.loop aBE)))
(.seq (.reg 0 [mA 24 3,mA 2 24] (kp [2]))
.ret)))))
def aIQ:List aJ:=[.tmp 2]
theorem aE8:aL Tryz.prog u4 aBD aIQ:=.of Tryz.func56 (by kernel_rfl)
section
attribute [local irreducible] aM fQ hY
variable {X : Ovr} {G : Gt}
structure XWave(X:Ovr):Prop extends XPool X where
 wnew:X zG=none
def cA(k s:Nat):Bool:=decide (s / 2^k%2=1)
def kM:Nat->List Nat->List (List Bool)
 |0,_=>[]
 |k+1,l=>l.map (cA k)::kM k (l.filter (fun s=>!cA k s)++l.filter (cA k))
def sJ(bs:List Bool):List V:=[.ifc DI (iD bs)]
theorem aCG(bs:List Bool):(sJ bs).length=1:=rfl
theorem KW(l:List Nat)(hl:l.length<=1048576)(sg:Nat)(hs:∀s∈l,s<sg)(c:Option Nat)(vh:VH)(vn:Nat)(Q:FQ)
  (hQ:∀i t,Q (.exit 0) [(0,.sl 1 (l.map bK) c),(1,.int .i64 (sg:Int)),(23,.sl 1 (l.map bK) c),(24,.int .i64 (l.length:Int)),(25,.int .i64 i),(26,.bool t)] vh vn):
  ∀(m i:Nat),l.length-i=m->i<=l.length->
  aC Tryz.prog X G (.loop NK) [(0,.sl 1 (l.map bK) c),(1,.int .i64 (sg:Int)),(23,.sl 1 (l.map bK) c),(24,.int .i64 (l.length:Int)),(25,.int .i64 (i:Int))] vh vn Q
 |m,i,hm,hi=>by
  refine aC.round ?_
  conv=>whnf
  refine aB.mk (fun c1=>?_) (fun c1=>?_)
  ·have hlt:i<l.length:=by have:=of_decide_eq_true c1;omega
   have e:wr .i64 ((i:Int)+1)=((i+1:Nat):Int):=by rw[aF]<;>omega
   have hsi:=hs _ (List.getElem_mem hlt)
   conv=>whnf
   refine Get.mk (i,bK l[i]) ⟨rfl,by simp[hlt]⟩ ?_
   conv=>whnf
   refine aB.mk (fun h=>absurd (of_decide_eq_true (show decide ((sg:Int)<=(l[i]:Int))=true from h)) (by omega)) (fun _=>?_)
   conv=>whnf
   rw[e];exact KW l hl sg hs c vh vn Q hQ (m-1) (i+1) (by omega) (by omega)
  ·have hlt:i=l.length:=by have:=of_decide_eq_false c1;omega
   conv=>whnf
   exact hQ _ _
termination_by m=>m
decreasing_by all_goals omega
def SlN{α:Type}(enc:α->List V)(ty:TypeId)(lo:Nat)(vh:VH)(nx:Nat)(v:V)(xs:List α):Prop:=(v=.nils/\xs=[])\/∃b,lo<=b/\b<nx/\v=.msl b 0 xs.length 1 none/\vh b=some (.cells (xs.map enc).flatten ty 0 false)
section
variable {α : Type} {enc : α → List V} {ty : TypeId} {lo : Nat} {vh vh' : VH} {nx nx' : Nat} {v : V} {xs : List α}
theorem SlN.toIn(A:SlN enc ty lo vh nx v xs):aQ enc 1 ty lo vh nx v xs:=by
 rcases A with⟨h1,h2⟩|h
 ·exact .inl ⟨.inl h1,h2⟩
 ·exact .inr h
theorem SlN.mono(A:SlN enc ty lo vh nx v xs)(hn:nx<=nx')(hv:∀c,lo<=c->c<nx->aR v c->vh' c=vh c):SlN enc ty lo vh' nx' v xs:=by
 rcases A with h|⟨b,h1,h2,h3,h4⟩
 ·exact .inl h
 ·exact .inr ⟨b,h1,by omega,h3,(hv b h1 h2 (by rw[h3];exact rfl)).trans h4⟩
theorem SlN.lt(A:SlN enc ty lo vh nx v xs)(c:Nat)(h:aR v c):lo<=c/\c<nx:=by
 rcases A with⟨rfl,_⟩|⟨b,h1,h2,rfl,_⟩
 ·exact h.elim
 ·have:c=b:=h;omega
theorem SlN.appL{by':Nat}(hl:∀a,(enc a).length=1)(A:SlN enc ty lo vh nx v xs)(hlo:lo<=nx)(ys:List α)(hroom:room by' (xs.length+ys.length)){env:aH}{k:V->aH->VH->Nat->Prop}
  (hk:∀v' vh' nx',SlN enc ty lo vh' nx' v' (xs++ys)->nx<=nx'->(∀c,c<nx->¬aR v c->vh' c=vh c)->(∀c,aR v' c->aR v c\/nx<=c)->k v' env vh' nx'):aM 1 by' ty v (ys.map enc).flatten ys.length env vh nx k:=by
 by_cases h0:ys=[]
 ·subst h0;rw[List.append_nil] at hk;rcases A with⟨rfl,rfl⟩|⟨d,d1,d2,rfl,d3⟩
  ·simp only[aM];exact hk _ _ _ (.inl ⟨rfl,rfl⟩) (Nat.le_refl _) (fun _ _ _=>rfl) fun _ h=>.inl h
  ·simp only[aM,aP.2 (rfl:(1:Nat)=1),cond_true];exact hk _ _ _ (.inr ⟨d,d1,d2,rfl,d3⟩) (Nat.le_refl _) (fun _ _ _=>rfl) fun _ h=>.inl h
 ·have hs:Nat.beq ys.length 0=false:=dW.2 (fun h=>h0 (List.length_eq_zero_iff.1 h));have hp:0<ys.length:=List.length_pos_iff.2 h0;rcases A with⟨rfl,rfl⟩|⟨d,d1,d2,rfl,d3⟩
  ·simp only[aM,hs];exact .no rfl ⟨by simpa using hroom,hk _ _ _ (.inr ⟨nx,hlo,Nat.lt_succ_self _,by simp,by rw[aK];simp⟩) (Nat.le_succ _) (fun c hc _=>aG (by omega)) fun c h=>.inr (by have:c=nx:=h;omega)⟩
  ·simp only[aM,hs,aP.2 (rfl:(1:Nat)=1),cond_true];refine .no rfl (Get.mk (_,_,_,_) d3 ?_);simp only;have hfl:=iI hl xs;have hn:Nat.ble (xs.length+ys.length) (((xs.map enc).flatten.length-0) / 1)=false:=by
    rw[hfl];cases hb:Nat.ble (xs.length+ys.length) ((xs.length*1-0) / 1) with
    |false=>rfl
    |true=>have:=bC.1 hb;omega
   rw[hn];refine .no rfl ⟨⟨trivial,by rw[hfl];exact Nat.le_refl _,Nat.zero_le _,trivial,hroom⟩,?_⟩
   refine hk _ _ _ (.inr ⟨nx,hlo,Nat.lt_succ_self _,by simp,?_⟩) (Nat.le_succ _) (fun c hc hd=>(aG (by omega)).trans (b5 hd)) fun c h=>.inr (by have:c=nx:=h;omega)
   rw[aK,List.take_of_length_le (by rw[hfl];exact Nat.le_refl _)]
   simp[fzOff]
theorem SlN.app0{by':Nat}(hl:∀a,(enc a).length=1)(A:SlN enc ty lo vh nx v xs)(hlo:lo<=nx){ys:List α}(hy:ys=[])(hroom:room by' (xs.length+ys.length)){env:aH}{k:V->aH->VH->Nat->Prop}
  (hk:∀v' vh' nx',SlN enc ty lo vh' nx' v' (xs++ys)->nx<=nx'->(∀c,c<nx->¬aR v c->vh' c=vh c)->(∀c,aR v' c->aR v c\/nx<=c)->k v' env vh' nx'):aM 1 by' ty v [] 0 env vh nx k:=by
 subst hy;exact A.appL hl hlo [] hroom hk
end
def gY(k:Nat)(l:List Nat)(i:Nat):List Bool:=(l.take i).map (cA k)++List.replicate (l.length-i) false
theorem S6(k:Nat)(l:List Nat)(i:Nat)(hi:i<=l.length):(gY k l i).length=l.length:=by simp only[gY,List.length_append,List.length_map,List.length_take,List.length_replicate];omega
theorem S7(k:Nat)(l:List Nat)(i:Nat)(hi:i<l.length):(gY k l i).set i (cA k l[i])=gY k l (i+1):=by
 unfold gY;rw[List.set_append_right _ _ (by rw[List.length_map,List.length_take];omega),<-List.take_append_getElem hi,List.map_append,show l.length-i=(l.length-(i+1))+1 by omega,List.replicate_succ]
 simp only[List.length_map,List.length_take];rw[show i-min i l.length=0 by omega,List.set_cons_zero,List.append_assoc]
 rfl
theorem YR(k s:Nat)(hs:s<9223372036854775808):decide (wr .i64 (.ofNat (Nat.land (toU .i64 ((s / 2^k:Nat):Int)) (toU .i64 1)))=1)=cA k s:=by
 have hd:s / 2^k<=s:=Nat.div_le_self _ _;rw[xP (by omega),show toU .i64 1=1 from rfl]
 show decide (wr .i64 ((s / 2^k&&& 1:Nat):Int)=1)=_;have h1:s / 2^k&&& 1=s / 2^k%2:=Nat.and_one_is_mod _;rw[h1,aF (by omega) (by omega)]
 unfold cA;exact decide_eq_decide.2 (by omega)
theorem KY(l:List Nat)(hl:l.length<=1048576)(hs:∀s∈l,s<256)(c:Option Nat)(k:Nat)(hk:k<64)(b br lo:Nat)(hbr:br<lo)(vh0:VH)(Q:FQ)
  (hQ:∀zv ov vh' vn' i t,SlN bK b9 lo vh' vn' zv (l.filter fun s=>!cA k s)->SlN bK b9 lo vh' vn' ov (l.filter (cA k))->(∀d,aR zv d->¬aR ov d)->vh' br=some (.cells ((l.map (cA k)).map bS).flatten fB 0 false)->lo<=vn'->(∀d,d<lo->d≠br->vh' d=vh0 d)->Q (.exit 4) [(8,.ptr b 0),(9,.int .i64 (k:Int)),(10,.msl br 0 l.length 1 (some l.length)),(11,zv),(12,ov),(57,.sl 1 (l.map bK) c),(58,.int .i64 (l.length:Int)),(59,.int .i64 i),(60,.bool t)] vh' vn'):
  ∀(m i:Nat),l.length-i=m->i<=l.length->∀(zv ov:V) (vh:VH) (vn:Nat),SlN bK b9 lo vh vn zv ((l.take i).filter fun s=>!cA k s)->SlN bK b9 lo vh vn ov ((l.take i).filter (cA k))->(∀d,aR zv d->¬aR ov d)->vh br=some (.cells ((gY k l i).map bS).flatten fB 0 false)->lo<=vn->(∀d,d<lo->d≠br->vh d=vh0 d)->
  aC Tryz.prog X G (.loop NL) [(8,.ptr b 0),(9,.int .i64 (k:Int)),(10,.msl br 0 l.length 1 (some l.length)),(11,zv),(12,ov),(57,.sl 1 (l.map bK) c),(58,.int .i64 (l.length:Int)),(59,.int .i64 (i:Int))] vh vn Q
 |m,i,hm,hi,zv,ov,vh,vn,Z,O,hd,R,hlo,F=>by
  refine aC.round ?_;by_cases hlt:i<l.length
  ·have e:wr .i64 ((i:Int)+1)=((i+1:Nat):Int):=by rw[aF]<;>omega
   have hsi:=hs _ (List.getElem_mem hlt);have ek:wr .u64 (k:Int)=(k:Int):=by rw[dA]<;>omega
   have ebl:(bif Nat.blt k (kbits .i64) then k else kbits .i64)=k:=by rw[show Nat.blt k (kbits .i64)=true from cF.2 (by show k<64;omega)];rfl
   have hrl:=S6 k l i hi;have hrl1:=S6 k l (i+1) hlt;have hrs:setSeg ((gY k l i).map bS).flatten (0+i*1) [V.bool (cA k l[i])]=((gY k l (i+1)).map bS).flatten:=by rw[show[V.bool (cA k l[i])]=bS (cA k l[i]) from rfl,PW iE _ _ (by omega),S7 k l i hlt]
   have hrg:((gY k l (i+1)).map bS).flatten[0+i*1]? =some (.bool (cA k l[i])):=by
    have h1:=oK iE (gY k l (i+1)) i 0 (by omega) (by decide)
    rw[show i*1+0=0+i*1 by omega] at h1
    rw[h1];have h2:(gY k l (i+1))[i]=cA k l[i]:=by have:=S7 k l i hlt;simp only[<-this,List.getElem_set_self]
    rw[h2];rfl
   have htk:l.take (i+1)=l.take i++[l[i]]:=(List.take_append_getElem hlt).symm;have hfl:∀p:Nat->Bool,((l.take i).filter p).length<=1048576:=fun p=>Nat.le_trans (List.length_filter_le _ _) (by rw[List.length_take];omega)
   have nxt:=fun zv ov vh vn=>KY l hl hs c k hk b br lo hbr vh0 Q hQ (m-1) (i+1) (by omega) (by omega) zv ov vh vn
   rw[htk,List.filter_append,List.filter_append] at nxt;rcases id Z with⟨rfl,hz0⟩|⟨bz,bz1,bz2,rfl,bz4⟩<;>rcases id O with⟨rfl,ho0⟩|⟨bo,bo1,bo2,rfl,bo4⟩
   all_goals
    conv=>whnf
    refine aB.mk (fun _=>?_) (fun h=>absurd (of_decide_eq_false h) (by omega))
    conv=>whnf
    refine Get.mk (i,bK l[i]) ⟨rfl,by simp[hlt]⟩ ?_
    conv=>whnf
    rw[ek];refine Get.mk k rfl ?_
    conv=>whnf
    rw[ebl,nL,YR k _ (by omega)]
    refine Get.mk i ⟨rfl,hlt⟩ ?_
    conv=>whnf
    refine Get.mk (_,_,_,_) R ?_
    conv=>whnf
    refine⟨⟨by rw[iI iE];show 0+i*1+1<=_;omega,Nat.zero_le _⟩,?_⟩
    rw[hrs];generalize hv:aI vh br _=vh1;have R1:vh1 br=some (.cells ((gY k l (i+1)).map bS).flatten fB 0 false):=hv▸aK;have F1:∀d,d≠br->vh1 d=vh d:=fun d hd=>hv▸aG hd;clear hv;have Z1:=Z.mono (vh':=vh1) (Nat.le_refl _) fun d d1 d2 d3=>F1 d (by omega)
    have O1:=O.mono (vh':=vh1) (Nat.le_refl _) fun d d1 d2 d3=>F1 d (by omega)
    conv=>whnf
    refine Get.mk i ⟨rfl,hlt⟩ ?_
    conv=>whnf
    refine Get.mk (_,_,_,_) R1 ?_
    conv=>whnf
    refine Get.mk _ hrg ?_;cases hb:cA k l[i] with
    |true=>
     conv=>whnf
     refine aQ.app' (enc:=bK) gS (by decide) O1.toIn hlo l[i] ⟨by have:=hfl (cA k);omega,by have:=hfl (cA k);show _<9223372036854775808;omega⟩ fun vh2 h2 f2=>?_
     conv=>whnf
     rw[e];refine nxt _ _ vh2 (vn+1) ?_ ?_ ?_ ?_ (by omega) ?_
     ·rw[show[l[i]].filter (fun s=>!cA k s)=[] by simp[hb],List.append_nil]
      exact Z1.mono (Nat.le_succ _) fun d d1 d2 d3=>f2 d (by omega) (hd d d3)
     ·rw[show[l[i]].filter (cA k)=[l[i]] by simp[hb]]
      exact .inr ⟨vn,hlo,Nat.lt_succ_self _,rfl,h2⟩
     ·intro d d1 d2;have:=(Z1.lt d d1).2;have:d=vn:=d2;omega
     ·exact (f2 br (by omega) fun h=>by have:=(O1.lt br h).1;omega).trans R1
     ·exact fun d d1 d2=>(f2 d (by omega) fun h=>by have:=(O1.lt d h).1;omega).trans ((F1 d d2).trans (F d d1 d2))
    |false=>
     conv=>whnf
     refine aQ.app' (enc:=bK) gS (by decide) Z1.toIn hlo l[i] ⟨by have:=hfl (fun s=>!cA k s);omega,by have:=hfl (fun s=>!cA k s);show _<9223372036854775808;omega⟩ fun vh2 h2 f2=>?_
     conv=>whnf
     rw[e];refine nxt _ _ vh2 (vn+1) ?_ ?_ ?_ ?_ (by omega) ?_
     ·rw[show[l[i]].filter (fun s=>!cA k s)=[l[i]] by simp[hb]]
      exact .inr ⟨vn,hlo,Nat.lt_succ_self _,rfl,h2⟩
     ·rw[show[l[i]].filter (cA k)=[] by simp[hb],List.append_nil]
      exact O1.mono (Nat.le_succ _) fun d d1 d2 d3=>f2 d (by omega) fun h=>hd d h d3
     ·intro d d1 d2;have:=(O1.lt d d2).2;have:d=vn:=d1;omega
     ·exact (f2 br (by omega) fun h=>by have:=(Z1.lt br h).1;omega).trans R1
     ·exact fun d d1 d2=>(f2 d (by omega) fun h=>by have:=(Z1.lt d h).1;omega).trans ((F1 d d2).trans (F d d1 d2))
  ·have hlt:i=l.length:=by omega
   subst hlt;rw[List.take_length] at Z O;rw[gY,List.take_length,Nat.sub_self,List.replicate_zero,List.append_nil] at R;rcases id Z with⟨rfl,hz0⟩|⟨bz,bz1,bz2,rfl,bz4⟩<;>rcases id O with⟨rfl,ho0⟩|⟨bo,bo1,bo2,rfl,bo4⟩
   all_goals
    conv=>whnf
    refine aB.mk (fun h=>absurd (of_decide_eq_true h) (by omega)) (fun _=>?_)
    conv=>whnf
    exact hQ _ _ vh vn _ _ Z O hd R hlo F
termination_by m=>m
decreasing_by all_goals omega
theorem R9(p:Nat->Bool):∀l:List Nat,((l.filter fun s=>!p s)++l.filter p).length=l.length
 |[]=>rfl
 |a::l=>by have:=R9 p l;rw[List.length_append] at this ⊢;cases h:p a<;>simp[List.filter_cons,h]<;>omega
theorem aGc(p:Nat->Bool)(l:List Nat)(q:Nat->Prop)(h:∀s∈l,q s):∀s∈(l.filter fun s=>!p s)++l.filter p,q s:=fun s hs=>by rcases List.mem_append.1 hs with hs|hs<;>exact h s (List.mem_filter.1 hs).1
def WB(vh:VH)(b:Nat)(rv:V)(n sg:Nat)(st:Int):Prop:=vh b=some (.cells [rv,.int .i64 (n:Int),.int .i64 (sg:Int),.int .i64 st] KO 0 false)
theorem KX(H:XWave X)(b n sg:Nat)(hn:n<=4194304)(hn2:n<=1048576)(vh0:VH)(Q:FQ)(A:List (List Bool))(hA1:A.length<=64)
  (hQ:∀rv vh' vn' l c t,WB vh' b rv n sg 0->SlN sJ gB (b+1) vh' vn' rv A->b<vn'->(∀d,d<b->vh' d=vh0 d)->Q (.exit 2) [(0,.sl 1 l c),(8,.ptr b 0),(9,.int .i64 (-1)),(51,.bool t)] vh' vn'):
  ∀(m:Nat),m<=64->∀(l:List Nat) (c:Option Nat) (rv:V) (rows:List (List Bool)) (vh:VH) (vn:Nat),l.length=n->(∀s∈l,s<256)->rows++kM m l=A->WB vh b rv n sg 0->SlN sJ gB (b+1) vh vn rv rows->b<vn->(∀d,d<b->vh d=vh0 d)->
  aC Tryz.prog X G (.loop vM) [(0,.sl 1 (l.map bK) c),(8,.ptr b 0),(9,.int .i64 ((m:Int)-1))] vh vn Q
 |0,_,l,c,rv,rows,vh,vn,hl,hs,hA,B,R,hb,F=>by
  rw[kM,List.append_nil] at hA;subst hA;refine aC.round ?_
  conv=>whnf
  exact hQ rv vh vn _ _ _ B R hb F
 |m+1,hm,l,c,rv,rows,vh,vn,hl,hs,hA,B,R,hb,F=>by
  have hlen:Int.ofNat (l.map bK).length=(n:Int):=by simp[hl]
  have e0:((m+1:Nat):Int)-1=(m:Int):=by omega
  have e1:wr .i64 ((m:Int)-1)=(m:Int)-1:=by rw[aF]<;>omega
  rw[e0];refine aC.round ?_
  conv=>whnf
  rw[hlen];refine Get.mk n rfl ?_;refine Get.mk n ⟨rfl,Nat.le_refl _,by omega,by show n<9223372036854775808;omega⟩ ?_
  conv=>whnf
  rw[hlen];subst hl;generalize hv:aI vh vn _=vh1;have R1:vh1 vn=some (.cells ((gY m l 0).map bS).flatten fB 0 false):=by rw[<-hv,aK,BO,gY,List.take_zero,List.map_nil,List.nil_append,Nat.sub_zero,FE]
  have F1:∀d,d≠vn->vh1 d=vh d:=fun d hd=>by rw[<-hv];exact aG hd
  clear hv;refine KY l hn2 hs c m (by omega) b vn (vn+1) (Nat.lt_succ_self _) vh1 _ (fun zv ov vh5 n5 i t Z5 O5 d5 R5 g5 F5=>?_) _ 0 rfl (Nat.zero_le _) .nils .nils vh1 (vn+1) (.inl ⟨rfl,rfl⟩) (.inl ⟨rfl,rfl⟩) (fun _ h=>h.elim) R1 (Nat.le_refl _) fun _ _ _=>rfl
  have hlr:rows.length<=64:=by rw[<-hA,List.length_append] at hA1;omega
  have hpl:=R9 (cA m) l;have hpm:=aGc (cA m) l _ hs;rw[kM] at hA;generalize hzs:(l.filter fun s=>!cA m s)=zs at Z5 hA hpl hpm;generalize hos:l.filter (cA m)=os at O5 hA hpl hpm;rcases id Z5 with⟨rfl,hz0⟩|⟨bz,bz1,bz2,rfl,bz4⟩<;>rcases id O5 with⟨rfl,ho0⟩|⟨bo,bo1,bo2,rfl,bo4⟩<;>rcases id R with⟨rfl,hr0⟩|⟨bw,bw1,bw2,rfl,bw4⟩
  all_goals
   conv=>whnf
   refine Get.mk (_,_,_,_) R5 ?_
   conv=>whnf
   refine⟨?_,?_⟩
   ·have:=PZ iE (by decide) (xs:=l.map (cA m))
    rw[List.length_map] at this;exact this
   conv=>whnf
   refine Get.mk _ (by have:=eU (xs:=l.map (cA m)) iE;rw[List.length_map] at this;exact this) ?_
   conv=>whnf
   refine (CD H.toXBits (l.map (cA m)) (by rw[List.length_map];exact hn) none _ _).mono fun v vh6 n6 he=>?_
   obtain⟨e4,hF⟩:=he;rw[e4];clear e4;have F6:∀d,d<n5->d≠vn->vh6 d=vh5 d:=fun d d1 d2=>(hF.2 d d1).trans (b5 d2);have g6:=hF.1;clear hF;have B6:WB vh6 b _ l.length sg 0:=(F6 b (by omega) (by omega)).trans ((F5 b (by omega) (by omega)).trans ((F1 b (by omega)).trans B))
   have R6:=R.mono (vh':=vh6) (nx':=n6) (by omega) fun d d1 d2 d3=>(F6 d (by omega) (by omega)).trans ((F5 d (by omega) (by omega)).trans (F1 d (by omega)))
   conv=>whnf
   refine Get.mk (_,_,_,_) B6 ?_
   conv=>whnf
   refine Get.mk _ rfl ?_
   conv=>whnf
   refine aQ.app' (enc:=sJ) aCG (by decide) R6.toIn (by omega) (l.map (cA m)) ⟨by omega,by show _<9223372036854775808;omega⟩ fun vh7 h7 f7=>?_
   have B7:=(f7 b (by omega) fun h=>by have:=(R6.lt b h).1;omega).trans B6
   have Z7:=Z5.mono (vh':=vh7) (nx':=n6+1) (by omega) fun d d1 d2 d3=>(f7 d (by omega) fun h=>by have:=(R.lt d h).2;omega).trans (F6 d (by omega) (by omega))
   have O7:=O5.mono (vh':=vh7) (nx':=n6+1) (by omega) fun d d1 d2 d3=>(f7 d (by omega) fun h=>by have:=(R.lt d h).2;omega).trans (F6 d (by omega) (by omega))
   conv=>whnf
   refine Get.mk (_,_,_,_) B7 ?_
   conv=>whnf
   refine⟨⟨(by decide:1<=4),Nat.zero_le _⟩,?_⟩
   conv=>whnf
   generalize hv:aI vh7 b _=vh8;have B8:WB vh8 b (.msl n6 0 (rows++[l.map (cA m)]).length 1 none) l.length sg 0:=hv▸aK;have F8:∀d,d≠b->vh8 d=vh7 d:=fun d hd=>hv▸aG hd;clear hv;have Z8:=Z7.mono (vh':=vh8) (Nat.le_refl _) fun d d1 d2 d3=>F8 d (by omega)
   have h8:=(F8 n6 (by omega)).trans h7
   have fin:∀vh9 n9,vh9 b=vh8 b->vh9 n6=vh8 n6->(∀d,d<b->vh9 d=vh8 d)->n6+1<=n9->aC Tryz.prog X G (.loop vM) [(0,.sl 1 ((zs++os).map bK) none),(8,.ptr b 0),(9,.int .i64 ((m:Int)-1))] vh9 n9 Q:=fun vh9 n9 q1 q2 q3 q4=>
    KX H b l.length sg hn hn2 vh0 Q A hA1 hQ m (by omega) (zs++os) none _ (rows++[l.map (cA m)]) vh9 n9 hpl hpm (by rw[<-hA,List.append_assoc];rfl) (q1.trans B8) (.inr ⟨n6,by omega,by omega,rfl,q2.trans h8⟩) (by omega) fun d hd=>(q3 d hd).trans ((F8 d (by omega)).trans ((f7 d (by omega) fun h=>by have:=(R6.lt d h).1;omega).trans ((F6 d (by omega) (by omega)).trans ((F5 d (by omega) (by omega)).trans ((F1 d (by omega)).trans (F d hd))))))
   have fin2:∀v' vh9 n9,SlN bK b9 (vn+1) vh9 n9 v' (zs++os)->n6+1<=n9->(∀c,c<n6+1->(vn+1<=c->n5<=c)->vh9 c=vh8 c)->(∀c,aR v' c->(vn+1<=c/\c<n5)\/n6+1<=c)->(v'=.nils->aC Tryz.prog X G (.loop vM) [(0,.sl 1 [] none),(8,.ptr b 0),(9,.int .i64 ((m:Int)-1))] vh9 n9 Q)/\∀bq,v'=.msl bq 0 (zs++os).length 1 none->aC Tryz.prog X G (.loop vM) [(0,.sl 1 ((zs++os).map bK) none),(8,.ptr b 0),(9,.int .i64 ((m:Int)-1))] (bX vh9 bq) n9 Q:=fun v' vh9 n9 A9 g9 f9 k9=>by
    refine⟨fun hv=>?_,fun bq hv=>?_⟩
    ·have h0:zs++os=[]:=by
      rcases A9 with⟨_,h⟩|⟨_,_,_,h,_⟩
      ·exact h
      ·rw[hv] at h;cases h
     have:=fin vh9 n9 (f9 b (by omega) (by omega)) (f9 n6 (by omega) (by omega)) (fun d hd=>f9 d (by omega) (by omega)) g9
     rw[h0] at this;exact this
    ·have hq:=k9 bq (by rw[hv];rfl)
     exact fin _ n9 ((b5 (by omega)).trans (f9 b (by omega) (by omega))) ((b5 (by omega)).trans (f9 n6 (by omega) (by omega))) (fun d hd=>(b5 (by omega)).trans (f9 d (by omega) (by omega))) g9
   have O8:=O7.mono (vh':=vh8) (Nat.le_refl _) fun d d1 d2 d3=>F8 d (by omega)
   have k8:∀{α:Type} {enc:α->List V} {ty:TypeId} {v:V} {xs:List α},SlN enc ty (vn+1) vh5 n5 v xs->∀c,c<n6+1->(vn+1<=c->n5<=c)->¬aR v c:=fun A c h1 h2 h3=>by have:=A.lt c h3;omega
   clear Z7 O7 B7 R6 f7 F8 F6 F5 F1 R1 R5 h7
   first
    |(refine SlN.app0 gS Z8 (by omega) ho0 ⟨by rw[<-List.length_append,hpl];omega,by rw[<-List.length_append,hpl];show _<9223372036854775808;omega⟩ fun v' vh9 n9 A9 g9 f9 k9=>?_)
    |(
      obtain⟨_,_⟩|⟨bo',bo1',bo2',ho',bo8⟩:=O8
      ·contradiction
      cases ho';refine Get.mk (_,_,_,_) bo8 ?_
      conv=>whnf
      refine⟨by rw[iI gS];show 0+os.length*1<=os.length*1;omega,?_⟩
      rw[show (((os.map bK).flatten.drop 0).take (os.length*1))=(os.map bK).flatten by rw[List.drop_zero,List.take_of_length_le (by rw[iI gS];exact Nat.le_refl _)]]
      refine SlN.appL gS Z8 (by omega) os ⟨by rw[<-List.length_append,hpl];omega,by rw[<-List.length_append,hpl];show _<9223372036854775808;omega⟩ fun v' vh9 n9 A9 g9 f9 k9=>?_)
   all_goals
    obtain⟨t1,t2⟩:=fin2 v' vh9 n9 A9 g9 (fun c c1 c2=>f9 c c1 (k8 Z5 c c1 c2)) (fun c hc=>by
     rcases k9 c hc with h|h
     ·exact .inl (Z5.lt c h)
     ·exact .inr h)
    rcases A9 with⟨rfl,h⟩|⟨bq,q1,q2,rfl,q4⟩
    ·conv=>whnf
     rw[e1];exact t1 rfl
    ·conv=>whnf
     refine Get.mk (_,_,_,_) q4 ?_
     conv=>whnf
     refine⟨gG gS (by decide),?_⟩
     conv=>whnf
     refine Get.mk _ (eU gS) ?_
     conv=>whnf
     rw[e1];exact t2 bq rfl
theorem X1(H:XWave X)(l:List Nat)(sg:Nat)(h1:1<=sg)(h2:sg<=256)(hl:l.length<=1048576)(hs:∀s∈l,s<sg)(c:Option Nat)(vh:VH)(vn:Nat):
  aE Tryz.prog X G zG [.sl 1 (l.map bK) c,.int .i64 (sg:Int)] vh vn fun v vh' vn'=>v=.tup [.ptr vn 0,.int .i64 0]/\(∃rv,WB vh' vn rv l.length sg 0/\SlN sJ gB (vn+1) vh' vn' rv (kM (hY (sg-1)) l))/\vn<vn'/\Frm vh vn vh' vn':=by
 have hlen:Int.ofNat (l.map bK).length=(l.length:Int):=by simp
 apply aEo.run H.wnew
 conv=>whnf
 refine aB.mk (fun c1=>?_) (fun c1=>?_)
 ·have:=of_decide_eq_true c1;omega
 conv=>whnf
 refine aB.mk (fun h=>absurd (of_decide_eq_true (show decide (1048576<(sg:Int))=true from h)) (by omega)) (fun _=>?_)
 conv=>whnf
 rw[hlen];refine KW l hl sg hs c vh vn _ (fun i t=>?_) _ 0 rfl (Nat.zero_le _)
 conv=>whnf
 rw[hlen];refine aB.mk (fun c2=>?_) (fun c2=>?_)
 ·have:=of_decide_eq_true c2;omega
 conv=>whnf
 rw[hlen];generalize hv:aI vh vn _=vh1;have B1:WB vh1 vn .nils l.length sg 0:=hv▸aK;have F1:∀d,d≠vn->vh1 d=vh d:=fun d hd=>hv▸aG hd;clear hv;have e1:wr .u64 (wr .i64 ((sg:Int)-1))=((sg-1:Nat):Int):=by rw[show wr .i64 ((sg:Int)-1)=(sg:Int)-1 by rw[aF]<;>omega,dA]<;>omega
 rw[e1];refine (DK H.toXInt (sg-1) (by omega)).mono fun v vh' vn' he=>?_
 obtain⟨e2,e3,e4⟩:=he;rw[e2,e3,e4];clear e2 e3 e4;have hw:=IL (sg-1);generalize hY (sg-1)=w at hw;have e5:wr .i64 ((w:Int)-1)=(w:Int)-1:=by rw[aF]<;>omega
 conv=>whnf
 rw[e5];have hA:∀(m:Nat) (l:List Nat),(kM m l).length=m:=fun m=>by
  induction m with
  |zero=>exact fun _=>rfl
  |succ m ih=>exact fun l=>by rw[kM,List.length_cons,ih]
 refine KX H vn l.length sg (by omega) hl vh _ (kM w l) (by rw[hA];omega) (fun rv vh2 n2 l2 c2 t B2 R2 g2 F2=>?_) w (by omega) l c .nils [] vh1 (vn+1) rfl (fun s h=>by have:=hs s h;omega) rfl B1 (.inl ⟨rfl,rfl⟩) (Nat.lt_succ_self _) fun d hd=>F1 d (by omega)
 conv=>whnf
 exact Get.mk _ (fun _ _ h=>h) ⟨rfl,⟨rv,B2,R2⟩,g2,by show vn<=n2;omega,F2⟩
theorem VZ(H:X u4=none)(vh:VH)(vn:Nat):
  aE Tryz.prog X G u4 [.sl 1 [[.int .i64 0],[.int .i64 0],[.int .i64 0],[.int .i64 0]] none] vh vn fun v vh' vn'=>vh'=vh/\vn'=vn/\v=.int .i64 0:=by
 apply aE8.run H
 conv=>whnf
 refine Get.mk (0,[.int .i64 0]) ⟨rfl,rfl⟩ ?_
 conv=>whnf
 refine aC.round ?_
 conv=>whnf
 refine Get.mk (1,[.int .i64 0]) ⟨rfl,rfl⟩ ?_
 conv=>whnf
 refine aC.round ?_
 conv=>whnf
 refine Get.mk (2,[.int .i64 0]) ⟨rfl,rfl⟩ ?_
 conv=>whnf
 refine aC.round ?_
 conv=>whnf
 refine Get.mk (3,[.int .i64 0]) ⟨rfl,rfl⟩ ?_
 conv=>whnf
 refine aC.round ?_
 conv=>whnf
 exact Get.mk _ (fun _ _ h=>h) ⟨rfl,rfl,rfl⟩
end
section
def gF(n:Nd):List V:=[.int .i64 n.k,.int .i64 0,.str n.p,.str n.l,.str n.u,.str [],.nils]
theorem vZ(n:Nd):(gF n).length=7:=rfl
theorem sL(s:List Nat):(bY s).length=1:=rfl
def qH(n:Nd):V:=.agg [.int .i64 n.k,.str n.p,.str n.l,.str n.u]
def xH(n a:Nd):Bool:=decide (n.k=a.k)&&(decide (n.p=a.p)&&(decide (n.l=a.l)&&decide (n.u=a.u)))
def iG:List Nd->Nat->List (V×V)
 |[],_=>[]
 |n::l,i=>(qH n,.ifc b9 (.int .i64 (i:Int)))::iG l (i+1)
def iZ(n:Nd):List Nd->Nat->Option Nat
 |[],_=>none
 |a::l,i=>if xH n a=true then some i else iZ n l (i+1)
theorem QI(n a:Nd):jO (qH n) (qH a)=xH n a:=by simp only[jO,qH,lC,eq1,xH,Bool.and_true]
theorem PK(n:Nd):∀(xs:List Nd) (i:Nat),lF (qH n) (iG xs i)=match iZ n xs i with|some j=>some (.ifc b9 (.int .i64 (j:Int)))|none=>none
 |[],_=>rfl
 |a::xs,i=>by
  simp only[iG,lF,QI,iZ];cases xH n a with
  |true=>rfl
  |false=>exact PK n xs (i+1)
theorem SN(n:Nd):∀(xs:List Nd) (i:Nat),iZ n xs i=none->jT (qH n) (.ifc b9 (.int .i64 ((i+xs.length:Nat):Int))) (iG xs i)=iG (xs++[n]) i
 |[],i,_=>rfl
 |a::xs,i,h=>by
  rw[iZ] at h;simp only[iG,jT,QI,List.cons_append];cases hs:xH n a with
  |true=>rw[hs,if_pos rfl] at h;cases h
  |false=>
   rw[hs,if_neg (by decide)] at h
   have:=SN n xs (i+1) h;rw[show i+1+xs.length=i+(a::xs).length by rw[List.length_cons];omega] at this
   rw[this];rfl
theorem sN:∀(xs:List Nd) (i:Nat),∀p∈iG xs i,cW [some .i64,none,none,none] true p.1=true
 |[],_,_,h=>by cases h
 |a::xs,i,p,h=>by
  rcases List.mem_cons.1 h with rfl|h
  ·rfl
  ·exact sN xs (i+1) p h
theorem QC(n:Nd):∀(xs:List Nd) (i j:Nat),iZ n xs i=some j->j<i+xs.length
 |a::xs,i,j,h=>by
  rw[iZ] at h;rw[List.length_cons];split at h
  ·cases h;omega
  ·have:=QC n xs (i+1) j h;omega
def iO(xs:List Nd)(n:Nd):List Nd×Nat:=match iZ n xs 0 with
 |some j=>(xs,j)
 |none=>(xs++[n],xs.length)
def cM:List Nd->List Nd->List Nd×List Nat
 |xs,[]=>(xs,[])
 |xs,n::l=>((cM (iO xs n).1 l).1,(iO xs n).2::(cM (iO xs n).1 l).2)
theorem TK(xs:List Nd)(n:Nd):(iO xs n).2<(iO xs n).1.length/\xs.length<=(iO xs n).1.length/\(iO xs n).1.length<=xs.length+1:=by
 unfold iO;cases h:iZ n xs 0 with
 |some j=>have:=QC n xs 0 j h;exact⟨by show j<xs.length;omega,Nat.le_refl _,Nat.le_succ _⟩
 |none=>simp
theorem GB:∀(l xs:List Nd),(cM xs l).2.length=l.length/\xs.length<=(cM xs l).1.length/\(cM xs l).1.length<=xs.length+l.length/\(∀k∈(cM xs l).2,k<(cM xs l).1.length)/\(0<l.length->0<(cM xs l).1.length)
 |[],xs=>⟨rfl,Nat.le_refl _,Nat.le_refl _,nofun,fun h=>absurd h (by simp)⟩
 |n::l,xs=>by
  obtain⟨q1,q2,q3⟩:=TK xs n;obtain⟨h1,h2,h3,h4,h5⟩:=GB l (iO xs n).1;simp only[cM,List.length_cons];refine⟨by omega,by omega,by omega,fun k hk=>?_,fun _=>by omega⟩
  rcases List.mem_cons.1 hk with rfl|hk
  ·omega
  ·exact h4 k hk
attribute [local irreducible] aM fQ hY
variable {X : Ovr} {G : Gt} {PN : List Nat → List Nat → Prop} {PV PT : List Nat → Prop}
theorem dN{α:Type}{enc:α->List V}{es:Nat}{ty:TypeId}{lo:Nat}{vh:VH}{nx:Nat}{v:V}{xs:List α}(A:aQ enc es ty lo vh nx v xs)(c:Nat)(h:aR v c):lo<=c/\c<nx:=by
 rcases A with⟨rfl|rfl,_⟩|⟨b,h1,h2,rfl,_⟩
 ·exact h.elim
 ·exact h.elim
 ·have:c=b:=h;omega
structure NS(lo bd bm:Nat)(vh0 vh:VH)(vn:Nat)(tv xv av nv:V)(xs:List Nd)(ks:List Nat)(ss aa:List (List Nat)):Prop where
 hd:vh bd=some (.cells [.nilp,.nilp,.nilp,nv,.nilp] jI 0 false)
 hm:vh bm=some (.map (iG xs 0))
 T:aQ bK 1 b9 lo vh vn tv ks
 S:aQ bY 1 iS lo vh vn xv ss
 A:aQ bY 1 iS lo vh vn av aa
 N:aQ gF 7 cS lo vh vn nv xs
 dTS:∀c,aR tv c->¬aR xv c
 dTA:∀c,aR tv c->¬aR av c
 dTN:∀c,aR tv c->¬aR nv c
 dSA:∀c,aR xv c->¬aR av c
 dSN:∀c,aR xv c->¬aR nv c
 dAN:∀c,aR av c->¬aR nv c
 hlo:lo<=vn
 hbd:bd<lo
 hbm:bm<lo
 ne:bd≠bm
 fr:∀c,c<lo->c≠bd->c≠bm->vh c=vh0 c
section
variable {lo bd bm : Nat} {vh0 vh vh' : VH} {vn vn' : Nat} {tv xv av nv : V} {xs : List Nd} {ks : List Nat} {ss aa : List (List Nat)}
theorem NS.mono(H:NS lo bd bm vh0 vh vn tv xv av nv xs ks ss aa)(hn:vn<=vn')(hf:∀c,c<vn->vh' c=vh c):NS lo bd bm vh0 vh' vn' tv xv av nv xs ks ss aa where
 hd:=(hf bd (by have:=H.hbd;have:=H.hlo;omega)).trans H.hd
 hm:=(hf bm (by have:=H.hbm;have:=H.hlo;omega)).trans H.hm
 T:=H.T.mono hn fun c _ h _=>hf c h
 S:=H.S.mono hn fun c _ h _=>hf c h
 A:=H.A.mono hn fun c _ h _=>hf c h
 N:=H.N.mono hn fun c _ h _=>hf c h
 dTS:=H.dTS
 dTA:=H.dTA
 dTN:=H.dTN
 dSA:=H.dSA
 dSN:=H.dSN
 dAN:=H.dAN
 hlo:=Nat.le_trans H.hlo hn
 hbd:=H.hbd
 hbm:=H.hbm
 ne:=H.ne
 fr c h1 h2 h3:=(hf c (by have:=H.hlo;omega)).trans (H.fr c h1 h2 h3)
theorem BE{α:Type}{enc:α->List V}{es:Nat}{ty:TypeId}{ys:List α}(hlo:lo<=vn)(h:vh' vn=some (.cells (ys.map enc).flatten ty 0 false)):aQ enc es ty lo vh' (vn+1) (.msl vn 0 ys.length es none) ys:=.inr ⟨vn,hlo,Nat.lt_succ_self _,rfl,h⟩
theorem NS.appT(H:NS lo bd bm vh0 vh vn tv xv av nv xs ks ss aa)(k:Nat)(h:vh' vn=some (.cells ((ks++[k]).map bK).flatten b9 0 false))(hf:∀c,c≠vn->¬aR tv c->vh' c=vh c):NS lo bd bm vh0 vh' (vn+1) (.msl vn 0 (ks++[k]).length 1 none) xv av nv xs (ks++[k]) ss aa where
 hd:=(hf bd (by have:=H.hbd;have:=H.hlo;omega) fun h=>by have:=dN H.T bd h;have:=H.hbd;omega).trans H.hd
 hm:=(hf bm (by have:=H.hbm;have:=H.hlo;omega) fun h=>by have:=dN H.T bm h;have:=H.hbm;omega).trans H.hm
 T:=BE H.hlo h
 S:=H.S.mono (Nat.le_succ _) fun c h1 h2 h3=>hf c (by omega) fun h=>H.dTS c h h3
 A:=H.A.mono (Nat.le_succ _) fun c h1 h2 h3=>hf c (by omega) fun h=>H.dTA c h h3
 N:=H.N.mono (Nat.le_succ _) fun c h1 h2 h3=>hf c (by omega) fun h=>H.dTN c h h3
 dTS c h1 h2:=by have:=dN H.S c h2;have:c=vn:=h1;omega
 dTA c h1 h2:=by have:=dN H.A c h2;have:c=vn:=h1;omega
 dTN c h1 h2:=by have:=dN H.N c h2;have:c=vn:=h1;omega
 dSA:=H.dSA
 dSN:=H.dSN
 dAN:=H.dAN
 hlo:=Nat.le_succ_of_le H.hlo
 hbd:=H.hbd
 hbm:=H.hbm
 ne:=H.ne
 fr c h1 h2 h3:=(hf c (by have:=H.hlo;omega) fun h=>by have:=dN H.T c h;omega).trans (H.fr c h1 h2 h3)
theorem NS.appS(H:NS lo bd bm vh0 vh vn tv xv av nv xs ks ss aa)(s:List Nat)(h:vh' vn=some (.cells ((ss++[s]).map bY).flatten iS 0 false))(hf:∀c,c≠vn->¬aR xv c->vh' c=vh c):NS lo bd bm vh0 vh' (vn+1) tv (.msl vn 0 (ss++[s]).length 1 none) av nv xs ks (ss++[s]) aa where
 hd:=(hf bd (by have:=H.hbd;have:=H.hlo;omega) fun h=>by have:=dN H.S bd h;have:=H.hbd;omega).trans H.hd
 hm:=(hf bm (by have:=H.hbm;have:=H.hlo;omega) fun h=>by have:=dN H.S bm h;have:=H.hbm;omega).trans H.hm
 T:=H.T.mono (Nat.le_succ _) fun c h1 h2 h3=>hf c (by omega) fun h=>H.dTS c h3 h
 S:=BE H.hlo h
 A:=H.A.mono (Nat.le_succ _) fun c h1 h2 h3=>hf c (by omega) fun h=>H.dSA c h h3
 N:=H.N.mono (Nat.le_succ _) fun c h1 h2 h3=>hf c (by omega) fun h=>H.dSN c h h3
 dTS c h1 h2:=by have:=dN H.T c h1;have:c=vn:=h2;omega
 dTA:=H.dTA
 dTN:=H.dTN
 dSA c h1 h2:=by have:=dN H.A c h2;have:c=vn:=h1;omega
 dSN c h1 h2:=by have:=dN H.N c h2;have:c=vn:=h1;omega
 dAN:=H.dAN
 hlo:=Nat.le_succ_of_le H.hlo
 hbd:=H.hbd
 hbm:=H.hbm
 ne:=H.ne
 fr c h1 h2 h3:=(hf c (by have:=H.hlo;omega) fun h=>by have:=dN H.S c h;omega).trans (H.fr c h1 h2 h3)
theorem NS.appA(H:NS lo bd bm vh0 vh vn tv xv av nv xs ks ss aa)(s:List Nat)(h:vh' vn=some (.cells ((aa++[s]).map bY).flatten iS 0 false))(hf:∀c,c≠vn->¬aR av c->vh' c=vh c):NS lo bd bm vh0 vh' (vn+1) tv xv (.msl vn 0 (aa++[s]).length 1 none) nv xs ks ss (aa++[s]) where
 hd:=(hf bd (by have:=H.hbd;have:=H.hlo;omega) fun h=>by have:=dN H.A bd h;have:=H.hbd;omega).trans H.hd
 hm:=(hf bm (by have:=H.hbm;have:=H.hlo;omega) fun h=>by have:=dN H.A bm h;have:=H.hbm;omega).trans H.hm
 T:=H.T.mono (Nat.le_succ _) fun c h1 h2 h3=>hf c (by omega) fun h=>H.dTA c h3 h
 S:=H.S.mono (Nat.le_succ _) fun c h1 h2 h3=>hf c (by omega) fun h=>H.dSA c h3 h
 A:=BE H.hlo h
 N:=H.N.mono (Nat.le_succ _) fun c h1 h2 h3=>hf c (by omega) fun h=>H.dAN c h h3
 dTS:=H.dTS
 dTA c h1 h2:=by have:=dN H.T c h1;have:c=vn:=h2;omega
 dTN:=H.dTN
 dSA c h1 h2:=by have:=dN H.S c h1;have:c=vn:=h2;omega
 dSN:=H.dSN
 dAN c h1 h2:=by have:=dN H.N c h2;have:c=vn:=h1;omega
 hlo:=Nat.le_succ_of_le H.hlo
 hbd:=H.hbd
 hbm:=H.hbm
 ne:=H.ne
 fr c h1 h2 h3:=(hf c (by have:=H.hlo;omega) fun h=>by have:=dN H.A c h;omega).trans (H.fr c h1 h2 h3)
theorem NS.appN(H:NS lo bd bm vh0 vh vn tv xv av nv xs ks ss aa)(n:Nd)(h:vh' vn=some (.cells ((xs++[n]).map gF).flatten cS 0 false))(hm:vh' bm=some (.map (iG (xs++[n]) 0)))(hd:vh' bd=some (.cells [.nilp,.nilp,.nilp,.msl vn 0 (xs++[n]).length 7 none,.nilp] jI 0 false))(hf:∀c,c≠vn->c≠bm->c≠bd->¬aR nv c->vh' c=vh c):NS lo bd bm vh0 vh' (vn+1) tv xv av (.msl vn 0 (xs++[n]).length 7 none) (xs++[n]) ks ss aa where
 hd:=hd
 hm:=hm
 T:=H.T.mono (Nat.le_succ _) fun c h1 h2 h3=>hf c (by omega) (by have:=H.hbm;omega) (by have:=H.hbd;omega) fun h=>H.dTN c h3 h
 S:=H.S.mono (Nat.le_succ _) fun c h1 h2 h3=>hf c (by omega) (by have:=H.hbm;omega) (by have:=H.hbd;omega) fun h=>H.dSN c h3 h
 A:=H.A.mono (Nat.le_succ _) fun c h1 h2 h3=>hf c (by omega) (by have:=H.hbm;omega) (by have:=H.hbd;omega) fun h=>H.dAN c h3 h
 N:=BE H.hlo h
 dTS:=H.dTS
 dTA:=H.dTA
 dTN c h1 h2:=by have:=dN H.T c h1;have:c=vn:=h2;omega
 dSA:=H.dSA
 dSN c h1 h2:=by have:=dN H.S c h1;have:c=vn:=h2;omega
 dAN c h1 h2:=by have:=dN H.A c h1;have:c=vn:=h2;omega
 hlo:=Nat.le_succ_of_le H.hlo
 hbd:=H.hbd
 hbm:=H.hbm
 ne:=H.ne
 fr c h1 h2 h3:=(hf c (by have:=H.hlo;omega) h3 h2 fun h=>by have:=dN H.N c h;omega).trans (H.fr c h1 h2 h3)
end
structure XNew(X:Ovr):Prop extends XWave X,XTM X where
 shape:X uC=none
 max4:X u4=none
 bnew:X xX=none
end
section
attribute [local irreducible] aM fQ hY cR
variable {X : Ovr} {G : Gt} {PN : List Nat → List Nat → Prop} {PV PT : List Nat → Prop}
def I4(tv xv av nv:V)(xs:List Nd)(ks:List Nat)(ss aa:List (List Nat)):Prop:=(tv=.nils/\xv=.nils/\av=.nils/\nv=.nils/\xs=[])\/∃bt bx ba bn,tv=.msl bt 0 ks.length 1 none/\xv=.msl bx 0 ss.length 1 none/\av=.msl ba 0 aa.length 1 none/\nv=.msl bn 0 xs.length 7 none
theorem CQ(H:XNew X)(t:List Nd)(c:Option Nat)(lo bd bm:Nat)(vh0:VH)(L i:Int)(n:Nd)(hs1:n.s.length<=1000)(hs2:∀a∈n.s,pH a)(k:Nat)(tv xv av nv:V)(xs:List Nd)(ks:List Nat)(ss aa:List (List Nat))(vh:VH)(vn:Nat)(Q:FQ)
  (S:NS lo bd bm vh0 vh vn tv xv av nv xs ks ss aa) (hF:(tv=.nils/\xv=.nils/\av=.nils)\/∃bt bx ba,tv=.msl bt 0 ks.length 1 none/\xv=.msl bx 0 ss.length 1 none/\av=.msl ba 0 aa.length 1 none)
  (hk:ks.length<=1000) (hss:ss.length<=1000) (haa:aa.length<=1000)
  (hQ:∀bt bx ba vh' vn',NS lo bd bm vh0 vh' vn' (.msl bt 0 (ks++[k]).length 1 none) (.msl bx 0 (ss++[n.v]).length 1 none) (.msl ba 0 (aa++[cR n.s]).length 1 none) nv xs (ks++[k]) (ss++[n.v]) (aa++[cR n.s])->Q .norm [(0,.sl 7 (t.map aO) c),(4,.ptr bd 0),(5,.map bm),(6,.msl bt 0 (ks++[k]).length 1 none),(7,.msl bx 0 (ss++[n.v]).length 1 none),(8,.msl ba 0 (aa++[cR n.s]).length 1 none),(22,.sl 7 (t.map aO) c),(23,.int .i64 L),(24,.int .i64 i)] vh' vn'):
  aC Tryz.prog X G (.cut LS) [(0,.sl 7 (t.map aO) c),(4,.ptr bd 0),(5,.map bm),(6,tv),(7,xv),(8,av),(10,.bx (aO n)),(12,.int .i64 (k:Int)),(22,.sl 7 (t.map aO) c),(23,.int .i64 L),(24,.int .i64 i)] vh vn Q:=by
 have room:∀(b n:Nat),b<=16->n<=1000->Go.VL.room b (n+1):=fun b n hb hn=>⟨by have:=Nat.mul_le_mul (show n+1<=1001 by omega) hb;omega,by show n+1<9223372036854775808;omega⟩
 refine aC.cut ?_;rcases hF with⟨rfl,rfl,rfl⟩|⟨bt,bx,ba,rfl,rfl,rfl⟩
 all_goals
  conv=>whnf
  refine aQ.app' (enc:=bK) gS (by decide) S.T S.hlo k (room 8 _ (by decide) hk) fun vh1 q1 f1=>?_
  have S1:=S.appT k q1 f1
  conv=>whnf
  refine aQ.app' (enc:=bY) sL (by decide) S1.S S1.hlo n.v (room 16 _ (by decide) hss) fun vh2 q2 f2=>?_
  have S2:=S1.appS n.v q2 f2
  conv=>whnf
  refine (WE H.toXPack n.s hs1 hs2 none _ _).mono fun v vh3 n3 he=>?_;obtain⟨e1,F3⟩:=he;rw[e1];have S3:=S2.mono F3.1 F3.2
  conv=>whnf
  refine aQ.app' (enc:=bY) sL (by decide) S3.A S3.hlo (cR n.s) (room 16 _ (by decide) haa) fun vh4 q4 f4=>?_
  have S4:=S3.appA (cR n.s) q4 f4
  conv=>whnf
  exact hQ _ _ _ _ _ S4
theorem JM(H:XNew X)(t:List Nd)(hl:t.length<=1000)(hs:∀n∈t,n.s.length<=1000/\∀a∈n.s,pH a)(c:Option Nat)(lo bd bm:Nat)(vh0:VH)(Q:FQ)
  (hQ:∀tv xv av nv vh' vn' i b,NS lo bd bm vh0 vh' vn' tv xv av nv (cM [] t).1 (cM [] t).2 (t.map fun n=>n.v) (t.map fun n=>cR n.s)->I4 tv xv av nv (cM [] t).1 (cM [] t).2 (t.map fun n=>n.v) (t.map fun n=>cR n.s)->Q (.exit 0) [(0,.sl 7 (t.map aO) c),(4,.ptr bd 0),(5,.map bm),(6,tv),(7,xv),(8,av),(22,.sl 7 (t.map aO) c),(23,.int .i64 (t.length:Int)),(24,.int .i64 i),(25,.bool b)] vh' vn'):
  ∀(m i:Nat),t.length-i=m->i<=t.length->∀(tv xv av nv:V) (xs:List Nd) (ks:List Nat) (vh:VH) (vn:Nat),xs.length<=i->ks.length=i->(cM xs (t.drop i)).1=(cM [] t).1->ks++(cM xs (t.drop i)).2=(cM [] t).2->NS lo bd bm vh0 vh vn tv xv av nv xs ks ((t.take i).map fun n=>n.v) ((t.take i).map fun n=>cR n.s)->I4 tv xv av nv xs ks ((t.take i).map fun n=>n.v) ((t.take i).map fun n=>cR n.s)->
  aC Tryz.prog X G (.loop EB) [(0,.sl 7 (t.map aO) c),(4,.ptr bd 0),(5,.map bm),(6,tv),(7,xv),(8,av),(22,.sl 7 (t.map aO) c),(23,.int .i64 (t.length:Int)),(24,.int .i64 (i:Int))] vh vn Q
 |m,i,hm,hi,tv,xv,av,nv,xs,ks,vh,vn,hxi,hki,h1,h2,S,F4=>by
  refine aC.round ?_;by_cases hlt:i<t.length
  ·have e:wr .i64 ((i:Int)+1)=((i+1:Nat):Int):=by rw[aF]<;>omega
   have hd:t.drop i=t[i]::t.drop (i+1):=(List.getElem_cons_drop hlt).symm;have htk:t.take (i+1)=t.take i++[t[i]]:=(List.take_append_getElem hlt).symm;obtain⟨hs1,hs2⟩:=hs _ (List.getElem_mem hlt);rw[hd,cM] at h1 h2;have nxt:=fun tv xv av nv xs ks vh vn=>JM H t hl hs c lo bd bm vh0 Q hQ (m-1) (i+1) (by omega) (by omega) tv xv av nv xs ks vh vn
   rw[htk,List.map_append,List.map_append,List.map_singleton,List.map_singleton] at nxt;have hls:((t.take i).map fun n=>n.v).length=i:=by rw[List.length_map,List.length_take];omega
   have hla:((t.take i).map fun n=>cR n.s).length=i:=by rw[List.length_map,List.length_take];omega
   generalize ((t.take i).map fun n=>n.v)=ss at S F4 nxt hls;generalize ((t.take i).map fun n=>cR n.s)=aa at S F4 nxt hla;have fi:=PK t[i] xs 0;have hst:=TK xs t[i];have room7:room 104 (xs.length+1):=⟨by omega,by show xs.length+1<9223372036854775808;omega⟩
   have fin:∀nv' xs' k,(iO xs t[i])=(xs',k)->∀bt bx ba vh' vn',NS lo bd bm vh0 vh' vn' (.msl bt 0 (ks++[k]).length 1 none) (.msl bx 0 (ss++[t[i].v]).length 1 none) (.msl ba 0 (aa++[cR t[i].s]).length 1 none) nv' xs' (ks++[k]) (ss++[t[i].v]) (aa++[cR t[i].s])->(∃bn,nv'=.msl bn 0 xs'.length 7 none)->aC Tryz.prog X G (.loop EB) [(0,.sl 7 (t.map aO) c),(4,.ptr bd 0),(5,.map bm),(6,.msl bt 0 (ks++[k]).length 1 none),(7,.msl bx 0 (ss++[t[i].v]).length 1 none),(8,.msl ba 0 (aa++[cR t[i].s]).length 1 none),(22,.sl 7 (t.map aO) c),(23,.int .i64 (t.length:Int)),(24,.int .i64 ((i+1:Nat):Int))] vh' vn' Q:=fun nv' xs' k he bt bx ba vh' vn' S' ⟨bn,hbn⟩=>by
    rw[he] at h1 h2 hst;have hst3:xs'.length<=xs.length+1:=hst.2.2;refine nxt _ _ _ nv' xs' (ks++[k]) vh' vn' (by omega) (by rw[List.length_append,List.length_singleton,hki]) h1 (by rw[List.append_assoc];exact h2) S' (.inr ⟨bt,bx,ba,bn,rfl,rfl,rfl,hbn⟩)
   have hnew:iZ t[i] xs 0=none->iO xs t[i]=(xs++[t[i]],xs.length):=fun h=>by unfold iO;rw[h]
   have hput:iZ t[i] xs 0=none->∀z:Int,z=(xs.length:Int)->jT (qH t[i]) (.ifc b9 (.int .i64 z)) (iG xs 0)=iG (xs++[t[i]]) 0:=fun h z hz=>by have:=SN t[i] xs 0 h;rw[Nat.zero_add] at this;rw[hz];exact this
   rcases id F4 with⟨rfl,rfl,rfl,rfl,hx0⟩|⟨bt,bx,ba,bn,rfl,rfl,rfl,rfl⟩
   ·have hix:iZ t[i] xs 0=none:=by rw[hx0];rfl
    have hx1:(0:Int)=(xs.length:Int):=by rw[hx0];rfl
    rw[hix] at fi
    conv=>whnf
    refine aB.mk (fun _=>?_) (fun h=>absurd (of_decide_eq_false h) (by omega))
    conv=>whnf
    refine Get.mk (i,aO t[i]) ⟨rfl,by simp[hlt]⟩ ?_
    conv=>whnf
    refine Get.mk _ S.hm ?_
    conv=>whnf
    refine⟨sN xs 0,?_⟩;refine Get.mk _ fi ?_
    conv=>whnf
    refine Get.mk (_,_,_,_) S.hd ?_
    conv=>whnf
    refine Get.mk _ rfl ?_
    conv=>whnf
    refine Get.mk _ S.hm ?_
    conv=>whnf
    refine⟨sN xs 0,?_⟩;generalize hv:aI vh bm _=vh1;have hm1:vh1 bm=some (.map (iG (xs++[t[i]]) 0)):=by rw[<-hv];exact aK.trans (congrArg (fun z=>some (VB.map z)) (hput hix 0 hx1))
    have F1:∀d,d≠bm->vh1 d=vh d:=fun d hd=>by rw[<-hv];exact aG hd
    clear hv;have hd1:=(F1 bd S.ne).trans S.hd;have N1:=S.N.mono (vh':=vh1) (Nat.le_refl _) fun d d1 d2 d3=>F1 d (by have:=S.hbm;omega)
    have q1:=S.hbd;have q2:=S.hbm;have q3:=S.hlo
    conv=>whnf
    refine Get.mk (_,_,_,_) hd1 ?_
    conv=>whnf
    refine Get.mk _ rfl ?_
    conv=>whnf
    refine aQ.app' (enc:=gF) vZ (by decide) N1 S.hlo t[i] room7 fun vh2 h2' f2=>?_
    have hd2:=(f2 bd (by omega) fun h=>by have:=dN S.N bd h;omega).trans hd1
    conv=>whnf
    refine Get.mk (_,_,_,_) hd2 ?_
    conv=>whnf
    refine⟨⟨(by decide:4<=5),Nat.zero_le _⟩,?_⟩
    conv=>whnf
    generalize hv:aI vh2 bd _=vh3;have S3:=S.appN (vh':=vh3) t[i] (by rw[<-hv];exact (aG (by omega)).trans h2') (by rw[<-hv];exact (aG (Ne.symm S.ne)).trans ((f2 bm (by omega) fun h=>by have:=dN S.N bm h;omega).trans hm1)) (by rw[<-hv];exact aK) (fun d d1 d2 d3 d4=>by rw[<-hv];exact (aG d3).trans ((f2 d d1 d4).trans (F1 d d2)))
    clear hv;rw[hx1];refine CQ H t c lo bd bm vh0 _ _ t[i] hs1 hs2 xs.length _ _ _ _ _ ks ss aa vh3 (vn+1) _ S3 (.inl ⟨rfl,rfl,rfl⟩) (by omega) (by omega) (by omega) fun bt' bx' ba' vh4 n4 S4=>?_
    conv=>whnf
    rw[e];exact fin _ _ _ (hnew hix) bt' bx' ba' vh4 n4 S4 ⟨_,rfl⟩
   ·cases hix:iZ t[i] xs 0 with
    |some j=>
     rw[hix] at fi;have hst':iO xs t[i]=(xs,j):=by unfold iO;rw[hix]
     conv=>whnf
     refine aB.mk (fun _=>?_) (fun h=>absurd (of_decide_eq_false h) (by omega))
     conv=>whnf
     refine Get.mk (i,aO t[i]) ⟨rfl,by simp[hlt]⟩ ?_
     conv=>whnf
     refine Get.mk _ S.hm ?_
     conv=>whnf
     refine⟨sN xs 0,?_⟩;refine Get.mk _ fi ?_
     conv=>whnf
     refine CQ H t c lo bd bm vh0 _ _ t[i] hs1 hs2 j _ _ _ _ _ ks ss aa vh vn _ S (.inr ⟨_,_,_,rfl,rfl,rfl⟩) (by omega) (by omega) (by omega) fun bt' bx' ba' vh4 n4 S4=>?_
     conv=>whnf
     rw[e];exact fin _ _ _ hst' bt' bx' ba' vh4 n4 S4 ⟨_,rfl⟩
    |none=>
     rw[hix] at fi
     conv=>whnf
     refine aB.mk (fun _=>?_) (fun h=>absurd (of_decide_eq_false h) (by omega))
     conv=>whnf
     refine Get.mk (i,aO t[i]) ⟨rfl,by simp[hlt]⟩ ?_
     conv=>whnf
     refine Get.mk _ S.hm ?_
     conv=>whnf
     refine⟨sN xs 0,?_⟩;refine Get.mk _ fi ?_
     conv=>whnf
     refine Get.mk (_,_,_,_) S.hd ?_
     conv=>whnf
     refine Get.mk _ rfl ?_
     conv=>whnf
     refine Get.mk _ S.hm ?_
     conv=>whnf
     refine⟨sN xs 0,?_⟩;generalize hv:aI vh bm _=vh1;have hm1:vh1 bm=some (.map (iG (xs++[t[i]]) 0)):=by rw[<-hv];exact aK.trans (congrArg (fun z=>some (VB.map z)) (hput hix (xs.length:Int) rfl))
     have F1:∀d,d≠bm->vh1 d=vh d:=fun d hd=>by rw[<-hv];exact aG hd
     clear hv;have hd1:=(F1 bd S.ne).trans S.hd;have N1:=S.N.mono (vh':=vh1) (Nat.le_refl _) fun d d1 d2 d3=>F1 d (by have:=S.hbm;omega)
     have q1:=S.hbd;have q2:=S.hbm;have q3:=S.hlo
     conv=>whnf
     refine Get.mk (_,_,_,_) hd1 ?_
     conv=>whnf
     refine Get.mk _ rfl ?_
     conv=>whnf
     refine aQ.app' (enc:=gF) vZ (by decide) N1 S.hlo t[i] room7 fun vh2 h2' f2=>?_
     have hd2:=(f2 bd (by omega) fun h=>by have:=dN S.N bd h;omega).trans hd1
     conv=>whnf
     refine Get.mk (_,_,_,_) hd2 ?_
     conv=>whnf
     refine⟨⟨(by decide:4<=5),Nat.zero_le _⟩,?_⟩
     conv=>whnf
     generalize hv:aI vh2 bd _=vh3;have S3:=S.appN (vh':=vh3) t[i] (by rw[<-hv];exact (aG (by omega)).trans h2') (by rw[<-hv];exact (aG (Ne.symm S.ne)).trans ((f2 bm (by omega) fun h=>by have:=dN S.N bm h;omega).trans hm1)) (by rw[<-hv];exact aK) (fun d d1 d2 d3 d4=>by rw[<-hv];exact (aG d3).trans ((f2 d d1 d4).trans (F1 d d2)))
     clear hv;refine CQ H t c lo bd bm vh0 _ _ t[i] hs1 hs2 xs.length _ _ _ _ _ ks ss aa vh3 (vn+1) _ S3 (.inr ⟨_,_,_,rfl,rfl,rfl⟩) (by omega) (by omega) (by omega) fun bt' bx' ba' vh4 n4 S4=>?_
     conv=>whnf
     rw[e];exact fin _ _ _ (hnew hix) bt' bx' ba' vh4 n4 S4 ⟨_,rfl⟩
  ·have hlt:i=t.length:=by omega
   subst hlt;rw[List.drop_length] at h1 h2;have e1:xs=(cM [] t).1:=h1;have e2:ks=(cM [] t).2:=by rw[<-h2];exact (List.append_nil ks).symm
   rw[List.take_length,e1,e2] at S F4;rcases id F4 with⟨rfl,rfl,rfl,rfl,hx0⟩|⟨bt,bx,ba,bn,rfl,rfl,rfl,rfl⟩
   all_goals
    conv=>whnf
    refine aB.mk (fun h=>absurd (of_decide_eq_true h) (by omega)) (fun _=>?_)
    conv=>whnf
    exact hQ _ _ _ _ vh vn _ _ S F4
termination_by m=>m
decreasing_by all_goals omega
end
end Go.Proofs.YtjoadepfokpcoaaGreatDoor
open Go Go.Ev Go.VL Go.Num
