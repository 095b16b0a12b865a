/- Part 3 of the proof: the engine, codes, walks and plain laws, each named where it stands. -/
import Derived.Test.YtajdffbgjodbfaaGreatZB
import Derived.Test.YtajdffbgjodbfaaGreatProg
open Nat (reduceEqDiff reduceAdd reduceLeDiff reduceLT)
set_option linter.unusedVariables false
set_option linter.unusedSimpArgs false
set_option maxRecDepth 4000
namespace Go.AE.Y
open Go.Proofs.Tryz
def Q1k : List Item := cJ 5 .eql 4 0 :: []
def Q1l : List Item := .e none none (.sto 1 (.t 2) (.t 7)) :: []
def Qasp : SC := (.cond (.t 5) (.seq (.reg ( mJ 6 0 :: aJ 7 Q6o [.t 6] :: Q1l) [2]) .ret) .skip)
def Q1m : List Item := .e none none (.sto 1 (.t 2) (.t 9)) :: []
def Qasq : SC := (.seq (.reg ( mJ 8 0 :: aJ 9 Qx0 [.t 8] :: Q1m) [2]) .ret)
def Qasr : SC := (.seq (.seq (.reg ( mJ 3 0 :: aJ 4 Ql [.t 3, kI 12] :: Q1k) [0, 2, 5]) Qasp) Qasq)
def Qa34 : SC := (.seq (.reg ( eI 2 (.alloc [.sl true 3 []]) :: []) [0, 2]) Qasr)
def Q7l : List RS := [.cell 2 1 true]
theorem Qa23 : mFn prog Qxz 1 10 Qa34 Q7l = true := by kernel_rfl
def Qafm : SC := (.cond (.t 24) (.seq (.reg ( fI 4 (.mv (kI 0)) :: []) [4]) .ret) .skip)
def Qafn : SC := (.cond (.t 36) (.seq (.reg ( mJ 37 0 :: kJ 38 37 :: fJ 39 0 38 :: lJ 40 39 :: mJ 41 5 :: iJ 42 1 40 41 :: lJ 43 42 :: fI 44 (.cvt .i64 (.t 43)) :: mJ 45 1 :: bJ 46 .rem 44 45 :: mJ 4 46 :: []) [4]) .ret) .skip)
def Qafo : SC := (.seq (.reg ( mJ 96 6 :: mJ 97 1 :: bJ 98 .rem 96 97 :: mJ 4 98 :: []) [4]) .ret)
def Qafp : SC := (.seq (.reg ( mJ 92 6 :: mJ 93 6 :: cJ 94 .quo 93 64 :: bJ 95 .xor 92 94 :: mJ 6 95 :: []) [1, 6]) Qafo)
def Qafq : SC := (.seq (.dreg 46 [0, 1, 2, 3, 4, 5, 6, 7, 8, 9, 10, 11, 12, 13, 14, 15, 16, 17, 18, 19, 20, 21, 22, 23, 24, 25, 26, 27, 28, 29, 30, 31, 32, 33, 34, 35, 36, 37, 38, 39, 40, 41, 42, 43, 44, 45] ( mJ 47 0 :: kJ 48 47 :: fJ 49 0 48 :: lJ 50 49 :: mJ 51 5 :: mJ 52 0 :: kJ 53 52 :: fJ 54 0 53 :: lJ 55 54 :: nJ 56 55 :: bJ 57 .rem 51 56 :: iJ 58 1 50 57 :: lJ 59 58 :: fI 60 (.cvt .i64 (.t 59)) :: cJ 61 .mul 60 131 :: mJ 62 0 :: kJ 63 62 :: fJ 64 0 63 :: lJ 65 64 :: mJ 66 5 :: cJ 67 .mul 66 7 :: cJ 68 .add 67 3 :: mJ 69 0 :: kJ 70 69 :: fJ 71 0 70 :: lJ 72 71 :: nJ 73 72 :: bJ 74 .rem 68 73 :: iJ 75 1 65 74 :: lJ 76 75 :: fI 77 (.cvt .i64 (.t 76)) :: cJ 78 .mul 77 1117 :: bJ 79 .add 61 78 :: mJ 80 5 :: cJ 81 .mul 80 29 :: bJ 82 .add 79 81 :: mJ 83 5 :: mJ 84 0 :: kJ 85 84 :: fJ 86 0 85 :: lJ 87 86 :: nJ 88 87 :: bJ 89 .quo 83 88 :: cJ 90 .mul 89 53 :: bJ 91 .add 82 90 :: mJ 6 91 :: []) [1, 6]) Qafp)
def Qafr : SC := (.seq (.seq (.reg ( mJ 30 5 :: mJ 31 0 :: kJ 32 31 :: fJ 33 0 32 :: lJ 34 33 :: nJ 35 34 :: bJ 36 .lss 30 35 :: []) [0, 1, 5, 36]) Qafn) Qafq)
def Qafs : SC := (.seq (.reg ( mJ 25 0 :: kJ 26 25 :: fJ 27 1 26 :: lJ 28 27 :: cJ 29 .sub 28 1 :: mJ 5 29 :: []) [0, 1, 5]) Qafr)
def Qaft : SC := (.seq (.seq (.reg ( mJ 15 1 :: cJ 16 .lss 15 1 :: mJ 17 16 :: gFm 18 17 0 :: gF 19 17 (.nck (.t 18)) :: gFf 20 17 0 19 :: gFl 21 17 20 :: gF 22 17 (.len (.t 21)) :: gF 23 17 (.bin 0 .eql (.t 22) (kI 0)) :: fI 24 (.pick (.t 17) (.k (.c (.bool true))) (.t 23)) :: []) [0, 1, 24]) Qafm) Qafs)
def Qafu : SC := (.seq (.reg ( mJ 7 0 :: mJ 8 0 :: kJ 9 8 :: fJ 10 1 9 :: lJ 11 10 :: cJ 12 .add 11 1 :: kJ 13 7 :: fJ 14 1 13 :: .e none none (.sto 1 (.t 14) (.t 12)) :: []) [0, 1]) Qaft)
def Qaoy : SC := (.seq (.reg ( fI 4 (.mv (kI 0)) :: []) [0, 1]) Qafu)
def Qg9 : List RS := [.tmp 4]
theorem Qam0 : mFn prog Ql 2 99 Qaoy Qg9 = true := by kernel_rfl
def Qaad : List Item := .e none none (.sto 1 (.t 3) (.t 9)) :: []
def Qaae : List Item := eI 3 (.alloc [.sl true 3 []]) :: Qaad
def Qaaf : List Item := aJ 9 Qkr [.t 8] :: Qaae
def Qaag : List Item := .chk 11 none (.ld 1 false (.t 10)) :: iJ 17 3 11 16 :: mJ 4 17 :: []
def Qaah : List Item := .chk 21 none (.ld 1 false (.t 20)) :: iJ 29 5 21 28 :: mJ 5 29 :: []
def Qaai : List Item := mJ 6 41 :: []
def Qaaj : List Item := kJ 49 46 :: fJ 50 2 49 :: .e none none (.sto 1 (.t 50) (.t 48)) :: []
def Qa0m : SC := (.cond (.t 58) (.reg ( mJ 59 5 :: kJ 60 59 :: fJ 61 4 60 :: lJ 62 61 :: mJ 63 6 :: fI 64 (.iad 1 (.t 62) (kI 0)) :: .e none none (.sto 1 (.t 64) (.t 63)) :: []) [2, 3]) .skip)
def Qa0n : SC := (.cond (.t 78) (.reg ( mJ 79 5 :: kJ 80 79 :: fJ 81 1 80 :: lJ 82 81 :: mJ 83 6 :: fI 84 (.iad 4 (.t 82) (kI 0)) :: fJ 85 1 84 :: .e none none (.sto 1 (.t 85) (.t 83)) :: []) [2, 3]) .skip)
def Qaak : List Item := .chk 97 none (.ld 1 false (.t 96)) :: fI 108 (.iad 4 (.t 97) (kI 0)) :: fJ 109 2 108 :: .e none none (.sto 1 (.t 109) (.t 107)) :: []
def Qauy : SC := (.cond (.t 93) (.dreg 17 [0, 1, 2, 3, 4, 5, 6, 7, 8, 9, 10, 11, 12, 13, 3, 14, 15, 16] ( mJ 94 5 :: kJ 95 94 :: fJ 96 1 95 :: lJ 97 96 :: mJ 98 5 :: kJ 99 98 :: fJ 100 1 99 :: lJ 101 100 :: fI 102 (.iad 4 (.t 101) (kI 0)) :: fJ 103 2 102 :: lJ 104 103 :: mJ 105 6 :: fI 106 (.bsl 1 [.t 105]) :: eI 107 (.app 1 (.t 104) (.t 106)) :: Qaak) [2, 3]) .skip)
def Q2k : List Item := kJ 122 112 :: fJ 123 0 122 :: .e none none (.sto 1 (.t 123) (.t 121)) :: []
def Q2l : List Item := .chk 130 none (.ld 1 false (.t 129)) :: bJ 133 .add 130 132 :: kJ 134 126 :: fJ 135 1 134 :: .e none none (.sto 1 (.t 135) (.t 133)) :: []
def Q2m : List Item := .chk 147 none (.ld 1 false (.t 146)) :: fI 151 (.iad 4 (.t 147) (kI 0)) :: fJ 152 3 151 :: .e none none (.sto 1 (.t 152) (.t 150)) :: []
def Qauz : SC := (.cond (.t 143) (.dreg 10 [0, 1, 2, 3, 4, 5, 6, 3, 7, 8, 9] ( mJ 144 5 :: kJ 145 144 :: fJ 146 1 145 :: lJ 147 146 :: mJ 148 0 :: fI 149 (.bsl 1 [kI 256, kI (-1), kI 1]) :: aJ 150 Q5 [.t 148, .t 149] :: Q2m) [2, 3]) .skip)
def Qau0 : SC := (.cond (.t 136) (.seq (.reg ( mJ 138 5 :: kJ 139 138 :: fJ 140 1 139 :: lJ 141 140 :: nJ 142 141 :: cJ 143 .gtr 142 0 :: []) [0, 2, 3, 5, 143]) Qauz) .skip)
def Qau1 : SC := (.cond (.t 124) (.dreg 11 [0, 1, 2, 3, 4, 5, 6, 4, 7, 8, 9, 10] ( mJ 126 4 :: mJ 127 4 :: kJ 128 127 :: fJ 129 0 128 :: lJ 130 129 :: mJ 131 0 :: aJ 132 Ql [.t 131, kI 2] :: Q2l) [2, 3]) (.seq (.reg ( cJ 137 .eql 43 7 :: mJ 136 137 :: []) [0, 2, 3, 5, 136]) Qau0))
def Qau2 : SC := (.cond (.t 110) (.reg ( mJ 112 5 :: mJ 113 5 :: kJ 114 113 :: fJ 115 0 114 :: lJ 116 115 :: mJ 117 6 :: fI 118 (.bsl 1 [.t 117]) :: fI 119 (.bld [.int .i64 0, .sl true 1 []] [(0, 1, kI 0), (1, 1, .t 118)]) :: fI 120 (.bsl 2 [.t 119]) :: eI 121 (.app 2 (.t 116) (.t 120)) :: Q2k) [2, 3]) (.seq (.reg ( cJ 125 .eql 43 6 :: mJ 124 125 :: []) [0, 2, 3, 4, 5, 43, 124]) Qau1))
def Qau3 : SC := (.cond (.t 86) (.seq (.reg ( mJ 88 5 :: kJ 89 88 :: fJ 90 1 89 :: lJ 91 90 :: nJ 92 91 :: cJ 93 .gtr 92 0 :: []) [2, 3, 5, 6, 93]) Qauy) (.seq (.reg ( cJ 111 .eql 43 5 :: mJ 110 111 :: []) [0, 2, 3, 4, 5, 6, 43, 110]) Qau2))
def Qau4 : SC := (.cond (.t 71) (.seq (.reg ( mJ 73 5 :: kJ 74 73 :: fJ 75 1 74 :: lJ 76 75 :: nJ 77 76 :: cJ 78 .gtr 77 0 :: []) [2, 3, 5, 6, 78]) Qa0n) (.seq (.reg ( cJ 87 .eql 43 4 :: mJ 86 87 :: []) [0, 2, 3, 4, 5, 6, 43, 86]) Qau3))
def Qau5 : SC := (.cond (.t 65) (.reg ( mJ 67 5 :: mJ 68 6 :: kJ 69 67 :: fJ 70 3 69 :: .e none none (.sto 1 (.t 70) (.t 68)) :: []) [2, 3]) (.seq (.reg ( cJ 72 .eql 43 3 :: mJ 71 72 :: []) [0, 2, 3, 4, 5, 6, 43, 71]) Qau4))
def Qau6 : SC := (.cond (.t 51) (.seq (.reg ( mJ 53 5 :: kJ 54 53 :: fJ 55 4 54 :: lJ 56 55 :: nJ 57 56 :: cJ 58 .gtr 57 0 :: []) [2, 3, 5, 6, 58]) Qa0m) (.seq (.reg ( cJ 66 .eql 43 2 :: mJ 65 66 :: []) [0, 2, 3, 4, 5, 6, 43, 65]) Qau5))
def Qau7 : SC := (.cond (.t 44) (.reg ( mJ 46 5 :: mJ 47 0 :: aJ 48 Ql [.t 47, kI 5] :: Qaaj) [2, 3]) (.seq (.reg ( cJ 52 .eql 43 1 :: mJ 51 52 :: []) [0, 2, 3, 4, 5, 6, 43, 51]) Qau6))
def Qau8 : SC := (.block 0 (.seq (.reg ( cJ 45 .eql 43 0 :: mJ 44 45 :: []) [0, 2, 3, 4, 5, 6, 43, 44]) Qau7))
def Qau9 : SC := (.seq (.reg ( tJ 153 1 3 :: .e none none (.sto 1 (.t 2) (.t 153)) :: []) [2]) .ret)
def Qava : SC := (.seq (.seq (.reg ( mJ 42 0 :: aJ 43 Ql [.t 42, kI 32] :: []) [0, 2, 3, 4, 5, 6, 43]) Qau8) Qau9)
def Qavb : SC := (.seq (.dreg 13 [0, 1, 2, 3, 4, 5, 6, 7, 8, 9, 10, 11, 12] ( mJ 30 0 :: mJ 31 4 :: kJ 32 31 :: fJ 33 1 32 :: lJ 34 33 :: mJ 35 4 :: kJ 36 35 :: fJ 37 2 36 :: lJ 38 37 :: nJ 39 38 :: fI 40 (.bsl 1 [kI (-1), .t 34, .t 39, kI 0, kI 1]) :: aJ 41 Q5 [.t 30, .t 40] :: Qaai) [0, 2, 3, 4, 5, 6]) Qava)
def Qavc : SC := (.seq (.dreg 13 [0, 1, 2, 3, 4, 5, 6, 7, 8, 9, 10, 3, 11, 12] ( mJ 18 4 :: kJ 19 18 :: fJ 20 2 19 :: lJ 21 20 :: mJ 22 0 :: mJ 23 4 :: kJ 24 23 :: fJ 25 2 24 :: lJ 26 25 :: nJ 27 26 :: aJ 28 Ql [.t 22, .t 27] :: Qaah) [0, 2, 3, 4, 5]) Qavb)
def Qavd : SC := (.seq (.dreg 9 [0, 1, 2, 3, 4, 5, 6, 1, 7, 8] ( fJ 10 0 3 :: lJ 11 10 :: mJ 12 0 :: fJ 13 0 3 :: lJ 14 13 :: nJ 15 14 :: aJ 16 Ql [.t 12, .t 15] :: Qaag) [0, 2, 3, 4]) Qavc)
def Qave : SC := (.seq (.reg ( mJ 7 0 :: aJ 8 Quq [.t 7] :: Qaaf) [0, 2, 3]) Qavd)
def Qa75 : SC := (.seq (.reg ( eI 2 (.alloc [.sl true 3 []]) :: []) [0, 2]) Qave)
def Qax4 : List RS := [.cell 2 1 true]
theorem Qa7a : mFn prog Q6o 1 154 Qa75 Qax4 = true := by kernel_rfl
def Q1n : List Item := cJ 6 .eql 5 0 :: []
def Q1o : List Item := .e none none (.sto 1 (.t 3) (.t 9)) :: []
def Q1p : List Item := eI 3 (.alloc [.sl true 3 []]) :: Q1o
def Q1q : List Item := aJ 9 Q6t [.t 8] :: Q1p
def Qass : SC := (.cond (.t 11) (.seq (.reg ( tJ 12 1 3 :: .e none none (.sto 1 (.t 2) (.t 12)) :: []) [2]) .ret) .skip)
def Qast : SC := (.seq (.reg ( tJ 10 1 3 :: aJ 11 Qcd [.t 10] :: []) [0, 2, 3, 11]) Qass)
def Qasu : SC := (.cond (.t 6) (.seq (.reg ( mJ 7 0 :: aJ 8 Q6m [.t 7] :: Q1q) [0, 2, 3]) Qast) .skip)
def Q1r : List Item := .e none none (.sto 1 (.t 2) (.t 14)) :: []
def Q8m : SC := (.seq (.reg ( mJ 13 0 :: aJ 14 Quq [.t 13] :: Q1r) [2]) .ret)
def Qasv : SC := (.seq (.seq (.reg ( mJ 4 0 :: aJ 5 Ql [.t 4, kI 2] :: Q1n) [0, 2, 6]) Qasu) Q8m)
def Qa35 : SC := (.seq (.reg ( eI 2 (.alloc [.sl true 3 []]) :: []) [0, 2]) Qasv)
def Qu4 : List RS := [.cell 2 1 true]
theorem Qa24 : mFn prog Qx0 1 15 Qa35 Qu4 = true := by kernel_rfl
def Qsr : List Item := iJ 10 1 5 9 :: lJ 11 10 :: mJ 4 11 :: []
def Qak0 : SC := (.seq (.reg ( mJ 5 1 :: mJ 6 0 :: mJ 7 1 :: nJ 8 7 :: aJ 9 Ql [.t 6, .t 8] :: Qsr) [4]) .ret)
def Qat3 : SC := (.seq (.reg ( fI 4 (.mv (kI 0)) :: []) [0, 1]) Qak0)
def Q7p : List RS := [.tmp 4]
theorem Qarv : mFn prog Q5 2 12 Qat3 Q7p = true := by kernel_rfl
def Qqb : List Item := .e none none (.sto 1 (.t 3) (.t 5)) :: []
def Qqc : List Item := fJ 23 0 3 :: .e none none (.sto 1 (.t 23) (.t 22)) :: []
def Qqd : List Item := .chk 14 none (.ld 1 false (.t 13)) :: fI 21 (.bsl 3 [.t 20]) :: eI 22 (.app 3 (.t 14) (.t 21)) :: Qqc
def Qaf0 : SC := (.reg ( mJ 11 4 :: cJ 12 .add 11 1 :: mJ 4 12 :: []) [1, 2, 3, 4])
def Qaf1 : SC := (.seq (.block 1 (.dreg 12 [0, 1, 2, 3, 4, 5, 6, 7, 1, 8, 9, 10, 11] ( fJ 13 0 3 :: lJ 14 13 :: fJ 15 0 1 :: lJ 16 15 :: mJ 17 4 :: iJ 18 3 16 17 :: tJ 19 3 18 :: aJ 20 Q6q [.t 19] :: Qqd) [1, 2, 3, 4])) Qaf0)
def Qaaw : SC := (.seq (.seq (.reg ( mJ 6 4 :: fJ 7 0 1 :: lJ 8 7 :: nJ 9 8 :: bJ 10 .lss 6 9 :: []) [1, 2, 3, 4, 10]) (.cond (.t 10) .skip (.exit 0))) Qaf1)
def Qaf2 : SC := (.seq (.reg ( tJ 24 1 3 :: .e none none (.sto 1 (.t 2) (.t 24)) :: []) [2]) .ret)
def Qaf3 : SC := (.seq (.seq (.reg ( fI 4 (.mv (kI 0)) :: []) [1, 2, 3, 4]) (.block 0 (.loop Qaaw))) Qaf2)
def Qaf4 : SC := (.seq (.reg ( fI 5 (.bld [.sl true 3 []] []) :: eI 3 (.alloc [.sl true 3 []]) :: Qqb) [1, 2, 3]) Qaf3)
def Qapq : SC := (.seq (.reg ( fI 1 (.box (.t 0)) :: eI 2 (.alloc [.sl true 3 []]) :: []) [1, 2]) Qaf4)
def Q1d : List RS := [.cell 2 1 true]
theorem Qam5 : mFn prog Qkr 1 25 Qapq Q1d = true := by kernel_rfl
def Qabd : List Item := .e none none (.sto 1 (.t 3) (.t 9)) :: []
def Qabe : List Item := mJ 4 12 :: []
def Qabf : List Item := fJ 24 0 3 :: .e none none (.sto 1 (.t 24) (.t 23)) :: []
def Qabg : List Item := .chk 18 none (.ld 1 false (.t 17)) :: fI 22 (.bsl 3 [.t 21]) :: eI 23 (.app 3 (.t 18) (.t 22)) :: Qabf
def Qa07 : SC := (.reg ( mJ 15 4 :: cJ 16 .sub 15 1 :: mJ 4 16 :: []) [0, 2, 3, 4])
def Qa08 : SC := (.seq (.block 1 (.dreg 9 [0, 1, 2, 3, 4, 1, 5, 6, 7, 8] ( fJ 17 0 3 :: lJ 18 17 :: mJ 19 0 :: tJ 20 1 3 :: aJ 21 Q6p [.t 19, .t 20] :: Qabg) [0, 2, 3, 4])) Qa07)
def Qawv : SC := (.seq (.seq (.reg ( mJ 13 4 :: cJ 14 .gtr 13 0 :: []) [0, 2, 3, 4, 14]) (.cond (.t 14) .skip (.exit 0))) Qa08)
def Qabh : List Item := mJ 5 27 :: []
def Qabi : List Item := .chk 33 none (.ld 1 false (.t 32)) :: iJ 39 3 33 38 :: mJ 6 39 :: []
def Qabj : List Item := mJ 7 46 :: []
def Q27 : List Item := .e none none (.sto 2 (.t 8) (.t 53)) :: []
def Q28 : List Item := fI 53 (.bld [.int .i64 0, .sl true 1 []] [(0, 1, .t 52)]) :: eI 8 (.alloc [.int .i64 0, .sl true 1 []]) :: Q27
def Q29 : List Item := nJ 59 58 :: fI 60 (.mv (kI 0)) :: []
def Q3a : List Item := fJ 72 1 8 :: .e none none (.sto 1 (.t 72) (.t 71)) :: []
def Q3b : List Item := .chk 63 none (.ld 1 false (.t 62)) :: fI 70 (.bsl 1 [.t 69]) :: eI 71 (.app 1 (.t 63) (.t 70)) :: Q3a
def Qawi : SC := (.reg ( cJ 73 .add 60 1 :: mJ 60 73 :: []) [0, 2, 3, 5, 6, 7, 8, 59, 60])
def Qawj : SC := (.seq (.block 5 (.dreg 12 [0, 1, 2, 3, 4, 5, 6, 7, 1, 8, 9, 10, 11] ( fJ 62 1 8 :: lJ 63 62 :: mJ 64 0 :: mJ 65 6 :: kJ 66 65 :: fJ 67 1 66 :: lJ 68 67 :: aJ 69 Ql [.t 64, .t 68] :: Q3b) [0, 2, 3, 5, 6, 7, 8, 59, 60])) Qawi)
def Qapx : SC := (.seq (.reg ( bJ 61 .lss 60 59 :: []) [0, 2, 3, 5, 6, 7, 8, 59, 60, 61]) (.seq (.cond (.t 61) .skip (.exit 4)) Qawj))
def Q3c : List Item := .chk 79 none (.ld 1 false (.t 78)) :: iJ 92 5 79 80 :: fJ 93 0 92 :: .e none none (.sto 1 (.t 93) (.t 91)) :: []
def Qawk : SC := (.cond (.t 75) (.dreg 19 [0, 1, 2, 3, 4, 5, 6, 7, 8, 9, 10, 11, 12, 13, 14, 15, 3, 16, 17, 18] ( mJ 76 6 :: kJ 77 76 :: fJ 78 2 77 :: lJ 79 78 :: mJ 80 7 :: mJ 81 6 :: kJ 82 81 :: fJ 83 2 82 :: lJ 84 83 :: mJ 85 7 :: iJ 86 5 84 85 :: fJ 87 0 86 :: lJ 88 87 :: tJ 89 2 8 :: fI 90 (.bsl 2 [.t 89]) :: eI 91 (.app 2 (.t 88) (.t 90)) :: Q3c) [0, 2, 3, 5]) .skip)
def Qawl : SC := (.seq (.reg ( mJ 74 7 :: cJ 75 .gtr 74 0 :: []) [0, 2, 3, 5, 6, 7, 8, 75]) Qawk)
def Qawm : SC := (.seq (.seq (.reg ( mJ 54 6 :: kJ 55 54 :: tJ 56 3 55 :: mJ 57 7 :: aJ 58 Qi8 [.t 56, .t 57] :: Q29) [0, 2, 3, 5, 6, 7, 8, 59, 60]) (.block 4 (.loop Qapx))) Qawl)
def Qawn : SC := (.seq (.reg ( mJ 47 0 :: mJ 48 6 :: kJ 49 48 :: fJ 50 1 49 :: lJ 51 50 :: aJ 52 Ql [.t 47, .t 51] :: Q28) [0, 2, 3, 5, 6, 7, 8]) Qawm)
def Qawo : SC := (.seq (.reg ( mJ 40 0 :: mJ 41 6 :: kJ 42 41 :: fJ 43 2 42 :: lJ 44 43 :: nJ 45 44 :: aJ 46 Ql [.t 40, .t 45] :: Qabj) [0, 2, 3, 5, 6, 7]) Qawn)
def Qawp : SC := (.reg ( mJ 30 5 :: cJ 31 .sub 30 1 :: mJ 5 31 :: []) [0, 2, 3, 5])
def Qawq : SC := (.seq (.block 3 (.seq (.dreg 9 [0, 1, 2, 3, 4, 5, 6, 1, 7, 8] ( fJ 32 0 3 :: lJ 33 32 :: mJ 34 0 :: fJ 35 0 3 :: lJ 36 35 :: nJ 37 36 :: aJ 38 Ql [.t 34, .t 37] :: Qabi) [0, 2, 3, 5, 6]) Qawo)) Qawp)
def Qapy : SC := (.seq (.seq (.reg ( mJ 28 5 :: cJ 29 .gtr 28 0 :: []) [0, 2, 3, 5, 29]) (.cond (.t 29) .skip (.exit 2))) Qawq)
def Qawr : SC := (.seq (.reg ( tJ 94 1 3 :: .e none none (.sto 1 (.t 2) (.t 94)) :: []) [2]) .ret)
def Qaws : SC := (.seq (.seq (.reg ( mJ 25 0 :: fI 26 (.bsl 1 [kI 0, kI 0, kI 1, kI 3]) :: aJ 27 Q5 [.t 25, .t 26] :: Qabh) [0, 2, 3, 5]) (.block 2 (.loop Qapy))) Qawr)
def Qawt : SC := (.seq (.seq (.reg ( mJ 10 0 :: fI 11 (.bsl 1 [kI 1, kI 2, kI 1, kI 3]) :: aJ 12 Q5 [.t 10, .t 11] :: Qabe) [0, 2, 3, 4]) (.block 0 (.loop Qawv))) Qaws)
def Qawu : SC := (.seq (.reg ( fI 9 (.bld [.sl true 3 []] []) :: eI 3 (.alloc [.sl true 3 []]) :: Qabd) [0, 2, 3]) Qawt)
def Qa8b : SC := (.seq (.reg ( eI 2 (.alloc [.sl true 3 []]) :: []) [0, 2]) Qawu)
def Qax8 : List RS := [.cell 2 1 true]
theorem Qa7f : mFn prog Quq 1 95 Qa8b Qax8 = true := by kernel_rfl
def Qka : List Item := oJ 11 10 :: []
def Q5n : SC := (.cond (.t 11) (.seq (.reg ( fI 2 (.mv (.k (.c (.bool false)))) :: []) [2]) .ret) .skip)
def Qkb : List Item := .e none none (.sto 3 (.t 5) (.t 23)) :: []
def Qck : List Item := gF 41 36 (.not (.t 40)) :: fI 42 (.pick (.t 36) (.k (.c (.bool true))) (.t 41)) :: []
def Qd8 : List Item := gF 34 28 (.not (.t 33)) :: fI 35 (.pick (.t 28) (.k (.c (.bool true))) (.t 34)) :: mJ 36 35 :: gFf 37 36 2 5 :: gFl 38 36 37 :: gF 39 36 (.len (.t 38)) :: .e (some 40) (some (36, false)) (.call Qbj [.t 39, kI 1, kI 160]) :: Qck
def Qkc : List Item := oJ 27 26 :: mJ 28 27 :: gFf 29 28 1 5 :: gFl 30 28 29 :: gFf 31 28 0 5 :: gFl 32 28 31 :: .e (some 33) (some (28, false)) (.call Qbj [.t 30, .t 32, kI 300]) :: Qd8
def s_sp_UnitValid_6 : SC := (.cond (.t 42) (.seq (.reg ( fI 2 (.mv (.k (.c (.bool false)))) :: []) [2]) .ret) .skip)
def Qd9 : List Item := gF 74 69 (.not (.t 73)) :: fI 75 (.pick (.t 69) (.k (.c (.bool true))) (.t 74)) :: []
def Qng : SC := (.cond (.t 75) (.seq (.reg ( fI 2 (.mv (.k (.c (.bool false)))) :: []) [2]) .ret) .skip)
def Q5o : SC := (.seq (.reg ( mJ 67 3 :: cJ 68 .gtr 67 800 :: mJ 69 68 :: gF 70 69 (.ld 1 true (.t 1)) :: gFm 71 69 4 :: gFm 72 69 6 :: .e (some 73) (some (69, false)) (.call Qx5 [.t 70, .t 71, .t 72]) :: Qd9) [1, 3, 4, 5, 6, 75]) Qng)
def Qj8 : SC := (.reg ( mJ 48 6 :: cJ 49 .add 48 1 :: mJ 6 49 :: []) [1, 3, 4, 5, 6])
def Q0n : SC := (.seq (.block 3 (.seq (.dreg 18 [0, 1, 2, 3, 4, 5, 6, 7, 8, 9, 10, 11, 12, 13, 14, 15, 16, 17] ( mJ 50 3 :: fJ 51 2 5 :: lJ 52 51 :: mJ 53 6 :: iJ 54 5 52 53 :: fJ 55 1 54 :: lJ 56 55 :: nJ 57 56 :: bJ 58 .add 50 57 :: fJ 59 2 5 :: lJ 60 59 :: mJ 61 6 :: iJ 62 5 60 61 :: fJ 63 0 62 :: lJ 64 63 :: nJ 65 64 :: bJ 66 .add 58 65 :: mJ 3 66 :: []) [1, 3, 4, 5, 6]) Q5o)) Qj8)
def Qxm : SC := (.seq (.seq (.reg ( mJ 43 6 :: fJ 44 2 5 :: lJ 45 44 :: nJ 46 45 :: bJ 47 .lss 43 46 :: []) [1, 3, 4, 5, 6, 47]) (.cond (.t 47) .skip (.exit 2))) Q0n)
def Qj9 : SC := (.seq (.reg ( fI 6 (.mv (kI 0)) :: []) [1, 3, 4, 5, 6]) (.block 2 (.loop Qxm)))
def Q0o : SC := (.seq (.seq (.reg ( fJ 24 0 5 :: lJ 25 24 :: aJ 26 Qbj [.t 25, kI 0, kI 3] :: Qkc) [1, 3, 4, 5, 42]) s_sp_UnitValid_6) Qj9)
def Qd6 : SC := (.reg ( mJ 17 4 :: cJ 18 .add 17 1 :: mJ 4 18 :: []) [1, 3, 4])
def Q0p : SC := (.seq (.block 1 (.seq (.reg ( fJ 19 0 1 :: lJ 20 19 :: mJ 21 4 :: iJ 22 3 20 21 :: tJ 23 3 22 :: eI 5 (.alloc [.int .i64 0, .int .i64 0, .sl true 5 []]) :: Qkb) [1, 3, 4, 5]) Q0o)) Qd6)
def Qxn : SC := (.seq (.seq (.reg ( mJ 12 4 :: fJ 13 0 1 :: lJ 14 13 :: nJ 15 14 :: bJ 16 .lss 12 15 :: []) [1, 3, 4, 16]) (.cond (.t 16) .skip (.exit 0))) Q0p)
def Qd7 : SC := (.seq (.reg ( fI 2 (.mv (.k (.c (.bool true)))) :: []) [2]) .ret)
def Q0q : SC := (.seq (.seq (.reg ( fI 4 (.mv (kI 0)) :: []) [1, 3, 4]) (.block 0 (.loop Qxn))) Qd7)
def Q0r : SC := (.seq (.reg ( fI 3 (.mv (kI 0)) :: []) [1, 3]) Q0q)
def Q0s : SC := (.seq (.seq (.reg ( fJ 7 0 1 :: lJ 8 7 :: nJ 9 8 :: aJ 10 Qbj [.t 9, kI 1, kI 4] :: Qka) [1, 11]) Q5n) Q0r)
def Qahd : SC := (.seq (.reg ( fI 1 (.box (.t 0)) :: fI 2 (.mv (.k (.c (.bool false)))) :: []) [1]) Q0s)
def Qct : List RS := [.tmp 2]
theorem Qadz : mFn prog Qcd 1 76 Qahd Qct = true := by kernel_rfl
def Qacr : List Item := .e none none (.sto 1 (.t 3) (.t 5)) :: []
def Qacs : List Item := fJ 20 0 3 :: .e none none (.sto 1 (.t 20) (.t 19)) :: []
def Qact : List Item := .chk 14 none (.ld 1 false (.t 13)) :: fI 18 (.bsl 3 [.t 17]) :: eI 19 (.app 3 (.t 14) (.t 18)) :: Qacs
def Qa1e : SC := (.reg ( mJ 11 4 :: cJ 12 .add 11 1 :: mJ 4 12 :: []) [1, 2, 3, 4])
def Qa1f : SC := (.seq (.block 1 (.dreg 9 [0, 1, 2, 3, 4, 1, 5, 6, 7, 8] ( fJ 13 0 3 :: lJ 14 13 :: tJ 15 1 1 :: mJ 16 4 :: aJ 17 Qarf [.t 15, .t 16] :: Qact) [1, 2, 3, 4])) Qa1e)
def Qaw0 : SC := (.seq (.seq (.reg ( mJ 6 4 :: fJ 7 0 1 :: lJ 8 7 :: nJ 9 8 :: bJ 10 .lss 6 9 :: []) [1, 2, 3, 4, 10]) (.cond (.t 10) .skip (.exit 0))) Qa1f)
def Qa1g : SC := (.seq (.reg ( tJ 21 1 3 :: .e none none (.sto 1 (.t 2) (.t 21)) :: []) [2]) .ret)
def Qa1h : SC := (.seq (.seq (.reg ( fI 4 (.mv (kI 0)) :: []) [1, 2, 3, 4]) (.block 0 (.loop Qaw0))) Qa1g)
def Qa1i : SC := (.seq (.reg ( fI 5 (.bld [.sl true 3 []] []) :: eI 3 (.alloc [.sl true 3 []]) :: Qacr) [1, 2, 3]) Qa1h)
def Qa8g : SC := (.seq (.reg ( fI 1 (.box (.t 0)) :: eI 2 (.alloc [.sl true 3 []]) :: []) [1, 2]) Qa1i)
def Qaya : List RS := [.cell 2 1 true]
theorem Qa7h : mFn prog Q6t 1 22 Qa8g Qaya = true := by kernel_rfl
def Q92 : List Item := mJ 3 13 :: []
def Q93 : List Item := fI 12 (.bld [.pnil, .sl true 3 [], .sl true 1 [], .int .i64 0, .int .i64 0] [(0, 1, .t 8), (4, 1, .t 11)]) :: eI 13 (.boxm (.t 12)) :: Q92
def Q94 : List Item := mJ 4 16 :: []
def Q95 : List Item := .chk 26 none (.ld 1 false (.t 25)) :: .chk 27 none (.len (.t 26)) :: .chk 28 none (.iad 1 (.t 22) (.t 27)) :: .chk 29 none (.ld 1 false (.t 28)) :: .e none none (.sto 3 (.t 5) (.t 32)) :: []
def Q96 : List Item := eI 5 (.alloc [.str [], .sl true 1 [], .sl true 5 []]) :: Q95
def Q97 : List Item := .chk 26 none (.ld 1 false (.t 25)) :: .chk 27 none (.len (.t 26)) :: .chk 28 none (.iad 1 (.t 22) (.t 27)) :: .chk 29 none (.ld 1 false (.t 28)) :: aJ 32 Qko [.t 21, .t 29, .t 31] :: Q96
def Q98 : List Item := kJ 41 33 :: fJ 42 1 41 :: .e none none (.sto 1 (.t 42) (.t 40)) :: []
def Qa0a : SC := (.dreg 11 [0, 1, 2, 3, 4, 5, 6, 7, 8, 9, 10] ( mJ 33 3 :: mJ 34 3 :: kJ 35 34 :: fJ 36 1 35 :: lJ 37 36 :: tJ 38 3 5 :: fI 39 (.bsl 3 [.t 38]) :: eI 40 (.app 3 (.t 37) (.t 39)) :: Q98) [0, 2, 3, 4])
def Qa0b : SC := (.reg ( mJ 19 4 :: cJ 20 .sub 19 1 :: mJ 4 20 :: []) [0, 2, 3, 4])
def Qa0c : SC := (.seq (.block 1 (.seq (.dreg 12 [0, 1, 2, 3, 4, 5, 6, 7, 8, 9, 10, 5, 6, 7, 8, 11, 12, 5, 6, 7, 8, 13] ( mJ 21 3 :: fI 22 (.bsl 1 [.k (.c (.str [102])), .k (.c (.str [103])), .k (.c (.str [104]))]) :: mJ 23 3 :: kJ 24 23 :: fJ 25 1 24 :: lJ 26 25 :: nJ 27 26 :: iJ 28 1 22 27 :: lJ 29 28 :: mJ 30 0 :: aJ 31 Ql [.t 30, kI 3] :: Q97) [0, 2, 3, 4, 5]) Qa0a)) Qa0b)
def Qao8 : SC := (.seq (.seq (.reg ( mJ 17 4 :: cJ 18 .gtr 17 0 :: []) [0, 2, 3, 4, 18]) (.cond (.t 18) .skip (.exit 0))) Qa0c)
def Q2b : List Item := .e none none (.sto 3 (.t 6) (.t 47)) :: []
def Q2c : List Item := eI 6 (.alloc [.str [], .sl true 1 [], .sl true 5 []]) :: Q2b
def Q2d : List Item := eI 47 (.call Qko [.t 43, .k (.c (.str [109])), .t 46]) :: Q2c
def Q2e : List Item := .chk 52 none (.ld 1 false (.t 51)) :: .chk 54 none (.ld 3 true (.t 6)) :: .e none none (.sto 1 (.t 7) (.t 57)) :: []
def Q2f : List Item := fI 57 (.bld [.sl true 3 []] [(0, 1, .t 56)]) :: eI 7 (.alloc [.sl true 3 []]) :: Q2e
def Q2g : List Item := .chk 54 none (.ld 3 true (.t 6)) :: eI 56 (.app 3 (.t 53) (.t 55)) :: Q2f
def Q2h : List Item := oJ 60 59 :: []
def Qaua : SC := (.cond (.t 60) (.seq (.reg ( fI 61 (.bld [.int .i64 0, .int .i64 0, .str [], .sl true 4 []] [(0, 1, kI 1), (1, 1, kI 1)]) :: fI 62 (.bsl 4 [.t 61]) :: fI 63 (.bld [.int .i64 0, .str [], .sl true 4 [], .sl true 5 [], .sl true 5 []] [(0, 1, kI 3), (2, 1, .t 62)]) :: fI 64 (.bsl 5 [.t 63]) :: fI 65 (.bld [.str [], .sl true 1 [], .sl true 5 []] [(0, 1, .k (.c (.str [109]))), (2, 1, .t 64)]) :: fI 66 (.bsl 3 [.t 65]) :: fI 67 (.bld [.sl true 3 []] [(0, 1, .t 66)]) :: .e none none (.sto 1 (.t 2) (.t 67)) :: []) [2]) .ret) .skip)
def Qaub : SC := (.seq (.reg ( tJ 68 1 7 :: .e none none (.sto 1 (.t 2) (.t 68)) :: []) [2]) .ret)
def Qauc : SC := (.seq (.seq (.seq .gh (.reg ( tJ 58 1 7 :: aJ 59 Qdi [.t 58] :: Q2h) [2, 7, 60])) Qaua) Qaub)
def Qaud : SC := (.seq (.dreg 10 [0, 1, 2, 3, 4, 6, 7, 5, 6, 8, 9, 10, 4, 6, 11] ( fI 48 (.bsl 3 []) :: mJ 49 3 :: kJ 50 49 :: fJ 51 1 50 :: lJ 52 51 :: tJ 54 3 6 :: fI 55 (.bsl 3 [.t 54]) :: eI 53 (.app 3 (.t 48) (.t 52)) :: Q2g) [2, 7]) Qauc)
def Qaue : SC := (.seq (.reg ( mJ 43 3 :: mJ 44 0 :: fI 45 (.bsl 1 [kI 0, kI 1, kI 2, kI 1]) :: aJ 46 Q5 [.t 44, .t 45] :: Q2d) [2, 3, 6]) Qaud)
def Qauf : SC := (.seq (.seq (.reg ( mJ 14 0 :: fI 15 (.bsl 1 [kI 0, kI 1, kI 1, kI 2]) :: aJ 16 Q5 [.t 14, .t 15] :: Q94) [0, 2, 3, 4]) (.block 0 (.loop Qao8))) Qaue)
def Qaug : SC := (.seq (.reg ( mJ 8 0 :: mJ 9 0 :: fI 10 (.bsl 1 [kI 14, kI 20, kI 8, kI 26]) :: aJ 11 Q5 [.t 9, .t 10] :: Q93) [0, 2, 3]) Qauf)
def Qa72 : SC := (.seq (.reg ( eI 2 (.alloc [.sl true 3 []]) :: []) [0, 2]) Qaug)
def Qajx : List RS := [.cell 2 1 true]
theorem Qa67 : mFn prog Q6m 1 69 Qa72 Qajx = true := by kernel_rfl
def Qaax : List Item := .e none none (.sto 3 (.t 3) (.t 9)) :: []
def Qaay : List Item := fJ 27 2 3 :: .e none none (.sto 1 (.t 27) (.t 26)) :: []
def Qaaz : List Item := .chk 18 none (.ld 1 false (.t 17)) :: fI 25 (.bsl 5 [.t 24]) :: eI 26 (.app 5 (.t 18) (.t 25)) :: Qaay
def Qa0q : SC := (.reg ( mJ 15 4 :: cJ 16 .add 15 1 :: mJ 4 16 :: []) [1, 2, 3, 4])
def Qa0r : SC := (.seq (.block 1 (.dreg 12 [0, 1, 2, 3, 4, 5, 6, 7, 1, 8, 9, 10, 11] ( fJ 17 2 3 :: lJ 18 17 :: fJ 19 2 1 :: lJ 20 19 :: mJ 21 4 :: iJ 22 5 20 21 :: tJ 23 5 22 :: aJ 24 Qh9 [.t 23] :: Qaaz) [1, 2, 3, 4])) Qa0q)
def Qav1 : SC := (.seq (.seq (.reg ( mJ 10 4 :: fJ 11 2 1 :: lJ 12 11 :: nJ 13 12 :: bJ 14 .lss 10 13 :: []) [1, 2, 3, 4, 14]) (.cond (.t 14) .skip (.exit 0))) Qa0r)
def Qa0s : SC := (.seq (.reg ( tJ 28 3 3 :: .e none none (.sto 3 (.t 2) (.t 28)) :: []) [2]) .ret)
def Qa0t : SC := (.seq (.seq (.reg ( fI 4 (.mv (kI 0)) :: []) [1, 2, 3, 4]) (.block 0 (.loop Qav1))) Qa0s)
def Qa0u : SC := (.seq (.reg ( fJ 5 0 1 :: lJ 6 5 :: fJ 7 1 1 :: lJ 8 7 :: fI 9 (.bld [.int .i64 0, .int .i64 0, .sl true 5 []] [(0, 1, .t 6), (1, 1, .t 8)]) :: eI 3 (.alloc [.int .i64 0, .int .i64 0, .sl true 5 []]) :: Qaax) [1, 2, 3]) Qa0t)
def Qa77 : SC := (.seq (.reg ( fI 1 (.box (.t 0)) :: eI 2 (.alloc [.int .i64 0, .int .i64 0, .sl true 5 []]) :: []) [1, 2]) Qa0u)
def Qax6 : List RS := [.cell 2 3 true]
theorem Qa7c : mFn prog Q6q 1 29 Qa77 Qax6 = true := by kernel_rfl
def Q22 : List Item := mJ 5 41 :: []
def Qav3 : SC := (.cond (.t 37) (.seq (.reg ( mJ 38 5 :: mJ 39 6 :: fI 40 (.bsl 1 [.t 39]) :: eI 41 (.app 1 (.t 38) (.t 40)) :: Q22) [1, 2, 5, 6]) (.exit 2)) .skip)
def Qav4 : SC := (.reg ( mJ 25 7 :: cJ 26 .add 25 1 :: mJ 7 26 :: []) [1, 2, 5, 6, 7])
def Qav5 : SC := (.seq (.block 3 (.seq (.reg ( fJ 27 2 2 :: lJ 28 27 :: mJ 29 6 :: iJ 30 5 28 29 :: fJ 31 4 30 :: lJ 32 31 :: mJ 33 7 :: iJ 34 1 32 33 :: lJ 35 34 :: mJ 36 1 :: bJ 37 .eql 35 36 :: []) [1, 2, 5, 6, 7, 37]) Qav3)) Qav4)
def Qaps : SC := (.seq (.seq (.reg ( mJ 16 7 :: fJ 17 2 2 :: lJ 18 17 :: mJ 19 6 :: iJ 20 5 18 19 :: fJ 21 4 20 :: lJ 22 21 :: nJ 23 22 :: bJ 24 .lss 16 23 :: []) [1, 2, 5, 6, 7, 24]) (.cond (.t 24) .skip (.exit 2))) Qav5)
def Qaa1 : SC := (.reg ( mJ 14 6 :: cJ 15 .add 14 1 :: mJ 6 15 :: []) [1, 2, 5, 6])
def Qav6 : SC := (.seq (.block 1 (.seq (.reg ( fI 7 (.mv (kI 0)) :: []) [1, 2, 5, 6, 7]) (.block 2 (.loop Qaps)))) Qaa1)
def Qapt : SC := (.seq (.seq (.reg ( mJ 9 6 :: fJ 10 2 2 :: lJ 11 10 :: nJ 12 11 :: bJ 13 .lss 9 12 :: []) [1, 2, 5, 6, 13]) (.cond (.t 13) .skip (.exit 0))) Qav6)
def Qaa2 : SC := (.seq (.reg ( mJ 42 5 :: mJ 4 42 :: []) [4]) .ret)
def Qav7 : SC := (.seq (.seq (.reg ( fI 6 (.mv (kI 0)) :: []) [1, 2, 5, 6]) (.block 0 (.loop Qapt))) Qaa2)
def Qapr : SC := (.seq (.reg ( fI 8 (.bsl 1 []) :: mJ 5 8 :: []) [1, 2, 5]) Qav7)
def Qa41 : SC := (.seq (.reg ( fI 2 (.box (.t 0)) :: fI 4 (.mv (.k (.c (.sl true 1 [])))) :: []) [1, 2]) Qapr)
def Q7u : List RS := [.tmp 4]
theorem Qa3i : mFn prog Qi8 2 43 Qa41 Q7u = true := by kernel_rfl
def Qaam : List Item := .e none none (.sto 3 (.t 5) (.t 13)) :: []
def Qaan : List Item := fI 13 (.bld [.int .i64 0, .int .i64 0, .sl true 5 []] [(0, 1, .t 12)]) :: eI 5 (.alloc [.int .i64 0, .int .i64 0, .sl true 5 []]) :: Qaam
def Qaao : List Item := .chk 15 none (.ld 1 false (.t 14)) :: bJ 19 .add 16 18 :: fJ 20 1 5 :: .e none none (.sto 1 (.t 20) (.t 19)) :: []
def Qaap : List Item := mJ 6 23 :: []
def Qaaq : List Item := .e none none (.sto 5 (.t 8) (.t 29)) :: []
def Qaar : List Item := mJ 9 32 :: []
def Qaas : List Item := fJ 46 1 8 :: .e none none (.sto 1 (.t 46) (.t 45)) :: []
def Qaat : List Item := .chk 38 none (.ld 1 false (.t 37)) :: fI 44 (.bsl 4 [.t 43]) :: eI 45 (.app 4 (.t 38) (.t 44)) :: Qaas
def Qa0o : SC := (.reg ( mJ 35 9 :: cJ 36 .sub 35 1 :: mJ 9 36 :: []) [0, 3, 4, 5, 6, 7, 8, 9])
def Qa0p : SC := (.seq (.block 3 (.dreg 11 [0, 1, 2, 3, 4, 5, 6, 1, 7, 8, 9, 10] ( fJ 37 1 8 :: lJ 38 37 :: mJ 39 0 :: tJ 40 1 3 :: fJ 41 1 5 :: lJ 42 41 :: aJ 43 Q6r [.t 39, .t 40, .t 42] :: Qaat) [0, 3, 4, 5, 6, 7, 8, 9])) Qa0o)
def Qapo : SC := (.seq (.seq (.reg ( mJ 33 9 :: cJ 34 .gtr 33 0 :: []) [0, 3, 4, 5, 6, 7, 8, 9, 34]) (.cond (.t 34) .skip (.exit 2))) Qa0p)
def Q2v : List Item := fJ 51 3 8 :: .e none none (.sto 1 (.t 51) (.t 50)) :: []
def Q2w : List Item := fJ 55 2 8 :: .e none none (.sto 1 (.t 55) (.t 54)) :: []
def Qhl : List Item := gT 66 63 (.bin 0 .gtr (.t 65) (kI 0)) :: gF 67 58 (.pick (.t 63) (.t 66) (.k (.c (.bool false)))) :: fI 68 (.pick (.t 58) (.k (.c (.bool true))) (.t 67)) :: []
def Qaal : SC := (.cond (.t 68) (.reg ( fJ 69 2 8 :: .e none none (.sto 1 (.t 69) (kI 3)) :: []) [0, 3, 4, 5, 6, 7, 8]) .skip)
def Q2x : List Item := fI 79 (.bsl 1 [.t 78]) :: fJ 80 4 8 :: .e none none (.sto 1 (.t 80) (.t 79)) :: []
def Qavk : SC := (.reg ( mJ 75 0 :: mJ 76 7 :: mJ 77 6 :: aJ 78 Q6s [.t 75, .t 76, .t 77] :: Q2x) [0, 3, 4, 5, 6, 7, 8])
def Q2y : List Item := fI 91 (.bsl 1 [.t 86, .t 90]) :: fJ 92 4 8 :: .e none none (.sto 1 (.t 92) (.t 91)) :: []
def Q2z : List Item := mJ 87 0 :: mJ 88 7 :: mJ 89 6 :: aJ 90 Q6s [.t 87, .t 88, .t 89] :: Q2y
def Qavl : SC := (.cond (.t 81) (.reg ( mJ 83 0 :: mJ 84 7 :: mJ 85 6 :: aJ 86 Q6s [.t 83, .t 84, .t 85] :: Q2z) [0, 3, 4, 5, 6, 7, 8]) .skip)
def Qavm : SC := (.cond (.t 72) (.seq (.reg ( fJ 74 3 8 :: .e none none (.sto 1 (.t 74) (kI 0)) :: []) [0, 3, 4, 5, 6, 7, 8]) Qavk) (.seq (.reg ( cJ 82 .eql 71 2 :: mJ 81 82 :: []) [0, 3, 4, 5, 6, 7, 8, 81]) Qavl))
def Qavn : SC := (.block 4 (.seq (.reg ( cJ 73 .eql 71 1 :: mJ 72 73 :: []) [0, 3, 4, 5, 6, 7, 8, 71, 72]) Qavm))
def Q20 : List Item := fJ 98 2 5 :: .e none none (.sto 1 (.t 98) (.t 97)) :: []
def Qavo : SC := (.reg ( fJ 93 2 5 :: lJ 94 93 :: tJ 95 5 8 :: fI 96 (.bsl 5 [.t 95]) :: eI 97 (.app 5 (.t 94) (.t 96)) :: Q20) [0, 3, 4, 5, 6, 7])
def Qavp : SC := (.seq (.seq (.reg ( fJ 70 2 8 :: lJ 71 70 :: []) [0, 3, 4, 5, 6, 7, 8, 71]) Qavn) Qavo)
def Qavq : SC := (.seq (.seq (.reg ( mJ 56 6 :: cJ 57 .eql 56 1 :: mJ 58 57 :: gFm 59 58 7 :: gFm 60 58 6 :: gF 61 58 (.bin 0 .sub (.t 60) (kI 1)) :: gF 62 58 (.bin 0 .eql (.t 59) (.t 61)) :: gFm 63 58 62 :: gTm 64 63 0 :: .e (some 65) (some (63, true)) (.call Ql [.t 64, kI 3]) :: Qhl) [0, 3, 4, 5, 6, 7, 8, 68]) Qaal) Qavp)
def Qavr : SC := (.seq (.reg ( mJ 52 0 :: fI 53 (.bsl 1 [kI 2, kI 1, kI 2, kI 1, kI 3]) :: aJ 54 Q5 [.t 52, .t 53] :: Q2w) [0, 3, 4, 5, 6, 7, 8]) Qavq)
def Qavs : SC := (.seq (.reg ( mJ 47 0 :: fJ 48 1 5 :: lJ 49 48 :: aJ 50 Ql [.t 47, .t 49] :: Q2v) [0, 3, 4, 5, 6, 7, 8]) Qavr)
def Qavt : SC := (.seq (.seq (.reg ( mJ 30 0 :: fI 31 (.bsl 1 [kI 1, kI 2, kI 0, kI 3, kI 4]) :: aJ 32 Q5 [.t 30, .t 31] :: Qaar) [0, 3, 4, 5, 6, 7, 8, 9]) (.block 2 (.loop Qapo))) Qavs)
def Qavu : SC := (.reg ( mJ 27 7 :: cJ 28 .add 27 1 :: mJ 7 28 :: []) [0, 3, 4, 5, 6, 7])
def Qavv : SC := (.seq (.block 1 (.seq (.reg ( fI 29 (.bld [.sl true 2 [], .sl true 4 [], .int .i64 0, .int .i64 0, .sl true 1 []] []) :: eI 8 (.alloc [.sl true 2 [], .sl true 4 [], .int .i64 0, .int .i64 0, .sl true 1 []]) :: Qaaq) [0, 3, 4, 5, 6, 7, 8]) Qavt)) Qavu)
def Qapp : SC := (.seq (.seq (.reg ( mJ 24 7 :: mJ 25 6 :: bJ 26 .lss 24 25 :: []) [0, 3, 4, 5, 6, 7, 26]) (.cond (.t 26) .skip (.exit 0))) Qavv)
def Qavw : SC := (.seq (.reg ( tJ 99 3 5 :: .e none none (.sto 3 (.t 4) (.t 99)) :: []) [4]) .ret)
def Qavx : SC := (.seq (.seq (.reg ( fI 7 (.mv (kI 0)) :: []) [0, 3, 4, 5, 6, 7]) (.block 0 (.loop Qapp))) Qavw)
def Qavy : SC := (.seq (.reg ( mJ 21 0 :: fI 22 (.bsl 1 [kI 3, kI 5, kI 2, kI 1, kI 7, kI 4]) :: aJ 23 Q5 [.t 21, .t 22] :: Qaap) [0, 3, 4, 5, 6]) Qavx)
def Qavz : SC := (.seq (.dreg 8 [0, 1, 2, 3, 4, 1, 5, 6, 7] ( fJ 14 0 5 :: lJ 15 14 :: cJ 16 .add 15 2 :: mJ 17 0 :: aJ 18 Ql [.t 17, kI 5] :: Qaao) [0, 3, 4, 5]) Qavy)
def Qav0 : SC := (.seq (.reg ( mJ 10 0 :: fI 11 (.bsl 1 [kI 1, kI 0, kI 2, kI 3]) :: aJ 12 Q5 [.t 10, .t 11] :: Qaan) [0, 3, 4, 5]) Qavz)
def Qa76 : SC := (.seq (.reg ( fI 3 (.box (.t 1)) :: eI 4 (.alloc [.int .i64 0, .int .i64 0, .sl true 5 []]) :: []) [0, 3, 4]) Qav0)
def Qax5 : List RS := [.cell 4 3 true]
theorem Qa7b : mFn prog Q6p 2 100 Qa76 Qax5 = true := by kernel_rfl
def Qa7r : SC := (.seq (.reg ( mJ 7 0 :: mJ 8 1 :: bJ 9 .geq 7 8 :: mJ 10 9 :: gTm 11 10 0 :: gTm 12 10 2 :: gT 13 10 (.bin 0 .leq (.t 11) (.t 12)) :: fI 14 (.pick (.t 10) (.t 13) (.k (.c (.bool false)))) :: mJ 6 14 :: []) [6]) .ret)
def Qbb8 : SC := (.seq (.reg ( fI 6 (.mv (.k (.c (.bool false)))) :: []) [0, 1, 2]) Qa7r)
def Qa81 : List RS := [.tmp 6]
theorem Qbb1 : mFn prog Qbj 3 15 Qbb8 Qa81 = true := by kernel_rfl
def Q2s : List Item := .e none none (.sto 3 (.t 7) (.t 18)) :: []
def Q2t : List Item := .e none none (.sto 5 (.t 8) (.t 23)) :: []
def Qavf : SC := (.cond (.t 30) (.seq (.reg ( fI 6 (.mv (.k (.c (.bool false)))) :: []) [6]) .ret) .skip)
def Qavg : SC := (.cond (.t 33) (.reg ( fI 9 (.mv (kI 0)) :: []) [1, 2, 3, 7, 8, 9]) (.seq (.reg ( fI 6 (.mv (.k (.c (.bool false)))) :: []) [6]) .ret))
def Qavh : SC := (.cond (.t 31) (.reg ( fI 9 (.mv (kI 2)) :: []) [1, 2, 3, 7, 8, 9]) (.seq (.reg ( cJ 34 .eql 25 3 :: mJ 33 34 :: []) [1, 2, 3, 7, 8, 33]) Qavg))
def Qavi : SC := (.cond (.t 26) (.seq (.reg ( fJ 28 3 8 :: lJ 29 28 :: cJ 30 .neq 29 0 :: []) [1, 2, 3, 7, 8, 9, 30]) Qavf) (.seq (.reg ( cJ 32 .eql 25 2 :: mJ 31 32 :: []) [1, 2, 3, 7, 8, 25, 31]) Qavh))
def Qavj : SC := (.block 0 (.seq (.reg ( cJ 27 .eql 25 1 :: mJ 26 27 :: []) [1, 2, 3, 7, 8, 9, 25, 26]) Qavi))
def Qhk : List Item := gT 51 44 (.not (.t 50)) :: gF 52 40 (.pick (.t 44) (.t 51) (.k (.c (.bool false)))) :: fI 53 (.pick (.t 40) (.k (.c (.bool true))) (.t 52)) :: []
def s_l7Block_8 : SC := (.cond (.t 53) (.seq (.reg ( fI 6 (.mv (.k (.c (.bool false)))) :: []) [6]) .ret) .skip)
def Q2u : List Item := oJ 71 70 :: []
def Qapa : SC := (.cond (.t 71) (.seq (.reg ( fI 6 (.mv (.k (.c (.bool false)))) :: []) [6]) .ret) .skip)
def Qapb : SC := (.reg ( mJ 59 10 :: cJ 60 .add 59 1 :: mJ 10 60 :: []) [1, 2, 3, 7, 8, 10])
def Qapc : SC := (.seq (.block 2 (.seq (.dreg 11 [0, 1, 2, 3, 4, 5, 6, 7, 8, 9, 10] ( fJ 61 4 8 :: lJ 62 61 :: mJ 63 10 :: iJ 64 1 62 63 :: lJ 65 64 :: fJ 66 2 7 :: lJ 67 66 :: nJ 68 67 :: cJ 69 .sub 68 1 :: aJ 70 Qbj [.t 65, kI 1, .t 69] :: Q2u) [1, 2, 3, 7, 8, 10, 71]) Qapa)) Qapb)
def Qala : SC := (.seq (.seq (.reg ( mJ 54 10 :: fJ 55 4 8 :: lJ 56 55 :: nJ 57 56 :: bJ 58 .lss 54 57 :: []) [1, 2, 3, 7, 8, 10, 58]) (.cond (.t 58) .skip (.exit 1))) Qapc)
def Qv8 : List Item := oJ 87 86 :: []
def Qapd : SC := (.cond (.t 87) (.seq (.reg ( fI 6 (.mv (.k (.c (.bool false)))) :: []) [6]) .ret) .skip)
def Qape : SC := (.reg ( mJ 77 11 :: cJ 78 .add 77 1 :: mJ 11 78 :: []) [1, 2, 3, 7, 8, 11])
def Qapf : SC := (.seq (.block 4 (.seq (.dreg 9 [0, 1, 2, 3, 4, 5, 6, 7, 8] ( tJ 79 1 3 :: mJ 80 1 :: fJ 81 1 8 :: lJ 82 81 :: mJ 83 11 :: iJ 84 4 82 83 :: tJ 85 4 84 :: aJ 86 Qaiz [.t 79, .t 80, .t 85] :: Qv8) [1, 2, 3, 7, 8, 11, 87]) Qapd)) Qape)
def Qalb : SC := (.seq (.seq (.reg ( mJ 72 11 :: fJ 73 1 8 :: lJ 74 73 :: nJ 75 74 :: bJ 76 .lss 72 75 :: []) [1, 2, 3, 7, 8, 11, 76]) (.cond (.t 76) .skip (.exit 3))) Qapf)
def Qv9 : List Item := mJ 12 90 :: []
def Qfc : List Item := gF 134 123 (.not (.t 133)) :: fI 135 (.pick (.t 123) (.k (.c (.bool true))) (.t 134)) :: []
def Qlf : List Item := gF 121 112 (.not (.t 120)) :: fI 122 (.pick (.t 112) (.k (.c (.bool true))) (.t 121)) :: mJ 123 122 :: gFf 124 123 0 8 :: gFl 125 123 124 :: gFm 126 123 13 :: gF 127 123 (.iad 2 (.t 125) (.t 126)) :: gFf 128 123 0 127 :: gFl 129 123 128 :: gFf 130 123 1 7 :: gFl 131 123 130 :: gF 132 123 (.bin 0 .sub (.t 131) (kI 1)) :: .e (some 133) (some (123, false)) (.call Qbj [.t 129, kI 0, .t 132]) :: Qfc
def Q2n : SC := (.cond (.t 135) (.seq (.reg ( fI 6 (.mv (.k (.c (.bool false)))) :: []) [6]) .ret) .skip)
def Q2o : SC := (.reg ( mJ 96 13 :: cJ 97 .add 96 1 :: mJ 13 97 :: []) [2, 7, 8, 12, 13])
def Qapg : SC := (.seq (.block 6 (.seq (.dreg 38 [0, 1, 2, 3, 4, 5, 6, 7, 8, 9, 10, 11, 12, 13, 14, 15, 16, 17, 18, 19, 20, 21, 22, 23, 24, 25, 26, 27, 28, 29, 30, 31, 32, 33, 34, 35, 36, 37] ( mJ 98 2 :: cJ 99 .eql 98 0 :: mJ 100 99 :: gFf 101 100 0 8 :: gFl 102 100 101 :: gFm 103 100 13 :: gF 104 100 (.iad 2 (.t 102) (.t 103)) :: gFf 105 100 1 104 :: gFl 106 100 105 :: gF 107 100 (.len (.t 106)) :: gFm 108 100 12 :: gF 109 100 (.len (.t 108)) :: gF 110 100 (.bin 0 .neq (.t 107) (.t 109)) :: fI 111 (.pick (.t 100) (.k (.c (.bool true))) (.t 110)) :: mJ 112 111 :: gF 113 112 (.ld 3 true (.t 7)) :: gFf 114 112 0 8 :: gFl 115 112 114 :: gFm 116 112 13 :: gF 117 112 (.iad 2 (.t 115) (.t 116)) :: gFf 118 112 1 117 :: gFl 119 112 118 :: .e (some 120) (some (112, false)) (.call Qup [.t 113, .t 119]) :: Qlf) [2, 7, 8, 12, 13, 135]) Q2n)) Q2o)
def Qalc : SC := (.seq (.seq (.reg ( mJ 91 13 :: fJ 92 0 8 :: lJ 93 92 :: nJ 94 93 :: bJ 95 .lss 91 94 :: []) [2, 7, 8, 12, 13, 95]) (.cond (.t 95) .skip (.exit 5))) Qapg)
def Q2p : SC := (.seq (.reg ( fI 6 (.mv (.k (.c (.bool true)))) :: []) [6]) .ret)
def Qaph : SC := (.seq (.seq (.reg ( fI 13 (.mv (kI 0)) :: []) [2, 7, 8, 12, 13]) (.block 5 (.loop Qalc))) Q2p)
def Qapi : SC := (.seq (.reg ( tJ 88 3 7 :: mJ 89 2 :: aJ 90 Qi8 [.t 88, .t 89] :: Qv9) [2, 7, 8, 12]) Qaph)
def Qapj : SC := (.seq (.seq (.reg ( fI 11 (.mv (kI 0)) :: []) [1, 2, 3, 7, 8, 11]) (.block 3 (.loop Qalb))) Qapi)
def Q2q : SC := (.seq (.seq (.reg ( fI 10 (.mv (kI 0)) :: []) [1, 2, 3, 7, 8, 10]) (.block 1 (.loop Qala))) Qapj)
def Q2r : SC := (.seq (.seq (.reg ( fJ 35 4 8 :: lJ 36 35 :: nJ 37 36 :: mJ 38 9 :: bJ 39 .neq 37 38 :: mJ 40 39 :: gFf 41 40 2 8 :: gFl 42 40 41 :: gF 43 40 (.bin 0 .neq (.t 42) (kI 1)) :: gFm 44 40 43 :: gTf 45 44 3 8 :: gTl 46 44 45 :: gTf 47 44 1 7 :: gTl 48 44 47 :: gT 49 44 (.bin 0 .sub (.t 48) (kI 1)) :: .e (some 50) (some (44, true)) (.call Qbj [.t 46, kI 0, .t 49]) :: Qhk) [1, 2, 3, 7, 8, 53]) s_l7Block_8) Q2q)
def Qapk : SC := (.seq (.seq (.reg ( fJ 24 2 8 :: lJ 25 24 :: []) [1, 2, 3, 7, 8, 9, 25]) Qavj) Q2r)
def Qapl : SC := (.seq (.reg ( fI 9 (.mv (kI 1)) :: []) [1, 2, 3, 7, 8, 9]) Qapk)
def Qapm : SC := (.seq (.reg ( fJ 19 2 7 :: lJ 20 19 :: mJ 21 2 :: iJ 22 5 20 21 :: tJ 23 5 22 :: eI 8 (.alloc [.sl true 2 [], .sl true 4 [], .int .i64 0, .int .i64 0, .sl true 1 []]) :: Q2t) [1, 2, 3, 7, 8]) Qapl)
def Qapn : SC := (.seq (.reg ( fJ 14 0 3 :: lJ 15 14 :: mJ 16 1 :: iJ 17 3 15 16 :: tJ 18 3 17 :: eI 7 (.alloc [.int .i64 0, .int .i64 0, .sl true 5 []]) :: Q2s) [1, 2, 3, 7]) Qapm)
def Qa4y : SC := (.seq (.reg ( fI 3 (.box (.t 0)) :: fI 6 (.mv (.k (.c (.bool false)))) :: []) [1, 2, 3]) Qapn)
def Qjh : List RS := [.tmp 6]
theorem Qa3g : mFn prog Qx5 3 136 Qa4y Qjh = true := by kernel_rfl
def Qapz : List Item := .e none none (.sto 3 (.t 5) (.t 13)) :: []
def Qap0 : List Item := mJ 6 19 :: []
def Qap1 : List Item := .chk 29 none (.ld 1 false (.t 28)) :: .chk 30 none (.len (.t 29)) :: bJ 34 .add 30 33 :: kJ 35 27 :: fJ 36 1 35 :: fJ 37 1 36 :: .e none none (.sto 1 (.t 37) (.t 34)) :: []
def Qap2 : List Item := kJ 59 45 :: fJ 60 5 59 :: .e none none (.sto 1 (.t 60) (.t 58)) :: []
def Qa8c : SC := (.reg ( mJ 43 7 :: cJ 44 .add 43 1 :: mJ 7 44 :: []) [4, 5, 6, 7])
def Qa8d : SC := (.seq (.block 1 (.dreg 17 [0, 1, 2, 3, 4, 5, 6, 7, 8, 9, 10, 11, 12, 13, 14, 15, 16] ( mJ 45 6 :: mJ 46 6 :: kJ 47 46 :: fJ 48 5 47 :: lJ 49 48 :: fJ 50 1 5 :: lJ 51 50 :: mJ 52 7 :: iJ 53 1 51 52 :: lJ 54 53 :: mJ 55 7 :: fI 56 (.bld [.str [], .int .i64 0, .int .i64 0] [(0, 1, .t 54), (1, 1, .t 55), (2, 1, kI 0)]) :: fI 57 (.bsl 3 [.t 56]) :: eI 58 (.app 3 (.t 49) (.t 57)) :: Qap2) [4, 5, 6, 7])) Qa8c)
def Qa5b : SC := (.seq (.seq (.reg ( mJ 38 7 :: fJ 39 1 5 :: lJ 40 39 :: nJ 41 40 :: bJ 42 .lss 38 41 :: []) [4, 5, 6, 7, 42]) (.cond (.t 42) .skip (.exit 0))) Qa8d)
def Qap3 : List Item := mJ 8 71 :: []
def Qap4 : List Item := fI 70 (.bsl 1 []) :: aJ 71 Qaq [.t 67, kI 1, .t 69, kI 0, .t 70] :: Qap3
def Qa8e : SC := (.seq (.reg ( mJ 76 6 :: kJ 77 76 :: fJ 78 1 77 :: tJ 79 3 78 :: .e none none (.sto 3 (.t 4) (.t 79)) :: []) [4]) .ret)
def Qa42 : SC := (.seq (.reg ( mJ 72 6 :: mJ 73 8 :: fI 74 (.bsl 1 []) :: aJ 75 Qaw [.t 72, kI 3, .t 73, .t 74, kI 0] :: []) [4, 6]) Qa8e)
def Qa43 : SC := (.seq (.reg ( mJ 67 6 :: mJ 68 6 :: aJ 69 Qay [.t 68] :: Qap4) [4, 6, 8]) Qa42)
def Qa44 : SC := (.seq (.reg ( mJ 63 6 :: fJ 64 2 5 :: lJ 65 64 :: aJ 66 Qb7 [.t 63, .t 65] :: []) [4, 6]) Qa43)
def Qa45 : SC := (.seq (.reg ( mJ 61 6 :: aJ 62 Qag [.t 61] :: []) [4, 5, 6]) Qa44)
def Qa46 : SC := (.seq (.seq (.reg ( fI 7 (.mv (kI 0)) :: []) [4, 5, 6, 7]) (.block 0 (.loop Qa5b))) Qa45)
def Qa47 : SC := (.seq (.dreg 12 [0, 1, 2, 3, 4, 5, 6, 2, 3, 7, 8, 9, 10, 11] ( mJ 27 6 :: fJ 28 1 5 :: lJ 29 28 :: nJ 30 29 :: fJ 31 2 5 :: lJ 32 31 :: aJ 33 Qon [.t 32] :: Qap1) [4, 5, 6]) Qa46)
def Qa48 : SC := (.seq (.reg ( mJ 20 6 :: fJ 21 1 5 :: lJ 22 21 :: nJ 23 22 :: kJ 24 20 :: fJ 25 1 24 :: fJ 26 0 25 :: .e none none (.sto 1 (.t 26) (.t 23)) :: []) [4, 5, 6]) Qa47)
def Qa49 : SC := (.seq (.reg ( tJ 14 1 2 :: fJ 15 1 5 :: lJ 16 15 :: nJ 17 16 :: fI 18 (.bld [.sl true 3 [], .int .i64 0, .int .i64 0, .sl true 5 [], .int .i64 0, .sl true 3 [], .int .i64 0, .sl true 1 []] [(0, 1, .t 14), (6, 1, .t 17)]) :: eI 19 (.boxm (.t 18)) :: Qap0) [4, 5, 6]) Qa48)
def Qa5a : SC := (.seq (.reg ( fJ 9 0 2 :: lJ 10 9 :: mJ 11 1 :: iJ 12 3 10 11 :: tJ 13 3 12 :: eI 5 (.alloc [.str [], .sl true 1 [], .sl true 5 []]) :: Qapz) [2, 4, 5]) Qa49)
def Qbcb : SC := (.seq (.reg ( fI 2 (.box (.t 0)) :: eI 4 (.alloc [.int .i64 0, .int .i64 0, .sl true 5 []]) :: []) [1, 2, 4]) Qa5a)
def Qa82 : List RS := [.cell 4 3 true]
theorem Qbb4 : mFn prog Qarf 2 80 Qbcb Qa82 = true := by kernel_rfl
def Qv3 : List Item := .e none none (.sto 3 (.t 7) (.t 26)) :: []
def Qv4 : List Item := fI 26 (.bld [.str [], .sl true 1 [], .sl true 5 []] [(0, 1, .t 19), (1, 1, .t 25)]) :: eI 7 (.alloc [.str [], .sl true 1 [], .sl true 5 []]) :: Qv3
def Qv5 : List Item := fJ 29 2 7 :: .e none none (.sto 1 (.t 29) (.t 28)) :: []
def Qld : List Item := gT 41 35 (.bin 0 .gtr (.t 40) (kI 0)) :: fI 42 (.pick (.t 35) (.t 41) (.k (.c (.bool false)))) :: []
def Qv6 : List Item := fJ 59 2 7 :: .e none none (.sto 1 (.t 59) (.t 58)) :: []
def Qv7 : List Item := .chk 52 none (.ld 1 false (.t 51)) :: fI 55 (.bsl 4 [.t 54]) :: fI 56 (.bld [.int .i64 0, .str [], .sl true 4 [], .sl true 5 [], .sl true 5 []] [(0, 1, kI 7), (2, 1, .t 55)]) :: fI 57 (.bsl 5 [.t 56]) :: eI 58 (.app 5 (.t 52) (.t 57)) :: Qv6
def Qao4 : SC := (.dreg 10 [0, 1, 2, 3, 1, 4, 5, 6, 7, 8, 9] ( fJ 51 2 7 :: lJ 52 51 :: mJ 53 0 :: aJ 54 Qa4 [.t 53, kI 2] :: Qv7) [6, 7])
def s_l3Gen_fn_7 : SC := (.cond (.t 42) (.seq (.reg ( mJ 43 0 :: mJ 44 0 :: kJ 45 44 :: fJ 46 4 45 :: lJ 47 46 :: cJ 48 .sub 47 1 :: kJ 49 43 :: fJ 50 4 49 :: .e none none (.sto 1 (.t 50) (.t 48)) :: []) [0, 6, 7]) Qao4) .skip)
def Qpq : SC := (.seq (.reg ( tJ 60 3 7 :: .e none none (.sto 3 (.t 6) (.t 60)) :: []) [6]) .ret)
def Qao5 : SC := (.seq (.seq (.reg ( mJ 30 0 :: kJ 31 30 :: fJ 32 4 31 :: lJ 33 32 :: cJ 34 .gtr 33 0 :: mJ 35 34 :: gTm 36 35 0 :: gT 37 35 (.nck (.t 36)) :: gTf 38 35 0 37 :: gTl 39 35 38 :: .e (some 40) (some (35, true)) (.call Ql [.t 39, kI 4]) :: Qld) [0, 6, 7, 42]) s_l3Gen_fn_7) Qpq)
def Qak2 : SC := (.seq (.reg ( mJ 27 0 :: aJ 28 Qb6 [.t 27, kI 3] :: Qv5) [0, 6, 7]) Qao5)
def Qak3 : SC := (.seq (.reg ( mJ 19 1 :: fI 20 (.bsl 1 []) :: mJ 21 0 :: kJ 22 21 :: fJ 23 2 22 :: lJ 24 23 :: eI 25 (.app 1 (.t 20) (.t 24)) :: Qv4) [0, 6, 7]) Qak2)
def Qak4 : SC := (.seq (.reg ( mJ 14 0 :: mJ 15 2 :: cJ 16 .sub 15 1 :: kJ 17 14 :: fJ 18 3 17 :: .e none none (.sto 1 (.t 18) (.t 16)) :: []) [0, 1, 6]) Qak3)
def Qak5 : SC := (.seq (.reg ( mJ 8 0 :: fI 9 (.bsl 1 [.k (.c (.str [97])), .k (.c (.str [98])), .k (.c (.str [99]))]) :: mJ 10 2 :: fI 11 (.sli 1 (.t 9) none (some (.t 10))) :: kJ 12 8 :: fJ 13 2 12 :: .e none none (.sto 1 (.t 13) (.t 11)) :: []) [0, 1, 2, 6]) Qak4)
def Qaz9 : SC := (.seq (.reg ( eI 6 (.alloc [.str [], .sl true 1 [], .sl true 5 []]) :: []) [0, 1, 2, 6]) Qak5)
def Qrg : List RS := [.cell 6 3 true]
theorem Qazc : mFn prog Qko 3 61 Qaz9 Qrg = true := by kernel_rfl
def Qe4 : List Item := oJ 8 7 :: []
def Qud : SC := (.cond (.t 8) (.seq (.reg ( fI 2 (.mv (.k (.c (.bool false)))) :: []) [2]) .ret) .skip)
def Qe5 : List Item := oJ 22 21 :: []
def Que : SC := (.cond (.t 22) (.seq (.reg ( fI 2 (.mv (.k (.c (.bool false)))) :: []) [2]) .ret) .skip)
def Quf : SC := (.reg ( mJ 14 3 :: cJ 15 .add 14 1 :: mJ 3 15 :: []) [1, 3])
def Qug : SC := (.seq (.block 1 (.seq (.reg ( fJ 16 0 1 :: lJ 17 16 :: mJ 18 3 :: iJ 19 3 17 18 :: tJ 20 3 19 :: aJ 21 Qare [.t 20] :: Qe5) [1, 3, 22]) Que)) Quf)
def Qrv : SC := (.seq (.seq (.reg ( mJ 9 3 :: fJ 10 0 1 :: lJ 11 10 :: nJ 12 11 :: bJ 13 .lss 9 12 :: []) [1, 3, 13]) (.cond (.t 13) .skip (.exit 0))) Qug)
def Qe6 : List Item := cJ 25 .leq 24 40 :: mJ 2 25 :: []
def Quh : SC := (.seq (.reg ( tJ 23 1 1 :: aJ 24 Qaiy [.t 23] :: Qe6) [2]) .ret)
def Qui : SC := (.seq (.seq (.reg ( fI 3 (.mv (kI 0)) :: []) [1, 3]) (.block 0 (.loop Qrv))) Quh)
def Qru : SC := (.seq (.seq (.reg ( fJ 4 0 1 :: lJ 5 4 :: nJ 6 5 :: aJ 7 Qbj [.t 6, kI 1, kI 4] :: Qe4) [1, 8]) Qud) Qui)
def Q0m : SC := (.seq (.reg ( fI 1 (.box (.t 0)) :: fI 2 (.mv (.k (.c (.bool false)))) :: []) [1]) Qru)
def Qd4 : List RS := [.tmp 2]
theorem Qye : mFn prog Qdi 1 26 Q0m Qd4 = true := by kernel_rfl
def Qml : List Item := .chk 10 none (.ld 1 false (.t 9)) :: .chk 12 none (.ld 1 false (.t 11)) :: .chk 15 none (.ld 1 false (.t 14)) :: .e none none (.sto 5 (.t 3) (.t 17)) :: []
def Qmm : List Item := .chk 10 none (.ld 1 false (.t 9)) :: .chk 12 none (.ld 1 false (.t 11)) :: fI 17 (.bld [.sl true 2 [], .sl true 4 [], .int .i64 0, .int .i64 0, .sl true 1 []] [(0, 1, .t 7), (1, 1, .t 8), (2, 1, .t 10), (3, 1, .t 12), (4, 1, .t 16)]) :: eI 3 (.alloc [.sl true 2 [], .sl true 4 [], .int .i64 0, .int .i64 0, .sl true 1 []]) :: Qml
def Qmn : List Item := fJ 44 0 3 :: .e none none (.sto 1 (.t 44) (.t 43)) :: []
def Qmo : List Item := .chk 26 none (.ld 1 false (.t 25)) :: .chk 28 none (.ld 1 false (.t 27)) :: .chk 30 none (.iad 2 (.t 28) (.t 29)) :: .chk 32 none (.ld 1 false (.t 31)) :: fI 41 (.bld [.int .i64 0, .sl true 1 []] [(0, 1, .t 32), (1, 1, .t 40)]) :: fI 42 (.bsl 2 [.t 41]) :: eI 43 (.app 2 (.t 26) (.t 42)) :: Qmn
def Qaau : SC := (.reg ( mJ 23 4 :: cJ 24 .add 23 1 :: mJ 4 24 :: []) [1, 2, 3, 4])
def Qaav : SC := (.seq (.block 1 (.dreg 21 [0, 1, 2, 3, 4, 5, 6, 7, 8, 9, 10, 11, 12, 13, 14, 15, 1, 3, 5, 7, 16, 17, 18, 19, 20] ( fJ 25 0 3 :: lJ 26 25 :: fJ 27 0 1 :: lJ 28 27 :: mJ 29 4 :: iJ 30 2 28 29 :: fJ 31 0 30 :: lJ 32 31 :: fI 33 (.bsl 1 []) :: fJ 34 0 1 :: lJ 35 34 :: mJ 36 4 :: iJ 37 2 35 36 :: fJ 38 1 37 :: lJ 39 38 :: eI 40 (.app 1 (.t 33) (.t 39)) :: Qmo) [1, 2, 3, 4])) Qaau)
def Q4z : SC := (.seq (.seq (.reg ( mJ 18 4 :: fJ 19 0 1 :: lJ 20 19 :: nJ 21 20 :: bJ 22 .lss 18 21 :: []) [1, 2, 3, 4, 22]) (.cond (.t 22) .skip (.exit 0))) Qaav)
def Qmp : List Item := .e none none (.sto 4 (.t 6) (.t 56)) :: []
def Qmq : List Item := fJ 72 1 3 :: .e none none (.sto 1 (.t 72) (.t 71)) :: []
def Qmr : List Item := .chk 58 none (.ld 1 false (.t 57)) :: .chk 60 none (.ld 1 false (.t 59)) :: .chk 62 none (.ld 1 false (.t 61)) :: .chk 68 none (.ld 1 false (.t 67)) :: fI 69 (.bld [.int .i64 0, .int .i64 0, .sl true 1 [], .int .i64 0] [(0, 1, .t 60), (1, 1, .t 62), (2, 1, .t 66), (3, 1, .t 68)]) :: fI 70 (.bsl 4 [.t 69]) :: eI 71 (.app 4 (.t 58) (.t 70)) :: Qmq
def Q4s : SC := (.dreg 17 [0, 1, 2, 3, 4, 5, 6, 7, 8, 10, 11, 9, 1, 3, 5, 11, 12, 13, 14, 15, 16] ( fJ 57 1 3 :: lJ 58 57 :: fJ 59 0 6 :: lJ 60 59 :: fJ 61 1 6 :: lJ 62 61 :: fI 63 (.bsl 1 []) :: fJ 64 2 6 :: lJ 65 64 :: fJ 67 3 6 :: lJ 68 67 :: eI 66 (.app 1 (.t 63) (.t 65)) :: Qmr) [1, 2, 3, 5])
def Q4t : SC := (.reg ( mJ 50 5 :: cJ 51 .add 50 1 :: mJ 5 51 :: []) [1, 2, 3, 5])
def Q4u : SC := (.seq (.block 3 (.seq (.reg ( fJ 52 1 1 :: lJ 53 52 :: mJ 54 5 :: iJ 55 4 53 54 :: tJ 56 4 55 :: eI 6 (.alloc [.int .i64 0, .int .i64 0, .sl true 1 [], .int .i64 0]) :: Qmp) [1, 2, 3, 5, 6]) Q4s)) Q4t)
def Qy9 : SC := (.seq (.seq (.reg ( mJ 45 5 :: fJ 46 1 1 :: lJ 47 46 :: nJ 48 47 :: bJ 49 .lss 45 48 :: []) [1, 2, 3, 5, 49]) (.cond (.t 49) .skip (.exit 2))) Q4u)
def Q4v : SC := (.seq (.reg ( tJ 73 5 3 :: .e none none (.sto 5 (.t 2) (.t 73)) :: []) [2]) .ret)
def Q4w : SC := (.seq (.seq (.reg ( fI 5 (.mv (kI 0)) :: []) [1, 2, 3, 5]) (.block 2 (.loop Qy9))) Q4v)
def Q4x : SC := (.seq (.seq (.reg ( fI 4 (.mv (kI 0)) :: []) [1, 2, 3, 4]) (.block 0 (.loop Q4z))) Q4w)
def Q4y : SC := (.seq (.dreg 11 [0, 1, 2, 3, 4, 5, 6, 7, 8, 9, 3, 5, 10, 11, 3, 5, 8, 12] ( fI 7 (.bsl 2 []) :: fI 8 (.bsl 4 []) :: fJ 9 2 1 :: lJ 10 9 :: fJ 11 3 1 :: lJ 12 11 :: fI 13 (.bsl 1 []) :: fJ 14 4 1 :: lJ 15 14 :: eI 16 (.app 1 (.t 13) (.t 15)) :: Qmm) [1, 2, 3]) Q4x)
def Qald : SC := (.seq (.reg ( fI 1 (.box (.t 0)) :: eI 2 (.alloc [.sl true 2 [], .sl true 4 [], .int .i64 0, .int .i64 0, .sl true 1 []]) :: []) [1, 2]) Q4y)
def Qu8 : List RS := [.cell 2 5 true]
theorem Qajj : mFn prog Qh9 1 74 Qald Qu8 = true := by kernel_rfl
def Qaa7 : List Item := mJ 7 13 :: []
def Qt2 : List Item := .e none none (.sto 4 (.t 8) (.t 18)) :: []
def Qaa8 : List Item := fI 18 (.bld [.int .i64 0, .int .i64 0, .sl true 1 [], .int .i64 0] [(0, 1, .t 14), (1, 1, .t 17)]) :: eI 8 (.alloc [.int .i64 0, .int .i64 0, .sl true 1 [], .int .i64 0]) :: Qt2
def Qaa9 : List Item := mJ 9 20 :: []
def Qaba : List Item := fI 30 (.bsl 1 [.t 29]) :: fI 31 (.bld [.int .i64 0, .int .i64 0, .sl true 1 [], .int .i64 0] [(0, 1, kI 13), (1, 1, kI (-1)), (2, 1, .t 30)]) :: .e none none (.sto 4 (.t 6) (.t 31)) :: []
def Qa03 : SC := (.cond (.t 26) (.seq (.reg ( mJ 27 0 :: mJ 28 2 :: aJ 29 Ql [.t 27, .t 28] :: Qaba) [6]) .ret) .skip)
def Qabb : List Item := fJ 37 3 8 :: .e none none (.sto 1 (.t 37) (.t 36)) :: []
def Qa04 : SC := (.reg ( fJ 38 0 4 :: lJ 39 38 :: fJ 40 3 8 :: lJ 41 40 :: iJ 42 3 39 41 :: fJ 43 0 42 :: lJ 44 43 :: mJ 9 44 :: []) [0, 2, 6, 7, 8, 9])
def Qa05 : SC := (.seq (.reg ( mJ 32 0 :: fJ 33 0 4 :: lJ 34 33 :: nJ 35 34 :: aJ 36 Ql [.t 32, .t 35] :: Qabb) [0, 2, 4, 6, 7, 8]) Qa04)
def Qa06 : SC := (.cond (.t 22) (.seq (.seq (.reg ( fJ 23 0 4 :: lJ 24 23 :: nJ 25 24 :: cJ 26 .eql 25 0 :: []) [0, 2, 4, 6, 7, 8, 26]) Qa03) Qa05) .skip)
def Q23 : List Item := fJ 50 3 8 :: .e none none (.sto 1 (.t 50) (.t 49)) :: []
def Qav9 : SC := (.cond (.t 46) (.reg ( mJ 47 0 :: fI 48 (.bsl 1 [kI 0, kI 1, kI 2, kI 3, kI 15, kI 16, kI 255]) :: aJ 49 Q5 [.t 47, .t 48] :: Q23) [0, 2, 6, 7, 8, 9]) .skip)
def Q24 : List Item := oJ 53 52 :: []
def Qawa : SC := (.cond (.t 53) (.reg ( fJ 54 1 8 :: .e none none (.sto 1 (.t 54) (kI (-1))) :: []) [0, 2, 6, 8, 9]) .skip)
def Q25 : List Item := fJ 67 2 8 :: .e none none (.sto 1 (.t 67) (.t 66)) :: []
def Q26 : List Item := .chk 61 none (.ld 1 false (.t 60)) :: fI 65 (.bsl 1 [.t 64]) :: eI 66 (.app 1 (.t 61) (.t 65)) :: Q25
def Qawb : SC := (.reg ( mJ 58 10 :: cJ 59 .add 58 1 :: mJ 10 59 :: []) [0, 2, 6, 8, 9, 10])
def Qawc : SC := (.seq (.block 1 (.dreg 9 [0, 1, 2, 3, 4, 1, 5, 6, 7, 8] ( fJ 60 2 8 :: lJ 61 60 :: mJ 62 0 :: mJ 63 2 :: aJ 64 Ql [.t 62, .t 63] :: Q26) [0, 2, 6, 8, 9, 10])) Qawb)
def Qapu : SC := (.seq (.seq (.reg ( mJ 55 10 :: mJ 56 9 :: bJ 57 .lss 55 56 :: []) [0, 2, 6, 8, 9, 10, 57]) (.cond (.t 57) .skip (.exit 0))) Qawc)
def Qawd : SC := (.seq (.reg ( tJ 68 4 8 :: .e none none (.sto 4 (.t 6) (.t 68)) :: []) [6]) .ret)
def Qaa4 : SC := (.seq (.seq (.reg ( fI 10 (.mv (kI 0)) :: []) [0, 2, 6, 8, 9, 10]) (.block 0 (.loop Qapu))) Qawd)
def Qaa5 : SC := (.seq (.seq (.reg ( mJ 51 7 :: aJ 52 Qfi [.t 51] :: Q24) [0, 2, 6, 8, 9, 53]) Qawa) Qaa4)
def Qaa6 : SC := (.seq (.seq (.reg ( mJ 45 7 :: cJ 46 .eql 45 1 :: []) [0, 2, 6, 7, 8, 9, 46]) Qav9) Qaa5)
def Qawe : SC := (.seq (.seq (.reg ( mJ 21 7 :: cJ 22 .eql 21 14 :: []) [0, 2, 4, 6, 7, 8, 9, 22]) Qa06) Qaa6)
def Qawf : SC := (.seq (.reg ( mJ 19 7 :: aJ 20 Qom [.t 19] :: Qaa9) [0, 2, 4, 6, 7, 8, 9]) Qawe)
def Qawg : SC := (.seq (.reg ( mJ 14 7 :: mJ 15 0 :: mJ 16 2 :: aJ 17 Ql [.t 15, .t 16] :: Qaa8) [0, 2, 4, 6, 7, 8]) Qawf)
def Qawh : SC := (.seq (.reg ( mJ 11 0 :: fI 12 (.bsl 1 [kI 1, kI 1, kI 2, kI 3, kI 4, kI 5, kI 8, kI 9, kI 10, kI 13, kI 3, kI 6, kI 7, kI 11, kI 12, kI 14]) :: aJ 13 Q5 [.t 11, .t 12] :: Qaa7) [0, 2, 4, 6, 7]) Qawg)
def Qa79 : SC := (.seq (.reg ( fI 4 (.box (.t 1)) :: eI 6 (.alloc [.int .i64 0, .int .i64 0, .sl true 1 [], .int .i64 0]) :: []) [0, 2, 4, 6]) Qawh)
def Qrh : List RS := [.cell 6 4 true]
theorem Qa7e : mFn prog Q6r 3 69 Qa79 Qrh = true := by kernel_rfl
def Qabc : List Item := gT 14 11 (.bin 0 .gtr (.t 13) (kI 0)) :: fI 15 (.pick (.t 11) (.t 14) (.k (.c (.bool false)))) :: []
def Qapv : List Item := bJ 24 .add 17 23 :: mJ 6 24 :: []
def s_l7To_2 : SC := (.cond (.t 15) (.seq (.reg ( mJ 16 1 :: cJ 17 .add 16 1 :: mJ 18 0 :: mJ 19 2 :: cJ 20 .sub 19 1 :: mJ 21 1 :: bJ 22 .sub 20 21 :: aJ 23 Ql [.t 18, .t 22] :: Qapv) [6]) .ret) .skip)
def Qapw : List Item := fI 29 (.bin 0 .add (kI 1) (.t 28)) :: mJ 6 29 :: []
def Qayb : SC := (.seq (.reg ( mJ 25 0 :: mJ 26 2 :: cJ 27 .sub 26 1 :: aJ 28 Ql [.t 25, .t 27] :: Qapw) [6]) .ret)
def Qa8a : SC := (.seq (.seq (.reg ( mJ 7 1 :: mJ 8 2 :: cJ 9 .sub 8 1 :: bJ 10 .lss 7 9 :: mJ 11 10 :: gTm 12 11 0 :: .e (some 13) (some (11, true)) (.call Ql [.t 12, kI 4]) :: Qabc) [0, 1, 2, 15]) s_l7To_2) Qayb)
def Qbca : SC := (.seq (.reg ( fI 6 (.mv (kI 0)) :: []) [0, 1, 2]) Qa8a)
def Qax7 : List RS := [.tmp 6]
theorem Qbb3 : mFn prog Q6s 3 30 Qbca Qax7 = true := by kernel_rfl
def Qaig : List Item := .e none none (.sto 3 (.t 7) (.t 12)) :: []
def Qza : List Item := gF 22 17 (.not (.t 21)) :: fI 23 (.pick (.t 17) (.k (.c (.bool true))) (.t 22)) :: []
def Qaih : List Item := oJ 16 15 :: mJ 17 16 :: gF 18 17 (.ld 3 true (.t 7)) :: gFf 19 17 2 5 :: gFl 20 17 19 :: .e (some 21) (some (17, false)) (.call Qup [.t 18, .t 20]) :: Qza
def s_l7Ins_3 : SC := (.cond (.t 23) (.seq (.reg ( fI 6 (.mv (.k (.c (.bool false)))) :: []) [6]) .ret) .skip)
def Qzb : List Item := gF 38 34 (.not (.t 37)) :: gFm 39 34 38 :: gTf 40 39 1 5 :: gTl 41 39 40 :: gT 42 39 (.bin 0 .neq (.t 41) (kI (-1))) :: gF 43 34 (.pick (.t 39) (.t 42) (.k (.c (.bool false)))) :: fI 44 (.pick (.t 34) (.k (.c (.bool true))) (.t 43)) :: []
def Qaii : List Item := fI 33 (.bin 1 .neq (.t 26) (.t 32)) :: mJ 34 33 :: gFf 35 34 0 5 :: gFl 36 34 35 :: .e (some 37) (some (34, false)) (.call Qfi [.t 36]) :: Qzb
def Qaij : List Item := .chk 28 none (.ld 1 false (.t 27)) :: .chk 30 none (.ld 1 false (.t 29)) :: aJ 32 Qbj [.t 28, kI 0, .t 31] :: Qaii
def s_l7Ins_7 : SC := (.cond (.t 44) (.seq (.reg ( fI 6 (.mv (.k (.c (.bool false)))) :: []) [6]) .ret) .skip)
def Qrj : List Item := mJ 53 52 :: gTf 54 53 2 5 :: gTl 55 53 54 :: gT 56 53 (.len (.t 55)) :: gTf 57 53 0 3 :: gTl 58 53 57 :: gTf 59 53 3 5 :: gTl 60 53 59 :: gT 61 53 (.iad 3 (.t 58) (.t 60)) :: gTf 62 53 0 61 :: gTl 63 53 62 :: gT 64 53 (.bin 0 .eql (.t 56) (.t 63)) :: fI 65 (.pick (.t 53) (.t 64) (.k (.c (.bool false)))) :: mJ 6 65 :: []
def Qa4z : SC := (.cond (.t 47) (.seq (.dreg 19 [0, 1, 2, 3, 4, 5, 6, 7, 8, 9, 10, 11, 12, 13, 14, 15, 16, 17, 18] ( fJ 48 3 5 :: lJ 49 48 :: mJ 50 1 :: cJ 51 .sub 50 1 :: aJ 52 Qbj [.t 49, kI 0, .t 51] :: Qrj) [6]) .ret) .skip)
def Qt1 : List Item := fI 77 (.pick (.t 73) (.t 76) (.k (.c (.bool false)))) :: mJ 78 77 :: gTf 79 78 3 5 :: gTl 80 78 79 :: gT 81 78 (.bin 0 .eql (.t 80) (kI 0)) :: gTm 82 78 81 :: gFf 83 82 0 5 :: gFl 84 82 83 :: gF 85 82 (.bin 0 .eql (.t 84) (kI 1)) :: gT 86 78 (.pick (.t 82) (.k (.c (.bool true))) (.t 85)) :: fI 87 (.pick (.t 78) (.t 86) (.k (.c (.bool false)))) :: mJ 6 87 :: []
def Qaa0 : List Item := .chk 67 none (.ld 1 false (.t 66)) :: .chk 68 none (.len (.t 67)) :: bJ 72 .eql 68 71 :: mJ 73 72 :: gTf 74 73 3 5 :: gTl 75 73 74 :: .e (some 76) (some (73, true)) (.call Qbj [.t 75, kI 0, kI 255]) :: Qt1
def Qa0v : SC := (.seq (.dreg 23 [0, 1, 2, 3, 4, 5, 1, 2, 6, 7, 8, 9, 10, 11, 12, 13, 14, 15, 16, 17, 18, 19, 20, 21, 22] ( fJ 66 2 5 :: lJ 67 66 :: nJ 68 67 :: fJ 69 0 5 :: lJ 70 69 :: aJ 71 Qom [.t 70] :: Qaa0) [6]) .ret)
def Qaie : SC := (.seq (.seq (.reg ( fJ 45 0 5 :: lJ 46 45 :: cJ 47 .eql 46 14 :: []) [1, 3, 5, 47]) Qa4z) Qa0v)
def Qaif : SC := (.seq (.seq (.dreg 21 [0, 1, 3, 4, 5, 6, 7, 2, 4, 6, 8, 9, 10, 11, 12, 13, 14, 15, 16, 17, 18, 19, 20] ( fJ 24 0 5 :: lJ 25 24 :: fJ 27 1 5 :: lJ 28 27 :: fJ 29 1 7 :: lJ 30 29 :: cJ 31 .sub 30 1 :: aJ 26 Qfi [.t 25] :: Qaij) [1, 3, 5, 44]) s_l7Ins_7) Qaie)
def Qa0w : SC := (.seq (.seq (.reg ( fJ 13 0 5 :: lJ 14 13 :: aJ 15 Qbj [.t 14, kI 1, kI 14] :: Qaih) [1, 3, 5, 7, 23]) s_l7Ins_3) Qaif)
def Qa0x : SC := (.seq (.reg ( fJ 8 0 3 :: lJ 9 8 :: mJ 10 1 :: iJ 11 3 9 10 :: tJ 12 3 11 :: eI 7 (.alloc [.int .i64 0, .int .i64 0, .sl true 5 []]) :: Qaig) [1, 3, 5, 7]) Qa0w)
def Qba0 : SC := (.seq (.reg ( fI 3 (.box (.t 0)) :: fI 5 (.box (.t 2)) :: fI 6 (.mv (.k (.c (.bool false)))) :: []) [1, 3, 5]) Qa0x)
def Q7t : List RS := [.tmp 6]
theorem Qban : mFn prog Qaiz 3 88 Qba0 Q7t = true := by kernel_rfl
def Qaa3 : List Item := oJ 20 19 :: []
def Qa0y : SC := (.cond (.t 20) (.seq (.reg ( fI 4 (.mv (.k (.c (.bool false)))) :: []) [4]) .ret) .skip)
def Qa0z : SC := (.reg ( mJ 10 5 :: cJ 11 .add 10 1 :: mJ 5 11 :: []) [1, 2, 5])
def Qa00 : SC := (.seq (.block 1 (.seq (.dreg 9 [0, 1, 2, 3, 4, 5, 6, 7, 8] ( mJ 12 1 :: mJ 13 5 :: iJ 14 1 12 13 :: lJ 15 14 :: fJ 16 1 2 :: lJ 17 16 :: cJ 18 .sub 17 1 :: aJ 19 Qbj [.t 15, kI 0, .t 18] :: Qaa3) [1, 2, 5, 20]) Qa0y)) Qa0z)
def Qav8 : SC := (.seq (.seq (.reg ( mJ 6 5 :: mJ 7 1 :: nJ 8 7 :: bJ 9 .lss 6 8 :: []) [1, 2, 5, 9]) (.cond (.t 9) .skip (.exit 0))) Qa00)
def Qa01 : SC := (.seq (.reg ( fI 4 (.mv (.k (.c (.bool true)))) :: []) [4]) .ret)
def Qa02 : SC := (.seq (.seq (.reg ( fI 5 (.mv (kI 0)) :: []) [1, 2, 5]) (.block 0 (.loop Qav8))) Qa01)
def Qa78 : SC := (.seq (.reg ( fI 2 (.box (.t 0)) :: fI 4 (.mv (.k (.c (.bool false)))) :: []) [1, 2]) Qa02)
def Qajz : List RS := [.tmp 4]
theorem Qa7d : mFn prog Qup 2 21 Qa78 Qajz = true := by kernel_rfl
def Qabk : List Item := bJ 33 .add 26 32 :: mJ 3 33 :: []
def Qabl : List Item := .chk 29 none (.iad 5 (.t 27) (.t 28)) :: .chk 31 none (.ld 1 false (.t 30)) :: bJ 26 .add 19 25 :: aJ 32 Qon [.t 31] :: Qabk
def Qabm : List Item := .chk 22 none (.iad 5 (.t 20) (.t 21)) :: .chk 24 none (.ld 1 false (.t 23)) :: .chk 29 none (.iad 5 (.t 27) (.t 28)) :: .chk 31 none (.ld 1 false (.t 30)) :: bJ 19 .add 11 18 :: aJ 25 Qon [.t 24] :: Qabl
def Qa09 : SC := (.reg ( mJ 9 4 :: cJ 10 .add 9 1 :: mJ 4 10 :: []) [0, 3, 4])
def Qa1a : SC := (.seq (.block 1 (.dreg 24 [0, 1, 2, 3, 4, 5, 6, 9, 10, 11, 12, 13, 16, 17, 18, 19, 20, 7, 11, 13, 18, 20, 8, 14, 18, 20, 15, 21, 22, 23] ( mJ 11 3 :: mJ 12 0 :: mJ 13 4 :: iJ 14 5 12 13 :: fJ 15 0 14 :: lJ 16 15 :: cJ 17 .eql 16 1 :: mJ 20 0 :: mJ 21 4 :: iJ 22 5 20 21 :: fJ 23 3 22 :: lJ 24 23 :: mJ 27 0 :: mJ 28 4 :: iJ 29 5 27 28 :: fJ 30 4 29 :: lJ 31 30 :: aJ 18 Qx4 [.t 17] :: Qabm) [0, 3, 4])) Qa09)
def Qaww : SC := (.seq (.seq (.reg ( mJ 5 4 :: mJ 6 0 :: nJ 7 6 :: bJ 8 .lss 5 7 :: []) [0, 3, 4, 8]) (.cond (.t 8) .skip (.exit 0))) Qa1a)
def Qa1b : SC := (.seq (.reg ( mJ 34 3 :: mJ 2 34 :: []) [2]) .ret)
def Qa1c : SC := (.seq (.seq (.reg ( fI 4 (.mv (kI 0)) :: []) [0, 3, 4]) (.block 0 (.loop Qaww))) Qa1b)
def Qa1d : SC := (.seq (.reg ( fI 3 (.mv (kI 0)) :: []) [0, 3]) Qa1c)
def Qa8f : SC := (.seq (.reg ( fI 2 (.mv (kI 0)) :: []) [0]) Qa1d)
def Qax9 : List RS := [.tmp 2]
theorem Qa7g : mFn prog Qon 1 35 Qa8f Qax9 = true := by kernel_rfl
def Qms : List Item := kJ 15 3 :: fJ 16 1 15 :: fJ 17 2 16 :: .e none none (.sto 1 (.t 17) (.t 14)) :: []
def Qabn : SC := (.seq (.reg ( mJ 18 0 :: kJ 19 18 :: fJ 20 1 19 :: fJ 21 2 20 :: lJ 22 21 :: nJ 23 22 :: cJ 24 .sub 23 1 :: mJ 2 24 :: []) [2]) .ret)
def Qabo : SC := (.seq (.reg ( mJ 3 0 :: mJ 4 0 :: kJ 5 4 :: fJ 6 1 5 :: fJ 7 2 6 :: lJ 8 7 :: fI 9 (.bsl 2 []) :: fI 10 (.bsl 4 []) :: fI 11 (.bsl 1 []) :: fI 12 (.bld [.sl true 2 [], .sl true 4 [], .int .i64 0, .int .i64 0, .sl true 1 []] [(0, 1, .t 9), (1, 1, .t 10), (4, 1, .t 11)]) :: fI 13 (.bsl 5 [.t 12]) :: eI 14 (.app 5 (.t 8) (.t 13)) :: Qms) [0]) Qabn)
def Qalg : SC := (.seq (.reg ( fI 2 (.mv (kI 0)) :: []) [0]) Qabo)
def Qu9 : List RS := [.tmp 2]
theorem Qajk : mFn prog Qag 1 25 Qalg Qu9 = true := by kernel_rfl
def Qacn : SC := (.reg ( mJ 15 5 :: cJ 16 .add 15 1 :: mJ 5 16 :: []) [0, 1, 4, 5])
def Qaco : SC := (.seq (.block 1 (.reg ( mJ 17 0 :: mJ 18 1 :: mJ 19 5 :: iJ 20 5 18 19 :: tJ 21 5 20 :: aJ 22 Qkt [.t 17, .t 21] :: []) [0, 1, 4, 5])) Qacn)
def Q41 : SC := (.seq (.seq (.reg ( mJ 11 5 :: mJ 12 1 :: nJ 13 12 :: bJ 14 .lss 11 13 :: []) [0, 1, 4, 5, 14]) (.cond (.t 14) .skip (.exit 0))) Qaco)
def Qacp : SC := (.reg ( mJ 23 0 :: mJ 24 0 :: kJ 25 24 :: fJ 26 5 25 :: lJ 27 26 :: mJ 28 4 :: fI 29 (.sli 3 (.t 27) none (some (.t 28))) :: kJ 30 23 :: fJ 31 5 30 :: .e none none (.sto 1 (.t 31) (.t 29)) :: []) [])
def Qacq : SC := (.seq (.seq (.reg ( fI 5 (.mv (kI 0)) :: []) [0, 1, 4, 5]) (.block 0 (.loop Q41))) Qacp)
def Qalq : SC := (.seq (.reg ( mJ 6 0 :: kJ 7 6 :: fJ 8 5 7 :: lJ 9 8 :: nJ 10 9 :: mJ 4 10 :: []) [0, 1, 4]) Qacq)
def Qk4 : List RS := []
theorem Qajm : mFn prog Qb7 2 32 Qalq Qk4 = true := by kernel_rfl
def Qs3 : List Item := kJ 34 22 :: fJ 35 1 34 :: .e none none (.sto 1 (.t 35) (.t 33)) :: []
def Qali : SC := (.seq (.reg ( mJ 36 2 :: mJ 10 36 :: []) [10]) .ret)
def Qalj : SC := (.seq (.reg ( mJ 22 11 :: mJ 23 11 :: kJ 24 23 :: fJ 25 1 24 :: lJ 26 25 :: mJ 27 1 :: mJ 28 2 :: mJ 29 4 :: mJ 30 3 :: fI 31 (.bld [.int .i64 0, .int .i64 0, .sl true 1 [], .int .i64 0] [(0, 1, .t 27), (1, 1, .t 28), (2, 1, .t 29), (3, 1, .t 30)]) :: fI 32 (.bsl 4 [.t 31]) :: eI 33 (.app 4 (.t 26) (.t 32)) :: Qs3) [2]) Qali)
def Qalk : SC := (.seq (.dreg 11 [0, 1, 2, 3, 4, 5, 6, 7, 8, 9, 10] ( mJ 12 0 :: kJ 13 12 :: fJ 14 1 13 :: fJ 15 2 14 :: lJ 16 15 :: mJ 17 0 :: kJ 18 17 :: fJ 19 4 18 :: lJ 20 19 :: iJ 21 5 16 20 :: mJ 11 21 :: []) [1, 2, 3, 4, 11]) Qalj)
def Qawy : SC := (.seq (.reg ( fI 10 (.mv (kI 0)) :: []) [0, 1, 2, 3, 4]) Qalk)
def Q7w : List RS := [.tmp 10]
theorem Qary : mFn prog Qaq 5 37 Qawy Q7w = true := by kernel_rfl
def Qab0 : SC := (.seq (.reg ( mJ 13 0 :: kJ 14 13 :: fJ 15 1 14 :: fJ 16 1 15 :: lJ 17 16 :: cJ 18 .sub 17 1 :: mJ 2 18 :: []) [2]) .ret)
def Qab1 : SC := (.seq (.reg ( mJ 3 0 :: mJ 4 0 :: kJ 5 4 :: fJ 6 1 5 :: fJ 7 1 6 :: lJ 8 7 :: cJ 9 .add 8 1 :: kJ 10 3 :: fJ 11 1 10 :: fJ 12 1 11 :: .e none none (.sto 1 (.t 12) (.t 9)) :: []) [0]) Qab0)
def Qalh : SC := (.seq (.reg ( fI 2 (.mv (kI 0)) :: []) [0]) Qab1)
def Qva : List RS := [.tmp 2]
theorem Qajl : mFn prog Qay 1 19 Qalh Qva = true := by kernel_rfl
def Qagh : SC := (.reg ( mJ 33 0 :: mJ 34 4 :: kJ 35 33 :: fJ 36 4 35 :: .e none none (.sto 1 (.t 36) (.t 34)) :: []) [])
def Qagi : SC := (.seq (.reg ( mJ 29 10 :: mJ 30 3 :: kJ 31 29 :: fJ 32 4 31 :: .e none none (.sto 1 (.t 32) (.t 30)) :: []) [0, 4]) Qagh)
def Qagj : SC := (.seq (.reg ( mJ 25 10 :: mJ 26 2 :: kJ 27 25 :: fJ 28 3 27 :: .e none none (.sto 1 (.t 28) (.t 26)) :: []) [0, 3, 4, 10]) Qagi)
def Qagk : SC := (.seq (.reg ( mJ 21 10 :: mJ 22 1 :: kJ 23 21 :: fJ 24 2 23 :: .e none none (.sto 1 (.t 24) (.t 22)) :: []) [0, 2, 3, 4, 10]) Qagj)
def Qap6 : SC := (.seq (.dreg 11 [0, 1, 2, 3, 4, 5, 6, 7, 8, 9, 10] ( mJ 11 0 :: kJ 12 11 :: fJ 13 1 12 :: fJ 14 2 13 :: lJ 15 14 :: mJ 16 0 :: kJ 17 16 :: fJ 18 4 17 :: lJ 19 18 :: iJ 20 5 15 19 :: mJ 10 20 :: []) [0, 1, 2, 3, 4, 10]) Qagk)
def Q1e : List RS := []
theorem Qam7 : mFn prog Qaw 5 37 Qap6 Q1e = true := by kernel_rfl
def Ql7 : List Item := mJ 7 18 :: []
def Ql8 : List Item := mJ 6 34 :: []
def Ql9 : List Item := eI 34 (.app 5 (.t 30) (.t 33)) :: Ql8
def Q86 : SC := (.reg ( mJ 28 7 :: cJ 29 .sub 28 1 :: mJ 7 29 :: []) [0, 1, 5, 6, 7])
def Q87 : SC := (.seq (.block 1 (.reg ( mJ 30 6 :: mJ 31 0 :: mJ 32 1 :: aJ 33 Qkq [.t 31, .t 32] :: Ql9) [0, 1, 5, 6, 7])) Q86)
def Q4q : SC := (.seq (.seq (.reg ( mJ 19 7 :: cJ 20 .gtr 19 0 :: mJ 21 20 :: gTm 22 21 0 :: gT 23 21 (.nck (.t 22)) :: gTf 24 21 4 23 :: gTl 25 21 24 :: gT 26 21 (.bin 0 .gtr (.t 25) (kI 0)) :: fI 27 (.pick (.t 21) (.t 26) (.k (.c (.bool false)))) :: []) [0, 1, 5, 6, 7, 27]) (.cond (.t 27) .skip (.exit 0))) Q87)
def Q88 : SC := (.seq (.reg ( mJ 39 6 :: mJ 4 39 :: []) [4]) .ret)
def Q89 : SC := (.seq (.reg ( mJ 35 0 :: mJ 36 5 :: kJ 37 35 :: fJ 38 2 37 :: .e none none (.sto 1 (.t 38) (.t 36)) :: []) [6]) Q88)
def Q9a : SC := (.seq (.seq (.reg ( mJ 13 0 :: kJ 14 13 :: fJ 15 0 14 :: lJ 16 15 :: fI 17 (.bsl 1 [kI 2, kI 3, kI 1, kI 4]) :: aJ 18 Q5 [.t 16, .t 17] :: Ql7) [0, 1, 5, 6, 7]) (.block 0 (.loop Q4q))) Q89)
def Q9b : SC := (.seq (.reg ( fI 12 (.bsl 5 []) :: mJ 6 12 :: []) [0, 1, 5, 6]) Q9a)
def Q4p : SC := (.seq (.reg ( mJ 8 0 :: kJ 9 8 :: fJ 10 2 9 :: lJ 11 10 :: mJ 5 11 :: []) [0, 1, 5]) Q9b)
def Qak1 : SC := (.seq (.reg ( fI 4 (.mv (.k (.c (.sl true 5 [])))) :: []) [0, 1]) Q4p)
def Qu7 : List RS := [.tmp 4]
theorem Qajh : mFn prog Qb6 2 40 Qak1 Qu7 = true := by kernel_rfl
def Qpj : List Item := .chk 12 none (.ld 1 false (.t 11)) :: .chk 16 none (.ld 1 false (.t 15)) :: .e none none (.sto 4 (.t 5) (.t 18)) :: []
def Qpk : List Item := eI 5 (.alloc [.int .i64 0, .int .i64 0, .str [], .sl true 4 []]) :: Qpj
def Qga : List Item := gF 31 25 (.bin 0 .gtr (.t 30) (kI 0)) :: fI 32 (.pick (.t 25) (.k (.c (.bool true))) (.t 31)) :: []
def s_l3Gen_expr_3 : SC := (.cond (.t 32) (.seq (.reg ( tJ 33 4 5 :: .e none none (.sto 4 (.t 4) (.t 33)) :: []) [4]) .ret) .skip)
def Qpl : List Item := .chk 37 none (.ld 1 false (.t 36)) :: .chk 41 none (.ld 1 false (.t 40)) :: .chk 45 none (.ld 1 false (.t 44)) :: .chk 46 none (.len (.t 45)) :: .chk 48 none (.iad 3 (.t 37) (.t 47)) :: .chk 49 none (.ld 3 true (.t 48)) :: .e none none (.sto 3 (.t 6) (.t 49)) :: []
def Qpm : List Item := .chk 37 none (.ld 1 false (.t 36)) :: iJ 48 3 37 47 :: tJ 49 3 48 :: eI 6 (.alloc [.str [], .sl true 1 [], .sl true 5 []]) :: Qpl
def Qpn : List Item := .e none none (.sto 4 (.t 7) (.t 52)) :: []
def Qpo : List Item := fJ 73 3 7 :: .e none none (.sto 1 (.t 73) (.t 72)) :: []
def Qpp : List Item := .chk 61 none (.ld 1 false (.t 60)) :: fI 71 (.bsl 4 [.t 70]) :: eI 72 (.app 4 (.t 61) (.t 71)) :: Qpo
def Qafw : SC := (.reg ( mJ 58 8 :: cJ 59 .add 58 1 :: mJ 8 59 :: []) [0, 4, 6, 7, 8])
def Q9c : SC := (.seq (.block 1 (.dreg 15 [0, 1, 2, 3, 4, 5, 6, 7, 8, 9, 10, 1, 11, 12, 13, 14] ( fJ 60 3 7 :: lJ 61 60 :: mJ 62 0 :: kJ 63 62 :: fJ 64 0 63 :: lJ 65 64 :: mJ 66 0 :: kJ 67 66 :: fJ 68 2 67 :: lJ 69 68 :: aJ 70 Qem [.t 65, .t 69, kI 2] :: Qpp) [0, 4, 6, 7, 8])) Qafw)
def Q4r : SC := (.seq (.seq (.reg ( mJ 53 8 :: fJ 54 1 6 :: lJ 55 54 :: nJ 56 55 :: bJ 57 .lss 53 56 :: []) [0, 4, 6, 7, 8, 57]) (.cond (.t 57) .skip (.exit 0))) Q9c)
def Qma : List Item := cJ 79 .eql 78 0 :: []
def Q9d : SC := (.cond (.t 79) (.seq (.reg ( tJ 80 4 7 :: .e none none (.sto 4 (.t 4) (.t 80)) :: []) [4]) .ret) .skip)
def Qmb : List Item := .chk 87 none (.ld 4 true (.t 7)) :: fI 97 (.bsl 4 [.t 87, .t 96]) :: fI 98 (.bld [.int .i64 0, .int .i64 0, .str [], .sl true 4 []] [(0, 1, .t 86), (3, 1, .t 97)]) :: .e none none (.sto 4 (.t 4) (.t 98)) :: []
def Qmc : List Item := .chk 87 none (.ld 4 true (.t 7)) :: .chk 91 none (.ld 1 false (.t 90)) :: .chk 95 none (.ld 1 false (.t 94)) :: aJ 96 Qem [.t 91, .t 95, kI 2] :: Qmb
def Q9e : SC := (.seq (.dreg 19 [0, 1, 2, 3, 4, 6, 7, 8, 9, 10, 11, 12, 13, 14, 5, 6, 10, 14, 15, 6, 16, 17, 18] ( mJ 81 0 :: kJ 82 81 :: fJ 83 0 82 :: lJ 84 83 :: fI 85 (.bsl 1 [kI 3, kI 4, kI 8, kI 10]) :: tJ 87 4 7 :: mJ 88 0 :: kJ 89 88 :: fJ 90 0 89 :: lJ 91 90 :: mJ 92 0 :: kJ 93 92 :: fJ 94 2 93 :: lJ 95 94 :: aJ 86 Q5 [.t 84, .t 85] :: Qmc) [4]) .ret)
def Q9f : SC := (.seq (.seq (.reg ( mJ 74 0 :: kJ 75 74 :: fJ 76 0 75 :: lJ 77 76 :: aJ 78 Ql [.t 77, kI 2] :: Qma) [0, 4, 7, 79]) Q9d) Q9e)
def Q9g : SC := (.seq (.seq (.reg ( fI 8 (.mv (kI 0)) :: []) [0, 4, 6, 7, 8]) (.block 0 (.loop Q4r))) Q9f)
def Q9h : SC := (.seq (.reg ( fJ 50 0 6 :: lJ 51 50 :: fI 52 (.bld [.int .i64 0, .int .i64 0, .str [], .sl true 4 []] [(0, 1, kI 13), (2, 1, .t 51)]) :: eI 7 (.alloc [.int .i64 0, .int .i64 0, .str [], .sl true 4 []]) :: Qpn) [0, 4, 6, 7]) Q9g)
def Qpi : SC := (.seq (.dreg 16 [0, 1, 2, 3, 4, 5, 6, 7, 8, 9, 10, 11, 12, 13, 3, 14, 15, 16, 3, 7, 11, 12, 14, 15, 17] ( mJ 34 0 :: kJ 35 34 :: fJ 36 1 35 :: lJ 37 36 :: mJ 38 0 :: kJ 39 38 :: fJ 40 0 39 :: lJ 41 40 :: mJ 42 0 :: kJ 43 42 :: fJ 44 1 43 :: lJ 45 44 :: nJ 46 45 :: aJ 47 Ql [.t 41, .t 46] :: Qpm) [0, 4, 6]) Q9h)
def Q9i : SC := (.seq (.seq (.reg ( mJ 19 0 :: kJ 20 19 :: fJ 21 1 20 :: lJ 22 21 :: nJ 23 22 :: cJ 24 .eql 23 0 :: mJ 25 24 :: gFm 26 25 0 :: gF 27 25 (.nck (.t 26)) :: gFf 28 25 0 27 :: gFl 29 25 28 :: .e (some 30) (some (25, false)) (.call Ql [.t 29, kI 4]) :: Qga) [0, 4, 5, 32]) s_l3Gen_expr_3) Qpi)
def Q9j : SC := (.seq (.dreg 10 [0, 1, 2, 3, 4, 5, 6, 7, 8, 9, 10, 3, 7, 11] ( mJ 9 0 :: kJ 10 9 :: fJ 11 0 10 :: lJ 12 11 :: mJ 13 0 :: kJ 14 13 :: fJ 15 2 14 :: lJ 16 15 :: mJ 17 1 :: aJ 18 Qem [.t 12, .t 16, .t 17] :: Qpk) [0, 4, 5]) Q9i)
def Qao3 : SC := (.seq (.reg ( eI 4 (.alloc [.int .i64 0, .int .i64 0, .str [], .sl true 4 []]) :: []) [0, 1, 4]) Q9j)
def Qha : List RS := [.cell 4 4 true]
theorem Qam2 : mFn prog Qa4 2 99 Qao3 Qha = true := by kernel_rfl
def Qao0 : List Item := oJ 17 16 :: []
def Qa7x : SC := (.cond (.t 17) (.seq (.reg ( fI 2 (.mv (.k (.c (.bool false)))) :: []) [2]) .ret) .skip)
def Qa7y : SC := (.reg ( mJ 9 3 :: cJ 10 .add 9 1 :: mJ 3 10 :: []) [1, 3])
def Qa7z : SC := (.seq (.block 1 (.seq (.reg ( fJ 11 1 1 :: lJ 12 11 :: mJ 13 3 :: iJ 14 1 12 13 :: lJ 15 14 :: aJ 16 Qc4 [.t 15] :: Qao0) [1, 3, 17]) Qa7x)) Qa7y)
def Qa4v : SC := (.seq (.seq (.reg ( mJ 4 3 :: fJ 5 1 1 :: lJ 6 5 :: nJ 7 6 :: bJ 8 .lss 4 7 :: []) [1, 3, 8]) (.cond (.t 8) .skip (.exit 0))) Qa7z)
def Q85 : List Item := fI 31 (.pick (.t 27) (.t 30) (.k (.c (.bool false)))) :: mJ 2 31 :: []
def Qao1 : List Item := mJ 21 20 :: gTf 22 21 1 1 :: gTl 23 21 22 :: gT 24 21 (.len (.t 23)) :: gT 25 21 (.bin 0 .leq (.t 24) (kI 3)) :: fI 26 (.pick (.t 21) (.t 25) (.k (.c (.bool false)))) :: mJ 27 26 :: gTf 28 27 2 1 :: gTl 29 27 28 :: .e (some 30) (some (27, true)) (.call Qi7 [.t 29, kI 4]) :: Q85
def Qa70 : SC := (.seq (.reg ( fJ 18 0 1 :: lJ 19 18 :: aJ 20 Qc4 [.t 19] :: Qao1) [2]) .ret)
def Qa71 : SC := (.seq (.seq (.reg ( fI 3 (.mv (kI 0)) :: []) [1, 3]) (.block 0 (.loop Qa4v))) Qa70)
def Qbb9 : SC := (.seq (.reg ( fI 1 (.box (.t 0)) :: fI 2 (.mv (.k (.c (.bool false)))) :: []) [1]) Qa71)
def Qa3s : List RS := [.tmp 2]
theorem Qbb2 : mFn prog Qare 1 32 Qbb9 Qa3s = true := by kernel_rfl
def Qaid : List Item := bJ 20 .add 12 19 :: mJ 3 20 :: []
def Qa4p : SC := (.reg ( mJ 10 4 :: cJ 11 .add 10 1 :: mJ 4 11 :: []) [1, 3, 4])
def Qa4q : SC := (.seq (.block 1 (.reg ( mJ 12 3 :: fJ 13 0 1 :: lJ 14 13 :: mJ 15 4 :: iJ 16 3 14 15 :: fJ 17 2 16 :: lJ 18 17 :: aJ 19 Qi6 [.t 18] :: Qaid) [1, 3, 4])) Qa4p)
def Qaz5 : SC := (.seq (.seq (.reg ( mJ 5 4 :: fJ 6 0 1 :: lJ 7 6 :: nJ 8 7 :: bJ 9 .lss 5 8 :: []) [1, 3, 4, 9]) (.cond (.t 9) .skip (.exit 0))) Qa4q)
def Qa4r : SC := (.seq (.reg ( mJ 21 3 :: mJ 2 21 :: []) [2]) .ret)
def Qa4s : SC := (.seq (.seq (.reg ( fI 4 (.mv (kI 0)) :: []) [1, 3, 4]) (.block 0 (.loop Qaz5))) Qa4r)
def Qa4t : SC := (.seq (.reg ( fI 3 (.mv (kI 0)) :: []) [1, 3]) Qa4s)
def Qbaz : SC := (.seq (.reg ( fI 1 (.box (.t 0)) :: fI 2 (.mv (kI 0)) :: []) [1]) Qa4t)
def Qa3r : List RS := [.tmp 2]
theorem Qbam : mFn prog Qaiy 1 22 Qbaz Qa3r = true := by kernel_rfl
def Q21 : List Item := mJ 5 4 :: gTm 6 5 0 :: gT 7 5 (.bin 0 .neq (.t 6) (kI 12)) :: fI 8 (.pick (.t 5) (.t 7) (.k (.c (.bool false)))) :: mJ 9 8 :: gTm 10 9 0 :: gT 11 9 (.bin 0 .neq (.t 10) (kI 13)) :: fI 12 (.pick (.t 9) (.t 11) (.k (.c (.bool false)))) :: mJ 2 12 :: []
def Qav2 : SC := (.seq (.reg ( mJ 3 0 :: aJ 4 Qbj [.t 3, kI 1, kI 14] :: Q21) [2]) .ret)
def Qa40 : SC := (.seq (.reg ( fI 2 (.mv (.k (.c (.bool false)))) :: []) [0]) Qav2)
def Qano : List RS := [.tmp 2]
theorem Qa3h : mFn prog Qfi 1 13 Qa40 Qano = true := by kernel_rfl
def Qaac : List Item := mJ 24 23 :: gFm 25 24 0 :: gF 26 24 (.bin 0 .eql (.t 25) (kI 12)) :: fI 27 (.pick (.t 24) (.k (.c (.bool true))) (.t 26)) :: mJ 21 27 :: []
def Qa0h : SC := (.cond (.t 21) (.seq (.reg ( fI 2 (.mv (kI 2)) :: []) [2]) .ret) .skip)
def Qa0i : SC := (.cond (.t 6) (.seq (.reg ( fI 2 (.mv (kI 1)) :: []) [2]) .ret) (.seq (.reg ( mJ 22 0 :: aJ 23 Qbj [.t 22, kI 3, kI 9] :: Qaac) [21]) Qa0h))
def Qa0j : SC := (.cond (.t 3) (.seq (.reg ( fI 2 (.mv (kI 0)) :: []) [2]) .ret) (.seq (.reg ( mJ 7 0 :: cJ 8 .eql 7 2 :: mJ 9 8 :: gFm 10 9 0 :: gF 11 9 (.bin 0 .eql (.t 10) (kI 10)) :: fI 12 (.pick (.t 9) (.k (.c (.bool true))) (.t 11)) :: mJ 13 12 :: gFm 14 13 0 :: gF 15 13 (.bin 0 .eql (.t 14) (kI 11)) :: fI 16 (.pick (.t 13) (.k (.c (.bool true))) (.t 15)) :: mJ 17 16 :: gFm 18 17 0 :: gF 19 17 (.bin 0 .eql (.t 18) (kI 13)) :: fI 20 (.pick (.t 17) (.k (.c (.bool true))) (.t 19)) :: mJ 6 20 :: []) [0, 6]) Qa0i))
def Qa0k : SC := (.seq (.reg ( fI 2 (.mv (kI (-1))) :: []) [2]) .ret)
def Qa0l : SC := (.seq (.block 0 (.seq (.reg ( mJ 4 0 :: cJ 5 .eql 4 1 :: mJ 3 5 :: []) [0, 3]) Qa0j)) Qa0k)
def Qa74 : SC := (.seq (.reg ( fI 2 (.mv (kI 0)) :: []) [0]) Qa0l)
def Qajy : List RS := [.tmp 2]
theorem Qa69 : mFn prog Qom 1 28 Qa74 Qajy = true := by kernel_rfl
def Qauv : SC := (.cond (.t 3) (.seq (.reg ( fI 2 (.mv (kI 1)) :: []) [2]) .ret) .skip)
def Qauw : SC := (.seq (.reg ( fI 2 (.mv (kI 0)) :: []) [2]) .ret)
def Qaux : SC := (.seq (.seq (.reg ( mJ 3 0 :: []) [3]) Qauv) Qauw)
def Qa4x : SC := (.seq (.reg ( fI 2 (.mv (kI 0)) :: []) [0]) Qaux)
def Q7s : List RS := [.tmp 2]
theorem Qa3f : mFn prog Qx4 1 4 Qa4x Q7s = true := by kernel_rfl
def Qags : SC := (.cond (.t 11) (.seq (.reg ( mJ 12 0 :: tJ 13 5 3 :: aJ 14 Qks [.t 12, .t 13] :: []) []) .ret) .skip)
def Qqo : List Item := mJ 4 32 :: []
def Qqp : List Item := fI 31 (.bsl 1 [.t 30]) :: eI 32 (.app 1 (.t 23) (.t 31)) :: Qqo
def Qagt : SC := (.reg ( mJ 21 5 :: cJ 22 .add 21 1 :: mJ 5 22 :: []) [0, 3, 4, 5])
def Qagu : SC := (.seq (.block 1 (.reg ( mJ 23 4 :: mJ 24 0 :: fJ 25 2 3 :: lJ 26 25 :: mJ 27 5 :: iJ 28 4 26 27 :: tJ 29 4 28 :: aJ 30 Qbx [.t 24, .t 29] :: Qqp) [0, 3, 4, 5])) Qagt)
def Qacm : SC := (.seq (.seq (.reg ( mJ 16 5 :: fJ 17 2 3 :: lJ 18 17 :: nJ 19 18 :: bJ 20 .lss 16 19 :: []) [0, 3, 4, 5, 20]) (.cond (.t 20) .skip (.exit 0))) Qagu)
def Qqq : List Item := kJ 58 44 :: fJ 59 5 58 :: .e none none (.sto 1 (.t 59) (.t 57)) :: []
def Qagv : SC := (.reg ( mJ 60 0 :: mJ 61 0 :: kJ 62 61 :: fJ 63 6 62 :: lJ 64 63 :: cJ 65 .add 64 1 :: kJ 66 60 :: fJ 67 6 66 :: .e none none (.sto 1 (.t 67) (.t 65)) :: []) [])
def Qagw : SC := (.seq (.dreg 17 [0, 1, 2, 3, 4, 5, 6, 7, 8, 9, 10, 11, 12, 13, 14, 15, 16] ( mJ 44 0 :: mJ 45 0 :: kJ 46 45 :: fJ 47 5 46 :: lJ 48 47 :: fJ 49 1 3 :: lJ 50 49 :: mJ 51 0 :: kJ 52 51 :: fJ 53 6 52 :: lJ 54 53 :: fI 55 (.bld [.str [], .int .i64 0, .int .i64 0] [(0, 1, .t 50), (1, 1, .t 54), (2, 1, kI 0)]) :: fI 56 (.bsl 3 [.t 55]) :: eI 57 (.app 3 (.t 48) (.t 56)) :: Qqq) [0]) Qagv)
def Qqr : List Item := mJ 75 4 :: aJ 76 Qaq [.t 70, kI 2, .t 74, kI 0, .t 75] :: []
def Qm2 : List Item := .chk 91 none (.iad 1 (.t 90) (kI 0)) :: .chk 92 none (.ld 1 false (.t 91)) :: aJ 96 Qaw [.t 89, kI 3, .t 92, .t 93, .t 95] :: []
def Qm3 : List Item := mJ 6 100 :: []
def Qm4 : List Item := mJ 7 102 :: []
def Qm5 : List Item := mJ 8 104 :: []
def Qab4 : SC := (.reg ( mJ 127 0 :: mJ 128 8 :: fI 129 (.bsl 1 [.t 128]) :: mJ 130 8 :: aJ 131 Qaw [.t 127, kI 1, kI 0, .t 129, .t 130] :: []) [])
def Qab5 : SC := (.seq (.reg ( mJ 123 0 :: fJ 124 4 3 :: lJ 125 124 :: aJ 126 Qb7 [.t 123, .t 125] :: []) [0, 8]) Qab4)
def Qab6 : SC := (.seq (.reg ( mJ 118 0 :: mJ 119 8 :: fI 120 (.bsl 1 [.t 119]) :: mJ 121 7 :: aJ 122 Qaw [.t 118, kI 1, kI 0, .t 120, .t 121] :: []) [0, 3, 8]) Qab5)
def Qab7 : SC := (.seq (.reg ( mJ 114 0 :: fJ 115 3 3 :: lJ 116 115 :: aJ 117 Qb7 [.t 114, .t 116] :: []) [0, 3, 7, 8]) Qab6)
def Qab8 : SC := (.seq (.reg ( mJ 105 0 :: mJ 106 4 :: fI 107 (.iad 1 (.t 106) (kI 0)) :: lJ 108 107 :: mJ 109 6 :: mJ 110 7 :: fI 111 (.bsl 1 [.t 109, .t 110]) :: mJ 112 6 :: aJ 113 Qaw [.t 105, kI 2, .t 108, .t 111, .t 112] :: []) [0, 3, 7, 8]) Qab7)
def Qab9 : SC := (.seq (.reg ( mJ 103 0 :: aJ 104 Qag [.t 103] :: Qm5) [0, 3, 4, 6, 7, 8]) Qab8)
def Qaca : SC := (.seq (.reg ( mJ 101 0 :: aJ 102 Qag [.t 101] :: Qm4) [0, 3, 4, 6, 7]) Qab9)
def Qacb : SC := (.cond (.t 97) (.seq (.reg ( mJ 99 0 :: aJ 100 Qag [.t 99] :: Qm3) [0, 3, 4, 6]) Qaca) .skip)
def Qacc : SC := (.cond (.t 87) (.dreg 8 [0, 1, 2, 3, 4, 5, 6, 2, 3, 7] ( mJ 89 0 :: mJ 90 4 :: fI 91 (.iad 1 (.t 90) (kI 0)) :: lJ 92 91 :: fI 93 (.bsl 1 []) :: mJ 94 0 :: aJ 95 Qag [.t 94] :: Qm2) []) (.seq (.reg ( cJ 98 .eql 34 5 :: mJ 97 98 :: []) [0, 3, 4, 97]) Qacb))
def Qacd : SC := (.cond (.t 82) (.reg ( mJ 84 0 :: mJ 85 4 :: aJ 86 Qaq [.t 84, kI 12, kI (-1), kI 0, .t 85] :: []) []) (.seq (.reg ( cJ 88 .eql 34 7 :: mJ 87 88 :: []) [0, 3, 4, 34, 87]) Qacc))
def Qace : SC := (.cond (.t 77) (.reg ( mJ 79 0 :: mJ 80 4 :: aJ 81 Qaq [.t 79, kI 13, kI (-1), kI 0, .t 80] :: []) []) (.seq (.reg ( cJ 83 .eql 34 4 :: mJ 82 83 :: []) [0, 3, 4, 34, 82]) Qacd))
def Qacf : SC := (.cond (.t 68) (.reg ( mJ 70 0 :: mJ 71 0 :: fJ 72 1 3 :: lJ 73 72 :: aJ 74 Qg0 [.t 71, .t 73] :: Qqr) []) (.seq (.reg ( cJ 78 .eql 34 3 :: mJ 77 78 :: []) [0, 3, 4, 34, 77]) Qace))
def Qacg : SC := (.cond (.t 35) (.seq (.reg ( mJ 37 0 :: mJ 38 0 :: kJ 39 38 :: fJ 40 6 39 :: lJ 41 40 :: mJ 42 4 :: aJ 43 Qaq [.t 37, kI 2, .t 41, kI 0, .t 42] :: []) [0, 3]) Qagw) (.seq (.reg ( cJ 69 .eql 34 2 :: mJ 68 69 :: []) [0, 3, 4, 34, 68]) Qacf))
def Qach : SC := (.block 2 (.seq (.reg ( cJ 36 .eql 34 1 :: mJ 35 36 :: []) [0, 3, 4, 34, 35]) Qacg))
def Qaci : SC := (.seq (.seq .gh (.reg ( fJ 33 0 3 :: lJ 34 33 :: []) [0, 3, 4, 34])) Qach)
def Qacj : SC := (.seq (.seq (.reg ( fI 5 (.mv (kI 0)) :: []) [0, 3, 4, 5]) (.block 0 (.loop Qacm))) Qaci)
def Qack : SC := (.seq (.reg ( fI 15 (.bsl 1 []) :: mJ 4 15 :: []) [0, 3, 4]) Qacj)
def Qacl : SC := (.seq (.seq (.reg ( fJ 9 0 3 :: lJ 10 9 :: cJ 11 .eql 10 6 :: []) [0, 3, 11]) Qags) Qack)
def Qap8 : SC := (.seq (.reg ( fI 3 (.box (.t 1)) :: []) [0, 3]) Qacl)
def Qo3 : List RS := []
theorem Qam9 : mFn prog Qkt 2 132 Qap8 Qo3 = true := by kernel_rfl
def Qp0 : List Item := mJ 5 19 :: []
def Qp1 : List Item := fI 42 (.bsl 4 [.t 41]) :: fI 43 (.bld [.int .i64 0, .str [], .sl true 4 [], .sl true 5 [], .sl true 5 []] [(0, 1, kI 2), (1, 1, .t 39), (2, 1, .t 42)]) :: fI 44 (.bsl 5 [.t 43]) :: mJ 4 44 :: []
def Qp2 : List Item := aJ 41 Qa4 [.t 40, kI 3] :: Qp1
def Qp3 : List Item := fI 52 (.bsl 5 [.t 51]) :: mJ 4 52 :: []
def Qp4 : List Item := aJ 51 Qgz [.t 48, .t 50] :: Qp3
def Qp5 : List Item := fI 62 (.bsl 4 [.t 61]) :: fI 63 (.bld [.int .i64 0, .str [], .sl true 4 [], .sl true 5 [], .sl true 5 []] [(0, 1, kI 3), (2, 1, .t 62)]) :: fI 64 (.bsl 5 [.t 63]) :: mJ 4 64 :: []
def Qp6 : List Item := fI 72 (.bsl 4 [.t 69, .t 71]) :: fI 73 (.bld [.int .i64 0, .str [], .sl true 4 [], .sl true 5 [], .sl true 5 []] [(0, 1, kI 4), (2, 1, .t 72)]) :: fI 74 (.bsl 5 [.t 73]) :: mJ 4 74 :: []
def Qp7 : List Item := mJ 70 0 :: aJ 71 Qa4 [.t 70, kI 2] :: Qp6
def Qp8 : List Item := fI 80 (.bsl 4 [.t 79]) :: fI 81 (.bld [.int .i64 0, .int .i64 0, .str [], .sl true 4 []] [(0, 1, kI 12), (3, 1, .t 80)]) :: fI 82 (.bsl 4 [.t 81]) :: fI 83 (.bld [.int .i64 0, .str [], .sl true 4 [], .sl true 5 [], .sl true 5 []] [(0, 1, kI 3), (2, 1, .t 82)]) :: fI 84 (.bsl 5 [.t 83]) :: mJ 4 84 :: []
def Qp9 : List Item := .e none none (.sto 5 (.t 6) (.t 95)) :: []
def Qmf : List Item := fI 95 (.bld [.int .i64 0, .str [], .sl true 4 [], .sl true 5 [], .sl true 5 []] [(0, 1, kI 5), (2, 1, .t 90), (3, 1, .t 94)]) :: eI 6 (.alloc [.int .i64 0, .str [], .sl true 4 [], .sl true 5 [], .sl true 5 []]) :: Qp9
def Qmg : List Item := fI 90 (.bsl 4 [.t 89]) :: mJ 91 0 :: mJ 92 1 :: cJ 93 .sub 92 1 :: aJ 94 Qb6 [.t 91, .t 93] :: Qmf
def Qmh : List Item := cJ 101 .eql 100 0 :: []
def Qmi : List Item := fJ 106 4 6 :: .e none none (.sto 1 (.t 106) (.t 105)) :: []
def Q9r : SC := (.cond (.t 101) (.reg ( mJ 102 0 :: mJ 103 1 :: cJ 104 .sub 103 1 :: aJ 105 Qb6 [.t 102, .t 104] :: Qmi) [6]) .skip)
def Qpy : SC := (.seq (.reg ( tJ 107 5 6 :: fI 108 (.bsl 5 [.t 107]) :: mJ 4 108 :: []) [4]) .ret)
def Q9s : SC := (.seq (.seq (.reg ( mJ 96 0 :: kJ 97 96 :: fJ 98 0 97 :: lJ 99 98 :: aJ 100 Ql [.t 99, kI 2] :: Qmh) [0, 1, 6, 101]) Q9r) Qpy)
def Qer : List Item := gT 118 112 (.bin 0 .eql (.t 117) (kI 0)) :: fI 119 (.pick (.t 112) (.t 118) (.k (.c (.bool false)))) :: mJ 109 119 :: []
def Qmj : List Item := fI 122 (.bsl 4 [.t 121]) :: fI 123 (.bld [.int .i64 0, .str [], .sl true 4 [], .sl true 5 [], .sl true 5 []] [(0, 1, kI 7), (2, 1, .t 122)]) :: fI 124 (.bsl 5 [.t 123]) :: mJ 4 124 :: []
def Qpz : SC := (.cond (.t 109) (.seq (.reg ( mJ 120 0 :: aJ 121 Qa4 [.t 120, kI 2] :: Qmj) [4]) .ret) .skip)
def Q9t : SC := (.cond (.t 85) (.seq (.reg ( mJ 88 0 :: aJ 89 Qa4 [.t 88, kI 3] :: Qmg) [0, 1, 6]) Q9s) (.seq (.reg ( mJ 110 5 :: cJ 111 .eql 110 11 :: mJ 112 111 :: gTm 113 112 0 :: gT 114 112 (.nck (.t 113)) :: gTf 115 112 0 114 :: gTl 116 112 115 :: .e (some 117) (some (112, true)) (.call Ql [.t 116, kI 3]) :: Qer) [0, 1, 109]) Qpz))
def Q9u : SC := (.cond (.t 75) (.seq (.reg ( mJ 78 0 :: aJ 79 Qe9 [.t 78] :: Qp8) [4]) .ret) (.seq (.reg ( mJ 86 5 :: cJ 87 .lss 86 11 :: mJ 85 87 :: []) [0, 1, 5, 85]) Q9t))
def Q9v : SC := (.cond (.t 65) (.seq (.reg ( mJ 68 0 :: aJ 69 Qe9 [.t 68] :: Qp7) [4]) .ret) (.seq (.reg ( mJ 76 5 :: cJ 77 .eql 76 8 :: mJ 75 77 :: []) [0, 1, 5, 75]) Q9u))
def Q9w : SC := (.cond (.t 53) (.seq (.reg ( mJ 60 0 :: aJ 61 Qa4 [.t 60, kI 3] :: Qp5) [4]) .ret) (.seq (.reg ( mJ 66 5 :: cJ 67 .eql 66 7 :: mJ 65 67 :: []) [0, 1, 5, 65]) Q9v))
def Q9x : SC := (.cond (.t 45) (.seq (.reg ( mJ 48 0 :: mJ 49 0 :: aJ 50 Qa4 [.t 49, kI 3] :: Qp4) [4]) .ret) (.seq (.reg ( mJ 54 5 :: cJ 55 .lss 54 7 :: mJ 56 55 :: gFm 57 56 1 :: gF 58 56 (.bin 0 .lss (.t 57) (kI 2)) :: fI 59 (.pick (.t 56) (.k (.c (.bool true))) (.t 58)) :: mJ 53 59 :: []) [0, 1, 5, 53]) Q9w))
def Q9y : SC := (.cond (.t 20) (.seq (.dreg 15 [0, 1, 2, 3, 4, 5, 6, 7, 9, 8, 10, 11, 12, 13, 14] ( mJ 31 0 :: kJ 32 31 :: fJ 33 0 32 :: lJ 34 33 :: mJ 35 0 :: kJ 36 35 :: fJ 37 2 36 :: lJ 38 37 :: mJ 40 0 :: aJ 39 Qfu [.t 34, .t 38] :: Qp2) [4]) .ret) (.seq (.reg ( mJ 46 5 :: cJ 47 .lss 46 5 :: mJ 45 47 :: []) [0, 1, 5, 45]) Q9x))
def Qmk : List Item := mJ 4 127 :: []
def Qgb : SC := (.seq (.reg ( mJ 125 0 :: mJ 126 1 :: aJ 127 Qkp [.t 125, .t 126] :: Qmk) [4]) .ret)
def Q9z : SC := (.seq (.block 0 (.seq (.reg ( mJ 21 5 :: cJ 22 .lss 21 3 :: mJ 23 22 :: gTm 24 23 0 :: gT 25 23 (.nck (.t 24)) :: gTf 26 23 2 25 :: gTl 27 23 26 :: gT 28 23 (.len (.t 27)) :: gT 29 23 (.bin 0 .gtr (.t 28) (kI 0)) :: fI 30 (.pick (.t 23) (.t 29) (.k (.c (.bool false)))) :: mJ 20 30 :: []) [0, 1, 5, 20]) Q9y)) Qgb)
def Q90 : SC := (.seq (.reg ( mJ 15 0 :: kJ 16 15 :: fJ 17 0 16 :: lJ 18 17 :: aJ 19 Ql [.t 18, kI 13] :: Qp0) [0, 1, 5]) Q9z)
def Q91 : SC := (.seq (.reg ( mJ 7 0 :: mJ 8 0 :: kJ 9 8 :: fJ 10 4 9 :: lJ 11 10 :: cJ 12 .sub 11 1 :: kJ 13 7 :: fJ 14 4 13 :: .e none none (.sto 1 (.t 14) (.t 12)) :: []) [0, 1]) Q90)
def Qao7 : SC := (.seq (.reg ( fI 4 (.mv (.k (.c (.sl true 5 [])))) :: []) [0, 1]) Q91)
def Qa6 : List RS := [.tmp 4]
theorem Qam4 : mFn prog Qkq 2 128 Qao7 Qa6 = true := by kernel_rfl
def Qtw : List Item := gF 13 10 (.bin 0 .eql (.t 12) (kI 0)) :: fI 14 (.pick (.t 10) (.k (.c (.bool true))) (.t 13)) :: []
def Q8q : List Item := .e none none (.sto 4 (.t 6) (.t 17)) :: []
def s_l2Expr_2 : SC := (.cond (.t 14) (.seq (.reg ( mJ 15 0 :: mJ 16 1 :: aJ 17 Q6k [.t 15, .t 16] :: Q8q) [6]) .ret) .skip)
def Q8r : List Item := cJ 20 .eql 19 0 :: []
def Q8s : List Item := fI 29 (.bsl 4 [.t 28]) :: fI 30 (.bld [.int .i64 0, .int .i64 0, .str [], .sl true 4 []] [(0, 1, .t 23), (3, 1, .t 29)]) :: .e none none (.sto 4 (.t 6) (.t 30)) :: []
def Q8t : List Item := mJ 24 0 :: mJ 25 1 :: mJ 26 2 :: cJ 27 .sub 26 1 :: aJ 28 Qem [.t 24, .t 25, .t 27] :: Q8s
def Qazv : SC := (.cond (.t 20) (.seq (.reg ( mJ 21 0 :: fI 22 (.bsl 1 [kI 11, kI 12, kI 11]) :: aJ 23 Q5 [.t 21, .t 22] :: Q8t) [6]) .ret) .skip)
def Q8u : List Item := mJ 7 33 :: []
def Q8v : List Item := fI 45 (.bsl 4 [.t 39, .t 44]) :: fI 46 (.bld [.int .i64 0, .int .i64 0, .str [], .sl true 4 []] [(0, 1, .t 34), (3, 1, .t 45)]) :: .e none none (.sto 4 (.t 6) (.t 46)) :: []
def Q8w : List Item := mJ 40 0 :: mJ 41 1 :: mJ 42 2 :: cJ 43 .sub 42 1 :: aJ 44 Qem [.t 40, .t 41, .t 43] :: Q8v
def Qatj : SC := (.seq (.reg ( mJ 34 7 :: mJ 35 0 :: mJ 36 1 :: mJ 37 2 :: cJ 38 .sub 37 1 :: aJ 39 Qem [.t 35, .t 36, .t 38] :: Q8w) [6]) .ret)
def Qatk : SC := (.seq (.reg ( mJ 31 0 :: fI 32 (.bsl 1 [kI 3, kI 3, kI 4, kI 5, kI 6, kI 7, kI 8, kI 9, kI 10]) :: aJ 33 Q5 [.t 31, .t 32] :: Q8u) [0, 1, 2, 6, 7]) Qatj)
def Q8p : SC := (.seq (.seq (.reg ( mJ 18 0 :: aJ 19 Ql [.t 18, kI 7] :: Q8r) [0, 1, 2, 6, 20]) Qazv) Qatk)
def Qatl : SC := (.seq (.seq (.reg ( mJ 8 2 :: cJ 9 .lss 8 2 :: mJ 10 9 :: gFm 11 10 0 :: .e (some 12) (some (10, false)) (.call Ql [.t 11, kI 4]) :: Qtw) [0, 1, 2, 6, 14]) s_l2Expr_2) Q8p)
def Qa7s : SC := (.seq (.reg ( eI 6 (.alloc [.int .i64 0, .int .i64 0, .str [], .sl true 4 []]) :: []) [0, 1, 2, 6]) Qatl)
def Q50 : List RS := [.cell 6 4 true]
theorem Qa62 : mFn prog Qem 3 47 Qa7s Q50 = true := by kernel_rfl
def Qiy : List Item := gT 13 10 (.not (.t 12)) :: fI 14 (.pick (.t 10) (.t 13) (.k (.c (.bool false)))) :: mJ 2 14 :: []
def Qs4 : List Item := mJ 5 4 :: gTm 6 5 0 :: gT 7 5 (.lens (.t 6)) :: gT 8 5 (.bin 0 .leq (.t 7) (kI 4)) :: fI 9 (.pick (.t 5) (.t 8) (.k (.c (.bool false)))) :: mJ 10 9 :: gTm 11 10 0 :: .e (some 12) (some (10, true)) (.call Qaix [.t 11]) :: Qiy
def Qal0 : SC := (.seq (.reg ( mJ 3 0 :: aJ 4 Qaiw [.t 3, kI 1] :: Qs4) [2]) .ret)
def Qaw8 : SC := (.seq (.reg ( fI 2 (.mv (.k (.c (.bool false)))) :: []) [0]) Qal0)
def Qtk : List RS := [.tmp 2]
theorem Qar1 : mFn prog Qc4 1 15 Qaw8 Qtk = true := by kernel_rfl
def Q2j : List Item := oJ 18 17 :: []
def Qauq : SC := (.cond (.t 18) (.seq (.reg ( fI 4 (.mv (.k (.c (.bool false)))) :: []) [4]) .ret) .skip)
def Qaur : SC := (.reg ( mJ 10 5 :: cJ 11 .add 10 1 :: mJ 5 11 :: []) [0, 1, 5])
def Qaus : SC := (.seq (.block 1 (.seq (.reg ( mJ 12 0 :: mJ 13 5 :: iJ 14 5 12 13 :: tJ 15 5 14 :: mJ 16 1 :: aJ 17 Q6n [.t 15, .t 16] :: Q2j) [0, 1, 5, 18]) Qauq)) Qaur)
def Qao9 : SC := (.seq (.seq (.reg ( mJ 6 5 :: mJ 7 0 :: nJ 8 7 :: bJ 9 .lss 6 8 :: []) [0, 1, 5, 9]) (.cond (.t 9) .skip (.exit 0))) Qaus)
def Qaut : SC := (.seq (.reg ( fI 4 (.mv (.k (.c (.bool true)))) :: []) [4]) .ret)
def Qauu : SC := (.seq (.seq (.reg ( fI 5 (.mv (kI 0)) :: []) [0, 1, 5]) (.block 0 (.loop Qao9))) Qaut)
def Qa4w : SC := (.seq (.reg ( fI 4 (.mv (.k (.c (.bool false)))) :: []) [0, 1]) Qauu)
def Q7r : List RS := [.tmp 4]
theorem Qa3e : mFn prog Qi7 2 19 Qa4w Q7r = true := by kernel_rfl
def Q19 : List Item := bJ 27 .add 20 26 :: mJ 3 27 :: []
def Q2a : List Item := .chk 23 none (.iad 5 (.t 21) (.t 22)) :: .chk 25 none (.ld 1 false (.t 24)) :: bJ 20 .add 13 19 :: aJ 26 Qi6 [.t 25] :: Q19
def Qat4 : SC := (.reg ( mJ 11 4 :: cJ 12 .add 11 1 :: mJ 4 12 :: []) [0, 3, 4])
def Qat5 : SC := (.seq (.block 1 (.dreg 16 [0, 1, 2, 3, 4, 5, 8, 9, 10, 11, 12, 6, 10, 12, 7, 13, 14, 15] ( mJ 13 3 :: mJ 14 0 :: mJ 15 4 :: iJ 16 5 14 15 :: fJ 17 3 16 :: lJ 18 17 :: mJ 21 0 :: mJ 22 4 :: iJ 23 5 21 22 :: fJ 24 4 23 :: lJ 25 24 :: aJ 19 Qi6 [.t 18] :: Q2a) [0, 3, 4])) Qat4)
def Qaoz : SC := (.seq (.seq (.reg ( mJ 7 4 :: mJ 8 0 :: nJ 9 8 :: bJ 10 .lss 7 9 :: []) [0, 3, 4, 10]) (.cond (.t 10) .skip (.exit 0))) Qat5)
def Qat6 : SC := (.seq (.reg ( mJ 28 3 :: mJ 2 28 :: []) [2]) .ret)
def Qat7 : SC := (.seq (.seq (.reg ( fI 4 (.mv (kI 0)) :: []) [0, 3, 4]) (.block 0 (.loop Qaoz))) Qat6)
def Qat8 : SC := (.seq (.reg ( mJ 5 0 :: nJ 6 5 :: mJ 3 6 :: []) [0, 3]) Qat7)
def Qa4u : SC := (.seq (.reg ( fI 2 (.mv (kI 0)) :: []) [0]) Qat8)
def Qann : List RS := [.tmp 2]
theorem Qa3d : mFn prog Qi6 1 29 Qa4u Qann = true := by kernel_rfl
def Qqk : List Item := mJ 4 9 :: []
def Qql : List Item := mJ 5 11 :: []
def Qqm : List Item := mJ 6 13 :: []
def Qqn : List Item := mJ 7 24 :: []
def Qagl : SC := (.reg ( mJ 36 0 :: mJ 37 4 :: fI 38 (.bsl 1 [.t 37]) :: mJ 39 6 :: aJ 40 Qaw [.t 36, kI 1, kI 0, .t 38, .t 39] :: []) [])
def Qagm : SC := (.seq (.reg ( mJ 32 0 :: fJ 33 3 3 :: lJ 34 33 :: aJ 35 Qb7 [.t 32, .t 34] :: []) [0, 4, 6]) Qagl)
def Qagn : SC := (.seq (.reg ( mJ 25 0 :: mJ 26 7 :: mJ 27 5 :: mJ 28 6 :: fI 29 (.bsl 1 [.t 27, .t 28]) :: mJ 30 5 :: aJ 31 Qaw [.t 25, kI 2, .t 26, .t 29, .t 30] :: []) [0, 3, 4, 6]) Qagm)
def Qago : SC := (.seq (.reg ( mJ 19 0 :: fJ 20 2 3 :: lJ 21 20 :: fI 22 (.iad 4 (.t 21) (kI 0)) :: tJ 23 4 22 :: aJ 24 Qbx [.t 19, .t 23] :: Qqn) [0, 3, 4, 5, 6, 7]) Qagn)
def Qagp : SC := (.seq (.reg ( mJ 14 0 :: mJ 15 4 :: fI 16 (.bsl 1 [.t 15]) :: mJ 17 4 :: aJ 18 Qaw [.t 14, kI 1, kI 0, .t 16, .t 17] :: []) [0, 3, 4, 5, 6]) Qago)
def Qagq : SC := (.seq (.reg ( mJ 12 0 :: aJ 13 Qag [.t 12] :: Qqm) [0, 3, 4, 5, 6]) Qagp)
def Qab2 : SC := (.seq (.reg ( mJ 10 0 :: aJ 11 Qag [.t 10] :: Qql) [0, 3, 4, 5]) Qagq)
def Qab3 : SC := (.seq (.reg ( mJ 8 0 :: aJ 9 Qag [.t 8] :: Qqk) [0, 3, 4]) Qab2)
def Qap7 : SC := (.seq (.reg ( fI 3 (.box (.t 1)) :: []) [0, 3]) Qab3)
def Q1f : List RS := []
theorem Qam8 : mFn prog Qks 2 41 Qap7 Q1f = true := by kernel_rfl
def Qqe : List Item := mJ 4 17 :: []
def Qqf : List Item := .chk 15 none (.ld 1 false (.t 14)) :: aJ 17 Qaq [.t 11, kI 1, .t 13, .t 15, .t 16] :: Qqe
def Qqg : List Item := mJ 4 23 :: []
def Qqh : List Item := mJ 4 28 :: []
def Qagd : SC := (.cond (.t 24) (.seq (.reg ( mJ 26 0 :: tJ 27 4 3 :: aJ 28 Qoo [.t 26, .t 27] :: Qqh) [4]) .ret) .skip)
def Qage : SC := (.cond (.t 18) (.seq (.reg ( mJ 20 0 :: fJ 21 2 3 :: lJ 22 21 :: aJ 23 Qg0 [.t 20, .t 22] :: Qqg) [4]) .ret) (.seq (.reg ( cJ 25 .eql 8 10 :: mJ 24 25 :: []) [0, 3, 24]) Qagd))
def Qagf : SC := (.cond (.t 9) (.seq (.dreg 8 [0, 1, 3, 4, 5, 2, 4, 6, 7] ( mJ 11 0 :: mJ 12 0 :: fJ 14 1 3 :: lJ 15 14 :: fI 16 (.bsl 1 []) :: aJ 13 Qay [.t 12] :: Qqf) [4]) .ret) (.seq (.reg ( cJ 19 .eql 8 2 :: mJ 18 19 :: []) [0, 3, 8, 18]) Qage))
def Qagg : SC := (.block 0 (.seq (.reg ( cJ 10 .eql 8 1 :: mJ 9 10 :: []) [0, 3, 8, 9]) Qagf))
def Qqi : List Item := mJ 5 46 :: []
def Qqj : List Item := fI 45 (.bsl 1 [.t 44]) :: eI 46 (.app 1 (.t 37) (.t 45)) :: Qqi
def Qabp : SC := (.reg ( mJ 35 6 :: cJ 36 .add 35 1 :: mJ 6 36 :: []) [0, 3, 5, 6])
def Qabq : SC := (.seq (.block 2 (.reg ( mJ 37 5 :: mJ 38 0 :: fJ 39 3 3 :: lJ 40 39 :: mJ 41 6 :: iJ 42 4 40 41 :: tJ 43 4 42 :: aJ 44 Qbx [.t 38, .t 43] :: Qqj) [0, 3, 5, 6])) Qabp)
def Q40 : SC := (.seq (.seq (.reg ( mJ 30 6 :: fJ 31 3 3 :: lJ 32 31 :: nJ 33 32 :: bJ 34 .lss 30 33 :: []) [0, 3, 5, 6, 34]) (.cond (.t 34) .skip (.exit 1))) Qabq)
def Qmt : List Item := mJ 4 55 :: []
def Qmu : List Item := mJ 54 5 :: aJ 55 Qaq [.t 51, kI 10, .t 53, kI 0, .t 54] :: Qmt
def Qmv : List Item := mJ 4 62 :: []
def Qmw : List Item := mJ 61 5 :: aJ 62 Qaq [.t 58, kI 11, .t 60, kI 0, .t 61] :: Qmv
def Qmx : List Item := mJ 4 76 :: []
def Qmy : List Item := aJ 76 Qaq [.t 65, kI 14, .t 67, .t 74, .t 75] :: Qmx
def Qmz : List Item := .chk 71 none (.ld 1 true (.t 70)) :: .chk 73 none (.ld 1 false (.t 72)) :: aJ 74 Qx6 [.t 71, .t 73] :: Qmy
def Qabr : SC := (.cond (.t 63) (.seq (.dreg 13 [0, 1, 3, 4, 5, 6, 7, 8, 10, 2, 6, 8, 9, 11, 12] ( mJ 65 0 :: mJ 66 0 :: mJ 68 0 :: kJ 69 68 :: fJ 70 0 69 :: tJ 71 1 70 :: fJ 72 2 3 :: lJ 73 72 :: mJ 75 5 :: aJ 67 Qay [.t 66] :: Qmz) [4]) .ret) .skip)
def Qabs : SC := (.cond (.t 56) (.seq (.reg ( mJ 58 0 :: mJ 59 0 :: aJ 60 Qay [.t 59] :: Qmw) [4]) .ret) (.seq (.reg ( cJ 64 .eql 48 13 :: mJ 63 64 :: []) [0, 3, 5, 63]) Qabr))
def Qabt : SC := (.cond (.t 49) (.seq (.reg ( mJ 51 0 :: mJ 52 0 :: aJ 53 Qay [.t 52] :: Qmu) [4]) .ret) (.seq (.reg ( cJ 57 .eql 48 12 :: mJ 56 57 :: []) [0, 3, 5, 48, 56]) Qabs))
def Qabu : SC := (.block 3 (.seq (.reg ( cJ 50 .eql 48 11 :: mJ 49 50 :: []) [0, 3, 5, 48, 49]) Qabt))
def Qm0 : List Item := mJ 4 83 :: []
def Qm1 : List Item := .chk 79 none (.ld 1 false (.t 78)) :: aJ 83 Qaq [.t 77, .t 79, .t 81, kI 0, .t 82] :: Qm0
def Qabv : SC := (.seq (.dreg 8 [0, 1, 2, 3, 5, 4, 2, 6, 7] ( mJ 77 0 :: fJ 78 0 3 :: lJ 79 78 :: mJ 80 0 :: mJ 82 5 :: aJ 81 Qay [.t 80] :: Qm1) [4]) .ret)
def Qabw : SC := (.seq (.seq (.seq .gh (.reg ( fJ 47 0 3 :: lJ 48 47 :: []) [0, 3, 5, 48])) Qabu) Qabv)
def Qabx : SC := (.seq (.seq (.reg ( fI 6 (.mv (kI 0)) :: []) [0, 3, 5, 6]) (.block 1 (.loop Q40))) Qabw)
def Qaby : SC := (.seq (.reg ( fI 29 (.bsl 1 []) :: mJ 5 29 :: []) [0, 3, 5]) Qabx)
def Qabz : SC := (.seq (.seq (.reg ( fJ 7 0 3 :: lJ 8 7 :: []) [0, 3, 8]) Qagg) Qaby)
def Qap5 : SC := (.seq (.reg ( fI 3 (.box (.t 1)) :: fI 4 (.mv (kI 0)) :: []) [0, 3]) Qabz)
def Qo2 : List RS := [.tmp 4]
theorem Qam6 : mFn prog Qbx 2 84 Qap5 Qo2 = true := by kernel_rfl
def Qall : SC := (.cond (.t 25) (.seq (.reg ( mJ 26 0 :: kJ 27 26 :: fJ 28 5 27 :: lJ 29 28 :: mJ 30 5 :: iJ 31 3 29 30 :: fJ 32 1 31 :: lJ 33 32 :: mJ 4 33 :: []) [4]) .ret) .skip)
def Qalm : SC := (.reg ( mJ 14 5 :: cJ 15 .sub 14 1 :: mJ 5 15 :: []) [0, 1, 5])
def Qaln : SC := (.seq (.block 1 (.seq (.reg ( mJ 16 0 :: kJ 17 16 :: fJ 18 5 17 :: lJ 19 18 :: mJ 20 5 :: iJ 21 3 19 20 :: fJ 22 0 21 :: lJ 23 22 :: mJ 24 1 :: bJ 25 .eql 23 24 :: []) [0, 1, 5, 25]) Qall)) Qalm)
def Qagr : SC := (.seq (.seq (.reg ( mJ 12 5 :: cJ 13 .geq 12 0 :: []) [0, 1, 5, 13]) (.cond (.t 13) .skip (.exit 0))) Qaln)
def Qalo : SC := (.seq (.reg ( fI 4 (.mv (kI (-1))) :: []) [4]) .ret)
def Qalp : SC := (.seq (.seq (.reg ( mJ 6 0 :: kJ 7 6 :: fJ 8 5 7 :: lJ 9 8 :: nJ 10 9 :: cJ 11 .sub 10 1 :: mJ 5 11 :: []) [0, 1, 5]) (.block 0 (.loop Qagr))) Qalo)
def Qawz : SC := (.seq (.reg ( fI 4 (.mv (kI 0)) :: []) [0, 1]) Qalp)
def Qti : List RS := [.tmp 4]
theorem Qarz : mFn prog Qg0 2 34 Qawz Qti = true := by kernel_rfl
def Qv2 : List Item := iJ 10 1 5 9 :: lJ 11 10 :: mJ 4 11 :: []
def Qaox : SC := (.seq (.reg ( mJ 5 1 :: mJ 6 0 :: mJ 7 1 :: nJ 8 7 :: aJ 9 Ql [.t 6, .t 8] :: Qv2) [4]) .ret)
def Qaz4 : SC := (.seq (.reg ( fI 4 (.mv (.k (.c (.str [])))) :: []) [0, 1]) Qaox)
def Qah6 : List RS := [.tmp 4]
theorem Qazb : mFn prog Qfu 2 12 Qaz4 Qah6 = true := by kernel_rfl
def Qss : List Item := mJ 5 7 :: []
def Qst : List Item := kJ 18 8 :: fJ 19 2 18 :: .e none none (.sto 1 (.t 19) (.t 17)) :: []
def Qsu : List Item := mJ 15 5 :: fI 16 (.bsl 1 [.t 15]) :: eI 17 (.app 1 (.t 14) (.t 16)) :: Qst
def Qak7 : SC := (.seq (.reg ( mJ 20 5 :: tJ 21 4 3 :: fI 22 (.bsl 4 [.t 21]) :: fI 23 (.bld [.int .i64 0, .str [], .sl true 4 [], .sl true 5 [], .sl true 5 []] [(0, 1, kI 1), (1, 1, .t 20), (2, 1, .t 22)]) :: .e none none (.sto 5 (.t 4) (.t 23)) :: []) [4]) .ret)
def Qak8 : SC := (.seq (.reg ( mJ 8 0 :: fI 9 (.bsl 1 []) :: mJ 10 0 :: kJ 11 10 :: fJ 12 2 11 :: lJ 13 12 :: eI 14 (.app 1 (.t 9) (.t 13)) :: Qsu) [3, 4, 5]) Qak7)
def Qak9 : SC := (.seq (.reg ( mJ 6 0 :: aJ 7 Qh8 [.t 6] :: Qss) [0, 3, 4, 5]) Qak8)
def Qat9 : SC := (.seq (.reg ( fI 3 (.box (.t 1)) :: eI 4 (.alloc [.int .i64 0, .str [], .sl true 4 [], .sl true 5 [], .sl true 5 []]) :: []) [0, 3, 4]) Qak9)
def Q7q : List RS := [.cell 4 5 true]
theorem Qarw : mFn prog Qgz 2 24 Qat9 Q7q = true := by kernel_rfl
def Qpg : List Item := fI 11 (.bld [.int .i64 0, .int .i64 0, .str [], .sl true 4 []] [(0, 1, kI 1), (1, 1, .t 10)]) :: fI 12 (.bsl 4 [.t 4, .t 11]) :: fI 13 (.bld [.int .i64 0, .int .i64 0, .str [], .sl true 4 []] [(0, 1, kI 7), (3, 1, .t 12)]) :: .e none none (.sto 4 (.t 2) (.t 13)) :: []
def Qph : List Item := .chk 8 none (.ld 1 false (.t 7)) :: aJ 10 Q5 [.t 8, .t 9] :: Qpg
def Qafv : SC := (.seq (.dreg 12 [0, 2, 3, 4, 5, 6, 1, 5, 7, 8, 9, 10, 11] ( mJ 3 0 :: mJ 5 0 :: kJ 6 5 :: fJ 7 0 6 :: lJ 8 7 :: fI 9 (.bsl 1 [kI 16, kI 16, kI 16, kI 8, kI 17, kI 0]) :: aJ 4 Qa4 [.t 3, kI 2] :: Qph) [2]) .ret)
def Qao2 : SC := (.seq (.reg ( eI 2 (.alloc [.int .i64 0, .int .i64 0, .str [], .sl true 4 []]) :: []) [0, 2]) Qafv)
def Q1b : List RS := [.cell 2 4 true]
theorem Qam1 : mFn prog Qe9 1 14 Qao2 Q1b = true := by kernel_rfl
def Qpr : List Item := .e none none (.sto 5 (.t 5) (.t 17)) :: []
def Qps : List Item := eI 5 (.alloc [.int .i64 0, .str [], .sl true 4 [], .sl true 5 [], .sl true 5 []]) :: Qpr
def Qpt : List Item := fI 16 (.bld [.int .i64 0, .int .i64 0, .str [], .sl true 4 []] [(0, 1, kI 1), (1, 1, .t 15)]) :: aJ 17 Qgz [.t 9, .t 16] :: Qps
def Qpu : List Item := .e none none (.sto 4 (.t 6) (.t 20)) :: []
def Qpv : List Item := mJ 7 24 :: []
def Qpw : List Item := .e none none (.sto 5 (.t 8) (.t 32)) :: []
def Qpx : List Item := .chk 41 none (.ld 5 true (.t 5)) :: .chk 42 none (.ld 4 true (.t 6)) :: fI 48 (.bld [.int .i64 0, .str [], .sl true 4 [], .sl true 5 [], .sl true 5 []] [(0, 1, kI 6), (2, 1, .t 43), (3, 1, .t 47)]) :: fI 49 (.bsl 5 [.t 41, .t 48]) :: mJ 4 49 :: []
def Qafx : SC := (.seq (.dreg 10 [0, 1, 2, 3, 4, 5, 6, 0, 1, 7, 8, 9] ( tJ 41 5 5 :: tJ 42 4 6 :: fI 43 (.bsl 4 [.t 42]) :: mJ 44 7 :: tJ 45 5 8 :: fI 46 (.bsl 5 [.t 45]) :: eI 47 (.app 5 (.t 44) (.t 46)) :: Qpx) [4]) .ret)
def Qafy : SC := (.seq (.reg ( mJ 33 0 :: mJ 34 0 :: kJ 35 34 :: fJ 36 4 35 :: lJ 37 36 :: cJ 38 .sub 37 2 :: kJ 39 33 :: fJ 40 4 39 :: .e none none (.sto 1 (.t 40) (.t 38)) :: []) [5, 6, 7, 8]) Qafx)
def Qafz : SC := (.seq (.reg ( fJ 25 1 5 :: lJ 26 25 :: tJ 27 4 6 :: fI 28 (.bld [.int .i64 0, .int .i64 0, .str [], .sl true 4 []] [(0, 1, kI 1), (1, 1, kI 1)]) :: fI 29 (.bsl 4 [.t 27, .t 28]) :: fI 30 (.bld [.int .i64 0, .int .i64 0, .str [], .sl true 4 []] [(0, 1, kI 4), (3, 1, .t 29)]) :: fI 31 (.bsl 4 [.t 30]) :: fI 32 (.bld [.int .i64 0, .str [], .sl true 4 [], .sl true 5 [], .sl true 5 []] [(0, 1, kI 2), (1, 1, .t 26), (2, 1, .t 31)]) :: eI 8 (.alloc [.int .i64 0, .str [], .sl true 4 [], .sl true 5 [], .sl true 5 []]) :: Qpw) [0, 5, 6, 7, 8]) Qafy)
def Q9o : SC := (.seq (.reg ( mJ 21 0 :: mJ 22 1 :: cJ 23 .sub 22 1 :: aJ 24 Qb6 [.t 21, .t 23] :: Qpv) [0, 5, 6, 7]) Qafz)
def Q9p : SC := (.seq (.reg ( fJ 18 1 5 :: lJ 19 18 :: fI 20 (.bld [.int .i64 0, .int .i64 0, .str [], .sl true 4 []] [(0, 1, kI 2), (2, 1, .t 19)]) :: eI 6 (.alloc [.int .i64 0, .int .i64 0, .str [], .sl true 4 []]) :: Qpu) [0, 1, 5, 6]) Q9o)
def Q9q : SC := (.seq (.reg ( mJ 9 0 :: mJ 10 0 :: kJ 11 10 :: fJ 12 0 11 :: lJ 13 12 :: fI 14 (.bsl 1 [kI 2, kI 3, kI 1, kI 0, kI 5]) :: aJ 15 Q5 [.t 13, .t 14] :: Qpt) [0, 1, 5]) Q9p)
def Qao6 : SC := (.seq (.reg ( fI 4 (.mv (.k (.c (.sl true 5 [])))) :: []) [0, 1]) Q9q)
def Q1c : List RS := [.tmp 4]
theorem Qam3 : mFn prog Qkp 2 50 Qao6 Q1c = true := by kernel_rfl
def Qtz : List Item := gF 11 8 (.bin 0 .eql (.t 10) (kI 0)) :: fI 12 (.pick (.t 8) (.k (.c (.bool true))) (.t 11)) :: []
def Q82 : List Item := fI 16 (.bld [.int .i64 0, .int .i64 0, .str [], .sl true 4 []] [(0, 1, kI 1), (1, 1, .t 15)]) :: .e none none (.sto 4 (.t 4) (.t 16)) :: []
def s_l2Leaf_2 : SC := (.cond (.t 12) (.seq (.reg ( mJ 13 0 :: fI 14 (.bsl 1 [kI 0, kI 1, kI 2, kI 3, kI 5, kI 7, kI 15, kI 16, kI 100, kI 255]) :: aJ 15 Q5 [.t 13, .t 14] :: Q82) [4]) .ret) .skip)
def Q83 : List Item := fI 20 (.bld [.int .i64 0, .int .i64 0, .str [], .sl true 4 []] [(0, 1, kI 2), (2, 1, .t 19)]) :: .e none none (.sto 4 (.t 4) (.t 20)) :: []
def Qaic : SC := (.seq (.reg ( mJ 17 0 :: mJ 18 1 :: aJ 19 Qfu [.t 17, .t 18] :: Q83) [4]) .ret)
def Qaz3 : SC := (.seq (.seq (.reg ( mJ 5 1 :: nJ 6 5 :: cJ 7 .eql 6 0 :: mJ 8 7 :: gFm 9 8 0 :: .e (some 10) (some (8, false)) (.call Ql [.t 9, kI 3]) :: Qtz) [0, 1, 4, 12]) s_l2Leaf_2) Qaic)
def Qa7v : SC := (.seq (.reg ( eI 4 (.alloc [.int .i64 0, .int .i64 0, .str [], .sl true 4 []]) :: []) [0, 1, 4]) Qaz3)
def Q51 : List RS := [.cell 4 4 true]
theorem Qa65 : mFn prog Q6k 2 21 Qa7v Q51 = true := by kernel_rfl
def Qah8 : List Item := mJ 16 1 :: bJ 17 .neq 15 16 :: []
def Qa4a : SC := (.cond (.t 17) (.seq (.reg ( fI 4 (.mv (.k (.c (.bool false)))) :: []) [4]) .ret) .skip)
def Qa4b : SC := (.reg ( mJ 10 5 :: cJ 11 .add 10 1 :: mJ 5 11 :: []) [0, 1, 5])
def Qa4c : SC := (.seq (.block 1 (.seq (.reg ( mJ 12 0 :: mJ 13 5 :: fI 14 (.idx (.t 12) (.t 13)) :: aJ 15 Qx2 [.t 14] :: Qah8) [0, 1, 5, 17]) Qa4a)) Qa4b)
def Qazt : SC := (.seq (.seq (.reg ( mJ 6 5 :: mJ 7 0 :: fI 8 (.lens (.t 7)) :: bJ 9 .lss 6 8 :: []) [0, 1, 5, 9]) (.cond (.t 9) .skip (.exit 0))) Qa4c)
def Qa4d : SC := (.seq (.reg ( mJ 18 0 :: fI 19 (.lens (.t 18)) :: cJ 20 .gtr 19 0 :: mJ 4 20 :: []) [4]) .ret)
def Qa4e : SC := (.seq (.seq (.reg ( fI 5 (.mv (kI 0)) :: []) [0, 1, 5]) (.block 0 (.loop Qazt))) Qa4d)
def Qbax : SC := (.seq (.reg ( fI 4 (.mv (.k (.c (.bool false)))) :: []) [0, 1]) Qa4e)
def Qar9 : List RS := [.tmp 4]
theorem Qbak : mFn prog Qaiw 2 21 Qbax Qar9 = true := by kernel_rfl
def Qah9 : List Item := mJ 3 5 :: []
def Qa4g : SC := (.cond (.t 17) (.seq (.reg ( fI 2 (.mv (.k (.c (.bool true)))) :: []) [2]) .ret) .skip)
def Qa4h : SC := (.reg ( mJ 10 4 :: cJ 11 .add 10 1 :: mJ 4 11 :: []) [0, 3, 4])
def Qa4i : SC := (.seq (.block 1 (.seq (.reg ( mJ 12 3 :: mJ 13 4 :: iJ 14 1 12 13 :: lJ 15 14 :: mJ 16 0 :: bJ 17 .eql 15 16 :: []) [0, 3, 4, 17]) Qa4g)) Qa4h)
def Qazu : SC := (.seq (.seq (.reg ( mJ 6 4 :: mJ 7 3 :: nJ 8 7 :: bJ 9 .lss 6 8 :: []) [0, 3, 4, 9]) (.cond (.t 9) .skip (.exit 0))) Qa4i)
def Qa4j : SC := (.seq (.reg ( fI 2 (.mv (.k (.c (.bool false)))) :: []) [2]) .ret)
def Qa4k : SC := (.seq (.seq (.reg ( fI 4 (.mv (kI 0)) :: []) [0, 3, 4]) (.block 0 (.loop Qazu))) Qa4j)
def Qa4l : SC := (.seq (.reg ( aJ 5 Qic [] :: Qah9) [0, 3]) Qa4k)
def Qbay : SC := (.seq (.reg ( fI 2 (.mv (.k (.c (.bool false)))) :: []) [0]) Qa4l)
def Qasa : List RS := [.tmp 2]
theorem Qbal : mFn prog Qaix 1 18 Qbay Qasa = true := by kernel_rfl
def Qle : List Item := .chk 17 (some (15, false)) (.ld 1 false (.t 16)) :: .chk 18 (some (15, false)) (.len (.t 17)) :: gF 22 15 (.bin 0 .neq (.t 18) (.t 21)) :: fI 23 (.pick (.t 15) (.k (.c (.bool true))) (.t 22)) :: []
def Qt0 : List Item := gF 13 9 (.not (.t 12)) :: fI 14 (.pick (.t 9) (.k (.c (.bool true))) (.t 13)) :: mJ 15 14 :: gFf 16 15 2 2 :: gFl 17 15 16 :: gF 18 15 (.len (.t 17)) :: gFf 19 15 0 2 :: gFl 20 15 19 :: .e (some 21) (some (15, false)) (.call Q6l [.t 20]) :: Qle
def s_l3Stmt_2 : SC := (.cond (.t 23) (.seq (.reg ( fI 4 (.mv (.k (.c (.bool false)))) :: []) [4]) .ret) .skip)
def Qaaa : List Item := fI 36 (.bin 1 .neq (.t 32) (.t 35)) :: mJ 37 36 :: gFm 38 37 5 :: gF 39 37 (.not (.t 38)) :: gFm 40 37 39 :: gTf 41 40 1 2 :: gTl 42 40 41 :: gT 43 40 (.bin 0 .neq (.t 42) (.k (.c (.str [])))) :: gF 44 37 (.pick (.t 40) (.t 43) (.k (.c (.bool false)))) :: fI 45 (.pick (.t 37) (.k (.c (.bool true))) (.t 44)) :: []
def Qa0d : SC := (.cond (.t 45) (.seq (.reg ( fI 4 (.mv (.k (.c (.bool false)))) :: []) [4]) .ret) .skip)
def Qaab : List Item := oJ 59 58 :: []
def Qa0e : SC := (.cond (.t 59) (.seq (.reg ( fI 4 (.mv (.k (.c (.bool false)))) :: []) [4]) .ret) .skip)
def Qa0f : SC := (.reg ( mJ 51 6 :: cJ 52 .add 51 1 :: mJ 6 52 :: []) [1, 2, 6])
def Qa0g : SC := (.seq (.block 1 (.seq (.reg ( fJ 53 2 2 :: lJ 54 53 :: mJ 55 6 :: iJ 56 4 54 55 :: tJ 57 4 56 :: aJ 58 Qfx [.t 57] :: Qaab) [1, 2, 6, 59]) Qa0e)) Qa0f)
def Qaup : SC := (.seq (.seq (.reg ( mJ 46 6 :: fJ 47 2 2 :: lJ 48 47 :: nJ 49 48 :: bJ 50 .lss 46 49 :: []) [1, 2, 6, 50]) (.cond (.t 50) .skip (.exit 0))) Qa0g)
def Qauh : SC := (.cond (.t 70) (.seq (.reg ( fI 4 (.mv (.k (.c (.bool false)))) :: []) [4]) .ret) .skip)
def Qaui : SC := (.cond (.t 95) (.seq (.reg ( fI 4 (.mv (.k (.c (.bool false)))) :: []) [4]) .ret) .skip)
def Qqa : List Item := fI 107 (.pick (.t 101) (.t 106) (.k (.c (.bool false)))) :: mJ 4 107 :: []
def Q2i : List Item := mJ 101 100 :: gTf 102 101 4 2 :: gTl 103 101 102 :: gTm 104 101 1 :: gT 105 101 (.bin 0 .sub (.t 104) (kI 1)) :: .e (some 106) (some (101, true)) (.call Qi7 [.t 103, .t 105]) :: Qqa
def Qauj : SC := (.seq (.reg ( fJ 96 3 2 :: lJ 97 96 :: mJ 98 1 :: cJ 99 .sub 98 1 :: aJ 100 Qi7 [.t 97, .t 99] :: Q2i) [4]) .ret)
def Qauk : SC := (.seq (.seq (.reg ( fJ 71 4 2 :: lJ 72 71 :: nJ 73 72 :: cJ 74 .gtr 73 0 :: mJ 75 74 :: gTf 76 75 0 2 :: gTl 77 75 76 :: gT 78 75 (.bin 0 .neq (.t 77) (kI 5)) :: fI 79 (.pick (.t 75) (.t 78) (.k (.c (.bool false)))) :: mJ 80 79 :: gFf 81 80 3 2 :: gFl 82 80 81 :: gF 83 80 (.len (.t 82)) :: gF 84 80 (.bin 0 .gtr (.t 83) (kI 0)) :: gFm 85 80 84 :: gTf 86 85 0 2 :: gTl 87 85 86 :: gT 88 85 (.bin 0 .neq (.t 87) (kI 5)) :: gF 89 80 (.pick (.t 85) (.t 88) (.k (.c (.bool false)))) :: gFm 90 80 89 :: gTf 91 90 0 2 :: gTl 92 90 91 :: gT 93 90 (.bin 0 .neq (.t 92) (kI 6)) :: gF 94 80 (.pick (.t 90) (.t 93) (.k (.c (.bool false)))) :: fI 95 (.pick (.t 80) (.k (.c (.bool true))) (.t 94)) :: []) [1, 2, 95]) Qaui) Qauj)
def Qaul : SC := (.seq (.seq (.reg ( fJ 60 0 2 :: lJ 61 60 :: cJ 62 .eql 61 8 :: mJ 63 62 :: gTf 64 63 2 2 :: gTl 65 63 64 :: gT 66 63 (.iad 4 (.t 65) (kI 0)) :: gTf 67 63 0 66 :: gTl 68 63 67 :: gT 69 63 (.bin 0 .neq (.t 68) (kI 13)) :: fI 70 (.pick (.t 63) (.t 69) (.k (.c (.bool false)))) :: []) [1, 2, 70]) Qauh) Qauk)
def Qaum : SC := (.seq (.seq (.reg ( fI 6 (.mv (kI 0)) :: []) [1, 2, 6]) (.block 0 (.loop Qaup))) Qaul)
def Qaun : SC := (.seq (.seq (.reg ( mJ 32 5 :: fJ 33 1 2 :: lJ 34 33 :: aJ 35 Qc4 [.t 34] :: Qaaa) [1, 2, 45]) Qa0d) Qaum)
def Q99 : SC := (.seq (.reg ( fJ 24 0 2 :: lJ 25 24 :: cJ 26 .eql 25 1 :: mJ 27 26 :: gFf 28 27 0 2 :: gFl 29 27 28 :: gF 30 27 (.bin 0 .eql (.t 29) (kI 2)) :: fI 31 (.pick (.t 27) (.k (.c (.bool true))) (.t 30)) :: mJ 5 31 :: []) [1, 2, 5]) Qaun)
def Qauo : SC := (.seq (.seq (.dreg 17 [0, 1, 2, 3, 4, 5, 6, 7, 8, 9, 10, 11, 12, 13, 14, 10, 11, 15, 16] ( mJ 7 1 :: cJ 8 .lss 7 1 :: mJ 9 8 :: gFf 10 9 0 2 :: gFl 11 9 10 :: .e (some 12) (some (9, false)) (.call Qbj [.t 11, kI 1, kI 8]) :: Qt0) [1, 2, 23]) s_l3Stmt_2) Q99)
def Qa73 : SC := (.seq (.reg ( fI 2 (.box (.t 0)) :: fI 4 (.mv (.k (.c (.bool false)))) :: []) [1, 2]) Qauo)
def Q52 : List RS := [.tmp 4]
theorem Qa68 : mFn prog Q6n 2 108 Qa73 Q52 = true := by kernel_rfl
def Qsv : List Item := mJ 5 16 :: []
def Qsw : List Item := mJ 6 21 :: []
def Qsx : List Item := fI 20 (.bsl 1 []) :: aJ 21 Qaq [.t 17, kI 1, .t 19, kI 0, .t 20] :: Qsw
def Qsy : List Item := mJ 7 23 :: []
def Qsz : List Item := mJ 8 25 :: []
def Qs0 : List Item := mJ 9 38 :: []
def Qs1 : List Item := mJ 10 44 :: []
def Qs2 : List Item := mJ 42 9 :: fI 43 (.bsl 1 [.t 42]) :: aJ 44 Qaq [.t 39, kI 10, .t 41, kI 0, .t 43] :: Qs1
def Qale : SC := (.seq (.reg ( mJ 55 6 :: mJ 4 55 :: []) [4]) .ret)
def Qalf : SC := (.seq (.reg ( mJ 50 0 :: mJ 51 8 :: fI 52 (.bsl 1 [.t 51]) :: mJ 53 8 :: aJ 54 Qaw [.t 50, kI 1, kI 0, .t 52, .t 53] :: []) [6]) Qale)
def Qaf5 : SC := (.seq (.reg ( mJ 45 0 :: mJ 46 6 :: mJ 47 10 :: fI 48 (.bsl 1 [.t 47]) :: aJ 49 Qaq [.t 45, kI 10, .t 46, kI 0, .t 48] :: []) [0, 6, 8]) Qalf)
def Qaf6 : SC := (.seq (.reg ( mJ 39 0 :: mJ 40 0 :: aJ 41 Qay [.t 40] :: Qs2) [0, 6, 8, 10]) Qaf5)
def Qaf7 : SC := (.seq (.reg ( mJ 33 0 :: fJ 34 3 3 :: lJ 35 34 :: fI 36 (.iad 4 (.t 35) (kI 1)) :: tJ 37 4 36 :: aJ 38 Qbx [.t 33, .t 37] :: Qs0) [0, 6, 8, 9]) Qaf6)
def Qaf8 : SC := (.seq (.reg ( mJ 26 0 :: mJ 27 5 :: mJ 28 7 :: mJ 29 8 :: fI 30 (.bsl 1 [.t 28, .t 29]) :: mJ 31 7 :: aJ 32 Qaw [.t 26, kI 2, .t 27, .t 30, .t 31] :: []) [0, 3, 6, 8]) Qaf7)
def Qaf9 : SC := (.seq (.reg ( mJ 24 0 :: aJ 25 Qag [.t 24] :: Qsz) [0, 3, 5, 6, 7, 8]) Qaf8)
def Qaga : SC := (.seq (.reg ( mJ 22 0 :: aJ 23 Qag [.t 22] :: Qsy) [0, 3, 5, 6, 7]) Qaf9)
def Qagb : SC := (.seq (.reg ( mJ 17 0 :: mJ 18 0 :: aJ 19 Qay [.t 18] :: Qsx) [0, 3, 5, 6]) Qaga)
def Qagc : SC := (.seq (.reg ( mJ 11 0 :: fJ 12 3 3 :: lJ 13 12 :: fI 14 (.iad 4 (.t 13) (kI 0)) :: tJ 15 4 14 :: aJ 16 Qbx [.t 11, .t 15] :: Qsv) [0, 3, 5]) Qagb)
def Qawx : SC := (.seq (.reg ( fI 3 (.box (.t 1)) :: fI 4 (.mv (kI 0)) :: []) [0, 3]) Qagc)
def Q7v : List RS := [.tmp 4]
theorem Qarx : mFn prog Qoo 2 56 Qawx Q7v = true := by kernel_rfl
def Qaw3 : SC := (.cond (.t 20) (.seq (.reg ( mJ 21 5 :: mJ 4 21 :: []) [4]) .ret) .skip)
def Qaw4 : SC := (.reg ( mJ 11 5 :: cJ 12 .add 11 1 :: mJ 5 12 :: []) [1, 2, 5])
def Qaw5 : SC := (.seq (.block 1 (.seq (.reg ( fJ 13 0 2 :: lJ 14 13 :: mJ 15 5 :: iJ 16 3 14 15 :: fJ 17 0 16 :: lJ 18 17 :: mJ 19 1 :: bJ 20 .eql 18 19 :: []) [1, 2, 5, 20]) Qaw3)) Qaw4)
def Qaqq : SC := (.seq (.seq (.reg ( mJ 6 5 :: fJ 7 0 2 :: lJ 8 7 :: nJ 9 8 :: bJ 10 .lss 6 9 :: []) [1, 2, 5, 10]) (.cond (.t 10) .skip (.exit 0))) Qaw5)
def Qaw6 : SC := (.seq (.reg ( fI 4 (.mv (kI (-1))) :: []) [4]) .ret)
def Qaw7 : SC := (.seq (.seq (.reg ( fI 5 (.mv (kI 0)) :: []) [1, 2, 5]) (.block 0 (.loop Qaqq))) Qaw6)
def Qa5d : SC := (.seq (.reg ( fI 2 (.box (.t 0)) :: fI 4 (.mv (kI 0)) :: []) [1, 2]) Qaw7)
def Q7x : List RS := [.tmp 4]
theorem Qa3k : mFn prog Qx6 2 22 Qa5d Q7x = true := by kernel_rfl
def Qmd : List Item := cJ 16 .eql 15 0 :: mJ 17 16 :: gTm 18 17 0 :: gT 19 17 (.nck (.t 18)) :: gTf 20 17 2 19 :: gTl 21 17 20 :: gT 22 17 (.len (.t 21)) :: gT 23 17 (.bin 0 .gtr (.t 22) (kI 0)) :: fI 24 (.pick (.t 17) (.t 23) (.k (.c (.bool false)))) :: []
def Qme : List Item := mJ 2 33 :: []
def Q9k : SC := (.cond (.t 24) (.seq (.dreg 10 [0, 1, 2, 3, 4, 5, 6, 7, 8, 9] ( mJ 25 0 :: kJ 26 25 :: fJ 27 0 26 :: lJ 28 27 :: mJ 29 0 :: kJ 30 29 :: fJ 31 2 30 :: lJ 32 31 :: aJ 33 Qfu [.t 28, .t 32] :: Qme) [2]) .ret) .skip)
def Q9l : SC := (.seq (.dreg 13 [0, 1, 2, 3, 4, 5, 6, 7, 8, 9, 10, 11, 12] ( mJ 34 0 :: kJ 35 34 :: fJ 36 3 35 :: lJ 37 36 :: cJ 38 .rem 37 24 :: mJ 39 0 :: kJ 40 39 :: fJ 41 3 40 :: lJ 42 41 :: cJ 43 .rem 42 24 :: cJ 44 .add 43 1 :: fI 45 (.slis (.k (.c (.str [97, 98, 99, 100, 101, 103, 104, 105, 106, 107, 108, 109, 110, 112, 113, 114, 115, 116, 117, 118, 119, 120, 121, 122]))) (some (.t 38)) (some (.t 44))) :: mJ 2 45 :: []) [2]) .ret)
def Q9m : SC := (.seq (.seq (.reg ( mJ 11 0 :: kJ 12 11 :: fJ 13 0 12 :: lJ 14 13 :: aJ 15 Ql [.t 14, kI 9] :: Qmd) [0, 24]) Q9k) Q9l)
def Q9n : SC := (.seq (.reg ( mJ 3 0 :: mJ 4 0 :: kJ 5 4 :: fJ 6 3 5 :: lJ 7 6 :: cJ 8 .add 7 1 :: kJ 9 3 :: fJ 10 3 9 :: .e none none (.sto 1 (.t 10) (.t 8)) :: []) [0]) Q9m)
def Qak6 : SC := (.seq (.reg ( fI 2 (.mv (.k (.c (.str [])))) :: []) [0]) Q9n)
def Qk3 : List RS := [.tmp 2]
theorem Qaji : mFn prog Qh8 1 46 Qak6 Qk3 = true := by kernel_rfl
def Q16 : List Item := cJ 20 .geq 19 0 :: mJ 17 20 :: []
def Qatd : SC := (.cond (.t 21) (.seq (.reg ( fI 2 (.mv (kI 4)) :: []) [2]) .ret) .skip)
def Qate : SC := (.cond (.t 17) (.seq (.reg ( fI 2 (.mv (kI 3)) :: []) [2]) .ret) (.seq (.reg ( mJ 22 0 :: fI 23 (.bin 0 .eql (.t 22) (.k (.c (.int .u8 32)))) :: mJ 24 23 :: gFm 25 24 0 :: gF 26 24 (.bin 0 .eql (.t 25) (.k (.c (.int .u8 10)))) :: fI 27 (.pick (.t 24) (.k (.c (.bool true))) (.t 26)) :: mJ 21 27 :: []) [21]) Qatd))
def Qatf : SC := (.cond (.t 10) (.seq (.reg ( fI 2 (.mv (kI 2)) :: []) [2]) .ret) (.seq (.reg ( mJ 18 0 :: eI 19 (.call Qx3 [.k (.c (.str [40, 41, 123, 125, 59, 44, 43, 45, 42, 47, 37, 60, 61, 38, 33, 64])), .t 18]) :: Q16) [0, 17]) Qate))
def Qatg : SC := (.cond (.t 3) (.seq (.reg ( fI 2 (.mv (kI 1)) :: []) [2]) .ret) (.seq (.reg ( mJ 11 0 :: fI 12 (.bin 0 .geq (.t 11) (.k (.c (.int .u8 48)))) :: mJ 13 12 :: gTm 14 13 0 :: gT 15 13 (.bin 0 .leq (.t 14) (.k (.c (.int .u8 57)))) :: fI 16 (.pick (.t 13) (.t 15) (.k (.c (.bool false)))) :: mJ 10 16 :: []) [0, 10]) Qatf))
def Qath : SC := (.seq (.reg ( fI 2 (.mv (kI 0)) :: []) [2]) .ret)
def Qati : SC := (.seq (.block 0 (.seq (.reg ( mJ 4 0 :: fI 5 (.bin 0 .geq (.t 4) (.k (.c (.int .u8 97)))) :: mJ 6 5 :: gTm 7 6 0 :: gT 8 6 (.bin 0 .leq (.t 7) (.k (.c (.int .u8 122)))) :: fI 9 (.pick (.t 6) (.t 8) (.k (.c (.bool false)))) :: mJ 3 9 :: []) [0, 3]) Qatg)) Qath)
def Qa4f : SC := (.seq (.reg ( fI 2 (.mv (kI 0)) :: []) [0]) Qati)
def Qjg : List RS := [.tmp 2]
theorem Qa29 : mFn prog Qx2 1 28 Qa4f Qjg = true := by kernel_rfl
def Qac3 : SC := (.seq (.reg ( fI 1 (.bsl 1 [.k (.c (.str [102, 110])), .k (.c (.str [108, 101, 116])), .k (.c (.str [115, 97, 121])), .k (.c (.str [112, 117, 116])), .k (.c (.str [105, 102])), .k (.c (.str [101, 108, 115, 101])), .k (.c (.str [108, 111, 111, 112])), .k (.c (.str [98, 97, 99, 107])), .k (.c (.str [100, 111]))]) :: mJ 0 1 :: []) [0]) .ret)
def Qal1 : SC := (.seq (.reg ( fI 0 (.mv (.k (.c (.sl true 1 [])))) :: []) []) Qac3)
def Qvd : List RS := [.tmp 0]
theorem Qajo : mFn prog Qic 0 2 Qal1 Qvd = true := by kernel_rfl
def Qaz6 : SC := (.cond (.t 4) (.seq (.reg ( fI 2 (.mv (kI 2)) :: []) [2]) .ret) .skip)
def Qaz7 : SC := (.seq (.reg ( fI 2 (.mv (kI 1)) :: []) [2]) .ret)
def Qaz8 : SC := (.seq (.seq (.reg ( mJ 3 0 :: cJ 4 .eql 3 4 :: []) [4]) Qaz6) Qaz7)
def Qa7w : SC := (.seq (.reg ( fI 2 (.mv (kI 0)) :: []) [0]) Qaz8)
def Qajw : List RS := [.tmp 2]
theorem Qa66 : mFn prog Q6l 1 5 Qa7w Qajw = true := by kernel_rfl
def Qd5 : List Item := gT 8 5 (.bin 0 .leq (.t 7) (kI 30)) :: fI 9 (.pick (.t 5) (.t 8) (.k (.c (.bool false)))) :: mJ 2 9 :: []
def Qj7 : List Item := mJ 5 4 :: gT 6 5 (.ld 4 true (.t 1)) :: .e (some 7) (some (5, true)) (.call Qrc [.t 6]) :: Qd5
def Q5d : SC := (.seq (.reg ( tJ 3 4 1 :: aJ 4 Quo [.t 3, kI 6] :: Qj7) [2]) .ret)
def Qag9 : SC := (.seq (.reg ( fI 1 (.box (.t 0)) :: fI 2 (.mv (.k (.c (.bool false)))) :: []) [1]) Q5d)
def Qil : List RS := [.tmp 2]
theorem Qady : mFn prog Qfx 1 10 Qag9 Qil = true := by kernel_rfl
def Qatw : SC := (.cond (.t 16) (.seq (.reg ( mJ 17 5 :: mJ 4 17 :: []) [4]) .ret) .skip)
def Qatx : SC := (.reg ( mJ 10 5 :: cJ 11 .add 10 1 :: mJ 5 11 :: []) [0, 1, 5])
def Qaty : SC := (.seq (.block 1 (.seq (.reg ( mJ 12 0 :: mJ 13 5 :: fI 14 (.idx (.t 12) (.t 13)) :: mJ 15 1 :: bJ 16 .eql 14 15 :: []) [0, 1, 5, 16]) Qatw)) Qatx)
def Qaow : SC := (.seq (.seq (.reg ( mJ 6 5 :: mJ 7 0 :: fI 8 (.lens (.t 7)) :: bJ 9 .lss 6 8 :: []) [0, 1, 5, 9]) (.cond (.t 9) .skip (.exit 0))) Qaty)
def Qatz : SC := (.seq (.reg ( fI 4 (.mv (kI (-1))) :: []) [4]) .ret)
def Qat0 : SC := (.seq (.seq (.reg ( fI 5 (.mv (kI 0)) :: []) [0, 1, 5]) (.block 0 (.loop Qaow))) Qatz)
def Qa4n : SC := (.seq (.reg ( fI 4 (.mv (kI 0)) :: []) [0, 1]) Qat0)
def Q7n : List RS := [.tmp 4]
theorem Qa3b : mFn prog Qx3 2 18 Qa4n Q7n = true := by kernel_rfl
def Q8z : List Item := mJ 9 12 :: fI 13 (.ext (.t 9) 0) :: fI 14 (.ext (.t 9) 1) :: mJ 5 13 :: mJ 6 14 :: []
def Qlc : List Item := gF 30 23 (.not (.t 29)) :: fI 31 (.pick (.t 23) (.k (.c (.bool true))) (.t 30)) :: []
def Qtx : List Item := gF 21 17 (.not (.t 20)) :: fI 22 (.pick (.t 17) (.k (.c (.bool true))) (.t 21)) :: mJ 23 22 :: gFf 24 23 3 2 :: gFl 25 23 24 :: gF 26 23 (.len (.t 25)) :: gFm 27 23 5 :: gFm 28 23 6 :: .e (some 29) (some (23, false)) (.call Qbj [.t 26, .t 27, .t 28]) :: Qlc
def s_l2Form_3 : SC := (.cond (.t 31) (.seq (.reg ( fI 4 (.mv (.k (.c (.bool false)))) :: []) [4]) .ret) .skip)
def Qty : List Item := gF 58 54 (.not (.t 57)) :: fI 59 (.pick (.t 54) (.k (.c (.bool true))) (.t 58)) :: mJ 60 59 :: gFf 61 60 0 2 :: gFl 62 60 61 :: gF 63 60 (.bin 0 .neq (.t 62) (kI 1)) :: gFm 64 60 63 :: gTf 65 64 1 2 :: gTl 66 64 65 :: gT 67 64 (.bin 0 .neq (.t 66) (kI 0)) :: gF 68 60 (.pick (.t 64) (.t 67) (.k (.c (.bool false)))) :: fI 69 (.pick (.t 60) (.k (.c (.bool true))) (.t 68)) :: []
def Q80 : List Item := fI 44 (.bin 1 .neq (.t 40) (.t 43)) :: mJ 45 44 :: gFm 46 45 7 :: gF 47 45 (.not (.t 46)) :: gFm 48 45 47 :: gTf 49 48 2 2 :: gTl 50 48 49 :: gT 51 48 (.bin 0 .neq (.t 50) (.k (.c (.str [])))) :: gF 52 45 (.pick (.t 48) (.t 51) (.k (.c (.bool false)))) :: fI 53 (.pick (.t 45) (.k (.c (.bool true))) (.t 52)) :: mJ 54 53 :: gFf 55 54 1 2 :: gFl 56 54 55 :: .e (some 57) (some (54, false)) (.call Qbj [.t 56, kI 0, kI 255]) :: Qty
def s_l2Form_6 : SC := (.cond (.t 69) (.seq (.reg ( fI 4 (.mv (.k (.c (.bool false)))) :: []) [4]) .ret) .skip)
def Q81 : List Item := oJ 85 84 :: []
def Qazw : SC := (.cond (.t 85) (.seq (.reg ( fI 4 (.mv (.k (.c (.bool false)))) :: []) [4]) .ret) .skip)
def Qazx : SC := (.reg ( mJ 75 8 :: cJ 76 .add 75 1 :: mJ 8 76 :: []) [1, 2, 8])
def Qatm : SC := (.seq (.block 1 (.seq (.reg ( fJ 77 3 2 :: lJ 78 77 :: mJ 79 8 :: iJ 80 4 78 79 :: tJ 81 4 80 :: mJ 82 1 :: cJ 83 .sub 82 1 :: aJ 84 Quo [.t 81, .t 83] :: Q81) [1, 2, 8, 85]) Qazw)) Qazx)
def Qaou : SC := (.seq (.seq (.reg ( mJ 70 8 :: fJ 71 3 2 :: lJ 72 71 :: nJ 73 72 :: bJ 74 .lss 70 73 :: []) [1, 2, 8, 74]) (.cond (.t 74) .skip (.exit 0))) Qatm)
def Qatn : SC := (.seq (.reg ( fI 4 (.mv (.k (.c (.bool true)))) :: []) [4]) .ret)
def Q8x : SC := (.seq (.seq (.reg ( fI 8 (.mv (kI 0)) :: []) [1, 2, 8]) (.block 0 (.loop Qaou))) Qatn)
def Qato : SC := (.seq (.seq (.reg ( mJ 40 7 :: fJ 41 2 2 :: lJ 42 41 :: aJ 43 Qc4 [.t 42] :: Q80) [1, 2, 69]) s_l2Form_6) Q8x)
def Q8y : SC := (.seq (.reg ( fJ 32 0 2 :: lJ 33 32 :: cJ 34 .eql 33 2 :: mJ 35 34 :: gFf 36 35 0 2 :: gFl 37 35 36 :: gF 38 35 (.bin 0 .eql (.t 37) (kI 13)) :: fI 39 (.pick (.t 35) (.k (.c (.bool true))) (.t 38)) :: mJ 7 39 :: []) [1, 2, 7]) Qato)
def Qatp : SC := (.seq (.seq (.reg ( mJ 15 1 :: cJ 16 .lss 15 1 :: mJ 17 16 :: gFf 18 17 0 2 :: gFl 19 17 18 :: .e (some 20) (some (17, false)) (.call Qbj [.t 19, kI 1, kI 13]) :: Qtx) [1, 2, 31]) s_l2Form_3) Q8y)
def Qatq : SC := (.seq (.reg ( fJ 10 0 2 :: lJ 11 10 :: aJ 12 Q6j [.t 11] :: Q8z) [1, 2, 5, 6]) Qatp)
def Qa7t : SC := (.seq (.reg ( fI 2 (.box (.t 0)) :: fI 4 (.mv (.k (.c (.bool false)))) :: []) [1, 2]) Qatq)
def Qu5 : List RS := [.tmp 4]
theorem Qa63 : mFn prog Quo 2 86 Qa7t Qu5 = true := by kernel_rfl
def Q17 : List Item := bJ 19 .add 12 18 :: mJ 3 19 :: []
def Qatr : SC := (.reg ( mJ 10 4 :: cJ 11 .add 10 1 :: mJ 4 11 :: []) [1, 3, 4])
def Qats : SC := (.seq (.block 1 (.reg ( mJ 12 3 :: fJ 13 3 1 :: lJ 14 13 :: mJ 15 4 :: iJ 16 4 14 15 :: tJ 17 4 16 :: aJ 18 Qrc [.t 17] :: Q17) [1, 3, 4])) Qatr)
def Qaov : SC := (.seq (.seq (.reg ( mJ 5 4 :: fJ 6 3 1 :: lJ 7 6 :: nJ 8 7 :: bJ 9 .lss 5 8 :: []) [1, 3, 4, 9]) (.cond (.t 9) .skip (.exit 0))) Qats)
def Qatt : SC := (.seq (.reg ( mJ 20 3 :: mJ 2 20 :: []) [2]) .ret)
def Qatu : SC := (.seq (.seq (.reg ( fI 4 (.mv (kI 0)) :: []) [1, 3, 4]) (.block 0 (.loop Qaov))) Qatt)
def Qatv : SC := (.seq (.reg ( fI 3 (.mv (kI 1)) :: []) [1, 3]) Qatu)
def Qa4m : SC := (.seq (.reg ( fI 1 (.box (.t 0)) :: fI 2 (.mv (kI 0)) :: []) [1]) Qatv)
def Qanm : List RS := [.tmp 2]
theorem Qa3a : mFn prog Qrc 1 21 Qa4m Qanm = true := by kernel_rfl
def Qazy : SC := (.cond (.t 5) .skip (.reg ( cJ 7 .eql 4 2 :: mJ 5 7 :: []) [4, 5]))
def Qazz : SC := (.cond (.t 8) .skip (.reg ( cJ 10 .eql 4 12 :: mJ 8 10 :: []) [4, 8]))
def Qaz0 : SC := (.cond (.t 11) (.seq (.reg ( fI 2 (.mv (kI 0)) :: fI 3 (.mv (kI 3)) :: []) [2, 3]) .ret) .skip)
def Qaia : SC := (.cond (.t 8) (.seq (.reg ( fI 2 (.mv (kI 1)) :: fI 3 (.mv (kI 1)) :: []) [2, 3]) .ret) (.seq (.reg ( cJ 12 .eql 4 13 :: mJ 11 12 :: []) [11]) Qaz0))
def Qaib : SC := (.cond (.t 5) (.seq (.reg ( fI 2 (.mv (kI 0)) :: fI 3 (.mv (kI 0)) :: []) [2, 3]) .ret) (.seq (.seq (.reg ( cJ 9 .eql 4 11 :: mJ 8 9 :: []) [4, 8]) Qazz) Qaia))
def Qaz1 : SC := (.block 0 (.seq (.seq (.reg ( cJ 6 .eql 4 1 :: mJ 5 6 :: []) [4, 5]) Qazy) Qaib))
def Qy8 : SC := (.seq (.reg ( fI 2 (.mv (kI 2)) :: fI 3 (.mv (kI 2)) :: []) [2, 3]) .ret)
def Qaz2 : SC := (.seq (.seq (.reg ( mJ 4 0 :: []) [4]) Qaz1) Qy8)
def Qa7u : SC := (.seq (.reg ( fI 2 (.mv (kI 0)) :: fI 3 (.mv (kI 0)) :: []) [0]) Qaz2)
def Qu6 : List RS := [.tmp 2, .tmp 3]
theorem Qa64 : mFn prog Q6j 1 13 Qa7u Qu6 = true := by kernel_rfl
end Go.AE.Y

namespace Go.AE.Y
open Go.Proofs.Tryz
def Qals : SC := (.cond (.t 22) (.seq (.reg ( fI 4 (.mv (.k (.c (.bool false)))) :: []) [4]) .ret) .skip)
def Qalt : SC := (.seq (.dreg 9 [0, 1, 2, 3, 4, 5, 6, 7, 8] ( mJ 14 0 :: mJ 15 5 :: iJ 16 1 14 15 :: lJ 17 16 :: mJ 18 1 :: mJ 19 5 :: iJ 20 1 18 19 :: lJ 21 20 :: bJ 22 .neq 17 21 :: []) [0, 1, 10, 11, 22]) Qals)
def Qalu : SC := (.reg ( cJ 23 .add 11 1 :: mJ 11 23 :: []) [0, 1, 10, 11])
def Qalv : SC := (.seq (.block 1 (.seq (.reg ( mJ 13 11 :: mJ 5 13 :: []) [0, 1, 5, 10, 11]) Qalt)) Qalu)
def Qagy : SC := (.seq (.reg ( bJ 12 .lss 11 10 :: []) [0, 1, 10, 11, 12]) (.seq (.cond (.t 12) .skip (.exit 0)) Qalv))
def Qalw : SC := (.seq (.reg ( mJ 24 0 :: nJ 25 24 :: mJ 26 1 :: nJ 27 26 :: bJ 28 .eql 25 27 :: mJ 4 28 :: []) [4]) .ret)
def Qalx : SC := (.seq (.seq (.reg ( mJ 6 0 :: nJ 7 6 :: mJ 8 1 :: nJ 9 8 :: fI 10 (.mn (.t 7) (.t 9)) :: fI 11 (.mv (kI 0)) :: []) [0, 1, 10, 11]) (.block 0 (.loop Qagy))) Qalw)
def Qaw1 : SC := (.seq (.reg ( fI 4 (.mv (.k (.c (.bool false)))) :: []) [0, 1]) Qalx)
def Qtj : List RS := [.tmp 4]
theorem Qar0 : mFn prog Qg1 2 29 Qaw1 Qtj = true := by kernel_rfl
def Qap9 : SC := (.cond (.t 15) (.seq (.reg ( fI 4 (.mv (.k (.c (.bool true)))) :: []) [4]) .ret) .skip)
def Qaqa : SC := (.seq (.reg ( mJ 13 6 :: mJ 14 1 :: bJ 15 .eql 13 14 :: []) [1, 7, 8, 9, 15]) Qap9)
def Qaqb : SC := (.reg ( cJ 16 .add 9 1 :: mJ 9 16 :: []) [1, 7, 8, 9])
def Qaqc : SC := (.seq (.block 1 (.seq (.reg ( iJ 11 1 7 9 :: lJ 12 11 :: mJ 6 12 :: []) [1, 6, 7, 8, 9]) Qaqa)) Qaqb)
def Qalr : SC := (.seq (.reg ( bJ 10 .lss 9 8 :: []) [1, 7, 8, 9, 10]) (.seq (.cond (.t 10) .skip (.exit 0)) Qaqc))
def Qaqd : SC := (.seq (.reg ( fI 4 (.mv (.k (.c (.bool false)))) :: []) [4]) .ret)
def Qaqe : SC := (.seq (.seq (.reg ( mJ 7 0 :: nJ 8 7 :: fI 9 (.mv (kI 0)) :: []) [1, 7, 8, 9]) (.block 0 (.loop Qalr))) Qaqd)
def Qa1j : SC := (.seq (.reg ( fI 4 (.mv (.k (.c (.bool false)))) :: []) [0, 1]) Qaqe)
def Qyk : List RS := [.tmp 4]
theorem Qazd : mFn prog Qcc 2 17 Qa1j Qyk = true := by kernel_rfl
def Qm6 : List Item := cJ 8 .geq 7 0 :: mJ 4 8 :: []
def Qac2 : SC := (.seq (.reg ( mJ 5 0 :: mJ 6 1 :: aJ 7 Qkv [.t 5, .t 6] :: Qm6) [4]) .ret)
def Qaly : SC := (.seq (.reg ( fI 4 (.mv (.k (.c (.bool false)))) :: []) [0, 1]) Qac2)
def Qvb : List RS := [.tmp 4]
theorem Qajn : mFn prog Qia 2 9 Qaly Qvb = true := by kernel_rfl
def Qa3z : SC := (.cond (.t 17) (.seq (.reg ( mJ 18 5 :: mJ 4 18 :: []) [4]) .ret) .skip)
def Qa30 : SC := (.reg ( mJ 10 5 :: cJ 11 .add 10 1 :: mJ 5 11 :: []) [0, 1, 5])
def Qa31 : SC := (.seq (.block 1 (.seq (.reg ( mJ 12 0 :: mJ 13 5 :: iJ 14 1 12 13 :: lJ 15 14 :: mJ 16 1 :: bJ 17 .eql 15 16 :: []) [0, 1, 5, 17]) Qa3z)) Qa30)
def Qazq : SC := (.seq (.seq (.reg ( mJ 6 5 :: mJ 7 0 :: nJ 8 7 :: bJ 9 .lss 6 8 :: []) [0, 1, 5, 9]) (.cond (.t 9) .skip (.exit 0))) Qa31)
def Qa32 : SC := (.seq (.reg ( fI 4 (.mv (kI (-1))) :: []) [4]) .ret)
def Qa33 : SC := (.seq (.seq (.reg ( fI 5 (.mv (kI 0)) :: []) [0, 1, 5]) (.block 0 (.loop Qazq))) Qa32)
def Qbaw : SC := (.seq (.reg ( fI 4 (.mv (kI 0)) :: []) [0, 1]) Qa33)
def Qar8 : List RS := [.tmp 4]
theorem Qbaj : mFn prog Qaiv 2 19 Qbaw Qar8 = true := by kernel_rfl
def Q1h : List Item := mJ 3 5 :: []
def Q1i : List Item := mJ 2 9 :: []
def Qasj : SC := (.seq (.reg ( mJ 8 3 :: aJ 9 Qku [.t 8] :: Q1i) [2]) .ret)
def Qask : SC := (.seq (.reg ( mJ 6 3 :: aJ 7 Qi9 [.t 6] :: []) [3]) Qasj)
def Qasl : SC := (.seq (.reg ( mJ 4 0 :: aJ 5 Qtb [.t 4] :: Q1h) [3]) Qask)
def Qa3x : SC := (.seq (.reg ( fI 2 (.mv (.k (.c (.sl true 1 [])))) :: []) [0]) Qasl)
def Qang : List RS := [.tmp 2]
theorem Qa21 : mFn prog Qra 1 10 Qa3x Qang = true := by kernel_rfl
def Qat1 : SC := (.cond (.t 5) (.reg ( mJ 6 0 :: fI 7 (.sli 1 (.t 6) none (some (kI 2000))) :: mJ 0 7 :: []) [0]) .skip)
def Q18 : List Item := mJ 2 10 :: []
def Q84 : SC := (.seq (.reg ( mJ 8 0 :: fI 9 (.bld [.sl true 1 [], .int .i64 0] [(0, 1, .t 8)]) :: eI 10 (.boxm (.t 9)) :: Q18) [2]) .ret)
def Qat2 : SC := (.seq (.seq (.reg ( mJ 3 0 :: nJ 4 3 :: cJ 5 .gtr 4 2000 :: []) [0, 5]) Qat1) Q84)
def Qa4o : SC := (.seq (.reg ( fI 2 (.mv (.k (.c .pnil))) :: []) [0]) Qat2)
def Q7o : List RS := [.tmp 2]
theorem Qa3c : mFn prog Qi5 1 11 Qa4o Q7o = true := by kernel_rfl
def Qaqk : SC := (.cond (.t 16) (.seq (.reg ( mJ 17 5 :: mJ 4 17 :: []) [4]) .ret) .skip)
def Qaql : SC := (.seq (.reg ( mJ 11 1 :: mJ 12 0 :: mJ 13 5 :: iJ 14 1 12 13 :: lJ 15 14 :: bJ 16 .eql 11 15 :: []) [0, 1, 5, 7, 8, 16]) Qaqk)
def Qaqm : SC := (.reg ( cJ 18 .add 8 1 :: mJ 8 18 :: []) [0, 1, 7, 8])
def Qaqn : SC := (.seq (.block 1 (.seq (.reg ( mJ 10 8 :: mJ 5 10 :: []) [0, 1, 5, 7, 8]) Qaql)) Qaqm)
def Qalz : SC := (.seq (.reg ( bJ 9 .lss 8 7 :: []) [0, 1, 7, 8, 9]) (.seq (.cond (.t 9) .skip (.exit 0)) Qaqn))
def Qaqo : SC := (.seq (.reg ( fI 4 (.mv (kI (-1))) :: []) [4]) .ret)
def Qaqp : SC := (.seq (.seq (.reg ( mJ 6 0 :: nJ 7 6 :: fI 8 (.mv (kI 0)) :: []) [0, 1, 7, 8]) (.block 0 (.loop Qalz))) Qaqo)
def Qa1l : SC := (.seq (.reg ( fI 4 (.mv (kI 0)) :: []) [0, 1]) Qaqp)
def Qym : List RS := [.tmp 4]
theorem Qazf : mFn prog Qkv 2 19 Qa1l Qym = true := by kernel_rfl
def Qo9 : List Item := oJ 14 13 :: []
def Qad5 : SC := (.cond (.t 14) (.seq (.reg ( fI 4 (.mv (.k (.c (.sl true 1 [])))) :: []) [4]) .ret) .skip)
def Qpa : List Item := mJ 6 20 :: .e none none (.sto 5 (.t 7) (.t 22)) :: []
def Qpb : List Item := mJ 5 30 :: []
def Qad6 : SC := (.cond (.t 26) (.reg ( mJ 27 5 :: mJ 28 6 :: fI 29 (.bsl 1 [.t 28]) :: eI 30 (.app 1 (.t 27) (.t 29)) :: Qpb) [1, 5, 16, 17, 18]) .skip)
def Qad7 : SC := (.seq (.reg ( fJ 23 4 7 :: lJ 24 23 :: mJ 25 1 :: aJ 26 Qia [.t 24, .t 25] :: []) [1, 5, 6, 16, 17, 18, 26]) Qad6)
def Qad8 : SC := (.reg ( cJ 31 .add 18 1 :: mJ 18 31 :: []) [1, 5, 16, 17, 18])
def Qad9 : SC := (.seq (.block 1 (.seq (.reg ( mJ 20 18 :: iJ 21 5 16 18 :: tJ 22 5 21 :: eI 7 (.alloc [.sl true 2 [], .sl true 4 [], .int .i64 0, .int .i64 0, .sl true 1 []]) :: Qpa) [1, 5, 6, 7, 16, 17, 18]) Qad7)) Qad8)
def Q8e : SC := (.seq (.reg ( bJ 19 .lss 18 17 :: []) [1, 5, 16, 17, 18, 19]) (.seq (.cond (.t 19) .skip (.exit 0)) Qad9))
def Qaea : SC := (.seq (.reg ( mJ 32 5 :: mJ 4 32 :: []) [4]) .ret)
def Q8b : SC := (.seq (.seq (.reg ( fJ 15 2 2 :: lJ 16 15 :: nJ 17 16 :: fI 18 (.mv (kI 0)) :: []) [1, 5, 16, 17, 18]) (.block 0 (.loop Q8e))) Qaea)
def Q8c : SC := (.seq (.seq (.reg ( mJ 8 1 :: fJ 9 2 2 :: lJ 10 9 :: nJ 11 10 :: cJ 12 .sub 11 1 :: aJ 13 Qai [.t 8, kI 0, .t 12] :: Qo9) [1, 2, 5, 14]) Qad5) Q8b)
def Q8d : SC := (.seq (.reg ( fI 5 (.mv (.k (.c (.sl true 1 [])))) :: []) [1, 2, 5]) Q8c)
def Qanu : SC := (.seq (.reg ( fI 2 (.box (.t 0)) :: fI 4 (.mv (.k (.c (.sl true 1 [])))) :: []) [1, 2]) Q8d)
def Qo1 : List RS := [.tmp 4]
theorem Qamy : mFn prog Qdd 2 33 Qanu Qo1 = true := by kernel_rfl
def Qev : List Item := cJ 8 .geq 7 0 :: mJ 4 8 :: []
def Qt9 : SC := (.seq (.reg ( mJ 5 0 :: mJ 6 1 :: aJ 7 Qfv [.t 5, .t 6] :: Qev) [4]) .ret)
def Q0h : SC := (.seq (.reg ( fI 4 (.mv (.k (.c (.bool false)))) :: []) [0, 1]) Qt9)
def Qji : List RS := [.tmp 4]
theorem Qyb : mFn prog Qbm 2 9 Q0h Qji = true := by kernel_rfl
def Qbb : List Item := fI 8 (.ext (.t 7) 0) :: []
def Qdq : List Item := fI 10 (.ext (.t 9) 0) :: mJ 4 10 :: []
def Qdr : List Item := mJ 3 14 :: []
def Qnn : SC := (.reg ( mJ 11 3 :: mJ 12 4 :: fI 13 (.bsl 1 [.t 12]) :: eI 14 (.app 1 (.t 11) (.t 13)) :: Qdr) [3, 6])
def Qno : SC := (.block 1 (.seq (.reg ( eI 9 (.ent (.t 6)) :: Qdq) [3, 4, 6]) Qnn))
def Qlb : SC := (.seq (.reg ( eI 7 (.nxt (.t 6)) :: Qbb) [3, 6, 8]) (.seq (.cond (.t 8) .skip (.exit 0)) Qno))
def Qnp : SC := (.seq (.reg ( mJ 17 3 :: mJ 2 17 :: []) [2]) .ret)
def Qnq : SC := (.seq (.reg ( mJ 15 3 :: aJ 16 Qi9 [.t 15] :: []) [3]) Qnp)
def Qnr : SC := (.seq (.seq (.reg ( mJ 5 0 :: eI 6 (.rng (.t 5)) :: []) [3, 6]) (.block 0 (.loop Qlb))) Qnq)
def Qns : SC := (.seq (.reg ( fI 3 (.mv (.k (.c (.sl true 1 [])))) :: []) [0, 3]) Qnr)
def Qrn : SC := (.seq (.reg ( fI 2 (.mv (.k (.c (.sl true 1 [])))) :: []) [0]) Qns)
def Qcp : List RS := [.tmp 2]
theorem Qet : mFn prog Qap 1 18 Qrn Qcp = true := by kernel_rfl
def Qaqg : SC := (.cond (.t 4) (.seq (.reg ( fI 2 (.mv (.k (.c (.sl true 1 [])))) :: []) [2]) .ret) .skip)
def Qxj : List Item := mJ 2 7 :: []
def Qaqh : SC := (.seq (.reg ( fI 5 (.bsl 1 []) :: mJ 6 0 :: eI 7 (.app 1 (.t 5) (.t 6)) :: Qxj) [2]) .ret)
def Qaqi : SC := (.seq (.seq (.reg ( mJ 3 0 :: eI 4 (.nilq (.t 3)) :: []) [0, 4]) Qaqg) Qaqh)
def Qa1k : SC := (.seq (.reg ( fI 2 (.mv (.k (.c (.sl true 1 [])))) :: []) [0]) Qaqi)
def Qyl : List RS := [.tmp 2]
theorem Qaze : mFn prog Qtb 1 8 Qa1k Qyl = true := by kernel_rfl
def Q3d : List Item := aJ 10 Qa8 [.t 5, kI 0, .t 6, .t 9] :: []
def Qaw2 : SC := (.reg ( mJ 5 0 :: mJ 6 2 :: mJ 7 2 :: fI 8 (.cvt .u64 (.t 7)) :: aJ 9 Q6g [.t 8] :: Q3d) [])
def Qa5c : SC := (.seq (.reg ( mJ 3 0 :: nJ 4 3 :: mJ 2 4 :: []) [0, 2]) Qaw2)
def Qanp : List RS := []
theorem Qa3j : mFn prog Qi9 1 11 Qa5c Qanp = true := by kernel_rfl
def Qagz : SC := (.cond (.t 8) (.seq (.reg ( mJ 9 0 :: mJ 2 9 :: []) [2]) .ret) .skip)
def Qag0 : SC := (.reg ( mJ 52 3 :: cJ 53 .add 52 1 :: mJ 3 53 :: []) [0, 3, 4, 5])
def Qag1 : SC := (.cond (.t 44) (.seq (.reg ( mJ 45 0 :: mJ 46 3 :: mJ 47 4 :: mJ 48 5 :: iJ 49 1 47 48 :: lJ 50 49 :: iJ 51 1 45 46 :: .e none none (.sto 1 (.t 51) (.t 50)) :: []) [0, 3, 4, 5]) Qag0) .skip)
def Qag2 : SC := (.reg ( mJ 33 5 :: cJ 34 .add 33 1 :: mJ 5 34 :: []) [0, 3, 4, 5])
def Qag3 : SC := (.seq (.block 3 (.seq (.dreg 10 [0, 1, 2, 3, 4, 5, 6, 7, 8, 9] ( mJ 35 4 :: mJ 36 5 :: iJ 37 1 35 36 :: lJ 38 37 :: mJ 39 4 :: mJ 40 5 :: cJ 41 .sub 40 1 :: iJ 42 1 39 41 :: lJ 43 42 :: bJ 44 .neq 38 43 :: []) [0, 3, 4, 5, 44]) Qag1)) Qag2)
def Qac1 : SC := (.seq (.seq (.reg ( mJ 29 5 :: mJ 30 4 :: nJ 31 30 :: bJ 32 .lss 29 31 :: []) [0, 3, 4, 5, 32]) (.cond (.t 32) .skip (.exit 2))) Qag3)
def Qag4 : SC := (.seq (.reg ( mJ 57 0 :: mJ 58 3 :: fI 59 (.sli 1 (.t 57) none (some (.t 58))) :: mJ 2 59 :: []) [2]) .ret)
def Qag5 : SC := (.seq (.reg ( mJ 54 0 :: mJ 55 3 :: fI 56 (.sli 1 (.t 54) (some (.t 55)) none) :: .e none none (.clrs 1 [.int .i64 0] (.t 56)) :: []) [0, 3]) Qag4)
def Qag6 : SC := (.seq (.seq (.reg ( fI 5 (.mv (kI 1)) :: []) [0, 3, 4, 5]) (.block 2 (.loop Qac1))) Qag5)
def Qag7 : SC := (.cond (.t 25) (.seq (.reg ( mJ 26 0 :: mJ 27 3 :: fI 28 (.sli 1 (.t 26) (some (.t 27)) none) :: mJ 4 28 :: []) [0, 3, 4]) Qag6) .skip)
def Qacw : SC := (.reg ( mJ 14 3 :: cJ 15 .add 14 1 :: mJ 3 15 :: []) [0, 3])
def Qacx : SC := (.seq (.block 1 (.seq (.dreg 10 [0, 1, 2, 3, 4, 5, 6, 7, 8, 9] ( mJ 16 0 :: mJ 17 3 :: iJ 18 1 16 17 :: lJ 19 18 :: mJ 20 0 :: mJ 21 3 :: cJ 22 .sub 21 1 :: iJ 23 1 20 22 :: lJ 24 23 :: bJ 25 .eql 19 24 :: []) [0, 3, 25]) Qag7)) Qacw)
def Q45 : SC := (.seq (.seq (.reg ( mJ 10 3 :: mJ 11 0 :: nJ 12 11 :: bJ 13 .lss 10 12 :: []) [0, 3, 13]) (.cond (.t 13) .skip (.exit 0))) Qacx)
def Qacy : SC := (.seq (.reg ( mJ 60 0 :: mJ 2 60 :: []) [2]) .ret)
def Qacz : SC := (.seq (.seq (.reg ( fI 3 (.mv (kI 1)) :: []) [0, 3]) (.block 0 (.loop Q45))) Qacy)
def Qac0 : SC := (.seq (.seq (.reg ( mJ 6 0 :: nJ 7 6 :: cJ 8 .lss 7 2 :: []) [0, 8]) Qagz) Qacz)
def Qaqj : SC := (.seq (.reg ( fI 2 (.mv (.k (.c (.sl true 1 [])))) :: []) [0]) Qac0)
def Qhb : List RS := [.tmp 2]
theorem Qana : mFn prog Qku 1 61 Qaqj Qhb = true := by kernel_rfl
def Qakm : SC := (.seq (.reg ( mJ 7 1 :: mJ 8 0 :: bJ 9 .leq 7 8 :: mJ 10 9 :: gTm 11 10 0 :: gTm 12 10 2 :: gT 13 10 (.bin 0 .leq (.t 11) (.t 12)) :: fI 14 (.pick (.t 10) (.t 13) (.k (.c (.bool false)))) :: mJ 6 14 :: []) [6]) .ret)
def Qaso : SC := (.seq (.reg ( fI 6 (.mv (.k (.c (.bool false)))) :: []) [0, 1, 2]) Qakm)
def Q7k : List RS := [.tmp 6]
theorem Qart : mFn prog Qai 3 15 Qaso Q7k = true := by kernel_rfl
def Q46 : SC := (.cond (.t 16) (.seq (.reg ( mJ 17 5 :: mJ 4 17 :: []) [4]) .ret) .skip)
def Q47 : SC := (.seq (.reg ( mJ 11 1 :: mJ 12 0 :: mJ 13 5 :: iJ 14 1 12 13 :: lJ 15 14 :: eI 16 (.callv (.t 11) [.t 15]) :: []) [0, 1, 5, 7, 8, 16]) Q46)
def Q48 : SC := (.reg ( cJ 18 .add 8 1 :: mJ 8 18 :: []) [0, 1, 7, 8])
def Q49 : SC := (.seq (.block 1 (.seq (.reg ( mJ 10 8 :: mJ 5 10 :: []) [0, 1, 5, 7, 8]) Q47)) Q48)
def Q0i : SC := (.seq (.reg ( bJ 9 .lss 8 7 :: []) [0, 1, 7, 8, 9]) (.seq (.cond (.t 9) .skip (.exit 0)) Q49))
def Q5a : SC := (.seq (.reg ( fI 4 (.mv (kI (-1))) :: []) [4]) .ret)
def Q5b : SC := (.seq (.seq (.reg ( mJ 6 0 :: nJ 7 6 :: fI 8 (.mv (kI 0)) :: []) [0, 1, 7, 8]) (.block 0 (.loop Q0i))) Q5a)
def Qag8 : SC := (.seq (.reg ( fI 4 (.mv (kI 0)) :: []) [0, 1]) Q5b)
def Qik : List RS := [.tmp 4]
theorem Qadx : mFn prog Qfv 2 19 Qag8 Qik = true := by kernel_rfl
def Qqu : SC := (.cond (.t 23) (.seq (.reg ( mJ 24 0 :: mJ 25 1 :: mJ 26 2 :: aJ 27 Qbk [.t 24, .t 25, .t 26] :: []) []) .ret) .skip)
def Qqv : SC := (.cond (.t 29) (.seq (.reg ( mJ 30 0 :: mJ 31 1 :: mJ 32 2 :: aJ 33 Qoq [.t 30, .t 31, .t 32] :: []) []) .ret) .skip)
def Qqw : SC := (.reg ( mJ 40 3 :: cJ 41 .sub 40 1 :: mJ 3 41 :: []) [0, 1, 2, 3, 8, 9, 10])
def Qqx : SC := (.cond (.t 35) (.seq (.reg ( mJ 36 0 :: mJ 37 1 :: mJ 38 2 :: aJ 39 Qgt [.t 36, .t 37, .t 38] :: []) [0, 1, 2, 3, 8, 9, 10]) Qqw) .skip)
def Qod : List Item := mJ 42 46 :: fI 47 (.ext (.t 42) 0) :: fI 48 (.ext (.t 42) 1) :: mJ 11 47 :: mJ 12 48 :: []
def Qqy : SC := (.reg ( fI 12 (.mv (kI 1)) :: []) [0, 1, 2, 3, 8, 9, 10, 11, 12])
def Qqz : SC := (.seq (.reg ( mJ 55 2 :: cJ 56 .sub 55 1 :: mJ 57 11 :: mJ 58 1 :: bJ 59 .sub 57 58 :: bJ 60 .sub 56 59 :: mJ 11 60 :: []) [0, 1, 2, 3, 8, 9, 10, 11]) Qqy)
def Qq0 : SC := (.cond (.t 50) (.seq (.reg ( mJ 51 0 :: mJ 52 1 :: mJ 53 2 :: aJ 54 Qib [.t 51, .t 52, .t 53] :: []) [0, 1, 2, 3, 8, 9, 10, 11]) Qqz) .skip)
def Qq1 : SC := (.cond (.t 68) (.seq (.reg ( mJ 69 0 :: mJ 70 1 :: mJ 71 2 :: aJ 72 Qdf [.t 69, .t 70, .t 71] :: []) [0, 1, 2, 3, 8, 9, 10, 11, 72]) (.cond (.t 72) .ret .skip)) .skip)
def Qoe : List Item := gT 86 75 (.not (.t 85)) :: fI 87 (.pick (.t 75) (.t 86) (.k (.c (.bool false)))) :: []
def Qlh : List Item := mJ 13 92 :: []
def Qnt : SC := (.seq (.reg ( mJ 93 13 :: mJ 1 93 :: []) [0, 1, 2, 3, 8, 9]) (.exit 1))
def Qnu : SC := (.cond (.t 87) (.seq (.reg ( mJ 88 0 :: mJ 89 1 :: mJ 90 2 :: mJ 91 11 :: aJ 92 Qfw [.t 88, .t 89, .t 90, .t 91] :: Qlh) [0, 2, 3, 8, 9, 13]) Qnt) .skip)
def Qli : List Item := mJ 94 99 :: fI 100 (.ext (.t 94) 0) :: fI 101 (.ext (.t 94) 1) :: mJ 14 100 :: mJ 15 101 :: []
def Qnv : SC := (.reg ( mJ 122 14 :: cJ 123 .add 122 1 :: mJ 1 123 :: []) [0, 1, 2, 3, 8, 9])
def Qnw : SC := (.seq (.reg ( mJ 117 0 :: mJ 118 1 :: mJ 119 14 :: mJ 120 3 :: aJ 121 Qa8 [.t 117, .t 118, .t 119, .t 120] :: []) [0, 2, 3, 8, 9, 14]) Qnv)
def Qnx : SC := (.reg ( mJ 133 14 :: mJ 2 133 :: []) [0, 1, 2, 3, 8, 9])
def Qny : SC := (.seq (.reg ( mJ 127 0 :: mJ 128 14 :: cJ 129 .add 128 1 :: mJ 130 2 :: mJ 131 3 :: aJ 132 Qa8 [.t 127, .t 129, .t 130, .t 131] :: []) [0, 1, 3, 8, 9, 14]) Qnx)
def Qnz : SC := (.cond (.t 113) (.seq (.reg ( mJ 114 16 :: mJ 115 18 :: bJ 116 .geq 114 115 :: mJ 8 116 :: []) [0, 1, 2, 3, 8, 9, 14]) Qnw) (.seq (.reg ( mJ 124 17 :: mJ 125 18 :: bJ 126 .geq 124 125 :: mJ 8 126 :: []) [0, 1, 2, 3, 8, 9, 14]) Qny))
def Qn0 : SC := (.seq (.reg ( mJ 111 16 :: mJ 112 17 :: bJ 113 .lss 111 112 :: []) [0, 1, 2, 3, 9, 14, 16, 17, 18, 113]) Qnz)
def Qn1 : SC := (.seq (.reg ( mJ 109 10 :: cJ 110 .quo 109 8 :: mJ 18 110 :: []) [0, 1, 2, 3, 9, 14, 16, 17, 18]) Qn0)
def Qn2 : SC := (.seq (.reg ( mJ 103 14 :: mJ 104 1 :: bJ 105 .sub 103 104 :: mJ 106 2 :: mJ 107 14 :: bJ 108 .sub 106 107 :: mJ 16 105 :: mJ 17 108 :: []) [0, 1, 2, 3, 9, 10, 14, 16, 17]) Qn1)
def Qn3 : SC := (.seq (.reg ( mJ 102 15 :: mJ 9 102 :: []) [0, 1, 2, 3, 9, 10, 14]) Qn2)
def Qn4 : SC := (.seq (.reg ( mJ 95 0 :: mJ 96 1 :: mJ 97 2 :: mJ 98 11 :: aJ 99 Qni [.t 95, .t 96, .t 97, .t 98] :: Qli) [0, 1, 2, 3, 10, 14, 15]) Qn3)
def Qn5 : SC := (.seq (.seq (.dreg 15 [0, 1, 2, 3, 4, 5, 6, 7, 8, 9, 10, 11, 12, 13, 14] ( mJ 73 1 :: cJ 74 .gtr 73 0 :: mJ 75 74 :: gTm 76 75 0 :: gTm 77 75 1 :: gT 78 75 (.bin 0 .sub (.t 77) (kI 1)) :: gT 79 75 (.iad 1 (.t 76) (.t 78)) :: gTl 80 75 79 :: gTm 81 75 0 :: gTm 82 75 11 :: gT 83 75 (.iad 1 (.t 81) (.t 82)) :: gTl 84 75 83 :: .e (some 85) (some (75, true)) (.call Q6h [.t 80, .t 84]) :: Qoe) [0, 1, 2, 3, 8, 9, 10, 11, 87]) Qnu) Qn4)
def Qn6 : SC := (.seq (.seq (.reg ( mJ 61 8 :: mJ 62 61 :: gTm 63 62 9 :: fI 64 (.pick (.t 62) (.t 63) (.k (.c (.bool false)))) :: mJ 65 64 :: gTm 66 65 12 :: gT 67 65 (.bin 0 .eql (.t 66) (kI 1)) :: fI 68 (.pick (.t 65) (.t 67) (.k (.c (.bool false)))) :: []) [0, 1, 2, 3, 8, 9, 10, 11, 68]) Qq1) Qn5)
def Qn7 : SC := (.seq (.seq (.reg ( mJ 49 12 :: cJ 50 .eql 49 2 :: []) [0, 1, 2, 3, 8, 9, 10, 11, 12, 50]) Qq0) Qn6)
def Qn8 : SC := (.seq (.reg ( mJ 43 0 :: mJ 44 1 :: mJ 45 2 :: aJ 46 Qja [.t 43, .t 44, .t 45] :: Qod) [0, 1, 2, 3, 8, 9, 10, 11, 12]) Qn7)
def Qn9 : SC := (.seq (.seq (.reg ( mJ 34 8 :: oJ 35 34 :: []) [0, 1, 2, 3, 8, 9, 10, 35]) Qqx) Qn8)
def Qoa : SC := (.seq (.seq (.reg ( mJ 28 3 :: cJ 29 .eql 28 0 :: []) [0, 1, 2, 3, 8, 9, 10, 29]) Qqv) Qn9)
def Qob : SC := (.seq (.seq (.reg ( mJ 22 10 :: cJ 23 .leq 22 12 :: []) [0, 1, 2, 3, 8, 9, 10, 23]) Qqu) Qoa)
def Qlj : SC := (.block 1 (.seq (.reg ( mJ 19 2 :: mJ 20 1 :: bJ 21 .sub 19 20 :: mJ 10 21 :: []) [0, 1, 2, 3, 8, 9, 10]) Qob))
def Qoc : SC := (.seq (.reg ( fI 9 (.mv (.k (.c (.bool true)))) :: []) [0, 1, 2, 3, 8, 9]) (.block 0 (.loop Qlj)))
def Qua : SC := (.seq (.reg ( fI 8 (.mv (.k (.c (.bool true)))) :: []) [0, 1, 2, 3, 8]) Qoc)
def Qf3 : List RS := []
theorem Qtd : mFn prog Qa8 4 134 Qua Qf3 = true := by kernel_rfl
def Qfd : List Item := fI 30 (.pick (.t 19) (.t 29) (.k (.c (.bool false)))) :: []
def Qfe : List Item := iJ 48 1 35 37 :: .e none none (.sto 1 (.t 48) (.t 46)) :: []
def Qgi : SC := (.reg ( mJ 31 7 :: cJ 32 .sub 31 1 :: mJ 7 32 :: []) [0, 1, 2, 6, 7])
def Qgj : SC := (.seq (.block 3 (.dreg 18 [0, 1, 2, 3, 4, 5, 6, 7, 8, 9, 10, 11, 12, 13, 14, 15, 16, 17] ( mJ 33 0 :: mJ 34 7 :: mJ 35 0 :: mJ 36 7 :: cJ 37 .sub 36 1 :: mJ 38 0 :: mJ 39 7 :: cJ 40 .sub 39 1 :: iJ 41 1 38 40 :: lJ 42 41 :: mJ 43 0 :: mJ 44 7 :: iJ 45 1 43 44 :: lJ 46 45 :: iJ 47 1 33 34 :: .e none none (.sto 1 (.t 47) (.t 42)) :: Qfe) [0, 1, 2, 6, 7])) Qgi)
def Qff : SC := (.seq (.seq (.dreg 15 [0, 1, 2, 3, 4, 5, 6, 7, 8, 9, 10, 11, 12, 13, 14] ( mJ 16 7 :: mJ 17 1 :: bJ 18 .gtr 16 17 :: mJ 19 18 :: gTm 20 19 0 :: gTm 21 19 7 :: gT 22 19 (.iad 1 (.t 20) (.t 21)) :: gTl 23 19 22 :: gTm 24 19 0 :: gTm 25 19 7 :: gT 26 19 (.bin 0 .sub (.t 25) (kI 1)) :: gT 27 19 (.iad 1 (.t 24) (.t 26)) :: gTl 28 19 27 :: .e (some 29) (some (19, true)) (.call Q6h [.t 23, .t 28]) :: Qfd) [0, 1, 2, 6, 7, 30]) (.cond (.t 30) .skip (.exit 2))) Qgj)
def Qgk : SC := (.reg ( mJ 13 6 :: cJ 14 .add 13 1 :: mJ 6 14 :: []) [0, 1, 2, 6])
def Qgl : SC := (.seq (.block 1 (.seq (.reg ( mJ 15 6 :: mJ 7 15 :: []) [0, 1, 2, 6, 7]) (.block 2 (.loop Qff)))) Qgk)
def Qfg : SC := (.seq (.seq (.reg ( mJ 10 6 :: mJ 11 2 :: bJ 12 .lss 10 11 :: []) [0, 1, 2, 6, 12]) (.cond (.t 12) .skip (.exit 0))) Qgl)
def Qix : SC := (.seq (.reg ( mJ 8 1 :: cJ 9 .add 8 1 :: mJ 6 9 :: []) [0, 1, 2, 6]) (.block 0 (.loop Qfg)))
def Qcs : List RS := []
theorem Qif : mFn prog Qbk 3 49 Qix Qcs = true := by kernel_rfl
end Go.AE.Y

namespace Go.AE.Y
open Go.Proofs.Tryz
def Qhd : List Item := gF 41 26 (.not (.t 40)) :: fI 42 (.pick (.t 26) (.k (.c (.bool true))) (.t 41)) :: []
def Qhe : List Item := gF 24 13 (.not (.t 23)) :: fI 25 (.pick (.t 13) (.k (.c (.bool true))) (.t 24)) :: mJ 26 25 :: gFm 27 26 3 :: gFf 28 26 0 4 :: gFl 29 26 28 :: gFm 30 26 1 :: gF 31 26 (.iad 3 (.t 29) (.t 30)) :: gFf 32 26 2 31 :: gFl 33 26 32 :: gFm 34 26 2 :: gF 35 26 (.iad 5 (.t 33) (.t 34)) :: gFf 36 26 1 35 :: gFl 37 26 36 :: gF 38 26 (.len (.t 37)) :: gF 39 26 (.bin 0 .sub (.t 38) (kI 1)) :: .e (some 40) (some (26, false)) (.call Qai [.t 27, kI (-1), .t 39]) :: Qhd
def Qhf : List Item := oJ 12 11 :: mJ 13 12 :: gFm 14 13 2 :: gFf 15 13 0 4 :: gFl 16 13 15 :: gFm 17 13 1 :: gF 18 13 (.iad 3 (.t 16) (.t 17)) :: gFf 19 13 2 18 :: gFl 20 13 19 :: gF 21 13 (.len (.t 20)) :: gF 22 13 (.bin 0 .sub (.t 21) (kI 1)) :: .e (some 23) (some (13, false)) (.call Qai [.t 14, kI 0, .t 22]) :: Qhe
def Qyn : SC := (.cond (.t 42) (.seq (.reg ( fI 8 (.mv (.k (.c (.sl true 1 [])))) :: []) [8]) .ret) .skip)
def Qhg : List Item := mJ 8 52 :: []
def Qhh : List Item := aJ 52 Qap [.t 51] :: Qhg
def Qhi : List Item := mJ 49 2 :: mJ 50 3 :: aJ 51 Qbt [.t 48, .t 49, .t 50] :: Qhh
def Qyo : SC := (.seq (.reg ( fJ 43 0 4 :: lJ 44 43 :: mJ 45 1 :: iJ 46 3 44 45 :: tJ 47 3 46 :: aJ 48 Qc3 [.t 47] :: Qhi) [8]) .ret)
def Qyp : SC := (.seq (.seq (.reg ( tJ 9 1 4 :: mJ 10 1 :: aJ 11 Qc2 [.t 9, .t 10] :: Qhf) [1, 2, 3, 4, 42]) Qyn) Qyo)
def Q70 : SC := (.seq (.reg ( fI 4 (.box (.t 0)) :: fI 8 (.mv (.k (.c (.sl true 1 [])))) :: []) [1, 2, 3, 4]) Qyp)
def Qoy : List RS := [.tmp 8]
theorem Q67 : mFn prog Qbl 4 53 Q70 Qoy = true := by kernel_rfl
def Qo6 : List Item := oJ 8 7 :: []
def Qad2 : SC := (.cond (.t 8) (.seq (.reg ( fI 4 (.mv (.k (.c (.sl true 1 [])))) :: []) [4]) .ret) .skip)
def Qo7 : List Item := mJ 4 18 :: []
def Qo8 : List Item := kJ 15 14 :: fJ 16 3 15 :: lJ 17 16 :: eI 18 (.call Qbu [.t 17, .k (.c (.fn Qcw []))]) :: Qo7
def Qad3 : SC := (.seq (.reg ( fJ 9 0 2 :: lJ 10 9 :: mJ 11 1 :: iJ 12 3 10 11 :: tJ 13 3 12 :: aJ 14 Qc3 [.t 13] :: Qo8) [4]) .ret)
def Qad4 : SC := (.seq (.seq (.reg ( tJ 5 1 2 :: mJ 6 1 :: aJ 7 Qc2 [.t 5, .t 6] :: Qo6) [1, 2, 8]) Qad2) Qad3)
def Qant : SC := (.seq (.reg ( fI 2 (.box (.t 0)) :: fI 4 (.mv (.k (.c (.sl true 1 [])))) :: []) [1, 2]) Qad4)
def Qoz : List RS := [.tmp 4]
theorem Qamx : mFn prog Qkk 2 19 Qant Qoz = true := by kernel_rfl
def Qhj : List Item := mJ 2 4 :: []
def Qyq : SC := (.seq (.reg ( mJ 3 0 :: aJ 4 Qap [.t 3] :: Qhj) [2]) .ret)
def Q71 : SC := (.seq (.reg ( fI 2 (.mv (.k (.c (.sl true 1 [])))) :: []) [0]) Qyq)
def Qo0 : List RS := [.tmp 2]
theorem Q68 : mFn prog Qcw 1 5 Q71 Qo0 = true := by kernel_rfl
def Qlw : List Item := oJ 11 10 :: []
def Q72 : SC := (.cond (.t 11) (.seq (.reg ( fI 4 (.mv (.k (.c (.sl true 1 [])))) :: []) [4]) .ret) .skip)
def Qlx : List Item := mJ 5 17 :: []
def Qly : List Item := mJ 6 34 :: []
def Qlz : List Item := fI 33 (.bsl 1 [.t 32]) :: eI 34 (.app 1 (.t 28) (.t 33)) :: Qly
def Ql0 : List Item := aJ 32 Qap [.t 31] :: Qlz
def Q73 : SC := (.reg ( mJ 28 6 :: mJ 29 5 :: mJ 30 7 :: aJ 31 Qde [.t 29, .t 30] :: Ql0) [5, 6, 24, 25])
def Q74 : SC := (.reg ( cJ 35 .add 25 1 :: mJ 25 35 :: []) [5, 6, 24, 25])
def Q75 : SC := (.seq (.block 1 (.seq (.reg ( mJ 27 25 :: mJ 7 27 :: []) [5, 6, 7, 24, 25]) Q73)) Q74)
def Q3r : SC := (.seq (.reg ( bJ 26 .lss 25 24 :: []) [5, 6, 24, 25, 26]) (.seq (.cond (.t 26) .skip (.exit 0)) Q75))
def Q3m : SC := (.seq (.reg ( mJ 36 6 :: mJ 4 36 :: []) [4]) .ret)
def Q3n : SC := (.seq (.seq (.reg ( fJ 18 0 2 :: lJ 19 18 :: mJ 20 1 :: iJ 21 3 19 20 :: fJ 22 2 21 :: lJ 23 22 :: nJ 24 23 :: fI 25 (.mv (kI 0)) :: []) [5, 6, 24, 25]) (.block 0 (.loop Q3r))) Q3m)
def Q3o : SC := (.seq (.reg ( fI 6 (.mv (.k (.c (.sl true 1 [])))) :: []) [1, 2, 5, 6]) Q3n)
def Q3p : SC := (.seq (.reg ( fJ 12 0 2 :: lJ 13 12 :: mJ 14 1 :: iJ 15 3 13 14 :: tJ 16 3 15 :: aJ 17 Qc3 [.t 16] :: Qlx) [1, 2, 5]) Q3o)
def Q3q : SC := (.seq (.seq (.reg ( tJ 8 1 2 :: mJ 9 1 :: aJ 10 Qc2 [.t 8, .t 9] :: Qlw) [1, 2, 11]) Q72) Q3p)
def Qaj1 : SC := (.seq (.reg ( fI 2 (.box (.t 0)) :: fI 4 (.mv (.k (.c (.sl true 1 [])))) :: []) [1, 2]) Q3q)
def Qk1 : List RS := [.tmp 4]
theorem Qajd : mFn prog Qed 2 37 Qaj1 Qk1 = true := by kernel_rfl
def Qr6 : List Item := oJ 6 5 :: []
def Qaj2 : SC := (.cond (.t 6) (.seq (.reg ( fI 2 (.mv (kI (-1))) :: []) [2]) .ret) .skip)
def Qaj3 : SC := (.seq (.reg ( fJ 7 1 1 :: lJ 8 7 :: mJ 2 8 :: []) [2]) .ret)
def Qaj4 : SC := (.seq (.seq (.reg ( fJ 3 0 1 :: lJ 4 3 :: aJ 5 Qi2 [.t 4] :: Qr6) [1, 6]) Qaj2) Qaj3)
def Qasd : SC := (.seq (.reg ( fI 1 (.box (.t 0)) :: fI 2 (.mv (kI 0)) :: []) [1]) Qaj4)
def Qtg : List RS := [.tmp 2]
theorem Qarm : mFn prog Qgx 1 9 Qasd Qtg = true := by kernel_rfl
def Ql1 : List Item := oJ 13 12 :: []
def Q76 : SC := (.cond (.t 13) (.seq (.reg ( fI 4 (.mv (kI (-1))) :: []) [4]) .ret) .skip)
def Ql2 : List Item := mJ 5 19 :: fI 6 (.mv (kI 0)) :: []
def Ql3 : List Item := mJ 7 29 :: .e none none (.sto 5 (.t 8) (.t 31)) :: []
def Ql4 : List Item := fI 44 (.lenm (.t 43)) :: fI 45 (.mx (.t 39) (.t 44)) :: mJ 6 45 :: []
def Q77 : SC := (.reg ( mJ 37 9 :: cJ 38 .add 37 1 :: mJ 9 38 :: []) [5, 6, 7, 8, 9, 25, 26, 27])
def Q78 : SC := (.seq (.block 3 (.reg ( mJ 39 6 :: mJ 40 5 :: mJ 41 7 :: mJ 42 9 :: aJ 43 Qbt [.t 40, .t 41, .t 42] :: Ql4) [5, 6, 7, 8, 9, 25, 26, 27])) Q77)
def Q3x : SC := (.seq (.seq (.reg ( mJ 32 9 :: fJ 33 1 8 :: lJ 34 33 :: nJ 35 34 :: bJ 36 .lss 32 35 :: []) [5, 6, 7, 8, 9, 25, 26, 27, 36]) (.cond (.t 36) .skip (.exit 2))) Q78)
def Q79 : SC := (.seq (.reg ( fI 9 (.mv (kI (-1))) :: []) [5, 6, 7, 8, 9, 25, 26, 27]) (.block 2 (.loop Q3x)))
def Q8a : SC := (.reg ( cJ 46 .add 27 1 :: mJ 27 46 :: []) [5, 6, 25, 26, 27])
def Q3s : SC := (.seq (.block 1 (.seq (.reg ( mJ 29 27 :: iJ 30 5 25 27 :: tJ 31 5 30 :: eI 8 (.alloc [.sl true 2 [], .sl true 4 [], .int .i64 0, .int .i64 0, .sl true 1 []]) :: Ql3) [5, 6, 7, 8, 25, 26, 27]) Q79)) Q8a)
def Qyr : SC := (.seq (.reg ( bJ 28 .lss 27 26 :: []) [5, 6, 25, 26, 27, 28]) (.seq (.cond (.t 28) .skip (.exit 0)) Q3s))
def Q3t : SC := (.seq (.reg ( mJ 47 6 :: mJ 4 47 :: []) [4]) .ret)
def Q3u : SC := (.seq (.seq (.reg ( fJ 20 0 2 :: lJ 21 20 :: mJ 22 1 :: iJ 23 3 21 22 :: fJ 24 2 23 :: lJ 25 24 :: nJ 26 25 :: fI 27 (.mv (kI 0)) :: []) [5, 6, 25, 26, 27]) (.block 0 (.loop Qyr))) Q3t)
def Q3v : SC := (.seq (.reg ( fJ 14 0 2 :: lJ 15 14 :: mJ 16 1 :: iJ 17 3 15 16 :: tJ 18 3 17 :: aJ 19 Qc3 [.t 18] :: Ql2) [1, 2, 5, 6]) Q3u)
def Q3w : SC := (.seq (.seq (.reg ( tJ 10 1 2 :: mJ 11 1 :: aJ 12 Qc2 [.t 10, .t 11] :: Ql1) [1, 2, 13]) Q76) Q3v)
def Qaj5 : SC := (.seq (.reg ( fI 2 (.box (.t 0)) :: fI 4 (.mv (kI 0)) :: []) [1, 2]) Q3w)
def Qk2 : List RS := [.tmp 4]
theorem Qaje : mFn prog Qh6 2 48 Qaj5 Qk2 = true := by kernel_rfl
def Qjm : List Item := oJ 10 9 :: []
def Q3y : SC := (.cond (.t 10) (.seq (.reg ( fI 2 (.mv (.k (.c (.bool false)))) :: []) [2]) .ret) .skip)
def Qjn : List Item := mJ 4 16 :: .e none none (.sto 3 (.t 5) (.t 18)) :: []
def Qjo : List Item := oJ 22 21 :: []
def Q3z : SC := (.cond (.t 22) (.seq (.reg ( fI 2 (.mv (.k (.c (.bool false)))) :: []) [2]) .ret) .skip)
def Qjp : List Item := bJ 26 .add 23 25 :: mJ 3 26 :: []
def Q30 : SC := (.reg ( mJ 23 3 :: tJ 24 3 5 :: aJ 25 Qfp [.t 24] :: Qjp) [1, 3, 12, 13, 14])
def Q31 : SC := (.seq (.seq (.reg ( tJ 19 1 1 :: mJ 20 4 :: aJ 21 Qoj [.t 19, .t 20] :: Qjo) [1, 3, 5, 12, 13, 14, 22]) Q3z) Q30)
def Q32 : SC := (.reg ( cJ 27 .add 14 1 :: mJ 14 27 :: []) [1, 3, 12, 13, 14])
def Q33 : SC := (.seq (.block 1 (.seq (.reg ( mJ 16 14 :: iJ 17 3 12 14 :: tJ 18 3 17 :: eI 5 (.alloc [.int .i64 0, .int .i64 0, .sl true 5 []]) :: Qjn) [1, 3, 4, 5, 12, 13, 14]) Q31)) Q32)
def Qvf : SC := (.seq (.reg ( bJ 15 .lss 14 13 :: []) [1, 3, 12, 13, 14, 15]) (.seq (.cond (.t 15) .skip (.exit 0)) Q33))
def Qys : SC := (.seq (.reg ( mJ 28 3 :: cJ 29 .leq 28 800 :: mJ 2 29 :: []) [2]) .ret)
def Qyt : SC := (.seq (.seq (.reg ( fJ 11 0 1 :: lJ 12 11 :: nJ 13 12 :: fI 14 (.mv (kI 0)) :: []) [1, 3, 12, 13, 14]) (.block 0 (.loop Qvf))) Qys)
def Qyu : SC := (.seq (.reg ( fI 3 (.mv (kI 0)) :: []) [1, 3]) Qyt)
def Qyv : SC := (.seq (.seq (.reg ( fJ 6 0 1 :: lJ 7 6 :: nJ 8 7 :: aJ 9 Qai [.t 8, kI 1, kI 4] :: Qjm) [1, 10]) Q3y) Qyu)
def Qaeb : SC := (.seq (.reg ( fI 1 (.box (.t 0)) :: fI 2 (.mv (.k (.c (.bool false)))) :: []) [1]) Qyv)
def Qih : List RS := [.tmp 2]
theorem Qado : mFn prog Qfo 1 30 Qaeb Qih = true := by kernel_rfl
def Qr7 : List Item := mJ 2 5 :: []
def Qaj6 : SC := (.seq (.reg ( fJ 3 2 1 :: lJ 4 3 :: aJ 5 Qra [.t 4] :: Qr7) [2]) .ret)
def Qase : SC := (.seq (.reg ( fI 1 (.box (.t 0)) :: fI 2 (.mv (.k (.c (.sl true 1 [])))) :: []) [1]) Qaj6)
def Q7g : List RS := [.tmp 2]
theorem Qarn : mFn prog Qoi 1 6 Qase Q7g = true := by kernel_rfl
def Qim : List Item := fI 14 (.pick (.t 7) (.t 13) (.k (.c (.bool false)))) :: mJ 4 14 :: []
def Qin : List Item := mJ 7 6 :: gTm 8 7 1 :: gTf 9 7 0 2 :: gTl 10 7 9 :: gT 11 7 (.len (.t 10)) :: gT 12 7 (.bin 0 .sub (.t 11) (kI 1)) :: .e (some 13) (some (7, true)) (.call Qai [.t 8, kI 0, .t 12]) :: Qim
def Qaj7 : SC := (.seq (.reg ( tJ 5 1 2 :: aJ 6 Qfo [.t 5] :: Qin) [4]) .ret)
def Qasf : SC := (.seq (.reg ( fI 2 (.box (.t 0)) :: fI 4 (.mv (.k (.c (.bool false)))) :: []) [1, 2]) Qaj7)
def Qth : List RS := [.tmp 4]
theorem Qaro : mFn prog Qc2 2 15 Qasf Qth = true := by kernel_rfl
def Qjq : List Item := .e none none (.sto 5 (.t 5) (.t 12)) :: []
def Q34 : SC := (.reg ( mJ 13 3 :: fJ 14 0 5 :: lJ 15 14 :: nJ 16 15 :: fJ 17 1 5 :: lJ 18 17 :: nJ 19 18 :: bJ 20 .add 16 19 :: bJ 21 .add 13 20 :: mJ 3 21 :: []) [3, 7, 8, 9])
def Q35 : SC := (.reg ( cJ 22 .add 9 1 :: mJ 9 22 :: []) [3, 7, 8, 9])
def Q36 : SC := (.seq (.block 1 (.seq (.reg ( iJ 11 5 7 9 :: tJ 12 5 11 :: eI 5 (.alloc [.sl true 2 [], .sl true 4 [], .int .i64 0, .int .i64 0, .sl true 1 []]) :: Qjq) [3, 5, 7, 8, 9]) Q34)) Q35)
def Qyw : SC := (.seq (.reg ( bJ 10 .lss 9 8 :: []) [3, 7, 8, 9, 10]) (.seq (.cond (.t 10) .skip (.exit 0)) Q36))
def Q37 : SC := (.seq (.reg ( mJ 23 3 :: mJ 2 23 :: []) [2]) .ret)
def Q38 : SC := (.seq (.seq (.reg ( fJ 6 2 1 :: lJ 7 6 :: nJ 8 7 :: fI 9 (.mv (kI 0)) :: []) [3, 7, 8, 9]) (.block 0 (.loop Qyw))) Q37)
def Q39 : SC := (.seq (.reg ( fI 3 (.mv (kI 0)) :: []) [1, 3]) Q38)
def Qaec : SC := (.seq (.reg ( fI 1 (.box (.t 0)) :: fI 2 (.mv (kI 0)) :: []) [1]) Q39)
def Qry : List RS := [.tmp 2]
theorem Qadp : mFn prog Qfp 1 24 Qaec Qry = true := by kernel_rfl
def Qsc : List Item := .e none none (.sto 3 (.t 5) (.t 16)) :: []
def Qeg : List Item := gF 35 30 (.not (.t 34)) :: fI 36 (.pick (.t 30) (.k (.c (.bool true))) (.t 35)) :: []
def Qeh : List Item := gF 28 21 (.not (.t 27)) :: fI 29 (.pick (.t 21) (.k (.c (.bool true))) (.t 28)) :: mJ 30 29 :: gFf 31 30 2 5 :: gFl 32 30 31 :: gF 33 30 (.len (.t 32)) :: .e (some 34) (some (30, false)) (.call Qai [.t 33, kI 1, kI 160]) :: Qeg
def Qip : List Item := oJ 20 19 :: mJ 21 20 :: gFf 22 21 0 5 :: gFl 23 21 22 :: gFf 24 21 1 5 :: gFl 25 21 24 :: gF 26 21 (.mn (kI 3) (.t 25)) :: .e (some 27) (some (21, false)) (.call Qai [.t 23, kI 0, .t 26]) :: Qeh
def s_im_codeOk_4 : SC := (.cond (.t 36) (.seq (.reg ( fI 4 (.mv (.k (.c (.bool false)))) :: []) [4]) .ret) .skip)
def Qsd : List Item := .e none none (.sto 1 (.t 6) (.t 37)) :: []
def Qse : List Item := mJ 7 43 :: .e none none (.sto 5 (.t 8) (.t 45)) :: []
def Qcu : List Item := gF 69 65 (.not (.t 68)) :: gFm 70 65 69 :: gTf 71 70 3 8 :: gTl 72 70 71 :: gT 73 70 (.bin 0 .neq (.t 72) (kI 0)) :: gF 74 65 (.pick (.t 70) (.t 73) (.k (.c (.bool false)))) :: fI 75 (.pick (.t 65) (.k (.c (.bool true))) (.t 74)) :: []
def Qcv : List Item := gT 62 57 (.not (.t 61)) :: gF 63 53 (.pick (.t 57) (.t 62) (.k (.c (.bool false)))) :: fI 64 (.pick (.t 53) (.k (.c (.bool true))) (.t 63)) :: mJ 65 64 :: gFf 66 65 2 8 :: gFl 67 65 66 :: .e (some 68) (some (65, false)) (.call Qel [.t 67]) :: Qcu
def Qei : List Item := gFm 57 53 56 :: gTl 58 57 6 :: gTf 59 57 3 8 :: gTl 60 57 59 :: .e (some 61) (some (57, true)) (.callv (.t 58) [.t 60]) :: Qcv
def Qf4 : List Item := .chk 47 none (.ld 1 false (.t 46)) :: .chk 48 none (.len (.t 47)) :: bJ 52 .neq 48 51 :: mJ 53 52 :: gFf 54 53 2 8 :: gFl 55 53 54 :: .e (some 56) (some (53, false)) (.call Qel [.t 55]) :: Qei
def s_im_codeOk_11 : SC := (.cond (.t 75) (.seq (.reg ( fI 4 (.mv (.k (.c (.bool false)))) :: []) [4]) .ret) .skip)
def Qf5 : List Item := fI 85 (.pick (.t 80) (.k (.c (.bool true))) (.t 84)) :: []
def Qf6 : List Item := mJ 80 79 :: gFf 81 80 1 8 :: gFl 82 80 81 :: gF 83 80 (.mkf Qfr [.t 2, .t 3]) :: .e (some 84) (some (80, false)) (.call Qb9 [.t 82, .t 83]) :: Qf5
def s_im_codeOk_14 : SC := (.cond (.t 85) (.seq (.reg ( fI 4 (.mv (.k (.c (.bool false)))) :: []) [4]) .ret) .skip)
def Qpc : List Item := nJ 89 88 :: mJ 9 89 :: []
def Qpd : List Item := .e none none (.sto 2 (.t 11) (.t 96)) :: []
def Qce : List Item := fI 118 (.pick (.t 113) (.k (.c (.bool true))) (.t 117)) :: []
def Qcf : List Item := gF 104 99 (.not (.t 103)) :: fI 105 (.pick (.t 99) (.k (.c (.bool true))) (.t 104)) :: mJ 106 105 :: gFf 107 106 1 11 :: gFl 108 106 107 :: gF 109 106 (.len (.t 108)) :: gFm 110 106 9 :: gF 111 106 (.bin 0 .neq (.t 109) (.t 110)) :: fI 112 (.pick (.t 106) (.k (.c (.bool true))) (.t 111)) :: mJ 113 112 :: gFf 114 113 1 11 :: gFl 115 113 114 :: gF 116 113 (.mkf Qfs [.t 6]) :: .e (some 117) (some (113, false)) (.call Qbm [.t 115, .t 116]) :: Qce
def Qr8 : SC := (.cond (.t 118) (.seq (.reg ( fI 4 (.mv (.k (.c (.bool false)))) :: []) [4]) .ret) .skip)
def Qaed : SC := (.seq (.reg ( mJ 97 7 :: cJ 98 .eql 97 0 :: mJ 99 98 :: gFl 100 99 6 :: gFf 101 99 0 11 :: gFl 102 99 101 :: .e (some 103) (some (99, false)) (.callv (.t 100) [.t 102]) :: Qcf) [2, 3, 5, 6, 7, 9, 39, 40, 41, 91, 92, 93, 118]) Qr8)
def Qr9 : SC := (.reg ( cJ 119 .add 93 1 :: mJ 93 119 :: []) [2, 3, 5, 6, 7, 9, 39, 40, 41, 91, 92, 93])
def Qaee : SC := (.seq (.block 3 (.seq (.reg ( iJ 95 2 91 93 :: tJ 96 2 95 :: eI 11 (.alloc [.int .i64 0, .sl true 1 []]) :: Qpd) [2, 3, 5, 6, 7, 9, 11, 39, 40, 41, 91, 92, 93]) Qaed)) Qr9)
def Q8f : SC := (.seq (.reg ( bJ 94 .lss 93 92 :: []) [2, 3, 5, 6, 7, 9, 39, 40, 41, 91, 92, 93, 94]) (.seq (.cond (.t 94) .skip (.exit 2)) Qaee))
def Qaef : SC := (.seq (.reg ( fJ 90 0 8 :: lJ 91 90 :: nJ 92 91 :: fI 93 (.mv (kI 0)) :: []) [2, 3, 5, 6, 7, 9, 39, 40, 41, 91, 92, 93]) (.block 2 (.loop Q8f)))
def Qio : SC := (.seq (.reg ( tJ 86 3 5 :: mJ 87 7 :: aJ 88 Qdd [.t 86, .t 87] :: Qpc) [2, 3, 5, 6, 7, 8, 9, 39, 40, 41]) Qaef)
def Qsa : SC := (.seq (.seq (.reg ( fJ 76 4 8 :: lJ 77 76 :: fI 78 (.mkf Qfq [.t 5]) :: aJ 79 Qbm [.t 77, .t 78] :: Qf6) [2, 3, 5, 6, 7, 8, 39, 40, 41, 85]) s_im_codeOk_14) Qio)
def Qaeg : SC := (.seq (.seq (.dreg 30 [0, 1, 2, 3, 4, 5, 1, 2, 6, 7, 8, 9, 10, 11, 12, 13, 14, 15, 16, 17, 18, 19, 20, 21, 22, 23, 24, 25, 26, 27, 28, 29] ( fJ 46 4 8 :: lJ 47 46 :: nJ 48 47 :: fJ 49 2 8 :: lJ 50 49 :: aJ 51 Qft [.t 50] :: Qf4) [2, 3, 5, 6, 7, 8, 39, 40, 41, 75]) s_im_codeOk_11) Qsa)
def Qaeh : SC := (.reg ( cJ 120 .add 41 1 :: mJ 41 120 :: []) [2, 3, 5, 6, 39, 40, 41])
def Qaei : SC := (.seq (.block 1 (.seq (.reg ( mJ 43 41 :: iJ 44 5 39 41 :: tJ 45 5 44 :: eI 8 (.alloc [.sl true 2 [], .sl true 4 [], .int .i64 0, .int .i64 0, .sl true 1 []]) :: Qse) [2, 3, 5, 6, 7, 8, 39, 40, 41]) Qaeg)) Qaeh)
def Q8g : SC := (.seq (.reg ( bJ 42 .lss 41 40 :: []) [2, 3, 5, 6, 39, 40, 41, 42]) (.seq (.cond (.t 42) .skip (.exit 0)) Qaei))
def Qaej : SC := (.seq (.reg ( fI 4 (.mv (.k (.c (.bool true)))) :: []) [4]) .ret)
def Qaek : SC := (.seq (.seq (.reg ( fJ 38 2 5 :: lJ 39 38 :: nJ 40 39 :: fI 41 (.mv (kI 0)) :: []) [2, 3, 5, 6, 39, 40, 41]) (.block 0 (.loop Q8g))) Qaej)
def Qsb : SC := (.seq (.reg ( fI 37 (.mkf Qac [.t 5]) :: eI 6 (.alloc [.fnil]) :: Qsd) [2, 3, 5, 6]) Qaek)
def Qael : SC := (.seq (.seq (.reg ( fJ 17 1 5 :: lJ 18 17 :: aJ 19 Qai [.t 18, kI 0, kI 300] :: Qip) [2, 3, 5, 36]) s_im_codeOk_4) Qsb)
def Qaem : SC := (.seq (.reg ( fJ 12 0 2 :: lJ 13 12 :: lJ 14 3 :: iJ 15 3 13 14 :: tJ 16 3 15 :: eI 5 (.alloc [.int .i64 0, .int .i64 0, .sl true 5 []]) :: Qsc) [2, 3, 5]) Qael)
def Qasg : SC := (.seq (.reg ( fI 2 (.box (.t 0)) :: fI 3 (.box (.t 1)) :: fI 4 (.mv (.k (.c (.bool false)))) :: []) [2, 3]) Qaem)
def Qf0 : List RS := [.tmp 4]
theorem Qarp : mFn prog Qoj 2 121 Qasg Qf0 = true := by kernel_rfl
def Qjr : List Item := mJ 3 8 :: []
def Q4a : SC := (.seq (.reg ( mJ 4 0 :: fJ 5 1 1 :: lJ 6 5 :: cJ 7 .sub 6 1 :: aJ 8 Qai [.t 4, kI 0, .t 7] :: Qjr) [3]) .ret)
def Qaen : SC := (.seq (.reg ( fI 3 (.mv (.k (.c (.bool false)))) :: []) [0, 1]) Q4a)
def Qrz : List RS := [.tmp 3]
theorem Qadq : mFn prog Qac 2 9 Qaen Qrz = true := by kernel_rfl
def Qjs : List Item := oJ 10 9 :: mJ 3 10 :: []
def Q4b : SC := (.seq (.reg ( mJ 4 0 :: fJ 5 2 1 :: lJ 6 5 :: nJ 7 6 :: cJ 8 .sub 7 1 :: aJ 9 Qai [.t 4, kI 1, .t 8] :: Qjs) [3]) .ret)
def Qaeo : SC := (.seq (.reg ( fI 3 (.mv (.k (.c (.bool false)))) :: []) [0, 1]) Q4b)
def Qr0 : List RS := [.tmp 3]
theorem Qadr : mFn prog Qfq 2 11 Qaeo Qr0 = true := by kernel_rfl
def Qjt : List Item := oJ 9 8 :: mJ 4 9 :: []
def Q4c : SC := (.seq (.reg ( tJ 5 1 1 :: lJ 6 2 :: tJ 7 4 3 :: aJ 8 Qta [.t 5, .t 6, .t 7] :: Qjt) [4]) .ret)
def Qaep : SC := (.seq (.reg ( fI 3 (.box (.t 0)) :: fI 4 (.mv (.k (.c (.bool false)))) :: []) [1, 2, 3]) Q4c)
def Qr1 : List RS := [.tmp 4]
theorem Qads : mFn prog Qfr 3 10 Qaep Qr1 = true := by kernel_rfl
def Qju : List Item := oJ 7 6 :: mJ 3 7 :: []
def Q4d : SC := (.seq (.reg ( lJ 4 1 :: mJ 5 0 :: eI 6 (.callv (.t 4) [.t 5]) :: Qju) [3]) .ret)
def Qaeq : SC := (.seq (.reg ( fI 3 (.mv (.k (.c (.bool false)))) :: []) [0, 1]) Q4d)
def Qr2 : List RS := [.tmp 3]
theorem Qadt : mFn prog Qfs 2 8 Qaeq Qr2 = true := by kernel_rfl
def Qaer : SC := (.cond (.t 6) .skip (.reg ( cJ 10 .eql 3 13 :: mJ 6 10 :: []) [6]))
def Qaes : SC := (.cond (.t 6) .skip (.seq (.reg ( cJ 9 .eql 3 11 :: mJ 6 9 :: []) [3, 6]) Qaer))
def Qaet : SC := (.cond (.t 6) .skip (.seq (.reg ( cJ 8 .eql 3 10 :: mJ 6 8 :: []) [3, 6]) Qaes))
def Qsf : SC := (.cond (.t 6) (.seq (.reg ( fI 2 (.mv (kI 1)) :: []) [2]) .ret) .skip)
def Qaeu : SC := (.cond (.t 4) (.seq (.reg ( fI 2 (.mv (kI 0)) :: []) [2]) .ret) (.seq (.seq (.reg ( cJ 7 .eql 3 2 :: mJ 6 7 :: []) [3, 6]) Qaet) Qsf))
def Qaev : SC := (.block 0 (.seq (.reg ( cJ 5 .eql 3 1 :: mJ 4 5 :: []) [3, 4]) Qaeu))
def Qsg : SC := (.seq (.reg ( fI 2 (.mv (kI 2)) :: []) [2]) .ret)
def Qaew : SC := (.seq (.seq (.reg ( mJ 3 0 :: []) [3]) Qaev) Qsg)
def Qanv : SC := (.seq (.reg ( fI 2 (.mv (kI 0)) :: []) [0]) Qaew)
def Qg8 : List RS := [.tmp 2]
theorem Qamz : mFn prog Qkl 1 11 Qanv Qg8 = true := by kernel_rfl
def Qvi : List Item := .e none none (.sto 3 (.t 7) (.t 13)) :: []
def Qvj : List Item := .e none none (.sto 1 (.t 8) (.t 14)) :: []
def Qk7 : List Item := fI 24 (.pick (.t 19) (.k (.c (.bool true))) (.t 23)) :: []
def Qvk : List Item := oJ 18 17 :: mJ 19 18 :: gFf 20 19 2 5 :: gFl 21 19 20 :: gF 22 19 (.mkf Qh7 [.t 8]) :: .e (some 23) (some (19, false)) (.call Qbm [.t 21, .t 22]) :: Qk7
def s_im_insOk_4 : SC := (.cond (.t 24) (.seq (.reg ( fI 6 (.mv (.k (.c (.bool false)))) :: []) [6]) .ret) .skip)
def Qfa : List Item := gF 39 35 (.not (.t 38)) :: gFm 40 35 39 :: gTf 41 40 1 5 :: gTl 42 40 41 :: gT 43 40 (.bin 0 .neq (.t 42) (kI (-1))) :: gF 44 35 (.pick (.t 40) (.t 43) (.k (.c (.bool false)))) :: fI 45 (.pick (.t 35) (.k (.c (.bool true))) (.t 44)) :: []
def Qfb : List Item := gT 33 28 (.not (.t 32)) :: fI 34 (.pick (.t 28) (.t 33) (.k (.c (.bool false)))) :: mJ 35 34 :: gFf 36 35 0 5 :: gFl 37 35 36 :: .e (some 38) (some (35, false)) (.call Qi2 [.t 37]) :: Qfa
def Qk8 : List Item := mJ 28 27 :: gTl 29 28 8 :: gTf 30 28 1 5 :: gTl 31 28 30 :: .e (some 32) (some (28, true)) (.callv (.t 29) [.t 31]) :: Qfb
def s_im_insOk_8 : SC := (.cond (.t 45) (.seq (.reg ( fI 6 (.mv (.k (.c (.bool false)))) :: []) [6]) .ret) .skip)
def Qk9 : List Item := fI 58 (.pick (.t 54) (.t 57) (.k (.c (.bool false)))) :: mJ 6 58 :: []
def Qej : List Item := mJ 66 65 :: gTf 67 66 2 5 :: gTl 68 66 67 :: gT 69 66 (.len (.t 68)) :: gTf 70 66 0 3 :: gTl 71 66 70 :: gTf 72 66 3 5 :: gTl 73 66 72 :: gT 74 66 (.iad 3 (.t 71) (.t 73)) :: gTf 75 66 0 74 :: gTl 76 66 75 :: gT 77 66 (.bin 0 .eql (.t 69) (.t 76)) :: fI 78 (.pick (.t 66) (.t 77) (.k (.c (.bool false)))) :: mJ 6 78 :: []
def Qaj8 : SC := (.cond (.t 59) (.seq (.dreg 19 [0, 1, 2, 3, 4, 5, 6, 7, 8, 9, 10, 11, 12, 13, 14, 15, 16, 17, 18] ( fJ 61 3 5 :: lJ 62 61 :: mJ 63 1 :: cJ 64 .sub 63 1 :: aJ 65 Qai [.t 62, kI 0, .t 64] :: Qej) [6]) .ret) .skip)
def Qaj9 : SC := (.cond (.t 48) (.seq (.reg ( fJ 50 2 5 :: lJ 51 50 :: nJ 52 51 :: cJ 53 .eql 52 0 :: mJ 54 53 :: gTf 55 54 3 5 :: gTl 56 54 55 :: .e (some 57) (some (54, true)) (.call Qok [.t 56]) :: Qk9) [6]) .ret) (.seq (.reg ( cJ 60 .eql 47 14 :: mJ 59 60 :: []) [1, 3, 5, 59]) Qaj8))
def Qaka : SC := (.block 0 (.seq (.reg ( cJ 49 .eql 47 1 :: mJ 48 49 :: []) [1, 3, 5, 47, 48]) Qaj9))
def Qiq : List Item := .chk 84 (some (82, true)) (.ld 1 false (.t 83)) :: .chk 85 (some (82, true)) (.len (.t 84)) :: gT 89 82 (.bin 0 .eql (.t 85) (.t 88)) :: fI 90 (.pick (.t 82) (.t 89) (.k (.c (.bool false)))) :: mJ 6 90 :: []
def Qakb : SC := (.seq (.dreg 13 [0, 1, 2, 3, 4, 5, 6, 7, 8, 9, 5, 6, 10, 11, 12] ( fJ 79 3 5 :: lJ 80 79 :: cJ 81 .eql 80 0 :: mJ 82 81 :: gTf 83 82 2 5 :: gTl 84 82 83 :: gT 85 82 (.len (.t 84)) :: gTf 86 82 0 5 :: gTl 87 82 86 :: .e (some 88) (some (82, true)) (.call Qkl [.t 87]) :: Qiq) [6]) .ret)
def Qvg : SC := (.seq (.seq (.reg ( fJ 46 0 5 :: lJ 47 46 :: []) [1, 3, 5, 47]) Qaka) Qakb)
def Qvh : SC := (.seq (.seq (.reg ( fJ 25 0 5 :: lJ 26 25 :: aJ 27 Qi2 [.t 26] :: Qk8) [1, 3, 5, 45]) s_im_insOk_8) Qvg)
def Qakc : SC := (.seq (.seq (.reg ( fJ 15 0 5 :: lJ 16 15 :: aJ 17 Qkm [.t 16] :: Qvk) [1, 3, 5, 8, 24]) s_im_insOk_4) Qvh)
def Qakd : SC := (.seq (.reg ( fI 14 (.mkf Qcq [.t 7]) :: eI 8 (.alloc [.fnil]) :: Qvj) [1, 3, 5, 8]) Qakc)
def Qake : SC := (.seq (.reg ( fJ 9 0 3 :: lJ 10 9 :: mJ 11 1 :: iJ 12 3 10 11 :: tJ 13 3 12 :: eI 7 (.alloc [.int .i64 0, .int .i64 0, .sl true 5 []]) :: Qvi) [1, 3, 5, 7]) Qakd)
def Qazo : SC := (.seq (.reg ( fI 3 (.box (.t 0)) :: fI 5 (.box (.t 2)) :: fI 6 (.mv (.k (.c (.bool false)))) :: []) [1, 3, 5]) Qake)
def Qjf : List RS := [.tmp 6]
theorem Qay8 : mFn prog Qta 3 91 Qazo Qjf = true := by kernel_rfl
def Ql5 : List Item := mJ 3 8 :: []
def Q8h : SC := (.seq (.reg ( mJ 4 0 :: fJ 5 1 1 :: lJ 6 5 :: cJ 7 .sub 6 1 :: aJ 8 Qai [.t 4, kI 0, .t 7] :: Ql5) [3]) .ret)
def Qakf : SC := (.seq (.reg ( fI 3 (.mv (.k (.c (.bool false)))) :: []) [0, 1]) Q8h)
def Qu2 : List RS := [.tmp 3]
theorem Qajf : mFn prog Qcq 2 9 Qakf Qu2 = true := by kernel_rfl
def Ql6 : List Item := oJ 7 6 :: mJ 3 7 :: []
def Q8i : SC := (.seq (.reg ( lJ 4 1 :: mJ 5 0 :: eI 6 (.callv (.t 4) [.t 5]) :: Ql6) [3]) .ret)
def Qakg : SC := (.seq (.reg ( fI 3 (.mv (.k (.c (.bool false)))) :: []) [0, 1]) Q8i)
def Qu3 : List RS := [.tmp 3]
theorem Qajg : mFn prog Qh7 2 8 Qakg Qu3 = true := by kernel_rfl
def Qsh : List Item := mJ 2 4 :: []
def Qakh : SC := (.seq (.reg ( mJ 3 0 :: aJ 4 Qai [.t 3, kI 0, kI 255] :: Qsh) [2]) .ret)
def Qash : SC := (.seq (.reg ( fI 2 (.mv (.k (.c (.bool false)))) :: []) [0]) Qakh)
def Q7h : List RS := [.tmp 2]
theorem Qarq : mFn prog Qok 1 5 Qash Q7h = true := by kernel_rfl
def Qvl : List Item := mJ 2 4 :: []
def Qanw : SC := (.seq (.reg ( mJ 3 0 :: aJ 4 Qai [.t 3, kI 1, kI 14] :: Qvl) [2]) .ret)
def Qazp : SC := (.seq (.reg ( fI 2 (.mv (.k (.c (.bool false)))) :: []) [0]) Qanw)
def Qah4 : List RS := [.tmp 2]
theorem Qay9 : mFn prog Qkm 1 5 Qazp Qah4 = true := by kernel_rfl
def Qsi : List Item := mJ 3 16 :: []
def Qsj : List Item := .chk 10 none (.ld 3 true (.t 1)) :: fI 15 (.bld [.int .i64 0, .int .i64 0, .sl true 5 [], .sl true 1 [], .sl true 1 []] [(0, 3, .t 10), (3, 1, .t 14)]) :: eI 16 (.boxm (.t 15)) :: Qsi
def Qsk : List Item := kJ 33 23 :: fJ 34 4 33 :: .e none none (.sto 1 (.t 34) (.t 32)) :: []
def Qsl : List Item := .chk 27 none (.ld 1 false (.t 26)) :: fI 31 (.bsl 1 [.t 30]) :: eI 32 (.app 1 (.t 27) (.t 31)) :: Qsk
def Qaki : SC := (.dreg 13 [0, 1, 2, 3, 4, 5, 6, 7, 4, 8, 9, 10, 11, 12] ( mJ 23 3 :: mJ 24 3 :: kJ 25 24 :: fJ 26 4 25 :: lJ 27 26 :: tJ 28 3 1 :: mJ 29 4 :: aJ 30 Qdd [.t 28, .t 29] :: Qsl) [1, 3, 19, 20])
def Qakj : SC := (.reg ( cJ 35 .add 20 1 :: mJ 20 35 :: []) [1, 3, 19, 20])
def Qakk : SC := (.seq (.block 1 (.seq (.reg ( mJ 22 20 :: mJ 4 22 :: []) [1, 3, 4, 19, 20]) Qaki)) Qakj)
def Qafb : SC := (.seq (.reg ( bJ 21 .lss 20 19 :: []) [1, 3, 19, 20, 21]) (.seq (.cond (.t 21) .skip (.exit 0)) Qakk))
def Qsm : List Item := mJ 7 47 :: []
def Qsn : List Item := .e none none (.sto 2 (.t 9) (.t 58)) :: []
def Qaex : SC := (.reg ( mJ 59 7 :: fJ 60 0 9 :: lJ 61 60 :: .e none none (.del 0 (.t 59) (.t 61)) :: []) [1, 3, 5, 6, 7, 53, 54, 55])
def Qaey : SC := (.reg ( cJ 62 .add 55 1 :: mJ 55 62 :: []) [1, 3, 5, 6, 7, 53, 54, 55])
def Qaez : SC := (.seq (.block 7 (.seq (.reg ( iJ 57 2 53 55 :: tJ 58 2 57 :: eI 9 (.alloc [.int .i64 0, .sl true 1 []]) :: Qsn) [1, 3, 5, 6, 7, 9, 53, 54, 55]) Qaex)) Qaey)
def Q8j : SC := (.seq (.reg ( bJ 56 .lss 55 54 :: []) [1, 3, 5, 6, 7, 53, 54, 55, 56]) (.seq (.cond (.t 56) .skip (.exit 6)) Qaez))
def Qpe : List Item := fI 5 (.mv (.k (.c (.bool true)))) :: []
def Qae0 : SC := (.cond (.t 73) (.reg ( mJ 74 3 :: kJ 75 74 :: fJ 76 3 75 :: lJ 77 76 :: mJ 78 6 :: mJ 79 7 :: iJ 80 1 77 78 :: .e none none (.sto 1 (.t 80) (.t 79)) :: Qpe) [1, 3, 5, 6]) .skip)
def Qae1 : SC := (.seq (.dreg 11 [0, 1, 2, 3, 4, 5, 6, 7, 8, 9, 10] ( mJ 63 7 :: fI 64 (.lenm (.t 63)) :: mJ 65 3 :: kJ 66 65 :: fJ 67 3 66 :: lJ 68 67 :: mJ 69 6 :: iJ 70 1 68 69 :: lJ 71 70 :: fI 72 (.lenm (.t 71)) :: bJ 73 .neq 64 72 :: []) [1, 3, 5, 6, 7, 73]) Qae0)
def Qae2 : SC := (.seq (.seq (.reg ( fJ 48 2 1 :: lJ 49 48 :: mJ 50 6 :: iJ 51 5 49 50 :: fJ 52 0 51 :: lJ 53 52 :: nJ 54 53 :: fI 55 (.mv (kI 0)) :: []) [1, 3, 5, 6, 7, 53, 54, 55]) (.block 6 (.loop Q8j))) Qae1)
def Qae3 : SC := (.reg ( mJ 43 6 :: cJ 44 .sub 43 1 :: mJ 6 44 :: []) [1, 3, 5, 6])
def Qae4 : SC := (.seq (.block 5 (.seq (.reg ( mJ 45 3 :: mJ 46 6 :: aJ 47 Qbt [.t 45, .t 46, kI (-1)] :: Qsm) [1, 3, 5, 6, 7]) Qae2)) Qae3)
def Q8k : SC := (.seq (.seq (.reg ( mJ 41 6 :: cJ 42 .geq 41 0 :: []) [1, 3, 5, 6, 42]) (.cond (.t 42) .skip (.exit 4))) Qae4)
def Qae5 : SC := (.seq (.reg ( fJ 37 2 1 :: lJ 38 37 :: nJ 39 38 :: cJ 40 .sub 39 1 :: mJ 6 40 :: []) [1, 3, 5, 6]) (.block 4 (.loop Q8k)))
def Qae6 : SC := (.block 3 (.seq (.reg ( fI 5 (.mv (.k (.c (.bool false)))) :: []) [1, 3, 5]) Qae5))
def Q8l : SC := (.seq (.seq (.reg ( mJ 36 5 :: []) [1, 3, 36]) (.cond (.t 36) .skip (.exit 2))) Qae6)
def Qae7 : SC := (.seq (.reg ( mJ 81 3 :: mJ 2 81 :: []) [2]) .ret)
def Qae8 : SC := (.seq (.seq (.reg ( fI 5 (.mv (.k (.c (.bool true)))) :: []) [1, 3, 5]) (.block 2 (.loop Q8l))) Qae7)
def Qae9 : SC := (.seq (.seq (.reg ( fJ 17 2 1 :: lJ 18 17 :: nJ 19 18 :: fI 20 (.mv (kI 0)) :: []) [1, 3, 19, 20]) (.block 0 (.loop Qafb))) Qae8)
def Qafa : SC := (.seq (.dreg 8 [0, 1, 2, 3, 4, 0, 5, 6, 7] ( tJ 10 3 1 :: fJ 11 2 1 :: lJ 12 11 :: nJ 13 12 :: eI 14 (.mks 1 [.mnil] (.t 13)) :: Qsj) [1, 3]) Qae9)
def Qasi : SC := (.seq (.reg ( fI 1 (.box (.t 0)) :: fI 2 (.mv (.k (.c .pnil))) :: []) [1]) Qafa)
def Q7i : List RS := [.tmp 2]
theorem Qarr : mFn prog Qc3 1 82 Qasi Q7i = true := by kernel_rfl
def Qf7 : List Item := mJ 7 13 :: []
def Qf8 : List Item := .e none none (.sto 5 (.t 8) (.t 21)) :: []
def Qvm : SC := (.cond (.t 24) (.reg ( mJ 25 7 :: fJ 26 3 8 :: lJ 27 26 :: .e none none (.upd 0 (.t 25) (.t 27) (.k (.c (.bool true)))) :: []) [2, 7, 8]) .skip)
def Qf9 : List Item := mJ 10 42 :: []
def Qvn : SC := (.cond (.t 44) (.reg ( mJ 45 7 :: mJ 46 10 :: .e none none (.del 0 (.t 45) (.t 46)) :: []) [2, 7, 8, 9]) .skip)
def Qvo : SC := (.seq (.reg ( mJ 43 10 :: cJ 44 .geq 43 0 :: []) [2, 7, 8, 9, 10, 44]) Qvn)
def Qvp : SC := (.reg ( mJ 47 7 :: fJ 48 1 8 :: lJ 49 48 :: mJ 50 9 :: iJ 51 4 49 50 :: fJ 52 2 51 :: lJ 53 52 :: aJ 54 Qd0 [.t 47, .t 53] :: []) [2, 7, 8, 9])
def Qvq : SC := (.reg ( mJ 35 9 :: cJ 36 .sub 35 1 :: mJ 9 36 :: []) [2, 7, 8, 9])
def Qvr : SC := (.seq (.block 1 (.seq (.seq (.reg ( fJ 37 1 8 :: lJ 38 37 :: mJ 39 9 :: iJ 40 4 38 39 :: tJ 41 4 40 :: aJ 42 Qgx [.t 41] :: Qf9) [2, 7, 8, 9, 10]) Qvo) Qvp)) Qvq)
def Qts : SC := (.seq (.seq (.reg ( mJ 32 9 :: mJ 33 2 :: bJ 34 .gtr 32 33 :: []) [2, 7, 8, 9, 34]) (.cond (.t 34) .skip (.exit 0))) Qvr)
def Qtn : SC := (.seq (.reg ( mJ 55 7 :: mJ 6 55 :: []) [6]) .ret)
def Qto : SC := (.seq (.seq (.reg ( fJ 28 1 8 :: lJ 29 28 :: nJ 30 29 :: cJ 31 .sub 30 1 :: mJ 9 31 :: []) [2, 7, 8, 9]) (.block 0 (.loop Qts))) Qtn)
def Qtp : SC := (.seq (.seq (.reg ( fJ 22 2 8 :: lJ 23 22 :: aJ 24 Qel [.t 23] :: []) [2, 7, 8, 24]) Qvm) Qto)
def Qtq : SC := (.seq (.reg ( mJ 14 0 :: kJ 15 14 :: fJ 16 0 15 :: fJ 17 2 16 :: lJ 18 17 :: mJ 19 1 :: iJ 20 5 18 19 :: tJ 21 5 20 :: eI 8 (.alloc [.sl true 2 [], .sl true 4 [], .int .i64 0, .int .i64 0, .sl true 1 []]) :: Qf8) [2, 7, 8]) Qtp)
def Qtr : SC := (.seq (.reg ( mJ 11 0 :: mJ 12 1 :: aJ 13 Qde [.t 11, .t 12] :: Qf7) [0, 1, 2, 7]) Qtq)
def Q4e : SC := (.seq (.reg ( fI 6 (.mv (.k (.c .mnil))) :: []) [0, 1, 2]) Qtr)
def Qlt : List RS := [.tmp 6]
theorem Q3g : mFn prog Qbt 3 56 Q4e Qlt = true := by kernel_rfl
def Qjv : List Item := mJ 5 12 :: []
def Qjw : List Item := nJ 23 22 :: fI 24 (.mv (kI 0)) :: []
def Qcj : List Item := fI 37 (.ext (.t 36) 0) :: []
def Qjx : List Item := fI 39 (.ext (.t 38) 0) :: mJ 8 39 :: []
def Q4f : SC := (.reg ( mJ 40 5 :: mJ 41 8 :: .e none none (.upd 0 (.t 40) (.t 41) (.k (.c (.bool true)))) :: []) [0, 1, 5, 7, 22, 23, 24, 35])
def Q4g : SC := (.block 3 (.seq (.reg ( eI 38 (.ent (.t 35)) :: Qjx) [0, 1, 5, 7, 8, 22, 23, 24, 35]) Q4f))
def Qy7 : SC := (.seq (.reg ( eI 36 (.nxt (.t 35)) :: Qcj) [0, 1, 5, 7, 22, 23, 24, 35, 37]) (.seq (.cond (.t 37) .skip (.exit 2)) Q4g))
def Qjy : List Item := mJ 9 50 :: []
def Qjz : List Item := .e none none (.sto 2 (.t 11) (.t 64)) :: []
def Q4h : SC := (.reg ( mJ 65 5 :: fJ 66 1 11 :: lJ 67 66 :: mJ 68 9 :: iJ 69 1 67 68 :: lJ 70 69 :: .e none none (.upd 0 (.t 65) (.t 70) (.k (.c (.bool true)))) :: []) [0, 1, 5, 9, 22, 23, 24, 59, 60, 61])
def Qyx : SC := (.reg ( cJ 71 .add 61 1 :: mJ 61 71 :: []) [0, 1, 5, 9, 22, 23, 24, 59, 60, 61])
def Qyy : SC := (.seq (.block 5 (.seq (.reg ( iJ 63 2 59 61 :: tJ 64 2 63 :: eI 11 (.alloc [.int .i64 0, .sl true 1 []]) :: Qjz) [0, 1, 5, 9, 11, 22, 23, 24, 59, 60, 61]) Q4h)) Qyx)
def Qvs : SC := (.seq (.reg ( bJ 62 .lss 61 60 :: []) [0, 1, 5, 9, 22, 23, 24, 59, 60, 61, 62]) (.seq (.cond (.t 62) .skip (.exit 4)) Qyy))
def Qyz : SC := (.seq (.reg ( mJ 51 0 :: kJ 52 51 :: fJ 53 0 52 :: fJ 54 2 53 :: lJ 55 54 :: mJ 56 7 :: iJ 57 5 55 56 :: fJ 58 0 57 :: lJ 59 58 :: nJ 60 59 :: fI 61 (.mv (kI 0)) :: []) [0, 1, 5, 9, 22, 23, 24, 59, 60, 61]) (.block 4 (.loop Qvs)))
def Qy0 : SC := (.seq (.reg ( mJ 42 0 :: kJ 43 42 :: fJ 44 4 43 :: lJ 45 44 :: mJ 46 7 :: iJ 47 1 45 46 :: lJ 48 47 :: mJ 49 1 :: aJ 50 Qkv [.t 48, .t 49] :: Qjy) [0, 1, 5, 7, 9, 22, 23, 24]) Qyz)
def Qy1 : SC := (.seq (.seq (.reg ( mJ 28 0 :: kJ 29 28 :: fJ 30 3 29 :: lJ 31 30 :: mJ 32 7 :: iJ 33 1 31 32 :: lJ 34 33 :: eI 35 (.rng (.t 34)) :: []) [0, 1, 5, 7, 22, 23, 24, 35]) (.block 2 (.loop Qy7))) Qy0)
def Qy2 : SC := (.reg ( cJ 72 .add 24 1 :: mJ 24 72 :: []) [0, 1, 5, 22, 23, 24])
def Qy3 : SC := (.seq (.block 1 (.seq (.reg ( iJ 26 1 22 24 :: lJ 27 26 :: mJ 7 27 :: []) [0, 1, 5, 7, 22, 23, 24]) Qy1)) Qy2)
def Qvt : SC := (.seq (.reg ( bJ 25 .lss 24 23 :: []) [0, 1, 5, 22, 23, 24, 25]) (.seq (.cond (.t 25) .skip (.exit 0)) Qy3))
def Qy4 : SC := (.seq (.reg ( mJ 73 5 :: mJ 4 73 :: []) [4]) .ret)
def Qy5 : SC := (.seq (.seq (.reg ( mJ 13 0 :: kJ 14 13 :: fJ 15 0 14 :: fJ 16 2 15 :: lJ 17 16 :: mJ 18 1 :: iJ 19 5 17 18 :: fJ 20 4 19 :: lJ 21 20 :: aJ 22 Qra [.t 21] :: Qjw) [0, 1, 5, 22, 23, 24]) (.block 0 (.loop Qvt))) Qy4)
def Qy6 : SC := (.seq (.reg ( eI 12 (.mkm) :: Qjv) [0, 1, 5]) Qy5)
def Qafc : SC := (.seq (.reg ( fI 4 (.mv (.k (.c .mnil))) :: []) [0, 1]) Qy6)
def Qr3 : List RS := [.tmp 4]
theorem Qadu : mFn prog Qde 2 74 Qafc Qr3 = true := by kernel_rfl
def Qcn : List Item := mJ 5 19 :: []
def Qco : List Item := fI 18 (.bsl 1 [.t 17]) :: eI 19 (.app 1 (.t 14) (.t 18)) :: Qcn
def Qir : SC := (.reg ( mJ 14 5 :: mJ 15 1 :: mJ 16 7 :: eI 17 (.callv (.t 15) [.t 16]) :: Qco) [1, 5, 8, 9, 10])
def Qis : SC := (.reg ( cJ 20 .add 10 1 :: mJ 10 20 :: []) [1, 5, 8, 9, 10])
def Qit : SC := (.seq (.block 1 (.seq (.reg ( iJ 12 1 8 10 :: lJ 13 12 :: mJ 7 13 :: []) [1, 5, 7, 8, 9, 10]) Qir)) Qis)
def Qgv : SC := (.seq (.reg ( bJ 11 .lss 10 9 :: []) [1, 5, 8, 9, 10, 11]) (.seq (.cond (.t 11) .skip (.exit 0)) Qit))
def Qiu : SC := (.seq (.reg ( mJ 21 5 :: mJ 4 21 :: []) [4]) .ret)
def Qiv : SC := (.seq (.seq (.reg ( mJ 8 0 :: nJ 9 8 :: fI 10 (.mv (kI 0)) :: []) [1, 5, 8, 9, 10]) (.block 0 (.loop Qgv))) Qiu)
def Qiw : SC := (.seq (.reg ( fI 5 (.mv (.k (.c (.sl true 1 [])))) :: []) [0, 1, 5]) Qiv)
def Qla : SC := (.seq (.reg ( fI 4 (.mv (.k (.c (.sl true 1 [])))) :: []) [0, 1]) Qiw)
def Qdo : List RS := [.tmp 4]
theorem Qkx : mFn prog Qbu 2 22 Qla Qdo = true := by kernel_rfl
def Q4i : SC := (.cond (.t 8) (.seq (.reg ( fI 2 (.mv (kI 0)) :: []) [2]) .ret) .skip)
def Q4j : SC := (.cond (.t 6) (.seq (.reg ( fI 2 (.mv (kI 2)) :: []) [2]) .ret) (.seq (.reg ( cJ 9 .eql 3 3 :: mJ 8 9 :: []) [8]) Q4i))
def Q4k : SC := (.cond (.t 4) (.seq (.reg ( fI 2 (.mv (kI 1)) :: []) [2]) .ret) (.seq (.reg ( cJ 7 .eql 3 2 :: mJ 6 7 :: []) [3, 6]) Q4j))
def Q4l : SC := (.block 0 (.seq (.reg ( cJ 5 .eql 3 1 :: mJ 4 5 :: []) [3, 4]) Q4k))
def Q4m : SC := (.seq (.reg ( fI 2 (.mv (kI (-1))) :: []) [2]) .ret)
def Q4n : SC := (.seq (.seq (.reg ( mJ 3 0 :: []) [3]) Q4l) Q4m)
def Qafd : SC := (.seq (.reg ( fI 2 (.mv (kI 0)) :: []) [0]) Q4n)
def Qii : List RS := [.tmp 2]
theorem Qadv : mFn prog Qft 1 10 Qafd Qii = true := by kernel_rfl
def Qvu : SC := (.reg ( mJ 13 0 :: mJ 14 6 :: .e none none (.upd 0 (.t 13) (.t 14) (.k (.c (.bool true)))) :: []) [0, 7, 8, 9])
def Qvv : SC := (.reg ( cJ 15 .add 9 1 :: mJ 9 15 :: []) [0, 7, 8, 9])
def Qvw : SC := (.seq (.block 1 (.seq (.reg ( iJ 11 1 7 9 :: lJ 12 11 :: mJ 6 12 :: []) [0, 6, 7, 8, 9]) Qvu)) Qvv)
def Qtt : SC := (.seq (.reg ( bJ 10 .lss 9 8 :: []) [0, 7, 8, 9, 10]) (.seq (.cond (.t 10) .skip (.exit 0)) Qvw))
def Qvx : SC := (.seq (.reg ( mJ 16 0 :: mJ 4 16 :: []) [4]) .ret)
def Qvy : SC := (.seq (.seq (.reg ( mJ 7 1 :: nJ 8 7 :: fI 9 (.mv (kI 0)) :: []) [0, 7, 8, 9]) (.block 0 (.loop Qtt))) Qvx)
def Q4o : SC := (.seq (.reg ( fI 4 (.mv (.k (.c .mnil))) :: []) [0, 1]) Qvy)
def Qlu : List RS := [.tmp 4]
theorem Q3h : mFn prog Qd0 2 17 Q4o Qlu = true := by kernel_rfl
def Q1j : List Item := mJ 5 4 :: gTm 6 5 0 :: gT 7 5 (.bin 0 .neq (.t 6) (kI 12)) :: fI 8 (.pick (.t 5) (.t 7) (.k (.c (.bool false)))) :: mJ 9 8 :: gTm 10 9 0 :: gT 11 9 (.bin 0 .neq (.t 10) (kI 13)) :: fI 12 (.pick (.t 9) (.t 11) (.k (.c (.bool false)))) :: mJ 2 12 :: []
def Qasm : SC := (.seq (.reg ( mJ 3 0 :: aJ 4 Qkm [.t 3] :: Q1j) [2]) .ret)
def Qa3y : SC := (.seq (.reg ( fI 2 (.mv (.k (.c (.bool false)))) :: []) [0]) Qasm)
def Qanh : List RS := [.tmp 2]
theorem Qa22 : mFn prog Qi2 1 13 Qa3y Qanh = true := by kernel_rfl
def Qakl : SC := (.seq (.reg ( mJ 3 0 :: cJ 4 .eql 3 2 :: mJ 5 4 :: gFm 6 5 0 :: gF 7 5 (.bin 0 .eql (.t 6) (kI 3)) :: fI 8 (.pick (.t 5) (.k (.c (.bool true))) (.t 7)) :: mJ 2 8 :: []) [2]) .ret)
def Qasn : SC := (.seq (.reg ( fI 2 (.mv (.k (.c (.bool false)))) :: []) [0]) Qakl)
def Q7j : List RS := [.tmp 2]
theorem Qars : mFn prog Qel 1 9 Qasn Q7j = true := by kernel_rfl
def Qso : List Item := mJ 9 20 :: []
def Qsp : List Item := .e none none (.sto 5 (.t 10) (.t 25)) :: []
def Qakn : SC := (.cond (.t 28) (.reg ( mJ 29 9 :: fJ 30 3 10 :: lJ 31 30 :: iJ 32 1 29 31 :: .e none none (.sto 1 (.t 32) (.k (.c (.bool true)))) :: []) [3, 9, 10]) .skip)
def Qsq : List Item := mJ 12 47 :: []
def Qako : SC := (.cond (.t 49) (.reg ( mJ 50 9 :: mJ 51 12 :: iJ 52 1 50 51 :: .e none none (.sto 1 (.t 52) (.k (.c (.bool false)))) :: []) [3, 9, 10, 11]) .skip)
def Qakp : SC := (.reg ( mJ 62 13 :: cJ 63 .add 62 1 :: mJ 13 63 :: []) [3, 9, 10, 11, 13])
def Qakq : SC := (.seq (.block 3 (.reg ( mJ 64 9 :: fJ 65 1 10 :: lJ 66 65 :: mJ 67 11 :: iJ 68 4 66 67 :: fJ 69 2 68 :: lJ 70 69 :: mJ 71 13 :: iJ 72 1 70 71 :: lJ 73 72 :: iJ 74 1 64 73 :: .e none none (.sto 1 (.t 74) (.k (.c (.bool true)))) :: []) [3, 9, 10, 11, 13])) Qakp)
def Qafl : SC := (.seq (.seq (.reg ( mJ 53 13 :: fJ 54 1 10 :: lJ 55 54 :: mJ 56 11 :: iJ 57 4 55 56 :: fJ 58 2 57 :: lJ 59 58 :: nJ 60 59 :: bJ 61 .lss 53 60 :: []) [3, 9, 10, 11, 13, 61]) (.cond (.t 61) .skip (.exit 2))) Qakq)
def Qakr : SC := (.seq (.reg ( fI 13 (.mv (kI 0)) :: []) [3, 9, 10, 11, 13]) (.block 2 (.loop Qafl)))
def Qaks : SC := (.seq (.seq (.reg ( mJ 48 12 :: cJ 49 .geq 48 0 :: []) [3, 9, 10, 11, 12, 49]) Qako) Qakr)
def Qafe : SC := (.reg ( mJ 40 11 :: cJ 41 .sub 40 1 :: mJ 11 41 :: []) [3, 9, 10, 11])
def Qaff : SC := (.seq (.block 1 (.seq (.reg ( fJ 42 1 10 :: lJ 43 42 :: mJ 44 11 :: iJ 45 4 43 44 :: tJ 46 4 45 :: aJ 47 Qor [.t 46] :: Qsq) [3, 9, 10, 11, 12]) Qaks)) Qafe)
def Q8n : SC := (.seq (.seq (.reg ( mJ 37 11 :: mJ 38 3 :: bJ 39 .gtr 37 38 :: []) [3, 9, 10, 11, 39]) (.cond (.t 39) .skip (.exit 0))) Qaff)
def Qafg : SC := (.seq (.reg ( mJ 75 9 :: mJ 8 75 :: []) [8]) .ret)
def Qafh : SC := (.seq (.seq (.reg ( fJ 33 1 10 :: lJ 34 33 :: nJ 35 34 :: cJ 36 .sub 35 1 :: mJ 11 36 :: []) [3, 9, 10, 11]) (.block 0 (.loop Q8n))) Qafg)
def Qafi : SC := (.seq (.seq (.reg ( fJ 26 2 10 :: lJ 27 26 :: cJ 28 .neq 27 1 :: []) [3, 9, 10, 28]) Qakn) Qafh)
def Qafj : SC := (.seq (.reg ( fJ 21 2 4 :: lJ 22 21 :: mJ 23 2 :: iJ 24 5 22 23 :: tJ 25 5 24 :: eI 10 (.alloc [.sl true 2 [], .sl true 4 [], .int .i64 0, .int .i64 0, .sl true 1 []]) :: Qsp) [3, 9, 10]) Qafi)
def Qafk : SC := (.seq (.reg ( fI 14 (.bsl 1 []) :: fJ 15 1 5 :: lJ 16 15 :: mJ 17 2 :: iJ 18 1 16 17 :: lJ 19 18 :: eI 20 (.app 1 (.t 14) (.t 19)) :: Qso) [2, 3, 4, 9]) Qafj)
def Qasw : SC := (.seq (.reg ( fI 4 (.box (.t 0)) :: fI 5 (.box (.t 1)) :: fI 8 (.mv (.k (.c (.sl true 1 [])))) :: []) [2, 3, 4, 5]) Qafk)
def Q7m : List RS := [.tmp 8]
theorem Qaru : mFn prog Qgy 4 76 Qasw Q7m = true := by kernel_rfl
def Q1s : List Item := fI 3 (.mv (kI 0)) :: []
def Q1t : List Item := .e none none (.sto 1 (.t 4) (.t 6)) :: []
def Q1u : List Item := eI 4 (.alloc [.sl true 3 []]) :: Q1t
def Q1v : List Item := mJ 3 21 :: []
def Q1w : List Item := .chk 7 none (.ld 1 true (.t 4)) :: .e none none (.sto 1 (.t 2) (.t 7)) :: Q1v
def Qasx : SC := (.seq (.dreg 17 [0, 1, 2, 3, 4, 5, 6, 7, 8, 9, 10, 11, 12, 13, 14, 0, 15, 16] ( tJ 7 1 4 :: mJ 8 0 :: fJ 9 0 4 :: lJ 10 9 :: nJ 11 10 :: cJ 12 .sub 11 1 :: fJ 13 0 4 :: lJ 14 13 :: nJ 15 14 :: cJ 16 .sub 15 1 :: fJ 17 0 4 :: lJ 18 17 :: nJ 19 18 :: fI 20 (.bsl 1 [.t 12, kI 0, .t 16, kI (-1), .t 19]) :: aJ 21 Q5 [.t 8, .t 20] :: Q1w) [2, 3]) .ret)
def Qasy : SC := (.seq (.reg ( mJ 5 0 :: aJ 6 Qxz [.t 5] :: Q1u) [0, 2, 4]) Qasx)
def Qa36 : SC := (.seq (.reg ( eI 2 (.alloc [.sl true 3 []]) :: Q1s) [0, 2]) Qasy)
def Qani : List RS := [.cell 2 1 true, .tmp 3]
theorem Qa25 : mFn prog Qi3 1 22 Qa36 Qani = true := by kernel_rfl
def Q1x : List Item := mJ 9 20 :: []
def Q1y : List Item := mJ 10 25 :: []
def Q1z : List Item := mJ 24 2 :: aJ 25 Qaiv [.t 23, .t 24] :: Q1y
def Qasz : SC := (.reg ( mJ 35 11 :: cJ 36 .add 35 1 :: mJ 11 36 :: []) [2, 3, 4, 5, 9, 10, 11])
def Qas0 : SC := (.seq (.block 1 (.reg ( mJ 37 9 :: fJ 38 2 4 :: lJ 39 38 :: mJ 40 3 :: iJ 41 5 39 40 :: fJ 42 0 41 :: lJ 43 42 :: mJ 44 11 :: iJ 45 2 43 44 :: fJ 46 1 45 :: lJ 47 46 :: mJ 48 10 :: iJ 49 1 47 48 :: lJ 50 49 :: iJ 51 1 37 50 :: .e none none (.sto 1 (.t 51) (.k (.c (.bool true)))) :: []) [2, 3, 4, 5, 9, 10, 11])) Qasz)
def Qan3 : SC := (.seq (.seq (.reg ( mJ 26 11 :: fJ 27 2 4 :: lJ 28 27 :: mJ 29 3 :: iJ 30 5 28 29 :: fJ 31 0 30 :: lJ 32 31 :: nJ 33 32 :: bJ 34 .lss 26 33 :: []) [2, 3, 4, 5, 9, 10, 11, 34]) (.cond (.t 34) .skip (.exit 0))) Qas0)
def Q8o : SC := (.reg ( fJ 74 1 5 :: lJ 75 74 :: mJ 76 2 :: iJ 77 1 75 76 :: lJ 78 77 :: mJ 79 13 :: iJ 80 1 78 79 :: .e none none (.sto 1 (.t 80) (.k (.c (.bool true)))) :: []) [2, 4, 5, 9, 12, 13])
def Qas1 : SC := (.cond (.t 61) (.seq (.reg ( mJ 62 12 :: mJ 63 62 :: gFf 64 63 1 5 :: gFl 65 63 64 :: gFm 66 63 2 :: gF 67 63 (.iad 1 (.t 65) (.t 66)) :: gFl 68 63 67 :: gFm 69 63 13 :: gF 70 63 (.iad 1 (.t 68) (.t 69)) :: gFl 71 63 70 :: gF 72 63 (.not (.t 71)) :: fI 73 (.pick (.t 63) (.k (.c (.bool true))) (.t 72)) :: mJ 12 73 :: []) [2, 4, 5, 9, 12, 13]) Q8o) .skip)
def Qas2 : SC := (.reg ( mJ 56 13 :: cJ 57 .add 56 1 :: mJ 13 57 :: []) [2, 4, 5, 9, 12, 13])
def Qas3 : SC := (.seq (.block 3 (.seq (.reg ( mJ 58 9 :: mJ 59 13 :: iJ 60 1 58 59 :: lJ 61 60 :: []) [2, 4, 5, 9, 12, 13, 61]) Qas1)) Qas2)
def Qakt : SC := (.seq (.seq (.reg ( mJ 52 13 :: fJ 53 1 4 :: lJ 54 53 :: bJ 55 .lss 52 54 :: []) [2, 4, 5, 9, 12, 13, 55]) (.cond (.t 55) .skip (.exit 2))) Qas3)
def Qanx : SC := (.seq (.reg ( mJ 81 12 :: mJ 8 81 :: []) [8]) .ret)
def Qany : SC := (.seq (.seq (.reg ( fI 13 (.mv (kI 0)) :: []) [2, 4, 5, 9, 12, 13]) (.block 2 (.loop Qakt))) Qanx)
def Qanz : SC := (.seq (.reg ( fI 12 (.mv (.k (.c (.bool false)))) :: []) [2, 4, 5, 9, 12]) Qany)
def Qan0 : SC := (.seq (.seq (.reg ( fI 11 (.mv (kI 0)) :: []) [2, 3, 4, 5, 9, 10, 11]) (.block 0 (.loop Qan3))) Qanz)
def Qan1 : SC := (.seq (.reg ( tJ 21 3 4 :: mJ 22 3 :: aJ 23 Qi8 [.t 21, .t 22] :: Q1z) [2, 3, 4, 5, 9, 10]) Qan0)
def Qan2 : SC := (.seq (.reg ( fI 14 (.bsl 1 []) :: fJ 15 0 5 :: lJ 16 15 :: mJ 17 3 :: iJ 18 1 16 17 :: lJ 19 18 :: eI 20 (.app 1 (.t 14) (.t 19)) :: Q1x) [2, 3, 4, 5, 9]) Qan1)
def Qa37 : SC := (.seq (.reg ( fI 4 (.box (.t 0)) :: fI 5 (.box (.t 1)) :: fI 8 (.mv (.k (.c (.bool false)))) :: []) [2, 3, 4, 5]) Qan2)
def Qanj : List RS := [.tmp 8]
theorem Qa26 : mFn prog Qx1 4 82 Qa37 Qanj = true := by kernel_rfl
def Qtu : List Item := fI 14 (.pick (.t 7) (.t 13) (.k (.c (.bool false)))) :: mJ 4 14 :: []
def Qtv : List Item := mJ 7 6 :: gTm 8 7 1 :: gTf 9 7 0 2 :: gTl 10 7 9 :: gT 11 7 (.len (.t 10)) :: gT 12 7 (.bin 0 .sub (.t 11) (kI 1)) :: .e (some 13) (some (7, true)) (.call Qbj [.t 8, kI 0, .t 12]) :: Qtu
def Qazr : SC := (.seq (.reg ( tJ 5 1 2 :: aJ 6 Qcd [.t 5] :: Qtv) [4]) .ret)
def Qa7q : SC := (.seq (.reg ( fI 2 (.box (.t 0)) :: fI 4 (.mv (.k (.c (.bool false)))) :: []) [1, 2]) Qazr)
def Qajv : List RS := [.tmp 4]
theorem Qa61 : mFn prog Qol 2 15 Qa7q Qajv = true := by kernel_rfl
def Q10 : List Item := mJ 3 19 :: []
def Qas4 : SC := (.cond (.t 15) (.reg ( mJ 16 3 :: mJ 17 4 :: fI 18 (.bsl 1 [.t 17]) :: eI 19 (.app 1 (.t 16) (.t 18)) :: Q10) [0, 3, 4]) .skip)
def Qas5 : SC := (.reg ( mJ 10 4 :: cJ 11 .add 10 1 :: mJ 4 11 :: []) [0, 3, 4])
def Qas6 : SC := (.seq (.block 1 (.seq (.reg ( mJ 12 0 :: mJ 13 4 :: iJ 14 1 12 13 :: lJ 15 14 :: []) [0, 3, 4, 15]) Qas4)) Qas5)
def Qan4 : SC := (.seq (.seq (.reg ( mJ 6 4 :: mJ 7 0 :: nJ 8 7 :: bJ 9 .lss 6 8 :: []) [0, 3, 4, 9]) (.cond (.t 9) .skip (.exit 0))) Qas6)
def Qas7 : SC := (.seq (.reg ( mJ 20 3 :: mJ 2 20 :: []) [2]) .ret)
def Qas8 : SC := (.seq (.seq (.reg ( fI 4 (.mv (kI 0)) :: []) [0, 3, 4]) (.block 0 (.loop Qan4))) Qas7)
def Qas9 : SC := (.seq (.reg ( fI 5 (.bsl 1 []) :: mJ 3 5 :: []) [0, 3]) Qas8)
def Qa38 : SC := (.seq (.reg ( fI 2 (.mv (.k (.c (.sl true 1 [])))) :: []) [0]) Qas9)
def Qank : List RS := [.tmp 2]
theorem Qa27 : mFn prog Qrb 1 21 Qa38 Qank = true := by kernel_rfl
def Qvz : List Item := mJ 3 19 :: []
def Qv0 : List Item := fI 18 (.bsl 1 [.t 17]) :: eI 19 (.app 1 (.t 12) (.t 18)) :: Qvz
def Qan5 : SC := (.reg ( mJ 10 4 :: cJ 11 .add 10 1 :: mJ 4 11 :: []) [0, 3, 4])
def Qan6 : SC := (.seq (.block 1 (.reg ( mJ 12 3 :: mJ 13 0 :: mJ 14 4 :: iJ 15 1 13 14 :: lJ 16 15 :: aJ 17 Qrb [.t 16] :: Qv0) [0, 3, 4])) Qan5)
def Qaku : SC := (.seq (.seq (.reg ( mJ 6 4 :: mJ 7 0 :: nJ 8 7 :: bJ 9 .lss 6 8 :: []) [0, 3, 4, 9]) (.cond (.t 9) .skip (.exit 0))) Qan6)
def Qan7 : SC := (.seq (.reg ( mJ 20 3 :: mJ 2 20 :: []) [2]) .ret)
def Qan8 : SC := (.seq (.seq (.reg ( fI 4 (.mv (kI 0)) :: []) [0, 3, 4]) (.block 0 (.loop Qaku))) Qan7)
def Qan9 : SC := (.seq (.reg ( fI 5 (.bsl 1 []) :: mJ 3 5 :: []) [0, 3]) Qan8)
def Qazs : SC := (.seq (.reg ( fI 2 (.mv (.k (.c (.sl true 1 [])))) :: []) [0]) Qan9)
def Qah5 : List RS := [.tmp 2]
theorem Qaza : mFn prog Qkn 1 21 Qazs Qah5 = true := by kernel_rfl
def Q11 : List Item := .e none none (.sto 2 (.t 3) (.t 12)) :: []
def Q12 : List Item := fJ 28 0 3 :: .e none none (.sto 1 (.t 28) (.t 27)) :: []
def Q13 : List Item := .chk 22 none (.ld 1 false (.t 21)) :: fI 26 (.bsl 1 [.t 25]) :: eI 27 (.app 1 (.t 22) (.t 26)) :: Q12
def Q14 : List Item := fJ 36 1 3 :: .e none none (.sto 1 (.t 36) (.t 35)) :: []
def Q15 : List Item := .chk 30 none (.ld 1 false (.t 29)) :: fI 34 (.bsl 1 [.t 33]) :: eI 35 (.app 1 (.t 30) (.t 34)) :: Q14
def Qata : SC := (.dreg 9 [0, 1, 2, 3, 4, 1, 5, 6, 7, 8] ( fJ 29 1 3 :: lJ 30 29 :: fJ 31 1 1 :: lJ 32 31 :: eI 33 (.mks 1 [.bool false] (.t 32)) :: Q15) [1, 2, 3, 4, 5])
def Qatb : SC := (.reg ( mJ 19 5 :: cJ 20 .add 19 1 :: mJ 5 20 :: []) [1, 2, 3, 4, 5])
def Qatc : SC := (.seq (.block 1 (.seq (.dreg 9 [0, 1, 2, 3, 4, 1, 5, 6, 7, 8] ( fJ 21 0 3 :: lJ 22 21 :: fJ 23 1 1 :: lJ 24 23 :: eI 25 (.mks 1 [.bool false] (.t 24)) :: Q13) [1, 2, 3, 4, 5]) Qata)) Qatb)
def Qaot : SC := (.seq (.seq (.reg ( mJ 16 5 :: mJ 17 4 :: bJ 18 .lss 16 17 :: []) [1, 2, 3, 4, 5, 18]) (.cond (.t 18) .skip (.exit 0))) Qatc)
def Qpf : List Item := mJ 68 67 :: gFm 69 68 6 :: fI 70 (.pick (.t 68) (.k (.c (.bool true))) (.t 69)) :: mJ 6 70 :: []
def Qaoa : SC := (.reg ( mJ 53 8 :: cJ 54 .add 53 1 :: mJ 8 54 :: []) [1, 2, 3, 4, 6, 7, 8])
def Qaob : SC := (.seq (.block 7 (.dreg 17 [0, 1, 2, 3, 4, 5, 6, 7, 8, 9, 10, 11, 12, 13, 14, 15, 16] ( tJ 55 3 1 :: tJ 56 2 3 :: mJ 57 7 :: fJ 58 2 1 :: lJ 59 58 :: mJ 60 7 :: iJ 61 5 59 60 :: fJ 62 4 61 :: lJ 63 62 :: mJ 64 8 :: iJ 65 1 63 64 :: lJ 66 65 :: aJ 67 Qx1 [.t 55, .t 56, .t 57, .t 66] :: Qpf) [1, 2, 3, 4, 6, 7, 8])) Qaoa)
def Qakv : SC := (.seq (.seq (.reg ( mJ 44 8 :: fJ 45 2 1 :: lJ 46 45 :: mJ 47 7 :: iJ 48 5 46 47 :: fJ 49 4 48 :: lJ 50 49 :: nJ 51 50 :: bJ 52 .lss 44 51 :: []) [1, 2, 3, 4, 6, 7, 8, 52]) (.cond (.t 52) .skip (.exit 6))) Qaob)
def Qv1 : List Item := mJ 9 74 :: []
def Qaoc : SC := (.reg ( mJ 84 10 :: cJ 85 .add 84 1 :: mJ 10 85 :: []) [1, 2, 3, 4, 6, 7, 9, 10])
def Qaod : SC := (.seq (.block 9 (.reg ( mJ 86 9 :: fJ 87 2 1 :: lJ 88 87 :: mJ 89 7 :: iJ 90 5 88 89 :: fJ 91 0 90 :: lJ 92 91 :: mJ 93 10 :: iJ 94 2 92 93 :: fJ 95 0 94 :: lJ 96 95 :: iJ 97 1 86 96 :: .e none none (.sto 1 (.t 97) (.k (.c (.bool false)))) :: []) [1, 2, 3, 4, 6, 7, 9, 10])) Qaoc)
def Qakw : SC := (.seq (.seq (.reg ( mJ 75 10 :: fJ 76 2 1 :: lJ 77 76 :: mJ 78 7 :: iJ 79 5 77 78 :: fJ 80 0 79 :: lJ 81 80 :: nJ 82 81 :: bJ 83 .lss 75 82 :: []) [1, 2, 3, 4, 6, 7, 9, 10, 83]) (.cond (.t 83) .skip (.exit 8))) Qaod)
def Qaoe : SC := (.reg ( mJ 102 11 :: cJ 103 .add 102 1 :: mJ 11 103 :: []) [1, 2, 3, 4, 6, 7, 9, 11])
def Qaof : SC := (.seq (.block 11 (.dreg 17 [0, 1, 2, 3, 4, 5, 6, 7, 8, 9, 10, 11, 12, 13, 14, 15, 16] ( mJ 104 6 :: mJ 105 104 :: gFm 106 105 9 :: gFm 107 105 11 :: gF 108 105 (.iad 1 (.t 106) (.t 107)) :: gFl 109 105 108 :: gFf 110 105 0 3 :: gFl 111 105 110 :: gFm 112 105 7 :: gF 113 105 (.iad 1 (.t 111) (.t 112)) :: gFl 114 105 113 :: gFm 115 105 11 :: gF 116 105 (.iad 1 (.t 114) (.t 115)) :: gFl 117 105 116 :: gF 118 105 (.bin 1 .neq (.t 109) (.t 117)) :: fI 119 (.pick (.t 105) (.k (.c (.bool true))) (.t 118)) :: mJ 6 119 :: []) [1, 2, 3, 4, 6, 7, 9, 11])) Qaoe)
def Qakx : SC := (.seq (.seq (.reg ( mJ 98 11 :: fJ 99 1 1 :: lJ 100 99 :: bJ 101 .lss 98 100 :: []) [1, 2, 3, 4, 6, 7, 9, 11, 101]) (.cond (.t 101) .skip (.exit 10))) Qaof)
def Qaog : SC := (.reg ( fJ 120 0 3 :: lJ 121 120 :: mJ 122 7 :: mJ 123 9 :: iJ 124 1 121 122 :: .e none none (.sto 1 (.t 124) (.t 123)) :: []) [1, 2, 3, 4, 6, 7])
def Qaoh : SC := (.seq (.seq (.reg ( fI 11 (.mv (kI 0)) :: []) [1, 2, 3, 4, 6, 7, 9, 11]) (.block 10 (.loop Qakx))) Qaog)
def Qaoi : SC := (.seq (.seq (.reg ( fI 10 (.mv (kI 0)) :: []) [1, 2, 3, 4, 6, 7, 9, 10]) (.block 8 (.loop Qakw))) Qaoh)
def Qaoj : SC := (.seq (.reg ( tJ 71 3 1 :: tJ 72 2 3 :: mJ 73 7 :: aJ 74 Qgy [.t 71, .t 72, .t 73, kI (-1)] :: Qv1) [1, 2, 3, 4, 6, 7, 9]) Qaoi)
def Qaok : SC := (.reg ( mJ 42 7 :: cJ 43 .sub 42 1 :: mJ 7 43 :: []) [1, 2, 3, 4, 6, 7])
def Qaol : SC := (.seq (.block 5 (.seq (.seq (.reg ( fI 8 (.mv (kI 0)) :: []) [1, 2, 3, 4, 6, 7, 8]) (.block 6 (.loop Qakv))) Qaoj)) Qaok)
def Qaky : SC := (.seq (.seq (.reg ( mJ 40 7 :: cJ 41 .geq 40 0 :: []) [1, 2, 3, 4, 6, 7, 41]) (.cond (.t 41) .skip (.exit 4))) Qaol)
def Qaom : SC := (.seq (.reg ( mJ 38 4 :: cJ 39 .sub 38 1 :: mJ 7 39 :: []) [1, 2, 3, 4, 6, 7]) (.block 4 (.loop Qaky)))
def Qaon : SC := (.block 3 (.seq (.reg ( fI 6 (.mv (.k (.c (.bool false)))) :: []) [1, 2, 3, 4, 6]) Qaom))
def Qakz : SC := (.seq (.seq (.reg ( mJ 37 6 :: []) [1, 2, 3, 4, 37]) (.cond (.t 37) .skip (.exit 2))) Qaon)
def Qaoo : SC := (.seq (.reg ( tJ 125 2 3 :: .e none none (.sto 2 (.t 2) (.t 125)) :: []) [2]) .ret)
def Qaop : SC := (.seq (.seq (.reg ( fI 6 (.mv (.k (.c (.bool true)))) :: []) [1, 2, 3, 4, 6]) (.block 2 (.loop Qakz))) Qaoo)
def Qaoq : SC := (.seq (.seq (.reg ( fI 5 (.mv (kI 0)) :: []) [1, 2, 3, 4, 5]) (.block 0 (.loop Qaot))) Qaop)
def Qaor : SC := (.seq (.reg ( fJ 13 2 1 :: lJ 14 13 :: nJ 15 14 :: mJ 4 15 :: []) [1, 2, 3, 4]) Qaoq)
def Qaos : SC := (.seq (.reg ( fI 12 (.bld [.sl true 1 [], .sl true 1 []] []) :: eI 3 (.alloc [.sl true 1 [], .sl true 1 []]) :: Q11) [1, 2, 3]) Qaor)
def Qa39 : SC := (.seq (.reg ( fI 1 (.box (.t 0)) :: eI 2 (.alloc [.sl true 1 [], .sl true 1 []]) :: []) [1, 2]) Qaos)
def Qanl : List RS := [.cell 2 2 true]
theorem Qa28 : mFn prog Qi4 1 126 Qa39 Qanl = true := by kernel_rfl
def Q42 : SC := (.cond (.t 25) (.seq (.reg ( fI 2 (.mv (.k (.c (.bool true)))) :: []) [2]) .ret) .skip)
def Qj0 : List Item := mJ 4 30 :: []
def Qj1 : List Item := .e none none (.sto 1 (.t 3) (.t 29)) :: Qj0
def Qj2 : List Item := mJ 26 28 :: fI 29 (.ext (.t 26) 0) :: fI 30 (.ext (.t 26) 1) :: eI 3 (.alloc [.sl true 3 []]) :: Qj1
def Qj3 : List Item := mJ 5 33 :: mJ 6 36 :: []
def Qj4 : List Item := .chk 34 none (.ld 1 true (.t 3)) :: aJ 36 Qed [.t 34, .t 35] :: Qj3
def Qj5 : List Item := mJ 7 39 :: []
def Q43 : SC := (.cond (.t 51) (.seq (.reg ( fI 2 (.mv (.k (.c (.bool false)))) :: []) [2]) .ret) .skip)
def Qj6 : List Item := oJ 66 65 :: []
def Q44 : SC := (.cond (.t 66) (.seq (.reg ( fI 2 (.mv (.k (.c (.bool false)))) :: []) [2]) .ret) .skip)
def Qhm : List Item := .e none none (.sto 3 (.t 9) (.t 71)) :: []
def Qhn : List Item := oJ 98 97 :: []
def Qzc : SC := (.cond (.t 98) (.seq (.reg ( fI 2 (.mv (.k (.c (.bool false)))) :: []) [2]) .ret) .skip)
def Qzd : SC := (.seq (.reg ( mJ 92 6 :: mJ 93 8 :: iJ 94 1 92 93 :: lJ 95 94 :: mJ 96 13 :: aJ 97 Qcc [.t 95, .t 96] :: Qhn) [3, 4, 5, 6, 7, 8, 9, 53, 54, 77, 78, 79, 86, 87, 88, 98]) Qzc)
def Qze : SC := (.reg ( cJ 99 .add 88 1 :: mJ 88 99 :: []) [3, 4, 5, 6, 7, 8, 9, 53, 54, 77, 78, 79, 86, 87, 88])
def Qzf : SC := (.seq (.block 5 (.seq (.reg ( iJ 90 1 86 88 :: lJ 91 90 :: mJ 13 91 :: []) [3, 4, 5, 6, 7, 8, 9, 13, 53, 54, 77, 78, 79, 86, 87, 88]) Qzd)) Qze)
def Qwa : SC := (.seq (.reg ( bJ 89 .lss 88 87 :: []) [3, 4, 5, 6, 7, 8, 9, 53, 54, 77, 78, 79, 86, 87, 88, 89]) (.seq (.cond (.t 89) .skip (.exit 4)) Qzf))
def Qzg : SC := (.seq (.reg ( mJ 83 5 :: mJ 84 11 :: iJ 85 1 83 84 :: lJ 86 85 :: nJ 87 86 :: fI 88 (.mv (kI 0)) :: []) [3, 4, 5, 6, 7, 8, 9, 53, 54, 77, 78, 79, 86, 87, 88]) (.block 4 (.loop Qwa)))
def Qzh : SC := (.reg ( cJ 100 .add 79 1 :: mJ 79 100 :: []) [3, 4, 5, 6, 7, 8, 9, 53, 54, 77, 78, 79])
def Qzi : SC := (.seq (.block 3 (.seq (.reg ( iJ 81 1 77 79 :: lJ 82 81 :: mJ 11 82 :: []) [3, 4, 5, 6, 7, 8, 9, 11, 53, 54, 77, 78, 79]) Qzg)) Qzh)
def Qwb : SC := (.seq (.reg ( bJ 80 .lss 79 78 :: []) [3, 4, 5, 6, 7, 8, 9, 53, 54, 77, 78, 79, 80]) (.seq (.cond (.t 80) .skip (.exit 2)) Qzi))
def Qds : List Item := fI 129 (.pick (.t 122) (.k (.c (.bool true))) (.t 128)) :: mJ 16 129 :: []
def Qho : List Item := nJ 133 132 :: fI 134 (.mv (kI 0)) :: []
def Qhp : List Item := .e none none (.sto 2 (.t 22) (.t 149)) :: []
def Qzj : SC := (.reg ( mJ 150 16 :: mJ 151 150 :: gFm 152 151 20 :: gFm 153 151 8 :: gF 154 151 (.bin 0 .eql (.t 152) (.t 153)) :: gFm 155 151 154 :: gTf 156 155 1 22 :: gTl 157 155 156 :: gTm 158 155 19 :: gT 159 155 (.iad 1 (.t 157) (.t 158)) :: gTl 160 155 159 :: gTm 161 155 15 :: gT 162 155 (.bin 0 .eql (.t 160) (.t 161)) :: gF 163 151 (.pick (.t 155) (.t 162) (.k (.c (.bool false)))) :: fI 164 (.pick (.t 151) (.k (.c (.bool true))) (.t 163)) :: mJ 16 164 :: []) [3, 4, 5, 6, 7, 8, 9, 15, 16, 18, 19, 20, 53, 54, 104, 105, 106, 115, 116, 117, 132, 133, 134, 144, 145, 146])
def Qzk : SC := (.reg ( cJ 165 .add 146 1 :: mJ 146 165 :: []) [3, 4, 5, 6, 7, 8, 9, 15, 16, 18, 19, 20, 53, 54, 104, 105, 106, 115, 116, 117, 132, 133, 134, 144, 145, 146])
def Qzl : SC := (.seq (.block 13 (.seq (.reg ( iJ 148 2 144 146 :: tJ 149 2 148 :: eI 22 (.alloc [.int .i64 0, .sl true 1 []]) :: Qhp) [3, 4, 5, 6, 7, 8, 9, 15, 16, 18, 19, 20, 22, 53, 54, 104, 105, 106, 115, 116, 117, 132, 133, 134, 144, 145, 146]) Qzj)) Qzk)
def Qwc : SC := (.seq (.reg ( bJ 147 .lss 146 145 :: []) [3, 4, 5, 6, 7, 8, 9, 15, 16, 18, 19, 20, 53, 54, 104, 105, 106, 115, 116, 117, 132, 133, 134, 144, 145, 146, 147]) (.seq (.cond (.t 147) .skip (.exit 12)) Qzl))
def Qzm : SC := (.seq (.reg ( fJ 139 2 9 :: lJ 140 139 :: mJ 141 18 :: iJ 142 5 140 141 :: fJ 143 0 142 :: lJ 144 143 :: nJ 145 144 :: fI 146 (.mv (kI 0)) :: []) [3, 4, 5, 6, 7, 8, 9, 15, 16, 18, 19, 20, 53, 54, 104, 105, 106, 115, 116, 117, 132, 133, 134, 144, 145, 146]) (.block 12 (.loop Qwc)))
def Qzn : SC := (.reg ( cJ 166 .add 134 1 :: mJ 134 166 :: []) [3, 4, 5, 6, 7, 8, 9, 15, 16, 18, 53, 54, 104, 105, 106, 115, 116, 117, 132, 133, 134])
def Qzo : SC := (.seq (.block 11 (.seq (.reg ( mJ 136 134 :: iJ 137 1 132 134 :: lJ 138 137 :: mJ 19 136 :: mJ 20 138 :: []) [3, 4, 5, 6, 7, 8, 9, 15, 16, 18, 19, 20, 53, 54, 104, 105, 106, 115, 116, 117, 132, 133, 134]) Qzm)) Qzn)
def Qwd : SC := (.seq (.reg ( bJ 135 .lss 134 133 :: []) [3, 4, 5, 6, 7, 8, 9, 15, 16, 18, 53, 54, 104, 105, 106, 115, 116, 117, 132, 133, 134, 135]) (.seq (.cond (.t 135) .skip (.exit 10)) Qzo))
def Qzp : SC := (.seq (.reg ( tJ 130 3 9 :: mJ 131 18 :: aJ 132 Qdd [.t 130, .t 131] :: Qho) [3, 4, 5, 6, 7, 8, 9, 15, 16, 18, 53, 54, 104, 105, 106, 115, 116, 117, 132, 133, 134]) (.block 10 (.loop Qwd)))
def Qzq : SC := (.seq (.reg ( mJ 121 16 :: mJ 122 121 :: gFm 123 122 5 :: gFm 124 122 18 :: gF 125 122 (.iad 1 (.t 123) (.t 124)) :: gFl 126 122 125 :: gFm 127 122 15 :: .e (some 128) (some (122, false)) (.call Qcc [.t 126, .t 127]) :: Qds) [3, 4, 5, 6, 7, 8, 9, 15, 16, 18, 53, 54, 104, 105, 106, 115, 116, 117]) Qzp)
def Qzr : SC := (.reg ( cJ 167 .add 117 1 :: mJ 117 167 :: []) [3, 4, 5, 6, 7, 8, 9, 15, 16, 53, 54, 104, 105, 106, 115, 116, 117])
def Qzs : SC := (.seq (.block 9 (.seq (.reg ( iJ 119 1 115 117 :: lJ 120 119 :: mJ 18 120 :: []) [3, 4, 5, 6, 7, 8, 9, 15, 16, 18, 53, 54, 104, 105, 106, 115, 116, 117]) Qzq)) Qzr)
def Qwe : SC := (.seq (.reg ( bJ 118 .lss 117 116 :: []) [3, 4, 5, 6, 7, 8, 9, 15, 16, 53, 54, 104, 105, 106, 115, 116, 117, 118]) (.seq (.cond (.t 118) .skip (.exit 8)) Qzs))
def Qzt : SC := (.cond (.t 169) (.seq (.reg ( fI 2 (.mv (.k (.c (.bool false)))) :: []) [2]) .ret) .skip)
def Qzu : SC := (.seq (.reg ( mJ 168 16 :: oJ 169 168 :: []) [3, 4, 5, 6, 7, 8, 9, 53, 54, 104, 105, 106, 169]) Qzt)
def Qzv : SC := (.seq (.seq (.reg ( fJ 110 2 9 :: lJ 111 110 :: mJ 112 8 :: iJ 113 5 111 112 :: fJ 114 4 113 :: lJ 115 114 :: nJ 116 115 :: fI 117 (.mv (kI 0)) :: []) [3, 4, 5, 6, 7, 8, 9, 15, 16, 53, 54, 104, 105, 106, 115, 116, 117]) (.block 8 (.loop Qwe))) Qzu)
def Qzw : SC := (.seq (.reg ( fI 16 (.mv (.k (.c (.bool false)))) :: []) [3, 4, 5, 6, 7, 8, 9, 15, 16, 53, 54, 104, 105, 106]) Qzv)
def Qzx : SC := (.reg ( cJ 170 .add 106 1 :: mJ 106 170 :: []) [3, 4, 5, 6, 7, 8, 9, 53, 54, 104, 105, 106])
def Qzy : SC := (.seq (.block 7 (.seq (.reg ( iJ 108 1 104 106 :: lJ 109 108 :: mJ 15 109 :: []) [3, 4, 5, 6, 7, 8, 9, 15, 53, 54, 104, 105, 106]) Qzw)) Qzx)
def Qwf : SC := (.seq (.reg ( bJ 107 .lss 106 105 :: []) [3, 4, 5, 6, 7, 8, 9, 53, 54, 104, 105, 106, 107]) (.seq (.cond (.t 107) .skip (.exit 6)) Qzy))
def Qzz : SC := (.seq (.reg ( mJ 101 6 :: mJ 102 8 :: iJ 103 1 101 102 :: lJ 104 103 :: nJ 105 104 :: fI 106 (.mv (kI 0)) :: []) [3, 4, 5, 6, 7, 8, 9, 53, 54, 104, 105, 106]) (.block 6 (.loop Qwf)))
def Qz0 : SC := (.seq (.seq (.reg ( fJ 72 2 9 :: lJ 73 72 :: mJ 74 8 :: iJ 75 5 73 74 :: fJ 76 4 75 :: lJ 77 76 :: nJ 78 77 :: fI 79 (.mv (kI 0)) :: []) [3, 4, 5, 6, 7, 8, 9, 53, 54, 77, 78, 79]) (.block 2 (.loop Qwb))) Qzz)
def Qz1 : SC := (.seq (.reg ( fJ 67 0 3 :: lJ 68 67 :: mJ 69 4 :: iJ 70 3 68 69 :: tJ 71 3 70 :: eI 9 (.alloc [.int .i64 0, .int .i64 0, .sl true 5 []]) :: Qhm) [3, 4, 5, 6, 7, 8, 9, 53, 54]) Qz0)
def Qz2 : SC := (.seq (.seq (.dreg 10 [0, 1, 2, 3, 4, 5, 6, 7, 8, 9] ( mJ 57 5 :: mJ 58 8 :: iJ 59 1 57 58 :: lJ 60 59 :: mJ 61 7 :: mJ 62 8 :: iJ 63 1 61 62 :: lJ 64 63 :: aJ 65 Qg1 [.t 60, .t 64] :: Qj6) [3, 4, 5, 6, 7, 8, 53, 54, 66]) Q44) Qz1)
def Qz3 : SC := (.reg ( cJ 171 .add 54 1 :: mJ 54 171 :: []) [3, 4, 5, 6, 7, 53, 54])
def Qz4 : SC := (.seq (.block 1 (.seq (.reg ( mJ 56 54 :: mJ 8 56 :: []) [3, 4, 5, 6, 7, 8, 53, 54]) Qz2)) Qz3)
def Qwg : SC := (.seq (.reg ( bJ 55 .lss 54 53 :: []) [3, 4, 5, 6, 7, 53, 54, 55]) (.seq (.cond (.t 55) .skip (.exit 0)) Qz4))
def Qz5 : SC := (.seq (.reg ( fI 2 (.mv (.k (.c (.bool true)))) :: []) [2]) .ret)
def Qz6 : SC := (.seq (.seq (.reg ( mJ 52 5 :: nJ 53 52 :: fI 54 (.mv (kI 0)) :: []) [3, 4, 5, 6, 7, 53, 54]) (.block 0 (.loop Qwg))) Qz5)
def Qz7 : SC := (.seq (.seq (.reg ( mJ 40 5 :: nJ 41 40 :: mJ 42 7 :: nJ 43 42 :: bJ 44 .neq 41 43 :: mJ 45 44 :: gFm 46 45 6 :: gF 47 45 (.len (.t 46)) :: gFm 48 45 5 :: gF 49 45 (.len (.t 48)) :: gF 50 45 (.bin 0 .neq (.t 47) (.t 49)) :: fI 51 (.pick (.t 45) (.k (.c (.bool true))) (.t 50)) :: []) [3, 4, 5, 6, 7, 51]) Q43) Qz6)
def Qz8 : SC := (.seq (.reg ( tJ 37 1 3 :: mJ 38 4 :: aJ 39 Qkw [.t 37, .t 38] :: Qj5) [3, 4, 5, 6, 7]) Qz7)
def Qz9 : SC := (.seq (.dreg 8 [0, 1, 3, 4, 2, 3, 5, 6, 7] ( tJ 31 1 3 :: mJ 32 4 :: tJ 34 1 3 :: mJ 35 4 :: aJ 33 Qkk [.t 31, .t 32] :: Qj4) [3, 4, 5, 6]) Qz8)
def Q0a : SC := (.seq (.reg ( mJ 27 0 :: aJ 28 Qd1 [.t 27] :: Qj2) [3, 4]) Qz9)
def Q0b : SC := (.seq (.seq (.reg ( mJ 23 0 :: nJ 24 23 :: cJ 25 .gtr 24 1048576 :: []) [0, 25]) Q42) Q0a)
def Qagx : SC := (.seq (.reg ( fI 2 (.mv (.k (.c (.bool false)))) :: []) [0]) Q0b)
def Qij : List RS := [.tmp 2]
theorem Qadw : mFn prog Qop 1 172 Qagx Qij = true := by kernel_rfl
def Q0c : SC := (.cond (.t 20) (.seq (.reg ( fI 2 (.mv (.k (.c (.bool true)))) :: []) [2]) .ret) .skip)
def Qhr : List Item := mJ 4 25 :: []
def Qhs : List Item := .e none none (.sto 1 (.t 3) (.t 24)) :: Qhr
def Qht : List Item := mJ 21 23 :: fI 24 (.ext (.t 21) 0) :: fI 25 (.ext (.t 21) 1) :: eI 3 (.alloc [.sl true 3 []]) :: Qhs
def Qhu : List Item := mJ 5 28 :: []
def Qhv : List Item := mJ 6 31 :: []
def Q0d : SC := (.cond (.t 36) (.seq (.reg ( fI 2 (.mv (.k (.c (.bool false)))) :: []) [2]) .ret) .skip)
def Qhw : List Item := oJ 51 50 :: []
def Q0e : SC := (.cond (.t 51) (.seq (.reg ( fI 2 (.mv (.k (.c (.bool false)))) :: []) [2]) .ret) .skip)
def Qhx : List Item := .e none none (.sto 5 (.t 8) (.t 60)) :: []
def Qgc : List Item := mJ 9 68 :: []
def Qb1 : List Item := oJ 81 80 :: mJ 82 81 :: gTf 83 82 2 8 :: gTl 84 82 83 :: gT 85 82 (.bin 0 .neq (.t 84) (kI 1)) :: gTm 86 82 85 :: gTf 87 86 3 8 :: gTl 88 86 87 :: gTm 89 86 11 :: gT 90 86 (.bin 0 .eql (.t 88) (.t 89)) :: gT 91 82 (.pick (.t 86) (.t 90) (.k (.c (.bool false)))) :: gT 92 82 (.not (.t 91)) :: fI 93 (.pick (.t 82) (.t 92) (.k (.c (.bool false)))) :: []
def Qwh : SC := (.cond (.t 93) (.seq (.reg ( fI 2 (.mv (.k (.c (.bool false)))) :: []) [2]) .ret) .skip)
def Qwi : SC := (.seq (.reg ( mJ 75 5 :: mJ 76 7 :: iJ 77 1 75 76 :: lJ 78 77 :: mJ 79 11 :: aJ 80 Qcc [.t 78, .t 79] :: Qb1) [3, 4, 5, 6, 7, 8, 38, 39, 69, 70, 71, 93]) Qwh)
def Qwj : SC := (.reg ( cJ 94 .add 71 1 :: mJ 71 94 :: []) [3, 4, 5, 6, 7, 8, 38, 39, 69, 70, 71])
def Qwk : SC := (.seq (.block 3 (.seq (.reg ( iJ 73 1 69 71 :: lJ 74 73 :: mJ 11 74 :: []) [3, 4, 5, 6, 7, 8, 11, 38, 39, 69, 70, 71]) Qwi)) Qwj)
def Qt3 : SC := (.seq (.reg ( bJ 72 .lss 71 70 :: []) [3, 4, 5, 6, 7, 8, 38, 39, 69, 70, 71, 72]) (.seq (.cond (.t 72) .skip (.exit 2)) Qwk))
def Qgd : List Item := mJ 12 100 :: .e none none (.sto 4 (.t 13) (.t 102)) :: []
def Qge : List Item := mJ 14 108 :: mJ 15 113 :: []
def Qgf : List Item := .chk 109 none (.ld 1 true (.t 3)) :: aJ 113 Qbl [.t 109, .t 110, .t 111, .t 112] :: Qge
def Qb2 : List Item := gTm 134 131 16 :: gT 135 131 (.bin 0 .neq (.t 133) (.t 134)) :: gF 136 127 (.pick (.t 131) (.t 135) (.k (.c (.bool false)))) :: fI 137 (.pick (.t 127) (.k (.c (.bool true))) (.t 136)) :: mJ 17 137 :: []
def Qb3 : List Item := gFm 131 127 130 :: gT 132 131 (.ld 4 true (.t 13)) :: .e (some 133) (some (131, true)) (.call Qgx [.t 132]) :: Qb2
def Qcz : List Item := mJ 127 126 :: gFm 128 127 15 :: gFm 129 127 16 :: .e (some 130) (some (127, false)) (.call Qcc [.t 128, .t 129]) :: Qb3
def Qgg : List Item := mJ 125 16 :: aJ 126 Qcc [.t 124, .t 125] :: Qcz
def Qgh : List Item := mJ 141 17 :: fI 142 (.bin 1 .neq (.t 140) (.t 141)) :: []
def Qwl : SC := (.cond (.t 142) (.seq (.reg ( fI 2 (.mv (.k (.c (.bool false)))) :: []) [2]) .ret) .skip)
def Qhq : SC := (.seq (.reg ( mJ 138 14 :: mJ 139 16 :: aJ 140 Qcc [.t 138, .t 139] :: Qgh) [3, 4, 5, 6, 7, 13, 14, 15, 38, 39, 96, 97, 98, 119, 120, 142]) Qwl)
def Qwm : SC := (.seq (.reg ( tJ 123 4 13 :: aJ 124 Qoi [.t 123] :: Qgg) [3, 4, 5, 6, 7, 13, 14, 15, 16, 17, 38, 39, 96, 97, 98, 119, 120]) Qhq)
def Qwn : SC := (.reg ( cJ 143 .add 120 1 :: mJ 120 143 :: []) [3, 4, 5, 6, 7, 13, 14, 15, 38, 39, 96, 97, 98, 119, 120])
def Qwo : SC := (.seq (.block 7 (.seq (.reg ( mJ 122 120 :: mJ 16 122 :: []) [3, 4, 5, 6, 7, 13, 14, 15, 16, 38, 39, 96, 97, 98, 119, 120]) Qwm)) Qwn)
def Qt4 : SC := (.seq (.reg ( bJ 121 .lss 120 119 :: []) [3, 4, 5, 6, 7, 13, 14, 15, 38, 39, 96, 97, 98, 119, 120, 121]) (.seq (.cond (.t 121) .skip (.exit 6)) Qwo))
def Qwp : SC := (.seq (.reg ( fJ 114 0 3 :: lJ 115 114 :: mJ 116 4 :: iJ 117 3 115 116 :: fJ 118 1 117 :: lJ 119 118 :: fI 120 (.mv (kI 0)) :: []) [3, 4, 5, 6, 7, 13, 14, 15, 38, 39, 96, 97, 98, 119, 120]) (.block 6 (.loop Qt4)))
def Qwq : SC := (.seq (.dreg 13 [0, 1, 2, 3, 4, 6, 7, 8, 9, 5, 6, 10, 11, 12] ( tJ 103 1 3 :: mJ 104 4 :: mJ 105 7 :: mJ 106 12 :: cJ 107 .sub 106 1 :: tJ 109 1 3 :: mJ 110 4 :: mJ 111 7 :: mJ 112 12 :: aJ 108 Qbl [.t 103, .t 104, .t 105, .t 107] :: Qgf) [3, 4, 5, 6, 7, 13, 14, 15, 38, 39, 96, 97, 98]) Qwp)
def Qwr : SC := (.reg ( cJ 144 .add 98 1 :: mJ 98 144 :: []) [3, 4, 5, 6, 7, 38, 39, 96, 97, 98])
def Qws : SC := (.seq (.block 5 (.seq (.reg ( mJ 100 98 :: iJ 101 4 96 98 :: tJ 102 4 101 :: eI 13 (.alloc [.int .i64 0, .int .i64 0, .sl true 1 [], .int .i64 0]) :: Qgd) [3, 4, 5, 6, 7, 12, 13, 38, 39, 96, 97, 98]) Qwq)) Qwr)
def Qt5 : SC := (.seq (.reg ( bJ 99 .lss 98 97 :: []) [3, 4, 5, 6, 7, 38, 39, 96, 97, 98, 99]) (.seq (.cond (.t 99) .skip (.exit 4)) Qws))
def Qwt : SC := (.seq (.reg ( fJ 95 1 8 :: lJ 96 95 :: nJ 97 96 :: fI 98 (.mv (kI 0)) :: []) [3, 4, 5, 6, 7, 38, 39, 96, 97, 98]) (.block 4 (.loop Qt5)))
def Qwu : SC := (.seq (.seq (.reg ( mJ 69 9 :: nJ 70 69 :: fI 71 (.mv (kI 0)) :: []) [3, 4, 5, 6, 7, 8, 38, 39, 69, 70, 71]) (.block 2 (.loop Qt3))) Qwt)
def Qwv : SC := (.seq (.reg ( tJ 61 1 3 :: mJ 62 4 :: mJ 63 7 :: fJ 64 1 8 :: lJ 65 64 :: nJ 66 65 :: cJ 67 .sub 66 1 :: aJ 68 Qbl [.t 61, .t 62, .t 63, .t 67] :: Qgc) [3, 4, 5, 6, 7, 8, 9, 38, 39]) Qwu)
def Qww : SC := (.seq (.reg ( fJ 52 0 3 :: lJ 53 52 :: mJ 54 4 :: iJ 55 3 53 54 :: fJ 56 2 55 :: lJ 57 56 :: mJ 58 7 :: iJ 59 5 57 58 :: tJ 60 5 59 :: eI 8 (.alloc [.sl true 2 [], .sl true 4 [], .int .i64 0, .int .i64 0, .sl true 1 []]) :: Qhx) [3, 4, 5, 6, 7, 8, 38, 39]) Qwv)
def Qwx : SC := (.seq (.seq (.dreg 10 [0, 1, 2, 3, 4, 5, 6, 7, 8, 9] ( mJ 42 5 :: mJ 43 7 :: iJ 44 1 42 43 :: lJ 45 44 :: mJ 46 6 :: mJ 47 7 :: iJ 48 1 46 47 :: lJ 49 48 :: aJ 50 Qg1 [.t 45, .t 49] :: Qhw) [3, 4, 5, 6, 7, 38, 39, 51]) Q0e) Qww)
def Qwy : SC := (.reg ( cJ 145 .add 39 1 :: mJ 39 145 :: []) [3, 4, 5, 6, 38, 39])
def Qwz : SC := (.seq (.block 1 (.seq (.reg ( mJ 41 39 :: mJ 7 41 :: []) [3, 4, 5, 6, 7, 38, 39]) Qwx)) Qwy)
def Qt6 : SC := (.seq (.reg ( bJ 40 .lss 39 38 :: []) [3, 4, 5, 6, 38, 39, 40]) (.seq (.cond (.t 40) .skip (.exit 0)) Qwz))
def Qw0 : SC := (.seq (.reg ( fI 2 (.mv (.k (.c (.bool true)))) :: []) [2]) .ret)
def Qw1 : SC := (.seq (.seq (.reg ( mJ 37 5 :: nJ 38 37 :: fI 39 (.mv (kI 0)) :: []) [3, 4, 5, 6, 38, 39]) (.block 0 (.loop Qt6))) Qw0)
def Qw2 : SC := (.seq (.seq (.reg ( mJ 32 5 :: nJ 33 32 :: mJ 34 6 :: nJ 35 34 :: bJ 36 .neq 33 35 :: []) [3, 4, 5, 6, 36]) Q0d) Qw1)
def Qw3 : SC := (.seq (.reg ( tJ 29 1 3 :: mJ 30 4 :: aJ 31 Qid [.t 29, .t 30] :: Qhv) [3, 4, 5, 6]) Qw2)
def Qw4 : SC := (.seq (.reg ( tJ 26 1 3 :: mJ 27 4 :: aJ 28 Qed [.t 26, .t 27] :: Qhu) [3, 4, 5]) Qw3)
def Qw5 : SC := (.seq (.reg ( mJ 22 0 :: aJ 23 Qdg [.t 22] :: Qht) [3, 4]) Qw4)
def Qw6 : SC := (.seq (.seq (.reg ( mJ 18 0 :: nJ 19 18 :: cJ 20 .gtr 19 1048576 :: []) [0, 20]) Q0c) Qw5)
def Qacu : SC := (.seq (.reg ( fI 2 (.mv (.k (.c (.bool false)))) :: []) [0]) Qw6)
def Qf1 : List RS := [.tmp 2]
theorem Q69 : mFn prog Qlq 1 146 Qacu Qf1 = true := by kernel_rfl
def Q0f : SC := (.cond (.t 12) (.seq (.reg ( fI 2 (.mv (.k (.c (.bool true)))) :: []) [2]) .ret) .skip)
def Qhy : List Item := mJ 4 17 :: []
def Qhz : List Item := .e none none (.sto 1 (.t 3) (.t 16)) :: Qhy
def Qh0 : List Item := mJ 13 15 :: fI 16 (.ext (.t 13) 0) :: fI 17 (.ext (.t 13) 1) :: eI 3 (.alloc [.sl true 3 []]) :: Qhz
def Qh1 : List Item := mJ 5 20 :: []
def Qdt : List Item := bJ 25 .neq 21 24 :: mJ 26 25 :: gFm 27 26 5 :: gF 28 26 (.bin 0 .lss (.t 27) (kI 0)) :: fI 29 (.pick (.t 26) (.k (.c (.bool true))) (.t 28)) :: []
def Qh2 : List Item := bJ 34 .eql 30 33 :: mJ 35 34 :: gTm 36 35 5 :: gT 37 35 (.bin 0 .eql (.t 36) (kI (-1))) :: fI 38 (.pick (.t 35) (.t 37) (.k (.c (.bool false)))) :: mJ 2 38 :: []
def Q0g : SC := (.cond (.t 29) (.seq (.reg ( mJ 30 5 :: tJ 31 1 3 :: mJ 32 4 :: aJ 33 Qee [.t 31, .t 32] :: Qh2) [2]) .ret) .skip)
def Qh3 : List Item := mJ 7 48 :: .e none none (.sto 5 (.t 8) (.t 50)) :: []
def Qh4 : List Item := nJ 64 63 :: fI 65 (.mx (.t 58) (.t 64)) :: mJ 6 65 :: []
def Qw7 : SC := (.reg ( mJ 56 9 :: cJ 57 .add 56 1 :: mJ 9 57 :: []) [3, 4, 5, 6, 7, 8, 9, 44, 45, 46])
def Qw8 : SC := (.seq (.block 3 (.reg ( mJ 58 6 :: tJ 59 1 3 :: mJ 60 4 :: mJ 61 7 :: mJ 62 9 :: aJ 63 Qbl [.t 59, .t 60, .t 61, .t 62] :: Qh4) [3, 4, 5, 6, 7, 8, 9, 44, 45, 46])) Qw7)
def Qt7 : SC := (.seq (.seq (.reg ( mJ 51 9 :: fJ 52 1 8 :: lJ 53 52 :: nJ 54 53 :: bJ 55 .lss 51 54 :: []) [3, 4, 5, 6, 7, 8, 9, 44, 45, 46, 55]) (.cond (.t 55) .skip (.exit 2))) Qw8)
def Qw9 : SC := (.seq (.reg ( fI 9 (.mv (kI (-1))) :: []) [3, 4, 5, 6, 7, 8, 9, 44, 45, 46]) (.block 2 (.loop Qt7)))
def Qxa : SC := (.reg ( cJ 66 .add 46 1 :: mJ 46 66 :: []) [3, 4, 5, 6, 44, 45, 46])
def Qxb : SC := (.seq (.block 1 (.seq (.reg ( mJ 48 46 :: iJ 49 5 44 46 :: tJ 50 5 49 :: eI 8 (.alloc [.sl true 2 [], .sl true 4 [], .int .i64 0, .int .i64 0, .sl true 1 []]) :: Qh3) [3, 4, 5, 6, 7, 8, 44, 45, 46]) Qw9)) Qxa)
def Qt8 : SC := (.seq (.reg ( bJ 47 .lss 46 45 :: []) [3, 4, 5, 6, 44, 45, 46, 47]) (.seq (.cond (.t 47) .skip (.exit 0)) Qxb))
def Qxc : SC := (.seq (.reg ( mJ 67 6 :: mJ 68 5 :: bJ 69 .eql 67 68 :: mJ 70 69 :: gTm 71 70 5 :: gTf 72 70 0 3 :: gTl 73 70 72 :: gTm 74 70 4 :: gT 75 70 (.iad 3 (.t 73) (.t 74)) :: gTf 76 70 1 75 :: gTl 77 70 76 :: gT 78 70 (.bin 0 .leq (.t 71) (.t 77)) :: fI 79 (.pick (.t 70) (.t 78) (.k (.c (.bool false)))) :: mJ 2 79 :: []) [2]) .ret)
def Qxd : SC := (.seq (.seq (.reg ( fJ 39 0 3 :: lJ 40 39 :: mJ 41 4 :: iJ 42 3 40 41 :: fJ 43 2 42 :: lJ 44 43 :: nJ 45 44 :: fI 46 (.mv (kI 0)) :: []) [3, 4, 5, 6, 44, 45, 46]) (.block 0 (.loop Qt8))) Qxc)
def Qxe : SC := (.seq (.reg ( fI 6 (.mv (kI 0)) :: []) [3, 4, 5, 6]) Qxd)
def Qxf : SC := (.seq (.seq (.reg ( mJ 21 5 :: tJ 22 1 3 :: mJ 23 4 :: aJ 24 Qee [.t 22, .t 23] :: Qdt) [3, 4, 5, 29]) Q0g) Qxe)
def Qxg : SC := (.seq (.reg ( tJ 18 1 3 :: mJ 19 4 :: aJ 20 Qh6 [.t 18, .t 19] :: Qh1) [3, 4, 5]) Qxf)
def Qxh : SC := (.seq (.reg ( mJ 14 0 :: aJ 15 Qdh [.t 14] :: Qh0) [3, 4]) Qxg)
def Qxi : SC := (.seq (.seq (.reg ( mJ 10 0 :: nJ 11 10 :: cJ 12 .gtr 11 1048576 :: []) [0, 12]) Q0f) Qxh)
def Qacv : SC := (.seq (.reg ( fI 2 (.mv (.k (.c (.bool false)))) :: []) [0]) Qxi)
def Qf2 : List RS := [.tmp 2]
theorem Q7a : mFn prog Qlr 1 80 Qacv Qf2 = true := by kernel_rfl
def Qc8 : List Item := cJ 8 .geq 7 0 :: mJ 4 8 :: []
def Qlg : SC := (.seq (.reg ( mJ 5 0 :: mJ 6 1 :: aJ 7 Qcx [.t 5, .t 6] :: Qc8) [4]) .ret)
def Qqs : SC := (.seq (.reg ( fI 4 (.mv (.k (.c (.bool false)))) :: []) [0, 1]) Qlg)
def Qep : List RS := [.tmp 4]
theorem Qov : mFn prog Qb9 2 9 Qqs Qep = true := by kernel_rfl
def Qro : SC := (.cond (.t 16) (.seq (.reg ( mJ 17 5 :: mJ 4 17 :: []) [4]) .ret) .skip)
def Qrp : SC := (.seq (.reg ( mJ 11 1 :: mJ 12 0 :: mJ 13 5 :: iJ 14 4 12 13 :: tJ 15 4 14 :: eI 16 (.callv (.t 11) [.t 15]) :: []) [0, 1, 5, 7, 8, 16]) Qro)
def Qrq : SC := (.reg ( cJ 18 .add 8 1 :: mJ 8 18 :: []) [0, 1, 7, 8])
def Qrr : SC := (.seq (.block 1 (.seq (.reg ( mJ 10 8 :: mJ 5 10 :: []) [0, 1, 5, 7, 8]) Qrp)) Qrq)
def Qqt : SC := (.seq (.reg ( bJ 9 .lss 8 7 :: []) [0, 1, 7, 8, 9]) (.seq (.cond (.t 9) .skip (.exit 0)) Qrr))
def Qrs : SC := (.seq (.reg ( fI 4 (.mv (kI (-1))) :: []) [4]) .ret)
def Qrt : SC := (.seq (.seq (.reg ( mJ 6 0 :: nJ 7 6 :: fI 8 (.mv (kI 0)) :: []) [0, 1, 7, 8]) (.block 0 (.loop Qqt))) Qrs)
def Qxk : SC := (.seq (.reg ( fI 4 (.mv (kI 0)) :: []) [0, 1]) Qrt)
def Qdp : List RS := [.tmp 4]
theorem Quz : mFn prog Qcx 2 19 Qxk Qdp = true := by kernel_rfl
def Qgm : List Item := fI 3 (.mv (kI 0)) :: []
def Qgn : List Item := mJ 3 8 :: []
def Qgo : List Item := fI 7 (.ext (.t 6) 0) :: fI 8 (.ext (.t 6) 1) :: .e none none (.sto 1 (.t 2) (.t 7)) :: Qgn
def Qgp : List Item := aJ 6 Qi3 [.t 5] :: Qgo
def Qxl : SC := (.seq (.reg ( mJ 4 0 :: aJ 5 Qi5 [.t 4] :: Qgp) [2, 3]) .ret)
def Q5c : SC := (.seq (.reg ( eI 2 (.alloc [.sl true 3 []]) :: Qgm) [0, 2]) Qxl)
def Qlv : List RS := [.cell 2 1 true, .tmp 3]
theorem Q3i : mFn prog Qd1 1 9 Q5c Qlv = true := by kernel_rfl
def Qew : List Item := fI 3 (.mv (kI 0)) :: []
def Qex : List Item := mJ 3 8 :: []
def Qey : List Item := fI 7 (.ext (.t 6) 0) :: fI 8 (.ext (.t 6) 1) :: .e none none (.sto 1 (.t 2) (.t 7)) :: Qex
def Qez : List Item := aJ 6 Qi3 [.t 5] :: Qey
def Qub : SC := (.seq (.reg ( mJ 4 0 :: aJ 5 Qi5 [.t 4] :: Qez) [2, 3]) .ret)
def Q0j : SC := (.seq (.reg ( eI 2 (.alloc [.sl true 3 []]) :: Qew) [0, 2]) Qub)
def Qjj : List RS := [.cell 2 1 true, .tmp 3]
theorem Qyc : mFn prog Qdg 1 9 Q0j Qjj = true := by kernel_rfl
def Qe0 : List Item := fI 3 (.mv (kI 0)) :: []
def Qe1 : List Item := mJ 3 8 :: []
def Qe2 : List Item := fI 7 (.ext (.t 6) 0) :: fI 8 (.ext (.t 6) 1) :: .e none none (.sto 1 (.t 2) (.t 7)) :: Qe1
def Qe3 : List Item := aJ 6 Qi3 [.t 5] :: Qe2
def Quc : SC := (.seq (.reg ( mJ 4 0 :: aJ 5 Qi5 [.t 4] :: Qe3) [2, 3]) .ret)
def Q0k : SC := (.seq (.reg ( eI 2 (.alloc [.sl true 3 []]) :: Qe0) [0, 2]) Quc)
def Qjk : List RS := [.cell 2 1 true, .tmp 3]
theorem Qyd : mFn prog Qdh 1 9 Q0k Qjk = true := by kernel_rfl
def Qq2 : List Item := oJ 8 7 :: []
def Qaha : SC := (.cond (.t 8) (.seq (.reg ( fI 9 (.bsl 1 []) :: mJ 4 9 :: []) [4]) .ret) .skip)
def Qq3 : List Item := mJ 4 17 :: []
def Qq4 : List Item := fI 16 (.fld 0 1 false (.t 15)) :: aJ 17 Qkn [.t 16] :: Qq3
def Qahb : SC := (.seq (.reg ( fJ 10 0 2 :: lJ 11 10 :: mJ 12 1 :: iJ 13 3 11 12 :: tJ 14 3 13 :: aJ 15 Qi4 [.t 14] :: Qq4) [4]) .ret)
def Qahc : SC := (.seq (.seq (.reg ( tJ 5 1 2 :: mJ 6 1 :: aJ 7 Qol [.t 5, .t 6] :: Qq2) [1, 2, 8]) Qaha) Qahb)
def Qaqr : SC := (.seq (.reg ( fI 2 (.box (.t 0)) :: fI 4 (.mv (.k (.c (.sl true 1 [])))) :: []) [1, 2]) Qahc)
def Qo4 : List RS := [.tmp 4]
theorem Qanb : mFn prog Qkw 2 18 Qaqr Qo4 = true := by kernel_rfl
def Qm7 : List Item := oJ 8 7 :: []
def Qac4 : SC := (.cond (.t 8) (.seq (.reg ( fI 9 (.bsl 1 []) :: mJ 4 9 :: []) [4]) .ret) .skip)
def Qm8 : List Item := mJ 4 17 :: []
def Qm9 : List Item := fI 16 (.fld 1 1 false (.t 15)) :: aJ 17 Qkn [.t 16] :: Qm8
def Qac5 : SC := (.seq (.reg ( fJ 10 0 2 :: lJ 11 10 :: mJ 12 1 :: iJ 13 3 11 12 :: tJ 14 3 13 :: aJ 15 Qi4 [.t 14] :: Qm9) [4]) .ret)
def Qac6 : SC := (.seq (.seq (.reg ( tJ 5 1 2 :: mJ 6 1 :: aJ 7 Qol [.t 5, .t 6] :: Qm7) [1, 2, 8]) Qac4) Qac5)
def Qal2 : SC := (.seq (.reg ( fI 2 (.box (.t 0)) :: fI 4 (.mv (.k (.c (.sl true 1 [])))) :: []) [1, 2]) Qac6)
def Qk5 : List RS := [.tmp 4]
theorem Qajp : mFn prog Qid 2 18 Qal2 Qk5 = true := by kernel_rfl
def Qal3 : SC := (.cond (.t 5) (.seq (.reg ( fJ 6 1 1 :: lJ 7 6 :: mJ 2 7 :: []) [2]) .ret) .skip)
def Qal4 : SC := (.seq (.reg ( fI 2 (.mv (kI (-1))) :: []) [2]) .ret)
def Qal5 : SC := (.seq (.seq (.reg ( fJ 3 0 1 :: lJ 4 3 :: aJ 5 Qfi [.t 4] :: []) [1, 5]) Qal3) Qal4)
def Qaw9 : SC := (.seq (.reg ( fI 1 (.box (.t 0)) :: fI 2 (.mv (kI 0)) :: []) [1]) Qal5)
def Qtl : List RS := [.tmp 2]
theorem Qar2 : mFn prog Qor 1 8 Qaw9 Qtl = true := by kernel_rfl
def Qna : List Item := oJ 13 12 :: []
def Qac7 : SC := (.cond (.t 13) (.seq (.reg ( fI 4 (.mv (kI (-1))) :: []) [4]) .ret) .skip)
def Qnb : List Item := .e none none (.sto 3 (.t 5) (.t 18)) :: []
def Qnc : List Item := .e none none (.sto 2 (.t 6) (.t 20)) :: []
def Qnd : List Item := eI 6 (.alloc [.sl true 1 [], .sl true 1 []]) :: Qnc
def Qne : List Item := nJ 46 45 :: fI 47 (.mx (.t 39) (.t 46)) :: mJ 7 47 :: []
def Qnf : List Item := aJ 45 Qrb [.t 44] :: Qne
def Qac8 : SC := (.reg ( mJ 37 9 :: cJ 38 .add 37 1 :: mJ 9 38 :: []) [5, 6, 7, 8, 9])
def Qac9 : SC := (.seq (.block 3 (.reg ( mJ 39 7 :: tJ 40 3 5 :: tJ 41 2 6 :: mJ 42 8 :: mJ 43 9 :: aJ 44 Qgy [.t 40, .t 41, .t 42, .t 43] :: Qnf) [5, 6, 7, 8, 9])) Qac8)
def Q5m : SC := (.seq (.seq (.reg ( mJ 28 9 :: fJ 29 2 5 :: lJ 30 29 :: mJ 31 8 :: iJ 32 5 30 31 :: fJ 33 1 32 :: lJ 34 33 :: nJ 35 34 :: bJ 36 .lss 28 35 :: []) [5, 6, 7, 8, 9, 36]) (.cond (.t 36) .skip (.exit 2))) Qac9)
def Q5e : SC := (.reg ( mJ 26 8 :: cJ 27 .add 26 1 :: mJ 8 27 :: []) [5, 6, 7, 8])
def Q5f : SC := (.seq (.block 1 (.seq (.reg ( fI 9 (.mv (kI (-1))) :: []) [5, 6, 7, 8, 9]) (.block 2 (.loop Q5m)))) Q5e)
def Q0l : SC := (.seq (.seq (.reg ( mJ 21 8 :: fJ 22 2 5 :: lJ 23 22 :: nJ 24 23 :: bJ 25 .lss 21 24 :: []) [5, 6, 7, 8, 25]) (.cond (.t 25) .skip (.exit 0))) Q5f)
def Q5g : SC := (.seq (.reg ( mJ 48 7 :: mJ 4 48 :: []) [4]) .ret)
def Q5h : SC := (.seq (.seq (.reg ( fI 8 (.mv (kI 0)) :: []) [5, 6, 7, 8]) (.block 0 (.loop Q0l))) Q5g)
def Q5i : SC := (.seq (.reg ( fI 7 (.mv (kI 0)) :: []) [5, 6, 7]) Q5h)
def Q5j : SC := (.seq (.reg ( tJ 19 3 5 :: aJ 20 Qi4 [.t 19] :: Qnd) [5, 6]) Q5i)
def Q5k : SC := (.seq (.reg ( fJ 14 0 2 :: lJ 15 14 :: mJ 16 1 :: iJ 17 3 15 16 :: tJ 18 3 17 :: eI 5 (.alloc [.int .i64 0, .int .i64 0, .sl true 5 []]) :: Qnb) [5]) Q5j)
def Q5l : SC := (.seq (.seq (.reg ( tJ 10 1 2 :: mJ 11 1 :: aJ 12 Qol [.t 10, .t 11] :: Qna) [1, 2, 13]) Qac7) Q5k)
def Qal6 : SC := (.seq (.reg ( fI 2 (.box (.t 0)) :: fI 4 (.mv (kI 0)) :: []) [1, 2]) Q5l)
def Qk6 : List RS := [.tmp 4]
theorem Qajq : mFn prog Qee 2 49 Qal6 Qk6 = true := by kernel_rfl
end Go.AE.Y

namespace Go.AE.Y
open Go.Proofs.Tryz
theorem Qas : prog.follows .mixedOrders = true := by kernel_rfl
theorem Qbav (l : Nat) (fl : Bool) (bs : List UInt8) (k : Nat) (n : Int) (H : Heap) (K : V → Heap → Prop)
   (hH : H l = .st [.sl fl 1 (Qba bs), .int .i64 k]) (hp' : k ≤ 2^40)
   (hK : ∀ v : Int, (if n < 1 then v = 0 else 0 ≤ v ∧ v < n) → K (.c (.int .i64 v)) (H.set l (.st [.sl fl 1 (Qba bs), .int .i64 ((k + 1 : Nat) : Int)]))) :
   Qo prog Ql [.c (.ptr l 0), .c (.int .i64 n)] H K := by
  refine Qb Qas Qam0 ?_
  refine Qa ?_
  simp only [go_sem, Qak, Qe8, reduceIte, Nat.reduceEqDiff, Nat.reduceAdd]
  refine Qa ?_
  simp only [go_sem, Qak, Qe8, reduceIte, Nat.reduceEqDiff, Nat.reduceAdd, Nat.reduceLeDiff, Nat.reduceLT, hH]
  refine ⟨Qn (by omega) (by omega), fun H2 hH2' => ?_⟩
  have hH2 : H2 l = .st [C.sl fl 1 (Qba bs), C.int IntKind.i64 (k + 1)] := by rw [hH2']; exact Heap.set_same _ _ _
  have hK2 : ∀ v : Int, (if n < 1 then v = 0 else 0 ≤ v ∧ v < n) → K (.c (.int .i64 v)) H2 := by
    intro v hv; rw [hH2']; exact hK v hv
  clear hK
  refine Q2 ?_
  refine Qa ?_
  simp only [go_sem, Qak, Qe8, reduceIte, Nat.reduceEqDiff, Nat.reduceAdd, Nat.reduceLeDiff, hH2]
  intro _
  refine Qg (Qd rfl ?_ ?_)
  · intro hc
    refine Qa ?_
    simp only [go_sem, reduceIte, Nat.reduceEqDiff]
    refine Qj ?_
    simp only [go_sem, Qz, Q9, Qg9, reduceIte, List.mem_singleton, forall_eq, RS.op]
    refine hK2 0 ?_
    split <;> omega
  · intro hc
    refine Qf ?_
    simp only [go_sem]
    have hn : 1 ≤ n ∧ bs.length ≠ 0 := by
      simp only [cond_eq_ite] at hc
      split at hc
      · simp at hc
      · simp at hc; simp_all
    refine Qa ?_
    simp only [go_sem, Qak, Qe8, reduceIte, Nat.reduceEqDiff, Nat.reduceAdd, Nat.reduceLeDiff, hH2]
    refine ⟨Qn (by omega) (by omega), ?_⟩
    refine Q2 ?_
    refine Qa ?_
    simp only [go_sem, Qak, Qe8, reduceIte, Nat.reduceEqDiff, Nat.reduceAdd, Nat.reduceLeDiff, hH2]
    intro hl
    refine Qg (Qd rfl ?_ ?_)
    · intro hc2
      have hk : k < bs.length := by simpa using hc2
      refine Qa ?_
      simp only [go_sem, Qak, Qe8, reduceIte, Nat.reduceEqDiff, Nat.reduceAdd, Nat.reduceLeDiff, hH2, hk, Q02]
      refine ⟨by omega, ?_⟩
      refine Qj ?_
      simp only [go_sem, Qz, Q9, Qg9, reduceIte, List.mem_singleton, forall_eq, RS.op]
      refine hK2 _ ?_
      rw [if_neg (by omega)]
      exact ⟨Int.tmod_nonneg _ (by omega), Int.tmod_lt_of_pos _ (by omega)⟩
    · intro hc2
      refine Qf ?_
      simp only [go_sem]
      refine Qar ?_
      have e1 : ((k : Int).tmod (bs.length : Int)) = ((k % bs.length : Nat) : Int) := rfl
      have e2 : (((k : Int) * 7 + 3).tmod (bs.length : Int)) = (((k * 7 + 3) % bs.length : Nat) : Int) := rfl
      have h1 : k % bs.length < bs.length := Nat.mod_lt _ (by omega)
      have h2 : (k * 7 + 3) % bs.length < bs.length := Nat.mod_lt _ (by omega)
      simp only [go_sem, Qak, Qe8, reduceIte, Nat.reduceEqDiff, Nat.reduceAdd, Nat.reduceLeDiff, hH2, e1, e2, h1, h2, Q02]
      have e3 : (k : Int).tdiv (bs.length : Int) = ((k / bs.length : Nat) : Int) := rfl
      have h3 : k / bs.length ≤ k := Nat.div_le_self _ _
      rw [e3]
      have h4 := (bs.getD (k % bs.length) 0).toNat_lt
      have h5 := (bs.getD ((k * 7 + 3) % bs.length) 0).toNat_lt
      generalize (bs.getD (k % bs.length) 0).toNat = b1 at *
      generalize (bs.getD ((k * 7 + 3) % bs.length) 0).toNat = b2 at *
      generalize k / bs.length = d at *
      clear e1 e2 h1 h2 e3
      refine ⟨by omega, Qn (by omega) (by omega), Qn (by omega) (by omega), Qn (by omega) (by omega), by omega, Qn (by omega) (by omega), Qn (by omega) (by omega),
        Qn (by omega) (by omega), Qn (by omega) (by omega), ⟨by omega, Qn (by omega) (by omega)⟩, Qn (by omega) (by omega), Qn (by omega) (by omega), ?_⟩
      have hx : 0 ≤ (b1 : Int) * 131 + b2 * 1117 + k * 29 + d * 53 := by omega
      have hx' : (b1 : Int) * 131 + b2 * 1117 + k * 29 + d * 53 < 2 ^ 62 := by omega
      generalize (b1 : Int) * 131 + b2 * 1117 + k * 29 + d * 53 = x at *
      refine Qa ?_
      simp only [go_sem, Qak, Qe8, reduceIte, Nat.reduceEqDiff, Nat.reduceAdd, Nat.reduceLeDiff]
      have hq : 0 ≤ x.tdiv 64 := Int.tdiv_nonneg hx (by omega)
      have hq' : x.tdiv 64 ≤ x := by have := Int.tdiv_le_self (a := x) 64 hx; exact this
      refine ⟨⟨by omega, Qn (by omega) (by omega)⟩, ?_⟩
      have hy := Qbbc hx hq hx' (by omega)
      generalize Qayq .xor .i64 x (x.tdiv 64) = y at *
      refine Qa ?_
      simp only [go_sem, Qak, Qe8, reduceIte, Nat.reduceEqDiff, Nat.reduceAdd, Nat.reduceLeDiff]
      refine ⟨by omega, ?_⟩
      refine Qj ?_
      simp only [go_sem, Qz, Q9, Qg9, reduceIte, List.mem_singleton, forall_eq, RS.op]
      refine hK2 _ ?_
      rw [if_neg (by omega)]
      exact ⟨Int.tmod_nonneg _ (by omega), Int.tmod_lt_of_pos _ (by omega)⟩
theorem Qa5 {R : Rdr} {k : Nat} {n : Int} {H : Heap} {K : V → Heap → Prop} (hH : H R.l = R.o k) (hk : k ≤ 2^40)
  (hK : ∀ (v : Int) (H' : Heap), (if n < 1 then v = 0 else 0 ≤ v ∧ v < n) → Upd H H' [(R.l, R.o (k + 1))] → K (.c (.int .i64 v)) H') :
  Qo prog Ql [.c (.ptr R.l 0), .c (.int .i64 n)] H K :=
 Qbav R.l R.fl R.bs k n H K hH hk fun v hv => hK v _ hv ⟨by simp [Heap.set_same, Rdr.o], fun m _ hm => Heap.set_other _ _ (by simpa using hm)⟩
theorem Qig {R : Rdr} {k : Nat} {fl : Bool} {ns : List Int} {H : Heap} {K : V → Heap → Prop} (hH : H R.l = R.o k) (hk : k ≤ 2^40) (hns : 0 < ns.length)
  (hK : ∀ (v : Int) (H' : Heap), v ∈ ns → Upd H H' [(R.l, R.o (k + 1))] → K (.c (.int .i64 v)) H') :
  Qo prog Q5 [.c (.ptr R.l 0), .c (.sl fl 1 (Qh ns))] H K := by
 refine Qb Qas Qarv ?_
 refine Qa ?_
 simp only [go_sem, reduceIte, reduceEqDiff, reduceAdd, reduceLeDiff, reduceLT, reduceCtorEq]
 refine Qa ?_
 simp only [go_sem, Qe, reduceIte, reduceEqDiff, reduceAdd, reduceLeDiff, reduceLT, reduceCtorEq]
 intro hl
 refine Qa5 hH hk fun v H' hv hu => ?_
 rw [if_neg (by omega)] at hv
 obtain ⟨i, rfl⟩ := Int.eq_ofNat_of_zero_le hv.1
 have hi : i < ns.length := by omega
 simp only [go_sem, Qsr, Qe, Qx, hi, reduceIte, reduceEqDiff, reduceAdd, reduceLeDiff, reduceLT, reduceCtorEq]
 refine Qj ?_
 simp only [go_sem, Qz, Q9, Q7p, reduceIte, List.mem_singleton, forall_eq, RS.op]
 refine hK _ H' ?_ hu
 rw [List.getD_eq_getElem?_getD, List.getElem?_eq_getElem hi]; exact List.getElem_mem hi
theorem of_c {R : Rdr} {k : Nat} {fl : Bool} {ss : List (List UInt8)} {H : Heap} {K : V → Heap → Prop} (hH : H R.l = R.o k) (hk : k ≤ 2^40) (hns : 0 < ss.length)
  (hK : ∀ (v : List UInt8) (H' : Heap), v ∈ ss → Upd H H' [(R.l, R.o (k + 1))] → K (.c (.str v)) H') :
  Qo prog Qfu [.c (.ptr R.l 0), .c (.sl fl 1 (Qbd ss))] H K := by
 refine Qb Qas Qazb ?_
 refine Qa ?_
 simp only [go_sem, reduceIte, reduceEqDiff, reduceAdd, reduceLeDiff, reduceLT, reduceCtorEq]
 refine Qa ?_
 simp only [go_sem, Qao, reduceIte, reduceEqDiff, reduceAdd, reduceLeDiff, reduceLT, reduceCtorEq]
 intro hl
 refine Qa5 hH hk fun v H' hv hu => ?_
 rw [if_neg (by omega)] at hv
 obtain ⟨i, rfl⟩ := Int.eq_ofNat_of_zero_le hv.1
 have hi : i < ss.length := by omega
 simp only [go_sem, Qv2, Qao, Qgq, hi, reduceIte, reduceEqDiff, reduceAdd, reduceLeDiff, reduceLT, reduceCtorEq]
 refine Qj ?_
 simp only [go_sem, Qz, Q9, Qah6, reduceIte, List.mem_singleton, forall_eq, RS.op]
 refine hK _ H' ?_ hu
 rw [List.getD_eq_getElem?_getD, List.getElem?_eq_getElem hi]; exact List.getElem_mem hi
theorem Qa6p {R : Rdr} {k : Nat} {fl : Bool} {ss : List (List UInt8)} {H : Heap} {K : V → Heap → Prop} (hH : H R.l = R.o k) (hk : k + 2 ≤ 2^40)
  (hK : ∀ (x : Ex) (H' : Heap) (k' : Nat), k < k' → k' ≤ k + 2 → Upd H H' [(R.l, R.o k')] → x.ok → x.size = 1 → K (.ag x.cells) H') :
  Qo prog Q6k [.c (.ptr R.l 0), .c (.sl fl 1 (Qbd ss))] H K := by
 refine Q0 ?_
 refine Qb Qas Qa65 ?_
 refine Qa ?_
 simp only [go_sem, reduceIte, reduceEqDiff, reduceAdd, reduceLeDiff, reduceLT, reduceCtorEq]
 intro x hx H1 h1
 have kn := (Kn.start1 hH (R.o_ne k)).al hx h1
 refine Q2 ?_
 refine Qa ?_
 simp only [go_sem, Qao, reduceIte, reduceEqDiff, reduceAdd, reduceLeDiff, reduceLT, reduceCtorEq]
 intro hl
 have rest : ∀ (b : Bool) (H2 : Heap) (k2 : Nat), k ≤ k2 → k2 ≤ k + 1 → Kn H H2 [(R.l, R.o k2)] [(x, .st [.int .i64 0, .int .i64 0, .str [], .sl true 4 []])] → (b = false → 0 < ss.length) →
   Qae prog (s_l2Leaf_2.seq Qaic) (Qz Q51 fun x H' => ∃ x', FrzV H' (un H) x x' ∧ K x' (H'.frz (un H))) [(0, V.c (C.ptr R.l 0)), (1, V.c (C.sl fl 1 (Qbd ss))), (4, V.c (C.ptr x 0)), (12, V.c (.bool b))] H2 := by
  intro b H2 k2 hk1 hk2 kn hb
  refine Qg (Qd rfl ?_ ?_)
  ·intro hb'
   refine Qa ?_
   simp only [go_sem, reduceIte, reduceEqDiff, reduceAdd, reduceLeDiff, reduceLT, reduceCtorEq]
   refine Qig (ns := [0, 1, 2, 3, 5, 7, 15, 16, 100, 255]) (kn.e 0 rfl) (by omega) (by simp) fun v H3 hv hu => ?_
   have kn := kn.callE 0 rfl hu (R.o_ne _)
   have hx3 := kn.l 0 rfl
   simp only [go_sem, Q82, hx3, reduceIte, reduceEqDiff, reduceAdd, reduceLeDiff, reduceLT, reduceCtorEq]
   intro H4 h4
   have kn := kn.stL 0 rfl h4
   have hx4 := kn.l 0 rfl
   refine Qj ?_
   simp only [go_sem, Qz, Q9, Q51, reduceIte, List.mem_singleton, forall_eq, RS.op, hx4, reduceIte, reduceEqDiff, reduceAdd, reduceLeDiff, reduceLT, reduceCtorEq]
   refine ⟨_, (Ex.mk 1 v [] []).frz, hK _ _ (k2 + 1) (by omega) (by omega) kn.fin ?_ ?_⟩
   ·simp [Ex.ok, Qdc]
   ·simp [Ex.size, Qab]
  ·intro hb'
   refine Qf ?_
   simp only [go_sem]
   refine Qa ?_
   simp only [go_sem, reduceIte, reduceEqDiff, reduceAdd, reduceLeDiff, reduceLT, reduceCtorEq]
   refine of_c (kn.e 0 rfl) (by omega) (hb hb') fun v H3 hv hu => ?_
   have kn := kn.callE 0 rfl hu (R.o_ne _)
   have hx3 := kn.l 0 rfl
   simp only [go_sem, Q83, hx3, reduceIte, reduceEqDiff, reduceAdd, reduceLeDiff, reduceLT, reduceCtorEq]
   intro H4 h4
   have kn := kn.stL 0 rfl h4
   have hx4 := kn.l 0 rfl
   refine Qj ?_
   simp only [go_sem, Qz, Q9, Q51, reduceIte, List.mem_singleton, forall_eq, RS.op, hx4, reduceIte, reduceEqDiff, reduceAdd, reduceLeDiff, reduceLT, reduceCtorEq]
   refine ⟨_, (Ex.mk 2 0 v []).frz, hK _ _ (k2 + 1) (by omega) (by omega) kn.fin ?_ ?_⟩
   ·simp [Ex.ok, Qdc]
   ·simp [Ex.size, Qab]
 refine ⟨fun hb => ?_, fun hb => ?_⟩
 ·refine Qa5 (kn.e 0 rfl) (by omega) fun v H2 hv hu => ?_
  have kn := kn.callE 0 rfl hu (R.o_ne _)
  simp only [go_sem, Qtz, reduceIte, reduceEqDiff, reduceAdd, reduceLeDiff, reduceLT, reduceCtorEq]
  refine rest _ H2 (k + 1) (by omega) (by omega) kn ?_
  intro h
  have : ¬ ss.length = 0 := by simpa using hb
  omega
 ·have hb2 : decide ((ss.length : Int) = 0) = true := by simpa using hb
  simp only [go_sem, Qtz, hb2, reduceIte, reduceEqDiff, reduceAdd, reduceLeDiff, reduceLT, reduceCtorEq]
  exact rest true H1 k (by omega) (by omega) kn (fun h => by simp at h)
end Go.AE.Y

namespace Go.AE.Y
open Go.Proofs.Tryz
variable {H : Heap} {K : V → Heap → Prop}
theorem Qc6 {n lo hi : Int} (hK : K (.c (.bool (decide (lo ≤ n ∧ n ≤ hi)))) H) : Qo prog Qbj [.c (.int .i64 n), .c (.int .i64 lo), .c (.int .i64 hi)] H K := by
 refine Qb Qas Qbb1 ?_
 refine Qa ?_
 simp only [go_sem, reduceIte, reduceEqDiff, reduceAdd, reduceLeDiff, reduceLT, reduceCtorEq]
 refine Qa ?_
 simp only [go_sem, reduceIte, reduceEqDiff, reduceAdd, reduceLeDiff, reduceLT, reduceCtorEq]
 refine Qj ?_
 simp only [go_sem, Qz, Q9, Qa81, reduceIte, List.mem_singleton, forall_eq, RS.op, reduceIte, reduceEqDiff, reduceAdd, reduceLeDiff, reduceLT, reduceCtorEq]
 have : (bif decide (lo ≤ n) then decide (n ≤ hi) else false) = decide (lo ≤ n ∧ n ≤ hi) := by
  by_cases h : lo ≤ n <;> simp [h]
 rw [this]; exact hK
theorem Qa2w {b : Bool} (hK : K (.c (.int .i64 (if b then 1 else 0))) H) : Qo prog Qx4 [.c (.bool b)] H K := by
 refine Qb Qas Qa3f ?_
 refine Qa ?_
 simp only [go_sem, reduceIte, reduceEqDiff, reduceAdd, reduceLeDiff, reduceLT, reduceCtorEq]
 refine Q2 ?_
 refine Qa ?_
 simp only [go_sem, reduceIte, reduceEqDiff, reduceAdd, reduceLeDiff, reduceLT, reduceCtorEq]
 refine Qg (Qd rfl ?_ ?_)
 ·intro hc; subst hc
  refine Qa ?_
  simp only [go_sem, reduceIte, reduceEqDiff, reduceAdd, reduceLeDiff, reduceLT, reduceCtorEq]
  refine Qj ?_
  simp only [go_sem, Qz, Q9, Q7s, reduceIte, List.mem_singleton, forall_eq, RS.op, reduceIte, reduceEqDiff, reduceAdd, reduceLeDiff, reduceLT, reduceCtorEq]
  exact hK
 ·intro hc; subst hc
  refine Qf ?_
  simp only [go_sem]
  refine Qa ?_
  simp only [go_sem, reduceIte, reduceEqDiff, reduceAdd, reduceLeDiff, reduceLT, reduceCtorEq]
  refine Qj ?_
  simp only [go_sem, Qz, Q9, Q7s, reduceIte, List.mem_singleton, forall_eq, RS.op, reduceIte, reduceEqDiff, reduceAdd, reduceLeDiff, reduceLT, reduceCtorEq]
  exact hK
theorem Qa2u {s : List UInt8} {b : UInt8} (hK : ∀ n : Int, K (.c (.int .i64 n)) H) : Qo prog Qx3 [.c (.str s), .c (.int .u8 b.toNat)] H K := by
 refine Qb Qas Qa3b ?_
 refine Qa ?_
 simp only [go_sem, reduceIte, reduceEqDiff, reduceAdd, reduceLeDiff, reduceLT, reduceCtorEq]
 refine Q2 ?_
 refine Qa ?_
 simp only [go_sem, reduceIte, reduceEqDiff, reduceAdd, reduceLeDiff, reduceLT, reduceCtorEq]
 refine Qg (Qc (Qt (fun n e1 H1 => ∃ i : Nat, n = s.length - i ∧ i ≤ s.length ∧ H1 = H ∧ e1 = [(0, .c (.str s)), (1, .c (.int .u8 b.toNat)), (5, .c (.int .i64 i))]) s.length ?_ ?_))
 ·exact ⟨0, by omega, by omega, rfl, rfl⟩
 ·rintro n e1 H1 ⟨i, hn, hi, rfl, rfl⟩
  refine Q2 ?_
  refine Qa ?_
  simp only [go_sem, reduceIte, reduceEqDiff, reduceAdd, reduceLeDiff, reduceLT, reduceCtorEq]
  intro hl
  simp only [LIM] at hl
  refine Qg (Qd rfl ?_ ?_)
  ·intro hc
   have hlt : i < s.length := by simpa using hc
   refine Qf ?_
   simp only [go_sem]
   refine Qg (Qc ?_)
   refine Qa ?_
   simp only [go_sem, hlt, reduceIte, reduceEqDiff, reduceAdd, reduceLeDiff, reduceLT, reduceCtorEq]
   refine Qd rfl ?_ ?_
   ·intro hc2
    refine Qa ?_
    simp only [go_sem, reduceIte, reduceEqDiff, reduceAdd, reduceLeDiff, reduceLT, reduceCtorEq]
    refine Qj ?_
    simp only [go_sem, X.next, Qz, Q9, Q7n, reduceIte, List.mem_singleton, forall_eq, RS.op, reduceIte, reduceEqDiff, reduceAdd, reduceLeDiff, reduceLT, reduceCtorEq]
    exact hK _
   ·intro hc2
    refine Qf ?_
    simp only [go_sem]
    refine Qp ?_
    simp only [go_sem, X.next, reduceIte, reduceEqDiff, reduceAdd, reduceLeDiff, reduceLT, reduceCtorEq]
    exact ⟨Qn (by omega) (by omega), s.length - (i + 1), by omega, i + 1, rfl, by omega, rfl⟩
  ·intro hc
   refine Qs ?_
   simp only [go_sem, X.next]
   refine Qa ?_
   simp only [go_sem, reduceIte, reduceEqDiff, reduceAdd, reduceLeDiff, reduceLT, reduceCtorEq]
   refine Qj ?_
   simp only [go_sem, Qz, Q9, Q7n, reduceIte, List.mem_singleton, forall_eq, RS.op, reduceIte, reduceEqDiff, reduceAdd, reduceLeDiff, reduceLT, reduceCtorEq]
   exact hK _
theorem Qa2s {b : UInt8} (hK : ∀ n : Int, K (.c (.int .i64 n)) H) : Qo prog Qx2 [.c (.int .u8 b.toNat)] H K := by
 refine Qb Qas Qa29 ?_
 refine Qa ?_
 simp only [go_sem, reduceIte, reduceEqDiff, reduceAdd, reduceLeDiff, reduceLT, reduceCtorEq]
 refine Qg (Qc ?_)
 refine Qa ?_
 simp only [go_sem, reduceIte, reduceEqDiff, reduceAdd, reduceLeDiff, reduceLT, reduceCtorEq]
 refine Qd rfl ?_ ?_
 ·intro hc
  refine Qa ?_
  simp only [go_sem, reduceIte, reduceEqDiff, reduceAdd, reduceLeDiff, reduceLT, reduceCtorEq]
  refine Qj ?_
  simp only [go_sem, Qz, Q9, Qjg, reduceIte, List.mem_singleton, forall_eq, RS.op, reduceIte, reduceEqDiff, reduceAdd, reduceLeDiff, reduceLT, reduceCtorEq]
  exact hK _
 intro hc
 refine Qa ?_
 simp only [go_sem, reduceIte, reduceEqDiff, reduceAdd, reduceLeDiff, reduceLT, reduceCtorEq]
 refine Qd rfl ?_ ?_
 ·intro hc
  refine Qa ?_
  simp only [go_sem, reduceIte, reduceEqDiff, reduceAdd, reduceLeDiff, reduceLT, reduceCtorEq]
  refine Qj ?_
  simp only [go_sem, Qz, Q9, Qjg, reduceIte, List.mem_singleton, forall_eq, RS.op, reduceIte, reduceEqDiff, reduceAdd, reduceLeDiff, reduceLT, reduceCtorEq]
  exact hK _
 intro hc
 refine Qa ?_
 simp only [go_sem, reduceIte, reduceEqDiff, reduceAdd, reduceLeDiff, reduceLT, reduceCtorEq]
 refine Qa2u fun n => ?_
 simp only [go_sem, Q16, reduceIte, reduceEqDiff, reduceAdd, reduceLeDiff, reduceLT, reduceCtorEq]
 refine Qd rfl ?_ ?_
 ·intro hc
  refine Qa ?_
  simp only [go_sem, reduceIte, reduceEqDiff, reduceAdd, reduceLeDiff, reduceLT, reduceCtorEq]
  refine Qj ?_
  simp only [go_sem, Qz, Q9, Qjg, reduceIte, List.mem_singleton, forall_eq, RS.op, reduceIte, reduceEqDiff, reduceAdd, reduceLeDiff, reduceLT, reduceCtorEq]
  exact hK _
 intro hc
 refine Qa ?_
 simp only [go_sem, reduceIte, reduceEqDiff, reduceAdd, reduceLeDiff, reduceLT, reduceCtorEq]
 refine Qd rfl ?_ ?_
 ·intro hc
  refine Qa ?_
  simp only [go_sem, reduceIte, reduceEqDiff, reduceAdd, reduceLeDiff, reduceLT, reduceCtorEq]
  refine Qj ?_
  simp only [go_sem, Qz, Q9, Qjg, reduceIte, List.mem_singleton, forall_eq, RS.op, reduceIte, reduceEqDiff, reduceAdd, reduceLeDiff, reduceLT, reduceCtorEq]
  exact hK _
 intro hc
 refine Qf ?_
 simp only [go_sem]
 refine Qa ?_
 simp only [go_sem, reduceIte, reduceEqDiff, reduceAdd, reduceLeDiff, reduceLT, reduceCtorEq]
 refine Qj ?_
 simp only [go_sem, Qz, Q9, Qjg, reduceIte, List.mem_singleton, forall_eq, RS.op, reduceIte, reduceEqDiff, reduceAdd, reduceLeDiff, reduceLT, reduceCtorEq]
 exact hK _
theorem Qa98 {s : List UInt8} {k : Int} (hK : ∀ b : Bool, K (.c (.bool b)) H) : Qo prog Qaiw [.c (.str s), .c (.int .i64 k)] H K := by
 refine Qb Qas Qbak ?_
 refine Qa ?_
 simp only [go_sem, reduceIte, reduceEqDiff, reduceAdd, reduceLeDiff, reduceLT, reduceCtorEq]
 refine Q2 ?_
 refine Qa ?_
 simp only [go_sem, reduceIte, reduceEqDiff, reduceAdd, reduceLeDiff, reduceLT, reduceCtorEq]
 refine Qg (Qc (Qt (fun n e1 H1 => ∃ i : Nat, n = s.length - i ∧ i ≤ s.length ∧ H1 = H ∧ e1 = [(0, .c (.str s)), (1, .c (.int .i64 k)), (5, .c (.int .i64 i))]) s.length ?_ ?_))
 ·exact ⟨0, by omega, by omega, rfl, rfl⟩
 ·rintro n e1 H1 ⟨i, hn, hi, rfl, rfl⟩
  refine Q2 ?_
  refine Qa ?_
  simp only [go_sem, reduceIte, reduceEqDiff, reduceAdd, reduceLeDiff, reduceLT, reduceCtorEq]
  intro hl
  simp only [LIM] at hl
  refine Qg (Qd rfl ?_ ?_)
  ·intro hc
   have hlt : i < s.length := by simpa using hc
   refine Qf ?_
   simp only [go_sem]
   refine Qg (Qc ?_)
   refine Qa ?_
   simp only [go_sem, hlt, reduceIte, reduceEqDiff, reduceAdd, reduceLeDiff, reduceLT, reduceCtorEq]
   refine Qa2s fun cl => ?_
   simp only [go_sem, Qah8, reduceIte, reduceEqDiff, reduceAdd, reduceLeDiff, reduceLT, reduceCtorEq]
   refine Qd rfl ?_ ?_
   ·intro hc2
    refine Qa ?_
    simp only [go_sem, reduceIte, reduceEqDiff, reduceAdd, reduceLeDiff, reduceLT, reduceCtorEq]
    refine Qj ?_
    simp only [go_sem, X.next, Qz, Q9, Qar9, reduceIte, List.mem_singleton, forall_eq, RS.op, reduceIte, reduceEqDiff, reduceAdd, reduceLeDiff, reduceLT, reduceCtorEq]
    exact hK _
   ·intro hc2
    refine Qf ?_
    simp only [go_sem]
    refine Qp ?_
    simp only [go_sem, X.next, reduceIte, reduceEqDiff, reduceAdd, reduceLeDiff, reduceLT, reduceCtorEq]
    exact ⟨Qn (by omega) (by omega), s.length - (i + 1), by omega, i + 1, rfl, by omega, rfl⟩
  ·intro hc
   refine Qs ?_
   simp only [go_sem, X.next]
   refine Qa ?_
   simp only [go_sem, reduceIte, reduceEqDiff, reduceAdd, reduceLeDiff, reduceLT, reduceCtorEq]
   intro _
   refine Qj ?_
   simp only [go_sem, Qz, Q9, Qar9, reduceIte, List.mem_singleton, forall_eq, RS.op, reduceIte, reduceEqDiff, reduceAdd, reduceLeDiff, reduceLT, reduceCtorEq]
   exact hK _
theorem Qayl (hK : ∀ ss : List (List UInt8), K (.c (.sl true 1 (Qbd ss))) H) : Qo prog Qic [] H K := by
 refine Qb Qas Qajo ?_
 refine Qa ?_
 simp only [go_sem, reduceIte, reduceEqDiff, reduceAdd, reduceLeDiff, reduceLT, reduceCtorEq]
 refine Qa ?_
 simp only [go_sem, reduceIte, reduceEqDiff, reduceAdd, reduceLeDiff, reduceLT, reduceCtorEq]
 refine Qj ?_
 simp only [go_sem, Qz, Q9, Qvd, reduceIte, List.mem_singleton, forall_eq, RS.op, reduceIte, reduceEqDiff, reduceAdd, reduceLeDiff, reduceLT, reduceCtorEq]
 exact hK [[102, 110], [108, 101, 116], [115, 97, 121], [112, 117, 116], [105, 102], [101, 108, 115, 101], [108, 111, 111, 112], [98, 97, 99, 107], [100, 111]]
theorem Qa99 {s : List UInt8} (hK : ∀ b : Bool, K (.c (.bool b)) H) : Qo prog Qaix [.c (.str s)] H K := by
 refine Qb Qas Qbal ?_
 refine Qa ?_
 simp only [go_sem, reduceIte, reduceEqDiff, reduceAdd, reduceLeDiff, reduceLT, reduceCtorEq]
 refine Qa ?_
 simp only [go_sem, reduceIte, reduceEqDiff, reduceAdd, reduceLeDiff, reduceLT, reduceCtorEq]
 refine Qayl fun ss => ?_
 simp only [go_sem, Qah9, reduceIte, reduceEqDiff, reduceAdd, reduceLeDiff, reduceLT, reduceCtorEq]
 refine Q2 ?_
 refine Qa ?_
 simp only [go_sem, reduceIte, reduceEqDiff, reduceAdd, reduceLeDiff, reduceLT, reduceCtorEq]
 refine Qg (Qc (Qt (fun n e1 H1 => ∃ i : Nat, n = ss.length - i ∧ i ≤ ss.length ∧ H1 = H ∧ e1 = [(0, .c (.str s)), (3, .c (.sl true 1 (Qbd ss))), (4, .c (.int .i64 i))]) ss.length ?_ ?_))
 ·exact ⟨0, by omega, by omega, rfl, rfl⟩
 ·rintro n e1 H1 ⟨i, hn, hi, rfl, rfl⟩
  refine Q2 ?_
  refine Qa ?_
  simp only [go_sem, Qao, reduceIte, reduceEqDiff, reduceAdd, reduceLeDiff, reduceLT, reduceCtorEq]
  intro hl
  simp only [LIM] at hl
  refine Qg (Qd rfl ?_ ?_)
  ·intro hc
   have hlt : i < ss.length := by simpa using hc
   refine Qf ?_
   simp only [go_sem]
   refine Qg (Qc ?_)
   refine Qa ?_
   simp only [go_sem, hlt, Qao, Qgq _ _ hlt, reduceIte, reduceEqDiff, reduceAdd, reduceLeDiff, reduceLT, reduceCtorEq]
   refine Qd rfl ?_ ?_
   ·intro hc2
    refine Qa ?_
    simp only [go_sem, reduceIte, reduceEqDiff, reduceAdd, reduceLeDiff, reduceLT, reduceCtorEq]
    refine Qj ?_
    simp only [go_sem, X.next, Qz, Q9, Qasa, reduceIte, List.mem_singleton, forall_eq, RS.op, reduceIte, reduceEqDiff, reduceAdd, reduceLeDiff, reduceLT, reduceCtorEq]
    exact hK _
   ·intro hc2
    refine Qf ?_
    simp only [go_sem]
    refine Qp ?_
    simp only [go_sem, X.next, reduceIte, reduceEqDiff, reduceAdd, reduceLeDiff, reduceLT, reduceCtorEq]
    exact ⟨Qn (by omega) (by omega), ss.length - (i + 1), by omega, i + 1, rfl, by omega, rfl⟩
  ·intro hc
   refine Qs ?_
   simp only [go_sem, X.next]
   refine Qa ?_
   simp only [go_sem, reduceIte, reduceEqDiff, reduceAdd, reduceLeDiff, reduceLT, reduceCtorEq]
   refine Qj ?_
   simp only [go_sem, Qz, Q9, Qasa, reduceIte, List.mem_singleton, forall_eq, RS.op, reduceIte, reduceEqDiff, reduceAdd, reduceLeDiff, reduceLT, reduceCtorEq]
   exact hK _
theorem Q5q {s : List UInt8} (hK : ∀ b : Bool, K (.c (.bool b)) H) : Qo prog Qc4 [.c (.str s)] H K := by
 refine Qb Qas Qar1 ?_
 refine Qa ?_
 simp only [go_sem, reduceIte, reduceEqDiff, reduceAdd, reduceLeDiff, reduceLT, reduceCtorEq]
 refine Qa ?_
 simp only [go_sem, reduceIte, reduceEqDiff, reduceAdd, reduceLeDiff, reduceLT, reduceCtorEq]
 refine Qa98 fun b => ?_
 simp only [go_sem, Qs4, reduceIte, reduceEqDiff, reduceAdd, reduceLeDiff, reduceLT, reduceCtorEq]
 intro hl
 refine ⟨fun hb => ?_, fun hb => ?_⟩
 ·refine Qa99 fun b2 => ?_
  simp only [go_sem, Qiy, reduceIte, reduceEqDiff, reduceAdd, reduceLeDiff, reduceLT, reduceCtorEq]
  refine Qj ?_
  simp only [go_sem, Qz, Q9, Qtk, reduceIte, List.mem_singleton, forall_eq, RS.op, reduceIte, reduceEqDiff, reduceAdd, reduceLeDiff, reduceLT, reduceCtorEq]
  exact hK _
 ·simp only [go_sem, Qiy, hb, reduceIte, reduceEqDiff, reduceAdd, reduceLeDiff, reduceLT, reduceCtorEq]
  refine Qj ?_
  simp only [go_sem, Qz, Q9, Qtk, reduceIte, List.mem_singleton, forall_eq, RS.op, reduceIte, reduceEqDiff, reduceAdd, reduceLeDiff, reduceLT, reduceCtorEq]
  exact hK _
theorem Qa6o {op : Int} (hK : ∀ a b : Int, K (.tup [.c (.int .i64 a), .c (.int .i64 b)]) H) : Qo prog Q6j [.c (.int .i64 op)] H K := by
 refine Qb Qas Qa64 ?_
 refine Qa ?_
 simp only [go_sem, reduceIte, reduceEqDiff, reduceAdd, reduceLeDiff, reduceLT, reduceCtorEq]
 refine Q2 ?_
 refine Qa ?_
 simp only [go_sem, reduceIte, reduceEqDiff, reduceAdd, reduceLeDiff, reduceLT, reduceCtorEq]
 have ret : ∀ (a b : Int) (e : Env), lk 2 e = .c (.int .i64 a) → lk 3 e = .c (.int .i64 b) → Qz Qu6 K .ret e H := by
  intro a b e h1 h2
  simp only [go_sem, Qz, Q9, Qu6, List.forall_mem_cons, RS.op, h1, h2, reduceIte, reduceEqDiff, reduceAdd, reduceLeDiff, reduceLT, reduceCtorEq]
  exact hK _ _
 refine Qg (Qc ?_)
 refine Q2 ?_
 refine Qa ?_
 simp only [go_sem, reduceIte, reduceEqDiff, reduceAdd, reduceLeDiff, reduceLT, reduceCtorEq]
 have r5 : ∀ (b : Bool), Qae prog Qaib (X.inBlock 0 (X.sq prog Qy8 (Qz Qu6 K))) [(4, .c (.int .i64 op)), (5, .c (.bool b))] H := by
  intro b
  refine Qd rfl ?_ ?_
  ·intro hc
   refine Qa ?_
   simp only [go_sem, reduceIte, reduceEqDiff, reduceAdd, reduceLeDiff, reduceLT, reduceCtorEq]
   refine Qj ?_
   simp only [go_sem]
   exact ret 0 0 _ (by simp [lk]) (by simp [lk])
  intro hc
  refine Q2 ?_
  refine Qa ?_
  simp only [go_sem, reduceIte, reduceEqDiff, reduceAdd, reduceLeDiff, reduceLT, reduceCtorEq]
  have r8 : ∀ (b : Bool), Qae prog Qaia (X.inBlock 0 (X.sq prog Qy8 (Qz Qu6 K))) [(4, .c (.int .i64 op)), (8, .c (.bool b))] H := by
   intro b
   refine Qd rfl ?_ ?_
   ·intro hc
    refine Qa ?_
    simp only [go_sem, reduceIte, reduceEqDiff, reduceAdd, reduceLeDiff, reduceLT, reduceCtorEq]
    refine Qj ?_
    simp only [go_sem]
    exact ret 1 1 _ (by simp [lk]) (by simp [lk])
   intro hc
   refine Qa ?_
   simp only [go_sem, reduceIte, reduceEqDiff, reduceAdd, reduceLeDiff, reduceLT, reduceCtorEq]
   refine Qd rfl ?_ ?_
   ·intro hc
    refine Qa ?_
    simp only [go_sem, reduceIte, reduceEqDiff, reduceAdd, reduceLeDiff, reduceLT, reduceCtorEq]
    refine Qj ?_
    simp only [go_sem]
    exact ret 0 3 _ (by simp [lk]) (by simp [lk])
   ·intro hc
    refine Qf ?_
    simp only [go_sem]
    refine Qa ?_
    simp only [go_sem, reduceIte, reduceEqDiff, reduceAdd, reduceLeDiff, reduceLT, reduceCtorEq]
    refine Qj ?_
    exact ret 2 2 _ (by simp [lk]) (by simp [lk])
  refine Qg (Qd rfl ?_ ?_)
  ·intro hc
   refine Qf ?_
   simp only [go_sem]
   exact r8 _
  ·intro hc
   refine Qp ?_
   simp only [go_sem, reduceIte, reduceEqDiff, reduceAdd, reduceLeDiff, reduceLT, reduceCtorEq]
   exact r8 _
 refine Qg (Qd rfl ?_ ?_)
 ·intro hc
  refine Qf ?_
  simp only [go_sem]
  exact r5 _
 ·intro hc
  refine Qp ?_
  simp only [go_sem, reduceIte, reduceEqDiff, reduceAdd, reduceLeDiff, reduceLT, reduceCtorEq]
  exact r5 _
theorem Qa6q {op : Int} (hK : K (.c (.int .i64 (if op = 4 then 2 else 1))) H) : Qo prog Q6l [.c (.int .i64 op)] H K := by
 refine Qb Qas Qa66 ?_
 refine Qa ?_
 simp only [go_sem, reduceIte, reduceEqDiff, reduceAdd, reduceLeDiff, reduceLT, reduceCtorEq]
 refine Q2 ?_
 refine Qa ?_
 simp only [go_sem, reduceIte, reduceEqDiff, reduceAdd, reduceLeDiff, reduceLT, reduceCtorEq]
 refine Qg (Qd rfl ?_ ?_)
 ·intro hc
  refine Qa ?_
  simp only [go_sem, reduceIte, reduceEqDiff, reduceAdd, reduceLeDiff, reduceLT, reduceCtorEq]
  refine Qj ?_
  simp only [go_sem, Qz, Q9, Qajw, reduceIte, List.mem_singleton, forall_eq, RS.op, reduceIte, reduceEqDiff, reduceAdd, reduceLeDiff, reduceLT, reduceCtorEq]
  rw [if_pos (by simpa using hc)] at hK; exact hK
 ·intro hc
  refine Qf ?_
  simp only [go_sem]
  refine Qa ?_
  simp only [go_sem, reduceIte, reduceEqDiff, reduceAdd, reduceLeDiff, reduceLT, reduceCtorEq]
  refine Qj ?_
  simp only [go_sem, Qz, Q9, Qajw, reduceIte, List.mem_singleton, forall_eq, RS.op, reduceIte, reduceEqDiff, reduceAdd, reduceLeDiff, reduceLT, reduceCtorEq]
  rw [if_neg (by simpa using hc)] at hK; exact hK
end Go.AE.Y

namespace Go.AE.Y
open Go.Proofs.Tryz
variable {H : Heap} {K : V → Heap → Prop}
end Go.AE.Y
namespace Go.AE
open Go.AE.Y
open Go.Proofs.Tryz
variable {H : Heap} {K : V → Heap → Prop}
theorem Slc.keep {H' : Heap} {sz : Nat} {rows : List (List C)} {b : C} {E L : List (Nat × Obj)} (h : Slc H sz rows b) (kn : Kn H H' E L) (hE : ∀ l a c d, b = .vsl l a c d → l ∉ E.map Prod.fst) : Slc H' sz rows b := by
 obtain ⟨h1, h2, h3, h4⟩ := h
 cases b with
 | sl fl z rs => exact ⟨trivial, h2, h3, h4⟩
 | vsl l z st n =>
  simp only [Go.AE.okSl] at h1
  cases ho : H l with
  | vec y rs =>
   have := kn.chg l (by rw [ho]; simp) (hE l z st n rfl)
   refine ⟨?_, h2, ?_, h4⟩
   ·simp only [Go.AE.okSl, this]; exact h1
   ·simp only [Go.AE.rowsOf, this]; exact h3
  | _ => rw [ho] at h1; exact h1.elim
 | _ => exact h1.elim
end Go.AE
namespace Go.AE.Y
open Go.Proofs.Tryz
variable {H : Heap} {K : V → Heap → Prop}
end Go.AE.Y
namespace Go.AE
open Go.AE.Y
open Go.Proofs.Tryz
variable {H : Heap} {K : V → Heap → Prop}
theorem Slc.keep0 {H' : Heap} {sz : Nat} {rows : List (List C)} {b : C} {L : List (Nat × Obj)} (h : Slc H sz rows b) (kn : Kn H H' [] L) : Slc H' sz rows b := h.keep kn (by simp)
end Go.AE
namespace Go.AE.Y
open Go.Proofs.Tryz
variable {H : Heap} {K : V → Heap → Prop}
def Qam (nx : Nat → List Int) (b : Int) (n : Nat) : List Int := ((List.range n).filter fun i => (nx i).contains b).map Int.ofNat
theorem Qg5 (nx : Nat → List Int) (b : Int) (n : Nat) : Qam nx b (n + 1) = Qam nx b n ++ if (nx n).contains b then [(n : Int)] else [] := by
 simp only [Qam, List.range_succ, List.filter_append, List.map_append]
 congr 1
 cases h : (nx n).contains b
 ·simp only [List.filter_cons, h, List.filter_nil]; rfl
 ·simp only [List.filter_cons, h, List.filter_nil, if_true]; rfl
theorem Qk0 (nx : Nat → List Int) (b : Int) (n : Nat) : (Qam nx b n).length ≤ n := by
 simp only [Qam, List.length_map]
 exact Nat.le_trans (List.length_filter_le _ _) (by simp)
set_option maxHeartbeats 1000000 in
theorem Q62 {p rg : Int} {bc : C} {rows : List (List C)} {nx : Nat → List Int} {b : Int} (hs : Slc H 5 rows bc) (how : bc.isOw = false)
  (hx : ∀ i, i < rows.length → ∃ a1 a2 a3 a4 fl, rows.getD i [] = [a1, a2, a3, a4, .sl fl 1 (Qh (nx i))])
  (hK : ∀ H', Upd H H' [] → K (.c (.sl false 1 (Qh (Qam nx b rows.length)))) H') : Qo prog Qi8 [.ag [.int .i64 p, .int .i64 rg, bc], .c (.int .i64 b)] H K := by
 refine Q0 ?_
 refine Qb Qas Qa3i ?_
 refine Qa ?_
 simp only [go_sem, reduceIte, reduceEqDiff, reduceAdd, reduceLeDiff, reduceLT, reduceCtorEq]
 refine Qa ?_
 simp only [go_sem, reduceIte, reduceEqDiff, reduceAdd, reduceLeDiff, reduceLT, reduceCtorEq]
 refine Q2 ?_
 refine Qa ?_
 simp only [go_sem, reduceIte, reduceEqDiff, reduceAdd, reduceLeDiff, reduceLT, reduceCtorEq]
 have hlen := hs.len
 have hesz := hs.sz
 refine Qg (Qc (Qt (fun n e1 H1 => ∃ (i : Nat) (c : C) (Lg : List (Nat × Obj)), n = rows.length - i ∧ i ≤ rows.length ∧ Gr Lg 1 (Qh (Qam nx b i)) c ∧ Kn H H1 [] ([] ++ Lg) ∧
  e1 = [(1, .c (.int .i64 b)), (2, .c (.pp [.int .i64 p, .int .i64 rg, bc])), (5, .c c), (6, .c (.int .i64 i))]) rows.length ?_ ?_))
 ·exact ⟨0, _, [], by omega, by omega, .nil 1, Kn.start0 H, rfl⟩
 ·rintro n e1 H1 ⟨i, c, Lg, hn1, hi, hgr, kn, rfl⟩
  have hs1 := hs.keep0 kn
  have hok1 := eq_true hs1.ok
  have hrw1 := hs1.rows
  refine Q2 ?_
  refine Qa ?_
  simp only [go_sem, how, hok1, hlen, reduceIte, reduceEqDiff, reduceAdd, reduceLeDiff, reduceLT, reduceCtorEq]
  intro hl
  simp only [LIM] at hl
  refine Qg (Qd rfl ?_ ?_)
  ·intro hc
   have hlt : i < rows.length := by simpa using hc
   obtain ⟨a1, a2, a3, a4, fl, hrow⟩ := hx i hlt
   refine Qf ?_
   simp only [go_sem]
   have turn : ∀ (e : Env) (H2 : Heap) (c' : C) (Lg' : List (Nat × Obj)), lk 1 e = .c (.int .i64 b) → lk 2 e = .c (.pp [.int .i64 p, .int .i64 rg, bc]) → lk 5 e = .c c' → lk 6 e = .c (.int .i64 i) →
     Gr Lg' 1 (Qh (Qam nx b (i + 1))) c' → Kn H H2 [] ([] ++ Lg') →
     Qae prog Qaa1 (X.next (fun e2 H2 => ∃ m, m < n ∧ ∃ (i : Nat) (c : C) (Lg : List (Nat × Obj)), m = rows.length - i ∧ i ≤ rows.length ∧ Gr Lg 1 (Qh (Qam nx b i)) c ∧ Kn H H2 [] ([] ++ Lg) ∧
      e2 = [(1, .c (.int .i64 b)), (2, .c (.pp [.int .i64 p, .int .i64 rg, bc])), (5, .c c), (6, .c (.int .i64 i))]) (X.inBlock 0 (X.sq prog Qaa2 (Qz Q7u fun x H' => ∃ x', FrzV H' (un H) x x' ∧ K x' (H'.frz (un H)))))) e H2 := by
    intro e H2 c' Lg' l1 l2 l5 l6 hg' kn'
    refine Qp ?_
    simp only [go_sem, l1, l2, l5, l6, X.next, reduceIte, reduceEqDiff, reduceAdd, reduceLeDiff, reduceLT, reduceCtorEq]
    exact ⟨Qn (by omega) (by omega), rows.length - (i + 1), by omega, i + 1, c', Lg', rfl, by omega, hg', by simpa using kn', rfl⟩
   refine Qg (Qc ?_)
   refine Qa ?_
   simp only [go_sem, reduceIte, reduceEqDiff, reduceAdd, reduceLeDiff, reduceLT, reduceCtorEq]
   refine Qc (Qt (fun n e1 H2 => ∃ (k : Nat), n = (nx i).length - k ∧ k ≤ (nx i).length ∧ b ∉ (nx i).take k ∧ H2 = H1 ∧ e1 = [(1, .c (.int .i64 b)), (2, .c (.pp [.int .i64 p, .int .i64 rg, bc])), (5, .c c), (6, .c (.int .i64 i)), (7, .c (.int .i64 k))]) (nx i).length ?_ ?_)
   ·exact ⟨0, by omega, by omega, by simp, rfl, rfl⟩
   ·rintro n e1 H2 ⟨k, hn2, hk, hno, rfl, rfl⟩
    refine Q2 ?_
    refine Qa ?_
    simp only [go_sem, how, hok1, hlen, hesz, hrw1, hlt, hrow, Qe, reduceIte, reduceEqDiff, reduceAdd, reduceLeDiff, reduceLT, reduceCtorEq]
    intro hl2
    simp only [LIM] at hl2
    refine Qg (Qd rfl ?_ ?_)
    ·intro hc
     have hlt2 : k < (nx i).length := by simpa using hc
     have hgd : (nx i).getD k 0 = (nx i)[k] := by simp [List.getD_eq_getElem?_getD, hlt2]
     refine Qf ?_
     simp only [go_sem]
     refine Qg (Qc ?_)
     refine Qa ?_
     simp only [go_sem, how, hok1, hlen, hesz, hrw1, hlt, hrow, hlt2, Qe, Qx _ _ hlt2, hgd, reduceIte, reduceEqDiff, reduceAdd, reduceLeDiff, reduceLT, reduceCtorEq]
     refine Qd rfl ?_ ?_
     ·intro hc2
      have hb : (nx i)[k] = b := by simpa using hc2
      have hcon : (nx i).contains b = true := by rw [List.contains_iff_mem, ← hb]; exact List.getElem_mem hlt2
      refine Qa ?_
      simp only [go_sem, reduceIte, reduceEqDiff, reduceAdd, reduceLeDiff, reduceLT, reduceCtorEq]
      have hpl := Qk0 nx b i
      refine kn.grow (B := []) (new := Qh [(i : Int)]) hgr (.mk' _ _ _ _) (Q6 _) (by simp only [Qe, LIM, List.length_cons, List.length_nil]; omega) fun y' H3 kn => ?_
      simp only [go_sem, Q22, reduceIte, reduceEqDiff, reduceAdd, reduceLeDiff, reduceLT, reduceCtorEq]
      refine Qs ?_
      have hib : ((2 : Nat) == 3) = false := rfl
      rw [Qa59 hib]
      simp only [go_sem, X.next]
      refine turn _ _ _ _ (by simp [lk]) (by simp [lk]) (by simp [lk]; rfl) (by simp [lk]) ?_ kn
      rw [Qg5, hcon, if_pos rfl, Qc5]
      exact .mk _ _ _ (by simp)
     ·intro hc2
      have hb : ¬ (nx i)[k] = b := by simpa using hc2
      refine Qf ?_
      simp only [go_sem]
      refine Qp ?_
      simp only [go_sem, X.next, reduceIte, reduceEqDiff, reduceAdd, reduceLeDiff, reduceLT, reduceCtorEq]
      refine ⟨Qn (by omega) (by omega), (nx i).length - (k + 1), by omega, k + 1, rfl, by omega, ?_, rfl⟩
      rw [List.take_succ_eq_append_getElem hlt2]
      simp only [List.mem_append, List.mem_singleton, not_or]
      exact ⟨hno, fun h => hb h.symm⟩
    ·intro hc
     have hge : (nx i).length ≤ k := by simpa using hc
     rw [List.take_of_length_le hge] at hno
     have hcon : (nx i).contains b = false := by
      cases hcc : (nx i).contains b with
      | false => rfl
      | true => exact absurd (List.contains_iff_mem.1 hcc) hno
     refine Qs ?_
     simp only [go_sem, X.next]
     refine turn _ _ _ _ (by simp [lk]) (by simp [lk]) (by simp [lk]; rfl) (by simp [lk]) ?_ kn
     rw [Qg5, hcon]
     simpa using hgr
  ·intro hc
   have hge : i = rows.length := by have : rows.length ≤ i := (by simpa using hc); omega
   subst hge
   refine Qs ?_
   simp only [go_sem, X.next]
   refine Qa ?_
   simp only [go_sem, reduceIte, reduceEqDiff, reduceAdd, reduceLeDiff, reduceLT, reduceCtorEq]
   refine Qj ?_
   simp only [go_sem, Qz, Q9, Q7u, reduceIte, List.mem_singleton, forall_eq, RS.op, reduceIte, reduceEqDiff, reduceAdd, reduceLeDiff, reduceLT, reduceCtorEq]
   exact ⟨_, .c _ _ (hgr.frz kn (Q6 _)), hK _ kn.fin⟩
end Go.AE.Y

namespace Go.AE.Y
open Go.Proofs.Tryz
variable {H : Heap} {K : V → Heap → Prop}
def Qs6 (op : Int) : Int := if op = 1 then 0 else if op = 2 ∨ op = 10 ∨ op = 11 ∨ op = 13 then 1 else if (3 ≤ op ∧ op ≤ 9) ∨ op = 12 then 2 else -1
theorem Qaxu {op : Int} (hK : K (.c (.int .i64 (Qs6 op))) H) : Qo prog Qom [.c (.int .i64 op)] H K := by
 refine Qb Qas Qa69 ?_
 have retf : ∀ (n : Int) (e : Env), Qs6 op = n → lk 2 e = .c (.int .i64 n) → Qz Qajy K .ret e H := by
  intro b e h1 h3
  simp only [go_sem, Qz, Q9, Qajy, List.mem_singleton, forall_eq, RS.op, h3, reduceIte, reduceEqDiff, reduceAdd, reduceLeDiff, reduceLT, reduceCtorEq]
  rw [← h1]; exact hK
 refine Qa ?_
 simp only [go_sem, reduceIte, reduceEqDiff, reduceAdd, reduceLeDiff, reduceLT, reduceCtorEq]
 refine Qg (Qc ?_)
 refine Qa ?_
 simp only [go_sem, reduceIte, reduceEqDiff, reduceAdd, reduceLeDiff, reduceLT, reduceCtorEq]
 refine Qd rfl ?_ ?_
 ·intro hc
  refine Qa ?_
  simp only [go_sem, reduceIte, reduceEqDiff, reduceAdd, reduceLeDiff, reduceLT, reduceCtorEq]
  refine Qj ?_
  simp only [go_sem]
  exact retf 0 _ (by simp only [decide_eq_true_eq] at hc; simp [Qs6, hc]) (by simp [lk])
 intro hc1
 refine Qa ?_
 simp only [go_sem, reduceIte, reduceEqDiff, reduceAdd, reduceLeDiff, reduceLT, reduceCtorEq]
 refine Qd rfl ?_ ?_
 ·intro hc
  refine Qa ?_
  simp only [go_sem, reduceIte, reduceEqDiff, reduceAdd, reduceLeDiff, reduceLT, reduceCtorEq]
  refine Qj ?_
  simp only [go_sem]
  exact retf 1 _ (by simp at hc1 hc; rw [Qs6, if_neg hc1, if_pos (by omega)]) (by simp [lk])
 intro hc2
 refine Qa ?_
 simp only [go_sem, reduceIte, reduceEqDiff, reduceAdd, reduceLeDiff, reduceLT, reduceCtorEq]
 refine Qc6 ?_
 simp only [go_sem, Qaac, reduceIte, reduceEqDiff, reduceAdd, reduceLeDiff, reduceLT, reduceCtorEq]
 refine Qd rfl ?_ ?_
 ·intro hc
  refine Qa ?_
  simp only [go_sem, reduceIte, reduceEqDiff, reduceAdd, reduceLeDiff, reduceLT, reduceCtorEq]
  refine Qj ?_
  simp only [go_sem]
  exact retf 2 _ (by simp at hc1 hc2 hc; rw [Qs6, if_neg hc1, if_neg (by omega), if_pos (by omega)]) (by simp [lk])
 ·intro hc
  refine Qf ?_
  simp only [go_sem]
  refine Qa ?_
  simp only [go_sem, reduceIte, reduceEqDiff, reduceAdd, reduceLeDiff, reduceLT, reduceCtorEq]
  refine Qj ?_
  exact retf (-1) _ (by simp at hc1 hc2 hc; rw [Qs6, if_neg hc1, if_neg (by omega), if_neg (by omega)]) (by simp [lk])
theorem argsN_in {op : Int} : -1 ≤ Qs6 op ∧ Qs6 op ≤ 2 := by
 rw [Qs6]; split
 ·omega
 ·split
  ·omega
  ·split <;> omega
theorem Qa2x {op : Int} (hK : ∀ n : Int, -1 ≤ n → n ≤ 2 → K (.c (.int .i64 n)) H) : Qo prog Qom [.c (.int .i64 op)] H K := Qaxu (hK _ argsN_in.1 argsN_in.2)
def Qdl (op : Int) : Bool := decide (1 ≤ op ∧ op ≤ 14) && !decide (op = 12) && !decide (op = 13)
theorem Qux {op : Int} (hK : K (.c (.bool (Qdl op))) H) : Qo prog Qfi [.c (.int .i64 op)] H K := by
 refine Qb Qas Qa3h ?_
 refine Qa ?_
 simp only [go_sem, reduceIte, reduceEqDiff, reduceAdd, reduceLeDiff, reduceLT, reduceCtorEq]
 refine Qa ?_
 simp only [go_sem, reduceIte, reduceEqDiff, reduceAdd, reduceLeDiff, reduceLT, reduceCtorEq]
 refine Qc6 ?_
 simp only [go_sem, Q21, reduceIte, reduceEqDiff, reduceAdd, reduceLeDiff, reduceLT, reduceCtorEq]
 refine Qj ?_
 simp only [go_sem, Qz, Q9, Qano, reduceIte, List.mem_singleton, forall_eq, RS.op, reduceIte, reduceEqDiff, reduceAdd, reduceLeDiff, reduceLT, reduceCtorEq]
 have : ∀ a b c : Bool, (bif bif a then b else false then c else false) = (a && b && c) := by decide
 rw [this]; exact hK
def Qo5 (rg : Int) (l : List Int) : Bool := l.all fun x => decide (0 ≤ x ∧ x ≤ rg - 1)
theorem Qazj {rg : Int} {l : List Int} {i : Nat} (hi : i < l.length) : Qo5 rg (l.take (i + 1)) = (Qo5 rg (l.take i) && decide (0 ≤ l.getD i 0 ∧ l.getD i 0 ≤ rg - 1)) := by
 have e : l.getD i 0 = l[i] := by simp [List.getD_eq_getElem?_getD, hi]
 rw [Qo5, List.take_succ_eq_append_getElem hi, List.all_append, e]; simp [Qo5]
theorem Qa3v {rg : Int} {l : List Int} {i : Nat} (hi : i < l.length) (h : decide (0 ≤ l.getD i 0 ∧ l.getD i 0 ≤ rg - 1) = false) : Qo5 rg l = false := by
 have e : l.getD i 0 = l[i] := by simp [List.getD_eq_getElem?_getD, hi]
 cases hc : Qo5 rg l with
 | false => rfl
 | true =>
  rw [Qo5, List.all_eq_true] at hc
  have := hc _ (List.getElem_mem hi)
  rw [e] at h
  rw [h] at this; exact absurd this (by simp)
theorem Qaxv {p rg : Int} {bc : C} {fl : Bool} {l : List Int} (hr : -(2^62) ≤ rg) (hr2 : rg ≤ 2^62) (hK : K (.c (.bool (Qo5 rg l))) H) :
  Qo prog Qup [.ag [.int .i64 p, .int .i64 rg, bc], .c (.sl fl 1 (Qh l))] H K := by
 refine Qb Qas Qa7d ?_
 have retf : ∀ (b : Bool) (e : Env), Qo5 rg l = b → lk 4 e = .c (.bool b) → Qz Qajz K .ret e H := by
  intro b e h1 h3
  simp only [go_sem, Qz, Q9, Qajz, List.mem_singleton, forall_eq, RS.op, h3, reduceIte, reduceEqDiff, reduceAdd, reduceLeDiff, reduceLT, reduceCtorEq]
  rw [← h1]; exact hK
 refine Qa ?_
 simp only [go_sem, reduceIte, reduceEqDiff, reduceAdd, reduceLeDiff, reduceLT, reduceCtorEq]
 refine Q2 ?_
 refine Qa ?_
 simp only [go_sem, reduceIte, reduceEqDiff, reduceAdd, reduceLeDiff, reduceLT, reduceCtorEq]
 refine Qg (Qc (Qt (fun n e1 H1 => ∃ (i : Nat), n = l.length - i ∧ i ≤ l.length ∧ H1 = H ∧ Qo5 rg (l.take i) = true ∧ e1 = [(1, .c (.sl fl 1 (Qh l))), (2, .c (.pp [.int .i64 p, .int .i64 rg, bc])), (5, .c (.int .i64 i))]) l.length ?_ ?_))
 ·exact ⟨0, by omega, by omega, rfl, rfl, rfl⟩
 ·rintro n e1 H1 ⟨i, hn1, hi, rfl, hall, rfl⟩
  refine Q2 ?_
  refine Qa ?_
  simp only [go_sem, Qe, reduceIte, reduceEqDiff, reduceAdd, reduceLeDiff, reduceLT, reduceCtorEq]
  intro hl
  simp only [LIM] at hl
  refine Qg (Qd rfl ?_ ?_)
  ·intro hc
   have hlt : i < l.length := by simpa using hc
   refine Qf ?_
   simp only [go_sem]
   refine Qg (Qc ?_)
   refine Qar ?_
   simp only [go_sem, hlt, Qe, Qx _ _ hlt, reduceIte, reduceEqDiff, reduceAdd, reduceLeDiff, reduceLT, reduceCtorEq]
   refine ⟨Qn (by omega) (by omega), ?_⟩
   refine Qc6 ?_
   simp only [go_sem, Qaa3, reduceIte, reduceEqDiff, reduceAdd, reduceLeDiff, reduceLT, reduceCtorEq]
   refine Qd rfl ?_ ?_
   ·intro hc2
    refine Qa ?_
    simp only [go_sem, reduceIte, reduceEqDiff, reduceAdd, reduceLeDiff, reduceLT, reduceCtorEq]
    refine Qj ?_
    simp only [go_sem, X.next]
    exact retf false _ (Qa3v hlt (Qnl hc2)) (by simp [lk])
   ·intro hc2
    refine Qf ?_
    simp only [go_sem]
    refine Qp ?_
    simp only [go_sem, X.next, reduceIte, reduceEqDiff, reduceAdd, reduceLeDiff, reduceLT, reduceCtorEq]
    exact ⟨Qn (by omega) (by omega), l.length - (i + 1), by omega, i + 1, rfl, by omega, by rw [Qazj hlt, hall, Qeq hc2]; rfl, rfl⟩
  ·intro hc
   have hge : l.length ≤ i := by simpa using hc
   rw [List.take_of_length_le hge] at hall
   refine Qs ?_
   simp only [go_sem, X.next]
   refine Qa ?_
   simp only [go_sem, reduceIte, reduceEqDiff, reduceAdd, reduceLeDiff, reduceLT, reduceCtorEq]
   refine Qj ?_
   exact retf true _ hall (by simp [lk])
def rgOf (cs : List CodeD) (k : Nat) : Int := (cs[k]?.map CodeD.regs).getD 0
def pmOf (cs : List CodeD) (k : Nat) : Int := (cs[k]?.map CodeD.params).getD 0
theorem Qasc {cs : List CodeD} {k : Nat} (h : k < cs.length) : rgOf cs k = cs[k].regs := by simp [rgOf, h]
theorem Qar6 {cs : List CodeD} {k : Nat} (h : k < cs.length) : pmOf cs k = cs[k].params := by simp [pmOf, h]
def insH (rg : Int) (x : InsD) : Bool := decide (1 ≤ x.op ∧ x.op ≤ 14) && Qo5 rg x.args
def insT (rg : Int) (x : InsD) : Bool := if Qdl x.op then decide (0 ≤ x.to ∧ x.to ≤ rg - 1) else decide (x.to = -1)
def insL (cs : List CodeD) (k : Nat) (x : InsD) : Bool :=
 if x.op = 14 then decide (0 ≤ x.n ∧ x.n ≤ (k : Int) - 1) && decide ((x.args.length : Int) = pmOf cs x.n.toNat)
 else decide ((x.args.length : Int) = Qs6 x.op) && decide (0 ≤ x.n ∧ x.n ≤ 255) && (decide (x.n = 0) || decide (x.op = 1))
def insG (cs : List CodeD) (k : Nat) (x : InsD) : Bool := insH (rgOf cs k) x && insT (rgOf cs k) x && insL cs k x
set_option maxHeartbeats 1000000 in
theorem Qbab {cs : List CodeD} {fl : Bool} {k : Nat} {x : InsD} (hk : k < cs.length) (hr : 0 ≤ cs[k].regs) (hr2 : cs[k].regs ≤ 300) (hcl : cs.length ≤ 100) (hK : ∀ (H' : Heap), Upd H H' [] → K (.c (.bool (insG cs k x))) H') :
  Qo prog Qaiz [.ag [.sl fl 3 (Qm cs)], .c (.int .i64 k), .ag x.cells] H K := by
 refine Q0 ?_
 refine Qb Qas Qban ?_
 refine Qa ?_
 simp only [go_sem, InsD.cells, reduceIte, reduceEqDiff, reduceAdd, reduceLeDiff, reduceLT, reduceCtorEq]
 refine Qa ?_
 simp only [go_sem, hk, Qr, Qy _ _ hk, CodeD.cells, reduceIte, reduceEqDiff, reduceAdd, reduceLeDiff, reduceLT, reduceCtorEq]
 intro x7 hx7 H1 h1
 have kn := (Kn.start0 H).al hx7 h1
 have hx71 := kn.l 0 rfl
 simp only [go_sem, Qaig, hx71, reduceIte, reduceEqDiff, reduceAdd, reduceLeDiff, reduceLT, reduceCtorEq]
 intro H2 h2
 have kn := kn.stL 0 rfl h2
 have hx72 := kn.l 0 rfl
 have hrg := Qasc hk
 have retf : ∀ (b : Bool) (e : Env), insG cs k x = b → lk 6 e = .c (.bool b) → Qz Q7t (fun x H' => ∃ x', FrzV H' (un H) x x' ∧ K x' (H'.frz (un H))) .ret e H2 := by
  intro b e h1 h3
  simp only [go_sem, Qz, Q9, Q7t, List.mem_singleton, forall_eq, RS.op, h3, reduceIte, reduceEqDiff, reduceAdd, reduceLeDiff, reduceLT, reduceCtorEq]
  rw [← h1]; exact ⟨_, .c _ _ (Qi rfl), hK _ kn.fin⟩
 refine Q2 ?_
 refine Qa ?_
 simp only [go_sem, reduceIte, reduceEqDiff, reduceAdd, reduceLeDiff, reduceLT, reduceCtorEq]
 refine Qc6 ?_
 simp only [go_sem, Qaih, hx72, reduceIte, reduceEqDiff, reduceAdd, reduceLeDiff, reduceLT, reduceCtorEq]
 have rest : ∀ (E1 : Env) (b : Bool), insH cs[k].regs x = (!b) → lk 1 E1 = .c (.int .i64 k) → lk 3 E1 = .c (.pp [.sl fl 3 (Qm cs)]) → lk 5 E1 = .c (.pp [.int .i64 x.op, .int .i64 x.to, .sl false 1 (Qh x.args), .int .i64 x.n]) → lk 7 E1 = .c (.ptr x7 0) → lk 23 E1 = .c (.bool b) →
   Qae prog (s_l7Ins_3.seq Qaif) (Qz Q7t (fun x H' => ∃ x', FrzV H' (un H) x x' ∧ K x' (H'.frz (un H)))) E1 H2 := by
  intro E1 b hb l1 l3 l5 l7 l23
  refine Qg (Qd l23 ?_ ?_)
  ·intro hc
   refine Qa ?_
   simp only [go_sem, reduceIte, reduceEqDiff, reduceAdd, reduceLeDiff, reduceLT, reduceCtorEq]
   refine Qj ?_
   simp only [go_sem]
   exact retf false _ (by rw [insG, hrg, hb, hc]; rfl) (by simp [lk])
  intro hc
  rw [hc] at hb
  refine Qf ?_
  simp only [go_sem]
  refine Q2 ?_
  refine Qar ?_
  simp only [go_sem, l1, l3, l5, l7, hx72, reduceIte, reduceEqDiff, reduceAdd, reduceLeDiff, reduceLT, reduceCtorEq]
  refine ⟨Qn (by omega) (by omega), ?_⟩
  refine Qux ?_
  simp only [go_sem, Qaij, l1, l3, l5, l7, hx72, reduceIte, reduceEqDiff, reduceAdd, reduceLeDiff, reduceLT, reduceCtorEq]
  refine Qc6 ?_
  simp only [go_sem, Qaii, l1, l3, l5, l7, hx72, reduceIte, reduceEqDiff, reduceAdd, reduceLeDiff, reduceLT, reduceCtorEq]
  have rest2 : ∀ (E1 : Env) (b : Bool), insT cs[k].regs x = (!b) → lk 1 E1 = .c (.int .i64 k) → lk 3 E1 = .c (.pp [.sl fl 3 (Qm cs)]) → lk 5 E1 = .c (.pp [.int .i64 x.op, .int .i64 x.to, .sl false 1 (Qh x.args), .int .i64 x.n]) → lk 44 E1 = .c (.bool b) →
    Qae prog (s_l7Ins_7.seq Qaie) (Qz Q7t (fun x H' => ∃ x', FrzV H' (un H) x x' ∧ K x' (H'.frz (un H)))) E1 H2 := by
   intro E1 b hb2 l1 l3 l5 l44
   refine Qg (Qd l44 ?_ ?_)
   ·intro hc
    refine Qa ?_
    simp only [go_sem, reduceIte, reduceEqDiff, reduceAdd, reduceLeDiff, reduceLT, reduceCtorEq]
    refine Qj ?_
    simp only [go_sem]
    exact retf false _ (by rw [insG, hrg, hb2, hc]; simp) (by simp [lk])
   intro hc
   rw [hc] at hb2
   have hG : insG cs k x = insL cs k x := by rw [insG, hrg, hb, hb2]; rfl
   refine Qf ?_
   simp only [go_sem]
   refine Q2 ?_
   refine Qa ?_
   simp only [go_sem, l1, l3, l5, reduceIte, reduceEqDiff, reduceAdd, reduceLeDiff, reduceLT, reduceCtorEq]
   refine Qg (Qd rfl ?_ ?_)
   ·intro hc
    have hop : x.op = 14 := of_decide_eq_true hc
    rw [insL, if_pos hop] at hG
    refine Qar ?_
    simp only [go_sem, reduceIte, reduceEqDiff, reduceAdd, reduceLeDiff, reduceLT, reduceCtorEq]
    refine ⟨Qn (by omega) (by omega), ?_⟩
    refine Qc6 ?_
    by_cases hin : 0 ≤ x.n ∧ x.n ≤ (k : Int) - 1
    ·obtain ⟨m, hm⟩ := Int.eq_ofNat_of_zero_le hin.1
     have hmk : m < cs.length := by omega
     have hin' : (0 ≤ (m : Int) ∧ (m : Int) ≤ (k : Int) - 1) = True := eq_true (by rw [← hm]; exact hin)
     simp only [go_sem, Qrj, hm, hin', hmk, decide_true, Qr, Qy _ _ hmk, CodeD.cells, Qe, reduceIte, reduceEqDiff, reduceAdd, reduceLeDiff, reduceLT, reduceCtorEq]
     refine Qj ?_
     refine retf _ _ ?_ (by simp [lk]; rfl)
     rw [hG, hm, Int.toNat_natCast, Qar6 hmk]
     simp only [hin', decide_true, Bool.true_and]
     simp [show ((m : Int) ≤ (k : Int) - 1) from by omega]
    ·have hin' : decide (0 ≤ x.n ∧ x.n ≤ (k : Int) - 1) = false := by simpa using hin
     by_cases hm : x.n.toNat < cs.length
     ·simp only [go_sem, Qrj, hin', Qy _ _ hm, CodeD.cells, reduceIte, reduceEqDiff, reduceAdd, reduceLeDiff, reduceLT, reduceCtorEq]
      refine Qj ?_
      exact retf false _ (by rw [hG, hin']; rfl) (by simp [lk])
     ·have hgd : (Qm cs).getD x.n.toNat [] = [] := by
       rw [List.getD_eq_getElem?_getD, List.getElem?_eq_none (by rw [Qr]; omega)]; rfl
      simp only [go_sem, Qrj, hin', hgd, List.take_nil, List.headD_nil, reduceIte, reduceEqDiff, reduceAdd, reduceLeDiff, reduceLT, reduceCtorEq]
      refine Qj ?_
      exact retf false _ (by rw [hG, hin']; rfl) (by simp [lk])
   ·intro hc
    have hop : ¬ x.op = 14 := of_decide_eq_false hc
    rw [insL, if_neg hop] at hG
    refine Qf ?_
    simp only [go_sem]
    refine Qar ?_
    simp only [go_sem, reduceIte, reduceEqDiff, reduceAdd, reduceLeDiff, reduceLT, reduceCtorEq]
    refine Qaxu ?_
    simp only [go_sem, Qaa0, reduceIte, reduceEqDiff, reduceAdd, reduceLeDiff, reduceLT, reduceCtorEq]
    refine ⟨fun hb => ?_, fun hb => ?_⟩
    ·refine Qc6 ?_
     simp only [go_sem, Qt1, reduceIte, reduceEqDiff, reduceAdd, reduceLeDiff, reduceLT, reduceCtorEq]
     refine Qj ?_
     refine retf _ _ ?_ (by simp [lk]; rfl)
     have hb' : (x.args.length : Int) = Qs6 x.op := by simpa [Qe] using hb
     rw [hG]; simp [hb', Qe]
    ·simp only [go_sem, Qt1, hb, reduceIte, reduceEqDiff, reduceAdd, reduceLeDiff, reduceLT, reduceCtorEq]
     refine Qj ?_
     refine retf _ _ ?_ (by simp [lk]; rfl)
     have hb' : ¬ (x.args.length : Int) = Qs6 x.op := by simpa [Qe] using hb
     rw [hG]; simp [hb']
  refine ⟨fun hb => ?_, fun hb => ?_⟩
  ·refine Qux ?_
   simp only [go_sem, Qzb, l1, l3, l5, l7, reduceIte, reduceEqDiff, reduceAdd, reduceLeDiff, reduceLT, reduceCtorEq]
   refine rest2 _ _ ?_ (by simp [lk]) (by simp [lk]) (by simp [lk]) (by simp [lk]; rfl)
   cases hmk : Qdl x.op with
   | true => simp [insT, hmk]
   | false => by_cases h : x.to = -1 <;> simp [insT, hmk, h]
  ·replace hb := Qeq hb
   simp only [go_sem, Qzb, l1, l3, l5, l7, hb, reduceIte, reduceEqDiff, reduceAdd, reduceLeDiff, reduceLT, reduceCtorEq]
   refine rest2 _ true ?_ (by simp [lk]) (by simp [lk]) (by simp [lk]) (by simp [lk])
   cases hmk : Qdl x.op with
   | true => simp [hmk] at hb; simp [insT, hmk]; omega
   | false => simp [hmk] at hb; simp [insT, hmk]; omega
 refine ⟨fun hb => ?_, fun hb => ?_⟩
 ·refine Qaxv (by omega) (by omega) ?_
  simp only [go_sem, Qza, reduceIte, reduceEqDiff, reduceAdd, reduceLeDiff, reduceLT, reduceCtorEq]
  refine rest _ _ ?_ (by simp [lk]) (by simp [lk]) (by simp [lk]) (by simp [lk]) (by simp [lk]; rfl)
  simp [insH]
 ·replace hb := Qeq hb
  simp only [go_sem, Qza, hb, reduceIte, reduceEqDiff, reduceAdd, reduceLeDiff, reduceLT, reduceCtorEq]
  refine rest _ true ?_ (by simp [lk]) (by simp [lk]) (by simp [lk]) (by simp [lk]) (by simp [lk])
  rw [insH, Qnl hb]; rfl
end Go.AE.Y

