/- Part 3 of the proof: the engine, codes, walks and plain laws, each named where it stands. -/
import Derived.Test.YtajdffbgjodbfaaGreatZB
import Derived.Test.YtajdffbgjodbfaaGreatProg
open Nat (reduceEqDiff reduceAdd reduceLeDiff reduceLT)
set_option linter.unusedVariables false
set_option linter.unusedSimpArgs false
set_option maxRecDepth 4000
namespace Go.AE.Y
open Go.Proofs.Tryz
def Q0y : List Item := cJ 5 .eql 4 0 :: []
def Q0z : List Item := .e none none (.sto 1 (.t 2) (.t 7)) :: []
def Qasr : SC := (.cond (.t 5) (.seq (.reg ( mJ 6 0 :: aJ 7 Q5p [.t 6] :: Q0z) [2]) .ret) .skip)
def Q00 : List Item := .e none none (.sto 1 (.t 2) (.t 9)) :: []
def Qass : SC := (.seq (.reg ( mJ 8 0 :: aJ 9 Qyd [.t 8] :: Q00) [2]) .ret)
def Qast : SC := (.seq (.seq (.reg ( mJ 3 0 :: aJ 4 Qk [.t 3, kI 12] :: Q0y) [0, 2, 5]) Qasr) Qass)
def Qa4a : SC := (.seq (.reg ( eI 2 (.alloc [.sl true 3 []]) :: []) [0, 2]) Qast)
def Q6m : List RS := [.cell 2 1 true]
theorem Qa28 : mFn prog Qyc 1 10 Qa4a Q6m = true := by kernel_rfl
def Qae8 : SC := (.cond (.t 24) (.seq (.reg ( fI 4 (.mv (kI 0)) :: []) [4]) .ret) .skip)
def Qae9 : SC := (.cond (.t 36) (.seq (.reg ( mJ 37 0 :: kJ 38 37 :: fJ 39 0 38 :: lJ 40 39 :: mJ 41 5 :: iJ 42 1 40 41 :: lJ 43 42 :: fI 44 (.cvt .i64 (.t 43)) :: mJ 45 1 :: bJ 46 .rem 44 45 :: mJ 4 46 :: []) [4]) .ret) .skip)
def Qafa : SC := (.seq (.reg ( mJ 96 6 :: mJ 97 1 :: bJ 98 .rem 96 97 :: mJ 4 98 :: []) [4]) .ret)
def Qafb : SC := (.seq (.reg ( mJ 92 6 :: mJ 93 6 :: cJ 94 .quo 93 64 :: bJ 95 .xor 92 94 :: mJ 6 95 :: []) [1, 6]) Qafa)
def Qafc : SC := (.seq (.dreg 46 [0, 1, 2, 3, 4, 5, 6, 7, 8, 9, 10, 11, 12, 13, 14, 15, 16, 17, 18, 19, 20, 21, 22, 23, 24, 25, 26, 27, 28, 29, 30, 31, 32, 33, 34, 35, 36, 37, 38, 39, 40, 41, 42, 43, 44, 45] ( mJ 47 0 :: kJ 48 47 :: fJ 49 0 48 :: lJ 50 49 :: mJ 51 5 :: mJ 52 0 :: kJ 53 52 :: fJ 54 0 53 :: lJ 55 54 :: nJ 56 55 :: bJ 57 .rem 51 56 :: iJ 58 1 50 57 :: lJ 59 58 :: fI 60 (.cvt .i64 (.t 59)) :: cJ 61 .mul 60 131 :: mJ 62 0 :: kJ 63 62 :: fJ 64 0 63 :: lJ 65 64 :: mJ 66 5 :: cJ 67 .mul 66 7 :: cJ 68 .add 67 3 :: mJ 69 0 :: kJ 70 69 :: fJ 71 0 70 :: lJ 72 71 :: nJ 73 72 :: bJ 74 .rem 68 73 :: iJ 75 1 65 74 :: lJ 76 75 :: fI 77 (.cvt .i64 (.t 76)) :: cJ 78 .mul 77 1117 :: bJ 79 .add 61 78 :: mJ 80 5 :: cJ 81 .mul 80 29 :: bJ 82 .add 79 81 :: mJ 83 5 :: mJ 84 0 :: kJ 85 84 :: fJ 86 0 85 :: lJ 87 86 :: nJ 88 87 :: bJ 89 .quo 83 88 :: cJ 90 .mul 89 53 :: bJ 91 .add 82 90 :: mJ 6 91 :: []) [1, 6]) Qafb)
def Qafd : SC := (.seq (.seq (.reg ( mJ 30 5 :: mJ 31 0 :: kJ 32 31 :: fJ 33 0 32 :: lJ 34 33 :: nJ 35 34 :: bJ 36 .lss 30 35 :: []) [0, 1, 5, 36]) Qae9) Qafc)
def Qafe : SC := (.seq (.reg ( mJ 25 0 :: kJ 26 25 :: fJ 27 1 26 :: lJ 28 27 :: cJ 29 .sub 28 1 :: mJ 5 29 :: []) [0, 1, 5]) Qafd)
def Qaff : SC := (.seq (.seq (.reg ( mJ 15 1 :: cJ 16 .lss 15 1 :: mJ 17 16 :: gFm 18 17 0 :: gF 19 17 (.nck (.t 18)) :: gFf 20 17 0 19 :: gFl 21 17 20 :: gF 22 17 (.len (.t 21)) :: gF 23 17 (.bin 0 .eql (.t 22) (kI 0)) :: fI 24 (.pick (.t 17) (.k (.c (.bool true))) (.t 23)) :: []) [0, 1, 24]) Qae8) Qafe)
def Qafg : SC := (.seq (.reg ( mJ 7 0 :: mJ 8 0 :: kJ 9 8 :: fJ 10 1 9 :: lJ 11 10 :: cJ 12 .add 11 1 :: kJ 13 7 :: fJ 14 1 13 :: .e none none (.sto 1 (.t 14) (.t 12)) :: []) [0, 1]) Qaff)
def Qaox : SC := (.seq (.reg ( fI 4 (.mv (kI 0)) :: []) [0, 1]) Qafg)
def Qhl : List RS := [.tmp 4]
theorem Qam2 : mFn prog Qk 2 99 Qaox Qhl = true := by kernel_rfl
def Q9v : List Item := .e none none (.sto 1 (.t 3) (.t 9)) :: []
def Q9w : List Item := eI 3 (.alloc [.sl true 3 []]) :: Q9v
def Q9x : List Item := aJ 9 Qkm [.t 8] :: Q9w
def Q9y : List Item := .chk 11 none (.ld 1 false (.t 10)) :: iJ 17 3 11 16 :: mJ 4 17 :: []
def Q9z : List Item := .chk 21 none (.ld 1 false (.t 20)) :: iJ 29 5 21 28 :: mJ 5 29 :: []
def Q90 : List Item := mJ 6 41 :: []
def Q91 : List Item := kJ 49 46 :: fJ 50 2 49 :: .e none none (.sto 1 (.t 50) (.t 48)) :: []
def Qa0q : SC := (.cond (.t 58) (.reg ( mJ 59 5 :: kJ 60 59 :: fJ 61 4 60 :: lJ 62 61 :: mJ 63 6 :: fI 64 (.iad 1 (.t 62) (kI 0)) :: .e none none (.sto 1 (.t 64) (.t 63)) :: []) [2, 3]) .skip)
def Qa0r : SC := (.cond (.t 78) (.reg ( mJ 79 5 :: kJ 80 79 :: fJ 81 1 80 :: lJ 82 81 :: mJ 83 6 :: fI 84 (.iad 4 (.t 82) (kI 0)) :: fJ 85 1 84 :: .e none none (.sto 1 (.t 85) (.t 83)) :: []) [2, 3]) .skip)
def Q92 : List Item := .chk 97 none (.ld 1 false (.t 96)) :: fI 108 (.iad 4 (.t 97) (kI 0)) :: fJ 109 2 108 :: .e none none (.sto 1 (.t 109) (.t 107)) :: []
def Qaux : SC := (.cond (.t 93) (.dreg 17 [0, 1, 2, 3, 4, 5, 6, 7, 8, 9, 10, 11, 12, 13, 3, 14, 15, 16] ( mJ 94 5 :: kJ 95 94 :: fJ 96 1 95 :: lJ 97 96 :: mJ 98 5 :: kJ 99 98 :: fJ 100 1 99 :: lJ 101 100 :: fI 102 (.iad 4 (.t 101) (kI 0)) :: fJ 103 2 102 :: lJ 104 103 :: mJ 105 6 :: fI 106 (.bsl 1 [.t 105]) :: eI 107 (.app 1 (.t 104) (.t 106)) :: Q92) [2, 3]) .skip)
def Q1u : List Item := kJ 122 112 :: fJ 123 0 122 :: .e none none (.sto 1 (.t 123) (.t 121)) :: []
def Q1v : List Item := .chk 130 none (.ld 1 false (.t 129)) :: bJ 133 .add 130 132 :: kJ 134 126 :: fJ 135 1 134 :: .e none none (.sto 1 (.t 135) (.t 133)) :: []
def Q1w : List Item := .chk 147 none (.ld 1 false (.t 146)) :: fI 151 (.iad 4 (.t 147) (kI 0)) :: fJ 152 3 151 :: .e none none (.sto 1 (.t 152) (.t 150)) :: []
def Qauy : SC := (.cond (.t 143) (.dreg 10 [0, 1, 2, 3, 4, 5, 6, 3, 7, 8, 9] ( mJ 144 5 :: kJ 145 144 :: fJ 146 1 145 :: lJ 147 146 :: mJ 148 0 :: fI 149 (.bsl 1 [kI 256, kI (-1), kI 1]) :: aJ 150 Q8 [.t 148, .t 149] :: Q1w) [2, 3]) .skip)
def Qauz : SC := (.cond (.t 136) (.seq (.reg ( mJ 138 5 :: kJ 139 138 :: fJ 140 1 139 :: lJ 141 140 :: nJ 142 141 :: cJ 143 .gtr 142 0 :: []) [0, 2, 3, 5, 143]) Qauy) .skip)
def Qau0 : SC := (.cond (.t 124) (.dreg 11 [0, 1, 2, 3, 4, 5, 6, 4, 7, 8, 9, 10] ( mJ 126 4 :: mJ 127 4 :: kJ 128 127 :: fJ 129 0 128 :: lJ 130 129 :: mJ 131 0 :: aJ 132 Qk [.t 131, kI 2] :: Q1v) [2, 3]) (.seq (.reg ( cJ 137 .eql 43 7 :: mJ 136 137 :: []) [0, 2, 3, 5, 136]) Qauz))
def Qau1 : SC := (.cond (.t 110) (.reg ( mJ 112 5 :: mJ 113 5 :: kJ 114 113 :: fJ 115 0 114 :: lJ 116 115 :: mJ 117 6 :: fI 118 (.bsl 1 [.t 117]) :: fI 119 (.bld [.int .i64 0, .sl true 1 []] [(0, 1, kI 0), (1, 1, .t 118)]) :: fI 120 (.bsl 2 [.t 119]) :: eI 121 (.app 2 (.t 116) (.t 120)) :: Q1u) [2, 3]) (.seq (.reg ( cJ 125 .eql 43 6 :: mJ 124 125 :: []) [0, 2, 3, 4, 5, 43, 124]) Qau0))
def Qau2 : SC := (.cond (.t 86) (.seq (.reg ( mJ 88 5 :: kJ 89 88 :: fJ 90 1 89 :: lJ 91 90 :: nJ 92 91 :: cJ 93 .gtr 92 0 :: []) [2, 3, 5, 6, 93]) Qaux) (.seq (.reg ( cJ 111 .eql 43 5 :: mJ 110 111 :: []) [0, 2, 3, 4, 5, 6, 43, 110]) Qau1))
def Qau3 : SC := (.cond (.t 71) (.seq (.reg ( mJ 73 5 :: kJ 74 73 :: fJ 75 1 74 :: lJ 76 75 :: nJ 77 76 :: cJ 78 .gtr 77 0 :: []) [2, 3, 5, 6, 78]) Qa0r) (.seq (.reg ( cJ 87 .eql 43 4 :: mJ 86 87 :: []) [0, 2, 3, 4, 5, 6, 43, 86]) Qau2))
def Qau4 : SC := (.cond (.t 65) (.reg ( mJ 67 5 :: mJ 68 6 :: kJ 69 67 :: fJ 70 3 69 :: .e none none (.sto 1 (.t 70) (.t 68)) :: []) [2, 3]) (.seq (.reg ( cJ 72 .eql 43 3 :: mJ 71 72 :: []) [0, 2, 3, 4, 5, 6, 43, 71]) Qau3))
def Qau5 : SC := (.cond (.t 51) (.seq (.reg ( mJ 53 5 :: kJ 54 53 :: fJ 55 4 54 :: lJ 56 55 :: nJ 57 56 :: cJ 58 .gtr 57 0 :: []) [2, 3, 5, 6, 58]) Qa0q) (.seq (.reg ( cJ 66 .eql 43 2 :: mJ 65 66 :: []) [0, 2, 3, 4, 5, 6, 43, 65]) Qau4))
def Qau6 : SC := (.cond (.t 44) (.reg ( mJ 46 5 :: mJ 47 0 :: aJ 48 Qk [.t 47, kI 5] :: Q91) [2, 3]) (.seq (.reg ( cJ 52 .eql 43 1 :: mJ 51 52 :: []) [0, 2, 3, 4, 5, 6, 43, 51]) Qau5))
def Qau7 : SC := (.block 0 (.seq (.reg ( cJ 45 .eql 43 0 :: mJ 44 45 :: []) [0, 2, 3, 4, 5, 6, 43, 44]) Qau6))
def Qau8 : SC := (.seq (.reg ( tJ 153 1 3 :: .e none none (.sto 1 (.t 2) (.t 153)) :: []) [2]) .ret)
def Qau9 : SC := (.seq (.seq (.reg ( mJ 42 0 :: aJ 43 Qk [.t 42, kI 32] :: []) [0, 2, 3, 4, 5, 6, 43]) Qau7) Qau8)
def Qava : SC := (.seq (.dreg 13 [0, 1, 2, 3, 4, 5, 6, 7, 8, 9, 10, 11, 12] ( mJ 30 0 :: mJ 31 4 :: kJ 32 31 :: fJ 33 1 32 :: lJ 34 33 :: mJ 35 4 :: kJ 36 35 :: fJ 37 2 36 :: lJ 38 37 :: nJ 39 38 :: fI 40 (.bsl 1 [kI (-1), .t 34, .t 39, kI 0, kI 1]) :: aJ 41 Q8 [.t 30, .t 40] :: Q90) [0, 2, 3, 4, 5, 6]) Qau9)
def Qavb : SC := (.seq (.dreg 13 [0, 1, 2, 3, 4, 5, 6, 7, 8, 9, 10, 3, 11, 12] ( mJ 18 4 :: kJ 19 18 :: fJ 20 2 19 :: lJ 21 20 :: mJ 22 0 :: mJ 23 4 :: kJ 24 23 :: fJ 25 2 24 :: lJ 26 25 :: nJ 27 26 :: aJ 28 Qk [.t 22, .t 27] :: Q9z) [0, 2, 3, 4, 5]) Qava)
def Qavc : SC := (.seq (.dreg 9 [0, 1, 2, 3, 4, 5, 6, 1, 7, 8] ( fJ 10 0 3 :: lJ 11 10 :: mJ 12 0 :: fJ 13 0 3 :: lJ 14 13 :: nJ 15 14 :: aJ 16 Qk [.t 12, .t 15] :: Q9y) [0, 2, 3, 4]) Qavb)
def Qavd : SC := (.seq (.reg ( mJ 7 0 :: aJ 8 Qv1 [.t 7] :: Q9x) [0, 2, 3]) Qavc)
def Qa8b : SC := (.seq (.reg ( eI 2 (.alloc [.sl true 3 []]) :: []) [0, 2]) Qavd)
def Qax3 : List RS := [.cell 2 1 true]
theorem Qa7f : mFn prog Q5p 1 154 Qa8b Qax3 = true := by kernel_rfl
def Q01 : List Item := cJ 6 .eql 5 0 :: []
def Q02 : List Item := .e none none (.sto 1 (.t 3) (.t 9)) :: []
def Q03 : List Item := eI 3 (.alloc [.sl true 3 []]) :: Q02
def Q04 : List Item := aJ 9 Q5v [.t 8] :: Q03
def Qasu : SC := (.cond (.t 11) (.seq (.reg ( tJ 12 1 3 :: .e none none (.sto 1 (.t 2) (.t 12)) :: []) [2]) .ret) .skip)
def Qasv : SC := (.seq (.reg ( tJ 10 1 3 :: aJ 11 Qce [.t 10] :: []) [0, 2, 3, 11]) Qasu)
def Qasw : SC := (.cond (.t 6) (.seq (.reg ( mJ 7 0 :: aJ 8 Q5n [.t 7] :: Q04) [0, 2, 3]) Qasv) .skip)
def Q05 : List Item := .e none none (.sto 1 (.t 2) (.t 14)) :: []
def Q74 : SC := (.seq (.reg ( mJ 13 0 :: aJ 14 Qv1 [.t 13] :: Q05) [2]) .ret)
def Qasx : SC := (.seq (.seq (.reg ( mJ 4 0 :: aJ 5 Qk [.t 4, kI 2] :: Q01) [0, 2, 6]) Qasw) Q74)
def Qa4b : SC := (.seq (.reg ( eI 2 (.alloc [.sl true 3 []]) :: []) [0, 2]) Qasx)
def Qwg : List RS := [.cell 2 1 true]
theorem Qa29 : mFn prog Qyd 1 15 Qa4b Qwg = true := by kernel_rfl
def Qtw : List Item := iJ 10 1 5 9 :: lJ 11 10 :: mJ 4 11 :: []
def Qak1 : SC := (.seq (.reg ( mJ 5 1 :: mJ 6 0 :: mJ 7 1 :: nJ 8 7 :: aJ 9 Qk [.t 6, .t 8] :: Qtw) [4]) .ret)
def Qat2 : SC := (.seq (.reg ( fI 4 (.mv (kI 0)) :: []) [0, 1]) Qak1)
def Q6q : List RS := [.tmp 4]
theorem Qarv : mFn prog Q8 2 12 Qat2 Q6q = true := by kernel_rfl
def Qqr : List Item := .e none none (.sto 1 (.t 3) (.t 5)) :: []
def Qqs : List Item := fJ 23 0 3 :: .e none none (.sto 1 (.t 23) (.t 22)) :: []
def Qqt : List Item := .chk 14 none (.ld 1 false (.t 13)) :: fI 21 (.bsl 3 [.t 20]) :: eI 22 (.app 3 (.t 14) (.t 21)) :: Qqs
def Qafm : SC := (.reg ( mJ 11 4 :: cJ 12 .add 11 1 :: mJ 4 12 :: []) [1, 2, 3, 4])
def Qafn : SC := (.seq (.block 1 (.dreg 12 [0, 1, 2, 3, 4, 5, 6, 7, 1, 8, 9, 10, 11] ( fJ 13 0 3 :: lJ 14 13 :: fJ 15 0 1 :: lJ 16 15 :: mJ 17 4 :: iJ 18 3 16 17 :: tJ 19 3 18 :: aJ 20 Q5r [.t 19] :: Qqt) [1, 2, 3, 4])) Qafm)
def Qaae : SC := (.seq (.seq (.reg ( mJ 6 4 :: fJ 7 0 1 :: lJ 8 7 :: nJ 9 8 :: bJ 10 .lss 6 9 :: []) [1, 2, 3, 4, 10]) (.cond (.t 10) .skip (.exit 0))) Qafn)
def Qafo : SC := (.seq (.reg ( tJ 24 1 3 :: .e none none (.sto 1 (.t 2) (.t 24)) :: []) [2]) .ret)
def Qafp : SC := (.seq (.seq (.reg ( fI 4 (.mv (kI 0)) :: []) [1, 2, 3, 4]) (.block 0 (.loop Qaae))) Qafo)
def Qafq : SC := (.seq (.reg ( fI 5 (.bld [.sl true 3 []] []) :: eI 3 (.alloc [.sl true 3 []]) :: Qqr) [1, 2, 3]) Qafp)
def Qapp : SC := (.seq (.reg ( fI 1 (.box (.t 0)) :: eI 2 (.alloc [.sl true 3 []]) :: []) [1, 2]) Qafq)
def Q0r : List RS := [.cell 2 1 true]
theorem Qam7 : mFn prog Qkm 1 25 Qapp Q0r = true := by kernel_rfl
def Qaav : List Item := .e none none (.sto 1 (.t 3) (.t 9)) :: []
def Qaaw : List Item := mJ 4 12 :: []
def Qaax : List Item := fJ 24 0 3 :: .e none none (.sto 1 (.t 24) (.t 23)) :: []
def Qaay : List Item := .chk 18 none (.ld 1 false (.t 17)) :: fI 22 (.bsl 3 [.t 21]) :: eI 23 (.app 3 (.t 18) (.t 22)) :: Qaax
def Qa1b : SC := (.reg ( mJ 15 4 :: cJ 16 .sub 15 1 :: mJ 4 16 :: []) [0, 2, 3, 4])
def Qa1c : SC := (.seq (.block 1 (.dreg 9 [0, 1, 2, 3, 4, 1, 5, 6, 7, 8] ( fJ 17 0 3 :: lJ 18 17 :: mJ 19 0 :: tJ 20 1 3 :: aJ 21 Q5q [.t 19, .t 20] :: Qaay) [0, 2, 3, 4])) Qa1b)
def Qawu : SC := (.seq (.seq (.reg ( mJ 13 4 :: cJ 14 .gtr 13 0 :: []) [0, 2, 3, 4, 14]) (.cond (.t 14) .skip (.exit 0))) Qa1c)
def Qaaz : List Item := mJ 5 27 :: []
def Qaa0 : List Item := .chk 33 none (.ld 1 false (.t 32)) :: iJ 39 3 33 38 :: mJ 6 39 :: []
def Qaa1 : List Item := mJ 7 46 :: []
def Q2h : List Item := .e none none (.sto 2 (.t 8) (.t 53)) :: []
def Q2i : List Item := fI 53 (.bld [.int .i64 0, .sl true 1 []] [(0, 1, .t 52)]) :: eI 8 (.alloc [.int .i64 0, .sl true 1 []]) :: Q2h
def Q2j : List Item := nJ 59 58 :: fI 60 (.mv (kI 0)) :: []
def Q2k : List Item := fJ 72 1 8 :: .e none none (.sto 1 (.t 72) (.t 71)) :: []
def Q2l : List Item := .chk 63 none (.ld 1 false (.t 62)) :: fI 70 (.bsl 1 [.t 69]) :: eI 71 (.app 1 (.t 63) (.t 70)) :: Q2k
def Qawh : SC := (.reg ( cJ 73 .add 60 1 :: mJ 60 73 :: []) [0, 2, 3, 5, 6, 7, 8, 59, 60])
def Qawi : SC := (.seq (.block 5 (.dreg 12 [0, 1, 2, 3, 4, 5, 6, 7, 1, 8, 9, 10, 11] ( fJ 62 1 8 :: lJ 63 62 :: mJ 64 0 :: mJ 65 6 :: kJ 66 65 :: fJ 67 1 66 :: lJ 68 67 :: aJ 69 Qk [.t 64, .t 68] :: Q2l) [0, 2, 3, 5, 6, 7, 8, 59, 60])) Qawh)
def Qapw : SC := (.seq (.reg ( bJ 61 .lss 60 59 :: []) [0, 2, 3, 5, 6, 7, 8, 59, 60, 61]) (.seq (.cond (.t 61) .skip (.exit 4)) Qawi))
def Q2m : List Item := .chk 79 none (.ld 1 false (.t 78)) :: iJ 92 5 79 80 :: fJ 93 0 92 :: .e none none (.sto 1 (.t 93) (.t 91)) :: []
def Qawj : SC := (.cond (.t 75) (.dreg 19 [0, 1, 2, 3, 4, 5, 6, 7, 8, 9, 10, 11, 12, 13, 14, 15, 3, 16, 17, 18] ( mJ 76 6 :: kJ 77 76 :: fJ 78 2 77 :: lJ 79 78 :: mJ 80 7 :: mJ 81 6 :: kJ 82 81 :: fJ 83 2 82 :: lJ 84 83 :: mJ 85 7 :: iJ 86 5 84 85 :: fJ 87 0 86 :: lJ 88 87 :: tJ 89 2 8 :: fI 90 (.bsl 2 [.t 89]) :: eI 91 (.app 2 (.t 88) (.t 90)) :: Q2m) [0, 2, 3, 5]) .skip)
def Qawk : SC := (.seq (.reg ( mJ 74 7 :: cJ 75 .gtr 74 0 :: []) [0, 2, 3, 5, 6, 7, 8, 75]) Qawj)
def Qawl : SC := (.seq (.seq (.reg ( mJ 54 6 :: kJ 55 54 :: tJ 56 3 55 :: mJ 57 7 :: aJ 58 Qix [.t 56, .t 57] :: Q2j) [0, 2, 3, 5, 6, 7, 8, 59, 60]) (.block 4 (.loop Qapw))) Qawk)
def Qawm : SC := (.seq (.reg ( mJ 47 0 :: mJ 48 6 :: kJ 49 48 :: fJ 50 1 49 :: lJ 51 50 :: aJ 52 Qk [.t 47, .t 51] :: Q2i) [0, 2, 3, 5, 6, 7, 8]) Qawl)
def Qawn : SC := (.seq (.reg ( mJ 40 0 :: mJ 41 6 :: kJ 42 41 :: fJ 43 2 42 :: lJ 44 43 :: nJ 45 44 :: aJ 46 Qk [.t 40, .t 45] :: Qaa1) [0, 2, 3, 5, 6, 7]) Qawm)
def Qawo : SC := (.reg ( mJ 30 5 :: cJ 31 .sub 30 1 :: mJ 5 31 :: []) [0, 2, 3, 5])
def Qawp : SC := (.seq (.block 3 (.seq (.dreg 9 [0, 1, 2, 3, 4, 5, 6, 1, 7, 8] ( fJ 32 0 3 :: lJ 33 32 :: mJ 34 0 :: fJ 35 0 3 :: lJ 36 35 :: nJ 37 36 :: aJ 38 Qk [.t 34, .t 37] :: Qaa0) [0, 2, 3, 5, 6]) Qawn)) Qawo)
def Qapx : SC := (.seq (.seq (.reg ( mJ 28 5 :: cJ 29 .gtr 28 0 :: []) [0, 2, 3, 5, 29]) (.cond (.t 29) .skip (.exit 2))) Qawp)
def Qawq : SC := (.seq (.reg ( tJ 94 1 3 :: .e none none (.sto 1 (.t 2) (.t 94)) :: []) [2]) .ret)
def Qawr : SC := (.seq (.seq (.reg ( mJ 25 0 :: fI 26 (.bsl 1 [kI 0, kI 0, kI 1, kI 3]) :: aJ 27 Q8 [.t 25, .t 26] :: Qaaz) [0, 2, 3, 5]) (.block 2 (.loop Qapx))) Qawq)
def Qaws : SC := (.seq (.seq (.reg ( mJ 10 0 :: fI 11 (.bsl 1 [kI 1, kI 2, kI 1, kI 3]) :: aJ 12 Q8 [.t 10, .t 11] :: Qaaw) [0, 2, 3, 4]) (.block 0 (.loop Qawu))) Qawr)
def Qawt : SC := (.seq (.reg ( fI 9 (.bld [.sl true 3 []] []) :: eI 3 (.alloc [.sl true 3 []]) :: Qaav) [0, 2, 3]) Qaws)
def Qa8h : SC := (.seq (.reg ( eI 2 (.alloc [.sl true 3 []]) :: []) [0, 2]) Qawt)
def Qax7 : List RS := [.cell 2 1 true]
theorem Qa7k : mFn prog Qv1 1 95 Qa8h Qax7 = true := by kernel_rfl
def Qj5 : List Item := oJ 11 10 :: []
def Q4q : SC := (.cond (.t 11) (.seq (.reg ( fI 2 (.mv (.k (.c (.bool false)))) :: []) [2]) .ret) .skip)
def Qj6 : List Item := .e none none (.sto 3 (.t 5) (.t 23)) :: []
def Qcm : List Item := gF 41 36 (.not (.t 40)) :: fI 42 (.pick (.t 36) (.k (.c (.bool true))) (.t 41)) :: []
def Qel : List Item := gF 34 28 (.not (.t 33)) :: fI 35 (.pick (.t 28) (.k (.c (.bool true))) (.t 34)) :: mJ 36 35 :: gFf 37 36 2 5 :: gFl 38 36 37 :: gF 39 36 (.len (.t 38)) :: .e (some 40) (some (36, false)) (.call Qbk [.t 39, kI 1, kI 160]) :: Qcm
def Qj7 : List Item := oJ 27 26 :: mJ 28 27 :: gFf 29 28 1 5 :: gFl 30 28 29 :: gFf 31 28 0 5 :: gFl 32 28 31 :: .e (some 33) (some (28, false)) (.call Qbk [.t 30, .t 32, kI 300]) :: Qel
def s_sp_UnitValid_6 : SC := (.cond (.t 42) (.seq (.reg ( fI 2 (.mv (.k (.c (.bool false)))) :: []) [2]) .ret) .skip)
def Qem : List Item := gF 74 69 (.not (.t 73)) :: fI 75 (.pick (.t 69) (.k (.c (.bool true))) (.t 74)) :: []
def Qm1 : SC := (.cond (.t 75) (.seq (.reg ( fI 2 (.mv (.k (.c (.bool false)))) :: []) [2]) .ret) .skip)
def Q4r : SC := (.seq (.reg ( mJ 67 3 :: cJ 68 .gtr 67 800 :: mJ 69 68 :: gF 70 69 (.ld 1 true (.t 1)) :: gFm 71 69 4 :: gFm 72 69 6 :: .e (some 73) (some (69, false)) (.call Qyl [.t 70, .t 71, .t 72]) :: Qem) [1, 3, 4, 5, 6, 75]) Qm1)
def Qj3 : SC := (.reg ( mJ 48 6 :: cJ 49 .add 48 1 :: mJ 6 49 :: []) [1, 3, 4, 5, 6])
def Qz5 : SC := (.seq (.block 3 (.seq (.dreg 18 [0, 1, 2, 3, 4, 5, 6, 7, 8, 9, 10, 11, 12, 13, 14, 15, 16, 17] ( mJ 50 3 :: fJ 51 2 5 :: lJ 52 51 :: mJ 53 6 :: iJ 54 5 52 53 :: fJ 55 1 54 :: lJ 56 55 :: nJ 57 56 :: bJ 58 .add 50 57 :: fJ 59 2 5 :: lJ 60 59 :: mJ 61 6 :: iJ 62 5 60 61 :: fJ 63 0 62 :: lJ 64 63 :: nJ 65 64 :: bJ 66 .add 58 65 :: mJ 3 66 :: []) [1, 3, 4, 5, 6]) Q4r)) Qj3)
def Qxz : SC := (.seq (.seq (.reg ( mJ 43 6 :: fJ 44 2 5 :: lJ 45 44 :: nJ 46 45 :: bJ 47 .lss 43 46 :: []) [1, 3, 4, 5, 6, 47]) (.cond (.t 47) .skip (.exit 2))) Qz5)
def Qj4 : SC := (.seq (.reg ( fI 6 (.mv (kI 0)) :: []) [1, 3, 4, 5, 6]) (.block 2 (.loop Qxz)))
def Qz6 : SC := (.seq (.seq (.reg ( fJ 24 0 5 :: lJ 25 24 :: aJ 26 Qbk [.t 25, kI 0, kI 3] :: Qj7) [1, 3, 4, 5, 42]) s_sp_UnitValid_6) Qj4)
def Qej : SC := (.reg ( mJ 17 4 :: cJ 18 .add 17 1 :: mJ 4 18 :: []) [1, 3, 4])
def Qz7 : SC := (.seq (.block 1 (.seq (.reg ( fJ 19 0 1 :: lJ 20 19 :: mJ 21 4 :: iJ 22 3 20 21 :: tJ 23 3 22 :: eI 5 (.alloc [.int .i64 0, .int .i64 0, .sl true 5 []]) :: Qj6) [1, 3, 4, 5]) Qz6)) Qej)
def Qx0 : SC := (.seq (.seq (.reg ( mJ 12 4 :: fJ 13 0 1 :: lJ 14 13 :: nJ 15 14 :: bJ 16 .lss 12 15 :: []) [1, 3, 4, 16]) (.cond (.t 16) .skip (.exit 0))) Qz7)
def Qek : SC := (.seq (.reg ( fI 2 (.mv (.k (.c (.bool true)))) :: []) [2]) .ret)
def Qz8 : SC := (.seq (.seq (.reg ( fI 4 (.mv (kI 0)) :: []) [1, 3, 4]) (.block 0 (.loop Qx0))) Qek)
def Qz9 : SC := (.seq (.reg ( fI 3 (.mv (kI 0)) :: []) [1, 3]) Qz8)
def Q0a : SC := (.seq (.seq (.reg ( fJ 7 0 1 :: lJ 8 7 :: nJ 9 8 :: aJ 10 Qbk [.t 9, kI 1, kI 4] :: Qj5) [1, 11]) Q4q) Qz9)
def Qahd : SC := (.seq (.reg ( fI 1 (.box (.t 0)) :: fI 2 (.mv (.k (.c (.bool false)))) :: []) [1]) Q0a)
def Qc1 : List RS := [.tmp 2]
theorem Qadg : mFn prog Qce 1 76 Qahd Qc1 = true := by kernel_rfl
def Qaca : List Item := .e none none (.sto 1 (.t 3) (.t 5)) :: []
def Qacb : List Item := fJ 20 0 3 :: .e none none (.sto 1 (.t 20) (.t 19)) :: []
def Qacc : List Item := .chk 14 none (.ld 1 false (.t 13)) :: fI 18 (.bsl 3 [.t 17]) :: eI 19 (.app 3 (.t 14) (.t 18)) :: Qacb
def Qa1j : SC := (.reg ( mJ 11 4 :: cJ 12 .add 11 1 :: mJ 4 12 :: []) [1, 2, 3, 4])
def Qa1k : SC := (.seq (.block 1 (.dreg 9 [0, 1, 2, 3, 4, 1, 5, 6, 7, 8] ( fJ 13 0 3 :: lJ 14 13 :: tJ 15 1 1 :: mJ 16 4 :: aJ 17 Qare [.t 15, .t 16] :: Qacc) [1, 2, 3, 4])) Qa1j)
def Qawz : SC := (.seq (.seq (.reg ( mJ 6 4 :: fJ 7 0 1 :: lJ 8 7 :: nJ 9 8 :: bJ 10 .lss 6 9 :: []) [1, 2, 3, 4, 10]) (.cond (.t 10) .skip (.exit 0))) Qa1k)
def Qa1l : SC := (.seq (.reg ( tJ 21 1 3 :: .e none none (.sto 1 (.t 2) (.t 21)) :: []) [2]) .ret)
def Qa1m : SC := (.seq (.seq (.reg ( fI 4 (.mv (kI 0)) :: []) [1, 2, 3, 4]) (.block 0 (.loop Qawz))) Qa1l)
def Qa1n : SC := (.seq (.reg ( fI 5 (.bld [.sl true 3 []] []) :: eI 3 (.alloc [.sl true 3 []]) :: Qaca) [1, 2, 3]) Qa1m)
def Qa8n : SC := (.seq (.reg ( fI 1 (.box (.t 0)) :: eI 2 (.alloc [.sl true 3 []]) :: []) [1, 2]) Qa1n)
def Qaya : List RS := [.cell 2 1 true]
theorem Qa7n : mFn prog Q5v 1 22 Qa8n Qaya = true := by kernel_rfl
def Q9k : List Item := mJ 3 13 :: []
def Q9l : List Item := fI 12 (.bld [.pnil, .sl true 3 [], .sl true 1 [], .int .i64 0, .int .i64 0] [(0, 1, .t 8), (4, 1, .t 11)]) :: eI 13 (.boxm (.t 12)) :: Q9k
def Q9m : List Item := mJ 4 16 :: []
def Q9n : List Item := .chk 26 none (.ld 1 false (.t 25)) :: .chk 27 none (.len (.t 26)) :: .chk 28 none (.iad 1 (.t 22) (.t 27)) :: .chk 29 none (.ld 1 false (.t 28)) :: .e none none (.sto 3 (.t 5) (.t 32)) :: []
def Q9o : List Item := eI 5 (.alloc [.str [], .sl true 1 [], .sl true 5 []]) :: Q9n
def Q9p : List Item := .chk 26 none (.ld 1 false (.t 25)) :: .chk 27 none (.len (.t 26)) :: .chk 28 none (.iad 1 (.t 22) (.t 27)) :: .chk 29 none (.ld 1 false (.t 28)) :: aJ 32 Qkj [.t 21, .t 29, .t 31] :: Q9o
def Q9q : List Item := kJ 41 33 :: fJ 42 1 41 :: .e none none (.sto 1 (.t 42) (.t 40)) :: []
def Qa0e : SC := (.dreg 11 [0, 1, 2, 3, 4, 5, 6, 7, 8, 9, 10] ( mJ 33 3 :: mJ 34 3 :: kJ 35 34 :: fJ 36 1 35 :: lJ 37 36 :: tJ 38 3 5 :: fI 39 (.bsl 3 [.t 38]) :: eI 40 (.app 3 (.t 37) (.t 39)) :: Q9q) [0, 2, 3, 4])
def Qa0f : SC := (.reg ( mJ 19 4 :: cJ 20 .sub 19 1 :: mJ 4 20 :: []) [0, 2, 3, 4])
def Qa0g : SC := (.seq (.block 1 (.seq (.dreg 12 [0, 1, 2, 3, 4, 5, 6, 7, 8, 9, 10, 5, 6, 7, 8, 11, 12, 5, 6, 7, 8, 13] ( mJ 21 3 :: fI 22 (.bsl 1 [.k (.c (.str [102])), .k (.c (.str [103])), .k (.c (.str [104]))]) :: mJ 23 3 :: kJ 24 23 :: fJ 25 1 24 :: lJ 26 25 :: nJ 27 26 :: iJ 28 1 22 27 :: lJ 29 28 :: mJ 30 0 :: aJ 31 Qk [.t 30, kI 3] :: Q9p) [0, 2, 3, 4, 5]) Qa0e)) Qa0f)
def Qao7 : SC := (.seq (.seq (.reg ( mJ 17 4 :: cJ 18 .gtr 17 0 :: []) [0, 2, 3, 4, 18]) (.cond (.t 18) .skip (.exit 0))) Qa0g)
def Q1l : List Item := .e none none (.sto 3 (.t 6) (.t 47)) :: []
def Q1m : List Item := eI 6 (.alloc [.str [], .sl true 1 [], .sl true 5 []]) :: Q1l
def Q1n : List Item := eI 47 (.call Qkj [.t 43, .k (.c (.str [109])), .t 46]) :: Q1m
def Q1o : List Item := .chk 52 none (.ld 1 false (.t 51)) :: .chk 54 none (.ld 3 true (.t 6)) :: .e none none (.sto 1 (.t 7) (.t 57)) :: []
def Q1p : List Item := fI 57 (.bld [.sl true 3 []] [(0, 1, .t 56)]) :: eI 7 (.alloc [.sl true 3 []]) :: Q1o
def Q1q : List Item := .chk 54 none (.ld 3 true (.t 6)) :: eI 56 (.app 3 (.t 53) (.t 55)) :: Q1p
def Q1r : List Item := oJ 60 59 :: []
def Qat9 : SC := (.cond (.t 60) (.seq (.reg ( fI 61 (.bld [.int .i64 0, .int .i64 0, .str [], .sl true 4 []] [(0, 1, kI 1), (1, 1, kI 1)]) :: fI 62 (.bsl 4 [.t 61]) :: fI 63 (.bld [.int .i64 0, .str [], .sl true 4 [], .sl true 5 [], .sl true 5 []] [(0, 1, kI 3), (2, 1, .t 62)]) :: fI 64 (.bsl 5 [.t 63]) :: fI 65 (.bld [.str [], .sl true 1 [], .sl true 5 []] [(0, 1, .k (.c (.str [109]))), (2, 1, .t 64)]) :: fI 66 (.bsl 3 [.t 65]) :: fI 67 (.bld [.sl true 3 []] [(0, 1, .t 66)]) :: .e none none (.sto 1 (.t 2) (.t 67)) :: []) [2]) .ret) .skip)
def Qaua : SC := (.seq (.reg ( tJ 68 1 7 :: .e none none (.sto 1 (.t 2) (.t 68)) :: []) [2]) .ret)
def Qaub : SC := (.seq (.seq (.seq .gh (.reg ( tJ 58 1 7 :: aJ 59 Qdp [.t 58] :: Q1r) [2, 7, 60])) Qat9) Qaua)
def Qauc : SC := (.seq (.dreg 10 [0, 1, 2, 3, 4, 6, 7, 5, 6, 8, 9, 10, 4, 6, 11] ( fI 48 (.bsl 3 []) :: mJ 49 3 :: kJ 50 49 :: fJ 51 1 50 :: lJ 52 51 :: tJ 54 3 6 :: fI 55 (.bsl 3 [.t 54]) :: eI 53 (.app 3 (.t 48) (.t 52)) :: Q1q) [2, 7]) Qaub)
def Qaud : SC := (.seq (.reg ( mJ 43 3 :: mJ 44 0 :: fI 45 (.bsl 1 [kI 0, kI 1, kI 2, kI 1]) :: aJ 46 Q8 [.t 44, .t 45] :: Q1n) [2, 3, 6]) Qauc)
def Qaue : SC := (.seq (.seq (.reg ( mJ 14 0 :: fI 15 (.bsl 1 [kI 0, kI 1, kI 1, kI 2]) :: aJ 16 Q8 [.t 14, .t 15] :: Q9m) [0, 2, 3, 4]) (.block 0 (.loop Qao7))) Qaud)
def Qauf : SC := (.seq (.reg ( mJ 8 0 :: mJ 9 0 :: fI 10 (.bsl 1 [kI 14, kI 20, kI 8, kI 26]) :: aJ 11 Q8 [.t 9, .t 10] :: Q9l) [0, 2, 3]) Qaue)
def Qa78 : SC := (.seq (.reg ( eI 2 (.alloc [.sl true 3 []]) :: []) [0, 2]) Qauf)
def Qajy : List RS := [.cell 2 1 true]
theorem Qa7c : mFn prog Q5n 1 69 Qa78 Qajy = true := by kernel_rfl
def Qaaf : List Item := .e none none (.sto 3 (.t 3) (.t 9)) :: []
def Qaag : List Item := fJ 27 2 3 :: .e none none (.sto 1 (.t 27) (.t 26)) :: []
def Qaah : List Item := .chk 18 none (.ld 1 false (.t 17)) :: fI 25 (.bsl 5 [.t 24]) :: eI 26 (.app 5 (.t 18) (.t 25)) :: Qaag
def Qa0u : SC := (.reg ( mJ 15 4 :: cJ 16 .add 15 1 :: mJ 4 16 :: []) [1, 2, 3, 4])
def Qa0v : SC := (.seq (.block 1 (.dreg 12 [0, 1, 2, 3, 4, 5, 6, 7, 1, 8, 9, 10, 11] ( fJ 17 2 3 :: lJ 18 17 :: fJ 19 2 1 :: lJ 20 19 :: mJ 21 4 :: iJ 22 5 20 21 :: tJ 23 5 22 :: aJ 24 Qh5 [.t 23] :: Qaah) [1, 2, 3, 4])) Qa0u)
def Qav0 : SC := (.seq (.seq (.reg ( mJ 10 4 :: fJ 11 2 1 :: lJ 12 11 :: nJ 13 12 :: bJ 14 .lss 10 13 :: []) [1, 2, 3, 4, 14]) (.cond (.t 14) .skip (.exit 0))) Qa0v)
def Qa0w : SC := (.seq (.reg ( tJ 28 3 3 :: .e none none (.sto 3 (.t 2) (.t 28)) :: []) [2]) .ret)
def Qa0x : SC := (.seq (.seq (.reg ( fI 4 (.mv (kI 0)) :: []) [1, 2, 3, 4]) (.block 0 (.loop Qav0))) Qa0w)
def Qa0y : SC := (.seq (.reg ( fJ 5 0 1 :: lJ 6 5 :: fJ 7 1 1 :: lJ 8 7 :: fI 9 (.bld [.int .i64 0, .int .i64 0, .sl true 5 []] [(0, 1, .t 6), (1, 1, .t 8)]) :: eI 3 (.alloc [.int .i64 0, .int .i64 0, .sl true 5 []]) :: Qaaf) [1, 2, 3]) Qa0x)
def Qa8d : SC := (.seq (.reg ( fI 1 (.box (.t 0)) :: eI 2 (.alloc [.int .i64 0, .int .i64 0, .sl true 5 []]) :: []) [1, 2]) Qa0y)
def Qax5 : List RS := [.cell 2 3 true]
theorem Qa7h : mFn prog Q5r 1 29 Qa8d Qax5 = true := by kernel_rfl
def Q2c : List Item := mJ 5 41 :: []
def Qav2 : SC := (.cond (.t 37) (.seq (.reg ( mJ 38 5 :: mJ 39 6 :: fI 40 (.bsl 1 [.t 39]) :: eI 41 (.app 1 (.t 38) (.t 40)) :: Q2c) [1, 2, 5, 6]) (.exit 2)) .skip)
def Qav3 : SC := (.reg ( mJ 25 7 :: cJ 26 .add 25 1 :: mJ 7 26 :: []) [1, 2, 5, 6, 7])
def Qav4 : SC := (.seq (.block 3 (.seq (.reg ( fJ 27 2 2 :: lJ 28 27 :: mJ 29 6 :: iJ 30 5 28 29 :: fJ 31 4 30 :: lJ 32 31 :: mJ 33 7 :: iJ 34 1 32 33 :: lJ 35 34 :: mJ 36 1 :: bJ 37 .eql 35 36 :: []) [1, 2, 5, 6, 7, 37]) Qav2)) Qav3)
def Qapr : SC := (.seq (.seq (.reg ( mJ 16 7 :: fJ 17 2 2 :: lJ 18 17 :: mJ 19 6 :: iJ 20 5 18 19 :: fJ 21 4 20 :: lJ 22 21 :: nJ 23 22 :: bJ 24 .lss 16 23 :: []) [1, 2, 5, 6, 7, 24]) (.cond (.t 24) .skip (.exit 2))) Qav4)
def Qaaj : SC := (.reg ( mJ 14 6 :: cJ 15 .add 14 1 :: mJ 6 15 :: []) [1, 2, 5, 6])
def Qav5 : SC := (.seq (.block 1 (.seq (.reg ( fI 7 (.mv (kI 0)) :: []) [1, 2, 5, 6, 7]) (.block 2 (.loop Qapr)))) Qaaj)
def Qaps : SC := (.seq (.seq (.reg ( mJ 9 6 :: fJ 10 2 2 :: lJ 11 10 :: nJ 12 11 :: bJ 13 .lss 9 12 :: []) [1, 2, 5, 6, 13]) (.cond (.t 13) .skip (.exit 0))) Qav5)
def Qaak : SC := (.seq (.reg ( mJ 42 5 :: mJ 4 42 :: []) [4]) .ret)
def Qav6 : SC := (.seq (.seq (.reg ( fI 6 (.mv (kI 0)) :: []) [1, 2, 5, 6]) (.block 0 (.loop Qaps))) Qaak)
def Qapq : SC := (.seq (.reg ( fI 8 (.bsl 1 []) :: mJ 5 8 :: []) [1, 2, 5]) Qav6)
def Qa46 : SC := (.seq (.reg ( fI 2 (.box (.t 0)) :: fI 4 (.mv (.k (.c (.sl true 1 [])))) :: []) [1, 2]) Qapq)
def Q6v : List RS := [.tmp 4]
theorem Qa3m : mFn prog Qix 2 43 Qa46 Q6v = true := by kernel_rfl
def Q94 : List Item := .e none none (.sto 3 (.t 5) (.t 13)) :: []
def Q95 : List Item := fI 13 (.bld [.int .i64 0, .int .i64 0, .sl true 5 []] [(0, 1, .t 12)]) :: eI 5 (.alloc [.int .i64 0, .int .i64 0, .sl true 5 []]) :: Q94
def Q96 : List Item := .chk 15 none (.ld 1 false (.t 14)) :: bJ 19 .add 16 18 :: fJ 20 1 5 :: .e none none (.sto 1 (.t 20) (.t 19)) :: []
def Q97 : List Item := mJ 6 23 :: []
def Q98 : List Item := .e none none (.sto 5 (.t 8) (.t 29)) :: []
def Q99 : List Item := mJ 9 32 :: []
def Qaaa : List Item := fJ 46 1 8 :: .e none none (.sto 1 (.t 46) (.t 45)) :: []
def Qaab : List Item := .chk 38 none (.ld 1 false (.t 37)) :: fI 44 (.bsl 4 [.t 43]) :: eI 45 (.app 4 (.t 38) (.t 44)) :: Qaaa
def Qa0s : SC := (.reg ( mJ 35 9 :: cJ 36 .sub 35 1 :: mJ 9 36 :: []) [0, 3, 4, 5, 6, 7, 8, 9])
def Qa0t : SC := (.seq (.block 3 (.dreg 11 [0, 1, 2, 3, 4, 5, 6, 1, 7, 8, 9, 10] ( fJ 37 1 8 :: lJ 38 37 :: mJ 39 0 :: tJ 40 1 3 :: fJ 41 1 5 :: lJ 42 41 :: aJ 43 Q5s [.t 39, .t 40, .t 42] :: Qaab) [0, 3, 4, 5, 6, 7, 8, 9])) Qa0s)
def Qapn : SC := (.seq (.seq (.reg ( mJ 33 9 :: cJ 34 .gtr 33 0 :: []) [0, 3, 4, 5, 6, 7, 8, 9, 34]) (.cond (.t 34) .skip (.exit 2))) Qa0t)
def Q15 : List Item := fJ 51 3 8 :: .e none none (.sto 1 (.t 51) (.t 50)) :: []
def Q16 : List Item := fJ 55 2 8 :: .e none none (.sto 1 (.t 55) (.t 54)) :: []
def Qhz : List Item := gT 66 63 (.bin 0 .gtr (.t 65) (kI 0)) :: gF 67 58 (.pick (.t 63) (.t 66) (.k (.c (.bool false)))) :: fI 68 (.pick (.t 58) (.k (.c (.bool true))) (.t 67)) :: []
def Q93 : SC := (.cond (.t 68) (.reg ( fJ 69 2 8 :: .e none none (.sto 1 (.t 69) (kI 3)) :: []) [0, 3, 4, 5, 6, 7, 8]) .skip)
def Q17 : List Item := fI 79 (.bsl 1 [.t 78]) :: fJ 80 4 8 :: .e none none (.sto 1 (.t 80) (.t 79)) :: []
def Qavj : SC := (.reg ( mJ 75 0 :: mJ 76 7 :: mJ 77 6 :: aJ 78 Q5t [.t 75, .t 76, .t 77] :: Q17) [0, 3, 4, 5, 6, 7, 8])
def Q18 : List Item := fI 91 (.bsl 1 [.t 86, .t 90]) :: fJ 92 4 8 :: .e none none (.sto 1 (.t 92) (.t 91)) :: []
def Q19 : List Item := mJ 87 0 :: mJ 88 7 :: mJ 89 6 :: aJ 90 Q5t [.t 87, .t 88, .t 89] :: Q18
def Qavk : SC := (.cond (.t 81) (.reg ( mJ 83 0 :: mJ 84 7 :: mJ 85 6 :: aJ 86 Q5t [.t 83, .t 84, .t 85] :: Q19) [0, 3, 4, 5, 6, 7, 8]) .skip)
def Qavl : SC := (.cond (.t 72) (.seq (.reg ( fJ 74 3 8 :: .e none none (.sto 1 (.t 74) (kI 0)) :: []) [0, 3, 4, 5, 6, 7, 8]) Qavj) (.seq (.reg ( cJ 82 .eql 71 2 :: mJ 81 82 :: []) [0, 3, 4, 5, 6, 7, 8, 81]) Qavk))
def Qavm : SC := (.block 4 (.seq (.reg ( cJ 73 .eql 71 1 :: mJ 72 73 :: []) [0, 3, 4, 5, 6, 7, 8, 71, 72]) Qavl))
def Q2a : List Item := fJ 98 2 5 :: .e none none (.sto 1 (.t 98) (.t 97)) :: []
def Qavn : SC := (.reg ( fJ 93 2 5 :: lJ 94 93 :: tJ 95 5 8 :: fI 96 (.bsl 5 [.t 95]) :: eI 97 (.app 5 (.t 94) (.t 96)) :: Q2a) [0, 3, 4, 5, 6, 7])
def Qavo : SC := (.seq (.seq (.reg ( fJ 70 2 8 :: lJ 71 70 :: []) [0, 3, 4, 5, 6, 7, 8, 71]) Qavm) Qavn)
def Qavp : SC := (.seq (.seq (.reg ( mJ 56 6 :: cJ 57 .eql 56 1 :: mJ 58 57 :: gFm 59 58 7 :: gFm 60 58 6 :: gF 61 58 (.bin 0 .sub (.t 60) (kI 1)) :: gF 62 58 (.bin 0 .eql (.t 59) (.t 61)) :: gFm 63 58 62 :: gTm 64 63 0 :: .e (some 65) (some (63, true)) (.call Qk [.t 64, kI 3]) :: Qhz) [0, 3, 4, 5, 6, 7, 8, 68]) Q93) Qavo)
def Qavq : SC := (.seq (.reg ( mJ 52 0 :: fI 53 (.bsl 1 [kI 2, kI 1, kI 2, kI 1, kI 3]) :: aJ 54 Q8 [.t 52, .t 53] :: Q16) [0, 3, 4, 5, 6, 7, 8]) Qavp)
def Qavr : SC := (.seq (.reg ( mJ 47 0 :: fJ 48 1 5 :: lJ 49 48 :: aJ 50 Qk [.t 47, .t 49] :: Q15) [0, 3, 4, 5, 6, 7, 8]) Qavq)
def Qavs : SC := (.seq (.seq (.reg ( mJ 30 0 :: fI 31 (.bsl 1 [kI 1, kI 2, kI 0, kI 3, kI 4]) :: aJ 32 Q8 [.t 30, .t 31] :: Q99) [0, 3, 4, 5, 6, 7, 8, 9]) (.block 2 (.loop Qapn))) Qavr)
def Qavt : SC := (.reg ( mJ 27 7 :: cJ 28 .add 27 1 :: mJ 7 28 :: []) [0, 3, 4, 5, 6, 7])
def Qavu : SC := (.seq (.block 1 (.seq (.reg ( fI 29 (.bld [.sl true 2 [], .sl true 4 [], .int .i64 0, .int .i64 0, .sl true 1 []] []) :: eI 8 (.alloc [.sl true 2 [], .sl true 4 [], .int .i64 0, .int .i64 0, .sl true 1 []]) :: Q98) [0, 3, 4, 5, 6, 7, 8]) Qavs)) Qavt)
def Qapo : SC := (.seq (.seq (.reg ( mJ 24 7 :: mJ 25 6 :: bJ 26 .lss 24 25 :: []) [0, 3, 4, 5, 6, 7, 26]) (.cond (.t 26) .skip (.exit 0))) Qavu)
def Qavv : SC := (.seq (.reg ( tJ 99 3 5 :: .e none none (.sto 3 (.t 4) (.t 99)) :: []) [4]) .ret)
def Qavw : SC := (.seq (.seq (.reg ( fI 7 (.mv (kI 0)) :: []) [0, 3, 4, 5, 6, 7]) (.block 0 (.loop Qapo))) Qavv)
def Qavx : SC := (.seq (.reg ( mJ 21 0 :: fI 22 (.bsl 1 [kI 3, kI 5, kI 2, kI 1, kI 7, kI 4]) :: aJ 23 Q8 [.t 21, .t 22] :: Q97) [0, 3, 4, 5, 6]) Qavw)
def Qavy : SC := (.seq (.dreg 8 [0, 1, 2, 3, 4, 1, 5, 6, 7] ( fJ 14 0 5 :: lJ 15 14 :: cJ 16 .add 15 2 :: mJ 17 0 :: aJ 18 Qk [.t 17, kI 5] :: Q96) [0, 3, 4, 5]) Qavx)
def Qavz : SC := (.seq (.reg ( mJ 10 0 :: fI 11 (.bsl 1 [kI 1, kI 0, kI 2, kI 3]) :: aJ 12 Q8 [.t 10, .t 11] :: Q95) [0, 3, 4, 5]) Qavy)
def Qa8c : SC := (.seq (.reg ( fI 3 (.box (.t 1)) :: eI 4 (.alloc [.int .i64 0, .int .i64 0, .sl true 5 []]) :: []) [0, 3, 4]) Qavz)
def Qax4 : List RS := [.cell 4 3 true]
theorem Qa7g : mFn prog Q5q 2 100 Qa8c Qax4 = true := by kernel_rfl
def Qa7x : SC := (.seq (.reg ( mJ 7 0 :: mJ 8 1 :: bJ 9 .geq 7 8 :: mJ 10 9 :: gTm 11 10 0 :: gTm 12 10 2 :: gT 13 10 (.bin 0 .leq (.t 11) (.t 12)) :: fI 14 (.pick (.t 10) (.t 13) (.k (.c (.bool false)))) :: mJ 6 14 :: []) [6]) .ret)
def Qbcn : SC := (.seq (.reg ( fI 6 (.mv (.k (.c (.bool false)))) :: []) [0, 1, 2]) Qa7x)
def Qa88 : List RS := [.tmp 6]
theorem Qbcd : mFn prog Qbk 3 15 Qbcn Qa88 = true := by kernel_rfl
def Q12 : List Item := .e none none (.sto 3 (.t 7) (.t 18)) :: []
def Q13 : List Item := .e none none (.sto 5 (.t 8) (.t 23)) :: []
def Qave : SC := (.cond (.t 30) (.seq (.reg ( fI 6 (.mv (.k (.c (.bool false)))) :: []) [6]) .ret) .skip)
def Qavf : SC := (.cond (.t 33) (.reg ( fI 9 (.mv (kI 0)) :: []) [1, 2, 3, 7, 8, 9]) (.seq (.reg ( fI 6 (.mv (.k (.c (.bool false)))) :: []) [6]) .ret))
def Qavg : SC := (.cond (.t 31) (.reg ( fI 9 (.mv (kI 2)) :: []) [1, 2, 3, 7, 8, 9]) (.seq (.reg ( cJ 34 .eql 25 3 :: mJ 33 34 :: []) [1, 2, 3, 7, 8, 33]) Qavf))
def Qavh : SC := (.cond (.t 26) (.seq (.reg ( fJ 28 3 8 :: lJ 29 28 :: cJ 30 .neq 29 0 :: []) [1, 2, 3, 7, 8, 9, 30]) Qave) (.seq (.reg ( cJ 32 .eql 25 2 :: mJ 31 32 :: []) [1, 2, 3, 7, 8, 25, 31]) Qavg))
def Qavi : SC := (.block 0 (.seq (.reg ( cJ 27 .eql 25 1 :: mJ 26 27 :: []) [1, 2, 3, 7, 8, 9, 25, 26]) Qavh))
def Qhy : List Item := gT 51 44 (.not (.t 50)) :: gF 52 40 (.pick (.t 44) (.t 51) (.k (.c (.bool false)))) :: fI 53 (.pick (.t 40) (.k (.c (.bool true))) (.t 52)) :: []
def s_l7Block_8 : SC := (.cond (.t 53) (.seq (.reg ( fI 6 (.mv (.k (.c (.bool false)))) :: []) [6]) .ret) .skip)
def Q14 : List Item := oJ 71 70 :: []
def Qao9 : SC := (.cond (.t 71) (.seq (.reg ( fI 6 (.mv (.k (.c (.bool false)))) :: []) [6]) .ret) .skip)
def Qapa : SC := (.reg ( mJ 59 10 :: cJ 60 .add 59 1 :: mJ 10 60 :: []) [1, 2, 3, 7, 8, 10])
def Qapb : SC := (.seq (.block 2 (.seq (.dreg 11 [0, 1, 2, 3, 4, 5, 6, 7, 8, 9, 10] ( fJ 61 4 8 :: lJ 62 61 :: mJ 63 10 :: iJ 64 1 62 63 :: lJ 65 64 :: fJ 66 2 7 :: lJ 67 66 :: nJ 68 67 :: cJ 69 .sub 68 1 :: aJ 70 Qbk [.t 65, kI 1, .t 69] :: Q14) [1, 2, 3, 7, 8, 10, 71]) Qao9)) Qapa)
def Qalb : SC := (.seq (.seq (.reg ( mJ 54 10 :: fJ 55 4 8 :: lJ 56 55 :: nJ 57 56 :: bJ 58 .lss 54 57 :: []) [1, 2, 3, 7, 8, 10, 58]) (.cond (.t 58) .skip (.exit 1))) Qapb)
def Qxt : List Item := oJ 87 86 :: []
def Qapc : SC := (.cond (.t 87) (.seq (.reg ( fI 6 (.mv (.k (.c (.bool false)))) :: []) [6]) .ret) .skip)
def Qapd : SC := (.reg ( mJ 77 11 :: cJ 78 .add 77 1 :: mJ 11 78 :: []) [1, 2, 3, 7, 8, 11])
def Qape : SC := (.seq (.block 4 (.seq (.dreg 9 [0, 1, 2, 3, 4, 5, 6, 7, 8] ( tJ 79 1 3 :: mJ 80 1 :: fJ 81 1 8 :: lJ 82 81 :: mJ 83 11 :: iJ 84 4 82 83 :: tJ 85 4 84 :: aJ 86 Qai0 [.t 79, .t 80, .t 85] :: Qxt) [1, 2, 3, 7, 8, 11, 87]) Qapc)) Qapd)
def Qalc : SC := (.seq (.seq (.reg ( mJ 72 11 :: fJ 73 1 8 :: lJ 74 73 :: nJ 75 74 :: bJ 76 .lss 72 75 :: []) [1, 2, 3, 7, 8, 11, 76]) (.cond (.t 76) .skip (.exit 3))) Qape)
def Qxu : List Item := mJ 12 90 :: []
def Qfm : List Item := gF 134 123 (.not (.t 133)) :: fI 135 (.pick (.t 123) (.k (.c (.bool true))) (.t 134)) :: []
def Qld : List Item := gF 121 112 (.not (.t 120)) :: fI 122 (.pick (.t 112) (.k (.c (.bool true))) (.t 121)) :: mJ 123 122 :: gFf 124 123 0 8 :: gFl 125 123 124 :: gFm 126 123 13 :: gF 127 123 (.iad 2 (.t 125) (.t 126)) :: gFf 128 123 0 127 :: gFl 129 123 128 :: gFf 130 123 1 7 :: gFl 131 123 130 :: gF 132 123 (.bin 0 .sub (.t 131) (kI 1)) :: .e (some 133) (some (123, false)) (.call Qbk [.t 129, kI 0, .t 132]) :: Qfm
def Q1x : SC := (.cond (.t 135) (.seq (.reg ( fI 6 (.mv (.k (.c (.bool false)))) :: []) [6]) .ret) .skip)
def Q1y : SC := (.reg ( mJ 96 13 :: cJ 97 .add 96 1 :: mJ 13 97 :: []) [2, 7, 8, 12, 13])
def Qapf : SC := (.seq (.block 6 (.seq (.dreg 38 [0, 1, 2, 3, 4, 5, 6, 7, 8, 9, 10, 11, 12, 13, 14, 15, 16, 17, 18, 19, 20, 21, 22, 23, 24, 25, 26, 27, 28, 29, 30, 31, 32, 33, 34, 35, 36, 37] ( mJ 98 2 :: cJ 99 .eql 98 0 :: mJ 100 99 :: gFf 101 100 0 8 :: gFl 102 100 101 :: gFm 103 100 13 :: gF 104 100 (.iad 2 (.t 102) (.t 103)) :: gFf 105 100 1 104 :: gFl 106 100 105 :: gF 107 100 (.len (.t 106)) :: gFm 108 100 12 :: gF 109 100 (.len (.t 108)) :: gF 110 100 (.bin 0 .neq (.t 107) (.t 109)) :: fI 111 (.pick (.t 100) (.k (.c (.bool true))) (.t 110)) :: mJ 112 111 :: gF 113 112 (.ld 3 true (.t 7)) :: gFf 114 112 0 8 :: gFl 115 112 114 :: gFm 116 112 13 :: gF 117 112 (.iad 2 (.t 115) (.t 116)) :: gFf 118 112 1 117 :: gFl 119 112 118 :: .e (some 120) (some (112, false)) (.call Qv0 [.t 113, .t 119]) :: Qld) [2, 7, 8, 12, 13, 135]) Q1x)) Q1y)
def Qald : SC := (.seq (.seq (.reg ( mJ 91 13 :: fJ 92 0 8 :: lJ 93 92 :: nJ 94 93 :: bJ 95 .lss 91 94 :: []) [2, 7, 8, 12, 13, 95]) (.cond (.t 95) .skip (.exit 5))) Qapf)
def Q1z : SC := (.seq (.reg ( fI 6 (.mv (.k (.c (.bool true)))) :: []) [6]) .ret)
def Qapg : SC := (.seq (.seq (.reg ( fI 13 (.mv (kI 0)) :: []) [2, 7, 8, 12, 13]) (.block 5 (.loop Qald))) Q1z)
def Qaph : SC := (.seq (.reg ( tJ 88 3 7 :: mJ 89 2 :: aJ 90 Qix [.t 88, .t 89] :: Qxu) [2, 7, 8, 12]) Qapg)
def Qapi : SC := (.seq (.seq (.reg ( fI 11 (.mv (kI 0)) :: []) [1, 2, 3, 7, 8, 11]) (.block 3 (.loop Qalc))) Qaph)
def Q10 : SC := (.seq (.seq (.reg ( fI 10 (.mv (kI 0)) :: []) [1, 2, 3, 7, 8, 10]) (.block 1 (.loop Qalb))) Qapi)
def Q11 : SC := (.seq (.seq (.reg ( fJ 35 4 8 :: lJ 36 35 :: nJ 37 36 :: mJ 38 9 :: bJ 39 .neq 37 38 :: mJ 40 39 :: gFf 41 40 2 8 :: gFl 42 40 41 :: gF 43 40 (.bin 0 .neq (.t 42) (kI 1)) :: gFm 44 40 43 :: gTf 45 44 3 8 :: gTl 46 44 45 :: gTf 47 44 1 7 :: gTl 48 44 47 :: gT 49 44 (.bin 0 .sub (.t 48) (kI 1)) :: .e (some 50) (some (44, true)) (.call Qbk [.t 46, kI 0, .t 49]) :: Qhy) [1, 2, 3, 7, 8, 53]) s_l7Block_8) Q10)
def Qapj : SC := (.seq (.seq (.reg ( fJ 24 2 8 :: lJ 25 24 :: []) [1, 2, 3, 7, 8, 9, 25]) Qavi) Q11)
def Qapk : SC := (.seq (.reg ( fI 9 (.mv (kI 1)) :: []) [1, 2, 3, 7, 8, 9]) Qapj)
def Qapl : SC := (.seq (.reg ( fJ 19 2 7 :: lJ 20 19 :: mJ 21 2 :: iJ 22 5 20 21 :: tJ 23 5 22 :: eI 8 (.alloc [.sl true 2 [], .sl true 4 [], .int .i64 0, .int .i64 0, .sl true 1 []]) :: Q13) [1, 2, 3, 7, 8]) Qapk)
def Qapm : SC := (.seq (.reg ( fJ 14 0 3 :: lJ 15 14 :: mJ 16 1 :: iJ 17 3 15 16 :: tJ 18 3 17 :: eI 7 (.alloc [.int .i64 0, .int .i64 0, .sl true 5 []]) :: Q12) [1, 2, 3, 7]) Qapl)
def Qa43 : SC := (.seq (.reg ( fI 3 (.box (.t 0)) :: fI 6 (.mv (.k (.c (.bool false)))) :: []) [1, 2, 3]) Qapm)
def Qja : List RS := [.tmp 6]
theorem Qa3k : mFn prog Qyl 3 136 Qa43 Qja = true := by kernel_rfl
def Qapy : List Item := .e none none (.sto 3 (.t 5) (.t 13)) :: []
def Qapz : List Item := mJ 6 19 :: []
def Qap0 : List Item := .chk 29 none (.ld 1 false (.t 28)) :: .chk 30 none (.len (.t 29)) :: bJ 34 .add 30 33 :: kJ 35 27 :: fJ 36 1 35 :: fJ 37 1 36 :: .e none none (.sto 1 (.t 37) (.t 34)) :: []
def Qap1 : List Item := kJ 59 45 :: fJ 60 5 59 :: .e none none (.sto 1 (.t 60) (.t 58)) :: []
def Qa8j : SC := (.reg ( mJ 43 7 :: cJ 44 .add 43 1 :: mJ 7 44 :: []) [4, 5, 6, 7])
def Qa8k : SC := (.seq (.block 1 (.dreg 17 [0, 1, 2, 3, 4, 5, 6, 7, 8, 9, 10, 11, 12, 13, 14, 15, 16] ( mJ 45 6 :: mJ 46 6 :: kJ 47 46 :: fJ 48 5 47 :: lJ 49 48 :: fJ 50 1 5 :: lJ 51 50 :: mJ 52 7 :: iJ 53 1 51 52 :: lJ 54 53 :: mJ 55 7 :: fI 56 (.bld [.str [], .int .i64 0, .int .i64 0] [(0, 1, .t 54), (1, 1, .t 55), (2, 1, kI 0)]) :: fI 57 (.bsl 3 [.t 56]) :: eI 58 (.app 3 (.t 49) (.t 57)) :: Qap1) [4, 5, 6, 7])) Qa8j)
def Qa5g : SC := (.seq (.seq (.reg ( mJ 38 7 :: fJ 39 1 5 :: lJ 40 39 :: nJ 41 40 :: bJ 42 .lss 38 41 :: []) [4, 5, 6, 7, 42]) (.cond (.t 42) .skip (.exit 0))) Qa8k)
def Qap2 : List Item := mJ 8 71 :: []
def Qap3 : List Item := fI 70 (.bsl 1 []) :: aJ 71 Qar [.t 67, kI 1, .t 69, kI 0, .t 70] :: Qap2
def Qa8l : SC := (.seq (.reg ( mJ 76 6 :: kJ 77 76 :: fJ 78 1 77 :: tJ 79 3 78 :: .e none none (.sto 3 (.t 4) (.t 79)) :: []) [4]) .ret)
def Qa47 : SC := (.seq (.reg ( mJ 72 6 :: mJ 73 8 :: fI 74 (.bsl 1 []) :: aJ 75 Qax [.t 72, kI 3, .t 73, .t 74, kI 0] :: []) [4, 6]) Qa8l)
def Qa48 : SC := (.seq (.reg ( mJ 67 6 :: mJ 68 6 :: aJ 69 Qa0 [.t 68] :: Qap3) [4, 6, 8]) Qa47)
def Qa49 : SC := (.seq (.reg ( mJ 63 6 :: fJ 64 2 5 :: lJ 65 64 :: aJ 66 Qb8 [.t 63, .t 65] :: []) [4, 6]) Qa48)
def Qa5a : SC := (.seq (.reg ( mJ 61 6 :: aJ 62 Qak [.t 61] :: []) [4, 5, 6]) Qa49)
def Qa5b : SC := (.seq (.seq (.reg ( fI 7 (.mv (kI 0)) :: []) [4, 5, 6, 7]) (.block 0 (.loop Qa5g))) Qa5a)
def Qa5c : SC := (.seq (.dreg 12 [0, 1, 2, 3, 4, 5, 6, 2, 3, 7, 8, 9, 10, 11] ( mJ 27 6 :: fJ 28 1 5 :: lJ 29 28 :: nJ 30 29 :: fJ 31 2 5 :: lJ 32 31 :: aJ 33 Qoc [.t 32] :: Qap0) [4, 5, 6]) Qa5b)
def Qa5d : SC := (.seq (.reg ( mJ 20 6 :: fJ 21 1 5 :: lJ 22 21 :: nJ 23 22 :: kJ 24 20 :: fJ 25 1 24 :: fJ 26 0 25 :: .e none none (.sto 1 (.t 26) (.t 23)) :: []) [4, 5, 6]) Qa5c)
def Qa5e : SC := (.seq (.reg ( tJ 14 1 2 :: fJ 15 1 5 :: lJ 16 15 :: nJ 17 16 :: fI 18 (.bld [.sl true 3 [], .int .i64 0, .int .i64 0, .sl true 5 [], .int .i64 0, .sl true 3 [], .int .i64 0, .sl true 1 []] [(0, 1, .t 14), (6, 1, .t 17)]) :: eI 19 (.boxm (.t 18)) :: Qapz) [4, 5, 6]) Qa5d)
def Qa5f : SC := (.seq (.reg ( fJ 9 0 2 :: lJ 10 9 :: mJ 11 1 :: iJ 12 3 10 11 :: tJ 13 3 12 :: eI 5 (.alloc [.str [], .sl true 1 [], .sl true 5 []]) :: Qapy) [2, 4, 5]) Qa5e)
def Qbcq : SC := (.seq (.reg ( fI 2 (.box (.t 0)) :: eI 4 (.alloc [.int .i64 0, .int .i64 0, .sl true 5 []]) :: []) [1, 2, 4]) Qa5f)
def Qa89 : List RS := [.cell 4 3 true]
theorem Qbcg : mFn prog Qare 2 80 Qbcq Qa89 = true := by kernel_rfl
def Qxo : List Item := .e none none (.sto 3 (.t 7) (.t 26)) :: []
def Qxp : List Item := fI 26 (.bld [.str [], .sl true 1 [], .sl true 5 []] [(0, 1, .t 19), (1, 1, .t 25)]) :: eI 7 (.alloc [.str [], .sl true 1 [], .sl true 5 []]) :: Qxo
def Qxq : List Item := fJ 29 2 7 :: .e none none (.sto 1 (.t 29) (.t 28)) :: []
def Qlb : List Item := gT 41 35 (.bin 0 .gtr (.t 40) (kI 0)) :: fI 42 (.pick (.t 35) (.t 41) (.k (.c (.bool false)))) :: []
def Qxr : List Item := fJ 59 2 7 :: .e none none (.sto 1 (.t 59) (.t 58)) :: []
def Qxs : List Item := .chk 52 none (.ld 1 false (.t 51)) :: fI 55 (.bsl 4 [.t 54]) :: fI 56 (.bld [.int .i64 0, .str [], .sl true 4 [], .sl true 5 [], .sl true 5 []] [(0, 1, kI 7), (2, 1, .t 55)]) :: fI 57 (.bsl 5 [.t 56]) :: eI 58 (.app 5 (.t 52) (.t 57)) :: Qxr
def Qao3 : SC := (.dreg 10 [0, 1, 2, 3, 1, 4, 5, 6, 7, 8, 9] ( fJ 51 2 7 :: lJ 52 51 :: mJ 53 0 :: aJ 54 Qa6 [.t 53, kI 2] :: Qxs) [6, 7])
def s_l3Gen_fn_7 : SC := (.cond (.t 42) (.seq (.reg ( mJ 43 0 :: mJ 44 0 :: kJ 45 44 :: fJ 46 4 45 :: lJ 47 46 :: cJ 48 .sub 47 1 :: kJ 49 43 :: fJ 50 4 49 :: .e none none (.sto 1 (.t 50) (.t 48)) :: []) [0, 6, 7]) Qao3) .skip)
def Qp6 : SC := (.seq (.reg ( tJ 60 3 7 :: .e none none (.sto 3 (.t 6) (.t 60)) :: []) [6]) .ret)
def Qao4 : SC := (.seq (.seq (.reg ( mJ 30 0 :: kJ 31 30 :: fJ 32 4 31 :: lJ 33 32 :: cJ 34 .gtr 33 0 :: mJ 35 34 :: gTm 36 35 0 :: gT 37 35 (.nck (.t 36)) :: gTf 38 35 0 37 :: gTl 39 35 38 :: .e (some 40) (some (35, true)) (.call Qk [.t 39, kI 4]) :: Qlb) [0, 6, 7, 42]) s_l3Gen_fn_7) Qp6)
def Qak3 : SC := (.seq (.reg ( mJ 27 0 :: aJ 28 Qb7 [.t 27, kI 3] :: Qxq) [0, 6, 7]) Qao4)
def Qak4 : SC := (.seq (.reg ( mJ 19 1 :: fI 20 (.bsl 1 []) :: mJ 21 0 :: kJ 22 21 :: fJ 23 2 22 :: lJ 24 23 :: eI 25 (.app 1 (.t 20) (.t 24)) :: Qxp) [0, 6, 7]) Qak3)
def Qak5 : SC := (.seq (.reg ( mJ 14 0 :: mJ 15 2 :: cJ 16 .sub 15 1 :: kJ 17 14 :: fJ 18 3 17 :: .e none none (.sto 1 (.t 18) (.t 16)) :: []) [0, 1, 6]) Qak4)
def Qak6 : SC := (.seq (.reg ( mJ 8 0 :: fI 9 (.bsl 1 [.k (.c (.str [97])), .k (.c (.str [98])), .k (.c (.str [99]))]) :: mJ 10 2 :: fI 11 (.sli 1 (.t 9) none (some (.t 10))) :: kJ 12 8 :: fJ 13 2 12 :: .e none none (.sto 1 (.t 13) (.t 11)) :: []) [0, 1, 2, 6]) Qak5)
def Qa0d : SC := (.seq (.reg ( eI 6 (.alloc [.str [], .sl true 1 [], .sl true 5 []]) :: []) [0, 1, 2, 6]) Qak6)
def Qsc : List RS := [.cell 6 3 true]
theorem Qazf : mFn prog Qkj 3 61 Qa0d Qsc = true := by kernel_rfl
def Qfc : List Item := oJ 8 7 :: []
def Qvp : SC := (.cond (.t 8) (.seq (.reg ( fI 2 (.mv (.k (.c (.bool false)))) :: []) [2]) .ret) .skip)
def Qfd : List Item := oJ 22 21 :: []
def Qvq : SC := (.cond (.t 22) (.seq (.reg ( fI 2 (.mv (.k (.c (.bool false)))) :: []) [2]) .ret) .skip)
def Qvr : SC := (.reg ( mJ 14 3 :: cJ 15 .add 14 1 :: mJ 3 15 :: []) [1, 3])
def Qvs : SC := (.seq (.block 1 (.seq (.reg ( fJ 16 0 1 :: lJ 17 16 :: mJ 18 3 :: iJ 19 3 17 18 :: tJ 20 3 19 :: aJ 21 Qard [.t 20] :: Qfd) [1, 3, 22]) Qvq)) Qvr)
def Qsy : SC := (.seq (.seq (.reg ( mJ 9 3 :: fJ 10 0 1 :: lJ 11 10 :: nJ 12 11 :: bJ 13 .lss 9 12 :: []) [1, 3, 13]) (.cond (.t 13) .skip (.exit 0))) Qvs)
def Qfe : List Item := cJ 25 .leq 24 40 :: mJ 2 25 :: []
def Qvt : SC := (.seq (.reg ( tJ 23 1 1 :: aJ 24 Qaiz [.t 23] :: Qfe) [2]) .ret)
def Qvu : SC := (.seq (.seq (.reg ( fI 3 (.mv (kI 0)) :: []) [1, 3]) (.block 0 (.loop Qsy))) Qvt)
def Qsx : SC := (.seq (.seq (.reg ( fJ 4 0 1 :: lJ 5 4 :: nJ 6 5 :: aJ 7 Qbk [.t 6, kI 1, kI 4] :: Qfc) [1, 8]) Qvp) Qvu)
def Qz4 : SC := (.seq (.reg ( fI 1 (.box (.t 0)) :: fI 2 (.mv (.k (.c (.bool false)))) :: []) [1]) Qsx)
def Qeh : List RS := [.tmp 2]
theorem Qyr : mFn prog Qdp 1 26 Qz4 Qeh = true := by kernel_rfl
def Qmf : List Item := .chk 10 none (.ld 1 false (.t 9)) :: .chk 12 none (.ld 1 false (.t 11)) :: .chk 15 none (.ld 1 false (.t 14)) :: .e none none (.sto 5 (.t 3) (.t 17)) :: []
def Qmg : List Item := .chk 10 none (.ld 1 false (.t 9)) :: .chk 12 none (.ld 1 false (.t 11)) :: fI 17 (.bld [.sl true 2 [], .sl true 4 [], .int .i64 0, .int .i64 0, .sl true 1 []] [(0, 1, .t 7), (1, 1, .t 8), (2, 1, .t 10), (3, 1, .t 12), (4, 1, .t 16)]) :: eI 3 (.alloc [.sl true 2 [], .sl true 4 [], .int .i64 0, .int .i64 0, .sl true 1 []]) :: Qmf
def Qmh : List Item := fJ 44 0 3 :: .e none none (.sto 1 (.t 44) (.t 43)) :: []
def Qmi : List Item := .chk 26 none (.ld 1 false (.t 25)) :: .chk 28 none (.ld 1 false (.t 27)) :: .chk 30 none (.iad 2 (.t 28) (.t 29)) :: .chk 32 none (.ld 1 false (.t 31)) :: fI 41 (.bld [.int .i64 0, .sl true 1 []] [(0, 1, .t 32), (1, 1, .t 40)]) :: fI 42 (.bsl 2 [.t 41]) :: eI 43 (.app 2 (.t 26) (.t 42)) :: Qmh
def Qaac : SC := (.reg ( mJ 23 4 :: cJ 24 .add 23 1 :: mJ 4 24 :: []) [1, 2, 3, 4])
def Qaad : SC := (.seq (.block 1 (.dreg 21 [0, 1, 2, 3, 4, 5, 6, 7, 8, 9, 10, 11, 12, 13, 14, 15, 1, 3, 5, 7, 16, 17, 18, 19, 20] ( fJ 25 0 3 :: lJ 26 25 :: fJ 27 0 1 :: lJ 28 27 :: mJ 29 4 :: iJ 30 2 28 29 :: fJ 31 0 30 :: lJ 32 31 :: fI 33 (.bsl 1 []) :: fJ 34 0 1 :: lJ 35 34 :: mJ 36 4 :: iJ 37 2 35 36 :: fJ 38 1 37 :: lJ 39 38 :: eI 40 (.app 1 (.t 33) (.t 39)) :: Qmi) [1, 2, 3, 4])) Qaac)
def Q4c : SC := (.seq (.seq (.reg ( mJ 18 4 :: fJ 19 0 1 :: lJ 20 19 :: nJ 21 20 :: bJ 22 .lss 18 21 :: []) [1, 2, 3, 4, 22]) (.cond (.t 22) .skip (.exit 0))) Qaad)
def Qmj : List Item := .e none none (.sto 4 (.t 6) (.t 56)) :: []
def Qmk : List Item := fJ 72 1 3 :: .e none none (.sto 1 (.t 72) (.t 71)) :: []
def Qml : List Item := .chk 58 none (.ld 1 false (.t 57)) :: .chk 60 none (.ld 1 false (.t 59)) :: .chk 62 none (.ld 1 false (.t 61)) :: .chk 68 none (.ld 1 false (.t 67)) :: fI 69 (.bld [.int .i64 0, .int .i64 0, .sl true 1 [], .int .i64 0] [(0, 1, .t 60), (1, 1, .t 62), (2, 1, .t 66), (3, 1, .t 68)]) :: fI 70 (.bsl 4 [.t 69]) :: eI 71 (.app 4 (.t 58) (.t 70)) :: Qmk
def Q35 : SC := (.dreg 17 [0, 1, 2, 3, 4, 5, 6, 7, 8, 10, 11, 9, 1, 3, 5, 11, 12, 13, 14, 15, 16] ( fJ 57 1 3 :: lJ 58 57 :: fJ 59 0 6 :: lJ 60 59 :: fJ 61 1 6 :: lJ 62 61 :: fI 63 (.bsl 1 []) :: fJ 64 2 6 :: lJ 65 64 :: fJ 67 3 6 :: lJ 68 67 :: eI 66 (.app 1 (.t 63) (.t 65)) :: Qml) [1, 2, 3, 5])
def Q36 : SC := (.reg ( mJ 50 5 :: cJ 51 .add 50 1 :: mJ 5 51 :: []) [1, 2, 3, 5])
def Q37 : SC := (.seq (.block 3 (.seq (.reg ( fJ 52 1 1 :: lJ 53 52 :: mJ 54 5 :: iJ 55 4 53 54 :: tJ 56 4 55 :: eI 6 (.alloc [.int .i64 0, .int .i64 0, .sl true 1 [], .int .i64 0]) :: Qmj) [1, 2, 3, 5, 6]) Q35)) Q36)
def Qzz : SC := (.seq (.seq (.reg ( mJ 45 5 :: fJ 46 1 1 :: lJ 47 46 :: nJ 48 47 :: bJ 49 .lss 45 48 :: []) [1, 2, 3, 5, 49]) (.cond (.t 49) .skip (.exit 2))) Q37)
def Q38 : SC := (.seq (.reg ( tJ 73 5 3 :: .e none none (.sto 5 (.t 2) (.t 73)) :: []) [2]) .ret)
def Q39 : SC := (.seq (.seq (.reg ( fI 5 (.mv (kI 0)) :: []) [1, 2, 3, 5]) (.block 2 (.loop Qzz))) Q38)
def Q4a : SC := (.seq (.seq (.reg ( fI 4 (.mv (kI 0)) :: []) [1, 2, 3, 4]) (.block 0 (.loop Q4c))) Q39)
def Q4b : SC := (.seq (.dreg 11 [0, 1, 2, 3, 4, 5, 6, 7, 8, 9, 3, 5, 10, 11, 3, 5, 8, 12] ( fI 7 (.bsl 2 []) :: fI 8 (.bsl 4 []) :: fJ 9 2 1 :: lJ 10 9 :: fJ 11 3 1 :: lJ 12 11 :: fI 13 (.bsl 1 []) :: fJ 14 4 1 :: lJ 15 14 :: eI 16 (.app 1 (.t 13) (.t 15)) :: Qmg) [1, 2, 3]) Q4a)
def Qale : SC := (.seq (.reg ( fI 1 (.box (.t 0)) :: eI 2 (.alloc [.sl true 2 [], .sl true 4 [], .int .i64 0, .int .i64 0, .sl true 1 []]) :: []) [1, 2]) Q4b)
def Qwk : List RS := [.cell 2 5 true]
theorem Qajo : mFn prog Qh5 1 74 Qale Qwk = true := by kernel_rfl
def Qaap : List Item := mJ 7 13 :: []
def Qvl : List Item := .e none none (.sto 4 (.t 8) (.t 18)) :: []
def Qaaq : List Item := fI 18 (.bld [.int .i64 0, .int .i64 0, .sl true 1 [], .int .i64 0] [(0, 1, .t 14), (1, 1, .t 17)]) :: eI 8 (.alloc [.int .i64 0, .int .i64 0, .sl true 1 [], .int .i64 0]) :: Qvl
def Qaar : List Item := mJ 9 20 :: []
def Qaas : List Item := fI 30 (.bsl 1 [.t 29]) :: fI 31 (.bld [.int .i64 0, .int .i64 0, .sl true 1 [], .int .i64 0] [(0, 1, kI 13), (1, 1, kI (-1)), (2, 1, .t 30)]) :: .e none none (.sto 4 (.t 6) (.t 31)) :: []
def Qa07 : SC := (.cond (.t 26) (.seq (.reg ( mJ 27 0 :: mJ 28 2 :: aJ 29 Qk [.t 27, .t 28] :: Qaas) [6]) .ret) .skip)
def Qaat : List Item := fJ 37 3 8 :: .e none none (.sto 1 (.t 37) (.t 36)) :: []
def Qa08 : SC := (.reg ( fJ 38 0 4 :: lJ 39 38 :: fJ 40 3 8 :: lJ 41 40 :: iJ 42 3 39 41 :: fJ 43 0 42 :: lJ 44 43 :: mJ 9 44 :: []) [0, 2, 6, 7, 8, 9])
def Qa09 : SC := (.seq (.reg ( mJ 32 0 :: fJ 33 0 4 :: lJ 34 33 :: nJ 35 34 :: aJ 36 Qk [.t 32, .t 35] :: Qaat) [0, 2, 4, 6, 7, 8]) Qa08)
def Qa1a : SC := (.cond (.t 22) (.seq (.seq (.reg ( fJ 23 0 4 :: lJ 24 23 :: nJ 25 24 :: cJ 26 .eql 25 0 :: []) [0, 2, 4, 6, 7, 8, 26]) Qa07) Qa09) .skip)
def Q2d : List Item := fJ 50 3 8 :: .e none none (.sto 1 (.t 50) (.t 49)) :: []
def Qav8 : SC := (.cond (.t 46) (.reg ( mJ 47 0 :: fI 48 (.bsl 1 [kI 0, kI 1, kI 2, kI 3, kI 15, kI 16, kI 255]) :: aJ 49 Q8 [.t 47, .t 48] :: Q2d) [0, 2, 6, 7, 8, 9]) .skip)
def Q2e : List Item := oJ 53 52 :: []
def Qav9 : SC := (.cond (.t 53) (.reg ( fJ 54 1 8 :: .e none none (.sto 1 (.t 54) (kI (-1))) :: []) [0, 2, 6, 8, 9]) .skip)
def Q2f : List Item := fJ 67 2 8 :: .e none none (.sto 1 (.t 67) (.t 66)) :: []
def Q2g : List Item := .chk 61 none (.ld 1 false (.t 60)) :: fI 65 (.bsl 1 [.t 64]) :: eI 66 (.app 1 (.t 61) (.t 65)) :: Q2f
def Qawa : SC := (.reg ( mJ 58 10 :: cJ 59 .add 58 1 :: mJ 10 59 :: []) [0, 2, 6, 8, 9, 10])
def Qawb : SC := (.seq (.block 1 (.dreg 9 [0, 1, 2, 3, 4, 1, 5, 6, 7, 8] ( fJ 60 2 8 :: lJ 61 60 :: mJ 62 0 :: mJ 63 2 :: aJ 64 Qk [.t 62, .t 63] :: Q2g) [0, 2, 6, 8, 9, 10])) Qawa)
def Qapt : SC := (.seq (.seq (.reg ( mJ 55 10 :: mJ 56 9 :: bJ 57 .lss 55 56 :: []) [0, 2, 6, 8, 9, 10, 57]) (.cond (.t 57) .skip (.exit 0))) Qawb)
def Qawc : SC := (.seq (.reg ( tJ 68 4 8 :: .e none none (.sto 4 (.t 6) (.t 68)) :: []) [6]) .ret)
def Qaam : SC := (.seq (.seq (.reg ( fI 10 (.mv (kI 0)) :: []) [0, 2, 6, 8, 9, 10]) (.block 0 (.loop Qapt))) Qawc)
def Qaan : SC := (.seq (.seq (.reg ( mJ 51 7 :: aJ 52 Qfu [.t 51] :: Q2e) [0, 2, 6, 8, 9, 53]) Qav9) Qaam)
def Qaao : SC := (.seq (.seq (.reg ( mJ 45 7 :: cJ 46 .eql 45 1 :: []) [0, 2, 6, 7, 8, 9, 46]) Qav8) Qaan)
def Qawd : SC := (.seq (.seq (.reg ( mJ 21 7 :: cJ 22 .eql 21 14 :: []) [0, 2, 4, 6, 7, 8, 9, 22]) Qa1a) Qaao)
def Qawe : SC := (.seq (.reg ( mJ 19 7 :: aJ 20 Qob [.t 19] :: Qaar) [0, 2, 4, 6, 7, 8, 9]) Qawd)
def Qawf : SC := (.seq (.reg ( mJ 14 7 :: mJ 15 0 :: mJ 16 2 :: aJ 17 Qk [.t 15, .t 16] :: Qaaq) [0, 2, 4, 6, 7, 8]) Qawe)
def Qawg : SC := (.seq (.reg ( mJ 11 0 :: fI 12 (.bsl 1 [kI 1, kI 1, kI 2, kI 3, kI 4, kI 5, kI 8, kI 9, kI 10, kI 13, kI 3, kI 6, kI 7, kI 11, kI 12, kI 14]) :: aJ 13 Q8 [.t 11, .t 12] :: Qaap) [0, 2, 4, 6, 7]) Qawf)
def Qa8f : SC := (.seq (.reg ( fI 4 (.box (.t 1)) :: eI 6 (.alloc [.int .i64 0, .int .i64 0, .sl true 1 [], .int .i64 0]) :: []) [0, 2, 4, 6]) Qawg)
def Qsd : List RS := [.cell 6 4 true]
theorem Qa7j : mFn prog Q5s 3 69 Qa8f Qsd = true := by kernel_rfl
def Qaau : List Item := gT 14 11 (.bin 0 .gtr (.t 13) (kI 0)) :: fI 15 (.pick (.t 11) (.t 14) (.k (.c (.bool false)))) :: []
def Qapu : List Item := bJ 24 .add 17 23 :: mJ 6 24 :: []
def s_l7To_2 : SC := (.cond (.t 15) (.seq (.reg ( mJ 16 1 :: cJ 17 .add 16 1 :: mJ 18 0 :: mJ 19 2 :: cJ 20 .sub 19 1 :: mJ 21 1 :: bJ 22 .sub 20 21 :: aJ 23 Qk [.t 18, .t 22] :: Qapu) [6]) .ret) .skip)
def Qapv : List Item := fI 29 (.bin 0 .add (kI 1) (.t 28)) :: mJ 6 29 :: []
def Qayb : SC := (.seq (.reg ( mJ 25 0 :: mJ 26 2 :: cJ 27 .sub 26 1 :: aJ 28 Qk [.t 25, .t 27] :: Qapv) [6]) .ret)
def Qa8g : SC := (.seq (.seq (.reg ( mJ 7 1 :: mJ 8 2 :: cJ 9 .sub 8 1 :: bJ 10 .lss 7 9 :: mJ 11 10 :: gTm 12 11 0 :: .e (some 13) (some (11, true)) (.call Qk [.t 12, kI 4]) :: Qaau) [0, 1, 2, 15]) s_l7To_2) Qayb)
def Qbcp : SC := (.seq (.reg ( fI 6 (.mv (kI 0)) :: []) [0, 1, 2]) Qa8g)
def Qax6 : List RS := [.tmp 6]
theorem Qbcf : mFn prog Q5t 3 30 Qbcp Qax6 = true := by kernel_rfl
def Qaie : List Item := .e none none (.sto 3 (.t 7) (.t 12)) :: []
def Qz0 : List Item := gF 22 17 (.not (.t 21)) :: fI 23 (.pick (.t 17) (.k (.c (.bool true))) (.t 22)) :: []
def Qaif : List Item := oJ 16 15 :: mJ 17 16 :: gF 18 17 (.ld 3 true (.t 7)) :: gFf 19 17 2 5 :: gFl 20 17 19 :: .e (some 21) (some (17, false)) (.call Qv0 [.t 18, .t 20]) :: Qz0
def s_l7Ins_3 : SC := (.cond (.t 23) (.seq (.reg ( fI 6 (.mv (.k (.c (.bool false)))) :: []) [6]) .ret) .skip)
def Qz1 : List Item := gF 38 34 (.not (.t 37)) :: gFm 39 34 38 :: gTf 40 39 1 5 :: gTl 41 39 40 :: gT 42 39 (.bin 0 .neq (.t 41) (kI (-1))) :: gF 43 34 (.pick (.t 39) (.t 42) (.k (.c (.bool false)))) :: fI 44 (.pick (.t 34) (.k (.c (.bool true))) (.t 43)) :: []
def Qaig : List Item := fI 33 (.bin 1 .neq (.t 26) (.t 32)) :: mJ 34 33 :: gFf 35 34 0 5 :: gFl 36 34 35 :: .e (some 37) (some (34, false)) (.call Qfu [.t 36]) :: Qz1
def Qaih : List Item := .chk 28 none (.ld 1 false (.t 27)) :: .chk 30 none (.ld 1 false (.t 29)) :: aJ 32 Qbk [.t 28, kI 0, .t 31] :: Qaig
def s_l7Ins_7 : SC := (.cond (.t 44) (.seq (.reg ( fI 6 (.mv (.k (.c (.bool false)))) :: []) [6]) .ret) .skip)
def Qsf : List Item := mJ 53 52 :: gTf 54 53 2 5 :: gTl 55 53 54 :: gT 56 53 (.len (.t 55)) :: gTf 57 53 0 3 :: gTl 58 53 57 :: gTf 59 53 3 5 :: gTl 60 53 59 :: gT 61 53 (.iad 3 (.t 58) (.t 60)) :: gTf 62 53 0 61 :: gTl 63 53 62 :: gT 64 53 (.bin 0 .eql (.t 56) (.t 63)) :: fI 65 (.pick (.t 53) (.t 64) (.k (.c (.bool false)))) :: mJ 6 65 :: []
def Qa44 : SC := (.cond (.t 47) (.seq (.dreg 19 [0, 1, 2, 3, 4, 5, 6, 7, 8, 9, 10, 11, 12, 13, 14, 15, 16, 17, 18] ( fJ 48 3 5 :: lJ 49 48 :: mJ 50 1 :: cJ 51 .sub 50 1 :: aJ 52 Qbk [.t 49, kI 0, .t 51] :: Qsf) [6]) .ret) .skip)
def Qvk : List Item := fI 77 (.pick (.t 73) (.t 76) (.k (.c (.bool false)))) :: mJ 78 77 :: gTf 79 78 3 5 :: gTl 80 78 79 :: gT 81 78 (.bin 0 .eql (.t 80) (kI 0)) :: gTm 82 78 81 :: gFf 83 82 0 5 :: gFl 84 82 83 :: gF 85 82 (.bin 0 .eql (.t 84) (kI 1)) :: gT 86 78 (.pick (.t 82) (.k (.c (.bool true))) (.t 85)) :: fI 87 (.pick (.t 78) (.t 86) (.k (.c (.bool false)))) :: mJ 6 87 :: []
def Qaai : List Item := .chk 67 none (.ld 1 false (.t 66)) :: .chk 68 none (.len (.t 67)) :: bJ 72 .eql 68 71 :: mJ 73 72 :: gTf 74 73 3 5 :: gTl 75 73 74 :: .e (some 76) (some (73, true)) (.call Qbk [.t 75, kI 0, kI 255]) :: Qvk
def Qa0z : SC := (.seq (.dreg 23 [0, 1, 2, 3, 4, 5, 1, 2, 6, 7, 8, 9, 10, 11, 12, 13, 14, 15, 16, 17, 18, 19, 20, 21, 22] ( fJ 66 2 5 :: lJ 67 66 :: nJ 68 67 :: fJ 69 0 5 :: lJ 70 69 :: aJ 71 Qob [.t 70] :: Qaai) [6]) .ret)
def Qaic : SC := (.seq (.seq (.reg ( fJ 45 0 5 :: lJ 46 45 :: cJ 47 .eql 46 14 :: []) [1, 3, 5, 47]) Qa44) Qa0z)
def Qaid : SC := (.seq (.seq (.dreg 21 [0, 1, 3, 4, 5, 6, 7, 2, 4, 6, 8, 9, 10, 11, 12, 13, 14, 15, 16, 17, 18, 19, 20] ( fJ 24 0 5 :: lJ 25 24 :: fJ 27 1 5 :: lJ 28 27 :: fJ 29 1 7 :: lJ 30 29 :: cJ 31 .sub 30 1 :: aJ 26 Qfu [.t 25] :: Qaih) [1, 3, 5, 44]) s_l7Ins_7) Qaic)
def Qa00 : SC := (.seq (.seq (.reg ( fJ 13 0 5 :: lJ 14 13 :: aJ 15 Qbk [.t 14, kI 1, kI 14] :: Qaif) [1, 3, 5, 7, 23]) s_l7Ins_3) Qaid)
def Qa01 : SC := (.seq (.reg ( fJ 8 0 3 :: lJ 9 8 :: mJ 10 1 :: iJ 11 3 9 10 :: tJ 12 3 11 :: eI 7 (.alloc [.int .i64 0, .int .i64 0, .sl true 5 []]) :: Qaie) [1, 3, 5, 7]) Qa00)
def Qba7 : SC := (.seq (.reg ( fI 3 (.box (.t 0)) :: fI 5 (.box (.t 2)) :: fI 6 (.mv (.k (.c (.bool false)))) :: []) [1, 3, 5]) Qa01)
def Q6u : List RS := [.tmp 6]
theorem Qbau : mFn prog Qai0 3 88 Qba7 Q6u = true := by kernel_rfl
def Qaal : List Item := oJ 20 19 :: []
def Qa02 : SC := (.cond (.t 20) (.seq (.reg ( fI 4 (.mv (.k (.c (.bool false)))) :: []) [4]) .ret) .skip)
def Qa03 : SC := (.reg ( mJ 10 5 :: cJ 11 .add 10 1 :: mJ 5 11 :: []) [1, 2, 5])
def Qa04 : SC := (.seq (.block 1 (.seq (.dreg 9 [0, 1, 2, 3, 4, 5, 6, 7, 8] ( mJ 12 1 :: mJ 13 5 :: iJ 14 1 12 13 :: lJ 15 14 :: fJ 16 1 2 :: lJ 17 16 :: cJ 18 .sub 17 1 :: aJ 19 Qbk [.t 15, kI 0, .t 18] :: Qaal) [1, 2, 5, 20]) Qa02)) Qa03)
def Qav7 : SC := (.seq (.seq (.reg ( mJ 6 5 :: mJ 7 1 :: nJ 8 7 :: bJ 9 .lss 6 8 :: []) [1, 2, 5, 9]) (.cond (.t 9) .skip (.exit 0))) Qa04)
def Qa05 : SC := (.seq (.reg ( fI 4 (.mv (.k (.c (.bool true)))) :: []) [4]) .ret)
def Qa06 : SC := (.seq (.seq (.reg ( fI 5 (.mv (kI 0)) :: []) [1, 2, 5]) (.block 0 (.loop Qav7))) Qa05)
def Qa8e : SC := (.seq (.reg ( fI 2 (.box (.t 0)) :: fI 4 (.mv (.k (.c (.bool false)))) :: []) [1, 2]) Qa06)
def Qaj0 : List RS := [.tmp 4]
theorem Qa7i : mFn prog Qv0 2 21 Qa8e Qaj0 = true := by kernel_rfl
def Qaa3 : List Item := bJ 33 .add 26 32 :: mJ 3 33 :: []
def Qaa4 : List Item := .chk 29 none (.iad 5 (.t 27) (.t 28)) :: .chk 31 none (.ld 1 false (.t 30)) :: bJ 26 .add 19 25 :: aJ 32 Qoc [.t 31] :: Qaa3
def Qaa5 : List Item := .chk 22 none (.iad 5 (.t 20) (.t 21)) :: .chk 24 none (.ld 1 false (.t 23)) :: .chk 29 none (.iad 5 (.t 27) (.t 28)) :: .chk 31 none (.ld 1 false (.t 30)) :: bJ 19 .add 11 18 :: aJ 25 Qoc [.t 24] :: Qaa4
def Qa1e : SC := (.reg ( mJ 9 4 :: cJ 10 .add 9 1 :: mJ 4 10 :: []) [0, 3, 4])
def Qa1f : SC := (.seq (.block 1 (.dreg 24 [0, 1, 2, 3, 4, 5, 6, 9, 10, 11, 12, 13, 16, 17, 18, 19, 20, 7, 11, 13, 18, 20, 8, 14, 18, 20, 15, 21, 22, 23] ( mJ 11 3 :: mJ 12 0 :: mJ 13 4 :: iJ 14 5 12 13 :: fJ 15 0 14 :: lJ 16 15 :: cJ 17 .eql 16 1 :: mJ 20 0 :: mJ 21 4 :: iJ 22 5 20 21 :: fJ 23 3 22 :: lJ 24 23 :: mJ 27 0 :: mJ 28 4 :: iJ 29 5 27 28 :: fJ 30 4 29 :: lJ 31 30 :: aJ 18 Qyk [.t 17] :: Qaa5) [0, 3, 4])) Qa1e)
def Qawv : SC := (.seq (.seq (.reg ( mJ 5 4 :: mJ 6 0 :: nJ 7 6 :: bJ 8 .lss 5 7 :: []) [0, 3, 4, 8]) (.cond (.t 8) .skip (.exit 0))) Qa1f)
def Qa1g : SC := (.seq (.reg ( mJ 34 3 :: mJ 2 34 :: []) [2]) .ret)
def Qa1h : SC := (.seq (.seq (.reg ( fI 4 (.mv (kI 0)) :: []) [0, 3, 4]) (.block 0 (.loop Qawv))) Qa1g)
def Qa1i : SC := (.seq (.reg ( fI 3 (.mv (kI 0)) :: []) [0, 3]) Qa1h)
def Qa8m : SC := (.seq (.reg ( fI 2 (.mv (kI 0)) :: []) [0]) Qa1i)
def Qax9 : List RS := [.tmp 2]
theorem Qa7m : mFn prog Qoc 1 35 Qa8m Qax9 = true := by kernel_rfl
def Qmm : List Item := kJ 15 3 :: fJ 16 1 15 :: fJ 17 2 16 :: .e none none (.sto 1 (.t 17) (.t 14)) :: []
def Qaa6 : SC := (.seq (.reg ( mJ 18 0 :: kJ 19 18 :: fJ 20 1 19 :: fJ 21 2 20 :: lJ 22 21 :: nJ 23 22 :: cJ 24 .sub 23 1 :: mJ 2 24 :: []) [2]) .ret)
def Qaa7 : SC := (.seq (.reg ( mJ 3 0 :: mJ 4 0 :: kJ 5 4 :: fJ 6 1 5 :: fJ 7 2 6 :: lJ 8 7 :: fI 9 (.bsl 2 []) :: fI 10 (.bsl 4 []) :: fI 11 (.bsl 1 []) :: fI 12 (.bld [.sl true 2 [], .sl true 4 [], .int .i64 0, .int .i64 0, .sl true 1 []] [(0, 1, .t 9), (1, 1, .t 10), (4, 1, .t 11)]) :: fI 13 (.bsl 5 [.t 12]) :: eI 14 (.app 5 (.t 8) (.t 13)) :: Qmm) [0]) Qaa6)
def Qalh : SC := (.seq (.reg ( fI 2 (.mv (kI 0)) :: []) [0]) Qaa7)
def Qwl : List RS := [.tmp 2]
theorem Qajp : mFn prog Qak 1 25 Qalh Qwl = true := by kernel_rfl
def Qab6 : SC := (.reg ( mJ 15 5 :: cJ 16 .add 15 1 :: mJ 5 16 :: []) [0, 1, 4, 5])
def Qab7 : SC := (.seq (.block 1 (.reg ( mJ 17 0 :: mJ 18 1 :: mJ 19 5 :: iJ 20 5 18 19 :: tJ 21 5 20 :: aJ 22 Qko [.t 17, .t 21] :: []) [0, 1, 4, 5])) Qab6)
def Q4e : SC := (.seq (.seq (.reg ( mJ 11 5 :: mJ 12 1 :: nJ 13 12 :: bJ 14 .lss 11 13 :: []) [0, 1, 4, 5, 14]) (.cond (.t 14) .skip (.exit 0))) Qab7)
def Qab8 : SC := (.reg ( mJ 23 0 :: mJ 24 0 :: kJ 25 24 :: fJ 26 5 25 :: lJ 27 26 :: mJ 28 4 :: fI 29 (.sli 3 (.t 27) none (some (.t 28))) :: kJ 30 23 :: fJ 31 5 30 :: .e none none (.sto 1 (.t 31) (.t 29)) :: []) [])
def Qab9 : SC := (.seq (.seq (.reg ( fI 5 (.mv (kI 0)) :: []) [0, 1, 4, 5]) (.block 0 (.loop Q4e))) Qab8)
def Qalr : SC := (.seq (.reg ( mJ 6 0 :: kJ 7 6 :: fJ 8 5 7 :: lJ 9 8 :: nJ 10 9 :: mJ 4 10 :: []) [0, 1, 4]) Qab9)
def Qky : List RS := []
theorem Qajr : mFn prog Qb8 2 32 Qalr Qky = true := by kernel_rfl
def Qt8 : List Item := kJ 34 22 :: fJ 35 1 34 :: .e none none (.sto 1 (.t 35) (.t 33)) :: []
def Qalj : SC := (.seq (.reg ( mJ 36 2 :: mJ 10 36 :: []) [10]) .ret)
def Qalk : SC := (.seq (.reg ( mJ 22 11 :: mJ 23 11 :: kJ 24 23 :: fJ 25 1 24 :: lJ 26 25 :: mJ 27 1 :: mJ 28 2 :: mJ 29 4 :: mJ 30 3 :: fI 31 (.bld [.int .i64 0, .int .i64 0, .sl true 1 [], .int .i64 0] [(0, 1, .t 27), (1, 1, .t 28), (2, 1, .t 29), (3, 1, .t 30)]) :: fI 32 (.bsl 4 [.t 31]) :: eI 33 (.app 4 (.t 26) (.t 32)) :: Qt8) [2]) Qalj)
def Qall : SC := (.seq (.dreg 11 [0, 1, 2, 3, 4, 5, 6, 7, 8, 9, 10] ( mJ 12 0 :: kJ 13 12 :: fJ 14 1 13 :: fJ 15 2 14 :: lJ 16 15 :: mJ 17 0 :: kJ 18 17 :: fJ 19 4 18 :: lJ 20 19 :: iJ 21 5 16 20 :: mJ 11 21 :: []) [1, 2, 3, 4, 11]) Qalk)
def Qawx : SC := (.seq (.reg ( fI 10 (.mv (kI 0)) :: []) [0, 1, 2, 3, 4]) Qall)
def Q6x : List RS := [.tmp 10]
theorem Qary : mFn prog Qar 5 37 Qawx Q6x = true := by kernel_rfl
def Qabj : SC := (.seq (.reg ( mJ 13 0 :: kJ 14 13 :: fJ 15 1 14 :: fJ 16 1 15 :: lJ 17 16 :: cJ 18 .sub 17 1 :: mJ 2 18 :: []) [2]) .ret)
def Qabk : SC := (.seq (.reg ( mJ 3 0 :: mJ 4 0 :: kJ 5 4 :: fJ 6 1 5 :: fJ 7 1 6 :: lJ 8 7 :: cJ 9 .add 8 1 :: kJ 10 3 :: fJ 11 1 10 :: fJ 12 1 11 :: .e none none (.sto 1 (.t 12) (.t 9)) :: []) [0]) Qabj)
def Qali : SC := (.seq (.reg ( fI 2 (.mv (kI 0)) :: []) [0]) Qabk)
def Qwm : List RS := [.tmp 2]
theorem Qajq : mFn prog Qa0 1 19 Qali Qwm = true := by kernel_rfl
def Qaf3 : SC := (.reg ( mJ 33 0 :: mJ 34 4 :: kJ 35 33 :: fJ 36 4 35 :: .e none none (.sto 1 (.t 36) (.t 34)) :: []) [])
def Qaf4 : SC := (.seq (.reg ( mJ 29 10 :: mJ 30 3 :: kJ 31 29 :: fJ 32 4 31 :: .e none none (.sto 1 (.t 32) (.t 30)) :: []) [0, 4]) Qaf3)
def Qaf5 : SC := (.seq (.reg ( mJ 25 10 :: mJ 26 2 :: kJ 27 25 :: fJ 28 3 27 :: .e none none (.sto 1 (.t 28) (.t 26)) :: []) [0, 3, 4, 10]) Qaf4)
def Qaf6 : SC := (.seq (.reg ( mJ 21 10 :: mJ 22 1 :: kJ 23 21 :: fJ 24 2 23 :: .e none none (.sto 1 (.t 24) (.t 22)) :: []) [0, 2, 3, 4, 10]) Qaf5)
def Qap5 : SC := (.seq (.dreg 11 [0, 1, 2, 3, 4, 5, 6, 7, 8, 9, 10] ( mJ 11 0 :: kJ 12 11 :: fJ 13 1 12 :: fJ 14 2 13 :: lJ 15 14 :: mJ 16 0 :: kJ 17 16 :: fJ 18 4 17 :: lJ 19 18 :: iJ 20 5 15 19 :: mJ 10 20 :: []) [0, 1, 2, 3, 4, 10]) Qaf6)
def Q0s : List RS := []
theorem Qam9 : mFn prog Qax 5 37 Qap5 Q0s = true := by kernel_rfl
def Ql1 : List Item := mJ 7 18 :: []
def Ql2 : List Item := mJ 6 34 :: []
def Ql3 : List Item := eI 34 (.app 5 (.t 30) (.t 33)) :: Ql2
def Q8o : SC := (.reg ( mJ 28 7 :: cJ 29 .sub 28 1 :: mJ 7 29 :: []) [0, 1, 5, 6, 7])
def Q8p : SC := (.seq (.block 1 (.reg ( mJ 30 6 :: mJ 31 0 :: mJ 32 1 :: aJ 33 Qkl [.t 31, .t 32] :: Ql3) [0, 1, 5, 6, 7])) Q8o)
def Q33 : SC := (.seq (.seq (.reg ( mJ 19 7 :: cJ 20 .gtr 19 0 :: mJ 21 20 :: gTm 22 21 0 :: gT 23 21 (.nck (.t 22)) :: gTf 24 21 4 23 :: gTl 25 21 24 :: gT 26 21 (.bin 0 .gtr (.t 25) (kI 0)) :: fI 27 (.pick (.t 21) (.t 26) (.k (.c (.bool false)))) :: []) [0, 1, 5, 6, 7, 27]) (.cond (.t 27) .skip (.exit 0))) Q8p)
def Q8q : SC := (.seq (.reg ( mJ 39 6 :: mJ 4 39 :: []) [4]) .ret)
def Q8r : SC := (.seq (.reg ( mJ 35 0 :: mJ 36 5 :: kJ 37 35 :: fJ 38 2 37 :: .e none none (.sto 1 (.t 38) (.t 36)) :: []) [6]) Q8q)
def Q8s : SC := (.seq (.seq (.reg ( mJ 13 0 :: kJ 14 13 :: fJ 15 0 14 :: lJ 16 15 :: fI 17 (.bsl 1 [kI 2, kI 3, kI 1, kI 4]) :: aJ 18 Q8 [.t 16, .t 17] :: Ql1) [0, 1, 5, 6, 7]) (.block 0 (.loop Q33))) Q8r)
def Q8t : SC := (.seq (.reg ( fI 12 (.bsl 5 []) :: mJ 6 12 :: []) [0, 1, 5, 6]) Q8s)
def Q32 : SC := (.seq (.reg ( mJ 8 0 :: kJ 9 8 :: fJ 10 2 9 :: lJ 11 10 :: mJ 5 11 :: []) [0, 1, 5]) Q8t)
def Qak2 : SC := (.seq (.reg ( fI 4 (.mv (.k (.c (.sl true 5 [])))) :: []) [0, 1]) Q32)
def Qwj : List RS := [.tmp 4]
theorem Qajm : mFn prog Qb7 2 40 Qak2 Qwj = true := by kernel_rfl
def Qpz : List Item := .chk 12 none (.ld 1 false (.t 11)) :: .chk 16 none (.ld 1 false (.t 15)) :: .e none none (.sto 4 (.t 5) (.t 18)) :: []
def Qp0 : List Item := eI 5 (.alloc [.int .i64 0, .int .i64 0, .str [], .sl true 4 []]) :: Qpz
def Qgt : List Item := gF 31 25 (.bin 0 .gtr (.t 30) (kI 0)) :: fI 32 (.pick (.t 25) (.k (.c (.bool true))) (.t 31)) :: []
def s_l3Gen_expr_3 : SC := (.cond (.t 32) (.seq (.reg ( tJ 33 4 5 :: .e none none (.sto 4 (.t 4) (.t 33)) :: []) [4]) .ret) .skip)
def Qp1 : List Item := .chk 37 none (.ld 1 false (.t 36)) :: .chk 41 none (.ld 1 false (.t 40)) :: .chk 45 none (.ld 1 false (.t 44)) :: .chk 46 none (.len (.t 45)) :: .chk 48 none (.iad 3 (.t 37) (.t 47)) :: .chk 49 none (.ld 3 true (.t 48)) :: .e none none (.sto 3 (.t 6) (.t 49)) :: []
def Qp2 : List Item := .chk 37 none (.ld 1 false (.t 36)) :: iJ 48 3 37 47 :: tJ 49 3 48 :: eI 6 (.alloc [.str [], .sl true 1 [], .sl true 5 []]) :: Qp1
def Qp3 : List Item := .e none none (.sto 4 (.t 7) (.t 52)) :: []
def Qp4 : List Item := fJ 73 3 7 :: .e none none (.sto 1 (.t 73) (.t 72)) :: []
def Qp5 : List Item := .chk 61 none (.ld 1 false (.t 60)) :: fI 71 (.bsl 4 [.t 70]) :: eI 72 (.app 4 (.t 61) (.t 71)) :: Qp4
def Qafi : SC := (.reg ( mJ 58 8 :: cJ 59 .add 58 1 :: mJ 8 59 :: []) [0, 4, 6, 7, 8])
def Q8u : SC := (.seq (.block 1 (.dreg 15 [0, 1, 2, 3, 4, 5, 6, 7, 8, 9, 10, 1, 11, 12, 13, 14] ( fJ 60 3 7 :: lJ 61 60 :: mJ 62 0 :: kJ 63 62 :: fJ 64 0 63 :: lJ 65 64 :: mJ 66 0 :: kJ 67 66 :: fJ 68 2 67 :: lJ 69 68 :: aJ 70 Qez [.t 65, .t 69, kI 2] :: Qp5) [0, 4, 6, 7, 8])) Qafi)
def Q34 : SC := (.seq (.seq (.reg ( mJ 53 8 :: fJ 54 1 6 :: lJ 55 54 :: nJ 56 55 :: bJ 57 .lss 53 56 :: []) [0, 4, 6, 7, 8, 57]) (.cond (.t 57) .skip (.exit 0))) Q8u)
def Ql4 : List Item := cJ 79 .eql 78 0 :: []
def Q8v : SC := (.cond (.t 79) (.seq (.reg ( tJ 80 4 7 :: .e none none (.sto 4 (.t 4) (.t 80)) :: []) [4]) .ret) .skip)
def Ql5 : List Item := .chk 87 none (.ld 4 true (.t 7)) :: fI 97 (.bsl 4 [.t 87, .t 96]) :: fI 98 (.bld [.int .i64 0, .int .i64 0, .str [], .sl true 4 []] [(0, 1, .t 86), (3, 1, .t 97)]) :: .e none none (.sto 4 (.t 4) (.t 98)) :: []
def Ql6 : List Item := .chk 87 none (.ld 4 true (.t 7)) :: .chk 91 none (.ld 1 false (.t 90)) :: .chk 95 none (.ld 1 false (.t 94)) :: aJ 96 Qez [.t 91, .t 95, kI 2] :: Ql5
def Q8w : SC := (.seq (.dreg 19 [0, 1, 2, 3, 4, 6, 7, 8, 9, 10, 11, 12, 13, 14, 5, 6, 10, 14, 15, 6, 16, 17, 18] ( mJ 81 0 :: kJ 82 81 :: fJ 83 0 82 :: lJ 84 83 :: fI 85 (.bsl 1 [kI 3, kI 4, kI 8, kI 10]) :: tJ 87 4 7 :: mJ 88 0 :: kJ 89 88 :: fJ 90 0 89 :: lJ 91 90 :: mJ 92 0 :: kJ 93 92 :: fJ 94 2 93 :: lJ 95 94 :: aJ 86 Q8 [.t 84, .t 85] :: Ql6) [4]) .ret)
def Q8x : SC := (.seq (.seq (.reg ( mJ 74 0 :: kJ 75 74 :: fJ 76 0 75 :: lJ 77 76 :: aJ 78 Qk [.t 77, kI 2] :: Ql4) [0, 4, 7, 79]) Q8v) Q8w)
def Q8y : SC := (.seq (.seq (.reg ( fI 8 (.mv (kI 0)) :: []) [0, 4, 6, 7, 8]) (.block 0 (.loop Q34))) Q8x)
def Q8z : SC := (.seq (.reg ( fJ 50 0 6 :: lJ 51 50 :: fI 52 (.bld [.int .i64 0, .int .i64 0, .str [], .sl true 4 []] [(0, 1, kI 13), (2, 1, .t 51)]) :: eI 7 (.alloc [.int .i64 0, .int .i64 0, .str [], .sl true 4 []]) :: Qp3) [0, 4, 6, 7]) Q8y)
def Qpy : SC := (.seq (.dreg 16 [0, 1, 2, 3, 4, 5, 6, 7, 8, 9, 10, 11, 12, 13, 3, 14, 15, 16, 3, 7, 11, 12, 14, 15, 17] ( mJ 34 0 :: kJ 35 34 :: fJ 36 1 35 :: lJ 37 36 :: mJ 38 0 :: kJ 39 38 :: fJ 40 0 39 :: lJ 41 40 :: mJ 42 0 :: kJ 43 42 :: fJ 44 1 43 :: lJ 45 44 :: nJ 46 45 :: aJ 47 Qk [.t 41, .t 46] :: Qp2) [0, 4, 6]) Q8z)
def Q80 : SC := (.seq (.seq (.reg ( mJ 19 0 :: kJ 20 19 :: fJ 21 1 20 :: lJ 22 21 :: nJ 23 22 :: cJ 24 .eql 23 0 :: mJ 25 24 :: gFm 26 25 0 :: gF 27 25 (.nck (.t 26)) :: gFf 28 25 0 27 :: gFl 29 25 28 :: .e (some 30) (some (25, false)) (.call Qk [.t 29, kI 4]) :: Qgt) [0, 4, 5, 32]) s_l3Gen_expr_3) Qpy)
def Q81 : SC := (.seq (.dreg 10 [0, 1, 2, 3, 4, 5, 6, 7, 8, 9, 10, 3, 7, 11] ( mJ 9 0 :: kJ 10 9 :: fJ 11 0 10 :: lJ 12 11 :: mJ 13 0 :: kJ 14 13 :: fJ 15 2 14 :: lJ 16 15 :: mJ 17 1 :: aJ 18 Qez [.t 12, .t 16, .t 17] :: Qp0) [0, 4, 5]) Q80)
def Qao2 : SC := (.seq (.reg ( eI 4 (.alloc [.int .i64 0, .int .i64 0, .str [], .sl true 4 []]) :: []) [0, 1, 4]) Q81)
def Qhm : List RS := [.cell 4 4 true]
theorem Qam4 : mFn prog Qa6 2 99 Qao2 Qhm = true := by kernel_rfl
def Qaoz : List Item := oJ 17 16 :: []
def Qa73 : SC := (.cond (.t 17) (.seq (.reg ( fI 2 (.mv (.k (.c (.bool false)))) :: []) [2]) .ret) .skip)
def Qa74 : SC := (.reg ( mJ 9 3 :: cJ 10 .add 9 1 :: mJ 3 10 :: []) [1, 3])
def Qa75 : SC := (.seq (.block 1 (.seq (.reg ( fJ 11 1 1 :: lJ 12 11 :: mJ 13 3 :: iJ 14 1 12 13 :: lJ 15 14 :: aJ 16 Qda [.t 15] :: Qaoz) [1, 3, 17]) Qa73)) Qa74)
def Qa40 : SC := (.seq (.seq (.reg ( mJ 4 3 :: fJ 5 1 1 :: lJ 6 5 :: nJ 7 6 :: bJ 8 .lss 4 7 :: []) [1, 3, 8]) (.cond (.t 8) .skip (.exit 0))) Qa75)
def Q8n : List Item := fI 31 (.pick (.t 27) (.t 30) (.k (.c (.bool false)))) :: mJ 2 31 :: []
def Qao0 : List Item := mJ 21 20 :: gTf 22 21 1 1 :: gTl 23 21 22 :: gT 24 21 (.len (.t 23)) :: gT 25 21 (.bin 0 .leq (.t 24) (kI 3)) :: fI 26 (.pick (.t 21) (.t 25) (.k (.c (.bool false)))) :: mJ 27 26 :: gTf 28 27 2 1 :: gTl 29 27 28 :: .e (some 30) (some (27, true)) (.call Qiw [.t 29, kI 4]) :: Q8n
def Qa76 : SC := (.seq (.reg ( fJ 18 0 1 :: lJ 19 18 :: aJ 20 Qda [.t 19] :: Qao0) [2]) .ret)
def Qa77 : SC := (.seq (.seq (.reg ( fI 3 (.mv (kI 0)) :: []) [1, 3]) (.block 0 (.loop Qa40))) Qa76)
def Qbco : SC := (.seq (.reg ( fI 1 (.box (.t 0)) :: fI 2 (.mv (.k (.c (.bool false)))) :: []) [1]) Qa77)
def Qa3x : List RS := [.tmp 2]
theorem Qbce : mFn prog Qard 1 32 Qbco Qa3x = true := by kernel_rfl
def Qaib : List Item := bJ 20 .add 12 19 :: mJ 3 20 :: []
def Qa4u : SC := (.reg ( mJ 10 4 :: cJ 11 .add 10 1 :: mJ 4 11 :: []) [1, 3, 4])
def Qa4v : SC := (.seq (.block 1 (.reg ( mJ 12 3 :: fJ 13 0 1 :: lJ 14 13 :: mJ 15 4 :: iJ 16 3 14 15 :: fJ 17 2 16 :: lJ 18 17 :: aJ 19 Qiv [.t 18] :: Qaib) [1, 3, 4])) Qa4u)
def Qaz9 : SC := (.seq (.seq (.reg ( mJ 5 4 :: fJ 6 0 1 :: lJ 7 6 :: nJ 8 7 :: bJ 9 .lss 5 8 :: []) [1, 3, 4, 9]) (.cond (.t 9) .skip (.exit 0))) Qa4v)
def Qa4w : SC := (.seq (.reg ( mJ 21 3 :: mJ 2 21 :: []) [2]) .ret)
def Qa4x : SC := (.seq (.seq (.reg ( fI 4 (.mv (kI 0)) :: []) [1, 3, 4]) (.block 0 (.loop Qaz9))) Qa4w)
def Qa4y : SC := (.seq (.reg ( fI 3 (.mv (kI 0)) :: []) [1, 3]) Qa4x)
def Qba6 : SC := (.seq (.reg ( fI 1 (.box (.t 0)) :: fI 2 (.mv (kI 0)) :: []) [1]) Qa4y)
def Qa3w : List RS := [.tmp 2]
theorem Qbat : mFn prog Qaiz 1 22 Qba6 Qa3w = true := by kernel_rfl
def Q2b : List Item := mJ 5 4 :: gTm 6 5 0 :: gT 7 5 (.bin 0 .neq (.t 6) (kI 12)) :: fI 8 (.pick (.t 5) (.t 7) (.k (.c (.bool false)))) :: mJ 9 8 :: gTm 10 9 0 :: gT 11 9 (.bin 0 .neq (.t 10) (kI 13)) :: fI 12 (.pick (.t 9) (.t 11) (.k (.c (.bool false)))) :: mJ 2 12 :: []
def Qav1 : SC := (.seq (.reg ( mJ 3 0 :: aJ 4 Qbk [.t 3, kI 1, kI 14] :: Q2b) [2]) .ret)
def Qa45 : SC := (.seq (.reg ( fI 2 (.mv (.k (.c (.bool false)))) :: []) [0]) Qav1)
def Qano : List RS := [.tmp 2]
theorem Qa3l : mFn prog Qfu 1 13 Qa45 Qano = true := by kernel_rfl
def Q9u : List Item := mJ 24 23 :: gFm 25 24 0 :: gF 26 24 (.bin 0 .eql (.t 25) (kI 12)) :: fI 27 (.pick (.t 24) (.k (.c (.bool true))) (.t 26)) :: mJ 21 27 :: []
def Qa0l : SC := (.cond (.t 21) (.seq (.reg ( fI 2 (.mv (kI 2)) :: []) [2]) .ret) .skip)
def Qa0m : SC := (.cond (.t 6) (.seq (.reg ( fI 2 (.mv (kI 1)) :: []) [2]) .ret) (.seq (.reg ( mJ 22 0 :: aJ 23 Qbk [.t 22, kI 3, kI 9] :: Q9u) [21]) Qa0l))
def Qa0n : SC := (.cond (.t 3) (.seq (.reg ( fI 2 (.mv (kI 0)) :: []) [2]) .ret) (.seq (.reg ( mJ 7 0 :: cJ 8 .eql 7 2 :: mJ 9 8 :: gFm 10 9 0 :: gF 11 9 (.bin 0 .eql (.t 10) (kI 10)) :: fI 12 (.pick (.t 9) (.k (.c (.bool true))) (.t 11)) :: mJ 13 12 :: gFm 14 13 0 :: gF 15 13 (.bin 0 .eql (.t 14) (kI 11)) :: fI 16 (.pick (.t 13) (.k (.c (.bool true))) (.t 15)) :: mJ 17 16 :: gFm 18 17 0 :: gF 19 17 (.bin 0 .eql (.t 18) (kI 13)) :: fI 20 (.pick (.t 17) (.k (.c (.bool true))) (.t 19)) :: mJ 6 20 :: []) [0, 6]) Qa0m))
def Qa0o : SC := (.seq (.reg ( fI 2 (.mv (kI (-1))) :: []) [2]) .ret)
def Qa0p : SC := (.seq (.block 0 (.seq (.reg ( mJ 4 0 :: cJ 5 .eql 4 1 :: mJ 3 5 :: []) [0, 3]) Qa0n)) Qa0o)
def Qa8a : SC := (.seq (.reg ( fI 2 (.mv (kI 0)) :: []) [0]) Qa0p)
def Qajz : List RS := [.tmp 2]
theorem Qa7e : mFn prog Qob 1 28 Qa8a Qajz = true := by kernel_rfl
def Qauu : SC := (.cond (.t 3) (.seq (.reg ( fI 2 (.mv (kI 1)) :: []) [2]) .ret) .skip)
def Qauv : SC := (.seq (.reg ( fI 2 (.mv (kI 0)) :: []) [2]) .ret)
def Qauw : SC := (.seq (.seq (.reg ( mJ 3 0 :: []) [3]) Qauu) Qauv)
def Qa42 : SC := (.seq (.reg ( fI 2 (.mv (kI 0)) :: []) [0]) Qauw)
def Q6t : List RS := [.tmp 2]
theorem Qa3j : mFn prog Qyk 1 4 Qa42 Q6t = true := by kernel_rfl
def Qage : SC := (.cond (.t 11) (.seq (.reg ( mJ 12 0 :: tJ 13 5 3 :: aJ 14 Qkn [.t 12, .t 13] :: []) []) .ret) .skip)
def Qq4 : List Item := mJ 4 32 :: []
def Qq5 : List Item := fI 31 (.bsl 1 [.t 30]) :: eI 32 (.app 1 (.t 23) (.t 31)) :: Qq4
def Qagf : SC := (.reg ( mJ 21 5 :: cJ 22 .add 21 1 :: mJ 5 22 :: []) [0, 3, 4, 5])
def Qagg : SC := (.seq (.block 1 (.reg ( mJ 23 4 :: mJ 24 0 :: fJ 25 2 3 :: lJ 26 25 :: mJ 27 5 :: iJ 28 4 26 27 :: tJ 29 4 28 :: aJ 30 Qb0 [.t 24, .t 29] :: Qq5) [0, 3, 4, 5])) Qagf)
def Qab5 : SC := (.seq (.seq (.reg ( mJ 16 5 :: fJ 17 2 3 :: lJ 18 17 :: nJ 19 18 :: bJ 20 .lss 16 19 :: []) [0, 3, 4, 5, 20]) (.cond (.t 20) .skip (.exit 0))) Qagg)
def Qq6 : List Item := kJ 58 44 :: fJ 59 5 58 :: .e none none (.sto 1 (.t 59) (.t 57)) :: []
def Qagh : SC := (.reg ( mJ 60 0 :: mJ 61 0 :: kJ 62 61 :: fJ 63 6 62 :: lJ 64 63 :: cJ 65 .add 64 1 :: kJ 66 60 :: fJ 67 6 66 :: .e none none (.sto 1 (.t 67) (.t 65)) :: []) [])
def Qagi : SC := (.seq (.dreg 17 [0, 1, 2, 3, 4, 5, 6, 7, 8, 9, 10, 11, 12, 13, 14, 15, 16] ( mJ 44 0 :: mJ 45 0 :: kJ 46 45 :: fJ 47 5 46 :: lJ 48 47 :: fJ 49 1 3 :: lJ 50 49 :: mJ 51 0 :: kJ 52 51 :: fJ 53 6 52 :: lJ 54 53 :: fI 55 (.bld [.str [], .int .i64 0, .int .i64 0] [(0, 1, .t 50), (1, 1, .t 54), (2, 1, kI 0)]) :: fI 56 (.bsl 3 [.t 55]) :: eI 57 (.app 3 (.t 48) (.t 56)) :: Qq6) [0]) Qagh)
def Qq7 : List Item := mJ 75 4 :: aJ 76 Qar [.t 70, kI 2, .t 74, kI 0, .t 75] :: []
def Qmw : List Item := .chk 91 none (.iad 1 (.t 90) (kI 0)) :: .chk 92 none (.ld 1 false (.t 91)) :: aJ 96 Qax [.t 89, kI 3, .t 92, .t 93, .t 95] :: []
def Qmx : List Item := mJ 6 100 :: []
def Qmy : List Item := mJ 7 102 :: []
def Qmz : List Item := mJ 8 104 :: []
def Qabn : SC := (.reg ( mJ 127 0 :: mJ 128 8 :: fI 129 (.bsl 1 [.t 128]) :: mJ 130 8 :: aJ 131 Qax [.t 127, kI 1, kI 0, .t 129, .t 130] :: []) [])
def Qabo : SC := (.seq (.reg ( mJ 123 0 :: fJ 124 4 3 :: lJ 125 124 :: aJ 126 Qb8 [.t 123, .t 125] :: []) [0, 8]) Qabn)
def Qabp : SC := (.seq (.reg ( mJ 118 0 :: mJ 119 8 :: fI 120 (.bsl 1 [.t 119]) :: mJ 121 7 :: aJ 122 Qax [.t 118, kI 1, kI 0, .t 120, .t 121] :: []) [0, 3, 8]) Qabo)
def Qabq : SC := (.seq (.reg ( mJ 114 0 :: fJ 115 3 3 :: lJ 116 115 :: aJ 117 Qb8 [.t 114, .t 116] :: []) [0, 3, 7, 8]) Qabp)
def Qabr : SC := (.seq (.reg ( mJ 105 0 :: mJ 106 4 :: fI 107 (.iad 1 (.t 106) (kI 0)) :: lJ 108 107 :: mJ 109 6 :: mJ 110 7 :: fI 111 (.bsl 1 [.t 109, .t 110]) :: mJ 112 6 :: aJ 113 Qax [.t 105, kI 2, .t 108, .t 111, .t 112] :: []) [0, 3, 7, 8]) Qabq)
def Qabs : SC := (.seq (.reg ( mJ 103 0 :: aJ 104 Qak [.t 103] :: Qmz) [0, 3, 4, 6, 7, 8]) Qabr)
def Qabt : SC := (.seq (.reg ( mJ 101 0 :: aJ 102 Qak [.t 101] :: Qmy) [0, 3, 4, 6, 7]) Qabs)
def Qabu : SC := (.cond (.t 97) (.seq (.reg ( mJ 99 0 :: aJ 100 Qak [.t 99] :: Qmx) [0, 3, 4, 6]) Qabt) .skip)
def Qabv : SC := (.cond (.t 87) (.dreg 8 [0, 1, 2, 3, 4, 5, 6, 2, 3, 7] ( mJ 89 0 :: mJ 90 4 :: fI 91 (.iad 1 (.t 90) (kI 0)) :: lJ 92 91 :: fI 93 (.bsl 1 []) :: mJ 94 0 :: aJ 95 Qak [.t 94] :: Qmw) []) (.seq (.reg ( cJ 98 .eql 34 5 :: mJ 97 98 :: []) [0, 3, 4, 97]) Qabu))
def Qabw : SC := (.cond (.t 82) (.reg ( mJ 84 0 :: mJ 85 4 :: aJ 86 Qar [.t 84, kI 12, kI (-1), kI 0, .t 85] :: []) []) (.seq (.reg ( cJ 88 .eql 34 7 :: mJ 87 88 :: []) [0, 3, 4, 34, 87]) Qabv))
def Qabx : SC := (.cond (.t 77) (.reg ( mJ 79 0 :: mJ 80 4 :: aJ 81 Qar [.t 79, kI 13, kI (-1), kI 0, .t 80] :: []) []) (.seq (.reg ( cJ 83 .eql 34 4 :: mJ 82 83 :: []) [0, 3, 4, 34, 82]) Qabw))
def Qaby : SC := (.cond (.t 68) (.reg ( mJ 70 0 :: mJ 71 0 :: fJ 72 1 3 :: lJ 73 72 :: aJ 74 Qhe [.t 71, .t 73] :: Qq7) []) (.seq (.reg ( cJ 78 .eql 34 3 :: mJ 77 78 :: []) [0, 3, 4, 34, 77]) Qabx))
def Qabz : SC := (.cond (.t 35) (.seq (.reg ( mJ 37 0 :: mJ 38 0 :: kJ 39 38 :: fJ 40 6 39 :: lJ 41 40 :: mJ 42 4 :: aJ 43 Qar [.t 37, kI 2, .t 41, kI 0, .t 42] :: []) [0, 3]) Qagi) (.seq (.reg ( cJ 69 .eql 34 2 :: mJ 68 69 :: []) [0, 3, 4, 34, 68]) Qaby))
def Qab0 : SC := (.block 2 (.seq (.reg ( cJ 36 .eql 34 1 :: mJ 35 36 :: []) [0, 3, 4, 34, 35]) Qabz))
def Qab1 : SC := (.seq (.seq .gh (.reg ( fJ 33 0 3 :: lJ 34 33 :: []) [0, 3, 4, 34])) Qab0)
def Qab2 : SC := (.seq (.seq (.reg ( fI 5 (.mv (kI 0)) :: []) [0, 3, 4, 5]) (.block 0 (.loop Qab5))) Qab1)
def Qab3 : SC := (.seq (.reg ( fI 15 (.bsl 1 []) :: mJ 4 15 :: []) [0, 3, 4]) Qab2)
def Qab4 : SC := (.seq (.seq (.reg ( fJ 9 0 3 :: lJ 10 9 :: cJ 11 .eql 10 6 :: []) [0, 3, 11]) Qage) Qab3)
def Qap7 : SC := (.seq (.reg ( fI 3 (.box (.t 1)) :: []) [0, 3]) Qab4)
def Qov : List RS := []
theorem Qanb : mFn prog Qko 2 132 Qap7 Qov = true := by kernel_rfl
def Qqg : List Item := mJ 5 19 :: []
def Qqh : List Item := fI 42 (.bsl 4 [.t 41]) :: fI 43 (.bld [.int .i64 0, .str [], .sl true 4 [], .sl true 5 [], .sl true 5 []] [(0, 1, kI 2), (1, 1, .t 39), (2, 1, .t 42)]) :: fI 44 (.bsl 5 [.t 43]) :: mJ 4 44 :: []
def Qqi : List Item := aJ 41 Qa6 [.t 40, kI 3] :: Qqh
def Qqj : List Item := fI 52 (.bsl 5 [.t 51]) :: mJ 4 52 :: []
def Qqk : List Item := aJ 51 Qhd [.t 48, .t 50] :: Qqj
def Qql : List Item := fI 62 (.bsl 4 [.t 61]) :: fI 63 (.bld [.int .i64 0, .str [], .sl true 4 [], .sl true 5 [], .sl true 5 []] [(0, 1, kI 3), (2, 1, .t 62)]) :: fI 64 (.bsl 5 [.t 63]) :: mJ 4 64 :: []
def Qqm : List Item := fI 72 (.bsl 4 [.t 69, .t 71]) :: fI 73 (.bld [.int .i64 0, .str [], .sl true 4 [], .sl true 5 [], .sl true 5 []] [(0, 1, kI 4), (2, 1, .t 72)]) :: fI 74 (.bsl 5 [.t 73]) :: mJ 4 74 :: []
def Qqn : List Item := mJ 70 0 :: aJ 71 Qa6 [.t 70, kI 2] :: Qqm
def Qqo : List Item := fI 80 (.bsl 4 [.t 79]) :: fI 81 (.bld [.int .i64 0, .int .i64 0, .str [], .sl true 4 []] [(0, 1, kI 12), (3, 1, .t 80)]) :: fI 82 (.bsl 4 [.t 81]) :: fI 83 (.bld [.int .i64 0, .str [], .sl true 4 [], .sl true 5 [], .sl true 5 []] [(0, 1, kI 3), (2, 1, .t 82)]) :: fI 84 (.bsl 5 [.t 83]) :: mJ 4 84 :: []
def Qqp : List Item := .e none none (.sto 5 (.t 6) (.t 95)) :: []
def Ql9 : List Item := fI 95 (.bld [.int .i64 0, .str [], .sl true 4 [], .sl true 5 [], .sl true 5 []] [(0, 1, kI 5), (2, 1, .t 90), (3, 1, .t 94)]) :: eI 6 (.alloc [.int .i64 0, .str [], .sl true 4 [], .sl true 5 [], .sl true 5 []]) :: Qqp
def Qma : List Item := fI 90 (.bsl 4 [.t 89]) :: mJ 91 0 :: mJ 92 1 :: cJ 93 .sub 92 1 :: aJ 94 Qb7 [.t 91, .t 93] :: Ql9
def Qmb : List Item := cJ 101 .eql 100 0 :: []
def Qmc : List Item := fJ 106 4 6 :: .e none none (.sto 1 (.t 106) (.t 105)) :: []
def Q89 : SC := (.cond (.t 101) (.reg ( mJ 102 0 :: mJ 103 1 :: cJ 104 .sub 103 1 :: aJ 105 Qb7 [.t 102, .t 104] :: Qmc) [6]) .skip)
def Qqe : SC := (.seq (.reg ( tJ 107 5 6 :: fI 108 (.bsl 5 [.t 107]) :: mJ 4 108 :: []) [4]) .ret)
def Q9a : SC := (.seq (.seq (.reg ( mJ 96 0 :: kJ 97 96 :: fJ 98 0 97 :: lJ 99 98 :: aJ 100 Qk [.t 99, kI 2] :: Qmb) [0, 1, 6, 101]) Q89) Qqe)
def Qe6 : List Item := gT 118 112 (.bin 0 .eql (.t 117) (kI 0)) :: fI 119 (.pick (.t 112) (.t 118) (.k (.c (.bool false)))) :: mJ 109 119 :: []
def Qmd : List Item := fI 122 (.bsl 4 [.t 121]) :: fI 123 (.bld [.int .i64 0, .str [], .sl true 4 [], .sl true 5 [], .sl true 5 []] [(0, 1, kI 7), (2, 1, .t 122)]) :: fI 124 (.bsl 5 [.t 123]) :: mJ 4 124 :: []
def Qqf : SC := (.cond (.t 109) (.seq (.reg ( mJ 120 0 :: aJ 121 Qa6 [.t 120, kI 2] :: Qmd) [4]) .ret) .skip)
def Q9b : SC := (.cond (.t 85) (.seq (.reg ( mJ 88 0 :: aJ 89 Qa6 [.t 88, kI 3] :: Qma) [0, 1, 6]) Q9a) (.seq (.reg ( mJ 110 5 :: cJ 111 .eql 110 11 :: mJ 112 111 :: gTm 113 112 0 :: gT 114 112 (.nck (.t 113)) :: gTf 115 112 0 114 :: gTl 116 112 115 :: .e (some 117) (some (112, true)) (.call Qk [.t 116, kI 3]) :: Qe6) [0, 1, 109]) Qqf))
def Q9c : SC := (.cond (.t 75) (.seq (.reg ( mJ 78 0 :: aJ 79 Qfi [.t 78] :: Qqo) [4]) .ret) (.seq (.reg ( mJ 86 5 :: cJ 87 .lss 86 11 :: mJ 85 87 :: []) [0, 1, 5, 85]) Q9b))
def Q9d : SC := (.cond (.t 65) (.seq (.reg ( mJ 68 0 :: aJ 69 Qfi [.t 68] :: Qqn) [4]) .ret) (.seq (.reg ( mJ 76 5 :: cJ 77 .eql 76 8 :: mJ 75 77 :: []) [0, 1, 5, 75]) Q9c))
def Q9e : SC := (.cond (.t 53) (.seq (.reg ( mJ 60 0 :: aJ 61 Qa6 [.t 60, kI 3] :: Qql) [4]) .ret) (.seq (.reg ( mJ 66 5 :: cJ 67 .eql 66 7 :: mJ 65 67 :: []) [0, 1, 5, 65]) Q9d))
def Q9f : SC := (.cond (.t 45) (.seq (.reg ( mJ 48 0 :: mJ 49 0 :: aJ 50 Qa6 [.t 49, kI 3] :: Qqk) [4]) .ret) (.seq (.reg ( mJ 54 5 :: cJ 55 .lss 54 7 :: mJ 56 55 :: gFm 57 56 1 :: gF 58 56 (.bin 0 .lss (.t 57) (kI 2)) :: fI 59 (.pick (.t 56) (.k (.c (.bool true))) (.t 58)) :: mJ 53 59 :: []) [0, 1, 5, 53]) Q9e))
def Q9g : SC := (.cond (.t 20) (.seq (.dreg 15 [0, 1, 2, 3, 4, 5, 6, 7, 9, 8, 10, 11, 12, 13, 14] ( mJ 31 0 :: kJ 32 31 :: fJ 33 0 32 :: lJ 34 33 :: mJ 35 0 :: kJ 36 35 :: fJ 37 2 36 :: lJ 38 37 :: mJ 40 0 :: aJ 39 Qf7 [.t 34, .t 38] :: Qqi) [4]) .ret) (.seq (.reg ( mJ 46 5 :: cJ 47 .lss 46 5 :: mJ 45 47 :: []) [0, 1, 5, 45]) Q9f))
def Qme : List Item := mJ 4 127 :: []
def Qgu : SC := (.seq (.reg ( mJ 125 0 :: mJ 126 1 :: aJ 127 Qkk [.t 125, .t 126] :: Qme) [4]) .ret)
def Q9h : SC := (.seq (.block 0 (.seq (.reg ( mJ 21 5 :: cJ 22 .lss 21 3 :: mJ 23 22 :: gTm 24 23 0 :: gT 25 23 (.nck (.t 24)) :: gTf 26 23 2 25 :: gTl 27 23 26 :: gT 28 23 (.len (.t 27)) :: gT 29 23 (.bin 0 .gtr (.t 28) (kI 0)) :: fI 30 (.pick (.t 23) (.t 29) (.k (.c (.bool false)))) :: mJ 20 30 :: []) [0, 1, 5, 20]) Q9g)) Qgu)
def Q9i : SC := (.seq (.reg ( mJ 15 0 :: kJ 16 15 :: fJ 17 0 16 :: lJ 18 17 :: aJ 19 Qk [.t 18, kI 13] :: Qqg) [0, 1, 5]) Q9h)
def Q9j : SC := (.seq (.reg ( mJ 7 0 :: mJ 8 0 :: kJ 9 8 :: fJ 10 4 9 :: lJ 11 10 :: cJ 12 .sub 11 1 :: kJ 13 7 :: fJ 14 4 13 :: .e none none (.sto 1 (.t 14) (.t 12)) :: []) [0, 1]) Q9i)
def Qao6 : SC := (.seq (.reg ( fI 4 (.mv (.k (.c (.sl true 5 [])))) :: []) [0, 1]) Q9j)
def Qa8 : List RS := [.tmp 4]
theorem Qam6 : mFn prog Qkl 2 128 Qao6 Qa8 = true := by kernel_rfl
def Qvf : List Item := gF 13 10 (.bin 0 .eql (.t 12) (kI 0)) :: fI 14 (.pick (.t 10) (.k (.c (.bool true))) (.t 13)) :: []
def Q78 : List Item := .e none none (.sto 4 (.t 6) (.t 17)) :: []
def s_l2Expr_2 : SC := (.cond (.t 14) (.seq (.reg ( mJ 15 0 :: mJ 16 1 :: aJ 17 Q5l [.t 15, .t 16] :: Q78) [6]) .ret) .skip)
def Q79 : List Item := cJ 20 .eql 19 0 :: []
def Q8a : List Item := fI 29 (.bsl 4 [.t 28]) :: fI 30 (.bld [.int .i64 0, .int .i64 0, .str [], .sl true 4 []] [(0, 1, .t 23), (3, 1, .t 29)]) :: .e none none (.sto 4 (.t 6) (.t 30)) :: []
def Q8b : List Item := mJ 24 0 :: mJ 25 1 :: mJ 26 2 :: cJ 27 .sub 26 1 :: aJ 28 Qez [.t 24, .t 25, .t 27] :: Q8a
def Qazz : SC := (.cond (.t 20) (.seq (.reg ( mJ 21 0 :: fI 22 (.bsl 1 [kI 11, kI 12, kI 11]) :: aJ 23 Q8 [.t 21, .t 22] :: Q8b) [6]) .ret) .skip)
def Q8c : List Item := mJ 7 33 :: []
def Q8d : List Item := fI 45 (.bsl 4 [.t 39, .t 44]) :: fI 46 (.bld [.int .i64 0, .int .i64 0, .str [], .sl true 4 []] [(0, 1, .t 34), (3, 1, .t 45)]) :: .e none none (.sto 4 (.t 6) (.t 46)) :: []
def Q8e : List Item := mJ 40 0 :: mJ 41 1 :: mJ 42 2 :: cJ 43 .sub 42 1 :: aJ 44 Qez [.t 40, .t 41, .t 43] :: Q8d
def Qati : SC := (.seq (.reg ( mJ 34 7 :: mJ 35 0 :: mJ 36 1 :: mJ 37 2 :: cJ 38 .sub 37 1 :: aJ 39 Qez [.t 35, .t 36, .t 38] :: Q8e) [6]) .ret)
def Qatj : SC := (.seq (.reg ( mJ 31 0 :: fI 32 (.bsl 1 [kI 3, kI 3, kI 4, kI 5, kI 6, kI 7, kI 8, kI 9, kI 10]) :: aJ 33 Q8 [.t 31, .t 32] :: Q8c) [0, 1, 2, 6, 7]) Qati)
def Q77 : SC := (.seq (.seq (.reg ( mJ 18 0 :: aJ 19 Qk [.t 18, kI 7] :: Q79) [0, 1, 2, 6, 20]) Qazz) Qatj)
def Qatk : SC := (.seq (.seq (.reg ( mJ 8 2 :: cJ 9 .lss 8 2 :: mJ 10 9 :: gFm 11 10 0 :: .e (some 12) (some (10, false)) (.call Qk [.t 11, kI 4]) :: Qvf) [0, 1, 2, 6, 14]) s_l2Expr_2) Q77)
def Qa7y : SC := (.seq (.reg ( eI 6 (.alloc [.int .i64 0, .int .i64 0, .str [], .sl true 4 []]) :: []) [0, 1, 2, 6]) Qatk)
def Q43 : List RS := [.cell 6 4 true]
theorem Qa67 : mFn prog Qez 3 47 Qa7y Q43 = true := by kernel_rfl
def Qir : List Item := gT 13 10 (.not (.t 12)) :: fI 14 (.pick (.t 10) (.t 13) (.k (.c (.bool false)))) :: mJ 2 14 :: []
def Qug : List Item := mJ 5 4 :: gTm 6 5 0 :: gT 7 5 (.lens (.t 6)) :: gT 8 5 (.bin 0 .leq (.t 7) (kI 4)) :: fI 9 (.pick (.t 5) (.t 8) (.k (.c (.bool false)))) :: mJ 10 9 :: gTm 11 10 0 :: .e (some 12) (some (10, true)) (.call Qaiy [.t 11]) :: Qir
def Qal4 : SC := (.seq (.reg ( mJ 3 0 :: aJ 4 Qaix [.t 3, kI 1] :: Qug) [2]) .ret)
def Qaw8 : SC := (.seq (.reg ( fI 2 (.mv (.k (.c (.bool false)))) :: []) [0]) Qal4)
def Qu3 : List RS := [.tmp 2]
theorem Qar2 : mFn prog Qda 1 15 Qaw8 Qu3 = true := by kernel_rfl
def Q1t : List Item := oJ 18 17 :: []
def Qaup : SC := (.cond (.t 18) (.seq (.reg ( fI 4 (.mv (.k (.c (.bool false)))) :: []) [4]) .ret) .skip)
def Qauq : SC := (.reg ( mJ 10 5 :: cJ 11 .add 10 1 :: mJ 5 11 :: []) [0, 1, 5])
def Qaur : SC := (.seq (.block 1 (.seq (.reg ( mJ 12 0 :: mJ 13 5 :: iJ 14 5 12 13 :: tJ 15 5 14 :: mJ 16 1 :: aJ 17 Q5o [.t 15, .t 16] :: Q1t) [0, 1, 5, 18]) Qaup)) Qauq)
def Qao8 : SC := (.seq (.seq (.reg ( mJ 6 5 :: mJ 7 0 :: nJ 8 7 :: bJ 9 .lss 6 8 :: []) [0, 1, 5, 9]) (.cond (.t 9) .skip (.exit 0))) Qaur)
def Qaus : SC := (.seq (.reg ( fI 4 (.mv (.k (.c (.bool true)))) :: []) [4]) .ret)
def Qaut : SC := (.seq (.seq (.reg ( fI 5 (.mv (kI 0)) :: []) [0, 1, 5]) (.block 0 (.loop Qao8))) Qaus)
def Qa41 : SC := (.seq (.reg ( fI 4 (.mv (.k (.c (.bool false)))) :: []) [0, 1]) Qaut)
def Q6s : List RS := [.tmp 4]
theorem Qa3i : mFn prog Qiw 2 19 Qa41 Q6s = true := by kernel_rfl
def Q1j : List Item := bJ 27 .add 20 26 :: mJ 3 27 :: []
def Q1k : List Item := .chk 23 none (.iad 5 (.t 21) (.t 22)) :: .chk 25 none (.ld 1 false (.t 24)) :: bJ 20 .add 13 19 :: aJ 26 Qiv [.t 25] :: Q1j
def Qat3 : SC := (.reg ( mJ 11 4 :: cJ 12 .add 11 1 :: mJ 4 12 :: []) [0, 3, 4])
def Qat4 : SC := (.seq (.block 1 (.dreg 16 [0, 1, 2, 3, 4, 5, 8, 9, 10, 11, 12, 6, 10, 12, 7, 13, 14, 15] ( mJ 13 3 :: mJ 14 0 :: mJ 15 4 :: iJ 16 5 14 15 :: fJ 17 3 16 :: lJ 18 17 :: mJ 21 0 :: mJ 22 4 :: iJ 23 5 21 22 :: fJ 24 4 23 :: lJ 25 24 :: aJ 19 Qiv [.t 18] :: Q1k) [0, 3, 4])) Qat3)
def Qaoy : SC := (.seq (.seq (.reg ( mJ 7 4 :: mJ 8 0 :: nJ 9 8 :: bJ 10 .lss 7 9 :: []) [0, 3, 4, 10]) (.cond (.t 10) .skip (.exit 0))) Qat4)
def Qat5 : SC := (.seq (.reg ( mJ 28 3 :: mJ 2 28 :: []) [2]) .ret)
def Qat6 : SC := (.seq (.seq (.reg ( fI 4 (.mv (kI 0)) :: []) [0, 3, 4]) (.block 0 (.loop Qaoy))) Qat5)
def Qat7 : SC := (.seq (.reg ( mJ 5 0 :: nJ 6 5 :: mJ 3 6 :: []) [0, 3]) Qat6)
def Qa4z : SC := (.seq (.reg ( fI 2 (.mv (kI 0)) :: []) [0]) Qat7)
def Qann : List RS := [.tmp 2]
theorem Qa3h : mFn prog Qiv 1 29 Qa4z Qann = true := by kernel_rfl
def Qq0 : List Item := mJ 4 9 :: []
def Qq1 : List Item := mJ 5 11 :: []
def Qq2 : List Item := mJ 6 13 :: []
def Qq3 : List Item := mJ 7 24 :: []
def Qaf7 : SC := (.reg ( mJ 36 0 :: mJ 37 4 :: fI 38 (.bsl 1 [.t 37]) :: mJ 39 6 :: aJ 40 Qax [.t 36, kI 1, kI 0, .t 38, .t 39] :: []) [])
def Qaf8 : SC := (.seq (.reg ( mJ 32 0 :: fJ 33 3 3 :: lJ 34 33 :: aJ 35 Qb8 [.t 32, .t 34] :: []) [0, 4, 6]) Qaf7)
def Qaf9 : SC := (.seq (.reg ( mJ 25 0 :: mJ 26 7 :: mJ 27 5 :: mJ 28 6 :: fI 29 (.bsl 1 [.t 27, .t 28]) :: mJ 30 5 :: aJ 31 Qax [.t 25, kI 2, .t 26, .t 29, .t 30] :: []) [0, 3, 4, 6]) Qaf8)
def Qaga : SC := (.seq (.reg ( mJ 19 0 :: fJ 20 2 3 :: lJ 21 20 :: fI 22 (.iad 4 (.t 21) (kI 0)) :: tJ 23 4 22 :: aJ 24 Qb0 [.t 19, .t 23] :: Qq3) [0, 3, 4, 5, 6, 7]) Qaf9)
def Qagb : SC := (.seq (.reg ( mJ 14 0 :: mJ 15 4 :: fI 16 (.bsl 1 [.t 15]) :: mJ 17 4 :: aJ 18 Qax [.t 14, kI 1, kI 0, .t 16, .t 17] :: []) [0, 3, 4, 5, 6]) Qaga)
def Qagc : SC := (.seq (.reg ( mJ 12 0 :: aJ 13 Qak [.t 12] :: Qq2) [0, 3, 4, 5, 6]) Qagb)
def Qabl : SC := (.seq (.reg ( mJ 10 0 :: aJ 11 Qak [.t 10] :: Qq1) [0, 3, 4, 5]) Qagc)
def Qabm : SC := (.seq (.reg ( mJ 8 0 :: aJ 9 Qak [.t 8] :: Qq0) [0, 3, 4]) Qabl)
def Qap6 : SC := (.seq (.reg ( fI 3 (.box (.t 1)) :: []) [0, 3]) Qabm)
def Q0t : List RS := []
theorem Qana : mFn prog Qkn 2 41 Qap6 Q0t = true := by kernel_rfl
def Qqu : List Item := mJ 4 17 :: []
def Qqv : List Item := .chk 15 none (.ld 1 false (.t 14)) :: aJ 17 Qar [.t 11, kI 1, .t 13, .t 15, .t 16] :: Qqu
def Qqw : List Item := mJ 4 23 :: []
def Qqx : List Item := mJ 4 28 :: []
def Qafz : SC := (.cond (.t 24) (.seq (.reg ( mJ 26 0 :: tJ 27 4 3 :: aJ 28 Qod [.t 26, .t 27] :: Qqx) [4]) .ret) .skip)
def Qaf0 : SC := (.cond (.t 18) (.seq (.reg ( mJ 20 0 :: fJ 21 2 3 :: lJ 22 21 :: aJ 23 Qhe [.t 20, .t 22] :: Qqw) [4]) .ret) (.seq (.reg ( cJ 25 .eql 8 10 :: mJ 24 25 :: []) [0, 3, 24]) Qafz))
def Qaf1 : SC := (.cond (.t 9) (.seq (.dreg 8 [0, 1, 3, 4, 5, 2, 4, 6, 7] ( mJ 11 0 :: mJ 12 0 :: fJ 14 1 3 :: lJ 15 14 :: fI 16 (.bsl 1 []) :: aJ 13 Qa0 [.t 12] :: Qqv) [4]) .ret) (.seq (.reg ( cJ 19 .eql 8 2 :: mJ 18 19 :: []) [0, 3, 8, 18]) Qaf0))
def Qaf2 : SC := (.block 0 (.seq (.reg ( cJ 10 .eql 8 1 :: mJ 9 10 :: []) [0, 3, 8, 9]) Qaf1))
def Qqy : List Item := mJ 5 46 :: []
def Qqz : List Item := fI 45 (.bsl 1 [.t 44]) :: eI 46 (.app 1 (.t 37) (.t 45)) :: Qqy
def Qaa8 : SC := (.reg ( mJ 35 6 :: cJ 36 .add 35 1 :: mJ 6 36 :: []) [0, 3, 5, 6])
def Qaa9 : SC := (.seq (.block 2 (.reg ( mJ 37 5 :: mJ 38 0 :: fJ 39 3 3 :: lJ 40 39 :: mJ 41 6 :: iJ 42 4 40 41 :: tJ 43 4 42 :: aJ 44 Qb0 [.t 38, .t 43] :: Qqz) [0, 3, 5, 6])) Qaa8)
def Q4d : SC := (.seq (.seq (.reg ( mJ 30 6 :: fJ 31 3 3 :: lJ 32 31 :: nJ 33 32 :: bJ 34 .lss 30 33 :: []) [0, 3, 5, 6, 34]) (.cond (.t 34) .skip (.exit 1))) Qaa9)
def Qmn : List Item := mJ 4 55 :: []
def Qmo : List Item := mJ 54 5 :: aJ 55 Qar [.t 51, kI 10, .t 53, kI 0, .t 54] :: Qmn
def Qmp : List Item := mJ 4 62 :: []
def Qmq : List Item := mJ 61 5 :: aJ 62 Qar [.t 58, kI 11, .t 60, kI 0, .t 61] :: Qmp
def Qmr : List Item := mJ 4 76 :: []
def Qms : List Item := aJ 76 Qar [.t 65, kI 14, .t 67, .t 74, .t 75] :: Qmr
def Qmt : List Item := .chk 71 none (.ld 1 true (.t 70)) :: .chk 73 none (.ld 1 false (.t 72)) :: aJ 74 Qym [.t 71, .t 73] :: Qms
def Qaba : SC := (.cond (.t 63) (.seq (.dreg 13 [0, 1, 3, 4, 5, 6, 7, 8, 10, 2, 6, 8, 9, 11, 12] ( mJ 65 0 :: mJ 66 0 :: mJ 68 0 :: kJ 69 68 :: fJ 70 0 69 :: tJ 71 1 70 :: fJ 72 2 3 :: lJ 73 72 :: mJ 75 5 :: aJ 67 Qa0 [.t 66] :: Qmt) [4]) .ret) .skip)
def Qabb : SC := (.cond (.t 56) (.seq (.reg ( mJ 58 0 :: mJ 59 0 :: aJ 60 Qa0 [.t 59] :: Qmq) [4]) .ret) (.seq (.reg ( cJ 64 .eql 48 13 :: mJ 63 64 :: []) [0, 3, 5, 63]) Qaba))
def Qabc : SC := (.cond (.t 49) (.seq (.reg ( mJ 51 0 :: mJ 52 0 :: aJ 53 Qa0 [.t 52] :: Qmo) [4]) .ret) (.seq (.reg ( cJ 57 .eql 48 12 :: mJ 56 57 :: []) [0, 3, 5, 48, 56]) Qabb))
def Qabd : SC := (.block 3 (.seq (.reg ( cJ 50 .eql 48 11 :: mJ 49 50 :: []) [0, 3, 5, 48, 49]) Qabc))
def Qmu : List Item := mJ 4 83 :: []
def Qmv : List Item := .chk 79 none (.ld 1 false (.t 78)) :: aJ 83 Qar [.t 77, .t 79, .t 81, kI 0, .t 82] :: Qmu
def Qabe : SC := (.seq (.dreg 8 [0, 1, 2, 3, 5, 4, 2, 6, 7] ( mJ 77 0 :: fJ 78 0 3 :: lJ 79 78 :: mJ 80 0 :: mJ 82 5 :: aJ 81 Qa0 [.t 80] :: Qmv) [4]) .ret)
def Qabf : SC := (.seq (.seq (.seq .gh (.reg ( fJ 47 0 3 :: lJ 48 47 :: []) [0, 3, 5, 48])) Qabd) Qabe)
def Qabg : SC := (.seq (.seq (.reg ( fI 6 (.mv (kI 0)) :: []) [0, 3, 5, 6]) (.block 1 (.loop Q4d))) Qabf)
def Qabh : SC := (.seq (.reg ( fI 29 (.bsl 1 []) :: mJ 5 29 :: []) [0, 3, 5]) Qabg)
def Qabi : SC := (.seq (.seq (.reg ( fJ 7 0 3 :: lJ 8 7 :: []) [0, 3, 8]) Qaf2) Qabh)
def Qap4 : SC := (.seq (.reg ( fI 3 (.box (.t 1)) :: fI 4 (.mv (kI 0)) :: []) [0, 3]) Qabi)
def Qou : List RS := [.tmp 4]
theorem Qam8 : mFn prog Qb0 2 84 Qap4 Qou = true := by kernel_rfl
def Qalm : SC := (.cond (.t 25) (.seq (.reg ( mJ 26 0 :: kJ 27 26 :: fJ 28 5 27 :: lJ 29 28 :: mJ 30 5 :: iJ 31 3 29 30 :: fJ 32 1 31 :: lJ 33 32 :: mJ 4 33 :: []) [4]) .ret) .skip)
def Qaln : SC := (.reg ( mJ 14 5 :: cJ 15 .sub 14 1 :: mJ 5 15 :: []) [0, 1, 5])
def Qalo : SC := (.seq (.block 1 (.seq (.reg ( mJ 16 0 :: kJ 17 16 :: fJ 18 5 17 :: lJ 19 18 :: mJ 20 5 :: iJ 21 3 19 20 :: fJ 22 0 21 :: lJ 23 22 :: mJ 24 1 :: bJ 25 .eql 23 24 :: []) [0, 1, 5, 25]) Qalm)) Qaln)
def Qagd : SC := (.seq (.seq (.reg ( mJ 12 5 :: cJ 13 .geq 12 0 :: []) [0, 1, 5, 13]) (.cond (.t 13) .skip (.exit 0))) Qalo)
def Qalp : SC := (.seq (.reg ( fI 4 (.mv (kI (-1))) :: []) [4]) .ret)
def Qalq : SC := (.seq (.seq (.reg ( mJ 6 0 :: kJ 7 6 :: fJ 8 5 7 :: lJ 9 8 :: nJ 10 9 :: cJ 11 .sub 10 1 :: mJ 5 11 :: []) [0, 1, 5]) (.block 0 (.loop Qagd))) Qalp)
def Qawy : SC := (.seq (.reg ( fI 4 (.mv (kI 0)) :: []) [0, 1]) Qalq)
def Qu0 : List RS := [.tmp 4]
theorem Qarz : mFn prog Qhe 2 34 Qawy Qu0 = true := by kernel_rfl
def Qxn : List Item := iJ 10 1 5 9 :: lJ 11 10 :: mJ 4 11 :: []
def Qaow : SC := (.seq (.reg ( mJ 5 1 :: mJ 6 0 :: mJ 7 1 :: nJ 8 7 :: aJ 9 Qk [.t 6, .t 8] :: Qxn) [4]) .ret)
def Qaz8 : SC := (.seq (.reg ( fI 4 (.mv (.k (.c (.str [])))) :: []) [0, 1]) Qaow)
def Qah5 : List RS := [.tmp 4]
theorem Qaze : mFn prog Qf7 2 12 Qaz8 Qah5 = true := by kernel_rfl
def Qtx : List Item := mJ 5 7 :: []
def Qty : List Item := kJ 18 8 :: fJ 19 2 18 :: .e none none (.sto 1 (.t 19) (.t 17)) :: []
def Qtz : List Item := mJ 15 5 :: fI 16 (.bsl 1 [.t 15]) :: eI 17 (.app 1 (.t 14) (.t 16)) :: Qty
def Qak8 : SC := (.seq (.reg ( mJ 20 5 :: tJ 21 4 3 :: fI 22 (.bsl 4 [.t 21]) :: fI 23 (.bld [.int .i64 0, .str [], .sl true 4 [], .sl true 5 [], .sl true 5 []] [(0, 1, kI 1), (1, 1, .t 20), (2, 1, .t 22)]) :: .e none none (.sto 5 (.t 4) (.t 23)) :: []) [4]) .ret)
def Qak9 : SC := (.seq (.reg ( mJ 8 0 :: fI 9 (.bsl 1 []) :: mJ 10 0 :: kJ 11 10 :: fJ 12 2 11 :: lJ 13 12 :: eI 14 (.app 1 (.t 9) (.t 13)) :: Qtz) [3, 4, 5]) Qak8)
def Qala : SC := (.seq (.reg ( mJ 6 0 :: aJ 7 Qh4 [.t 6] :: Qtx) [0, 3, 4, 5]) Qak9)
def Qat8 : SC := (.seq (.reg ( fI 3 (.box (.t 1)) :: eI 4 (.alloc [.int .i64 0, .str [], .sl true 4 [], .sl true 5 [], .sl true 5 []]) :: []) [0, 3, 4]) Qala)
def Q6r : List RS := [.cell 4 5 true]
theorem Qarw : mFn prog Qhd 2 24 Qat8 Q6r = true := by kernel_rfl
def Qpw : List Item := fI 11 (.bld [.int .i64 0, .int .i64 0, .str [], .sl true 4 []] [(0, 1, kI 1), (1, 1, .t 10)]) :: fI 12 (.bsl 4 [.t 4, .t 11]) :: fI 13 (.bld [.int .i64 0, .int .i64 0, .str [], .sl true 4 []] [(0, 1, kI 7), (3, 1, .t 12)]) :: .e none none (.sto 4 (.t 2) (.t 13)) :: []
def Qpx : List Item := .chk 8 none (.ld 1 false (.t 7)) :: aJ 10 Q8 [.t 8, .t 9] :: Qpw
def Qafh : SC := (.seq (.dreg 12 [0, 2, 3, 4, 5, 6, 1, 5, 7, 8, 9, 10, 11] ( mJ 3 0 :: mJ 5 0 :: kJ 6 5 :: fJ 7 0 6 :: lJ 8 7 :: fI 9 (.bsl 1 [kI 16, kI 16, kI 16, kI 8, kI 17, kI 0]) :: aJ 4 Qa6 [.t 3, kI 2] :: Qpx) [2]) .ret)
def Qao1 : SC := (.seq (.reg ( eI 2 (.alloc [.int .i64 0, .int .i64 0, .str [], .sl true 4 []]) :: []) [0, 2]) Qafh)
def Q0p : List RS := [.cell 2 4 true]
theorem Qam3 : mFn prog Qfi 1 14 Qao1 Q0p = true := by kernel_rfl
def Qp7 : List Item := .e none none (.sto 5 (.t 5) (.t 17)) :: []
def Qp8 : List Item := eI 5 (.alloc [.int .i64 0, .str [], .sl true 4 [], .sl true 5 [], .sl true 5 []]) :: Qp7
def Qp9 : List Item := fI 16 (.bld [.int .i64 0, .int .i64 0, .str [], .sl true 4 []] [(0, 1, kI 1), (1, 1, .t 15)]) :: aJ 17 Qhd [.t 9, .t 16] :: Qp8
def Qqa : List Item := .e none none (.sto 4 (.t 6) (.t 20)) :: []
def Qqb : List Item := mJ 7 24 :: []
def Qqc : List Item := .e none none (.sto 5 (.t 8) (.t 32)) :: []
def Qqd : List Item := .chk 41 none (.ld 5 true (.t 5)) :: .chk 42 none (.ld 4 true (.t 6)) :: fI 48 (.bld [.int .i64 0, .str [], .sl true 4 [], .sl true 5 [], .sl true 5 []] [(0, 1, kI 6), (2, 1, .t 43), (3, 1, .t 47)]) :: fI 49 (.bsl 5 [.t 41, .t 48]) :: mJ 4 49 :: []
def Qafj : SC := (.seq (.dreg 10 [0, 1, 2, 3, 4, 5, 6, 0, 1, 7, 8, 9] ( tJ 41 5 5 :: tJ 42 4 6 :: fI 43 (.bsl 4 [.t 42]) :: mJ 44 7 :: tJ 45 5 8 :: fI 46 (.bsl 5 [.t 45]) :: eI 47 (.app 5 (.t 44) (.t 46)) :: Qqd) [4]) .ret)
def Qafk : SC := (.seq (.reg ( mJ 33 0 :: mJ 34 0 :: kJ 35 34 :: fJ 36 4 35 :: lJ 37 36 :: cJ 38 .sub 37 2 :: kJ 39 33 :: fJ 40 4 39 :: .e none none (.sto 1 (.t 40) (.t 38)) :: []) [5, 6, 7, 8]) Qafj)
def Qafl : SC := (.seq (.reg ( fJ 25 1 5 :: lJ 26 25 :: tJ 27 4 6 :: fI 28 (.bld [.int .i64 0, .int .i64 0, .str [], .sl true 4 []] [(0, 1, kI 1), (1, 1, kI 1)]) :: fI 29 (.bsl 4 [.t 27, .t 28]) :: fI 30 (.bld [.int .i64 0, .int .i64 0, .str [], .sl true 4 []] [(0, 1, kI 4), (3, 1, .t 29)]) :: fI 31 (.bsl 4 [.t 30]) :: fI 32 (.bld [.int .i64 0, .str [], .sl true 4 [], .sl true 5 [], .sl true 5 []] [(0, 1, kI 2), (1, 1, .t 26), (2, 1, .t 31)]) :: eI 8 (.alloc [.int .i64 0, .str [], .sl true 4 [], .sl true 5 [], .sl true 5 []]) :: Qqc) [0, 5, 6, 7, 8]) Qafk)
def Q86 : SC := (.seq (.reg ( mJ 21 0 :: mJ 22 1 :: cJ 23 .sub 22 1 :: aJ 24 Qb7 [.t 21, .t 23] :: Qqb) [0, 5, 6, 7]) Qafl)
def Q87 : SC := (.seq (.reg ( fJ 18 1 5 :: lJ 19 18 :: fI 20 (.bld [.int .i64 0, .int .i64 0, .str [], .sl true 4 []] [(0, 1, kI 2), (2, 1, .t 19)]) :: eI 6 (.alloc [.int .i64 0, .int .i64 0, .str [], .sl true 4 []]) :: Qqa) [0, 1, 5, 6]) Q86)
def Q88 : SC := (.seq (.reg ( mJ 9 0 :: mJ 10 0 :: kJ 11 10 :: fJ 12 0 11 :: lJ 13 12 :: fI 14 (.bsl 1 [kI 2, kI 3, kI 1, kI 0, kI 5]) :: aJ 15 Q8 [.t 13, .t 14] :: Qp9) [0, 1, 5]) Q87)
def Qao5 : SC := (.seq (.reg ( fI 4 (.mv (.k (.c (.sl true 5 [])))) :: []) [0, 1]) Q88)
def Q0q : List RS := [.tmp 4]
theorem Qam5 : mFn prog Qkk 2 50 Qao5 Q0q = true := by kernel_rfl
def Qvi : List Item := gF 11 8 (.bin 0 .eql (.t 10) (kI 0)) :: fI 12 (.pick (.t 8) (.k (.c (.bool true))) (.t 11)) :: []
def Q8k : List Item := fI 16 (.bld [.int .i64 0, .int .i64 0, .str [], .sl true 4 []] [(0, 1, kI 1), (1, 1, .t 15)]) :: .e none none (.sto 4 (.t 4) (.t 16)) :: []
def s_l2Leaf_2 : SC := (.cond (.t 12) (.seq (.reg ( mJ 13 0 :: fI 14 (.bsl 1 [kI 0, kI 1, kI 2, kI 3, kI 5, kI 7, kI 15, kI 16, kI 100, kI 255]) :: aJ 15 Q8 [.t 13, .t 14] :: Q8k) [4]) .ret) .skip)
def Q8l : List Item := fI 20 (.bld [.int .i64 0, .int .i64 0, .str [], .sl true 4 []] [(0, 1, kI 2), (2, 1, .t 19)]) :: .e none none (.sto 4 (.t 4) (.t 20)) :: []
def Qaia : SC := (.seq (.reg ( mJ 17 0 :: mJ 18 1 :: aJ 19 Qf7 [.t 17, .t 18] :: Q8l) [4]) .ret)
def Qaz7 : SC := (.seq (.seq (.reg ( mJ 5 1 :: nJ 6 5 :: cJ 7 .eql 6 0 :: mJ 8 7 :: gFm 9 8 0 :: .e (some 10) (some (8, false)) (.call Qk [.t 9, kI 3]) :: Qvi) [0, 1, 4, 12]) s_l2Leaf_2) Qaia)
def Qa71 : SC := (.seq (.reg ( eI 4 (.alloc [.int .i64 0, .int .i64 0, .str [], .sl true 4 []]) :: []) [0, 1, 4]) Qaz7)
def Q44 : List RS := [.cell 4 4 true]
theorem Qa7a : mFn prog Q5l 2 21 Qa71 Q44 = true := by kernel_rfl
def Qah6 : List Item := mJ 16 1 :: bJ 17 .neq 15 16 :: []
def Qa4f : SC := (.cond (.t 17) (.seq (.reg ( fI 4 (.mv (.k (.c (.bool false)))) :: []) [4]) .ret) .skip)
def Qa4g : SC := (.reg ( mJ 10 5 :: cJ 11 .add 10 1 :: mJ 5 11 :: []) [0, 1, 5])
def Qa4h : SC := (.seq (.block 1 (.seq (.reg ( mJ 12 0 :: mJ 13 5 :: fI 14 (.idx (.t 12) (.t 13)) :: aJ 15 Qyh [.t 14] :: Qah6) [0, 1, 5, 17]) Qa4f)) Qa4g)
def Qazx : SC := (.seq (.seq (.reg ( mJ 6 5 :: mJ 7 0 :: fI 8 (.lens (.t 7)) :: bJ 9 .lss 6 8 :: []) [0, 1, 5, 9]) (.cond (.t 9) .skip (.exit 0))) Qa4h)
def Qa4i : SC := (.seq (.reg ( mJ 18 0 :: fI 19 (.lens (.t 18)) :: cJ 20 .gtr 19 0 :: mJ 4 20 :: []) [4]) .ret)
def Qa4j : SC := (.seq (.seq (.reg ( fI 5 (.mv (kI 0)) :: []) [0, 1, 5]) (.block 0 (.loop Qazx))) Qa4i)
def Qba4 : SC := (.seq (.reg ( fI 4 (.mv (.k (.c (.bool false)))) :: []) [0, 1]) Qa4j)
def Qasc : List RS := [.tmp 4]
theorem Qbar : mFn prog Qaix 2 21 Qba4 Qasc = true := by kernel_rfl
def Qah7 : List Item := mJ 3 5 :: []
def Qa4l : SC := (.cond (.t 17) (.seq (.reg ( fI 2 (.mv (.k (.c (.bool true)))) :: []) [2]) .ret) .skip)
def Qa4m : SC := (.reg ( mJ 10 4 :: cJ 11 .add 10 1 :: mJ 4 11 :: []) [0, 3, 4])
def Qa4n : SC := (.seq (.block 1 (.seq (.reg ( mJ 12 3 :: mJ 13 4 :: iJ 14 1 12 13 :: lJ 15 14 :: mJ 16 0 :: bJ 17 .eql 15 16 :: []) [0, 3, 4, 17]) Qa4l)) Qa4m)
def Qazy : SC := (.seq (.seq (.reg ( mJ 6 4 :: mJ 7 3 :: nJ 8 7 :: bJ 9 .lss 6 8 :: []) [0, 3, 4, 9]) (.cond (.t 9) .skip (.exit 0))) Qa4n)
def Qa4o : SC := (.seq (.reg ( fI 2 (.mv (.k (.c (.bool false)))) :: []) [2]) .ret)
def Qa4p : SC := (.seq (.seq (.reg ( fI 4 (.mv (kI 0)) :: []) [0, 3, 4]) (.block 0 (.loop Qazy))) Qa4o)
def Qa4q : SC := (.seq (.reg ( aJ 5 Qh8 [] :: Qah7) [0, 3]) Qa4p)
def Qba5 : SC := (.seq (.reg ( fI 2 (.mv (.k (.c (.bool false)))) :: []) [0]) Qa4q)
def Qasd : List RS := [.tmp 2]
theorem Qbas : mFn prog Qaiy 1 18 Qba5 Qasd = true := by kernel_rfl
def Qlc : List Item := .chk 17 (some (15, false)) (.ld 1 false (.t 16)) :: .chk 18 (some (15, false)) (.len (.t 17)) :: gF 22 15 (.bin 0 .neq (.t 18) (.t 21)) :: fI 23 (.pick (.t 15) (.k (.c (.bool true))) (.t 22)) :: []
def Qvj : List Item := gF 13 9 (.not (.t 12)) :: fI 14 (.pick (.t 9) (.k (.c (.bool true))) (.t 13)) :: mJ 15 14 :: gFf 16 15 2 2 :: gFl 17 15 16 :: gF 18 15 (.len (.t 17)) :: gFf 19 15 0 2 :: gFl 20 15 19 :: .e (some 21) (some (15, false)) (.call Q5m [.t 20]) :: Qlc
def s_l3Stmt_2 : SC := (.cond (.t 23) (.seq (.reg ( fI 4 (.mv (.k (.c (.bool false)))) :: []) [4]) .ret) .skip)
def Q9s : List Item := fI 36 (.bin 1 .neq (.t 32) (.t 35)) :: mJ 37 36 :: gFm 38 37 5 :: gF 39 37 (.not (.t 38)) :: gFm 40 37 39 :: gTf 41 40 1 2 :: gTl 42 40 41 :: gT 43 40 (.bin 0 .neq (.t 42) (.k (.c (.str [])))) :: gF 44 37 (.pick (.t 40) (.t 43) (.k (.c (.bool false)))) :: fI 45 (.pick (.t 37) (.k (.c (.bool true))) (.t 44)) :: []
def Qa0h : SC := (.cond (.t 45) (.seq (.reg ( fI 4 (.mv (.k (.c (.bool false)))) :: []) [4]) .ret) .skip)
def Q9t : List Item := oJ 59 58 :: []
def Qa0i : SC := (.cond (.t 59) (.seq (.reg ( fI 4 (.mv (.k (.c (.bool false)))) :: []) [4]) .ret) .skip)
def Qa0j : SC := (.reg ( mJ 51 6 :: cJ 52 .add 51 1 :: mJ 6 52 :: []) [1, 2, 6])
def Qa0k : SC := (.seq (.block 1 (.seq (.reg ( fJ 53 2 2 :: lJ 54 53 :: mJ 55 6 :: iJ 56 4 54 55 :: tJ 57 4 56 :: aJ 58 Qga [.t 57] :: Q9t) [1, 2, 6, 59]) Qa0i)) Qa0j)
def Qauo : SC := (.seq (.seq (.reg ( mJ 46 6 :: fJ 47 2 2 :: lJ 48 47 :: nJ 49 48 :: bJ 50 .lss 46 49 :: []) [1, 2, 6, 50]) (.cond (.t 50) .skip (.exit 0))) Qa0k)
def Qaug : SC := (.cond (.t 70) (.seq (.reg ( fI 4 (.mv (.k (.c (.bool false)))) :: []) [4]) .ret) .skip)
def Qauh : SC := (.cond (.t 95) (.seq (.reg ( fI 4 (.mv (.k (.c (.bool false)))) :: []) [4]) .ret) .skip)
def Qqq : List Item := fI 107 (.pick (.t 101) (.t 106) (.k (.c (.bool false)))) :: mJ 4 107 :: []
def Q1s : List Item := mJ 101 100 :: gTf 102 101 4 2 :: gTl 103 101 102 :: gTm 104 101 1 :: gT 105 101 (.bin 0 .sub (.t 104) (kI 1)) :: .e (some 106) (some (101, true)) (.call Qiw [.t 103, .t 105]) :: Qqq
def Qaui : SC := (.seq (.reg ( fJ 96 3 2 :: lJ 97 96 :: mJ 98 1 :: cJ 99 .sub 98 1 :: aJ 100 Qiw [.t 97, .t 99] :: Q1s) [4]) .ret)
def Qauj : SC := (.seq (.seq (.reg ( fJ 71 4 2 :: lJ 72 71 :: nJ 73 72 :: cJ 74 .gtr 73 0 :: mJ 75 74 :: gTf 76 75 0 2 :: gTl 77 75 76 :: gT 78 75 (.bin 0 .neq (.t 77) (kI 5)) :: fI 79 (.pick (.t 75) (.t 78) (.k (.c (.bool false)))) :: mJ 80 79 :: gFf 81 80 3 2 :: gFl 82 80 81 :: gF 83 80 (.len (.t 82)) :: gF 84 80 (.bin 0 .gtr (.t 83) (kI 0)) :: gFm 85 80 84 :: gTf 86 85 0 2 :: gTl 87 85 86 :: gT 88 85 (.bin 0 .neq (.t 87) (kI 5)) :: gF 89 80 (.pick (.t 85) (.t 88) (.k (.c (.bool false)))) :: gFm 90 80 89 :: gTf 91 90 0 2 :: gTl 92 90 91 :: gT 93 90 (.bin 0 .neq (.t 92) (kI 6)) :: gF 94 80 (.pick (.t 90) (.t 93) (.k (.c (.bool false)))) :: fI 95 (.pick (.t 80) (.k (.c (.bool true))) (.t 94)) :: []) [1, 2, 95]) Qauh) Qaui)
def Qauk : SC := (.seq (.seq (.reg ( fJ 60 0 2 :: lJ 61 60 :: cJ 62 .eql 61 8 :: mJ 63 62 :: gTf 64 63 2 2 :: gTl 65 63 64 :: gT 66 63 (.iad 4 (.t 65) (kI 0)) :: gTf 67 63 0 66 :: gTl 68 63 67 :: gT 69 63 (.bin 0 .neq (.t 68) (kI 13)) :: fI 70 (.pick (.t 63) (.t 69) (.k (.c (.bool false)))) :: []) [1, 2, 70]) Qaug) Qauj)
def Qaul : SC := (.seq (.seq (.reg ( fI 6 (.mv (kI 0)) :: []) [1, 2, 6]) (.block 0 (.loop Qauo))) Qauk)
def Qaum : SC := (.seq (.seq (.reg ( mJ 32 5 :: fJ 33 1 2 :: lJ 34 33 :: aJ 35 Qda [.t 34] :: Q9s) [1, 2, 45]) Qa0h) Qaul)
def Q9r : SC := (.seq (.reg ( fJ 24 0 2 :: lJ 25 24 :: cJ 26 .eql 25 1 :: mJ 27 26 :: gFf 28 27 0 2 :: gFl 29 27 28 :: gF 30 27 (.bin 0 .eql (.t 29) (kI 2)) :: fI 31 (.pick (.t 27) (.k (.c (.bool true))) (.t 30)) :: mJ 5 31 :: []) [1, 2, 5]) Qaum)
def Qaun : SC := (.seq (.seq (.dreg 17 [0, 1, 2, 3, 4, 5, 6, 7, 8, 9, 10, 11, 12, 13, 14, 10, 11, 15, 16] ( mJ 7 1 :: cJ 8 .lss 7 1 :: mJ 9 8 :: gFf 10 9 0 2 :: gFl 11 9 10 :: .e (some 12) (some (9, false)) (.call Qbk [.t 11, kI 1, kI 8]) :: Qvj) [1, 2, 23]) s_l3Stmt_2) Q9r)
def Qa79 : SC := (.seq (.reg ( fI 2 (.box (.t 0)) :: fI 4 (.mv (.k (.c (.bool false)))) :: []) [1, 2]) Qaun)
def Q45 : List RS := [.tmp 4]
theorem Qa7d : mFn prog Q5o 2 108 Qa79 Q45 = true := by kernel_rfl
def Qt0 : List Item := mJ 5 16 :: []
def Qt1 : List Item := mJ 6 21 :: []
def Qt2 : List Item := fI 20 (.bsl 1 []) :: aJ 21 Qar [.t 17, kI 1, .t 19, kI 0, .t 20] :: Qt1
def Qt3 : List Item := mJ 7 23 :: []
def Qt4 : List Item := mJ 8 25 :: []
def Qt5 : List Item := mJ 9 38 :: []
def Qt6 : List Item := mJ 10 44 :: []
def Qt7 : List Item := mJ 42 9 :: fI 43 (.bsl 1 [.t 42]) :: aJ 44 Qar [.t 39, kI 10, .t 41, kI 0, .t 43] :: Qt6
def Qalf : SC := (.seq (.reg ( mJ 55 6 :: mJ 4 55 :: []) [4]) .ret)
def Qalg : SC := (.seq (.reg ( mJ 50 0 :: mJ 51 8 :: fI 52 (.bsl 1 [.t 51]) :: mJ 53 8 :: aJ 54 Qax [.t 50, kI 1, kI 0, .t 52, .t 53] :: []) [6]) Qalf)
def Qafr : SC := (.seq (.reg ( mJ 45 0 :: mJ 46 6 :: mJ 47 10 :: fI 48 (.bsl 1 [.t 47]) :: aJ 49 Qar [.t 45, kI 10, .t 46, kI 0, .t 48] :: []) [0, 6, 8]) Qalg)
def Qafs : SC := (.seq (.reg ( mJ 39 0 :: mJ 40 0 :: aJ 41 Qa0 [.t 40] :: Qt7) [0, 6, 8, 10]) Qafr)
def Qaft : SC := (.seq (.reg ( mJ 33 0 :: fJ 34 3 3 :: lJ 35 34 :: fI 36 (.iad 4 (.t 35) (kI 1)) :: tJ 37 4 36 :: aJ 38 Qb0 [.t 33, .t 37] :: Qt5) [0, 6, 8, 9]) Qafs)
def Qafu : SC := (.seq (.reg ( mJ 26 0 :: mJ 27 5 :: mJ 28 7 :: mJ 29 8 :: fI 30 (.bsl 1 [.t 28, .t 29]) :: mJ 31 7 :: aJ 32 Qax [.t 26, kI 2, .t 27, .t 30, .t 31] :: []) [0, 3, 6, 8]) Qaft)
def Qafv : SC := (.seq (.reg ( mJ 24 0 :: aJ 25 Qak [.t 24] :: Qt4) [0, 3, 5, 6, 7, 8]) Qafu)
def Qafw : SC := (.seq (.reg ( mJ 22 0 :: aJ 23 Qak [.t 22] :: Qt3) [0, 3, 5, 6, 7]) Qafv)
def Qafx : SC := (.seq (.reg ( mJ 17 0 :: mJ 18 0 :: aJ 19 Qa0 [.t 18] :: Qt2) [0, 3, 5, 6]) Qafw)
def Qafy : SC := (.seq (.reg ( mJ 11 0 :: fJ 12 3 3 :: lJ 13 12 :: fI 14 (.iad 4 (.t 13) (kI 0)) :: tJ 15 4 14 :: aJ 16 Qb0 [.t 11, .t 15] :: Qt0) [0, 3, 5]) Qafx)
def Qaww : SC := (.seq (.reg ( fI 3 (.box (.t 1)) :: fI 4 (.mv (kI 0)) :: []) [0, 3]) Qafy)
def Q6w : List RS := [.tmp 4]
theorem Qarx : mFn prog Qod 2 56 Qaww Q6w = true := by kernel_rfl
def Qaw3 : SC := (.cond (.t 20) (.seq (.reg ( mJ 21 5 :: mJ 4 21 :: []) [4]) .ret) .skip)
def Qaw4 : SC := (.reg ( mJ 11 5 :: cJ 12 .add 11 1 :: mJ 5 12 :: []) [1, 2, 5])
def Qaw5 : SC := (.seq (.block 1 (.seq (.reg ( fJ 13 0 2 :: lJ 14 13 :: mJ 15 5 :: iJ 16 3 14 15 :: fJ 17 0 16 :: lJ 18 17 :: mJ 19 1 :: bJ 20 .eql 18 19 :: []) [1, 2, 5, 20]) Qaw3)) Qaw4)
def Qaqp : SC := (.seq (.seq (.reg ( mJ 6 5 :: fJ 7 0 2 :: lJ 8 7 :: nJ 9 8 :: bJ 10 .lss 6 9 :: []) [1, 2, 5, 10]) (.cond (.t 10) .skip (.exit 0))) Qaw5)
def Qaw6 : SC := (.seq (.reg ( fI 4 (.mv (kI (-1))) :: []) [4]) .ret)
def Qaw7 : SC := (.seq (.seq (.reg ( fI 5 (.mv (kI 0)) :: []) [1, 2, 5]) (.block 0 (.loop Qaqp))) Qaw6)
def Qa5i : SC := (.seq (.reg ( fI 2 (.box (.t 0)) :: fI 4 (.mv (kI 0)) :: []) [1, 2]) Qaw7)
def Q6y : List RS := [.tmp 4]
theorem Qa3o : mFn prog Qym 2 22 Qa5i Q6y = true := by kernel_rfl
def Ql7 : List Item := cJ 16 .eql 15 0 :: mJ 17 16 :: gTm 18 17 0 :: gT 19 17 (.nck (.t 18)) :: gTf 20 17 2 19 :: gTl 21 17 20 :: gT 22 17 (.len (.t 21)) :: gT 23 17 (.bin 0 .gtr (.t 22) (kI 0)) :: fI 24 (.pick (.t 17) (.t 23) (.k (.c (.bool false)))) :: []
def Ql8 : List Item := mJ 2 33 :: []
def Q82 : SC := (.cond (.t 24) (.seq (.dreg 10 [0, 1, 2, 3, 4, 5, 6, 7, 8, 9] ( mJ 25 0 :: kJ 26 25 :: fJ 27 0 26 :: lJ 28 27 :: mJ 29 0 :: kJ 30 29 :: fJ 31 2 30 :: lJ 32 31 :: aJ 33 Qf7 [.t 28, .t 32] :: Ql8) [2]) .ret) .skip)
def Q83 : SC := (.seq (.dreg 13 [0, 1, 2, 3, 4, 5, 6, 7, 8, 9, 10, 11, 12] ( mJ 34 0 :: kJ 35 34 :: fJ 36 3 35 :: lJ 37 36 :: cJ 38 .rem 37 24 :: mJ 39 0 :: kJ 40 39 :: fJ 41 3 40 :: lJ 42 41 :: cJ 43 .rem 42 24 :: cJ 44 .add 43 1 :: fI 45 (.slis (.k (.c (.str [97, 98, 99, 100, 101, 103, 104, 105, 106, 107, 108, 109, 110, 112, 113, 114, 115, 116, 117, 118, 119, 120, 121, 122]))) (some (.t 38)) (some (.t 44))) :: mJ 2 45 :: []) [2]) .ret)
def Q84 : SC := (.seq (.seq (.reg ( mJ 11 0 :: kJ 12 11 :: fJ 13 0 12 :: lJ 14 13 :: aJ 15 Qk [.t 14, kI 9] :: Ql7) [0, 24]) Q82) Q83)
def Q85 : SC := (.seq (.reg ( mJ 3 0 :: mJ 4 0 :: kJ 5 4 :: fJ 6 3 5 :: lJ 7 6 :: cJ 8 .add 7 1 :: kJ 9 3 :: fJ 10 3 9 :: .e none none (.sto 1 (.t 10) (.t 8)) :: []) [0]) Q84)
def Qak7 : SC := (.seq (.reg ( fI 2 (.mv (.k (.c (.str [])))) :: []) [0]) Q85)
def Qkx : List RS := [.tmp 2]
theorem Qajn : mFn prog Qh4 1 46 Qak7 Qkx = true := by kernel_rfl
def Q1g : List Item := cJ 20 .geq 19 0 :: mJ 17 20 :: []
def Qatc : SC := (.cond (.t 21) (.seq (.reg ( fI 2 (.mv (kI 4)) :: []) [2]) .ret) .skip)
def Qatd : SC := (.cond (.t 17) (.seq (.reg ( fI 2 (.mv (kI 3)) :: []) [2]) .ret) (.seq (.reg ( mJ 22 0 :: fI 23 (.bin 0 .eql (.t 22) (.k (.c (.int .u8 32)))) :: mJ 24 23 :: gFm 25 24 0 :: gF 26 24 (.bin 0 .eql (.t 25) (.k (.c (.int .u8 10)))) :: fI 27 (.pick (.t 24) (.k (.c (.bool true))) (.t 26)) :: mJ 21 27 :: []) [21]) Qatc))
def Qate : SC := (.cond (.t 10) (.seq (.reg ( fI 2 (.mv (kI 2)) :: []) [2]) .ret) (.seq (.reg ( mJ 18 0 :: eI 19 (.call Qyi [.k (.c (.str [40, 41, 123, 125, 59, 44, 43, 45, 42, 47, 37, 60, 61, 38, 33, 64])), .t 18]) :: Q1g) [0, 17]) Qatd))
def Qatf : SC := (.cond (.t 3) (.seq (.reg ( fI 2 (.mv (kI 1)) :: []) [2]) .ret) (.seq (.reg ( mJ 11 0 :: fI 12 (.bin 0 .geq (.t 11) (.k (.c (.int .u8 48)))) :: mJ 13 12 :: gTm 14 13 0 :: gT 15 13 (.bin 0 .leq (.t 14) (.k (.c (.int .u8 57)))) :: fI 16 (.pick (.t 13) (.t 15) (.k (.c (.bool false)))) :: mJ 10 16 :: []) [0, 10]) Qate))
def Qatg : SC := (.seq (.reg ( fI 2 (.mv (kI 0)) :: []) [2]) .ret)
def Qath : SC := (.seq (.block 0 (.seq (.reg ( mJ 4 0 :: fI 5 (.bin 0 .geq (.t 4) (.k (.c (.int .u8 97)))) :: mJ 6 5 :: gTm 7 6 0 :: gT 8 6 (.bin 0 .leq (.t 7) (.k (.c (.int .u8 122)))) :: fI 9 (.pick (.t 6) (.t 8) (.k (.c (.bool false)))) :: mJ 3 9 :: []) [0, 3]) Qatf)) Qatg)
def Qa4k : SC := (.seq (.reg ( fI 2 (.mv (kI 0)) :: []) [0]) Qath)
def Qi9 : List RS := [.tmp 2]
theorem Qa3d : mFn prog Qyh 1 28 Qa4k Qi9 = true := by kernel_rfl
def Qacs : SC := (.seq (.reg ( fI 1 (.bsl 1 [.k (.c (.str [102, 110])), .k (.c (.str [108, 101, 116])), .k (.c (.str [115, 97, 121])), .k (.c (.str [112, 117, 116])), .k (.c (.str [105, 102])), .k (.c (.str [101, 108, 115, 101])), .k (.c (.str [108, 111, 111, 112])), .k (.c (.str [98, 97, 99, 107])), .k (.c (.str [100, 111]))]) :: mJ 0 1 :: []) [0]) .ret)
def Qal5 : SC := (.seq (.reg ( fI 0 (.mv (.k (.c (.sl true 1 [])))) :: []) []) Qacs)
def Qwp : List RS := [.tmp 0]
theorem Qajt : mFn prog Qh8 0 2 Qal5 Qwp = true := by kernel_rfl
def Qa0a : SC := (.cond (.t 4) (.seq (.reg ( fI 2 (.mv (kI 2)) :: []) [2]) .ret) .skip)
def Qa0b : SC := (.seq (.reg ( fI 2 (.mv (kI 1)) :: []) [2]) .ret)
def Qa0c : SC := (.seq (.seq (.reg ( mJ 3 0 :: cJ 4 .eql 3 4 :: []) [4]) Qa0a) Qa0b)
def Qa72 : SC := (.seq (.reg ( fI 2 (.mv (kI 0)) :: []) [0]) Qa0c)
def Qajx : List RS := [.tmp 2]
theorem Qa7b : mFn prog Q5m 1 5 Qa72 Qajx = true := by kernel_rfl
def Qei : List Item := gT 8 5 (.bin 0 .leq (.t 7) (kI 30)) :: fI 9 (.pick (.t 5) (.t 8) (.k (.c (.bool false)))) :: mJ 2 9 :: []
def Qj2 : List Item := mJ 5 4 :: gT 6 5 (.ld 4 true (.t 1)) :: .e (some 7) (some (5, true)) (.call Qr6 [.t 6]) :: Qei
def Q4n : SC := (.seq (.reg ( tJ 3 4 1 :: aJ 4 Qvz [.t 3, kI 6] :: Qj2) [2]) .ret)
def Qag8 : SC := (.seq (.reg ( fI 1 (.box (.t 0)) :: fI 2 (.mv (.k (.c (.bool false)))) :: []) [1]) Q4n)
def Qie : List RS := [.tmp 2]
theorem Qadf : mFn prog Qga 1 10 Qag8 Qie = true := by kernel_rfl
def Qatv : SC := (.cond (.t 16) (.seq (.reg ( mJ 17 5 :: mJ 4 17 :: []) [4]) .ret) .skip)
def Qatw : SC := (.reg ( mJ 10 5 :: cJ 11 .add 10 1 :: mJ 5 11 :: []) [0, 1, 5])
def Qatx : SC := (.seq (.block 1 (.seq (.reg ( mJ 12 0 :: mJ 13 5 :: fI 14 (.idx (.t 12) (.t 13)) :: mJ 15 1 :: bJ 16 .eql 14 15 :: []) [0, 1, 5, 16]) Qatv)) Qatw)
def Qaov : SC := (.seq (.seq (.reg ( mJ 6 5 :: mJ 7 0 :: fI 8 (.lens (.t 7)) :: bJ 9 .lss 6 8 :: []) [0, 1, 5, 9]) (.cond (.t 9) .skip (.exit 0))) Qatx)
def Qaty : SC := (.seq (.reg ( fI 4 (.mv (kI (-1))) :: []) [4]) .ret)
def Qatz : SC := (.seq (.seq (.reg ( fI 5 (.mv (kI 0)) :: []) [0, 1, 5]) (.block 0 (.loop Qaov))) Qaty)
def Qa4s : SC := (.seq (.reg ( fI 4 (.mv (kI 0)) :: []) [0, 1]) Qatz)
def Q6o : List RS := [.tmp 4]
theorem Qa3f : mFn prog Qyi 2 18 Qa4s Q6o = true := by kernel_rfl
def Q8h : List Item := mJ 9 12 :: fI 13 (.ext (.t 9) 0) :: fI 14 (.ext (.t 9) 1) :: mJ 5 13 :: mJ 6 14 :: []
def Qla : List Item := gF 30 23 (.not (.t 29)) :: fI 31 (.pick (.t 23) (.k (.c (.bool true))) (.t 30)) :: []
def Qvg : List Item := gF 21 17 (.not (.t 20)) :: fI 22 (.pick (.t 17) (.k (.c (.bool true))) (.t 21)) :: mJ 23 22 :: gFf 24 23 3 2 :: gFl 25 23 24 :: gF 26 23 (.len (.t 25)) :: gFm 27 23 5 :: gFm 28 23 6 :: .e (some 29) (some (23, false)) (.call Qbk [.t 26, .t 27, .t 28]) :: Qla
def s_l2Form_3 : SC := (.cond (.t 31) (.seq (.reg ( fI 4 (.mv (.k (.c (.bool false)))) :: []) [4]) .ret) .skip)
def Qvh : List Item := gF 58 54 (.not (.t 57)) :: fI 59 (.pick (.t 54) (.k (.c (.bool true))) (.t 58)) :: mJ 60 59 :: gFf 61 60 0 2 :: gFl 62 60 61 :: gF 63 60 (.bin 0 .neq (.t 62) (kI 1)) :: gFm 64 60 63 :: gTf 65 64 1 2 :: gTl 66 64 65 :: gT 67 64 (.bin 0 .neq (.t 66) (kI 0)) :: gF 68 60 (.pick (.t 64) (.t 67) (.k (.c (.bool false)))) :: fI 69 (.pick (.t 60) (.k (.c (.bool true))) (.t 68)) :: []
def Q8i : List Item := fI 44 (.bin 1 .neq (.t 40) (.t 43)) :: mJ 45 44 :: gFm 46 45 7 :: gF 47 45 (.not (.t 46)) :: gFm 48 45 47 :: gTf 49 48 2 2 :: gTl 50 48 49 :: gT 51 48 (.bin 0 .neq (.t 50) (.k (.c (.str [])))) :: gF 52 45 (.pick (.t 48) (.t 51) (.k (.c (.bool false)))) :: fI 53 (.pick (.t 45) (.k (.c (.bool true))) (.t 52)) :: mJ 54 53 :: gFf 55 54 1 2 :: gFl 56 54 55 :: .e (some 57) (some (54, false)) (.call Qbk [.t 56, kI 0, kI 255]) :: Qvh
def s_l2Form_6 : SC := (.cond (.t 69) (.seq (.reg ( fI 4 (.mv (.k (.c (.bool false)))) :: []) [4]) .ret) .skip)
def Q8j : List Item := oJ 85 84 :: []
def Qaz0 : SC := (.cond (.t 85) (.seq (.reg ( fI 4 (.mv (.k (.c (.bool false)))) :: []) [4]) .ret) .skip)
def Qaz1 : SC := (.reg ( mJ 75 8 :: cJ 76 .add 75 1 :: mJ 8 76 :: []) [1, 2, 8])
def Qatl : SC := (.seq (.block 1 (.seq (.reg ( fJ 77 3 2 :: lJ 78 77 :: mJ 79 8 :: iJ 80 4 78 79 :: tJ 81 4 80 :: mJ 82 1 :: cJ 83 .sub 82 1 :: aJ 84 Qvz [.t 81, .t 83] :: Q8j) [1, 2, 8, 85]) Qaz0)) Qaz1)
def Qaot : SC := (.seq (.seq (.reg ( mJ 70 8 :: fJ 71 3 2 :: lJ 72 71 :: nJ 73 72 :: bJ 74 .lss 70 73 :: []) [1, 2, 8, 74]) (.cond (.t 74) .skip (.exit 0))) Qatl)
def Qatm : SC := (.seq (.reg ( fI 4 (.mv (.k (.c (.bool true)))) :: []) [4]) .ret)
def Q8f : SC := (.seq (.seq (.reg ( fI 8 (.mv (kI 0)) :: []) [1, 2, 8]) (.block 0 (.loop Qaot))) Qatm)
def Qatn : SC := (.seq (.seq (.reg ( mJ 40 7 :: fJ 41 2 2 :: lJ 42 41 :: aJ 43 Qda [.t 42] :: Q8i) [1, 2, 69]) s_l2Form_6) Q8f)
def Q8g : SC := (.seq (.reg ( fJ 32 0 2 :: lJ 33 32 :: cJ 34 .eql 33 2 :: mJ 35 34 :: gFf 36 35 0 2 :: gFl 37 35 36 :: gF 38 35 (.bin 0 .eql (.t 37) (kI 13)) :: fI 39 (.pick (.t 35) (.k (.c (.bool true))) (.t 38)) :: mJ 7 39 :: []) [1, 2, 7]) Qatn)
def Qato : SC := (.seq (.seq (.reg ( mJ 15 1 :: cJ 16 .lss 15 1 :: mJ 17 16 :: gFf 18 17 0 2 :: gFl 19 17 18 :: .e (some 20) (some (17, false)) (.call Qbk [.t 19, kI 1, kI 13]) :: Qvg) [1, 2, 31]) s_l2Form_3) Q8g)
def Qatp : SC := (.seq (.reg ( fJ 10 0 2 :: lJ 11 10 :: aJ 12 Q5k [.t 11] :: Q8h) [1, 2, 5, 6]) Qato)
def Qa7z : SC := (.seq (.reg ( fI 2 (.box (.t 0)) :: fI 4 (.mv (.k (.c (.bool false)))) :: []) [1, 2]) Qatp)
def Qwh : List RS := [.tmp 4]
theorem Qa68 : mFn prog Qvz 2 86 Qa7z Qwh = true := by kernel_rfl
def Q1h : List Item := bJ 19 .add 12 18 :: mJ 3 19 :: []
def Qatq : SC := (.reg ( mJ 10 4 :: cJ 11 .add 10 1 :: mJ 4 11 :: []) [1, 3, 4])
def Qatr : SC := (.seq (.block 1 (.reg ( mJ 12 3 :: fJ 13 3 1 :: lJ 14 13 :: mJ 15 4 :: iJ 16 4 14 15 :: tJ 17 4 16 :: aJ 18 Qr6 [.t 17] :: Q1h) [1, 3, 4])) Qatq)
def Qaou : SC := (.seq (.seq (.reg ( mJ 5 4 :: fJ 6 3 1 :: lJ 7 6 :: nJ 8 7 :: bJ 9 .lss 5 8 :: []) [1, 3, 4, 9]) (.cond (.t 9) .skip (.exit 0))) Qatr)
def Qats : SC := (.seq (.reg ( mJ 20 3 :: mJ 2 20 :: []) [2]) .ret)
def Qatt : SC := (.seq (.seq (.reg ( fI 4 (.mv (kI 0)) :: []) [1, 3, 4]) (.block 0 (.loop Qaou))) Qats)
def Qatu : SC := (.seq (.reg ( fI 3 (.mv (kI 1)) :: []) [1, 3]) Qatt)
def Qa4r : SC := (.seq (.reg ( fI 1 (.box (.t 0)) :: fI 2 (.mv (kI 0)) :: []) [1]) Qatu)
def Qanm : List RS := [.tmp 2]
theorem Qa3e : mFn prog Qr6 1 21 Qa4r Qanm = true := by kernel_rfl
def Qaz2 : SC := (.cond (.t 5) .skip (.reg ( cJ 7 .eql 4 2 :: mJ 5 7 :: []) [4, 5]))
def Qaz3 : SC := (.cond (.t 8) .skip (.reg ( cJ 10 .eql 4 12 :: mJ 8 10 :: []) [4, 8]))
def Qaz4 : SC := (.cond (.t 11) (.seq (.reg ( fI 2 (.mv (kI 0)) :: fI 3 (.mv (kI 3)) :: []) [2, 3]) .ret) .skip)
def Qah8 : SC := (.cond (.t 8) (.seq (.reg ( fI 2 (.mv (kI 1)) :: fI 3 (.mv (kI 1)) :: []) [2, 3]) .ret) (.seq (.reg ( cJ 12 .eql 4 13 :: mJ 11 12 :: []) [11]) Qaz4))
def Qah9 : SC := (.cond (.t 5) (.seq (.reg ( fI 2 (.mv (kI 0)) :: fI 3 (.mv (kI 0)) :: []) [2, 3]) .ret) (.seq (.seq (.reg ( cJ 9 .eql 4 11 :: mJ 8 9 :: []) [4, 8]) Qaz3) Qah8))
def Qaz5 : SC := (.block 0 (.seq (.seq (.reg ( cJ 6 .eql 4 1 :: mJ 5 6 :: []) [4, 5]) Qaz2) Qah9))
def Qzy : SC := (.seq (.reg ( fI 2 (.mv (kI 2)) :: fI 3 (.mv (kI 2)) :: []) [2, 3]) .ret)
def Qaz6 : SC := (.seq (.seq (.reg ( mJ 4 0 :: []) [4]) Qaz5) Qzy)
def Qa70 : SC := (.seq (.reg ( fI 2 (.mv (kI 0)) :: fI 3 (.mv (kI 0)) :: []) [0]) Qaz6)
def Qwi : List RS := [.tmp 2, .tmp 3]
theorem Qa69 : mFn prog Q5k 1 13 Qa70 Qwi = true := by kernel_rfl
end Go.AE.Y

namespace Go.AE.Y
open Go.Proofs.Tryz
def Qalw : SC := (.cond (.t 22) (.seq (.reg ( fI 4 (.mv (.k (.c (.bool false)))) :: []) [4]) .ret) .skip)
def Qalx : SC := (.seq (.dreg 9 [0, 1, 2, 3, 4, 5, 6, 7, 8] ( mJ 14 0 :: mJ 15 5 :: iJ 16 1 14 15 :: lJ 17 16 :: mJ 18 1 :: mJ 19 5 :: iJ 20 1 18 19 :: lJ 21 20 :: bJ 22 .neq 17 21 :: []) [0, 1, 10, 11, 22]) Qalw)
def Qaly : SC := (.reg ( cJ 23 .add 11 1 :: mJ 11 23 :: []) [0, 1, 10, 11])
def Qalz : SC := (.seq (.block 1 (.seq (.reg ( mJ 13 11 :: mJ 5 13 :: []) [0, 1, 5, 10, 11]) Qalx)) Qaly)
def Qagx : SC := (.seq (.reg ( bJ 12 .lss 11 10 :: []) [0, 1, 10, 11, 12]) (.seq (.cond (.t 12) .skip (.exit 0)) Qalz))
def Qal0 : SC := (.seq (.reg ( mJ 24 0 :: nJ 25 24 :: mJ 26 1 :: nJ 27 26 :: bJ 28 .eql 25 27 :: mJ 4 28 :: []) [4]) .ret)
def Qal1 : SC := (.seq (.seq (.reg ( mJ 6 0 :: nJ 7 6 :: mJ 8 1 :: nJ 9 8 :: fI 10 (.mn (.t 7) (.t 9)) :: fI 11 (.mv (kI 0)) :: []) [0, 1, 10, 11]) (.block 0 (.loop Qagx))) Qal0)
def Qaw1 : SC := (.seq (.reg ( fI 4 (.mv (.k (.c (.bool false)))) :: []) [0, 1]) Qal1)
def Qu2 : List RS := [.tmp 4]
theorem Qar1 : mFn prog Qoe 2 29 Qaw1 Qu2 = true := by kernel_rfl
def Qap8 : SC := (.cond (.t 15) (.seq (.reg ( fI 4 (.mv (.k (.c (.bool true)))) :: []) [4]) .ret) .skip)
def Qap9 : SC := (.seq (.reg ( mJ 13 6 :: mJ 14 1 :: bJ 15 .eql 13 14 :: []) [1, 7, 8, 9, 15]) Qap8)
def Qaqa : SC := (.reg ( cJ 16 .add 9 1 :: mJ 9 16 :: []) [1, 7, 8, 9])
def Qaqb : SC := (.seq (.block 1 (.seq (.reg ( iJ 11 1 7 9 :: lJ 12 11 :: mJ 6 12 :: []) [1, 6, 7, 8, 9]) Qap9)) Qaqa)
def Qalv : SC := (.seq (.reg ( bJ 10 .lss 9 8 :: []) [1, 7, 8, 9, 10]) (.seq (.cond (.t 10) .skip (.exit 0)) Qaqb))
def Qaqc : SC := (.seq (.reg ( fI 4 (.mv (.k (.c (.bool false)))) :: []) [4]) .ret)
def Qaqd : SC := (.seq (.seq (.reg ( mJ 7 0 :: nJ 8 7 :: fI 9 (.mv (kI 0)) :: []) [1, 7, 8, 9]) (.block 0 (.loop Qalv))) Qaqc)
def Qa1o : SC := (.seq (.reg ( fI 4 (.mv (.k (.c (.bool false)))) :: []) [0, 1]) Qaqd)
def Qyv : List RS := [.tmp 4]
theorem Qazg : mFn prog Quq 2 17 Qa1o Qyv = true := by kernel_rfl
def Qm0 : List Item := cJ 8 .geq 7 0 :: mJ 4 8 :: []
def Qack : SC := (.seq (.reg ( mJ 5 0 :: mJ 6 1 :: aJ 7 Qkq [.t 5, .t 6] :: Qm0) [4]) .ret)
def Qal2 : SC := (.seq (.reg ( fI 4 (.mv (.k (.c (.bool false)))) :: []) [0, 1]) Qack)
def Qwn : List RS := [.tmp 4]
theorem Qajs : mFn prog Qh6 2 9 Qal2 Qwn = true := by kernel_rfl
def Qa35 : SC := (.cond (.t 17) (.seq (.reg ( mJ 18 5 :: mJ 4 18 :: []) [4]) .ret) .skip)
def Qa36 : SC := (.reg ( mJ 10 5 :: cJ 11 .add 10 1 :: mJ 5 11 :: []) [0, 1, 5])
def Qa37 : SC := (.seq (.block 1 (.seq (.reg ( mJ 12 0 :: mJ 13 5 :: iJ 14 1 12 13 :: lJ 15 14 :: mJ 16 1 :: bJ 17 .eql 15 16 :: []) [0, 1, 5, 17]) Qa35)) Qa36)
def Qazv : SC := (.seq (.seq (.reg ( mJ 6 5 :: mJ 7 0 :: nJ 8 7 :: bJ 9 .lss 6 8 :: []) [0, 1, 5, 9]) (.cond (.t 9) .skip (.exit 0))) Qa37)
def Qa38 : SC := (.seq (.reg ( fI 4 (.mv (kI (-1))) :: []) [4]) .ret)
def Qa39 : SC := (.seq (.seq (.reg ( fI 5 (.mv (kI 0)) :: []) [0, 1, 5]) (.block 0 (.loop Qazv))) Qa38)
def Qba3 : SC := (.seq (.reg ( fI 4 (.mv (kI 0)) :: []) [0, 1]) Qa39)
def Qasb : List RS := [.tmp 4]
theorem Qbaq : mFn prog Qaiw 2 19 Qba3 Qasb = true := by kernel_rfl
def Q0v : List Item := mJ 3 5 :: []
def Q0w : List Item := mJ 2 9 :: []
def Qasl : SC := (.seq (.reg ( mJ 8 3 :: aJ 9 Qkp [.t 8] :: Q0w) [2]) .ret)
def Qasm : SC := (.seq (.reg ( mJ 6 3 :: aJ 7 Qiy [.t 6] :: []) [3]) Qasl)
def Qasn : SC := (.seq (.reg ( mJ 4 0 :: aJ 5 Qee [.t 4] :: Q0v) [3]) Qasm)
def Qa33 : SC := (.seq (.reg ( fI 2 (.mv (.k (.c (.sl true 1 [])))) :: []) [0]) Qasn)
def Qanh : List RS := [.tmp 2]
theorem Qa26 : mFn prog Qyb 1 10 Qa33 Qanh = true := by kernel_rfl
def Qat0 : SC := (.cond (.t 5) (.reg ( mJ 6 0 :: fI 7 (.sli 1 (.t 6) none (some (kI 2000))) :: mJ 0 7 :: []) [0]) .skip)
def Q1i : List Item := mJ 2 10 :: []
def Q8m : SC := (.seq (.reg ( mJ 8 0 :: fI 9 (.bld [.sl true 1 [], .int .i64 0] [(0, 1, .t 8)]) :: eI 10 (.boxm (.t 9)) :: Q1i) [2]) .ret)
def Qat1 : SC := (.seq (.seq (.reg ( mJ 3 0 :: nJ 4 3 :: cJ 5 .gtr 4 2000 :: []) [0, 5]) Qat0) Q8m)
def Qa4t : SC := (.seq (.reg ( fI 2 (.mv (.k (.c .pnil))) :: []) [0]) Qat1)
def Q6p : List RS := [.tmp 2]
theorem Qa3g : mFn prog Qyj 1 11 Qa4t Q6p = true := by kernel_rfl
def Qaqj : SC := (.cond (.t 16) (.seq (.reg ( mJ 17 5 :: mJ 4 17 :: []) [4]) .ret) .skip)
def Qaqk : SC := (.seq (.reg ( mJ 11 1 :: mJ 12 0 :: mJ 13 5 :: iJ 14 1 12 13 :: lJ 15 14 :: bJ 16 .eql 11 15 :: []) [0, 1, 5, 7, 8, 16]) Qaqj)
def Qaql : SC := (.reg ( cJ 18 .add 8 1 :: mJ 8 18 :: []) [0, 1, 7, 8])
def Qaqm : SC := (.seq (.block 1 (.seq (.reg ( mJ 10 8 :: mJ 5 10 :: []) [0, 1, 5, 7, 8]) Qaqk)) Qaql)
def Qal3 : SC := (.seq (.reg ( bJ 9 .lss 8 7 :: []) [0, 1, 7, 8, 9]) (.seq (.cond (.t 9) .skip (.exit 0)) Qaqm))
def Qaqn : SC := (.seq (.reg ( fI 4 (.mv (kI (-1))) :: []) [4]) .ret)
def Qaqo : SC := (.seq (.seq (.reg ( mJ 6 0 :: nJ 7 6 :: fI 8 (.mv (kI 0)) :: []) [0, 1, 7, 8]) (.block 0 (.loop Qal3))) Qaqn)
def Qa1q : SC := (.seq (.reg ( fI 4 (.mv (kI 0)) :: []) [0, 1]) Qaqo)
def Qyx : List RS := [.tmp 4]
theorem Qazi : mFn prog Qkq 2 19 Qa1q Qyx = true := by kernel_rfl
def Qo3 : List Item := oJ 14 13 :: []
def Qadm : SC := (.cond (.t 14) (.seq (.reg ( fI 4 (.mv (.k (.c (.sl true 1 [])))) :: []) [4]) .ret) .skip)
def Qo4 : List Item := mJ 6 20 :: .e none none (.sto 5 (.t 7) (.t 22)) :: []
def Qo5 : List Item := mJ 5 30 :: []
def Qadn : SC := (.cond (.t 26) (.reg ( mJ 27 5 :: mJ 28 6 :: fI 29 (.bsl 1 [.t 28]) :: eI 30 (.app 1 (.t 27) (.t 29)) :: Qo5) [1, 5, 16, 17, 18]) .skip)
def Qado : SC := (.seq (.reg ( fJ 23 4 7 :: lJ 24 23 :: mJ 25 1 :: aJ 26 Qh6 [.t 24, .t 25] :: []) [1, 5, 6, 16, 17, 18, 26]) Qadn)
def Qadp : SC := (.reg ( cJ 31 .add 18 1 :: mJ 18 31 :: []) [1, 5, 16, 17, 18])
def Qadq : SC := (.seq (.block 1 (.seq (.reg ( mJ 20 18 :: iJ 21 5 16 18 :: tJ 22 5 21 :: eI 7 (.alloc [.sl true 2 [], .sl true 4 [], .int .i64 0, .int .i64 0, .sl true 1 []]) :: Qo4) [1, 5, 6, 7, 16, 17, 18]) Qado)) Qadp)
def Q7m : SC := (.seq (.reg ( bJ 19 .lss 18 17 :: []) [1, 5, 16, 17, 18, 19]) (.seq (.cond (.t 19) .skip (.exit 0)) Qadq))
def Qadr : SC := (.seq (.reg ( mJ 32 5 :: mJ 4 32 :: []) [4]) .ret)
def Q7j : SC := (.seq (.seq (.reg ( fJ 15 2 2 :: lJ 16 15 :: nJ 17 16 :: fI 18 (.mv (kI 0)) :: []) [1, 5, 16, 17, 18]) (.block 0 (.loop Q7m))) Qadr)
def Q7k : SC := (.seq (.seq (.reg ( mJ 8 1 :: fJ 9 2 2 :: lJ 10 9 :: nJ 11 10 :: cJ 12 .sub 11 1 :: aJ 13 Qal [.t 8, kI 0, .t 12] :: Qo3) [1, 2, 5, 14]) Qadm) Q7j)
def Q7l : SC := (.seq (.reg ( fI 5 (.mv (.k (.c (.sl true 1 [])))) :: []) [1, 2, 5]) Q7k)
def Qanu : SC := (.seq (.reg ( fI 2 (.box (.t 0)) :: fI 4 (.mv (.k (.c (.sl true 1 [])))) :: []) [1, 2]) Q7l)
def Qor : List RS := [.tmp 4]
theorem Qamz : mFn prog Qfh 2 33 Qanu Qor = true := by kernel_rfl
def Qfb : List Item := cJ 8 .geq 7 0 :: mJ 4 8 :: []
def Qvm : SC := (.seq (.reg ( mJ 5 0 :: mJ 6 1 :: aJ 7 Qf8 [.t 5, .t 6] :: Qfb) [4]) .ret)
def Qz2 : SC := (.seq (.reg ( fI 4 (.mv (.k (.c (.bool false)))) :: []) [0, 1]) Qvm)
def Qjb : List RS := [.tmp 4]
theorem Qyq : mFn prog Qbm 2 9 Qz2 Qjb = true := by kernel_rfl
def Qb3 : List Item := fI 8 (.ext (.t 7) 0) :: []
def Qdy : List Item := fI 10 (.ext (.t 9) 0) :: mJ 4 10 :: []
def Qdz : List Item := mJ 3 14 :: []
def Qm8 : SC := (.reg ( mJ 11 3 :: mJ 12 4 :: fI 13 (.bsl 1 [.t 12]) :: eI 14 (.app 1 (.t 11) (.t 13)) :: Qdz) [3, 6])
def Qm9 : SC := (.block 1 (.seq (.reg ( eI 9 (.ent (.t 6)) :: Qdy) [3, 4, 6]) Qm8))
def Qk9 : SC := (.seq (.reg ( eI 7 (.nxt (.t 6)) :: Qb3) [3, 6, 8]) (.seq (.cond (.t 8) .skip (.exit 0)) Qm9))
def Qna : SC := (.seq (.reg ( mJ 17 3 :: mJ 2 17 :: []) [2]) .ret)
def Qnb : SC := (.seq (.reg ( mJ 15 3 :: aJ 16 Qiy [.t 15] :: []) [3]) Qna)
def Qnc : SC := (.seq (.seq (.reg ( mJ 5 0 :: eI 6 (.rng (.t 5)) :: []) [3, 6]) (.block 0 (.loop Qk9))) Qnb)
def Qnd : SC := (.seq (.reg ( fI 3 (.mv (.k (.c (.sl true 1 [])))) :: []) [0, 3]) Qnc)
def Qsk : SC := (.seq (.reg ( fI 2 (.mv (.k (.c (.sl true 1 [])))) :: []) [0]) Qnd)
def Qfa : List RS := [.tmp 2]
theorem Qsi : mFn prog Qcd 1 18 Qsk Qfa = true := by kernel_rfl
def Qaqf : SC := (.cond (.t 4) (.seq (.reg ( fI 2 (.mv (.k (.c (.sl true 1 [])))) :: []) [2]) .ret) .skip)
def Qxv : List Item := mJ 2 7 :: []
def Qaqg : SC := (.seq (.reg ( fI 5 (.bsl 1 []) :: mJ 6 0 :: eI 7 (.app 1 (.t 5) (.t 6)) :: Qxv) [2]) .ret)
def Qaqh : SC := (.seq (.seq (.reg ( mJ 3 0 :: eI 4 (.nilq (.t 3)) :: []) [0, 4]) Qaqf) Qaqg)
def Qa1p : SC := (.seq (.reg ( fI 2 (.mv (.k (.c (.sl true 1 [])))) :: []) [0]) Qaqh)
def Qyw : List RS := [.tmp 2]
theorem Qazh : mFn prog Qee 1 8 Qa1p Qyw = true := by kernel_rfl
def Q2n : List Item := aJ 10 Qba [.t 5, kI 0, .t 6, .t 9] :: []
def Qaw2 : SC := (.reg ( mJ 5 0 :: mJ 6 2 :: mJ 7 2 :: fI 8 (.cvt .u64 (.t 7)) :: aJ 9 Q5h [.t 8] :: Q2n) [])
def Qa5h : SC := (.seq (.reg ( mJ 3 0 :: nJ 4 3 :: mJ 2 4 :: []) [0, 2]) Qaw2)
def Qanp : List RS := []
theorem Qa3n : mFn prog Qiy 1 11 Qa5h Qanp = true := by kernel_rfl
def Qagy : SC := (.cond (.t 8) (.seq (.reg ( mJ 9 0 :: mJ 2 9 :: []) [2]) .ret) .skip)
def Qagz : SC := (.reg ( mJ 52 3 :: cJ 53 .add 52 1 :: mJ 3 53 :: []) [0, 3, 4, 5])
def Qag0 : SC := (.cond (.t 44) (.seq (.reg ( mJ 45 0 :: mJ 46 3 :: mJ 47 4 :: mJ 48 5 :: iJ 49 1 47 48 :: lJ 50 49 :: iJ 51 1 45 46 :: .e none none (.sto 1 (.t 51) (.t 50)) :: []) [0, 3, 4, 5]) Qagz) .skip)
def Qag1 : SC := (.reg ( mJ 33 5 :: cJ 34 .add 33 1 :: mJ 5 34 :: []) [0, 3, 4, 5])
def Qag2 : SC := (.seq (.block 3 (.seq (.dreg 10 [0, 1, 2, 3, 4, 5, 6, 7, 8, 9] ( mJ 35 4 :: mJ 36 5 :: iJ 37 1 35 36 :: lJ 38 37 :: mJ 39 4 :: mJ 40 5 :: cJ 41 .sub 40 1 :: iJ 42 1 39 41 :: lJ 43 42 :: bJ 44 .neq 38 43 :: []) [0, 3, 4, 5, 44]) Qag0)) Qag1)
def Qacj : SC := (.seq (.seq (.reg ( mJ 29 5 :: mJ 30 4 :: nJ 31 30 :: bJ 32 .lss 29 31 :: []) [0, 3, 4, 5, 32]) (.cond (.t 32) .skip (.exit 2))) Qag2)
def Qag3 : SC := (.seq (.reg ( mJ 57 0 :: mJ 58 3 :: fI 59 (.sli 1 (.t 57) none (some (.t 58))) :: mJ 2 59 :: []) [2]) .ret)
def Qag4 : SC := (.seq (.reg ( mJ 54 0 :: mJ 55 3 :: fI 56 (.sli 1 (.t 54) (some (.t 55)) none) :: .e none none (.clrs 1 [.int .i64 0] (.t 56)) :: []) [0, 3]) Qag3)
def Qag5 : SC := (.seq (.seq (.reg ( fI 5 (.mv (kI 1)) :: []) [0, 3, 4, 5]) (.block 2 (.loop Qacj))) Qag4)
def Qag6 : SC := (.cond (.t 25) (.seq (.reg ( mJ 26 0 :: mJ 27 3 :: fI 28 (.sli 1 (.t 26) (some (.t 27)) none) :: mJ 4 28 :: []) [0, 3, 4]) Qag5) .skip)
def Qace : SC := (.reg ( mJ 14 3 :: cJ 15 .add 14 1 :: mJ 3 15 :: []) [0, 3])
def Qacf : SC := (.seq (.block 1 (.seq (.dreg 10 [0, 1, 2, 3, 4, 5, 6, 7, 8, 9] ( mJ 16 0 :: mJ 17 3 :: iJ 18 1 16 17 :: lJ 19 18 :: mJ 20 0 :: mJ 21 3 :: cJ 22 .sub 21 1 :: iJ 23 1 20 22 :: lJ 24 23 :: bJ 25 .eql 19 24 :: []) [0, 3, 25]) Qag6)) Qace)
def Q4f : SC := (.seq (.seq (.reg ( mJ 10 3 :: mJ 11 0 :: nJ 12 11 :: bJ 13 .lss 10 12 :: []) [0, 3, 13]) (.cond (.t 13) .skip (.exit 0))) Qacf)
def Qacg : SC := (.seq (.reg ( mJ 60 0 :: mJ 2 60 :: []) [2]) .ret)
def Qach : SC := (.seq (.seq (.reg ( fI 3 (.mv (kI 1)) :: []) [0, 3]) (.block 0 (.loop Q4f))) Qacg)
def Qaci : SC := (.seq (.seq (.reg ( mJ 6 0 :: nJ 7 6 :: cJ 8 .lss 7 2 :: []) [0, 8]) Qagy) Qach)
def Qaqi : SC := (.seq (.reg ( fI 2 (.mv (.k (.c (.sl true 1 [])))) :: []) [0]) Qaci)
def Qhn : List RS := [.tmp 2]
theorem Qanc : mFn prog Qkp 1 61 Qaqi Qhn = true := by kernel_rfl
def Qako : SC := (.seq (.reg ( mJ 7 1 :: mJ 8 0 :: bJ 9 .leq 7 8 :: mJ 10 9 :: gTm 11 10 0 :: gTm 12 10 2 :: gT 13 10 (.bin 0 .leq (.t 11) (.t 12)) :: fI 14 (.pick (.t 10) (.t 13) (.k (.c (.bool false)))) :: mJ 6 14 :: []) [6]) .ret)
def Qasq : SC := (.seq (.reg ( fI 6 (.mv (.k (.c (.bool false)))) :: []) [0, 1, 2]) Qako)
def Q6l : List RS := [.tmp 6]
theorem Qart : mFn prog Qal 3 15 Qasq Q6l = true := by kernel_rfl
def Q4g : SC := (.cond (.t 16) (.seq (.reg ( mJ 17 5 :: mJ 4 17 :: []) [4]) .ret) .skip)
def Q4h : SC := (.seq (.reg ( mJ 11 1 :: mJ 12 0 :: mJ 13 5 :: iJ 14 1 12 13 :: lJ 15 14 :: eI 16 (.callv (.t 11) [.t 15]) :: []) [0, 1, 5, 7, 8, 16]) Q4g)
def Q4i : SC := (.reg ( cJ 18 .add 8 1 :: mJ 8 18 :: []) [0, 1, 7, 8])
def Q4j : SC := (.seq (.block 1 (.seq (.reg ( mJ 10 8 :: mJ 5 10 :: []) [0, 1, 5, 7, 8]) Q4h)) Q4i)
def Qz3 : SC := (.seq (.reg ( bJ 9 .lss 8 7 :: []) [0, 1, 7, 8, 9]) (.seq (.cond (.t 9) .skip (.exit 0)) Q4j))
def Q4k : SC := (.seq (.reg ( fI 4 (.mv (kI (-1))) :: []) [4]) .ret)
def Q4l : SC := (.seq (.seq (.reg ( mJ 6 0 :: nJ 7 6 :: fI 8 (.mv (kI 0)) :: []) [0, 1, 7, 8]) (.block 0 (.loop Qz3))) Q4k)
def Qag7 : SC := (.seq (.reg ( fI 4 (.mv (kI 0)) :: []) [0, 1]) Q4l)
def Qid : List RS := [.tmp 4]
theorem Qade : mFn prog Qf8 2 19 Qag7 Qid = true := by kernel_rfl
def Qrm : SC := (.cond (.t 23) (.seq (.reg ( mJ 24 0 :: mJ 25 1 :: mJ 26 2 :: aJ 27 Qbl [.t 24, .t 25, .t 26] :: []) []) .ret) .skip)
def Qrn : SC := (.cond (.t 29) (.seq (.reg ( mJ 30 0 :: mJ 31 1 :: mJ 32 2 :: aJ 33 Qof [.t 30, .t 31, .t 32] :: []) []) .ret) .skip)
def Qro : SC := (.reg ( mJ 40 3 :: cJ 41 .sub 40 1 :: mJ 3 41 :: []) [0, 1, 2, 3, 8, 9, 10])
def Qrp : SC := (.cond (.t 35) (.seq (.reg ( mJ 36 0 :: mJ 37 1 :: mJ 38 2 :: aJ 39 Qg7 [.t 36, .t 37, .t 38] :: []) [0, 1, 2, 3, 8, 9, 10]) Qro) .skip)
def Qn4 : List Item := mJ 42 46 :: fI 47 (.ext (.t 42) 0) :: fI 48 (.ext (.t 42) 1) :: mJ 11 47 :: mJ 12 48 :: []
def Qrq : SC := (.reg ( fI 12 (.mv (kI 1)) :: []) [0, 1, 2, 3, 8, 9, 10, 11, 12])
def Qrr : SC := (.seq (.reg ( mJ 55 2 :: cJ 56 .sub 55 1 :: mJ 57 11 :: mJ 58 1 :: bJ 59 .sub 57 58 :: bJ 60 .sub 56 59 :: mJ 11 60 :: []) [0, 1, 2, 3, 8, 9, 10, 11]) Qrq)
def Qrs : SC := (.cond (.t 50) (.seq (.reg ( mJ 51 0 :: mJ 52 1 :: mJ 53 2 :: aJ 54 Qh7 [.t 51, .t 52, .t 53] :: []) [0, 1, 2, 3, 8, 9, 10, 11]) Qrr) .skip)
def Qrt : SC := (.cond (.t 68) (.seq (.reg ( mJ 69 0 :: mJ 70 1 :: mJ 71 2 :: aJ 72 Qdo [.t 69, .t 70, .t 71] :: []) [0, 1, 2, 3, 8, 9, 10, 11, 72]) (.cond (.t 72) .ret .skip)) .skip)
def Qn5 : List Item := gT 86 75 (.not (.t 85)) :: fI 87 (.pick (.t 75) (.t 86) (.k (.c (.bool false)))) :: []
def Qlf : List Item := mJ 13 92 :: []
def Qnk : SC := (.seq (.reg ( mJ 93 13 :: mJ 1 93 :: []) [0, 1, 2, 3, 8, 9]) (.exit 1))
def Qnl : SC := (.cond (.t 87) (.seq (.reg ( mJ 88 0 :: mJ 89 1 :: mJ 90 2 :: mJ 91 11 :: aJ 92 Qf9 [.t 88, .t 89, .t 90, .t 91] :: Qlf) [0, 2, 3, 8, 9, 13]) Qnk) .skip)
def Qlg : List Item := mJ 94 99 :: fI 100 (.ext (.t 94) 0) :: fI 101 (.ext (.t 94) 1) :: mJ 14 100 :: mJ 15 101 :: []
def Qnm : SC := (.reg ( mJ 122 14 :: cJ 123 .add 122 1 :: mJ 1 123 :: []) [0, 1, 2, 3, 8, 9])
def Qnn : SC := (.seq (.reg ( mJ 117 0 :: mJ 118 1 :: mJ 119 14 :: mJ 120 3 :: aJ 121 Qba [.t 117, .t 118, .t 119, .t 120] :: []) [0, 2, 3, 8, 9, 14]) Qnm)
def Qno : SC := (.reg ( mJ 133 14 :: mJ 2 133 :: []) [0, 1, 2, 3, 8, 9])
def Qnp : SC := (.seq (.reg ( mJ 127 0 :: mJ 128 14 :: cJ 129 .add 128 1 :: mJ 130 2 :: mJ 131 3 :: aJ 132 Qba [.t 127, .t 129, .t 130, .t 131] :: []) [0, 1, 3, 8, 9, 14]) Qno)
def Qnq : SC := (.cond (.t 113) (.seq (.reg ( mJ 114 16 :: mJ 115 18 :: bJ 116 .geq 114 115 :: mJ 8 116 :: []) [0, 1, 2, 3, 8, 9, 14]) Qnn) (.seq (.reg ( mJ 124 17 :: mJ 125 18 :: bJ 126 .geq 124 125 :: mJ 8 126 :: []) [0, 1, 2, 3, 8, 9, 14]) Qnp))
def Qnr : SC := (.seq (.reg ( mJ 111 16 :: mJ 112 17 :: bJ 113 .lss 111 112 :: []) [0, 1, 2, 3, 9, 14, 16, 17, 18, 113]) Qnq)
def Qns : SC := (.seq (.reg ( mJ 109 10 :: cJ 110 .quo 109 8 :: mJ 18 110 :: []) [0, 1, 2, 3, 9, 14, 16, 17, 18]) Qnr)
def Qnt : SC := (.seq (.reg ( mJ 103 14 :: mJ 104 1 :: bJ 105 .sub 103 104 :: mJ 106 2 :: mJ 107 14 :: bJ 108 .sub 106 107 :: mJ 16 105 :: mJ 17 108 :: []) [0, 1, 2, 3, 9, 10, 14, 16, 17]) Qns)
def Qnu : SC := (.seq (.reg ( mJ 102 15 :: mJ 9 102 :: []) [0, 1, 2, 3, 9, 10, 14]) Qnt)
def Qnv : SC := (.seq (.reg ( mJ 95 0 :: mJ 96 1 :: mJ 97 2 :: mJ 98 11 :: aJ 99 Qm3 [.t 95, .t 96, .t 97, .t 98] :: Qlg) [0, 1, 2, 3, 10, 14, 15]) Qnu)
def Qnw : SC := (.seq (.seq (.dreg 15 [0, 1, 2, 3, 4, 5, 6, 7, 8, 9, 10, 11, 12, 13, 14] ( mJ 73 1 :: cJ 74 .gtr 73 0 :: mJ 75 74 :: gTm 76 75 0 :: gTm 77 75 1 :: gT 78 75 (.bin 0 .sub (.t 77) (kI 1)) :: gT 79 75 (.iad 1 (.t 76) (.t 78)) :: gTl 80 75 79 :: gTm 81 75 0 :: gTm 82 75 11 :: gT 83 75 (.iad 1 (.t 81) (.t 82)) :: gTl 84 75 83 :: .e (some 85) (some (75, true)) (.call Q5i [.t 80, .t 84]) :: Qn5) [0, 1, 2, 3, 8, 9, 10, 11, 87]) Qnl) Qnv)
def Qnx : SC := (.seq (.seq (.reg ( mJ 61 8 :: mJ 62 61 :: gTm 63 62 9 :: fI 64 (.pick (.t 62) (.t 63) (.k (.c (.bool false)))) :: mJ 65 64 :: gTm 66 65 12 :: gT 67 65 (.bin 0 .eql (.t 66) (kI 1)) :: fI 68 (.pick (.t 65) (.t 67) (.k (.c (.bool false)))) :: []) [0, 1, 2, 3, 8, 9, 10, 11, 68]) Qrt) Qnw)
def Qny : SC := (.seq (.seq (.reg ( mJ 49 12 :: cJ 50 .eql 49 2 :: []) [0, 1, 2, 3, 8, 9, 10, 11, 12, 50]) Qrs) Qnx)
def Qnz : SC := (.seq (.reg ( mJ 43 0 :: mJ 44 1 :: mJ 45 2 :: aJ 46 Qiz [.t 43, .t 44, .t 45] :: Qn4) [0, 1, 2, 3, 8, 9, 10, 11, 12]) Qny)
def Qn0 : SC := (.seq (.seq (.reg ( mJ 34 8 :: oJ 35 34 :: []) [0, 1, 2, 3, 8, 9, 10, 35]) Qrp) Qnz)
def Qn1 : SC := (.seq (.seq (.reg ( mJ 28 3 :: cJ 29 .eql 28 0 :: []) [0, 1, 2, 3, 8, 9, 10, 29]) Qrn) Qn0)
def Qn2 : SC := (.seq (.seq (.reg ( mJ 22 10 :: cJ 23 .leq 22 12 :: []) [0, 1, 2, 3, 8, 9, 10, 23]) Qrm) Qn1)
def Qlh : SC := (.block 1 (.seq (.reg ( mJ 19 2 :: mJ 20 1 :: bJ 21 .sub 19 20 :: mJ 10 21 :: []) [0, 1, 2, 3, 8, 9, 10]) Qn2))
def Qn3 : SC := (.seq (.reg ( fI 9 (.mv (.k (.c (.bool true)))) :: []) [0, 1, 2, 3, 8, 9]) (.block 0 (.loop Qlh)))
def Qvo : SC := (.seq (.reg ( fI 8 (.mv (.k (.c (.bool true)))) :: []) [0, 1, 2, 3, 8]) Qn3)
def Qgi : List RS := []
theorem Quu : mFn prog Qba 4 134 Qvo Qgi = true := by kernel_rfl
def Qfn : List Item := fI 30 (.pick (.t 19) (.t 29) (.k (.c (.bool false)))) :: []
def Qfo : List Item := iJ 48 1 35 37 :: .e none none (.sto 1 (.t 48) (.t 46)) :: []
def Qgy : SC := (.reg ( mJ 31 7 :: cJ 32 .sub 31 1 :: mJ 7 32 :: []) [0, 1, 2, 6, 7])
def Qgz : SC := (.seq (.block 3 (.dreg 18 [0, 1, 2, 3, 4, 5, 6, 7, 8, 9, 10, 11, 12, 13, 14, 15, 16, 17] ( mJ 33 0 :: mJ 34 7 :: mJ 35 0 :: mJ 36 7 :: cJ 37 .sub 36 1 :: mJ 38 0 :: mJ 39 7 :: cJ 40 .sub 39 1 :: iJ 41 1 38 40 :: lJ 42 41 :: mJ 43 0 :: mJ 44 7 :: iJ 45 1 43 44 :: lJ 46 45 :: iJ 47 1 33 34 :: .e none none (.sto 1 (.t 47) (.t 42)) :: Qfo) [0, 1, 2, 6, 7])) Qgy)
def Qfp : SC := (.seq (.seq (.dreg 15 [0, 1, 2, 3, 4, 5, 6, 7, 8, 9, 10, 11, 12, 13, 14] ( mJ 16 7 :: mJ 17 1 :: bJ 18 .gtr 16 17 :: mJ 19 18 :: gTm 20 19 0 :: gTm 21 19 7 :: gT 22 19 (.iad 1 (.t 20) (.t 21)) :: gTl 23 19 22 :: gTm 24 19 0 :: gTm 25 19 7 :: gT 26 19 (.bin 0 .sub (.t 25) (kI 1)) :: gT 27 19 (.iad 1 (.t 24) (.t 26)) :: gTl 28 19 27 :: .e (some 29) (some (19, true)) (.call Q5i [.t 23, .t 28]) :: Qfn) [0, 1, 2, 6, 7, 30]) (.cond (.t 30) .skip (.exit 2))) Qgz)
def Qg0 : SC := (.reg ( mJ 13 6 :: cJ 14 .add 13 1 :: mJ 6 14 :: []) [0, 1, 2, 6])
def Qg1 : SC := (.seq (.block 1 (.seq (.reg ( mJ 15 6 :: mJ 7 15 :: []) [0, 1, 2, 6, 7]) (.block 2 (.loop Qfp)))) Qg0)
def Qfq : SC := (.seq (.seq (.reg ( mJ 10 6 :: mJ 11 2 :: bJ 12 .lss 10 11 :: []) [0, 1, 2, 6, 12]) (.cond (.t 12) .skip (.exit 0))) Qg1)
def Qiq : SC := (.seq (.reg ( mJ 8 1 :: cJ 9 .add 8 1 :: mJ 6 9 :: []) [0, 1, 2, 6]) (.block 0 (.loop Qfq)))
def Qc0 : List RS := []
theorem Qia : mFn prog Qbl 3 49 Qiq Qc0 = true := by kernel_rfl
end Go.AE.Y

namespace Go.AE.Y
open Go.Proofs.Tryz
def Qls : List Item := fI 3 (.mv (.k (.c (.bool false)))) :: []
def Qlt : List Item := mJ 3 7 :: []
def Qlu : List Item := fI 6 (.ext (.t 5) 0) :: fI 7 (.ext (.t 5) 1) :: .e none none (.sto 1 (.t 2) (.t 6)) :: Qlt
def Q60 : SC := (.seq (.reg ( tJ 4 1 1 :: eI 5 (.call Qki [.t 4, .k (.c (.fn Qb6 []))]) :: Qlu) [2, 3]) .ret)
def Qaj2 : SC := (.seq (.reg ( fI 1 (.box (.t 0)) :: eI 2 (.alloc [.sl true 3 []]) :: Qls) [1, 2]) Q60)
def Qwc : List RS := [.cell 2 1 true, .tmp 3]
theorem Qajg : mFn prog Qh1 1 8 Qaj2 Qwc = true := by kernel_rfl
def Qoy : List Item := oJ 12 11 :: []
def Qadh : SC := (.cond (.t 12) (.seq (.reg ( fI 2 (.mv (.k (.c (.sl true 1 [])))) :: []) [2]) .ret) .skip)
def Qoz : List Item := mJ 4 18 :: .e none none (.sto 3 (.t 5) (.t 20)) :: []
def Qo0 : List Item := mJ 6 22 :: []
def Qo1 : List Item := mJ 7 28 :: .e none none (.sto 5 (.t 8) (.t 30)) :: []
def Qo2 : List Item := mJ 3 47 :: []
def Qadi : SC := (.cond (.t 40) (.reg ( mJ 41 3 :: mJ 42 4 :: mJ 43 7 :: mJ 44 9 :: fI 45 (.bsl 1 [.t 42, .t 43, .t 44]) :: fI 46 (.bsl 1 [.t 45]) :: eI 47 (.app 1 (.t 41) (.t 46)) :: Qo2) [3, 4, 6, 7, 14, 15, 16, 24, 25, 26, 33, 34]) .skip)
def Qadj : SC := (.seq (.reg ( mJ 37 6 :: mJ 38 7 :: mJ 39 9 :: aJ 40 Qci [.t 37, .t 38, .t 39] :: []) [3, 4, 6, 7, 9, 14, 15, 16, 24, 25, 26, 33, 34, 40]) Qadi)
def Qadk : SC := (.reg ( cJ 48 .add 34 1 :: mJ 34 48 :: []) [3, 4, 6, 7, 14, 15, 16, 24, 25, 26, 33, 34])
def Qadl : SC := (.seq (.block 5 (.seq (.reg ( mJ 36 34 :: mJ 9 36 :: []) [3, 4, 6, 7, 9, 14, 15, 16, 24, 25, 26, 33, 34]) Qadj)) Qadk)
def Q2y : SC := (.seq (.reg ( bJ 35 .lss 34 33 :: []) [3, 4, 6, 7, 14, 15, 16, 24, 25, 26, 33, 34, 35]) (.seq (.cond (.t 35) .skip (.exit 4)) Qadl))
def Q61 : SC := (.seq (.reg ( fJ 31 1 8 :: lJ 32 31 :: nJ 33 32 :: fI 34 (.mv (kI 0)) :: []) [3, 4, 6, 7, 14, 15, 16, 24, 25, 26, 33, 34]) (.block 4 (.loop Q2y)))
def Q62 : SC := (.reg ( cJ 49 .add 26 1 :: mJ 26 49 :: []) [3, 4, 6, 14, 15, 16, 24, 25, 26])
def Q63 : SC := (.seq (.block 3 (.seq (.reg ( mJ 28 26 :: iJ 29 5 24 26 :: tJ 30 5 29 :: eI 8 (.alloc [.sl true 2 [], .sl true 4 [], .int .i64 0, .int .i64 0, .sl true 1 []]) :: Qo1) [3, 4, 6, 7, 8, 14, 15, 16, 24, 25, 26]) Q61)) Q62)
def Q2z : SC := (.seq (.reg ( bJ 27 .lss 26 25 :: []) [3, 4, 6, 14, 15, 16, 24, 25, 26, 27]) (.seq (.cond (.t 27) .skip (.exit 2)) Q63))
def Q64 : SC := (.seq (.reg ( fJ 23 2 5 :: lJ 24 23 :: nJ 25 24 :: fI 26 (.mv (kI 0)) :: []) [3, 4, 6, 14, 15, 16, 24, 25, 26]) (.block 2 (.loop Q2z)))
def Q65 : SC := (.seq (.reg ( tJ 21 3 5 :: aJ 22 Qex [.t 21] :: Qo0) [3, 4, 5, 6, 14, 15, 16]) Q64)
def Q66 : SC := (.reg ( cJ 50 .add 16 1 :: mJ 16 50 :: []) [3, 14, 15, 16])
def Q67 : SC := (.seq (.block 1 (.seq (.reg ( mJ 18 16 :: iJ 19 3 14 16 :: tJ 20 3 19 :: eI 5 (.alloc [.int .i64 0, .int .i64 0, .sl true 5 []]) :: Qoz) [3, 4, 5, 14, 15, 16]) Q65)) Q66)
def Q20 : SC := (.seq (.reg ( bJ 17 .lss 16 15 :: []) [3, 14, 15, 16, 17]) (.seq (.cond (.t 17) .skip (.exit 0)) Q67))
def Q68 : SC := (.seq (.reg ( mJ 51 3 :: mJ 2 51 :: []) [2]) .ret)
def Q69 : SC := (.seq (.seq (.reg ( fJ 13 0 1 :: lJ 14 13 :: nJ 15 14 :: fI 16 (.mv (kI 0)) :: []) [3, 14, 15, 16]) (.block 0 (.loop Q20))) Q68)
def Q7a : SC := (.seq (.reg ( fI 3 (.mv (.k (.c (.sl true 1 [])))) :: []) [1, 3]) Q69)
def Q7b : SC := (.seq (.seq (.reg ( tJ 10 1 1 :: aJ 11 Qbg [.t 10] :: Qoy) [1, 12]) Qadh) Q7a)
def Qant : SC := (.seq (.reg ( fI 1 (.box (.t 0)) :: fI 2 (.mv (.k (.c (.sl true 1 [])))) :: []) [1]) Q7b)
def Qop : List RS := [.tmp 2]
theorem Qamy : mFn prog Qkf 1 52 Qant Qop = true := by kernel_rfl
def Qlv : List Item := oJ 8 7 :: []
def Q7c : SC := (.cond (.t 8) (.seq (.reg ( fI 2 (.mv (kI (-1))) :: []) [2]) .ret) .skip)
def Qlw : List Item := .e none none (.sto 3 (.t 5) (.t 15)) :: []
def Qlx : List Item := bJ 19 .add 16 18 :: mJ 3 19 :: []
def Q7d : SC := (.reg ( mJ 16 3 :: tJ 17 3 5 :: aJ 18 Qbu [.t 17] :: Qlx) [3, 10, 11, 12])
def Q7e : SC := (.reg ( cJ 20 .add 12 1 :: mJ 12 20 :: []) [3, 10, 11, 12])
def Q7f : SC := (.seq (.block 1 (.seq (.reg ( iJ 14 3 10 12 :: tJ 15 3 14 :: eI 5 (.alloc [.int .i64 0, .int .i64 0, .sl true 5 []]) :: Qlw) [3, 5, 10, 11, 12]) Q7d)) Q7e)
def Q23 : SC := (.seq (.reg ( bJ 13 .lss 12 11 :: []) [3, 10, 11, 12, 13]) (.seq (.cond (.t 13) .skip (.exit 0)) Q7f))
def Q7g : SC := (.seq (.reg ( mJ 21 3 :: mJ 2 21 :: []) [2]) .ret)
def Q7h : SC := (.seq (.seq (.reg ( fJ 9 0 1 :: lJ 10 9 :: nJ 11 10 :: fI 12 (.mv (kI 0)) :: []) [3, 10, 11, 12]) (.block 0 (.loop Q23))) Q7g)
def Q21 : SC := (.seq (.reg ( fI 3 (.mv (kI 0)) :: []) [1, 3]) Q7h)
def Q22 : SC := (.seq (.seq (.reg ( tJ 6 1 1 :: aJ 7 Qbg [.t 6] :: Qlv) [1, 8]) Q7c) Q21)
def Qaj3 : SC := (.seq (.reg ( fI 1 (.box (.t 0)) :: fI 2 (.mv (kI 0)) :: []) [1]) Q22)
def Qkw : List RS := [.tmp 2]
theorem Qajh : mFn prog Qeq 1 22 Qaj3 Qkw = true := by kernel_rfl
def Qhp : List Item := gF 41 26 (.not (.t 40)) :: fI 42 (.pick (.t 26) (.k (.c (.bool true))) (.t 41)) :: []
def Qhq : List Item := gF 24 13 (.not (.t 23)) :: fI 25 (.pick (.t 13) (.k (.c (.bool true))) (.t 24)) :: mJ 26 25 :: gFm 27 26 3 :: gFf 28 26 0 4 :: gFl 29 26 28 :: gFm 30 26 1 :: gF 31 26 (.iad 3 (.t 29) (.t 30)) :: gFf 32 26 2 31 :: gFl 33 26 32 :: gFm 34 26 2 :: gF 35 26 (.iad 5 (.t 33) (.t 34)) :: gFf 36 26 1 35 :: gFl 37 26 36 :: gF 38 26 (.len (.t 37)) :: gF 39 26 (.bin 0 .sub (.t 38) (kI 1)) :: .e (some 40) (some (26, false)) (.call Qal [.t 27, kI (-1), .t 39]) :: Qhp
def Qhr : List Item := oJ 12 11 :: mJ 13 12 :: gFm 14 13 2 :: gFf 15 13 0 4 :: gFl 16 13 15 :: gFm 17 13 1 :: gF 18 13 (.iad 3 (.t 16) (.t 17)) :: gFf 19 13 2 18 :: gFl 20 13 19 :: gF 21 13 (.len (.t 20)) :: gF 22 13 (.bin 0 .sub (.t 21) (kI 1)) :: .e (some 23) (some (13, false)) (.call Qal [.t 14, kI 0, .t 22]) :: Qhq
def Qyy : SC := (.cond (.t 42) (.seq (.reg ( fI 8 (.mv (.k (.c (.sl true 1 [])))) :: []) [8]) .ret) .skip)
def Qhs : List Item := mJ 8 52 :: []
def Qht : List Item := aJ 52 Qcd [.t 51] :: Qhs
def Qhu : List Item := mJ 49 2 :: mJ 50 3 :: aJ 51 Qbe [.t 48, .t 49, .t 50] :: Qht
def Qyz : SC := (.seq (.reg ( fJ 43 0 4 :: lJ 44 43 :: mJ 45 1 :: iJ 46 3 44 45 :: tJ 47 3 46 :: aJ 48 Qex [.t 47] :: Qhu) [8]) .ret)
def Qy0 : SC := (.seq (.seq (.reg ( tJ 9 1 4 :: mJ 10 1 :: aJ 11 Qn8 [.t 9, .t 10] :: Qhr) [1, 2, 3, 4, 42]) Qyy) Qyz)
def Q7i : SC := (.seq (.reg ( fI 4 (.box (.t 0)) :: fI 8 (.mv (.k (.c (.sl true 1 [])))) :: []) [1, 2, 3, 4]) Qy0)
def Qoq : List RS := [.tmp 8]
theorem Q59 : mFn prog Qe4 4 53 Q7i Qoq = true := by kernel_rfl
def Qtc : List Item := oJ 6 5 :: []
def Qaj4 : SC := (.cond (.t 6) (.seq (.reg ( fI 2 (.mv (kI (-1))) :: []) [2]) .ret) .skip)
def Qaj5 : SC := (.seq (.reg ( fJ 7 1 1 :: lJ 8 7 :: mJ 2 8 :: []) [2]) .ret)
def Qaj6 : SC := (.seq (.seq (.reg ( fJ 3 0 1 :: lJ 4 3 :: aJ 5 Qiu [.t 4] :: Qtc) [1, 6]) Qaj4) Qaj5)
def Qasg : SC := (.seq (.reg ( fI 1 (.box (.t 0)) :: fI 2 (.mv (kI 0)) :: []) [1]) Qaj6)
def Quy : List RS := [.tmp 2]
theorem Qarn : mFn prog Qhb 1 9 Qasg Quy = true := by kernel_rfl
def Qjd : List Item := oJ 10 9 :: []
def Q24 : SC := (.cond (.t 10) (.seq (.reg ( fI 2 (.mv (.k (.c (.bool false)))) :: []) [2]) .ret) .skip)
def Qje : List Item := mJ 4 16 :: .e none none (.sto 3 (.t 5) (.t 18)) :: []
def Qjf : List Item := oJ 22 21 :: []
def Q25 : SC := (.cond (.t 22) (.seq (.reg ( fI 2 (.mv (.k (.c (.bool false)))) :: []) [2]) .ret) .skip)
def Qjg : List Item := bJ 26 .add 23 25 :: mJ 3 26 :: []
def Q26 : SC := (.reg ( mJ 23 3 :: tJ 24 3 5 :: aJ 25 Qbu [.t 24] :: Qjg) [1, 3, 12, 13, 14])
def Q27 : SC := (.seq (.seq (.reg ( tJ 19 1 1 :: mJ 20 4 :: aJ 21 Qn9 [.t 19, .t 20] :: Qjf) [1, 3, 5, 12, 13, 14, 22]) Q25) Q26)
def Q28 : SC := (.reg ( cJ 27 .add 14 1 :: mJ 14 27 :: []) [1, 3, 12, 13, 14])
def Q29 : SC := (.seq (.block 1 (.seq (.reg ( mJ 16 14 :: iJ 17 3 12 14 :: tJ 18 3 17 :: eI 5 (.alloc [.int .i64 0, .int .i64 0, .sl true 5 []]) :: Qje) [1, 3, 4, 5, 12, 13, 14]) Q27)) Q28)
def Qwr : SC := (.seq (.reg ( bJ 15 .lss 14 13 :: []) [1, 3, 12, 13, 14, 15]) (.seq (.cond (.t 15) .skip (.exit 0)) Q29))
def Qy1 : SC := (.seq (.reg ( mJ 28 3 :: cJ 29 .leq 28 800 :: mJ 2 29 :: []) [2]) .ret)
def Qy2 : SC := (.seq (.seq (.reg ( fJ 11 0 1 :: lJ 12 11 :: nJ 13 12 :: fI 14 (.mv (kI 0)) :: []) [1, 3, 12, 13, 14]) (.block 0 (.loop Qwr))) Qy1)
def Qy3 : SC := (.seq (.reg ( fI 3 (.mv (kI 0)) :: []) [1, 3]) Qy2)
def Qy4 : SC := (.seq (.seq (.reg ( fJ 6 0 1 :: lJ 7 6 :: nJ 8 7 :: aJ 9 Qal [.t 8, kI 1, kI 4] :: Qjd) [1, 10]) Q24) Qy3)
def Qads : SC := (.seq (.reg ( fI 1 (.box (.t 0)) :: fI 2 (.mv (.k (.c (.bool false)))) :: []) [1]) Qy4)
def Qib : List RS := [.tmp 2]
theorem Qac4 : mFn prog Qbg 1 30 Qads Qib = true := by kernel_rfl
def Qly : List Item := .chk 4 none (.ld 1 false (.t 3)) :: fI 8 (.bld [.int .i64 0, .sl true 1 []] [(0, 1, .t 4), (1, 1, .t 7)]) :: .e none none (.sto 2 (.t 2) (.t 8)) :: []
def Q7o : SC := (.seq (.dreg 7 [0, 1, 2, 3, 4, 1, 5, 6] ( fJ 3 0 1 :: lJ 4 3 :: fJ 5 1 1 :: lJ 6 5 :: aJ 7 Qee [.t 6] :: Qly) [2]) .ret)
def Qaj7 : SC := (.seq (.reg ( fI 1 (.box (.t 0)) :: eI 2 (.alloc [.int .i64 0, .sl true 1 []]) :: []) [1, 2]) Q7o)
def Qwd : List RS := [.cell 2 2 true]
theorem Qaji : mFn prog Qcx 1 9 Qaj7 Qwd = true := by kernel_rfl
def Qif : List Item := fI 14 (.pick (.t 7) (.t 13) (.k (.c (.bool false)))) :: mJ 4 14 :: []
def Qig : List Item := mJ 7 6 :: gTm 8 7 1 :: gTf 9 7 0 2 :: gTl 10 7 9 :: gT 11 7 (.len (.t 10)) :: gT 12 7 (.bin 0 .sub (.t 11) (kI 1)) :: .e (some 13) (some (7, true)) (.call Qal [.t 8, kI 0, .t 12]) :: Qif
def Qaj8 : SC := (.seq (.reg ( tJ 5 1 2 :: aJ 6 Qbg [.t 5] :: Qig) [4]) .ret)
def Qash : SC := (.seq (.reg ( fI 2 (.box (.t 0)) :: fI 4 (.mv (.k (.c (.bool false)))) :: []) [1, 2]) Qaj8)
def Quz : List RS := [.tmp 4]
theorem Qaro : mFn prog Qn8 2 15 Qash Quz = true := by kernel_rfl
def Qji : List Item := .e none none (.sto 5 (.t 5) (.t 12)) :: []
def Q3d : SC := (.reg ( mJ 13 3 :: fJ 14 0 5 :: lJ 15 14 :: nJ 16 15 :: fJ 17 1 5 :: lJ 18 17 :: nJ 19 18 :: bJ 20 .add 16 19 :: bJ 21 .add 13 20 :: mJ 3 21 :: []) [3, 7, 8, 9])
def Q3e : SC := (.reg ( cJ 22 .add 9 1 :: mJ 9 22 :: []) [3, 7, 8, 9])
def Q3f : SC := (.seq (.block 1 (.seq (.reg ( iJ 11 5 7 9 :: tJ 12 5 11 :: eI 5 (.alloc [.sl true 2 [], .sl true 4 [], .int .i64 0, .int .i64 0, .sl true 1 []]) :: Qji) [3, 5, 7, 8, 9]) Q3d)) Q3e)
def Qy7 : SC := (.seq (.reg ( bJ 10 .lss 9 8 :: []) [3, 7, 8, 9, 10]) (.seq (.cond (.t 10) .skip (.exit 0)) Q3f))
def Q3g : SC := (.seq (.reg ( mJ 23 3 :: mJ 2 23 :: []) [2]) .ret)
def Q3h : SC := (.seq (.seq (.reg ( fJ 6 2 1 :: lJ 7 6 :: nJ 8 7 :: fI 9 (.mv (kI 0)) :: []) [3, 7, 8, 9]) (.block 0 (.loop Qy7))) Q3g)
def Q3i : SC := (.seq (.reg ( fI 3 (.mv (kI 0)) :: []) [1, 3]) Q3h)
def Qadu : SC := (.seq (.reg ( fI 1 (.box (.t 0)) :: fI 2 (.mv (kI 0)) :: []) [1]) Q3i)
def Qs3 : List RS := [.tmp 2]
theorem Qac6 : mFn prog Qbu 1 24 Qadu Qs3 = true := by kernel_rfl
def Qth : List Item := .e none none (.sto 3 (.t 5) (.t 16)) :: []
def Qer : List Item := gF 35 30 (.not (.t 34)) :: fI 36 (.pick (.t 30) (.k (.c (.bool true))) (.t 35)) :: []
def Qes : List Item := gF 28 21 (.not (.t 27)) :: fI 29 (.pick (.t 21) (.k (.c (.bool true))) (.t 28)) :: mJ 30 29 :: gFf 31 30 2 5 :: gFl 32 30 31 :: gF 33 30 (.len (.t 32)) :: .e (some 34) (some (30, false)) (.call Qal [.t 33, kI 1, kI 160]) :: Qer
def Qii : List Item := oJ 20 19 :: mJ 21 20 :: gFf 22 21 0 5 :: gFl 23 21 22 :: gFf 24 21 1 5 :: gFl 25 21 24 :: gF 26 21 (.mn (kI 3) (.t 25)) :: .e (some 27) (some (21, false)) (.call Qal [.t 23, kI 0, .t 26]) :: Qes
def s_im_codeOk_4 : SC := (.cond (.t 36) (.seq (.reg ( fI 4 (.mv (.k (.c (.bool false)))) :: []) [4]) .ret) .skip)
def Qti : List Item := .e none none (.sto 1 (.t 6) (.t 37)) :: []
def Qtj : List Item := mJ 7 43 :: .e none none (.sto 5 (.t 8) (.t 45)) :: []
def Qc2 : List Item := gF 69 65 (.not (.t 68)) :: gFm 70 65 69 :: gTf 71 70 3 8 :: gTl 72 70 71 :: gT 73 70 (.bin 0 .neq (.t 72) (kI 0)) :: gF 74 65 (.pick (.t 70) (.t 73) (.k (.c (.bool false)))) :: fI 75 (.pick (.t 65) (.k (.c (.bool true))) (.t 74)) :: []
def Qc3 : List Item := gT 62 57 (.not (.t 61)) :: gF 63 53 (.pick (.t 57) (.t 62) (.k (.c (.bool false)))) :: fI 64 (.pick (.t 53) (.k (.c (.bool true))) (.t 63)) :: mJ 65 64 :: gFf 66 65 2 8 :: gFl 67 65 66 :: .e (some 68) (some (65, false)) (.call Qey [.t 67]) :: Qc2
def Qet : List Item := gFm 57 53 56 :: gTl 58 57 6 :: gTf 59 57 3 8 :: gTl 60 57 59 :: .e (some 61) (some (57, true)) (.callv (.t 58) [.t 60]) :: Qc3
def Qgm : List Item := .chk 47 none (.ld 1 false (.t 46)) :: .chk 48 none (.len (.t 47)) :: bJ 52 .neq 48 51 :: mJ 53 52 :: gFf 54 53 2 8 :: gFl 55 53 54 :: .e (some 56) (some (53, false)) (.call Qey [.t 55]) :: Qet
def s_im_codeOk_11 : SC := (.cond (.t 75) (.seq (.reg ( fI 4 (.mv (.k (.c (.bool false)))) :: []) [4]) .ret) .skip)
def Qgn : List Item := fI 85 (.pick (.t 80) (.k (.c (.bool true))) (.t 84)) :: []
def Qgo : List Item := mJ 80 79 :: gFf 81 80 1 8 :: gFl 82 80 81 :: gF 83 80 (.mkf Qf3 [.t 2, .t 3]) :: .e (some 84) (some (80, false)) (.call Qca [.t 82, .t 83]) :: Qgn
def s_im_codeOk_14 : SC := (.cond (.t 85) (.seq (.reg ( fI 4 (.mv (.k (.c (.bool false)))) :: []) [4]) .ret) .skip)
def Qo6 : List Item := nJ 89 88 :: mJ 9 89 :: []
def Qo7 : List Item := .e none none (.sto 2 (.t 11) (.t 96)) :: []
def Qcg : List Item := fI 118 (.pick (.t 113) (.k (.c (.bool true))) (.t 117)) :: []
def Qch : List Item := gF 104 99 (.not (.t 103)) :: fI 105 (.pick (.t 99) (.k (.c (.bool true))) (.t 104)) :: mJ 106 105 :: gFf 107 106 1 11 :: gFl 108 106 107 :: gF 109 106 (.len (.t 108)) :: gFm 110 106 9 :: gF 111 106 (.bin 0 .neq (.t 109) (.t 110)) :: fI 112 (.pick (.t 106) (.k (.c (.bool true))) (.t 111)) :: mJ 113 112 :: gFf 114 113 1 11 :: gFl 115 113 114 :: gF 116 113 (.mkf Qf4 [.t 6]) :: .e (some 117) (some (113, false)) (.call Qbm [.t 115, .t 116]) :: Qcg
def Qtd : SC := (.cond (.t 118) (.seq (.reg ( fI 4 (.mv (.k (.c (.bool false)))) :: []) [4]) .ret) .skip)
def Qadv : SC := (.seq (.reg ( mJ 97 7 :: cJ 98 .eql 97 0 :: mJ 99 98 :: gFl 100 99 6 :: gFf 101 99 0 11 :: gFl 102 99 101 :: .e (some 103) (some (99, false)) (.callv (.t 100) [.t 102]) :: Qch) [2, 3, 5, 6, 7, 9, 39, 40, 41, 91, 92, 93, 118]) Qtd)
def Qte : SC := (.reg ( cJ 119 .add 93 1 :: mJ 93 119 :: []) [2, 3, 5, 6, 7, 9, 39, 40, 41, 91, 92, 93])
def Qadw : SC := (.seq (.block 3 (.seq (.reg ( iJ 95 2 91 93 :: tJ 96 2 95 :: eI 11 (.alloc [.int .i64 0, .sl true 1 []]) :: Qo7) [2, 3, 5, 6, 7, 9, 11, 39, 40, 41, 91, 92, 93]) Qadv)) Qte)
def Q7p : SC := (.seq (.reg ( bJ 94 .lss 93 92 :: []) [2, 3, 5, 6, 7, 9, 39, 40, 41, 91, 92, 93, 94]) (.seq (.cond (.t 94) .skip (.exit 2)) Qadw))
def Qadx : SC := (.seq (.reg ( fJ 90 0 8 :: lJ 91 90 :: nJ 92 91 :: fI 93 (.mv (kI 0)) :: []) [2, 3, 5, 6, 7, 9, 39, 40, 41, 91, 92, 93]) (.block 2 (.loop Q7p)))
def Qih : SC := (.seq (.reg ( tJ 86 3 5 :: mJ 87 7 :: aJ 88 Qfh [.t 86, .t 87] :: Qo6) [2, 3, 5, 6, 7, 8, 9, 39, 40, 41]) Qadx)
def Qtf : SC := (.seq (.seq (.reg ( fJ 76 4 8 :: lJ 77 76 :: fI 78 (.mkf Qf2 [.t 5]) :: aJ 79 Qbm [.t 77, .t 78] :: Qgo) [2, 3, 5, 6, 7, 8, 39, 40, 41, 85]) s_im_codeOk_14) Qih)
def Qady : SC := (.seq (.seq (.dreg 30 [0, 1, 2, 3, 4, 5, 1, 2, 6, 7, 8, 9, 10, 11, 12, 13, 14, 15, 16, 17, 18, 19, 20, 21, 22, 23, 24, 25, 26, 27, 28, 29] ( fJ 46 4 8 :: lJ 47 46 :: nJ 48 47 :: fJ 49 2 8 :: lJ 50 49 :: aJ 51 Qf6 [.t 50] :: Qgm) [2, 3, 5, 6, 7, 8, 39, 40, 41, 75]) s_im_codeOk_11) Qtf)
def Qadz : SC := (.reg ( cJ 120 .add 41 1 :: mJ 41 120 :: []) [2, 3, 5, 6, 39, 40, 41])
def Qad0 : SC := (.seq (.block 1 (.seq (.reg ( mJ 43 41 :: iJ 44 5 39 41 :: tJ 45 5 44 :: eI 8 (.alloc [.sl true 2 [], .sl true 4 [], .int .i64 0, .int .i64 0, .sl true 1 []]) :: Qtj) [2, 3, 5, 6, 7, 8, 39, 40, 41]) Qady)) Qadz)
def Q7q : SC := (.seq (.reg ( bJ 42 .lss 41 40 :: []) [2, 3, 5, 6, 39, 40, 41, 42]) (.seq (.cond (.t 42) .skip (.exit 0)) Qad0))
def Qad1 : SC := (.seq (.reg ( fI 4 (.mv (.k (.c (.bool true)))) :: []) [4]) .ret)
def Qad2 : SC := (.seq (.seq (.reg ( fJ 38 2 5 :: lJ 39 38 :: nJ 40 39 :: fI 41 (.mv (kI 0)) :: []) [2, 3, 5, 6, 39, 40, 41]) (.block 0 (.loop Q7q))) Qad1)
def Qtg : SC := (.seq (.reg ( fI 37 (.mkf Qaf [.t 5]) :: eI 6 (.alloc [.fnil]) :: Qti) [2, 3, 5, 6]) Qad2)
def Qad3 : SC := (.seq (.seq (.reg ( fJ 17 1 5 :: lJ 18 17 :: aJ 19 Qal [.t 18, kI 0, kI 300] :: Qii) [2, 3, 5, 36]) s_im_codeOk_4) Qtg)
def Qad4 : SC := (.seq (.reg ( fJ 12 0 2 :: lJ 13 12 :: lJ 14 3 :: iJ 15 3 13 14 :: tJ 16 3 15 :: eI 5 (.alloc [.int .i64 0, .int .i64 0, .sl true 5 []]) :: Qth) [2, 3, 5]) Qad3)
def Qasi : SC := (.seq (.reg ( fI 2 (.box (.t 0)) :: fI 3 (.box (.t 1)) :: fI 4 (.mv (.k (.c (.bool false)))) :: []) [2, 3]) Qad4)
def Qgf : List RS := [.tmp 4]
theorem Qarp : mFn prog Qn9 2 121 Qasi Qgf = true := by kernel_rfl
def Qjj : List Item := mJ 3 8 :: []
def Q3j : SC := (.seq (.reg ( mJ 4 0 :: fJ 5 1 1 :: lJ 6 5 :: cJ 7 .sub 6 1 :: aJ 8 Qal [.t 4, kI 0, .t 7] :: Qjj) [3]) .ret)
def Qad5 : SC := (.seq (.reg ( fI 3 (.mv (.k (.c (.bool false)))) :: []) [0, 1]) Q3j)
def Qs4 : List RS := [.tmp 3]
theorem Qac7 : mFn prog Qaf 2 9 Qad5 Qs4 = true := by kernel_rfl
def Qjk : List Item := oJ 10 9 :: mJ 3 10 :: []
def Q3k : SC := (.seq (.reg ( mJ 4 0 :: fJ 5 2 1 :: lJ 6 5 :: nJ 7 6 :: cJ 8 .sub 7 1 :: aJ 9 Qal [.t 4, kI 1, .t 8] :: Qjk) [3]) .ret)
def Qad6 : SC := (.seq (.reg ( fI 3 (.mv (.k (.c (.bool false)))) :: []) [0, 1]) Q3k)
def Qs5 : List RS := [.tmp 3]
theorem Qac8 : mFn prog Qf2 2 11 Qad6 Qs5 = true := by kernel_rfl
def Qjl : List Item := oJ 9 8 :: mJ 4 9 :: []
def Q3l : SC := (.seq (.reg ( tJ 5 1 1 :: lJ 6 2 :: tJ 7 4 3 :: aJ 8 Quo [.t 5, .t 6, .t 7] :: Qjl) [4]) .ret)
def Qad7 : SC := (.seq (.reg ( fI 3 (.box (.t 0)) :: fI 4 (.mv (.k (.c (.bool false)))) :: []) [1, 2, 3]) Q3l)
def Qs6 : List RS := [.tmp 4]
theorem Qac9 : mFn prog Qf3 3 10 Qad7 Qs6 = true := by kernel_rfl
def Qjm : List Item := oJ 7 6 :: mJ 3 7 :: []
def Q3m : SC := (.seq (.reg ( lJ 4 1 :: mJ 5 0 :: eI 6 (.callv (.t 4) [.t 5]) :: Qjm) [3]) .ret)
def Qad8 : SC := (.seq (.reg ( fI 3 (.mv (.k (.c (.bool false)))) :: []) [0, 1]) Q3m)
def Qs7 : List RS := [.tmp 3]
theorem Qada : mFn prog Qf4 2 8 Qad8 Qs7 = true := by kernel_rfl
def Qwz : SC := (.seq (.reg ( lJ 4 1 :: fJ 5 0 2 :: lJ 6 5 :: fI 7 (.lup 0 (.c (.bool false)) (.t 4) (.t 6)) :: oJ 8 7 :: mJ 3 8 :: []) [3]) .ret)
def Q3o : SC := (.seq (.reg ( fI 2 (.box (.t 0)) :: fI 3 (.mv (.k (.c (.bool false)))) :: []) [1, 2]) Qwz)
def Qlo : List RS := [.tmp 3]
theorem Q2r : mFn prog Qay 2 9 Q3o Qlo = true := by kernel_rfl
def Q7r : SC := (.cond (.t 4) .skip (.reg ( cJ 12 .eql 3 9 :: mJ 4 12 :: []) [4]))
def Q7s : SC := (.cond (.t 4) .skip (.seq (.reg ( cJ 11 .eql 3 8 :: mJ 4 11 :: []) [3, 4]) Q7r))
def Q7t : SC := (.cond (.t 4) .skip (.seq (.reg ( cJ 10 .eql 3 5 :: mJ 4 10 :: []) [3, 4]) Q7s))
def Q7u : SC := (.cond (.t 4) .skip (.seq (.reg ( cJ 9 .eql 3 4 :: mJ 4 9 :: []) [3, 4]) Q7t))
def Q7v : SC := (.cond (.t 4) .skip (.seq (.reg ( cJ 8 .eql 3 3 :: mJ 4 8 :: []) [3, 4]) Q7u))
def Q7w : SC := (.cond (.t 4) .skip (.seq (.reg ( cJ 7 .eql 3 10 :: mJ 4 7 :: []) [3, 4]) Q7v))
def Q7x : SC := (.cond (.t 4) .skip (.seq (.reg ( cJ 6 .eql 3 2 :: mJ 4 6 :: []) [3, 4]) Q7w))
def Qo8 : SC := (.cond (.t 4) (.seq (.reg ( fI 2 (.mv (.k (.c (.bool true)))) :: []) [2]) .ret) .skip)
def Q7y : SC := (.block 0 (.seq (.seq (.reg ( cJ 5 .eql 3 1 :: mJ 4 5 :: []) [3, 4]) Q7x) Qo8))
def Qo9 : SC := (.seq (.reg ( fI 2 (.mv (.k (.c (.bool false)))) :: []) [2]) .ret)
def Q3p : SC := (.seq (.seq (.reg ( mJ 3 0 :: []) [3]) Q7y) Qo9)
def Qaj9 : SC := (.seq (.reg ( fI 2 (.mv (.k (.c (.bool false)))) :: []) [0]) Q3p)
def Qfj : List RS := [.tmp 2]
theorem Qajj : mFn prog Qh2 1 13 Qaj9 Qfj = true := by kernel_rfl
def Qaea : SC := (.cond (.t 6) .skip (.reg ( cJ 10 .eql 3 13 :: mJ 6 10 :: []) [6]))
def Qaeb : SC := (.cond (.t 6) .skip (.seq (.reg ( cJ 9 .eql 3 11 :: mJ 6 9 :: []) [3, 6]) Qaea))
def Qaec : SC := (.cond (.t 6) .skip (.seq (.reg ( cJ 8 .eql 3 10 :: mJ 6 8 :: []) [3, 6]) Qaeb))
def Qtk : SC := (.cond (.t 6) (.seq (.reg ( fI 2 (.mv (kI 1)) :: []) [2]) .ret) .skip)
def Qaed : SC := (.cond (.t 4) (.seq (.reg ( fI 2 (.mv (kI 0)) :: []) [2]) .ret) (.seq (.seq (.reg ( cJ 7 .eql 3 2 :: mJ 6 7 :: []) [3, 6]) Qaec) Qtk))
def Qaee : SC := (.block 0 (.seq (.reg ( cJ 5 .eql 3 1 :: mJ 4 5 :: []) [3, 4]) Qaed))
def Qtl : SC := (.seq (.reg ( fI 2 (.mv (kI 2)) :: []) [2]) .ret)
def Qaef : SC := (.seq (.seq (.reg ( mJ 3 0 :: []) [3]) Qaee) Qtl)
def Qanv : SC := (.seq (.reg ( fI 2 (.mv (kI 0)) :: []) [0]) Qaef)
def Qhk : List RS := [.tmp 2]
theorem Qam0 : mFn prog Qkg 1 11 Qanv Qhk = true := by kernel_rfl
def Qw2 : List Item := .e none none (.sto 3 (.t 7) (.t 13)) :: []
def Qw3 : List Item := .e none none (.sto 1 (.t 8) (.t 14)) :: []
def Qkz : List Item := fI 24 (.pick (.t 19) (.k (.c (.bool true))) (.t 23)) :: []
def Qw4 : List Item := oJ 18 17 :: mJ 19 18 :: gFf 20 19 2 5 :: gFl 21 19 20 :: gF 22 19 (.mkf Qh3 [.t 8]) :: .e (some 23) (some (19, false)) (.call Qbm [.t 21, .t 22]) :: Qkz
def s_im_insOk_4 : SC := (.cond (.t 24) (.seq (.reg ( fI 6 (.mv (.k (.c (.bool false)))) :: []) [6]) .ret) .skip)
def Qfk : List Item := gF 39 35 (.not (.t 38)) :: gFm 40 35 39 :: gTf 41 40 1 5 :: gTl 42 40 41 :: gT 43 40 (.bin 0 .neq (.t 42) (kI (-1))) :: gF 44 35 (.pick (.t 40) (.t 43) (.k (.c (.bool false)))) :: fI 45 (.pick (.t 35) (.k (.c (.bool true))) (.t 44)) :: []
def Qfl : List Item := gT 33 28 (.not (.t 32)) :: fI 34 (.pick (.t 28) (.t 33) (.k (.c (.bool false)))) :: mJ 35 34 :: gFf 36 35 0 5 :: gFl 37 35 36 :: .e (some 38) (some (35, false)) (.call Qiu [.t 37]) :: Qfk
def Qk0 : List Item := mJ 28 27 :: gTl 29 28 8 :: gTf 30 28 1 5 :: gTl 31 28 30 :: .e (some 32) (some (28, true)) (.callv (.t 29) [.t 31]) :: Qfl
def s_im_insOk_8 : SC := (.cond (.t 45) (.seq (.reg ( fI 6 (.mv (.k (.c (.bool false)))) :: []) [6]) .ret) .skip)
def Qk1 : List Item := fI 58 (.pick (.t 54) (.t 57) (.k (.c (.bool false)))) :: mJ 6 58 :: []
def Qeu : List Item := mJ 66 65 :: gTf 67 66 2 5 :: gTl 68 66 67 :: gT 69 66 (.len (.t 68)) :: gTf 70 66 0 3 :: gTl 71 66 70 :: gTf 72 66 3 5 :: gTl 73 66 72 :: gT 74 66 (.iad 3 (.t 71) (.t 73)) :: gTf 75 66 0 74 :: gTl 76 66 75 :: gT 77 66 (.bin 0 .eql (.t 69) (.t 76)) :: fI 78 (.pick (.t 66) (.t 77) (.k (.c (.bool false)))) :: mJ 6 78 :: []
def Qaka : SC := (.cond (.t 59) (.seq (.dreg 19 [0, 1, 2, 3, 4, 5, 6, 7, 8, 9, 10, 11, 12, 13, 14, 15, 16, 17, 18] ( fJ 61 3 5 :: lJ 62 61 :: mJ 63 1 :: cJ 64 .sub 63 1 :: aJ 65 Qal [.t 62, kI 0, .t 64] :: Qeu) [6]) .ret) .skip)
def Qakb : SC := (.cond (.t 48) (.seq (.reg ( fJ 50 2 5 :: lJ 51 50 :: nJ 52 51 :: cJ 53 .eql 52 0 :: mJ 54 53 :: gTf 55 54 3 5 :: gTl 56 54 55 :: .e (some 57) (some (54, true)) (.call Qoa [.t 56]) :: Qk1) [6]) .ret) (.seq (.reg ( cJ 60 .eql 47 14 :: mJ 59 60 :: []) [1, 3, 5, 59]) Qaka))
def Qakc : SC := (.block 0 (.seq (.reg ( cJ 49 .eql 47 1 :: mJ 48 49 :: []) [1, 3, 5, 47, 48]) Qakb))
def Qij : List Item := .chk 84 (some (82, true)) (.ld 1 false (.t 83)) :: .chk 85 (some (82, true)) (.len (.t 84)) :: gT 89 82 (.bin 0 .eql (.t 85) (.t 88)) :: fI 90 (.pick (.t 82) (.t 89) (.k (.c (.bool false)))) :: mJ 6 90 :: []
def Qakd : SC := (.seq (.dreg 13 [0, 1, 2, 3, 4, 5, 6, 7, 8, 9, 5, 6, 10, 11, 12] ( fJ 79 3 5 :: lJ 80 79 :: cJ 81 .eql 80 0 :: mJ 82 81 :: gTf 83 82 2 5 :: gTl 84 82 83 :: gT 85 82 (.len (.t 84)) :: gTf 86 82 0 5 :: gTl 87 82 86 :: .e (some 88) (some (82, true)) (.call Qkg [.t 87]) :: Qij) [6]) .ret)
def Qw0 : SC := (.seq (.seq (.reg ( fJ 46 0 5 :: lJ 47 46 :: []) [1, 3, 5, 47]) Qakc) Qakd)
def Qw1 : SC := (.seq (.seq (.reg ( fJ 25 0 5 :: lJ 26 25 :: aJ 27 Qiu [.t 26] :: Qk0) [1, 3, 5, 45]) s_im_insOk_8) Qw0)
def Qake : SC := (.seq (.seq (.reg ( fJ 15 0 5 :: lJ 16 15 :: aJ 17 Qkh [.t 16] :: Qw4) [1, 3, 5, 8, 24]) s_im_insOk_4) Qw1)
def Qakf : SC := (.seq (.reg ( fI 14 (.mkf Qcy [.t 7]) :: eI 8 (.alloc [.fnil]) :: Qw3) [1, 3, 5, 8]) Qake)
def Qakg : SC := (.seq (.reg ( fJ 9 0 3 :: lJ 10 9 :: mJ 11 1 :: iJ 12 3 10 11 :: tJ 13 3 12 :: eI 7 (.alloc [.int .i64 0, .int .i64 0, .sl true 5 []]) :: Qw2) [1, 3, 5, 7]) Qakf)
def Qazt : SC := (.seq (.reg ( fI 3 (.box (.t 0)) :: fI 5 (.box (.t 2)) :: fI 6 (.mv (.k (.c (.bool false)))) :: []) [1, 3, 5]) Qakg)
def Qi8 : List RS := [.tmp 6]
theorem Qazb : mFn prog Quo 3 91 Qazt Qi8 = true := by kernel_rfl
def Qlz : List Item := mJ 3 8 :: []
def Q7z : SC := (.seq (.reg ( mJ 4 0 :: fJ 5 1 1 :: lJ 6 5 :: cJ 7 .sub 6 1 :: aJ 8 Qal [.t 4, kI 0, .t 7] :: Qlz) [3]) .ret)
def Qakh : SC := (.seq (.reg ( fI 3 (.mv (.k (.c (.bool false)))) :: []) [0, 1]) Q7z)
def Qwe : List RS := [.tmp 3]
theorem Qajk : mFn prog Qcy 2 9 Qakh Qwe = true := by kernel_rfl
def Ql0 : List Item := oJ 7 6 :: mJ 3 7 :: []
def Q70 : SC := (.seq (.reg ( lJ 4 1 :: mJ 5 0 :: eI 6 (.callv (.t 4) [.t 5]) :: Ql0) [3]) .ret)
def Qaki : SC := (.seq (.reg ( fI 3 (.mv (.k (.c (.bool false)))) :: []) [0, 1]) Q70)
def Qwf : List RS := [.tmp 3]
theorem Qajl : mFn prog Qh3 2 8 Qaki Qwf = true := by kernel_rfl
def Qtm : List Item := mJ 2 4 :: []
def Qakj : SC := (.seq (.reg ( mJ 3 0 :: aJ 4 Qal [.t 3, kI 0, kI 255] :: Qtm) [2]) .ret)
def Qasj : SC := (.seq (.reg ( fI 2 (.mv (.k (.c (.bool false)))) :: []) [0]) Qakj)
def Q6i : List RS := [.tmp 2]
theorem Qarq : mFn prog Qoa 1 5 Qasj Q6i = true := by kernel_rfl
def Qw5 : List Item := mJ 2 4 :: []
def Qanw : SC := (.seq (.reg ( mJ 3 0 :: aJ 4 Qal [.t 3, kI 1, kI 14] :: Qw5) [2]) .ret)
def Qazu : SC := (.seq (.reg ( fI 2 (.mv (.k (.c (.bool false)))) :: []) [0]) Qanw)
def Qah3 : List RS := [.tmp 2]
theorem Qazc : mFn prog Qkh 1 5 Qazu Qah3 = true := by kernel_rfl
def Qtn : List Item := mJ 3 16 :: []
def Qto : List Item := .chk 10 none (.ld 3 true (.t 1)) :: fI 15 (.bld [.int .i64 0, .int .i64 0, .sl true 5 [], .sl true 1 [], .sl true 1 []] [(0, 3, .t 10), (3, 1, .t 14)]) :: eI 16 (.boxm (.t 15)) :: Qtn
def Qtp : List Item := kJ 33 23 :: fJ 34 4 33 :: .e none none (.sto 1 (.t 34) (.t 32)) :: []
def Qtq : List Item := .chk 27 none (.ld 1 false (.t 26)) :: fI 31 (.bsl 1 [.t 30]) :: eI 32 (.app 1 (.t 27) (.t 31)) :: Qtp
def Qakk : SC := (.dreg 13 [0, 1, 2, 3, 4, 5, 6, 7, 4, 8, 9, 10, 11, 12] ( mJ 23 3 :: mJ 24 3 :: kJ 25 24 :: fJ 26 4 25 :: lJ 27 26 :: tJ 28 3 1 :: mJ 29 4 :: aJ 30 Qfh [.t 28, .t 29] :: Qtq) [1, 3, 19, 20])
def Qakl : SC := (.reg ( cJ 35 .add 20 1 :: mJ 20 35 :: []) [1, 3, 19, 20])
def Qakm : SC := (.seq (.block 1 (.seq (.reg ( mJ 22 20 :: mJ 4 22 :: []) [1, 3, 4, 19, 20]) Qakk)) Qakl)
def Qaeu : SC := (.seq (.reg ( bJ 21 .lss 20 19 :: []) [1, 3, 19, 20, 21]) (.seq (.cond (.t 21) .skip (.exit 0)) Qakm))
def Qtr : List Item := mJ 7 47 :: []
def Qts : List Item := .e none none (.sto 2 (.t 9) (.t 58)) :: []
def Qaeg : SC := (.reg ( mJ 59 7 :: fJ 60 0 9 :: lJ 61 60 :: .e none none (.del 0 (.t 59) (.t 61)) :: []) [1, 3, 5, 6, 7, 53, 54, 55])
def Qaeh : SC := (.reg ( cJ 62 .add 55 1 :: mJ 55 62 :: []) [1, 3, 5, 6, 7, 53, 54, 55])
def Qaei : SC := (.seq (.block 7 (.seq (.reg ( iJ 57 2 53 55 :: tJ 58 2 57 :: eI 9 (.alloc [.int .i64 0, .sl true 1 []]) :: Qts) [1, 3, 5, 6, 7, 9, 53, 54, 55]) Qaeg)) Qaeh)
def Q71 : SC := (.seq (.reg ( bJ 56 .lss 55 54 :: []) [1, 3, 5, 6, 7, 53, 54, 55, 56]) (.seq (.cond (.t 56) .skip (.exit 6)) Qaei))
def Qpa : List Item := fI 5 (.mv (.k (.c (.bool true)))) :: []
def Qaej : SC := (.cond (.t 73) (.reg ( mJ 74 3 :: kJ 75 74 :: fJ 76 3 75 :: lJ 77 76 :: mJ 78 6 :: mJ 79 7 :: iJ 80 1 77 78 :: .e none none (.sto 1 (.t 80) (.t 79)) :: Qpa) [1, 3, 5, 6]) .skip)
def Qaek : SC := (.seq (.dreg 11 [0, 1, 2, 3, 4, 5, 6, 7, 8, 9, 10] ( mJ 63 7 :: fI 64 (.lenm (.t 63)) :: mJ 65 3 :: kJ 66 65 :: fJ 67 3 66 :: lJ 68 67 :: mJ 69 6 :: iJ 70 1 68 69 :: lJ 71 70 :: fI 72 (.lenm (.t 71)) :: bJ 73 .neq 64 72 :: []) [1, 3, 5, 6, 7, 73]) Qaej)
def Qael : SC := (.seq (.seq (.reg ( fJ 48 2 1 :: lJ 49 48 :: mJ 50 6 :: iJ 51 5 49 50 :: fJ 52 0 51 :: lJ 53 52 :: nJ 54 53 :: fI 55 (.mv (kI 0)) :: []) [1, 3, 5, 6, 7, 53, 54, 55]) (.block 6 (.loop Q71))) Qaek)
def Qaem : SC := (.reg ( mJ 43 6 :: cJ 44 .sub 43 1 :: mJ 6 44 :: []) [1, 3, 5, 6])
def Qaen : SC := (.seq (.block 5 (.seq (.reg ( mJ 45 3 :: mJ 46 6 :: aJ 47 Qbe [.t 45, .t 46, kI (-1)] :: Qtr) [1, 3, 5, 6, 7]) Qael)) Qaem)
def Q72 : SC := (.seq (.seq (.reg ( mJ 41 6 :: cJ 42 .geq 41 0 :: []) [1, 3, 5, 6, 42]) (.cond (.t 42) .skip (.exit 4))) Qaen)
def Qaeo : SC := (.seq (.reg ( fJ 37 2 1 :: lJ 38 37 :: nJ 39 38 :: cJ 40 .sub 39 1 :: mJ 6 40 :: []) [1, 3, 5, 6]) (.block 4 (.loop Q72)))
def Qaep : SC := (.block 3 (.seq (.reg ( fI 5 (.mv (.k (.c (.bool false)))) :: []) [1, 3, 5]) Qaeo))
def Q73 : SC := (.seq (.seq (.reg ( mJ 36 5 :: []) [1, 3, 36]) (.cond (.t 36) .skip (.exit 2))) Qaep)
def Qaeq : SC := (.seq (.reg ( mJ 81 3 :: mJ 2 81 :: []) [2]) .ret)
def Qaer : SC := (.seq (.seq (.reg ( fI 5 (.mv (.k (.c (.bool true)))) :: []) [1, 3, 5]) (.block 2 (.loop Q73))) Qaeq)
def Qaes : SC := (.seq (.seq (.reg ( fJ 17 2 1 :: lJ 18 17 :: nJ 19 18 :: fI 20 (.mv (kI 0)) :: []) [1, 3, 19, 20]) (.block 0 (.loop Qaeu))) Qaer)
def Qaet : SC := (.seq (.dreg 8 [0, 1, 2, 3, 4, 0, 5, 6, 7] ( tJ 10 3 1 :: fJ 11 2 1 :: lJ 12 11 :: nJ 13 12 :: eI 14 (.mks 1 [.mnil] (.t 13)) :: Qto) [1, 3]) Qaes)
def Qask : SC := (.seq (.reg ( fI 1 (.box (.t 0)) :: fI 2 (.mv (.k (.c .pnil))) :: []) [1]) Qaet)
def Q6j : List RS := [.tmp 2]
theorem Qarr : mFn prog Qex 1 82 Qask Q6j = true := by kernel_rfl
def Qgp : List Item := mJ 7 13 :: []
def Qgq : List Item := .e none none (.sto 5 (.t 8) (.t 21)) :: []
def Qw6 : SC := (.cond (.t 24) (.reg ( mJ 25 7 :: fJ 26 3 8 :: lJ 27 26 :: .e none none (.upd 0 (.t 25) (.t 27) (.k (.c (.bool true)))) :: []) [2, 7, 8]) .skip)
def Qgr : List Item := mJ 10 42 :: []
def Qw7 : SC := (.cond (.t 44) (.reg ( mJ 45 7 :: mJ 46 10 :: .e none none (.del 0 (.t 45) (.t 46)) :: []) [2, 7, 8, 9]) .skip)
def Qw8 : SC := (.seq (.reg ( mJ 43 10 :: cJ 44 .geq 43 0 :: []) [2, 7, 8, 9, 10, 44]) Qw7)
def Qw9 : SC := (.reg ( mJ 47 7 :: fJ 48 1 8 :: lJ 49 48 :: mJ 50 9 :: iJ 51 4 49 50 :: fJ 52 2 51 :: lJ 53 52 :: aJ 54 Qed [.t 47, .t 53] :: []) [2, 7, 8, 9])
def Qxa : SC := (.reg ( mJ 35 9 :: cJ 36 .sub 35 1 :: mJ 9 36 :: []) [2, 7, 8, 9])
def Qxb : SC := (.seq (.block 1 (.seq (.seq (.reg ( fJ 37 1 8 :: lJ 38 37 :: mJ 39 9 :: iJ 40 4 38 39 :: tJ 41 4 40 :: aJ 42 Qhb [.t 41] :: Qgr) [2, 7, 8, 9, 10]) Qw8) Qw9)) Qxa)
def Qvb : SC := (.seq (.seq (.reg ( mJ 32 9 :: mJ 33 2 :: bJ 34 .gtr 32 33 :: []) [2, 7, 8, 9, 34]) (.cond (.t 34) .skip (.exit 0))) Qxb)
def Qu6 : SC := (.seq (.reg ( mJ 55 7 :: mJ 6 55 :: []) [6]) .ret)
def Qu7 : SC := (.seq (.seq (.reg ( fJ 28 1 8 :: lJ 29 28 :: nJ 30 29 :: cJ 31 .sub 30 1 :: mJ 9 31 :: []) [2, 7, 8, 9]) (.block 0 (.loop Qvb))) Qu6)
def Qu8 : SC := (.seq (.seq (.reg ( fJ 22 2 8 :: lJ 23 22 :: aJ 24 Qey [.t 23] :: []) [2, 7, 8, 24]) Qw6) Qu7)
def Qu9 : SC := (.seq (.reg ( mJ 14 0 :: kJ 15 14 :: fJ 16 0 15 :: fJ 17 2 16 :: lJ 18 17 :: mJ 19 1 :: iJ 20 5 18 19 :: tJ 21 5 20 :: eI 8 (.alloc [.sl true 2 [], .sl true 4 [], .int .i64 0, .int .i64 0, .sl true 1 []]) :: Qgq) [2, 7, 8]) Qu8)
def Qva : SC := (.seq (.reg ( mJ 11 0 :: mJ 12 1 :: aJ 13 Qf5 [.t 11, .t 12] :: Qgp) [0, 1, 2, 7]) Qu9)
def Q3q : SC := (.seq (.reg ( fI 6 (.mv (.k (.c .mnil))) :: []) [0, 1, 2]) Qva)
def Qlp : List RS := [.tmp 6]
theorem Q2s : mFn prog Qbe 3 56 Q3q Qlp = true := by kernel_rfl
def Qgs : List Item := .e none none (.sto 4 (.t 7) (.t 19)) :: []
def Qc7 : List Item := .chk 29 (some (23, true)) (.ld 1 false (.t 28)) :: gT 30 23 (.lup 0 (.c (.bool false)) (.t 27) (.t 29)) :: gT 31 23 (.not (.t 30)) :: fI 32 (.pick (.t 23) (.t 31) (.k (.c (.bool false)))) :: mJ 6 32 :: []
def Qc8 : List Item := mJ 23 22 :: gTm 24 23 0 :: gTm 25 23 1 :: gTm 26 23 2 :: gTf 28 23 1 7 :: gTl 29 23 28 :: .e (some 27) (some (23, true)) (.call Qbe [.t 24, .t 25, .t 26]) :: Qc7
def Qxc : SC := (.seq (.dreg 14 [0, 1, 2, 3, 4, 5, 6, 8, 9, 7, 9, 10, 11, 12, 13] ( fJ 20 0 7 :: lJ 21 20 :: aJ 22 Qh2 [.t 21] :: Qc8) [6]) .ret)
def Qxd : SC := (.seq (.reg ( mJ 8 0 :: kJ 9 8 :: fJ 10 0 9 :: fJ 11 2 10 :: lJ 12 11 :: mJ 13 1 :: iJ 14 5 12 13 :: fJ 15 1 14 :: lJ 16 15 :: mJ 17 2 :: iJ 18 4 16 17 :: tJ 19 4 18 :: eI 7 (.alloc [.int .i64 0, .int .i64 0, .sl true 1 [], .int .i64 0]) :: Qgs) [0, 1, 2, 7]) Qxc)
def Q3r : SC := (.seq (.reg ( fI 6 (.mv (.k (.c (.bool false)))) :: []) [0, 1, 2]) Qxd)
def Qe5 : List RS := [.tmp 6]
theorem Q2t : mFn prog Qci 3 33 Q3r Qe5 = true := by kernel_rfl
def Qjw : List Item := mJ 5 12 :: []
def Qjx : List Item := nJ 23 22 :: fI 24 (.mv (kI 0)) :: []
def Qcl : List Item := fI 37 (.ext (.t 36) 0) :: []
def Qjy : List Item := fI 39 (.ext (.t 38) 0) :: mJ 8 39 :: []
def Q3s : SC := (.reg ( mJ 40 5 :: mJ 41 8 :: .e none none (.upd 0 (.t 40) (.t 41) (.k (.c (.bool true)))) :: []) [0, 1, 5, 7, 22, 23, 24, 35])
def Q3t : SC := (.block 3 (.seq (.reg ( eI 38 (.ent (.t 35)) :: Qjy) [0, 1, 5, 7, 8, 22, 23, 24, 35]) Q3s))
def Qzx : SC := (.seq (.reg ( eI 36 (.nxt (.t 35)) :: Qcl) [0, 1, 5, 7, 22, 23, 24, 35, 37]) (.seq (.cond (.t 37) .skip (.exit 2)) Q3t))
def Qjz : List Item := mJ 9 50 :: []
def Qj0 : List Item := .e none none (.sto 2 (.t 11) (.t 64)) :: []
def Q3u : SC := (.reg ( mJ 65 5 :: fJ 66 1 11 :: lJ 67 66 :: mJ 68 9 :: iJ 69 1 67 68 :: lJ 70 69 :: .e none none (.upd 0 (.t 65) (.t 70) (.k (.c (.bool true)))) :: []) [0, 1, 5, 9, 22, 23, 24, 59, 60, 61])
def Qzn : SC := (.reg ( cJ 71 .add 61 1 :: mJ 61 71 :: []) [0, 1, 5, 9, 22, 23, 24, 59, 60, 61])
def Qzo : SC := (.seq (.block 5 (.seq (.reg ( iJ 63 2 59 61 :: tJ 64 2 63 :: eI 11 (.alloc [.int .i64 0, .sl true 1 []]) :: Qj0) [0, 1, 5, 9, 11, 22, 23, 24, 59, 60, 61]) Q3u)) Qzn)
def Qxe : SC := (.seq (.reg ( bJ 62 .lss 61 60 :: []) [0, 1, 5, 9, 22, 23, 24, 59, 60, 61, 62]) (.seq (.cond (.t 62) .skip (.exit 4)) Qzo))
def Qzp : SC := (.seq (.reg ( mJ 51 0 :: kJ 52 51 :: fJ 53 0 52 :: fJ 54 2 53 :: lJ 55 54 :: mJ 56 7 :: iJ 57 5 55 56 :: fJ 58 0 57 :: lJ 59 58 :: nJ 60 59 :: fI 61 (.mv (kI 0)) :: []) [0, 1, 5, 9, 22, 23, 24, 59, 60, 61]) (.block 4 (.loop Qxe)))
def Qzq : SC := (.seq (.reg ( mJ 42 0 :: kJ 43 42 :: fJ 44 4 43 :: lJ 45 44 :: mJ 46 7 :: iJ 47 1 45 46 :: lJ 48 47 :: mJ 49 1 :: aJ 50 Qkq [.t 48, .t 49] :: Qjz) [0, 1, 5, 7, 9, 22, 23, 24]) Qzp)
def Qzr : SC := (.seq (.seq (.reg ( mJ 28 0 :: kJ 29 28 :: fJ 30 3 29 :: lJ 31 30 :: mJ 32 7 :: iJ 33 1 31 32 :: lJ 34 33 :: eI 35 (.rng (.t 34)) :: []) [0, 1, 5, 7, 22, 23, 24, 35]) (.block 2 (.loop Qzx))) Qzq)
def Qzs : SC := (.reg ( cJ 72 .add 24 1 :: mJ 24 72 :: []) [0, 1, 5, 22, 23, 24])
def Qzt : SC := (.seq (.block 1 (.seq (.reg ( iJ 26 1 22 24 :: lJ 27 26 :: mJ 7 27 :: []) [0, 1, 5, 7, 22, 23, 24]) Qzr)) Qzs)
def Qxf : SC := (.seq (.reg ( bJ 25 .lss 24 23 :: []) [0, 1, 5, 22, 23, 24, 25]) (.seq (.cond (.t 25) .skip (.exit 0)) Qzt))
def Qzu : SC := (.seq (.reg ( mJ 73 5 :: mJ 4 73 :: []) [4]) .ret)
def Qzv : SC := (.seq (.seq (.reg ( mJ 13 0 :: kJ 14 13 :: fJ 15 0 14 :: fJ 16 2 15 :: lJ 17 16 :: mJ 18 1 :: iJ 19 5 17 18 :: fJ 20 4 19 :: lJ 21 20 :: aJ 22 Qyb [.t 21] :: Qjx) [0, 1, 5, 22, 23, 24]) (.block 0 (.loop Qxf))) Qzu)
def Qzw : SC := (.seq (.reg ( eI 12 (.mkm) :: Qjw) [0, 1, 5]) Qzv)
def Qaev : SC := (.seq (.reg ( fI 4 (.mv (.k (.c .mnil))) :: []) [0, 1]) Qzw)
def Qs9 : List RS := [.tmp 4]
theorem Qadc : mFn prog Qf5 2 74 Qaev Qs9 = true := by kernel_rfl
def Qcp : List Item := .e none none (.sto 5 (.t 7) (.t 13)) :: []
def Qcq : List Item := mJ 5 19 :: []
def Qcr : List Item := fI 18 (.bsl 5 [.t 17]) :: eI 19 (.app 5 (.t 14) (.t 18)) :: Qcq
def Qik : SC := (.reg ( mJ 14 5 :: mJ 15 1 :: tJ 16 5 7 :: eI 17 (.callv (.t 15) [.t 16]) :: Qcr) [1, 5, 8, 9, 10])
def Qil : SC := (.reg ( cJ 20 .add 10 1 :: mJ 10 20 :: []) [1, 5, 8, 9, 10])
def Qim : SC := (.seq (.block 1 (.seq (.reg ( iJ 12 5 8 10 :: tJ 13 5 12 :: eI 7 (.alloc [.sl true 2 [], .sl true 4 [], .int .i64 0, .int .i64 0, .sl true 1 []]) :: Qcp) [1, 5, 7, 8, 9, 10]) Qik)) Qil)
def Qg9 : SC := (.seq (.reg ( bJ 11 .lss 10 9 :: []) [1, 5, 8, 9, 10, 11]) (.seq (.cond (.t 11) .skip (.exit 0)) Qim))
def Qin : SC := (.seq (.reg ( mJ 21 5 :: mJ 4 21 :: []) [4]) .ret)
def Qio : SC := (.seq (.seq (.reg ( mJ 8 0 :: nJ 9 8 :: fI 10 (.mv (kI 0)) :: []) [1, 5, 8, 9, 10]) (.block 0 (.loop Qg9))) Qin)
def Qip : SC := (.seq (.reg ( fI 5 (.mv (.k (.c (.sl true 5 [])))) :: []) [0, 1, 5]) Qio)
def Qk2 : SC := (.seq (.reg ( fI 4 (.mv (.k (.c (.sl true 5 [])))) :: []) [0, 1]) Qip)
def Qdv : List RS := [.tmp 4]
theorem Qks : mFn prog Qbv 2 22 Qk2 Qdv = true := by kernel_rfl
def Qdg : List Item := .e none none (.sto 3 (.t 7) (.t 13)) :: []
def Qdh : List Item := mJ 5 19 :: []
def Qdi : List Item := fI 18 (.bsl 3 [.t 17]) :: eI 19 (.app 3 (.t 14) (.t 18)) :: Qdh
def Qk3 : SC := (.reg ( mJ 14 5 :: mJ 15 1 :: tJ 16 3 7 :: eI 17 (.callv (.t 15) [.t 16]) :: Qdi) [1, 5, 8, 9, 10])
def Qk4 : SC := (.reg ( cJ 20 .add 10 1 :: mJ 10 20 :: []) [1, 5, 8, 9, 10])
def Qk5 : SC := (.seq (.block 1 (.seq (.reg ( iJ 12 3 8 10 :: tJ 13 3 12 :: eI 7 (.alloc [.int .i64 0, .int .i64 0, .sl true 5 []]) :: Qdg) [1, 5, 7, 8, 9, 10]) Qk3)) Qk4)
def Qj1 : SC := (.seq (.reg ( bJ 11 .lss 10 9 :: []) [1, 5, 8, 9, 10, 11]) (.seq (.cond (.t 11) .skip (.exit 0)) Qk5))
def Qk6 : SC := (.seq (.reg ( mJ 21 5 :: mJ 4 21 :: []) [4]) .ret)
def Qk7 : SC := (.seq (.seq (.reg ( mJ 8 0 :: nJ 9 8 :: fI 10 (.mv (kI 0)) :: []) [1, 5, 8, 9, 10]) (.block 0 (.loop Qj1))) Qk6)
def Qk8 : SC := (.seq (.reg ( fI 5 (.mv (.k (.c (.sl true 3 [])))) :: []) [0, 1, 5]) Qk7)
def Qpb : SC := (.seq (.reg ( fI 4 (.mv (.k (.c (.sl true 3 [])))) :: []) [0, 1]) Qk8)
def Qe0 : List RS := [.tmp 4]
theorem Qok : mFn prog Qb9 2 22 Qpb Qe0 = true := by kernel_rfl
def Qd1 : List Item := .e none none (.sto 4 (.t 7) (.t 13)) :: []
def Qd2 : List Item := mJ 5 19 :: []
def Qd3 : List Item := fI 18 (.bsl 4 [.t 17]) :: eI 19 (.app 4 (.t 14) (.t 18)) :: Qd2
def Qpc : SC := (.reg ( mJ 14 5 :: mJ 15 1 :: tJ 16 4 7 :: eI 17 (.callv (.t 15) [.t 16]) :: Qd3) [1, 5, 8, 9, 10])
def Qpd : SC := (.reg ( cJ 20 .add 10 1 :: mJ 10 20 :: []) [1, 5, 8, 9, 10])
def Qpe : SC := (.seq (.block 1 (.seq (.reg ( iJ 12 4 8 10 :: tJ 13 4 12 :: eI 7 (.alloc [.int .i64 0, .int .i64 0, .sl true 1 [], .int .i64 0]) :: Qd1) [1, 5, 7, 8, 9, 10]) Qpc)) Qpd)
def Qm6 : SC := (.seq (.reg ( bJ 11 .lss 10 9 :: []) [1, 5, 8, 9, 10, 11]) (.seq (.cond (.t 11) .skip (.exit 0)) Qpe))
def Qpf : SC := (.seq (.reg ( mJ 21 5 :: mJ 4 21 :: []) [4]) .ret)
def Qpg : SC := (.seq (.seq (.reg ( mJ 8 0 :: nJ 9 8 :: fI 10 (.mv (kI 0)) :: []) [1, 5, 8, 9, 10]) (.block 0 (.loop Qm6))) Qpf)
def Qph : SC := (.seq (.reg ( fI 5 (.mv (.k (.c (.sl true 4 [])))) :: []) [0, 1, 5]) Qpg)
def Qvc : SC := (.seq (.reg ( fI 4 (.mv (.k (.c (.sl true 4 [])))) :: []) [0, 1]) Qph)
def Qgg : List RS := [.tmp 4]
theorem Qur : mFn prog Qcs 2 22 Qvc Qgg = true := by kernel_rfl
def Qd4 : List Item := .e none none (.sto 2 (.t 7) (.t 13)) :: []
def Qd5 : List Item := mJ 5 19 :: []
def Qd6 : List Item := fI 18 (.bsl 2 [.t 17]) :: eI 19 (.app 2 (.t 14) (.t 18)) :: Qd5
def Qpi : SC := (.reg ( mJ 14 5 :: mJ 15 1 :: tJ 16 2 7 :: eI 17 (.callv (.t 15) [.t 16]) :: Qd6) [1, 5, 8, 9, 10])
def Qpj : SC := (.reg ( cJ 20 .add 10 1 :: mJ 10 20 :: []) [1, 5, 8, 9, 10])
def Qpk : SC := (.seq (.block 1 (.seq (.reg ( iJ 12 2 8 10 :: tJ 13 2 12 :: eI 7 (.alloc [.int .i64 0, .sl true 1 []]) :: Qd4) [1, 5, 7, 8, 9, 10]) Qpi)) Qpj)
def Qm7 : SC := (.seq (.reg ( bJ 11 .lss 10 9 :: []) [1, 5, 8, 9, 10, 11]) (.seq (.cond (.t 11) .skip (.exit 0)) Qpk))
def Qpl : SC := (.seq (.reg ( mJ 21 5 :: mJ 4 21 :: []) [4]) .ret)
def Qpm : SC := (.seq (.seq (.reg ( mJ 8 0 :: nJ 9 8 :: fI 10 (.mv (kI 0)) :: []) [1, 5, 8, 9, 10]) (.block 0 (.loop Qm7))) Qpl)
def Qpn : SC := (.seq (.reg ( fI 5 (.mv (.k (.c (.sl true 2 [])))) :: []) [0, 1, 5]) Qpm)
def Qvd : SC := (.seq (.reg ( fI 4 (.mv (.k (.c (.sl true 2 [])))) :: []) [0, 1]) Qpn)
def Qgh : List RS := [.tmp 4]
theorem Qus : mFn prog Qct 2 22 Qvd Qgh = true := by kernel_rfl
def Q3v : SC := (.cond (.t 8) (.seq (.reg ( fI 2 (.mv (kI 0)) :: []) [2]) .ret) .skip)
def Q3w : SC := (.cond (.t 6) (.seq (.reg ( fI 2 (.mv (kI 2)) :: []) [2]) .ret) (.seq (.reg ( cJ 9 .eql 3 3 :: mJ 8 9 :: []) [8]) Q3v))
def Q3x : SC := (.cond (.t 4) (.seq (.reg ( fI 2 (.mv (kI 1)) :: []) [2]) .ret) (.seq (.reg ( cJ 7 .eql 3 2 :: mJ 6 7 :: []) [3, 6]) Q3w))
def Q3y : SC := (.block 0 (.seq (.reg ( cJ 5 .eql 3 1 :: mJ 4 5 :: []) [3, 4]) Q3x))
def Q3z : SC := (.seq (.reg ( fI 2 (.mv (kI (-1))) :: []) [2]) .ret)
def Q30 : SC := (.seq (.seq (.reg ( mJ 3 0 :: []) [3]) Q3y) Q3z)
def Qaew : SC := (.seq (.reg ( fI 2 (.mv (kI 0)) :: []) [0]) Q30)
def Qic : List RS := [.tmp 2]
theorem Qadd : mFn prog Qf6 1 10 Qaew Qic = true := by kernel_rfl
def Qpo : List Item := fI 5 (.mv (.k (.c (.bool false)))) :: []
def Qpp : List Item := oJ 8 7 :: []
def Qpq : List Item := fI 5 (.mv (.k (.c (.bool false)))) :: []
def Qaex : SC := (.cond (.t 8) (.seq (.reg ( fI 9 (.bld [.sl true 3 []] []) :: .e none none (.sto 1 (.t 4) (.t 9)) :: Qpq) [4, 5]) .ret) .skip)
def Qpr : List Item := fI 5 (.mv (.k (.c (.bool true)))) :: []
def Qps : List Item := fI 14 (.bld [.sl true 3 []] [(0, 1, .t 13)]) :: .e none none (.sto 1 (.t 4) (.t 14)) :: Qpr
def Qaey : SC := (.seq (.reg ( fJ 10 0 2 :: lJ 11 10 :: mJ 12 1 :: aJ 13 Qb9 [.t 11, .t 12] :: Qps) [4, 5]) .ret)
def Qaez : SC := (.seq (.seq (.reg ( tJ 6 1 2 :: aJ 7 Qbg [.t 6] :: Qpp) [1, 2, 4, 8]) Qaex) Qaey)
def Qanx : SC := (.seq (.reg ( fI 2 (.box (.t 0)) :: eI 4 (.alloc [.sl true 3 []]) :: Qpo) [1, 2, 4]) Qaez)
def Qot : List RS := [.cell 4 1 true, .tmp 5]
theorem Qam1 : mFn prog Qki 2 15 Qanx Qot = true := by kernel_rfl
def Qxg : SC := (.reg ( mJ 13 0 :: mJ 14 6 :: .e none none (.upd 0 (.t 13) (.t 14) (.k (.c (.bool true)))) :: []) [0, 7, 8, 9])
def Qxh : SC := (.reg ( cJ 15 .add 9 1 :: mJ 9 15 :: []) [0, 7, 8, 9])
def Qxi : SC := (.seq (.block 1 (.seq (.reg ( iJ 11 1 7 9 :: lJ 12 11 :: mJ 6 12 :: []) [0, 6, 7, 8, 9]) Qxg)) Qxh)
def Qve : SC := (.seq (.reg ( bJ 10 .lss 9 8 :: []) [0, 7, 8, 9, 10]) (.seq (.cond (.t 10) .skip (.exit 0)) Qxi))
def Qxj : SC := (.seq (.reg ( mJ 16 0 :: mJ 4 16 :: []) [4]) .ret)
def Qxk : SC := (.seq (.seq (.reg ( mJ 7 1 :: nJ 8 7 :: fI 9 (.mv (kI 0)) :: []) [0, 7, 8, 9]) (.block 0 (.loop Qve))) Qxj)
def Q31 : SC := (.seq (.reg ( fI 4 (.mv (.k (.c .mnil))) :: []) [0, 1]) Qxk)
def Qlq : List RS := [.tmp 4]
theorem Q2u : mFn prog Qed 2 17 Q31 Qlq = true := by kernel_rfl
def Q0x : List Item := mJ 5 4 :: gTm 6 5 0 :: gT 7 5 (.bin 0 .neq (.t 6) (kI 12)) :: fI 8 (.pick (.t 5) (.t 7) (.k (.c (.bool false)))) :: mJ 9 8 :: gTm 10 9 0 :: gT 11 9 (.bin 0 .neq (.t 10) (kI 13)) :: fI 12 (.pick (.t 9) (.t 11) (.k (.c (.bool false)))) :: mJ 2 12 :: []
def Qaso : SC := (.seq (.reg ( mJ 3 0 :: aJ 4 Qkh [.t 3] :: Q0x) [2]) .ret)
def Qa34 : SC := (.seq (.reg ( fI 2 (.mv (.k (.c (.bool false)))) :: []) [0]) Qaso)
def Qani : List RS := [.tmp 2]
theorem Qa27 : mFn prog Qiu 1 13 Qa34 Qani = true := by kernel_rfl
def Qakn : SC := (.seq (.reg ( mJ 3 0 :: cJ 4 .eql 3 2 :: mJ 5 4 :: gFm 6 5 0 :: gF 7 5 (.bin 0 .eql (.t 6) (kI 3)) :: fI 8 (.pick (.t 5) (.k (.c (.bool true))) (.t 7)) :: mJ 2 8 :: []) [2]) .ret)
def Qasp : SC := (.seq (.reg ( fI 2 (.mv (.k (.c (.bool false)))) :: []) [0]) Qakn)
def Q6k : List RS := [.tmp 2]
theorem Qars : mFn prog Qey 1 9 Qasp Q6k = true := by kernel_rfl
def Qtt : List Item := mJ 9 20 :: []
def Qtu : List Item := .e none none (.sto 5 (.t 10) (.t 25)) :: []
def Qakp : SC := (.cond (.t 28) (.reg ( mJ 29 9 :: fJ 30 3 10 :: lJ 31 30 :: iJ 32 1 29 31 :: .e none none (.sto 1 (.t 32) (.k (.c (.bool true)))) :: []) [3, 9, 10]) .skip)
def Qtv : List Item := mJ 12 47 :: []
def Qakq : SC := (.cond (.t 49) (.reg ( mJ 50 9 :: mJ 51 12 :: iJ 52 1 50 51 :: .e none none (.sto 1 (.t 52) (.k (.c (.bool false)))) :: []) [3, 9, 10, 11]) .skip)
def Qakr : SC := (.reg ( mJ 62 13 :: cJ 63 .add 62 1 :: mJ 13 63 :: []) [3, 9, 10, 11, 13])
def Qaks : SC := (.seq (.block 3 (.reg ( mJ 64 9 :: fJ 65 1 10 :: lJ 66 65 :: mJ 67 11 :: iJ 68 4 66 67 :: fJ 69 2 68 :: lJ 70 69 :: mJ 71 13 :: iJ 72 1 70 71 :: lJ 73 72 :: iJ 74 1 64 73 :: .e none none (.sto 1 (.t 74) (.k (.c (.bool true)))) :: []) [3, 9, 10, 11, 13])) Qakr)
def Qae7 : SC := (.seq (.seq (.reg ( mJ 53 13 :: fJ 54 1 10 :: lJ 55 54 :: mJ 56 11 :: iJ 57 4 55 56 :: fJ 58 2 57 :: lJ 59 58 :: nJ 60 59 :: bJ 61 .lss 53 60 :: []) [3, 9, 10, 11, 13, 61]) (.cond (.t 61) .skip (.exit 2))) Qaks)
def Qakt : SC := (.seq (.reg ( fI 13 (.mv (kI 0)) :: []) [3, 9, 10, 11, 13]) (.block 2 (.loop Qae7)))
def Qaku : SC := (.seq (.seq (.reg ( mJ 48 12 :: cJ 49 .geq 48 0 :: []) [3, 9, 10, 11, 12, 49]) Qakq) Qakt)
def Qae0 : SC := (.reg ( mJ 40 11 :: cJ 41 .sub 40 1 :: mJ 11 41 :: []) [3, 9, 10, 11])
def Qae1 : SC := (.seq (.block 1 (.seq (.reg ( fJ 42 1 10 :: lJ 43 42 :: mJ 44 11 :: iJ 45 4 43 44 :: tJ 46 4 45 :: aJ 47 Qog [.t 46] :: Qtv) [3, 9, 10, 11, 12]) Qaku)) Qae0)
def Q75 : SC := (.seq (.seq (.reg ( mJ 37 11 :: mJ 38 3 :: bJ 39 .gtr 37 38 :: []) [3, 9, 10, 11, 39]) (.cond (.t 39) .skip (.exit 0))) Qae1)
def Qae2 : SC := (.seq (.reg ( mJ 75 9 :: mJ 8 75 :: []) [8]) .ret)
def Qae3 : SC := (.seq (.seq (.reg ( fJ 33 1 10 :: lJ 34 33 :: nJ 35 34 :: cJ 36 .sub 35 1 :: mJ 11 36 :: []) [3, 9, 10, 11]) (.block 0 (.loop Q75))) Qae2)
def Qae4 : SC := (.seq (.seq (.reg ( fJ 26 2 10 :: lJ 27 26 :: cJ 28 .neq 27 1 :: []) [3, 9, 10, 28]) Qakp) Qae3)
def Qae5 : SC := (.seq (.reg ( fJ 21 2 4 :: lJ 22 21 :: mJ 23 2 :: iJ 24 5 22 23 :: tJ 25 5 24 :: eI 10 (.alloc [.sl true 2 [], .sl true 4 [], .int .i64 0, .int .i64 0, .sl true 1 []]) :: Qtu) [3, 9, 10]) Qae4)
def Qae6 : SC := (.seq (.reg ( fI 14 (.bsl 1 []) :: fJ 15 1 5 :: lJ 16 15 :: mJ 17 2 :: iJ 18 1 16 17 :: lJ 19 18 :: eI 20 (.app 1 (.t 14) (.t 19)) :: Qtt) [2, 3, 4, 9]) Qae5)
def Qasy : SC := (.seq (.reg ( fI 4 (.box (.t 0)) :: fI 5 (.box (.t 1)) :: fI 8 (.mv (.k (.c (.sl true 1 [])))) :: []) [2, 3, 4, 5]) Qae6)
def Q6n : List RS := [.tmp 8]
theorem Qaru : mFn prog Qhc 4 76 Qasy Q6n = true := by kernel_rfl
def Q06 : List Item := mJ 9 20 :: []
def Q07 : List Item := mJ 10 25 :: []
def Q08 : List Item := mJ 24 2 :: aJ 25 Qaiw [.t 23, .t 24] :: Q07
def Qasz : SC := (.reg ( mJ 35 11 :: cJ 36 .add 35 1 :: mJ 11 36 :: []) [2, 3, 4, 5, 9, 10, 11])
def Qas0 : SC := (.seq (.block 1 (.reg ( mJ 37 9 :: fJ 38 2 4 :: lJ 39 38 :: mJ 40 3 :: iJ 41 5 39 40 :: fJ 42 0 41 :: lJ 43 42 :: mJ 44 11 :: iJ 45 2 43 44 :: fJ 46 1 45 :: lJ 47 46 :: mJ 48 10 :: iJ 49 1 47 48 :: lJ 50 49 :: iJ 51 1 37 50 :: .e none none (.sto 1 (.t 51) (.k (.c (.bool true)))) :: []) [2, 3, 4, 5, 9, 10, 11])) Qasz)
def Qan4 : SC := (.seq (.seq (.reg ( mJ 26 11 :: fJ 27 2 4 :: lJ 28 27 :: mJ 29 3 :: iJ 30 5 28 29 :: fJ 31 0 30 :: lJ 32 31 :: nJ 33 32 :: bJ 34 .lss 26 33 :: []) [2, 3, 4, 5, 9, 10, 11, 34]) (.cond (.t 34) .skip (.exit 0))) Qas0)
def Q76 : SC := (.reg ( fJ 74 1 5 :: lJ 75 74 :: mJ 76 2 :: iJ 77 1 75 76 :: lJ 78 77 :: mJ 79 13 :: iJ 80 1 78 79 :: .e none none (.sto 1 (.t 80) (.k (.c (.bool true)))) :: []) [2, 4, 5, 9, 12, 13])
def Qas1 : SC := (.cond (.t 61) (.seq (.reg ( mJ 62 12 :: mJ 63 62 :: gFf 64 63 1 5 :: gFl 65 63 64 :: gFm 66 63 2 :: gF 67 63 (.iad 1 (.t 65) (.t 66)) :: gFl 68 63 67 :: gFm 69 63 13 :: gF 70 63 (.iad 1 (.t 68) (.t 69)) :: gFl 71 63 70 :: gF 72 63 (.not (.t 71)) :: fI 73 (.pick (.t 63) (.k (.c (.bool true))) (.t 72)) :: mJ 12 73 :: []) [2, 4, 5, 9, 12, 13]) Q76) .skip)
def Qas2 : SC := (.reg ( mJ 56 13 :: cJ 57 .add 56 1 :: mJ 13 57 :: []) [2, 4, 5, 9, 12, 13])
def Qas3 : SC := (.seq (.block 3 (.seq (.reg ( mJ 58 9 :: mJ 59 13 :: iJ 60 1 58 59 :: lJ 61 60 :: []) [2, 4, 5, 9, 12, 13, 61]) Qas1)) Qas2)
def Qakv : SC := (.seq (.seq (.reg ( mJ 52 13 :: fJ 53 1 4 :: lJ 54 53 :: bJ 55 .lss 52 54 :: []) [2, 4, 5, 9, 12, 13, 55]) (.cond (.t 55) .skip (.exit 2))) Qas3)
def Qany : SC := (.seq (.reg ( mJ 81 12 :: mJ 8 81 :: []) [8]) .ret)
def Qanz : SC := (.seq (.seq (.reg ( fI 13 (.mv (kI 0)) :: []) [2, 4, 5, 9, 12, 13]) (.block 2 (.loop Qakv))) Qany)
def Qan0 : SC := (.seq (.reg ( fI 12 (.mv (.k (.c (.bool false)))) :: []) [2, 4, 5, 9, 12]) Qanz)
def Qan1 : SC := (.seq (.seq (.reg ( fI 11 (.mv (kI 0)) :: []) [2, 3, 4, 5, 9, 10, 11]) (.block 0 (.loop Qan4))) Qan0)
def Qan2 : SC := (.seq (.reg ( tJ 21 3 4 :: mJ 22 3 :: aJ 23 Qix [.t 21, .t 22] :: Q08) [2, 3, 4, 5, 9, 10]) Qan1)
def Qan3 : SC := (.seq (.reg ( fI 14 (.bsl 1 []) :: fJ 15 0 5 :: lJ 16 15 :: mJ 17 3 :: iJ 18 1 16 17 :: lJ 19 18 :: eI 20 (.app 1 (.t 14) (.t 19)) :: Q06) [2, 3, 4, 5, 9]) Qan2)
def Qa4c : SC := (.seq (.reg ( fI 4 (.box (.t 0)) :: fI 5 (.box (.t 1)) :: fI 8 (.mv (.k (.c (.bool false)))) :: []) [2, 3, 4, 5]) Qan3)
def Qanj : List RS := [.tmp 8]
theorem Qa3a : mFn prog Qye 4 82 Qa4c Qanj = true := by kernel_rfl
def Q09 : List Item := .e none none (.sto 4 (.t 9) (.t 30)) :: []
def Qpt : List Item := .chk 41 (some (34, true)) (.ld 1 false (.t 40)) :: gT 42 34 (.iad 1 (.t 39) (.t 41)) :: gTl 43 34 42 :: gT 44 34 (.not (.t 43)) :: fI 45 (.pick (.t 34) (.t 44) (.k (.c (.bool false)))) :: []
def Qpu : List Item := mJ 34 33 :: gT 35 34 (.ld 3 true (.t 3)) :: gT 36 34 (.ld 2 true (.t 4)) :: gTm 37 34 2 :: gTm 38 34 8 :: gTf 40 34 1 9 :: gTl 41 34 40 :: .e (some 39) (some (34, true)) (.call Qhc [.t 35, .t 36, .t 37, .t 38]) :: Qpt
def Q1a : List Item := mJ 7 49 :: []
def Qas4 : SC := (.cond (.t 45) (.reg ( mJ 46 7 :: mJ 47 8 :: fI 48 (.bsl 1 [.t 47]) :: eI 49 (.app 1 (.t 46) (.t 48)) :: Q1a) [2, 3, 4, 7, 8]) .skip)
def Qas5 : SC := (.seq (.dreg 15 [0, 1, 2, 3, 4, 5, 6, 7, 9, 10, 8, 10, 11, 12, 13, 14] ( fJ 31 0 9 :: lJ 32 31 :: aJ 33 Qup [.t 32] :: Qpu) [2, 3, 4, 7, 8, 45]) Qas4)
def Qas6 : SC := (.reg ( mJ 20 8 :: cJ 21 .add 20 1 :: mJ 8 21 :: []) [2, 3, 4, 7, 8])
def Qas7 : SC := (.seq (.block 1 (.seq (.reg ( fJ 22 2 3 :: lJ 23 22 :: mJ 24 2 :: iJ 25 5 23 24 :: fJ 26 1 25 :: lJ 27 26 :: mJ 28 8 :: iJ 29 4 27 28 :: tJ 30 4 29 :: eI 9 (.alloc [.int .i64 0, .int .i64 0, .sl true 1 [], .int .i64 0]) :: Q09) [2, 3, 4, 7, 8, 9]) Qas5)) Qas6)
def Qan7 : SC := (.seq (.seq (.reg ( mJ 11 8 :: fJ 12 2 3 :: lJ 13 12 :: mJ 14 2 :: iJ 15 5 13 14 :: fJ 16 1 15 :: lJ 17 16 :: nJ 18 17 :: bJ 19 .lss 11 18 :: []) [2, 3, 4, 7, 8, 19]) (.cond (.t 19) .skip (.exit 0))) Qas7)
def Qas8 : SC := (.seq (.reg ( mJ 50 7 :: mJ 6 50 :: []) [6]) .ret)
def Qan5 : SC := (.seq (.seq (.reg ( fI 8 (.mv (kI 0)) :: []) [2, 3, 4, 7, 8]) (.block 0 (.loop Qan7))) Qas8)
def Qan6 : SC := (.seq (.reg ( fI 10 (.bsl 1 []) :: mJ 7 10 :: []) [2, 3, 4, 7]) Qan5)
def Qa4d : SC := (.seq (.reg ( fI 3 (.box (.t 0)) :: fI 4 (.box (.t 1)) :: fI 6 (.mv (.k (.c (.sl true 1 [])))) :: []) [2, 3, 4]) Qan6)
def Qank : List RS := [.tmp 6]
theorem Qa3b : mFn prog Qyf 3 51 Qa4d Qank = true := by kernel_rfl
def Q1b : List Item := .e none none (.sto 2 (.t 3) (.t 12)) :: []
def Q1c : List Item := fJ 28 0 3 :: .e none none (.sto 1 (.t 28) (.t 27)) :: []
def Q1d : List Item := .chk 22 none (.ld 1 false (.t 21)) :: fI 26 (.bsl 1 [.t 25]) :: eI 27 (.app 1 (.t 22) (.t 26)) :: Q1c
def Q1e : List Item := fJ 36 1 3 :: .e none none (.sto 1 (.t 36) (.t 35)) :: []
def Q1f : List Item := .chk 30 none (.ld 1 false (.t 29)) :: fI 34 (.bsl 1 [.t 33]) :: eI 35 (.app 1 (.t 30) (.t 34)) :: Q1e
def Qas9 : SC := (.dreg 9 [0, 1, 2, 3, 4, 1, 5, 6, 7, 8] ( fJ 29 1 3 :: lJ 30 29 :: fJ 31 1 1 :: lJ 32 31 :: eI 33 (.mks 1 [.bool false] (.t 32)) :: Q1f) [1, 2, 3, 4, 5])
def Qata : SC := (.reg ( mJ 19 5 :: cJ 20 .add 19 1 :: mJ 5 20 :: []) [1, 2, 3, 4, 5])
def Qatb : SC := (.seq (.block 1 (.seq (.dreg 9 [0, 1, 2, 3, 4, 1, 5, 6, 7, 8] ( fJ 21 0 3 :: lJ 22 21 :: fJ 23 1 1 :: lJ 24 23 :: eI 25 (.mks 1 [.bool false] (.t 24)) :: Q1d) [1, 2, 3, 4, 5]) Qas9)) Qata)
def Qaor : SC := (.seq (.seq (.reg ( mJ 16 5 :: mJ 17 4 :: bJ 18 .lss 16 17 :: []) [1, 2, 3, 4, 5, 18]) (.cond (.t 18) .skip (.exit 0))) Qatb)
def Qpv : List Item := mJ 68 67 :: gFm 69 68 6 :: fI 70 (.pick (.t 68) (.k (.c (.bool true))) (.t 69)) :: mJ 6 70 :: []
def Qan8 : SC := (.reg ( mJ 53 8 :: cJ 54 .add 53 1 :: mJ 8 54 :: []) [1, 2, 3, 4, 6, 7, 8])
def Qan9 : SC := (.seq (.block 7 (.dreg 17 [0, 1, 2, 3, 4, 5, 6, 7, 8, 9, 10, 11, 12, 13, 14, 15, 16] ( tJ 55 3 1 :: tJ 56 2 3 :: mJ 57 7 :: fJ 58 2 1 :: lJ 59 58 :: mJ 60 7 :: iJ 61 5 59 60 :: fJ 62 4 61 :: lJ 63 62 :: mJ 64 8 :: iJ 65 1 63 64 :: lJ 66 65 :: aJ 67 Qye [.t 55, .t 56, .t 57, .t 66] :: Qpv) [1, 2, 3, 4, 6, 7, 8])) Qan8)
def Qakw : SC := (.seq (.seq (.reg ( mJ 44 8 :: fJ 45 2 1 :: lJ 46 45 :: mJ 47 7 :: iJ 48 5 46 47 :: fJ 49 4 48 :: lJ 50 49 :: nJ 51 50 :: bJ 52 .lss 44 51 :: []) [1, 2, 3, 4, 6, 7, 8, 52]) (.cond (.t 52) .skip (.exit 6))) Qan9)
def Qxl : List Item := mJ 9 74 :: []
def Qaoa : SC := (.reg ( mJ 84 10 :: cJ 85 .add 84 1 :: mJ 10 85 :: []) [1, 2, 3, 4, 6, 7, 9, 10])
def Qaob : SC := (.seq (.block 9 (.reg ( mJ 86 9 :: fJ 87 2 1 :: lJ 88 87 :: mJ 89 7 :: iJ 90 5 88 89 :: fJ 91 0 90 :: lJ 92 91 :: mJ 93 10 :: iJ 94 2 92 93 :: fJ 95 0 94 :: lJ 96 95 :: iJ 97 1 86 96 :: .e none none (.sto 1 (.t 97) (.k (.c (.bool false)))) :: []) [1, 2, 3, 4, 6, 7, 9, 10])) Qaoa)
def Qakx : SC := (.seq (.seq (.reg ( mJ 75 10 :: fJ 76 2 1 :: lJ 77 76 :: mJ 78 7 :: iJ 79 5 77 78 :: fJ 80 0 79 :: lJ 81 80 :: nJ 82 81 :: bJ 83 .lss 75 82 :: []) [1, 2, 3, 4, 6, 7, 9, 10, 83]) (.cond (.t 83) .skip (.exit 8))) Qaob)
def Qaoc : SC := (.reg ( mJ 102 11 :: cJ 103 .add 102 1 :: mJ 11 103 :: []) [1, 2, 3, 4, 6, 7, 9, 11])
def Qaod : SC := (.seq (.block 11 (.dreg 17 [0, 1, 2, 3, 4, 5, 6, 7, 8, 9, 10, 11, 12, 13, 14, 15, 16] ( mJ 104 6 :: mJ 105 104 :: gFm 106 105 9 :: gFm 107 105 11 :: gF 108 105 (.iad 1 (.t 106) (.t 107)) :: gFl 109 105 108 :: gFf 110 105 0 3 :: gFl 111 105 110 :: gFm 112 105 7 :: gF 113 105 (.iad 1 (.t 111) (.t 112)) :: gFl 114 105 113 :: gFm 115 105 11 :: gF 116 105 (.iad 1 (.t 114) (.t 115)) :: gFl 117 105 116 :: gF 118 105 (.bin 1 .neq (.t 109) (.t 117)) :: fI 119 (.pick (.t 105) (.k (.c (.bool true))) (.t 118)) :: mJ 6 119 :: []) [1, 2, 3, 4, 6, 7, 9, 11])) Qaoc)
def Qaky : SC := (.seq (.seq (.reg ( mJ 98 11 :: fJ 99 1 1 :: lJ 100 99 :: bJ 101 .lss 98 100 :: []) [1, 2, 3, 4, 6, 7, 9, 11, 101]) (.cond (.t 101) .skip (.exit 10))) Qaod)
def Qaoe : SC := (.reg ( fJ 120 0 3 :: lJ 121 120 :: mJ 122 7 :: mJ 123 9 :: iJ 124 1 121 122 :: .e none none (.sto 1 (.t 124) (.t 123)) :: []) [1, 2, 3, 4, 6, 7])
def Qaof : SC := (.seq (.seq (.reg ( fI 11 (.mv (kI 0)) :: []) [1, 2, 3, 4, 6, 7, 9, 11]) (.block 10 (.loop Qaky))) Qaoe)
def Qaog : SC := (.seq (.seq (.reg ( fI 10 (.mv (kI 0)) :: []) [1, 2, 3, 4, 6, 7, 9, 10]) (.block 8 (.loop Qakx))) Qaof)
def Qaoh : SC := (.seq (.reg ( tJ 71 3 1 :: tJ 72 2 3 :: mJ 73 7 :: aJ 74 Qhc [.t 71, .t 72, .t 73, kI (-1)] :: Qxl) [1, 2, 3, 4, 6, 7, 9]) Qaog)
def Qaoi : SC := (.reg ( mJ 42 7 :: cJ 43 .sub 42 1 :: mJ 7 43 :: []) [1, 2, 3, 4, 6, 7])
def Qaoj : SC := (.seq (.block 5 (.seq (.seq (.reg ( fI 8 (.mv (kI 0)) :: []) [1, 2, 3, 4, 6, 7, 8]) (.block 6 (.loop Qakw))) Qaoh)) Qaoi)
def Qakz : SC := (.seq (.seq (.reg ( mJ 40 7 :: cJ 41 .geq 40 0 :: []) [1, 2, 3, 4, 6, 7, 41]) (.cond (.t 41) .skip (.exit 4))) Qaoj)
def Qaok : SC := (.seq (.reg ( mJ 38 4 :: cJ 39 .sub 38 1 :: mJ 7 39 :: []) [1, 2, 3, 4, 6, 7]) (.block 4 (.loop Qakz)))
def Qaol : SC := (.block 3 (.seq (.reg ( fI 6 (.mv (.k (.c (.bool false)))) :: []) [1, 2, 3, 4, 6]) Qaok))
def Qak0 : SC := (.seq (.seq (.reg ( mJ 37 6 :: []) [1, 2, 3, 4, 37]) (.cond (.t 37) .skip (.exit 2))) Qaol)
def Qaom : SC := (.seq (.reg ( tJ 125 2 3 :: .e none none (.sto 2 (.t 2) (.t 125)) :: []) [2]) .ret)
def Qaon : SC := (.seq (.seq (.reg ( fI 6 (.mv (.k (.c (.bool true)))) :: []) [1, 2, 3, 4, 6]) (.block 2 (.loop Qak0))) Qaom)
def Qaoo : SC := (.seq (.seq (.reg ( fI 5 (.mv (kI 0)) :: []) [1, 2, 3, 4, 5]) (.block 0 (.loop Qaor))) Qaon)
def Qaop : SC := (.seq (.reg ( fJ 13 2 1 :: lJ 14 13 :: nJ 15 14 :: mJ 4 15 :: []) [1, 2, 3, 4]) Qaoo)
def Qaoq : SC := (.seq (.reg ( fI 12 (.bld [.sl true 1 [], .sl true 1 []] []) :: eI 3 (.alloc [.sl true 1 [], .sl true 1 []]) :: Q1b) [1, 2, 3]) Qaop)
def Qa4e : SC := (.seq (.reg ( fI 1 (.box (.t 0)) :: eI 2 (.alloc [.sl true 1 [], .sl true 1 []]) :: []) [1, 2]) Qaoq)
def Qanl : List RS := [.cell 2 2 true]
theorem Qa3c : mFn prog Qyg 1 126 Qa4e Qanl = true := by kernel_rfl
def Qxm : List Item := mJ 5 4 :: gTm 6 5 0 :: gT 7 5 (.bin 0 .neq (.t 6) (kI 6)) :: fI 8 (.pick (.t 5) (.t 7) (.k (.c (.bool false)))) :: mJ 9 8 :: gTm 10 9 0 :: gT 11 9 (.bin 0 .neq (.t 10) (kI 7)) :: fI 12 (.pick (.t 9) (.t 11) (.k (.c (.bool false)))) :: mJ 2 12 :: []
def Qaos : SC := (.seq (.reg ( mJ 3 0 :: aJ 4 Q5u [.t 3] :: Qxm) [2]) .ret)
def Qazw : SC := (.seq (.reg ( fI 2 (.mv (.k (.c (.bool false)))) :: []) [0]) Qaos)
def Qah4 : List RS := [.tmp 2]
theorem Qazd : mFn prog Qup 1 13 Qazw Qah4 = true := by kernel_rfl
def Qaa2 : List Item := mJ 2 4 :: []
def Qa1d : SC := (.seq (.reg ( mJ 3 0 :: aJ 4 Qbk [.t 3, kI 1, kI 10] :: Qaa2) [2]) .ret)
def Qa8i : SC := (.seq (.reg ( fI 2 (.mv (.k (.c (.bool false)))) :: []) [0]) Qa1d)
def Qax8 : List RS := [.tmp 2]
theorem Qa7l : mFn prog Q5u 1 5 Qa8i Qax8 = true := by kernel_rfl
def Qals : SC := (.cond (.t 13) (.seq (.reg ( fI 2 (.mv (.k (.c (.bool true)))) :: []) [2]) .ret) .skip)
def Qt9 : List Item := .e none none (.sto 1 (.t 3) (.t 15)) :: []
def Qua : List Item := eI 3 (.alloc [.sl true 3 []]) :: Qt9
def Qub : List Item := mJ 4 17 :: []
def Quc : List Item := mJ 5 19 :: []
def Qalt : SC := (.cond (.t 24) (.seq (.reg ( fI 2 (.mv (.k (.c (.bool false)))) :: []) [2]) .ret) .skip)
def Qud : List Item := oJ 38 37 :: []
def Qalu : SC := (.cond (.t 38) (.seq (.reg ( fI 2 (.mv (.k (.c (.bool false)))) :: []) [2]) .ret) .skip)
def Que : List Item := .chk 40 none (.ld 1 false (.t 39)) :: .chk 42 none (.iad 1 (.t 41) (kI 0)) :: .chk 43 none (.ld 1 false (.t 42)) :: .chk 44 none (.iad 3 (.t 40) (.t 43)) :: .chk 46 none (.ld 1 false (.t 45)) :: .chk 48 none (.iad 1 (.t 47) (kI 1)) :: .chk 49 none (.ld 1 false (.t 48)) :: .chk 50 none (.iad 5 (.t 46) (.t 49)) :: .chk 52 none (.ld 1 false (.t 51)) :: .chk 54 none (.iad 1 (.t 53) (kI 2)) :: .chk 55 none (.ld 1 false (.t 54)) :: .chk 56 none (.iad 4 (.t 52) (.t 55)) :: .chk 57 none (.ld 4 true (.t 56)) :: .e none none (.sto 4 (.t 8) (.t 57)) :: []
def Quf : List Item := mJ 72 71 :: gFf 73 72 0 8 :: gFl 74 72 73 :: gF 75 72 (.bin 0 .eql (.t 74) (kI 6)) :: fI 76 (.pick (.t 72) (.k (.c (.bool true))) (.t 75)) :: mJ 77 76 :: gFf 78 77 0 8 :: gFl 79 77 78 :: gF 80 77 (.bin 0 .eql (.t 79) (kI 7)) :: fI 81 (.pick (.t 77) (.k (.c (.bool true))) (.t 80)) :: mJ 82 81 :: gFf 83 82 0 8 :: gFl 84 82 83 :: gF 85 82 (.bin 0 .geq (.t 84) (kI 11)) :: fI 86 (.pick (.t 82) (.k (.c (.bool true))) (.t 85)) :: []
def Qq8 : List Item := aJ 71 Quq [.t 68, .t 70] :: Quf
def Qq9 : List Item := .chk 69 none (.ld 4 true (.t 8)) :: aJ 70 Qhb [.t 69] :: Qq8
def Qagj : SC := (.cond (.t 86) (.seq (.reg ( fI 2 (.mv (.k (.c (.bool false)))) :: []) [2]) .ret) .skip)
def Qagk : SC := (.seq (.dreg 29 [0, 1, 2, 3, 4, 5, 6, 7, 8, 9, 11, 10, 11, 12, 13, 14, 15, 16, 17, 18, 19, 20, 21, 22, 23, 24, 25, 26, 27, 28] ( tJ 58 1 3 :: mJ 59 7 :: fI 60 (.iad 1 (.t 59) (kI 0)) :: lJ 61 60 :: mJ 62 7 :: fI 63 (.iad 1 (.t 62) (kI 1)) :: lJ 64 63 :: mJ 65 7 :: fI 66 (.iad 1 (.t 65) (kI 2)) :: lJ 67 66 :: tJ 69 4 8 :: aJ 68 Qe4 [.t 58, .t 61, .t 64, .t 67] :: Qq9) [3, 4, 5, 25, 26, 27, 86]) Qagj)
def Qagl : SC := (.seq (.dreg 21 [0, 1, 2, 3, 4, 5, 6, 7, 8, 9, 10, 11, 12, 13, 14, 15, 16, 17, 18, 19, 1, 3, 4, 5, 7, 9, 10, 11, 13, 15, 16, 17, 18, 20] ( fJ 39 0 3 :: lJ 40 39 :: mJ 41 7 :: fI 42 (.iad 1 (.t 41) (kI 0)) :: lJ 43 42 :: iJ 44 3 40 43 :: fJ 45 2 44 :: lJ 46 45 :: mJ 47 7 :: fI 48 (.iad 1 (.t 47) (kI 1)) :: lJ 49 48 :: iJ 50 5 46 49 :: fJ 51 1 50 :: lJ 52 51 :: mJ 53 7 :: fI 54 (.iad 1 (.t 53) (kI 2)) :: lJ 55 54 :: iJ 56 4 52 55 :: tJ 57 4 56 :: eI 8 (.alloc [.int .i64 0, .int .i64 0, .sl true 1 [], .int .i64 0]) :: Que) [3, 4, 5, 7, 8, 25, 26, 27]) Qagk)
def Qagm : SC := (.seq (.seq (.reg ( mJ 32 7 :: mJ 33 5 :: mJ 34 6 :: iJ 35 1 33 34 :: lJ 36 35 :: aJ 37 Qoe [.t 32, .t 36] :: Qud) [3, 4, 5, 7, 25, 26, 27, 38]) Qalu) Qagl)
def Qagn : SC := (.reg ( cJ 87 .add 27 1 :: mJ 27 87 :: []) [3, 4, 5, 25, 26, 27])
def Qago : SC := (.seq (.block 1 (.seq (.reg ( mJ 29 27 :: iJ 30 1 25 27 :: lJ 31 30 :: mJ 6 29 :: mJ 7 31 :: []) [3, 4, 5, 6, 7, 25, 26, 27]) Qagm)) Qagn)
def Qacd : SC := (.seq (.reg ( bJ 28 .lss 27 26 :: []) [3, 4, 5, 25, 26, 27, 28]) (.seq (.cond (.t 28) .skip (.exit 0)) Qago))
def Qra : List Item := mJ 10 92 :: []
def Qrb : List Item := .e none none (.sto 1 (.t 9) (.t 91)) :: Qra
def Qrc : List Item := mJ 88 90 :: fI 91 (.ext (.t 88) 0) :: fI 92 (.ext (.t 88) 1) :: eI 9 (.alloc [.sl true 3 []]) :: Qrb
def Qgv : List Item := .chk 106 (some (100, false)) (.len (.t 105)) :: gF 107 100 (.bin 0 .sub (.t 104) (.t 106)) :: gF 108 100 (.bin 0 .leq (.t 102) (.t 107)) :: gT 109 97 (.pick (.t 100) (.k (.c (.bool true))) (.t 108)) :: fI 110 (.pick (.t 97) (.t 109) (.k (.c (.bool false)))) :: mJ 2 110 :: []
def Qgw : List Item := .chk 103 (some (100, false)) (.ld 1 true (.t 3)) :: .chk 106 (some (100, false)) (.len (.t 105)) :: .e (some 104) (some (100, false)) (.call Qeq [.t 103]) :: Qgv
def Qgx : List Item := fI 96 (.bin 1 .eql (.t 93) (.t 95)) :: mJ 97 96 :: gTm 98 97 10 :: gT 99 97 (.not (.t 98)) :: gTm 100 97 99 :: gF 101 100 (.ld 1 true (.t 9)) :: gF 103 100 (.ld 1 true (.t 3)) :: gFm 105 100 4 :: gF 106 100 (.len (.t 105)) :: .e (some 102) (some (100, false)) (.call Qeq [.t 101]) :: Qgw
def Qagp : SC := (.seq (.dreg 19 [0, 1, 2, 3, 4, 5, 6, 7, 8, 10, 12, 13, 9, 10, 13, 11, 13, 14, 15, 16, 17, 18] ( mJ 93 10 :: tJ 94 1 3 :: aJ 95 Qbg [.t 94] :: Qgx) [2]) .ret)
def Qagq : SC := (.seq (.reg ( tJ 89 1 3 :: aJ 90 Qh1 [.t 89] :: Qrc) [3, 4, 9, 10]) Qagp)
def Qagr : SC := (.seq (.seq (.reg ( mJ 25 4 :: nJ 26 25 :: fI 27 (.mv (kI 0)) :: []) [3, 4, 5, 25, 26, 27]) (.block 0 (.loop Qacd))) Qagq)
def Qags : SC := (.seq (.seq (.reg ( mJ 20 4 :: nJ 21 20 :: mJ 22 5 :: nJ 23 22 :: bJ 24 .neq 21 23 :: []) [3, 4, 5, 24]) Qalt) Qagr)
def Qagt : SC := (.seq (.reg ( tJ 18 1 3 :: aJ 19 Qkr [.t 18] :: Quc) [3, 4, 5]) Qags)
def Qagu : SC := (.seq (.reg ( tJ 16 1 3 :: aJ 17 Qkf [.t 16] :: Qub) [3, 4]) Qagt)
def Qagv : SC := (.seq (.reg ( mJ 14 0 :: aJ 15 Qef [.t 14] :: Qua) [3]) Qagu)
def Qagw : SC := (.seq (.seq (.reg ( mJ 11 0 :: nJ 12 11 :: cJ 13 .gtr 12 1048576 :: []) [0, 13]) Qals) Qagv)
def Qaw0 : SC := (.seq (.reg ( fI 2 (.mv (.k (.c (.bool false)))) :: []) [0]) Qagw)
def Qu1 : List RS := [.tmp 2]
theorem Qar0 : mFn prog Q0k 1 111 Qaw0 Qu1 = true := by kernel_rfl
def Qdj : List Item := cJ 8 .geq 7 0 :: mJ 4 8 :: []
def Qle : SC := (.seq (.reg ( mJ 5 0 :: mJ 6 1 :: aJ 7 Qc4 [.t 5, .t 6] :: Qdj) [4]) .ret)
def Qrd : SC := (.seq (.reg ( fI 4 (.mv (.k (.c (.bool false)))) :: []) [0, 1]) Qle)
def Qe1 : List RS := [.tmp 4]
theorem Qol : mFn prog Qca 2 9 Qrd Qe1 = true := by kernel_rfl
def Qd7 : List Item := mJ 5 10 :: []
def Qre : SC := (.cond (.t 12) (.seq (.reg ( mJ 13 0 :: mJ 4 13 :: []) [4]) .ret) .skip)
def Qd8 : List Item := .e none none (.sto 2 (.t 7) (.t 25)) :: []
def Qd9 : List Item := oJ 29 28 :: []
def Qrf : SC := (.reg ( mJ 34 5 :: cJ 35 .add 34 1 :: mJ 5 35 :: []) [0, 1, 5, 6])
def Qrg : SC := (.cond (.t 29) (.seq (.reg ( mJ 30 0 :: mJ 31 5 :: tJ 32 2 7 :: iJ 33 2 30 31 :: .e none none (.sto 2 (.t 33) (.t 32)) :: []) [0, 1, 5, 6]) Qrf) .skip)
def Qrh : SC := (.seq (.reg ( mJ 26 1 :: tJ 27 2 7 :: eI 28 (.callv (.t 26) [.t 27]) :: Qd9) [0, 1, 5, 6, 7, 29]) Qrg)
def Qri : SC := (.reg ( mJ 20 6 :: cJ 21 .add 20 1 :: mJ 6 21 :: []) [0, 1, 5, 6])
def Qrj : SC := (.seq (.block 1 (.seq (.reg ( mJ 22 0 :: mJ 23 6 :: iJ 24 2 22 23 :: tJ 25 2 24 :: eI 7 (.alloc [.int .i64 0, .sl true 1 []]) :: Qd8) [0, 1, 5, 6, 7]) Qrh)) Qri)
def Qnj : SC := (.seq (.seq (.reg ( mJ 16 6 :: mJ 17 0 :: nJ 18 17 :: bJ 19 .lss 16 18 :: []) [0, 1, 5, 6, 19]) (.cond (.t 19) .skip (.exit 0))) Qrj)
def Qne : SC := (.seq (.reg ( mJ 39 0 :: mJ 40 5 :: fI 41 (.sli 2 (.t 39) none (some (.t 40))) :: mJ 4 41 :: []) [4]) .ret)
def Qnf : SC := (.seq (.reg ( mJ 36 0 :: mJ 37 5 :: fI 38 (.sli 2 (.t 36) (some (.t 37)) none) :: .e none none (.clrs 2 [.int .i64 0, .sl true 1 []] (.t 38)) :: []) [0, 5]) Qne)
def Qng : SC := (.seq (.seq (.reg ( mJ 14 5 :: cJ 15 .add 14 1 :: mJ 6 15 :: []) [0, 1, 5, 6]) (.block 0 (.loop Qnj))) Qnf)
def Qnh : SC := (.seq (.seq (.reg ( mJ 11 5 :: cJ 12 .eql 11 (-1) :: []) [0, 1, 5, 12]) Qre) Qng)
def Qni : SC := (.seq (.reg ( mJ 8 0 :: mJ 9 1 :: aJ 10 Qc5 [.t 8, .t 9] :: Qd7) [0, 1, 5]) Qnh)
def Qvn : SC := (.seq (.reg ( fI 4 (.mv (.k (.c (.sl true 2 [])))) :: []) [0, 1]) Qni)
def Qc6 : List RS := [.tmp 4]
theorem Qut : mFn prog Qcu 2 42 Qvn Qc6 = true := by kernel_rfl
def Qsl : SC := (.cond (.t 16) (.seq (.reg ( mJ 17 5 :: mJ 4 17 :: []) [4]) .ret) .skip)
def Qsm : SC := (.seq (.reg ( mJ 11 1 :: mJ 12 0 :: mJ 13 5 :: iJ 14 4 12 13 :: tJ 15 4 14 :: eI 16 (.callv (.t 11) [.t 15]) :: []) [0, 1, 5, 7, 8, 16]) Qsl)
def Qsn : SC := (.reg ( cJ 18 .add 8 1 :: mJ 8 18 :: []) [0, 1, 7, 8])
def Qso : SC := (.seq (.block 1 (.seq (.reg ( mJ 10 8 :: mJ 5 10 :: []) [0, 1, 5, 7, 8]) Qsm)) Qsn)
def Qrk : SC := (.seq (.reg ( bJ 9 .lss 8 7 :: []) [0, 1, 7, 8, 9]) (.seq (.cond (.t 9) .skip (.exit 0)) Qso))
def Qsp : SC := (.seq (.reg ( fI 4 (.mv (kI (-1))) :: []) [4]) .ret)
def Qsq : SC := (.seq (.seq (.reg ( mJ 6 0 :: nJ 7 6 :: fI 8 (.mv (kI 0)) :: []) [0, 1, 7, 8]) (.block 0 (.loop Qrk))) Qsp)
def Qxw : SC := (.seq (.reg ( fI 4 (.mv (kI 0)) :: []) [0, 1]) Qsq)
def Qdw : List RS := [.tmp 4]
theorem Qv8 : mFn prog Qc4 2 19 Qxw Qdw = true := by kernel_rfl
def Qsr : SC := (.cond (.t 16) (.seq (.reg ( mJ 17 5 :: mJ 4 17 :: []) [4]) .ret) .skip)
def Qss : SC := (.seq (.reg ( mJ 11 1 :: mJ 12 0 :: mJ 13 5 :: iJ 14 2 12 13 :: tJ 15 2 14 :: eI 16 (.callv (.t 11) [.t 15]) :: []) [0, 1, 5, 7, 8, 16]) Qsr)
def Qst : SC := (.reg ( cJ 18 .add 8 1 :: mJ 8 18 :: []) [0, 1, 7, 8])
def Qsu : SC := (.seq (.block 1 (.seq (.reg ( mJ 10 8 :: mJ 5 10 :: []) [0, 1, 5, 7, 8]) Qss)) Qst)
def Qrl : SC := (.seq (.reg ( bJ 9 .lss 8 7 :: []) [0, 1, 7, 8, 9]) (.seq (.cond (.t 9) .skip (.exit 0)) Qsu))
def Qsv : SC := (.seq (.reg ( fI 4 (.mv (kI (-1))) :: []) [4]) .ret)
def Qsw : SC := (.seq (.seq (.reg ( mJ 6 0 :: nJ 7 6 :: fI 8 (.mv (kI 0)) :: []) [0, 1, 7, 8]) (.block 0 (.loop Qrl))) Qsv)
def Qxx : SC := (.seq (.reg ( fI 4 (.mv (kI 0)) :: []) [0, 1]) Qsw)
def Qdx : List RS := [.tmp 4]
theorem Qv9 : mFn prog Qc5 2 19 Qxx Qdx = true := by kernel_rfl
def Qg2 : List Item := .e none none (.sto 1 (.t 2) (.t 5)) :: []
def Qg3 : List Item := aJ 5 Qyc [.t 4] :: Qg2
def Qxy : SC := (.seq (.reg ( mJ 3 0 :: aJ 4 Qyj [.t 3] :: Qg3) [2]) .ret)
def Q4m : SC := (.seq (.reg ( eI 2 (.alloc [.sl true 3 []]) :: []) [0, 2]) Qxy)
def Qlr : List RS := [.cell 2 1 true]
theorem Q2v : mFn prog Qef 1 6 Q4m Qlr = true := by kernel_rfl
def Qd0 : List Item := fI 18 (.pick (.t 15) (.t 17) (.k (.c (.bool false)))) :: []
def Qrv : List Item := .e none none (.sto 2 (.t 5) (.t 26)) :: []
def Qrw : List Item := eI 5 (.alloc [.sl true 1 [], .sl true 1 []]) :: Qrv
def Qrx : List Item := mJ 7 45 :: []
def Qry : List Item := mJ 3 61 :: []
def Qag9 : SC := (.reg ( mJ 50 8 :: cJ 51 .add 50 1 :: mJ 8 51 :: []) [1, 3, 4, 5, 6, 7, 8])
def Qaha : SC := (.seq (.block 5 (.reg ( mJ 52 3 :: mJ 53 4 :: mJ 54 6 :: mJ 55 7 :: mJ 56 8 :: iJ 57 1 55 56 :: lJ 58 57 :: fI 59 (.bsl 1 [.t 53, .t 54, .t 58]) :: fI 60 (.bsl 1 [.t 59]) :: eI 61 (.app 1 (.t 52) (.t 60)) :: Qry) [1, 3, 4, 5, 6, 7, 8])) Qag9)
def Qacr : SC := (.seq (.seq (.reg ( mJ 46 8 :: mJ 47 7 :: nJ 48 47 :: bJ 49 .lss 46 48 :: []) [1, 3, 4, 5, 6, 7, 8, 49]) (.cond (.t 49) .skip (.exit 4))) Qaha)
def Qahb : SC := (.seq (.reg ( fI 8 (.mv (kI 0)) :: []) [1, 3, 4, 5, 6, 7, 8]) (.block 4 (.loop Qacr)))
def Qahc : SC := (.reg ( mJ 36 6 :: cJ 37 .add 36 1 :: mJ 6 37 :: []) [1, 3, 4, 5, 6])
def Qacl : SC := (.seq (.block 3 (.seq (.dreg 9 [0, 1, 2, 3, 4, 5, 6, 7, 8] ( fJ 38 0 1 :: lJ 39 38 :: mJ 40 4 :: iJ 41 3 39 40 :: tJ 42 3 41 :: tJ 43 2 5 :: mJ 44 6 :: aJ 45 Qyf [.t 42, .t 43, .t 44] :: Qrx) [1, 3, 4, 5, 6, 7]) Qahb)) Qahc)
def Q4o : SC := (.seq (.seq (.reg ( mJ 27 6 :: fJ 28 0 1 :: lJ 29 28 :: mJ 30 4 :: iJ 31 3 29 30 :: fJ 32 2 31 :: lJ 33 32 :: nJ 34 33 :: bJ 35 .lss 27 34 :: []) [1, 3, 4, 5, 6, 35]) (.cond (.t 35) .skip (.exit 2))) Qacl)
def Qacm : SC := (.seq (.reg ( fI 6 (.mv (kI 0)) :: []) [1, 3, 4, 5, 6]) (.block 2 (.loop Q4o)))
def Qacn : SC := (.reg ( mJ 19 4 :: cJ 20 .add 19 1 :: mJ 4 20 :: []) [1, 3, 4])
def Qaco : SC := (.seq (.block 1 (.seq (.reg ( fJ 21 0 1 :: lJ 22 21 :: mJ 23 4 :: iJ 24 3 22 23 :: tJ 25 3 24 :: aJ 26 Qyg [.t 25] :: Qrw) [1, 3, 4, 5]) Qacm)) Qacn)
def Q4p : SC := (.seq (.seq (.reg ( mJ 10 4 :: fJ 11 0 1 :: lJ 12 11 :: nJ 13 12 :: bJ 14 .lss 10 13 :: mJ 15 14 :: gT 16 15 (.ld 1 true (.t 1)) :: .e (some 17) (some (15, true)) (.call Qce [.t 16]) :: Qd0) [1, 3, 4, 18]) (.cond (.t 18) .skip (.exit 0))) Qaco)
def Qru : SC := (.seq (.reg ( mJ 62 3 :: mJ 2 62 :: []) [2]) .ret)
def Qacp : SC := (.seq (.seq (.reg ( fI 4 (.mv (kI 0)) :: []) [1, 3, 4]) (.block 0 (.loop Q4p))) Qru)
def Qacq : SC := (.seq (.reg ( fI 9 (.bsl 1 []) :: mJ 3 9 :: []) [1, 3]) Qacp)
def Qaqq : SC := (.seq (.reg ( fI 1 (.box (.t 0)) :: fI 2 (.mv (.k (.c (.sl true 1 [])))) :: []) [1]) Qacq)
def Qow : List RS := [.tmp 2]
theorem Qand : mFn prog Qkr 1 63 Qaqq Qow = true := by kernel_rfl
def Qal6 : SC := (.cond (.t 5) (.seq (.reg ( fJ 6 1 1 :: lJ 7 6 :: mJ 2 7 :: []) [2]) .ret) .skip)
def Qal7 : SC := (.seq (.reg ( fI 2 (.mv (kI (-1))) :: []) [2]) .ret)
def Qal8 : SC := (.seq (.seq (.reg ( fJ 3 0 1 :: lJ 4 3 :: aJ 5 Qfu [.t 4] :: []) [1, 5]) Qal6) Qal7)
def Qaw9 : SC := (.seq (.reg ( fI 1 (.box (.t 0)) :: fI 2 (.mv (kI 0)) :: []) [1]) Qal8)
def Qu4 : List RS := [.tmp 2]
theorem Qar3 : mFn prog Qog 1 8 Qaw9 Qu4 = true := by kernel_rfl
end Go.AE.Y

namespace Go.AE.Y
open Go.Proofs.Tryz
theorem Qat : prog.follows .mixedOrders = true := by kernel_rfl
theorem Qba1 (l : Nat) (fl : Bool) (bs : List UInt8) (k : Nat) (n : Int) (H : Heap) (K : V → Heap → Prop)
   (hH : H l = .st [.sl fl 1 (Qbt bs), .int .i64 k]) (hp' : k ≤ 2^40)
   (hK : ∀ v : Int, (if n < 1 then v = 0 else 0 ≤ v ∧ v < n) → K (.c (.int .i64 v)) (H.set l (.st [.sl fl 1 (Qbt bs), .int .i64 ((k + 1 : Nat) : Int)]))) :
   Qp prog Qk [.c (.ptr l 0), .c (.int .i64 n)] H K := by
  refine Qb Qat Qam2 ?_
  refine Qa ?_
  simp only [go_sem, Qau, Qfg, reduceIte, Nat.reduceEqDiff, Nat.reduceAdd]
  refine Qa ?_
  simp only [go_sem, Qau, Qfg, reduceIte, Nat.reduceEqDiff, Nat.reduceAdd, Nat.reduceLeDiff, Nat.reduceLT, hH]
  refine ⟨Qo (by omega) (by omega), fun H2 hH2' => ?_⟩
  have hH2 : H2 l = .st [C.sl fl 1 (Qbt bs), C.int IntKind.i64 (k + 1)] := by rw [hH2']; exact Heap.set_same _ _ _
  have hK2 : ∀ v : Int, (if n < 1 then v = 0 else 0 ≤ v ∧ v < n) → K (.c (.int .i64 v)) H2 := by
    intro v hv; rw [hH2']; exact hK v hv
  clear hK
  refine Q4 ?_
  refine Qa ?_
  simp only [go_sem, Qau, Qfg, reduceIte, Nat.reduceEqDiff, Nat.reduceAdd, Nat.reduceLeDiff, hH2]
  intro _
  refine Qh (Qd rfl ?_ ?_)
  · intro hc
    refine Qa ?_
    simp only [go_sem, reduceIte, Nat.reduceEqDiff]
    refine Qj ?_
    simp only [go_sem, Qz, Qac, Qhl, reduceIte, List.mem_singleton, forall_eq, RS.op]
    refine hK2 0 ?_
    split <;> omega
  · intro hc
    refine Qf ?_
    simp only [go_sem]
    have hn : 1 ≤ n ∧ bs.length ≠ 0 := by
      simp only [cond_eq_ite] at hc
      split at hc
      · simp at hc
      · simp at hc; simp_all
    refine Qa ?_
    simp only [go_sem, Qau, Qfg, reduceIte, Nat.reduceEqDiff, Nat.reduceAdd, Nat.reduceLeDiff, hH2]
    refine ⟨Qo (by omega) (by omega), ?_⟩
    refine Q4 ?_
    refine Qa ?_
    simp only [go_sem, Qau, Qfg, reduceIte, Nat.reduceEqDiff, Nat.reduceAdd, Nat.reduceLeDiff, hH2]
    intro hl
    refine Qh (Qd rfl ?_ ?_)
    · intro hc2
      have hk : k < bs.length := by simpa using hc2
      refine Qa ?_
      simp only [go_sem, Qau, Qfg, reduceIte, Nat.reduceEqDiff, Nat.reduceAdd, Nat.reduceLeDiff, hH2, hk, Q0i]
      refine ⟨by omega, ?_⟩
      refine Qj ?_
      simp only [go_sem, Qz, Qac, Qhl, reduceIte, List.mem_singleton, forall_eq, RS.op]
      refine hK2 _ ?_
      rw [if_neg (by omega)]
      exact ⟨Int.tmod_nonneg _ (by omega), Int.tmod_lt_of_pos _ (by omega)⟩
    · intro hc2
      refine Qf ?_
      simp only [go_sem]
      refine Qan ?_
      have e1 : ((k : Int).tmod (bs.length : Int)) = ((k % bs.length : Nat) : Int) := rfl
      have e2 : (((k : Int) * 7 + 3).tmod (bs.length : Int)) = (((k * 7 + 3) % bs.length : Nat) : Int) := rfl
      have h1 : k % bs.length < bs.length := Nat.mod_lt _ (by omega)
      have h2 : (k * 7 + 3) % bs.length < bs.length := Nat.mod_lt _ (by omega)
      simp only [go_sem, Qau, Qfg, reduceIte, Nat.reduceEqDiff, Nat.reduceAdd, Nat.reduceLeDiff, hH2, e1, e2, h1, h2, Q0i]
      have e3 : (k : Int).tdiv (bs.length : Int) = ((k / bs.length : Nat) : Int) := rfl
      have h3 : k / bs.length ≤ k := Nat.div_le_self _ _
      rw [e3]
      have h4 := (bs.getD (k % bs.length) 0).toNat_lt
      have h5 := (bs.getD ((k * 7 + 3) % bs.length) 0).toNat_lt
      generalize (bs.getD (k % bs.length) 0).toNat = b1 at *
      generalize (bs.getD ((k * 7 + 3) % bs.length) 0).toNat = b2 at *
      generalize k / bs.length = d at *
      clear e1 e2 h1 h2 e3
      refine ⟨by omega, Qo (by omega) (by omega), Qo (by omega) (by omega), Qo (by omega) (by omega), by omega, Qo (by omega) (by omega), Qo (by omega) (by omega),
        Qo (by omega) (by omega), Qo (by omega) (by omega), ⟨by omega, Qo (by omega) (by omega)⟩, Qo (by omega) (by omega), Qo (by omega) (by omega), ?_⟩
      have hx : 0 ≤ (b1 : Int) * 131 + b2 * 1117 + k * 29 + d * 53 := by omega
      have hx' : (b1 : Int) * 131 + b2 * 1117 + k * 29 + d * 53 < 2 ^ 62 := by omega
      generalize (b1 : Int) * 131 + b2 * 1117 + k * 29 + d * 53 = x at *
      refine Qa ?_
      simp only [go_sem, Qau, Qfg, reduceIte, Nat.reduceEqDiff, Nat.reduceAdd, Nat.reduceLeDiff]
      have hq : 0 ≤ x.tdiv 64 := Int.tdiv_nonneg hx (by omega)
      have hq' : x.tdiv 64 ≤ x := by have := Int.tdiv_le_self (a := x) 64 hx; exact this
      refine ⟨⟨by omega, Qo (by omega) (by omega)⟩, ?_⟩
      have hy := Qbbl hx hq hx' (by omega)
      generalize Qayq .xor .i64 x (x.tdiv 64) = y at *
      refine Qa ?_
      simp only [go_sem, Qau, Qfg, reduceIte, Nat.reduceEqDiff, Nat.reduceAdd, Nat.reduceLeDiff]
      refine ⟨by omega, ?_⟩
      refine Qj ?_
      simp only [go_sem, Qz, Qac, Qhl, reduceIte, List.mem_singleton, forall_eq, RS.op]
      refine hK2 _ ?_
      rw [if_neg (by omega)]
      exact ⟨Int.tmod_nonneg _ (by omega), Int.tmod_lt_of_pos _ (by omega)⟩
theorem Qa7 {R : Rdr} {k : Nat} {n : Int} {H : Heap} {K : V → Heap → Prop} (hH : H R.l = R.o k) (hk : k ≤ 2^40)
  (hK : ∀ (v : Int) (H' : Heap), (if n < 1 then v = 0 else 0 ≤ v ∧ v < n) → Upd H H' [(R.l, R.o (k + 1))] → K (.c (.int .i64 v)) H') :
  Qp prog Qk [.c (.ptr R.l 0), .c (.int .i64 n)] H K :=
 Qba1 R.l R.fl R.bs k n H K hH hk fun v hv => hK v _ hv ⟨by simp [Heap.set_same, Rdr.o], fun m _ hm => Heap.set_other _ _ (by simpa using hm)⟩
theorem Qi6 {R : Rdr} {k : Nat} {fl : Bool} {ns : List Int} {H : Heap} {K : V → Heap → Prop} (hH : H R.l = R.o k) (hk : k ≤ 2^40) (hns : 0 < ns.length)
  (hK : ∀ (v : Int) (H' : Heap), v ∈ ns → Upd H H' [(R.l, R.o (k + 1))] → K (.c (.int .i64 v)) H') :
  Qp prog Q8 [.c (.ptr R.l 0), .c (.sl fl 1 (Qe ns))] H K := by
 refine Qb Qat Qarv ?_
 refine Qa ?_
 simp only [go_sem, reduceIte, reduceEqDiff, reduceAdd, reduceLeDiff, reduceLT, reduceCtorEq]
 refine Qa ?_
 simp only [go_sem, Qg, reduceIte, reduceEqDiff, reduceAdd, reduceLeDiff, reduceLT, reduceCtorEq]
 intro hl
 refine Qa7 hH hk fun v H' hv hu => ?_
 rw [if_neg (by omega)] at hv
 obtain ⟨i, rfl⟩ := Int.eq_ofNat_of_zero_le hv.1
 have hi : i < ns.length := by omega
 simp only [go_sem, Qtw, Qg, Q6, hi, reduceIte, reduceEqDiff, reduceAdd, reduceLeDiff, reduceLT, reduceCtorEq]
 refine Qj ?_
 simp only [go_sem, Qz, Qac, Q6q, reduceIte, List.mem_singleton, forall_eq, RS.op]
 refine hK _ H' ?_ hu
 rw [List.getD_eq_getElem?_getD, List.getElem?_eq_getElem hi]; exact List.getElem_mem hi
theorem of_c {R : Rdr} {k : Nat} {fl : Bool} {ss : List (List UInt8)} {H : Heap} {K : V → Heap → Prop} (hH : H R.l = R.o k) (hk : k ≤ 2^40) (hns : 0 < ss.length)
  (hK : ∀ (v : List UInt8) (H' : Heap), v ∈ ss → Upd H H' [(R.l, R.o (k + 1))] → K (.c (.str v)) H') :
  Qp prog Qf7 [.c (.ptr R.l 0), .c (.sl fl 1 (Qbd ss))] H K := by
 refine Qb Qat Qaze ?_
 refine Qa ?_
 simp only [go_sem, reduceIte, reduceEqDiff, reduceAdd, reduceLeDiff, reduceLT, reduceCtorEq]
 refine Qa ?_
 simp only [go_sem, Qaq, reduceIte, reduceEqDiff, reduceAdd, reduceLeDiff, reduceLT, reduceCtorEq]
 intro hl
 refine Qa7 hH hk fun v H' hv hu => ?_
 rw [if_neg (by omega)] at hv
 obtain ⟨i, rfl⟩ := Int.eq_ofNat_of_zero_le hv.1
 have hi : i < ss.length := by omega
 simp only [go_sem, Qxn, Qaq, Qg4, hi, reduceIte, reduceEqDiff, reduceAdd, reduceLeDiff, reduceLT, reduceCtorEq]
 refine Qj ?_
 simp only [go_sem, Qz, Qac, Qah5, reduceIte, List.mem_singleton, forall_eq, RS.op]
 refine hK _ H' ?_ hu
 rw [List.getD_eq_getElem?_getD, List.getElem?_eq_getElem hi]; exact List.getElem_mem hi
theorem Qa6u {R : Rdr} {k : Nat} {fl : Bool} {ss : List (List UInt8)} {H : Heap} {K : V → Heap → Prop} (hH : H R.l = R.o k) (hk : k + 2 ≤ 2^40)
  (hK : ∀ (x : Ex) (H' : Heap) (k' : Nat), k < k' → k' ≤ k + 2 → Upd H H' [(R.l, R.o k')] → x.ok → x.size = 1 → K (.ag x.cells) H') :
  Qp prog Q5l [.c (.ptr R.l 0), .c (.sl fl 1 (Qbd ss))] H K := by
 refine Q0 ?_
 refine Qb Qat Qa7a ?_
 refine Qa ?_
 simp only [go_sem, reduceIte, reduceEqDiff, reduceAdd, reduceLeDiff, reduceLT, reduceCtorEq]
 intro x hx H1 h1
 have kn := (Kn.start1 hH (R.o_ne k)).al hx h1
 refine Q4 ?_
 refine Qa ?_
 simp only [go_sem, Qaq, reduceIte, reduceEqDiff, reduceAdd, reduceLeDiff, reduceLT, reduceCtorEq]
 intro hl
 have rest : ∀ (b : Bool) (H2 : Heap) (k2 : Nat), k ≤ k2 → k2 ≤ k + 1 → Kn H H2 [(R.l, R.o k2)] [(x, .st [.int .i64 0, .int .i64 0, .str [], .sl true 4 []])] → (b = false → 0 < ss.length) →
   Qah prog (s_l2Leaf_2.seq Qaia) (Qz Q44 fun x H' => ∃ x', FrzV H' (un H) x x' ∧ K x' (H'.frz (un H))) [(0, V.c (C.ptr R.l 0)), (1, V.c (C.sl fl 1 (Qbd ss))), (4, V.c (C.ptr x 0)), (12, V.c (.bool b))] H2 := by
  intro b H2 k2 hk1 hk2 kn hb
  refine Qh (Qd rfl ?_ ?_)
  ·intro hb'
   refine Qa ?_
   simp only [go_sem, reduceIte, reduceEqDiff, reduceAdd, reduceLeDiff, reduceLT, reduceCtorEq]
   refine Qi6 (ns := [0, 1, 2, 3, 5, 7, 15, 16, 100, 255]) (kn.e 0 rfl) (by omega) (by simp) fun v H3 hv hu => ?_
   have kn := kn.callE 0 rfl hu (R.o_ne _)
   have hx3 := kn.l 0 rfl
   simp only [go_sem, Q8k, hx3, reduceIte, reduceEqDiff, reduceAdd, reduceLeDiff, reduceLT, reduceCtorEq]
   intro H4 h4
   have kn := kn.stL 0 rfl h4
   have hx4 := kn.l 0 rfl
   refine Qj ?_
   simp only [go_sem, Qz, Qac, Q44, reduceIte, List.mem_singleton, forall_eq, RS.op, hx4, reduceIte, reduceEqDiff, reduceAdd, reduceLeDiff, reduceLT, reduceCtorEq]
   refine ⟨_, (Ex.mk 1 v [] []).frz, hK _ _ (k2 + 1) (by omega) (by omega) kn.fin ?_ ?_⟩
   ·simp [Ex.ok, Qdn]
   ·simp [Ex.size, Qae]
  ·intro hb'
   refine Qf ?_
   simp only [go_sem]
   refine Qa ?_
   simp only [go_sem, reduceIte, reduceEqDiff, reduceAdd, reduceLeDiff, reduceLT, reduceCtorEq]
   refine of_c (kn.e 0 rfl) (by omega) (hb hb') fun v H3 hv hu => ?_
   have kn := kn.callE 0 rfl hu (R.o_ne _)
   have hx3 := kn.l 0 rfl
   simp only [go_sem, Q8l, hx3, reduceIte, reduceEqDiff, reduceAdd, reduceLeDiff, reduceLT, reduceCtorEq]
   intro H4 h4
   have kn := kn.stL 0 rfl h4
   have hx4 := kn.l 0 rfl
   refine Qj ?_
   simp only [go_sem, Qz, Qac, Q44, reduceIte, List.mem_singleton, forall_eq, RS.op, hx4, reduceIte, reduceEqDiff, reduceAdd, reduceLeDiff, reduceLT, reduceCtorEq]
   refine ⟨_, (Ex.mk 2 0 v []).frz, hK _ _ (k2 + 1) (by omega) (by omega) kn.fin ?_ ?_⟩
   ·simp [Ex.ok, Qdn]
   ·simp [Ex.size, Qae]
 refine ⟨fun hb => ?_, fun hb => ?_⟩
 ·refine Qa7 (kn.e 0 rfl) (by omega) fun v H2 hv hu => ?_
  have kn := kn.callE 0 rfl hu (R.o_ne _)
  simp only [go_sem, Qvi, reduceIte, reduceEqDiff, reduceAdd, reduceLeDiff, reduceLT, reduceCtorEq]
  refine rest _ H2 (k + 1) (by omega) (by omega) kn ?_
  intro h
  have : ¬ ss.length = 0 := by simpa using hb
  omega
 ·have hb2 : decide ((ss.length : Int) = 0) = true := by simpa using hb
  simp only [go_sem, Qvi, hb2, reduceIte, reduceEqDiff, reduceAdd, reduceLeDiff, reduceLT, reduceCtorEq]
  exact rest true H1 k (by omega) (by omega) kn (fun h => by simp at h)
end Go.AE.Y

namespace Go.AE.Y
open Go.Proofs.Tryz
variable {H : Heap} {K : V → Heap → Prop}
theorem Qdc {n lo hi : Int} (hK : K (.c (.bool (decide (lo ≤ n ∧ n ≤ hi)))) H) : Qp prog Qbk [.c (.int .i64 n), .c (.int .i64 lo), .c (.int .i64 hi)] H K := by
 refine Qb Qat Qbcd ?_
 refine Qa ?_
 simp only [go_sem, reduceIte, reduceEqDiff, reduceAdd, reduceLeDiff, reduceLT, reduceCtorEq]
 refine Qa ?_
 simp only [go_sem, reduceIte, reduceEqDiff, reduceAdd, reduceLeDiff, reduceLT, reduceCtorEq]
 refine Qj ?_
 simp only [go_sem, Qz, Qac, Qa88, reduceIte, List.mem_singleton, forall_eq, RS.op, reduceIte, reduceEqDiff, reduceAdd, reduceLeDiff, reduceLT, reduceCtorEq]
 have : (bif decide (lo ≤ n) then decide (n ≤ hi) else false) = decide (lo ≤ n ∧ n ≤ hi) := by
  by_cases h : lo ≤ n <;> simp [h]
 rw [this]; exact hK
theorem Qa20 {b : Bool} (hK : K (.c (.int .i64 (if b then 1 else 0))) H) : Qp prog Qyk [.c (.bool b)] H K := by
 refine Qb Qat Qa3j ?_
 refine Qa ?_
 simp only [go_sem, reduceIte, reduceEqDiff, reduceAdd, reduceLeDiff, reduceLT, reduceCtorEq]
 refine Q4 ?_
 refine Qa ?_
 simp only [go_sem, reduceIte, reduceEqDiff, reduceAdd, reduceLeDiff, reduceLT, reduceCtorEq]
 refine Qh (Qd rfl ?_ ?_)
 ·intro hc; subst hc
  refine Qa ?_
  simp only [go_sem, reduceIte, reduceEqDiff, reduceAdd, reduceLeDiff, reduceLT, reduceCtorEq]
  refine Qj ?_
  simp only [go_sem, Qz, Qac, Q6t, reduceIte, List.mem_singleton, forall_eq, RS.op, reduceIte, reduceEqDiff, reduceAdd, reduceLeDiff, reduceLT, reduceCtorEq]
  exact hK
 ·intro hc; subst hc
  refine Qf ?_
  simp only [go_sem]
  refine Qa ?_
  simp only [go_sem, reduceIte, reduceEqDiff, reduceAdd, reduceLeDiff, reduceLT, reduceCtorEq]
  refine Qj ?_
  simp only [go_sem, Qz, Qac, Q6t, reduceIte, List.mem_singleton, forall_eq, RS.op, reduceIte, reduceEqDiff, reduceAdd, reduceLeDiff, reduceLT, reduceCtorEq]
  exact hK
theorem Qa2x {s : List UInt8} {b : UInt8} (hK : ∀ n : Int, K (.c (.int .i64 n)) H) : Qp prog Qyi [.c (.str s), .c (.int .u8 b.toNat)] H K := by
 refine Qb Qat Qa3f ?_
 refine Qa ?_
 simp only [go_sem, reduceIte, reduceEqDiff, reduceAdd, reduceLeDiff, reduceLT, reduceCtorEq]
 refine Q4 ?_
 refine Qa ?_
 simp only [go_sem, reduceIte, reduceEqDiff, reduceAdd, reduceLeDiff, reduceLT, reduceCtorEq]
 refine Qh (Qc (Qu (fun n e1 H1 => ∃ i : Nat, n = s.length - i ∧ i ≤ s.length ∧ H1 = H ∧ e1 = [(0, .c (.str s)), (1, .c (.int .u8 b.toNat)), (5, .c (.int .i64 i))]) s.length ?_ ?_))
 ·exact ⟨0, by omega, by omega, rfl, rfl⟩
 ·rintro n e1 H1 ⟨i, hn, hi, rfl, rfl⟩
  refine Q4 ?_
  refine Qa ?_
  simp only [go_sem, reduceIte, reduceEqDiff, reduceAdd, reduceLeDiff, reduceLT, reduceCtorEq]
  intro hl
  simp only [LIM] at hl
  refine Qh (Qd rfl ?_ ?_)
  ·intro hc
   have hlt : i < s.length := by simpa using hc
   refine Qf ?_
   simp only [go_sem]
   refine Qh (Qc ?_)
   refine Qa ?_
   simp only [go_sem, hlt, reduceIte, reduceEqDiff, reduceAdd, reduceLeDiff, reduceLT, reduceCtorEq]
   refine Qd rfl ?_ ?_
   ·intro hc2
    refine Qa ?_
    simp only [go_sem, reduceIte, reduceEqDiff, reduceAdd, reduceLeDiff, reduceLT, reduceCtorEq]
    refine Qj ?_
    simp only [go_sem, X.next, Qz, Qac, Q6o, reduceIte, List.mem_singleton, forall_eq, RS.op, reduceIte, reduceEqDiff, reduceAdd, reduceLeDiff, reduceLT, reduceCtorEq]
    exact hK _
   ·intro hc2
    refine Qf ?_
    simp only [go_sem]
    refine Qq ?_
    simp only [go_sem, X.next, reduceIte, reduceEqDiff, reduceAdd, reduceLeDiff, reduceLT, reduceCtorEq]
    exact ⟨Qo (by omega) (by omega), s.length - (i + 1), by omega, i + 1, rfl, by omega, rfl⟩
  ·intro hc
   refine Qt ?_
   simp only [go_sem, X.next]
   refine Qa ?_
   simp only [go_sem, reduceIte, reduceEqDiff, reduceAdd, reduceLeDiff, reduceLT, reduceCtorEq]
   refine Qj ?_
   simp only [go_sem, Qz, Qac, Q6o, reduceIte, List.mem_singleton, forall_eq, RS.op, reduceIte, reduceEqDiff, reduceAdd, reduceLeDiff, reduceLT, reduceCtorEq]
   exact hK _
theorem Qa2v {b : UInt8} (hK : ∀ n : Int, K (.c (.int .i64 n)) H) : Qp prog Qyh [.c (.int .u8 b.toNat)] H K := by
 refine Qb Qat Qa3d ?_
 refine Qa ?_
 simp only [go_sem, reduceIte, reduceEqDiff, reduceAdd, reduceLeDiff, reduceLT, reduceCtorEq]
 refine Qh (Qc ?_)
 refine Qa ?_
 simp only [go_sem, reduceIte, reduceEqDiff, reduceAdd, reduceLeDiff, reduceLT, reduceCtorEq]
 refine Qd rfl ?_ ?_
 ·intro hc
  refine Qa ?_
  simp only [go_sem, reduceIte, reduceEqDiff, reduceAdd, reduceLeDiff, reduceLT, reduceCtorEq]
  refine Qj ?_
  simp only [go_sem, Qz, Qac, Qi9, reduceIte, List.mem_singleton, forall_eq, RS.op, reduceIte, reduceEqDiff, reduceAdd, reduceLeDiff, reduceLT, reduceCtorEq]
  exact hK _
 intro hc
 refine Qa ?_
 simp only [go_sem, reduceIte, reduceEqDiff, reduceAdd, reduceLeDiff, reduceLT, reduceCtorEq]
 refine Qd rfl ?_ ?_
 ·intro hc
  refine Qa ?_
  simp only [go_sem, reduceIte, reduceEqDiff, reduceAdd, reduceLeDiff, reduceLT, reduceCtorEq]
  refine Qj ?_
  simp only [go_sem, Qz, Qac, Qi9, reduceIte, List.mem_singleton, forall_eq, RS.op, reduceIte, reduceEqDiff, reduceAdd, reduceLeDiff, reduceLT, reduceCtorEq]
  exact hK _
 intro hc
 refine Qa ?_
 simp only [go_sem, reduceIte, reduceEqDiff, reduceAdd, reduceLeDiff, reduceLT, reduceCtorEq]
 refine Qa2x fun n => ?_
 simp only [go_sem, Q1g, reduceIte, reduceEqDiff, reduceAdd, reduceLeDiff, reduceLT, reduceCtorEq]
 refine Qd rfl ?_ ?_
 ·intro hc
  refine Qa ?_
  simp only [go_sem, reduceIte, reduceEqDiff, reduceAdd, reduceLeDiff, reduceLT, reduceCtorEq]
  refine Qj ?_
  simp only [go_sem, Qz, Qac, Qi9, reduceIte, List.mem_singleton, forall_eq, RS.op, reduceIte, reduceEqDiff, reduceAdd, reduceLeDiff, reduceLT, reduceCtorEq]
  exact hK _
 intro hc
 refine Qa ?_
 simp only [go_sem, reduceIte, reduceEqDiff, reduceAdd, reduceLeDiff, reduceLT, reduceCtorEq]
 refine Qd rfl ?_ ?_
 ·intro hc
  refine Qa ?_
  simp only [go_sem, reduceIte, reduceEqDiff, reduceAdd, reduceLeDiff, reduceLT, reduceCtorEq]
  refine Qj ?_
  simp only [go_sem, Qz, Qac, Qi9, reduceIte, List.mem_singleton, forall_eq, RS.op, reduceIte, reduceEqDiff, reduceAdd, reduceLeDiff, reduceLT, reduceCtorEq]
  exact hK _
 intro hc
 refine Qf ?_
 simp only [go_sem]
 refine Qa ?_
 simp only [go_sem, reduceIte, reduceEqDiff, reduceAdd, reduceLeDiff, reduceLT, reduceCtorEq]
 refine Qj ?_
 simp only [go_sem, Qz, Qac, Qi9, reduceIte, List.mem_singleton, forall_eq, RS.op, reduceIte, reduceEqDiff, reduceAdd, reduceLeDiff, reduceLT, reduceCtorEq]
 exact hK _
theorem Qbaf {s : List UInt8} {k : Int} (hK : ∀ b : Bool, K (.c (.bool b)) H) : Qp prog Qaix [.c (.str s), .c (.int .i64 k)] H K := by
 refine Qb Qat Qbar ?_
 refine Qa ?_
 simp only [go_sem, reduceIte, reduceEqDiff, reduceAdd, reduceLeDiff, reduceLT, reduceCtorEq]
 refine Q4 ?_
 refine Qa ?_
 simp only [go_sem, reduceIte, reduceEqDiff, reduceAdd, reduceLeDiff, reduceLT, reduceCtorEq]
 refine Qh (Qc (Qu (fun n e1 H1 => ∃ i : Nat, n = s.length - i ∧ i ≤ s.length ∧ H1 = H ∧ e1 = [(0, .c (.str s)), (1, .c (.int .i64 k)), (5, .c (.int .i64 i))]) s.length ?_ ?_))
 ·exact ⟨0, by omega, by omega, rfl, rfl⟩
 ·rintro n e1 H1 ⟨i, hn, hi, rfl, rfl⟩
  refine Q4 ?_
  refine Qa ?_
  simp only [go_sem, reduceIte, reduceEqDiff, reduceAdd, reduceLeDiff, reduceLT, reduceCtorEq]
  intro hl
  simp only [LIM] at hl
  refine Qh (Qd rfl ?_ ?_)
  ·intro hc
   have hlt : i < s.length := by simpa using hc
   refine Qf ?_
   simp only [go_sem]
   refine Qh (Qc ?_)
   refine Qa ?_
   simp only [go_sem, hlt, reduceIte, reduceEqDiff, reduceAdd, reduceLeDiff, reduceLT, reduceCtorEq]
   refine Qa2v fun cl => ?_
   simp only [go_sem, Qah6, reduceIte, reduceEqDiff, reduceAdd, reduceLeDiff, reduceLT, reduceCtorEq]
   refine Qd rfl ?_ ?_
   ·intro hc2
    refine Qa ?_
    simp only [go_sem, reduceIte, reduceEqDiff, reduceAdd, reduceLeDiff, reduceLT, reduceCtorEq]
    refine Qj ?_
    simp only [go_sem, X.next, Qz, Qac, Qasc, reduceIte, List.mem_singleton, forall_eq, RS.op, reduceIte, reduceEqDiff, reduceAdd, reduceLeDiff, reduceLT, reduceCtorEq]
    exact hK _
   ·intro hc2
    refine Qf ?_
    simp only [go_sem]
    refine Qq ?_
    simp only [go_sem, X.next, reduceIte, reduceEqDiff, reduceAdd, reduceLeDiff, reduceLT, reduceCtorEq]
    exact ⟨Qo (by omega) (by omega), s.length - (i + 1), by omega, i + 1, rfl, by omega, rfl⟩
  ·intro hc
   refine Qt ?_
   simp only [go_sem, X.next]
   refine Qa ?_
   simp only [go_sem, reduceIte, reduceEqDiff, reduceAdd, reduceLeDiff, reduceLT, reduceCtorEq]
   intro _
   refine Qj ?_
   simp only [go_sem, Qz, Qac, Qasc, reduceIte, List.mem_singleton, forall_eq, RS.op, reduceIte, reduceEqDiff, reduceAdd, reduceLeDiff, reduceLT, reduceCtorEq]
   exact hK _
theorem Qaym (hK : ∀ ss : List (List UInt8), K (.c (.sl true 1 (Qbd ss))) H) : Qp prog Qh8 [] H K := by
 refine Qb Qat Qajt ?_
 refine Qa ?_
 simp only [go_sem, reduceIte, reduceEqDiff, reduceAdd, reduceLeDiff, reduceLT, reduceCtorEq]
 refine Qa ?_
 simp only [go_sem, reduceIte, reduceEqDiff, reduceAdd, reduceLeDiff, reduceLT, reduceCtorEq]
 refine Qj ?_
 simp only [go_sem, Qz, Qac, Qwp, reduceIte, List.mem_singleton, forall_eq, RS.op, reduceIte, reduceEqDiff, reduceAdd, reduceLeDiff, reduceLT, reduceCtorEq]
 exact hK [[102, 110], [108, 101, 116], [115, 97, 121], [112, 117, 116], [105, 102], [101, 108, 115, 101], [108, 111, 111, 112], [98, 97, 99, 107], [100, 111]]
theorem Qbag {s : List UInt8} (hK : ∀ b : Bool, K (.c (.bool b)) H) : Qp prog Qaiy [.c (.str s)] H K := by
 refine Qb Qat Qbas ?_
 refine Qa ?_
 simp only [go_sem, reduceIte, reduceEqDiff, reduceAdd, reduceLeDiff, reduceLT, reduceCtorEq]
 refine Qa ?_
 simp only [go_sem, reduceIte, reduceEqDiff, reduceAdd, reduceLeDiff, reduceLT, reduceCtorEq]
 refine Qaym fun ss => ?_
 simp only [go_sem, Qah7, reduceIte, reduceEqDiff, reduceAdd, reduceLeDiff, reduceLT, reduceCtorEq]
 refine Q4 ?_
 refine Qa ?_
 simp only [go_sem, reduceIte, reduceEqDiff, reduceAdd, reduceLeDiff, reduceLT, reduceCtorEq]
 refine Qh (Qc (Qu (fun n e1 H1 => ∃ i : Nat, n = ss.length - i ∧ i ≤ ss.length ∧ H1 = H ∧ e1 = [(0, .c (.str s)), (3, .c (.sl true 1 (Qbd ss))), (4, .c (.int .i64 i))]) ss.length ?_ ?_))
 ·exact ⟨0, by omega, by omega, rfl, rfl⟩
 ·rintro n e1 H1 ⟨i, hn, hi, rfl, rfl⟩
  refine Q4 ?_
  refine Qa ?_
  simp only [go_sem, Qaq, reduceIte, reduceEqDiff, reduceAdd, reduceLeDiff, reduceLT, reduceCtorEq]
  intro hl
  simp only [LIM] at hl
  refine Qh (Qd rfl ?_ ?_)
  ·intro hc
   have hlt : i < ss.length := by simpa using hc
   refine Qf ?_
   simp only [go_sem]
   refine Qh (Qc ?_)
   refine Qa ?_
   simp only [go_sem, hlt, Qaq, Qg4 _ _ hlt, reduceIte, reduceEqDiff, reduceAdd, reduceLeDiff, reduceLT, reduceCtorEq]
   refine Qd rfl ?_ ?_
   ·intro hc2
    refine Qa ?_
    simp only [go_sem, reduceIte, reduceEqDiff, reduceAdd, reduceLeDiff, reduceLT, reduceCtorEq]
    refine Qj ?_
    simp only [go_sem, X.next, Qz, Qac, Qasd, reduceIte, List.mem_singleton, forall_eq, RS.op, reduceIte, reduceEqDiff, reduceAdd, reduceLeDiff, reduceLT, reduceCtorEq]
    exact hK _
   ·intro hc2
    refine Qf ?_
    simp only [go_sem]
    refine Qq ?_
    simp only [go_sem, X.next, reduceIte, reduceEqDiff, reduceAdd, reduceLeDiff, reduceLT, reduceCtorEq]
    exact ⟨Qo (by omega) (by omega), ss.length - (i + 1), by omega, i + 1, rfl, by omega, rfl⟩
  ·intro hc
   refine Qt ?_
   simp only [go_sem, X.next]
   refine Qa ?_
   simp only [go_sem, reduceIte, reduceEqDiff, reduceAdd, reduceLeDiff, reduceLT, reduceCtorEq]
   refine Qj ?_
   simp only [go_sem, Qz, Qac, Qasd, reduceIte, List.mem_singleton, forall_eq, RS.op, reduceIte, reduceEqDiff, reduceAdd, reduceLeDiff, reduceLT, reduceCtorEq]
   exact hK _
theorem Q4t {s : List UInt8} (hK : ∀ b : Bool, K (.c (.bool b)) H) : Qp prog Qda [.c (.str s)] H K := by
 refine Qb Qat Qar2 ?_
 refine Qa ?_
 simp only [go_sem, reduceIte, reduceEqDiff, reduceAdd, reduceLeDiff, reduceLT, reduceCtorEq]
 refine Qa ?_
 simp only [go_sem, reduceIte, reduceEqDiff, reduceAdd, reduceLeDiff, reduceLT, reduceCtorEq]
 refine Qbaf fun b => ?_
 simp only [go_sem, Qug, reduceIte, reduceEqDiff, reduceAdd, reduceLeDiff, reduceLT, reduceCtorEq]
 intro hl
 refine ⟨fun hb => ?_, fun hb => ?_⟩
 ·refine Qbag fun b2 => ?_
  simp only [go_sem, Qir, reduceIte, reduceEqDiff, reduceAdd, reduceLeDiff, reduceLT, reduceCtorEq]
  refine Qj ?_
  simp only [go_sem, Qz, Qac, Qu3, reduceIte, List.mem_singleton, forall_eq, RS.op, reduceIte, reduceEqDiff, reduceAdd, reduceLeDiff, reduceLT, reduceCtorEq]
  exact hK _
 ·simp only [go_sem, Qir, hb, reduceIte, reduceEqDiff, reduceAdd, reduceLeDiff, reduceLT, reduceCtorEq]
  refine Qj ?_
  simp only [go_sem, Qz, Qac, Qu3, reduceIte, List.mem_singleton, forall_eq, RS.op, reduceIte, reduceEqDiff, reduceAdd, reduceLeDiff, reduceLT, reduceCtorEq]
  exact hK _
theorem Qa6t {op : Int} (hK : ∀ a b : Int, K (.tup [.c (.int .i64 a), .c (.int .i64 b)]) H) : Qp prog Q5k [.c (.int .i64 op)] H K := by
 refine Qb Qat Qa69 ?_
 refine Qa ?_
 simp only [go_sem, reduceIte, reduceEqDiff, reduceAdd, reduceLeDiff, reduceLT, reduceCtorEq]
 refine Q4 ?_
 refine Qa ?_
 simp only [go_sem, reduceIte, reduceEqDiff, reduceAdd, reduceLeDiff, reduceLT, reduceCtorEq]
 have ret : ∀ (a b : Int) (e : Env), lk 2 e = .c (.int .i64 a) → lk 3 e = .c (.int .i64 b) → Qz Qwi K .ret e H := by
  intro a b e h1 h2
  simp only [go_sem, Qz, Qac, Qwi, List.forall_mem_cons, RS.op, h1, h2, reduceIte, reduceEqDiff, reduceAdd, reduceLeDiff, reduceLT, reduceCtorEq]
  exact hK _ _
 refine Qh (Qc ?_)
 refine Q4 ?_
 refine Qa ?_
 simp only [go_sem, reduceIte, reduceEqDiff, reduceAdd, reduceLeDiff, reduceLT, reduceCtorEq]
 have r5 : ∀ (b : Bool), Qah prog Qah9 (X.inBlock 0 (X.sq prog Qzy (Qz Qwi K))) [(4, .c (.int .i64 op)), (5, .c (.bool b))] H := by
  intro b
  refine Qd rfl ?_ ?_
  ·intro hc
   refine Qa ?_
   simp only [go_sem, reduceIte, reduceEqDiff, reduceAdd, reduceLeDiff, reduceLT, reduceCtorEq]
   refine Qj ?_
   simp only [go_sem]
   exact ret 0 0 _ (by simp [lk]) (by simp [lk])
  intro hc
  refine Q4 ?_
  refine Qa ?_
  simp only [go_sem, reduceIte, reduceEqDiff, reduceAdd, reduceLeDiff, reduceLT, reduceCtorEq]
  have r8 : ∀ (b : Bool), Qah prog Qah8 (X.inBlock 0 (X.sq prog Qzy (Qz Qwi K))) [(4, .c (.int .i64 op)), (8, .c (.bool b))] H := by
   intro b
   refine Qd rfl ?_ ?_
   ·intro hc
    refine Qa ?_
    simp only [go_sem, reduceIte, reduceEqDiff, reduceAdd, reduceLeDiff, reduceLT, reduceCtorEq]
    refine Qj ?_
    simp only [go_sem]
    exact ret 1 1 _ (by simp [lk]) (by simp [lk])
   intro hc
   refine Qa ?_
   simp only [go_sem, reduceIte, reduceEqDiff, reduceAdd, reduceLeDiff, reduceLT, reduceCtorEq]
   refine Qd rfl ?_ ?_
   ·intro hc
    refine Qa ?_
    simp only [go_sem, reduceIte, reduceEqDiff, reduceAdd, reduceLeDiff, reduceLT, reduceCtorEq]
    refine Qj ?_
    simp only [go_sem]
    exact ret 0 3 _ (by simp [lk]) (by simp [lk])
   ·intro hc
    refine Qf ?_
    simp only [go_sem]
    refine Qa ?_
    simp only [go_sem, reduceIte, reduceEqDiff, reduceAdd, reduceLeDiff, reduceLT, reduceCtorEq]
    refine Qj ?_
    exact ret 2 2 _ (by simp [lk]) (by simp [lk])
  refine Qh (Qd rfl ?_ ?_)
  ·intro hc
   refine Qf ?_
   simp only [go_sem]
   exact r8 _
  ·intro hc
   refine Qq ?_
   simp only [go_sem, reduceIte, reduceEqDiff, reduceAdd, reduceLeDiff, reduceLT, reduceCtorEq]
   exact r8 _
 refine Qh (Qd rfl ?_ ?_)
 ·intro hc
  refine Qf ?_
  simp only [go_sem]
  exact r5 _
 ·intro hc
  refine Qq ?_
  simp only [go_sem, reduceIte, reduceEqDiff, reduceAdd, reduceLeDiff, reduceLT, reduceCtorEq]
  exact r5 _
theorem Qa6v {op : Int} (hK : K (.c (.int .i64 (if op = 4 then 2 else 1))) H) : Qp prog Q5m [.c (.int .i64 op)] H K := by
 refine Qb Qat Qa7b ?_
 refine Qa ?_
 simp only [go_sem, reduceIte, reduceEqDiff, reduceAdd, reduceLeDiff, reduceLT, reduceCtorEq]
 refine Q4 ?_
 refine Qa ?_
 simp only [go_sem, reduceIte, reduceEqDiff, reduceAdd, reduceLeDiff, reduceLT, reduceCtorEq]
 refine Qh (Qd rfl ?_ ?_)
 ·intro hc
  refine Qa ?_
  simp only [go_sem, reduceIte, reduceEqDiff, reduceAdd, reduceLeDiff, reduceLT, reduceCtorEq]
  refine Qj ?_
  simp only [go_sem, Qz, Qac, Qajx, reduceIte, List.mem_singleton, forall_eq, RS.op, reduceIte, reduceEqDiff, reduceAdd, reduceLeDiff, reduceLT, reduceCtorEq]
  rw [if_pos (by simpa using hc)] at hK; exact hK
 ·intro hc
  refine Qf ?_
  simp only [go_sem]
  refine Qa ?_
  simp only [go_sem, reduceIte, reduceEqDiff, reduceAdd, reduceLeDiff, reduceLT, reduceCtorEq]
  refine Qj ?_
  simp only [go_sem, Qz, Qac, Qajx, reduceIte, List.mem_singleton, forall_eq, RS.op, reduceIte, reduceEqDiff, reduceAdd, reduceLeDiff, reduceLT, reduceCtorEq]
  rw [if_neg (by simpa using hc)] at hK; exact hK
end Go.AE.Y

namespace Go.AE.Y
open Go.Proofs.Tryz
variable {H : Heap} {K : V → Heap → Prop}
end Go.AE.Y
namespace Go.AE
open Go.AE.Y
open Go.Proofs.Tryz
variable {H : Heap} {K : V → Heap → Prop}
theorem Slc.keep {H' : Heap} {sz : Nat} {rows : List (List C)} {b : C} {E L : List (Nat × Obj)} (h : Slc H sz rows b) (kn : Kn H H' E L) (hE : ∀ l a c d, b = .vsl l a c d → l ∉ E.map Prod.fst) : Slc H' sz rows b := by
 obtain ⟨h1, h2, h3, h4⟩ := h
 cases b with
 | sl fl z rs => exact ⟨trivial, h2, h3, h4⟩
 | vsl l z st n =>
  simp only [Go.AE.okSl] at h1
  cases ho : H l with
  | vec y rs =>
   have := kn.chg l (by rw [ho]; simp) (hE l z st n rfl)
   refine ⟨?_, h2, ?_, h4⟩
   ·simp only [Go.AE.okSl, this]; exact h1
   ·simp only [Go.AE.rowsOf, this]; exact h3
  | _ => rw [ho] at h1; exact h1.elim
 | _ => exact h1.elim
end Go.AE
namespace Go.AE.Y
open Go.Proofs.Tryz
variable {H : Heap} {K : V → Heap → Prop}
end Go.AE.Y
namespace Go.AE
open Go.AE.Y
open Go.Proofs.Tryz
variable {H : Heap} {K : V → Heap → Prop}
theorem Slc.keep0 {H' : Heap} {sz : Nat} {rows : List (List C)} {b : C} {L : List (Nat × Obj)} (h : Slc H sz rows b) (kn : Kn H H' [] L) : Slc H' sz rows b := h.keep kn (by simp)
end Go.AE
namespace Go.AE.Y
open Go.Proofs.Tryz
variable {H : Heap} {K : V → Heap → Prop}
def Qas (nx : Nat → List Int) (b : Int) (n : Nat) : List Int := ((List.range n).filter fun i => (nx i).contains b).map Int.ofNat
theorem Qhh (nx : Nat → List Int) (b : Int) (n : Nat) : Qas nx b (n + 1) = Qas nx b n ++ if (nx n).contains b then [(n : Int)] else [] := by
 simp only [Qas, List.range_succ, List.filter_append, List.map_append]
 congr 1
 cases h : (nx n).contains b
 ·simp only [List.filter_cons, h, List.filter_nil]; rfl
 ·simp only [List.filter_cons, h, List.filter_nil, if_true]; rfl
theorem Qkv (nx : Nat → List Int) (b : Int) (n : Nat) : (Qas nx b n).length ≤ n := by
 simp only [Qas, List.length_map]
 exact Nat.le_trans (List.length_filter_le _ _) (by simp)
set_option maxHeartbeats 1000000 in
theorem Q52 {p rg : Int} {bc : C} {rows : List (List C)} {nx : Nat → List Int} {b : Int} (hs : Slc H 5 rows bc) (how : bc.isOw = false)
  (hx : ∀ i, i < rows.length → ∃ a1 a2 a3 a4 fl, rows.getD i [] = [a1, a2, a3, a4, .sl fl 1 (Qe (nx i))])
  (hK : ∀ H', Upd H H' [] → K (.c (.sl false 1 (Qe (Qas nx b rows.length)))) H') : Qp prog Qix [.ag [.int .i64 p, .int .i64 rg, bc], .c (.int .i64 b)] H K := by
 refine Q0 ?_
 refine Qb Qat Qa3m ?_
 refine Qa ?_
 simp only [go_sem, reduceIte, reduceEqDiff, reduceAdd, reduceLeDiff, reduceLT, reduceCtorEq]
 refine Qa ?_
 simp only [go_sem, reduceIte, reduceEqDiff, reduceAdd, reduceLeDiff, reduceLT, reduceCtorEq]
 refine Q4 ?_
 refine Qa ?_
 simp only [go_sem, reduceIte, reduceEqDiff, reduceAdd, reduceLeDiff, reduceLT, reduceCtorEq]
 have hlen := hs.len
 have hesz := hs.sz
 refine Qh (Qc (Qu (fun n e1 H1 => ∃ (i : Nat) (c : C) (Lg : List (Nat × Obj)), n = rows.length - i ∧ i ≤ rows.length ∧ Gr Lg 1 (Qe (Qas nx b i)) c ∧ Kn H H1 [] ([] ++ Lg) ∧
  e1 = [(1, .c (.int .i64 b)), (2, .c (.pp [.int .i64 p, .int .i64 rg, bc])), (5, .c c), (6, .c (.int .i64 i))]) rows.length ?_ ?_))
 ·exact ⟨0, _, [], by omega, by omega, .nil 1, Kn.start0 H, rfl⟩
 ·rintro n e1 H1 ⟨i, c, Lg, hn1, hi, hgr, kn, rfl⟩
  have hs1 := hs.keep0 kn
  have hok1 := eq_true hs1.ok
  have hrw1 := hs1.rows
  refine Q4 ?_
  refine Qa ?_
  simp only [go_sem, how, hok1, hlen, reduceIte, reduceEqDiff, reduceAdd, reduceLeDiff, reduceLT, reduceCtorEq]
  intro hl
  simp only [LIM] at hl
  refine Qh (Qd rfl ?_ ?_)
  ·intro hc
   have hlt : i < rows.length := by simpa using hc
   obtain ⟨a1, a2, a3, a4, fl, hrow⟩ := hx i hlt
   refine Qf ?_
   simp only [go_sem]
   have turn : ∀ (e : Env) (H2 : Heap) (c' : C) (Lg' : List (Nat × Obj)), lk 1 e = .c (.int .i64 b) → lk 2 e = .c (.pp [.int .i64 p, .int .i64 rg, bc]) → lk 5 e = .c c' → lk 6 e = .c (.int .i64 i) →
     Gr Lg' 1 (Qe (Qas nx b (i + 1))) c' → Kn H H2 [] ([] ++ Lg') →
     Qah prog Qaaj (X.next (fun e2 H2 => ∃ m, m < n ∧ ∃ (i : Nat) (c : C) (Lg : List (Nat × Obj)), m = rows.length - i ∧ i ≤ rows.length ∧ Gr Lg 1 (Qe (Qas nx b i)) c ∧ Kn H H2 [] ([] ++ Lg) ∧
      e2 = [(1, .c (.int .i64 b)), (2, .c (.pp [.int .i64 p, .int .i64 rg, bc])), (5, .c c), (6, .c (.int .i64 i))]) (X.inBlock 0 (X.sq prog Qaak (Qz Q6v fun x H' => ∃ x', FrzV H' (un H) x x' ∧ K x' (H'.frz (un H)))))) e H2 := by
    intro e H2 c' Lg' l1 l2 l5 l6 hg' kn'
    refine Qq ?_
    simp only [go_sem, l1, l2, l5, l6, X.next, reduceIte, reduceEqDiff, reduceAdd, reduceLeDiff, reduceLT, reduceCtorEq]
    exact ⟨Qo (by omega) (by omega), rows.length - (i + 1), by omega, i + 1, c', Lg', rfl, by omega, hg', by simpa using kn', rfl⟩
   refine Qh (Qc ?_)
   refine Qa ?_
   simp only [go_sem, reduceIte, reduceEqDiff, reduceAdd, reduceLeDiff, reduceLT, reduceCtorEq]
   refine Qc (Qu (fun n e1 H2 => ∃ (k : Nat), n = (nx i).length - k ∧ k ≤ (nx i).length ∧ b ∉ (nx i).take k ∧ H2 = H1 ∧ e1 = [(1, .c (.int .i64 b)), (2, .c (.pp [.int .i64 p, .int .i64 rg, bc])), (5, .c c), (6, .c (.int .i64 i)), (7, .c (.int .i64 k))]) (nx i).length ?_ ?_)
   ·exact ⟨0, by omega, by omega, by simp, rfl, rfl⟩
   ·rintro n e1 H2 ⟨k, hn2, hk, hno, rfl, rfl⟩
    refine Q4 ?_
    refine Qa ?_
    simp only [go_sem, how, hok1, hlen, hesz, hrw1, hlt, hrow, Qg, reduceIte, reduceEqDiff, reduceAdd, reduceLeDiff, reduceLT, reduceCtorEq]
    intro hl2
    simp only [LIM] at hl2
    refine Qh (Qd rfl ?_ ?_)
    ·intro hc
     have hlt2 : k < (nx i).length := by simpa using hc
     have hgd : (nx i).getD k 0 = (nx i)[k] := by simp [List.getD_eq_getElem?_getD, hlt2]
     refine Qf ?_
     simp only [go_sem]
     refine Qh (Qc ?_)
     refine Qa ?_
     simp only [go_sem, how, hok1, hlen, hesz, hrw1, hlt, hrow, hlt2, Qg, Q6 _ _ hlt2, hgd, reduceIte, reduceEqDiff, reduceAdd, reduceLeDiff, reduceLT, reduceCtorEq]
     refine Qd rfl ?_ ?_
     ·intro hc2
      have hb : (nx i)[k] = b := by simpa using hc2
      have hcon : (nx i).contains b = true := by rw [List.contains_iff_mem, ← hb]; exact List.getElem_mem hlt2
      refine Qa ?_
      simp only [go_sem, reduceIte, reduceEqDiff, reduceAdd, reduceLeDiff, reduceLT, reduceCtorEq]
      have hpl := Qkv nx b i
      refine kn.grow (B := []) (new := Qe [(i : Int)]) hgr (.mk' _ _ _ _) (Qx _) (by simp only [Qg, LIM, List.length_cons, List.length_nil]; omega) fun y' H3 kn => ?_
      simp only [go_sem, Q2c, reduceIte, reduceEqDiff, reduceAdd, reduceLeDiff, reduceLT, reduceCtorEq]
      refine Qt ?_
      have hib : ((2 : Nat) == 3) = false := rfl
      rw [Qa6c hib]
      simp only [go_sem, X.next]
      refine turn _ _ _ _ (by simp [lk]) (by simp [lk]) (by simp [lk]; rfl) (by simp [lk]) ?_ kn
      rw [Qhh, hcon, if_pos rfl, Qdb]
      exact .mk _ _ _ (by simp)
     ·intro hc2
      have hb : ¬ (nx i)[k] = b := by simpa using hc2
      refine Qf ?_
      simp only [go_sem]
      refine Qq ?_
      simp only [go_sem, X.next, reduceIte, reduceEqDiff, reduceAdd, reduceLeDiff, reduceLT, reduceCtorEq]
      refine ⟨Qo (by omega) (by omega), (nx i).length - (k + 1), by omega, k + 1, rfl, by omega, ?_, rfl⟩
      rw [List.take_succ_eq_append_getElem hlt2]
      simp only [List.mem_append, List.mem_singleton, not_or]
      exact ⟨hno, fun h => hb h.symm⟩
    ·intro hc
     have hge : (nx i).length ≤ k := by simpa using hc
     rw [List.take_of_length_le hge] at hno
     have hcon : (nx i).contains b = false := by
      cases hcc : (nx i).contains b with
      | false => rfl
      | true => exact absurd (List.contains_iff_mem.1 hcc) hno
     refine Qt ?_
     simp only [go_sem, X.next]
     refine turn _ _ _ _ (by simp [lk]) (by simp [lk]) (by simp [lk]; rfl) (by simp [lk]) ?_ kn
     rw [Qhh, hcon]
     simpa using hgr
  ·intro hc
   have hge : i = rows.length := by have : rows.length ≤ i := (by simpa using hc); omega
   subst hge
   refine Qt ?_
   simp only [go_sem, X.next]
   refine Qa ?_
   simp only [go_sem, reduceIte, reduceEqDiff, reduceAdd, reduceLeDiff, reduceLT, reduceCtorEq]
   refine Qj ?_
   simp only [go_sem, Qz, Qac, Q6v, reduceIte, List.mem_singleton, forall_eq, RS.op, reduceIte, reduceEqDiff, reduceAdd, reduceLeDiff, reduceLT, reduceCtorEq]
   exact ⟨_, .c _ _ (hgr.frz kn (Qx _)), hK _ kn.fin⟩
end Go.AE.Y

namespace Go.AE.Y
open Go.Proofs.Tryz
variable {H : Heap} {K : V → Heap → Prop}
def Qui (op : Int) : Int := if op = 1 then 0 else if op = 2 ∨ op = 10 ∨ op = 11 ∨ op = 13 then 1 else if (3 ≤ op ∧ op ≤ 9) ∨ op = 12 then 2 else -1
theorem Qaxt {op : Int} (hK : K (.c (.int .i64 (Qui op))) H) : Qp prog Qob [.c (.int .i64 op)] H K := by
 refine Qb Qat Qa7e ?_
 have retf : ∀ (n : Int) (e : Env), Qui op = n → lk 2 e = .c (.int .i64 n) → Qz Qajz K .ret e H := by
  intro b e h1 h3
  simp only [go_sem, Qz, Qac, Qajz, List.mem_singleton, forall_eq, RS.op, h3, reduceIte, reduceEqDiff, reduceAdd, reduceLeDiff, reduceLT, reduceCtorEq]
  rw [← h1]; exact hK
 refine Qa ?_
 simp only [go_sem, reduceIte, reduceEqDiff, reduceAdd, reduceLeDiff, reduceLT, reduceCtorEq]
 refine Qh (Qc ?_)
 refine Qa ?_
 simp only [go_sem, reduceIte, reduceEqDiff, reduceAdd, reduceLeDiff, reduceLT, reduceCtorEq]
 refine Qd rfl ?_ ?_
 ·intro hc
  refine Qa ?_
  simp only [go_sem, reduceIte, reduceEqDiff, reduceAdd, reduceLeDiff, reduceLT, reduceCtorEq]
  refine Qj ?_
  simp only [go_sem]
  exact retf 0 _ (by simp only [decide_eq_true_eq] at hc; simp [Qui, hc]) (by simp [lk])
 intro hc1
 refine Qa ?_
 simp only [go_sem, reduceIte, reduceEqDiff, reduceAdd, reduceLeDiff, reduceLT, reduceCtorEq]
 refine Qd rfl ?_ ?_
 ·intro hc
  refine Qa ?_
  simp only [go_sem, reduceIte, reduceEqDiff, reduceAdd, reduceLeDiff, reduceLT, reduceCtorEq]
  refine Qj ?_
  simp only [go_sem]
  exact retf 1 _ (by simp at hc1 hc; rw [Qui, if_neg hc1, if_pos (by omega)]) (by simp [lk])
 intro hc2
 refine Qa ?_
 simp only [go_sem, reduceIte, reduceEqDiff, reduceAdd, reduceLeDiff, reduceLT, reduceCtorEq]
 refine Qdc ?_
 simp only [go_sem, Q9u, reduceIte, reduceEqDiff, reduceAdd, reduceLeDiff, reduceLT, reduceCtorEq]
 refine Qd rfl ?_ ?_
 ·intro hc
  refine Qa ?_
  simp only [go_sem, reduceIte, reduceEqDiff, reduceAdd, reduceLeDiff, reduceLT, reduceCtorEq]
  refine Qj ?_
  simp only [go_sem]
  exact retf 2 _ (by simp at hc1 hc2 hc; rw [Qui, if_neg hc1, if_neg (by omega), if_pos (by omega)]) (by simp [lk])
 ·intro hc
  refine Qf ?_
  simp only [go_sem]
  refine Qa ?_
  simp only [go_sem, reduceIte, reduceEqDiff, reduceAdd, reduceLeDiff, reduceLT, reduceCtorEq]
  refine Qj ?_
  exact retf (-1) _ (by simp at hc1 hc2 hc; rw [Qui, if_neg hc1, if_neg (by omega), if_neg (by omega)]) (by simp [lk])
theorem argsN_in {op : Int} : -1 ≤ Qui op ∧ Qui op ≤ 2 := by
 rw [Qui]; split
 ·omega
 ·split
  ·omega
  ·split <;> omega
theorem Qa21 {op : Int} (hK : ∀ n : Int, -1 ≤ n → n ≤ 2 → K (.c (.int .i64 n)) H) : Qp prog Qob [.c (.int .i64 op)] H K := Qaxt (hK _ argsN_in.1 argsN_in.2)
def Qde (op : Int) : Bool := decide (1 ≤ op ∧ op ≤ 14) && !decide (op = 12) && !decide (op = 13)
theorem Qv6 {op : Int} (hK : K (.c (.bool (Qde op))) H) : Qp prog Qfu [.c (.int .i64 op)] H K := by
 refine Qb Qat Qa3l ?_
 refine Qa ?_
 simp only [go_sem, reduceIte, reduceEqDiff, reduceAdd, reduceLeDiff, reduceLT, reduceCtorEq]
 refine Qa ?_
 simp only [go_sem, reduceIte, reduceEqDiff, reduceAdd, reduceLeDiff, reduceLT, reduceCtorEq]
 refine Qdc ?_
 simp only [go_sem, Q2b, reduceIte, reduceEqDiff, reduceAdd, reduceLeDiff, reduceLT, reduceCtorEq]
 refine Qj ?_
 simp only [go_sem, Qz, Qac, Qano, reduceIte, List.mem_singleton, forall_eq, RS.op, reduceIte, reduceEqDiff, reduceAdd, reduceLeDiff, reduceLT, reduceCtorEq]
 have : ∀ a b c : Bool, (bif bif a then b else false then c else false) = (a && b && c) := by decide
 rw [this]; exact hK
def Qox (rg : Int) (l : List Int) : Bool := l.all fun x => decide (0 ≤ x ∧ x ≤ rg - 1)
theorem Qazn {rg : Int} {l : List Int} {i : Nat} (hi : i < l.length) : Qox rg (l.take (i + 1)) = (Qox rg (l.take i) && decide (0 ≤ l.getD i 0 ∧ l.getD i 0 ≤ rg - 1)) := by
 have e : l.getD i 0 = l[i] := by simp [List.getD_eq_getElem?_getD, hi]
 rw [Qox, List.take_succ_eq_append_getElem hi, List.all_append, e]; simp [Qox]
theorem Qa30 {rg : Int} {l : List Int} {i : Nat} (hi : i < l.length) (h : decide (0 ≤ l.getD i 0 ∧ l.getD i 0 ≤ rg - 1) = false) : Qox rg l = false := by
 have e : l.getD i 0 = l[i] := by simp [List.getD_eq_getElem?_getD, hi]
 cases hc : Qox rg l with
 | false => rfl
 | true =>
  rw [Qox, List.all_eq_true] at hc
  have := hc _ (List.getElem_mem hi)
  rw [e] at h
  rw [h] at this; exact absurd this (by simp)
theorem Qaxu {p rg : Int} {bc : C} {fl : Bool} {l : List Int} (hr : -(2^62) ≤ rg) (hr2 : rg ≤ 2^62) (hK : K (.c (.bool (Qox rg l))) H) :
  Qp prog Qv0 [.ag [.int .i64 p, .int .i64 rg, bc], .c (.sl fl 1 (Qe l))] H K := by
 refine Qb Qat Qa7i ?_
 have retf : ∀ (b : Bool) (e : Env), Qox rg l = b → lk 4 e = .c (.bool b) → Qz Qaj0 K .ret e H := by
  intro b e h1 h3
  simp only [go_sem, Qz, Qac, Qaj0, List.mem_singleton, forall_eq, RS.op, h3, reduceIte, reduceEqDiff, reduceAdd, reduceLeDiff, reduceLT, reduceCtorEq]
  rw [← h1]; exact hK
 refine Qa ?_
 simp only [go_sem, reduceIte, reduceEqDiff, reduceAdd, reduceLeDiff, reduceLT, reduceCtorEq]
 refine Q4 ?_
 refine Qa ?_
 simp only [go_sem, reduceIte, reduceEqDiff, reduceAdd, reduceLeDiff, reduceLT, reduceCtorEq]
 refine Qh (Qc (Qu (fun n e1 H1 => ∃ (i : Nat), n = l.length - i ∧ i ≤ l.length ∧ H1 = H ∧ Qox rg (l.take i) = true ∧ e1 = [(1, .c (.sl fl 1 (Qe l))), (2, .c (.pp [.int .i64 p, .int .i64 rg, bc])), (5, .c (.int .i64 i))]) l.length ?_ ?_))
 ·exact ⟨0, by omega, by omega, rfl, rfl, rfl⟩
 ·rintro n e1 H1 ⟨i, hn1, hi, rfl, hall, rfl⟩
  refine Q4 ?_
  refine Qa ?_
  simp only [go_sem, Qg, reduceIte, reduceEqDiff, reduceAdd, reduceLeDiff, reduceLT, reduceCtorEq]
  intro hl
  simp only [LIM] at hl
  refine Qh (Qd rfl ?_ ?_)
  ·intro hc
   have hlt : i < l.length := by simpa using hc
   refine Qf ?_
   simp only [go_sem]
   refine Qh (Qc ?_)
   refine Qan ?_
   simp only [go_sem, hlt, Qg, Q6 _ _ hlt, reduceIte, reduceEqDiff, reduceAdd, reduceLeDiff, reduceLT, reduceCtorEq]
   refine ⟨Qo (by omega) (by omega), ?_⟩
   refine Qdc ?_
   simp only [go_sem, Qaal, reduceIte, reduceEqDiff, reduceAdd, reduceLeDiff, reduceLT, reduceCtorEq]
   refine Qd rfl ?_ ?_
   ·intro hc2
    refine Qa ?_
    simp only [go_sem, reduceIte, reduceEqDiff, reduceAdd, reduceLeDiff, reduceLT, reduceCtorEq]
    refine Qj ?_
    simp only [go_sem, X.next]
    exact retf false _ (Qa30 hlt (Quv hc2)) (by simp [lk])
   ·intro hc2
    refine Qf ?_
    simp only [go_sem]
    refine Qq ?_
    simp only [go_sem, X.next, reduceIte, reduceEqDiff, reduceAdd, reduceLeDiff, reduceLT, reduceCtorEq]
    exact ⟨Qo (by omega) (by omega), l.length - (i + 1), by omega, i + 1, rfl, by omega, by rw [Qazn hlt, hall, Qg8 hc2]; rfl, rfl⟩
  ·intro hc
   have hge : l.length ≤ i := by simpa using hc
   rw [List.take_of_length_le hge] at hall
   refine Qt ?_
   simp only [go_sem, X.next]
   refine Qa ?_
   simp only [go_sem, reduceIte, reduceEqDiff, reduceAdd, reduceLeDiff, reduceLT, reduceCtorEq]
   refine Qj ?_
   exact retf true _ hall (by simp [lk])
def rgOf (cs : List CodeD) (k : Nat) : Int := (cs[k]?.map CodeD.regs).getD 0
def pmOf (cs : List CodeD) (k : Nat) : Int := (cs[k]?.map CodeD.params).getD 0
theorem Qasf {cs : List CodeD} {k : Nat} (h : k < cs.length) : rgOf cs k = cs[k].regs := by simp [rgOf, h]
theorem Qar9 {cs : List CodeD} {k : Nat} (h : k < cs.length) : pmOf cs k = cs[k].params := by simp [pmOf, h]
def insH (rg : Int) (x : InsD) : Bool := decide (1 ≤ x.op ∧ x.op ≤ 14) && Qox rg x.args
def insT (rg : Int) (x : InsD) : Bool := if Qde x.op then decide (0 ≤ x.to ∧ x.to ≤ rg - 1) else decide (x.to = -1)
def insL (cs : List CodeD) (k : Nat) (x : InsD) : Bool :=
 if x.op = 14 then decide (0 ≤ x.n ∧ x.n ≤ (k : Int) - 1) && decide ((x.args.length : Int) = pmOf cs x.n.toNat)
 else decide ((x.args.length : Int) = Qui x.op) && decide (0 ≤ x.n ∧ x.n ≤ 255) && (decide (x.n = 0) || decide (x.op = 1))
def insG (cs : List CodeD) (k : Nat) (x : InsD) : Bool := insH (rgOf cs k) x && insT (rgOf cs k) x && insL cs k x
set_option maxHeartbeats 1000000 in
theorem Qbai {cs : List CodeD} {fl : Bool} {k : Nat} {x : InsD} (hk : k < cs.length) (hr : 0 ≤ cs[k].regs) (hr2 : cs[k].regs ≤ 300) (hcl : cs.length ≤ 100) (hK : ∀ (H' : Heap), Upd H H' [] → K (.c (.bool (insG cs k x))) H') :
  Qp prog Qai0 [.ag [.sl fl 3 (Qm cs)], .c (.int .i64 k), .ag x.cells] H K := by
 refine Q0 ?_
 refine Qb Qat Qbau ?_
 refine Qa ?_
 simp only [go_sem, InsD.cells, reduceIte, reduceEqDiff, reduceAdd, reduceLeDiff, reduceLT, reduceCtorEq]
 refine Qa ?_
 simp only [go_sem, hk, Qs, Q7 _ _ hk, CodeD.cells, reduceIte, reduceEqDiff, reduceAdd, reduceLeDiff, reduceLT, reduceCtorEq]
 intro x7 hx7 H1 h1
 have kn := (Kn.start0 H).al hx7 h1
 have hx71 := kn.l 0 rfl
 simp only [go_sem, Qaie, hx71, reduceIte, reduceEqDiff, reduceAdd, reduceLeDiff, reduceLT, reduceCtorEq]
 intro H2 h2
 have kn := kn.stL 0 rfl h2
 have hx72 := kn.l 0 rfl
 have hrg := Qasf hk
 have retf : ∀ (b : Bool) (e : Env), insG cs k x = b → lk 6 e = .c (.bool b) → Qz Q6u (fun x H' => ∃ x', FrzV H' (un H) x x' ∧ K x' (H'.frz (un H))) .ret e H2 := by
  intro b e h1 h3
  simp only [go_sem, Qz, Qac, Q6u, List.mem_singleton, forall_eq, RS.op, h3, reduceIte, reduceEqDiff, reduceAdd, reduceLeDiff, reduceLT, reduceCtorEq]
  rw [← h1]; exact ⟨_, .c _ _ (Qi rfl), hK _ kn.fin⟩
 refine Q4 ?_
 refine Qa ?_
 simp only [go_sem, reduceIte, reduceEqDiff, reduceAdd, reduceLeDiff, reduceLT, reduceCtorEq]
 refine Qdc ?_
 simp only [go_sem, Qaif, hx72, reduceIte, reduceEqDiff, reduceAdd, reduceLeDiff, reduceLT, reduceCtorEq]
 have rest : ∀ (E1 : Env) (b : Bool), insH cs[k].regs x = (!b) → lk 1 E1 = .c (.int .i64 k) → lk 3 E1 = .c (.pp [.sl fl 3 (Qm cs)]) → lk 5 E1 = .c (.pp [.int .i64 x.op, .int .i64 x.to, .sl false 1 (Qe x.args), .int .i64 x.n]) → lk 7 E1 = .c (.ptr x7 0) → lk 23 E1 = .c (.bool b) →
   Qah prog (s_l7Ins_3.seq Qaid) (Qz Q6u (fun x H' => ∃ x', FrzV H' (un H) x x' ∧ K x' (H'.frz (un H)))) E1 H2 := by
  intro E1 b hb l1 l3 l5 l7 l23
  refine Qh (Qd l23 ?_ ?_)
  ·intro hc
   refine Qa ?_
   simp only [go_sem, reduceIte, reduceEqDiff, reduceAdd, reduceLeDiff, reduceLT, reduceCtorEq]
   refine Qj ?_
   simp only [go_sem]
   exact retf false _ (by rw [insG, hrg, hb, hc]; rfl) (by simp [lk])
  intro hc
  rw [hc] at hb
  refine Qf ?_
  simp only [go_sem]
  refine Q4 ?_
  refine Qan ?_
  simp only [go_sem, l1, l3, l5, l7, hx72, reduceIte, reduceEqDiff, reduceAdd, reduceLeDiff, reduceLT, reduceCtorEq]
  refine ⟨Qo (by omega) (by omega), ?_⟩
  refine Qv6 ?_
  simp only [go_sem, Qaih, l1, l3, l5, l7, hx72, reduceIte, reduceEqDiff, reduceAdd, reduceLeDiff, reduceLT, reduceCtorEq]
  refine Qdc ?_
  simp only [go_sem, Qaig, l1, l3, l5, l7, hx72, reduceIte, reduceEqDiff, reduceAdd, reduceLeDiff, reduceLT, reduceCtorEq]
  have rest2 : ∀ (E1 : Env) (b : Bool), insT cs[k].regs x = (!b) → lk 1 E1 = .c (.int .i64 k) → lk 3 E1 = .c (.pp [.sl fl 3 (Qm cs)]) → lk 5 E1 = .c (.pp [.int .i64 x.op, .int .i64 x.to, .sl false 1 (Qe x.args), .int .i64 x.n]) → lk 44 E1 = .c (.bool b) →
    Qah prog (s_l7Ins_7.seq Qaic) (Qz Q6u (fun x H' => ∃ x', FrzV H' (un H) x x' ∧ K x' (H'.frz (un H)))) E1 H2 := by
   intro E1 b hb2 l1 l3 l5 l44
   refine Qh (Qd l44 ?_ ?_)
   ·intro hc
    refine Qa ?_
    simp only [go_sem, reduceIte, reduceEqDiff, reduceAdd, reduceLeDiff, reduceLT, reduceCtorEq]
    refine Qj ?_
    simp only [go_sem]
    exact retf false _ (by rw [insG, hrg, hb2, hc]; simp) (by simp [lk])
   intro hc
   rw [hc] at hb2
   have hG : insG cs k x = insL cs k x := by rw [insG, hrg, hb, hb2]; rfl
   refine Qf ?_
   simp only [go_sem]
   refine Q4 ?_
   refine Qa ?_
   simp only [go_sem, l1, l3, l5, reduceIte, reduceEqDiff, reduceAdd, reduceLeDiff, reduceLT, reduceCtorEq]
   refine Qh (Qd rfl ?_ ?_)
   ·intro hc
    have hop : x.op = 14 := of_decide_eq_true hc
    rw [insL, if_pos hop] at hG
    refine Qan ?_
    simp only [go_sem, reduceIte, reduceEqDiff, reduceAdd, reduceLeDiff, reduceLT, reduceCtorEq]
    refine ⟨Qo (by omega) (by omega), ?_⟩
    refine Qdc ?_
    by_cases hin : 0 ≤ x.n ∧ x.n ≤ (k : Int) - 1
    ·obtain ⟨m, hm⟩ := Int.eq_ofNat_of_zero_le hin.1
     have hmk : m < cs.length := by omega
     have hin' : (0 ≤ (m : Int) ∧ (m : Int) ≤ (k : Int) - 1) = True := eq_true (by rw [← hm]; exact hin)
     simp only [go_sem, Qsf, hm, hin', hmk, decide_true, Qs, Q7 _ _ hmk, CodeD.cells, Qg, reduceIte, reduceEqDiff, reduceAdd, reduceLeDiff, reduceLT, reduceCtorEq]
     refine Qj ?_
     refine retf _ _ ?_ (by simp [lk]; rfl)
     rw [hG, hm, Int.toNat_natCast, Qar9 hmk]
     simp only [hin', decide_true, Bool.true_and]
     simp [show ((m : Int) ≤ (k : Int) - 1) from by omega]
    ·have hin' : decide (0 ≤ x.n ∧ x.n ≤ (k : Int) - 1) = false := by simpa using hin
     by_cases hm : x.n.toNat < cs.length
     ·simp only [go_sem, Qsf, hin', Q7 _ _ hm, CodeD.cells, reduceIte, reduceEqDiff, reduceAdd, reduceLeDiff, reduceLT, reduceCtorEq]
      refine Qj ?_
      exact retf false _ (by rw [hG, hin']; rfl) (by simp [lk])
     ·have hgd : (Qm cs).getD x.n.toNat [] = [] := by
       rw [List.getD_eq_getElem?_getD, List.getElem?_eq_none (by rw [Qs]; omega)]; rfl
      simp only [go_sem, Qsf, hin', hgd, List.take_nil, List.headD_nil, reduceIte, reduceEqDiff, reduceAdd, reduceLeDiff, reduceLT, reduceCtorEq]
      refine Qj ?_
      exact retf false _ (by rw [hG, hin']; rfl) (by simp [lk])
   ·intro hc
    have hop : ¬ x.op = 14 := of_decide_eq_false hc
    rw [insL, if_neg hop] at hG
    refine Qf ?_
    simp only [go_sem]
    refine Qan ?_
    simp only [go_sem, reduceIte, reduceEqDiff, reduceAdd, reduceLeDiff, reduceLT, reduceCtorEq]
    refine Qaxt ?_
    simp only [go_sem, Qaai, reduceIte, reduceEqDiff, reduceAdd, reduceLeDiff, reduceLT, reduceCtorEq]
    refine ⟨fun hb => ?_, fun hb => ?_⟩
    ·refine Qdc ?_
     simp only [go_sem, Qvk, reduceIte, reduceEqDiff, reduceAdd, reduceLeDiff, reduceLT, reduceCtorEq]
     refine Qj ?_
     refine retf _ _ ?_ (by simp [lk]; rfl)
     have hb' : (x.args.length : Int) = Qui x.op := by simpa [Qg] using hb
     rw [hG]; simp [hb', Qg]
    ·simp only [go_sem, Qvk, hb, reduceIte, reduceEqDiff, reduceAdd, reduceLeDiff, reduceLT, reduceCtorEq]
     refine Qj ?_
     refine retf _ _ ?_ (by simp [lk]; rfl)
     have hb' : ¬ (x.args.length : Int) = Qui x.op := by simpa [Qg] using hb
     rw [hG]; simp [hb']
  refine ⟨fun hb => ?_, fun hb => ?_⟩
  ·refine Qv6 ?_
   simp only [go_sem, Qz1, l1, l3, l5, l7, reduceIte, reduceEqDiff, reduceAdd, reduceLeDiff, reduceLT, reduceCtorEq]
   refine rest2 _ _ ?_ (by simp [lk]) (by simp [lk]) (by simp [lk]) (by simp [lk]; rfl)
   cases hmk : Qde x.op with
   | true => simp [insT, hmk]
   | false => by_cases h : x.to = -1 <;> simp [insT, hmk, h]
  ·replace hb := Qg8 hb
   simp only [go_sem, Qz1, l1, l3, l5, l7, hb, reduceIte, reduceEqDiff, reduceAdd, reduceLeDiff, reduceLT, reduceCtorEq]
   refine rest2 _ true ?_ (by simp [lk]) (by simp [lk]) (by simp [lk]) (by simp [lk])
   cases hmk : Qde x.op with
   | true => simp [hmk] at hb; simp [insT, hmk]; omega
   | false => simp [hmk] at hb; simp [insT, hmk]; omega
 refine ⟨fun hb => ?_, fun hb => ?_⟩
 ·refine Qaxu (by omega) (by omega) ?_
  simp only [go_sem, Qz0, reduceIte, reduceEqDiff, reduceAdd, reduceLeDiff, reduceLT, reduceCtorEq]
  refine rest _ _ ?_ (by simp [lk]) (by simp [lk]) (by simp [lk]) (by simp [lk]) (by simp [lk]; rfl)
  simp [insH]
 ·replace hb := Qg8 hb
  simp only [go_sem, Qz0, hb, reduceIte, reduceEqDiff, reduceAdd, reduceLeDiff, reduceLT, reduceCtorEq]
  refine rest _ true ?_ (by simp [lk]) (by simp [lk]) (by simp [lk]) (by simp [lk]) (by simp [lk])
  rw [insH, Quv hb]; rfl
end Go.AE.Y

namespace Go.AE.Y
open Go.Proofs.Tryz
variable {H : Heap} {K : V → Heap → Prop}
theorem InsD.take4 (x : InsD) : x.cells.take 4 = x.cells := rfl
theorem InsD.allOw (x : InsD) : (x.cells.all fun c => !c.isOw) = true := rfl
theorem InsD.len4 (x : InsD) : x.cells.length = 4 := rfl
theorem Qa9l (l : List BlkD) (i : Nat) (h : i < (Ql l).length) : ∃ a1 a2 a3 a4 fl, (Ql l).getD i [] = [a1, a2, a3, a4, .sl fl 1 (Qe ((l.map BlkD.next).getD i []))] := by
 rw [Qn] at h
 rw [Q5 _ _ h]
 have : (l.map BlkD.next).getD i [] = l[i].next := by simp [List.getD_eq_getElem?_getD, h]
 exact ⟨.sl false 2 (Q1 l[i].phis), .sl false 4 (Qaj l[i].ins), .int .i64 l[i].jump, .int .i64 l[i].on, false, by rw [this]; rfl⟩
set_option maxHeartbeats 3000000 in
theorem Q4u {α : Type} {p : α → Bool} {l : List α} {i : Nat} (hi : i < l.length) : (l.take (i + 1)).all p = ((l.take i).all p && p l[i]) := by
 rw [List.take_succ_eq_append_getElem hi, List.all_append]; simp
theorem Qaiq {α : Type} {p : α → Bool} {l : List α} {i : Nat} (hi : i < l.length) (h : p l[i] = false) : l.all p = false := by
 cases hc : l.all p with
 | false => rfl
 | true => rw [List.all_eq_true.1 hc _ (List.getElem_mem hi)] at h; exact absurd h (by simp)
def Qm5 (j : Int) : Int := if j = 1 then 1 else if j = 2 then 2 else if j = 3 then 0 else -1
def Qsh (rg : Int) (y : BlkD) : Bool := decide ((y.next.length : Int) = Qm5 y.jump) && if y.jump = 1 then decide (y.on = 0) else decide (0 ≤ y.on ∧ y.on ≤ rg - 1)
def Q2w (n : Nat) (x : Int) : Bool := decide (1 ≤ x ∧ x ≤ (n : Int) - 1)
def phiG (rg : Int) (np b : Nat) (x : PhiD) : Bool := !decide (b = 0) && decide ((x.args.length : Int) = np) && Qox rg x.args && decide (0 ≤ x.to ∧ x.to ≤ rg - 1)
def blkG (cs : List CodeD) (k b : Nat) (q : CodeD) (y : BlkD) : Bool :=
 Qsh q.regs y && y.next.all (Q2w (Ql q.blocks).length) && y.ins.all (insG cs k) && y.phis.all (phiG q.regs (Qas (fun i => (q.blocks.map BlkD.next).getD i []) (b : Int) (Ql q.blocks).length).length b)
theorem Qa13 {cs : List CodeD} {k b : Nat} {q : CodeD} {y : BlkD} (h : blkG cs k b q y = true) : y.next.length ≤ 2 := by
 simp only [blkG, Qsh, Bool.and_eq_true, decide_eq_true_eq] at h
 have := h.1.1.1.1
 rw [Qm5] at this
 split at this
 ·omega
 ·split at this
  ·omega
  ·split at this <;> omega
set_option maxHeartbeats 1000000 in
theorem Qa22 {cs : List CodeD} {fl : Bool} {k b : Nat} (hk : k < cs.length) (hbk : b < cs[k].blocks.length) (hr : 0 ≤ cs[k].regs) (hr2 : cs[k].regs ≤ 300) (hcl : cs.length ≤ 100) (hbl : cs[k].blocks.length ≤ 200) (hK : ∀ (H' : Heap), Upd H H' [] → K (.c (.bool (blkG cs k b cs[k] cs[k].blocks[b]))) H') :
  Qp prog Qyl [.ag [.sl fl 3 (Qm cs)], .c (.int .i64 k), .c (.int .i64 b)] H K := by
 refine Q0 ?_
 refine Qb Qat Qa3k ?_
 have retf : ∀ (v : Bool) (e : Env) (H' : Heap) (L : List (Nat × Obj)), blkG cs k b cs[k] cs[k].blocks[b] = v → Kn H H' [] L → lk 6 e = .c (.bool v) → Qz Qja (fun x H' => ∃ x', FrzV H' (un H) x x' ∧ K x' (H'.frz (un H))) .ret e H' := by
  intro v e H' L hb kn h3
  simp only [go_sem, Qz, Qac, Qja, List.mem_singleton, forall_eq, RS.op, h3, reduceIte, reduceEqDiff, reduceAdd, reduceLeDiff, reduceLT, reduceCtorEq]
  rw [← hb]; exact ⟨_, .c _ _ (Qi rfl), hK _ kn.fin⟩
 refine Qa ?_
 simp only [go_sem, reduceIte, reduceEqDiff, reduceAdd, reduceLeDiff, reduceLT, reduceCtorEq]
 refine Qa ?_
 simp only [go_sem, hk, Qs, Q7 _ _ hk, CodeD.cells, reduceIte, reduceEqDiff, reduceAdd, reduceLeDiff, reduceLT, reduceCtorEq]
 intro x7 hx7 H1 h1
 have kn := (Kn.start0 H).al hx7 h1
 have hx71 := kn.l 0 rfl
 simp only [go_sem, Q12, hx71, reduceIte, reduceEqDiff, reduceAdd, reduceLeDiff, reduceLT, reduceCtorEq]
 intro H2 h2
 have kn := kn.stL 0 rfl h2
 have hx72 := kn.l 0 rfl
 refine Qa ?_
 simp only [go_sem, hx72, hbk, Qn, Q5 _ _ hbk, BlkD.cells, reduceIte, reduceEqDiff, reduceAdd, reduceLeDiff, reduceLT, reduceCtorEq]
 obtain ⟨y, hy⟩ : ∃ y, cs[k].blocks[b] = y := ⟨_, rfl⟩
 rw [hy]
 intro x8 hx8 H3 h3
 have kn := kn.al hx8 h3
 have hx83 := kn.l 1 rfl
 simp only [go_sem, Q13, hx83, reduceIte, reduceEqDiff, reduceAdd, reduceLeDiff, reduceLT, reduceCtorEq]
 intro H4 h4
 have kn : Kn H H4 [] [(x7, .st [.int .i64 cs[k].params, .int .i64 cs[k].regs, .sl false 5 (Ql cs[k].blocks)]), (x8, .st [.sl false 2 (Q1 y.phis), .sl false 4 (Qaj y.ins), .int .i64 y.jump, .int .i64 y.on, .sl false 1 (Qe y.next)])] := kn.stL 1 rfl h4
 obtain ⟨q, hq⟩ : ∃ q, cs[k] = q := ⟨_, rfl⟩
 have hGe : blkG cs k b cs[k] cs[k].blocks[b] = blkG cs k b q y := by rw [hy, hq]
 rw [hGe] at retf
 rw [hq] at kn hr hr2 hbk hbl
 generalize hnp : (Qas (fun i => (q.blocks.map BlkD.next).getD i []) (b : Int) (Ql q.blocks).length).length = np
 have hGd : blkG cs k b q y = (Qsh q.regs y && y.next.all (Q2w (Ql q.blocks).length) && y.ins.all (insG cs k) && y.phis.all (phiG q.regs np b)) := by rw [blkG, hnp]
 refine Qa ?_
 simp only [go_sem, reduceIte, reduceEqDiff, reduceAdd, reduceLeDiff, reduceLT, reduceCtorEq]
 have hx74 := kn.l 0 rfl
 have hx84 := kn.l 1 rfl
 refine Q4 ?_
 refine Qa ?_
 simp only [go_sem, hx84, reduceIte, reduceEqDiff, reduceAdd, reduceLeDiff, reduceLT, reduceCtorEq]
 have rest31 : ∀ (want : Int) (E1 : Env), Qm5 y.jump = want → (y.jump = 1 → y.on = 0) → lk 1 E1 = .c (.int .i64 k) → lk 2 E1 = .c (.int .i64 b) → lk 3 E1 = .c (.pp [.sl fl 3 (Qm cs)]) → lk 7 E1 = .c (.ptr x7 0) → lk 8 E1 = .c (.ptr x8 0) → lk 9 E1 = .c (.int .i64 want) →
   Qah prog Q11 (Qz Qja (fun x H' => ∃ x', FrzV H' (un H) x x' ∧ K x' (H'.frz (un H)))) E1 H4 := by
  intro want E1 hw hjo l1 l2 l3 l7 l8 l9
  refine Q4 ?_
  refine Qa ?_
  simp only [go_sem, l1, l2, l3, l7, l8, l9, hx74, hx84, Qg, reduceIte, reduceEqDiff, reduceAdd, reduceLeDiff, reduceLT, reduceCtorEq]
  intro hnl
  simp only [LIM] at hnl
  refine ⟨fun _ => Qo (by omega) (by omega), ?_⟩
  have rest8 : ∀ (b1 : Bool) (E1 : Env), Qsh q.regs y = (!b1) → lk 1 E1 = .c (.int .i64 k) → lk 2 E1 = .c (.int .i64 b) → lk 3 E1 = .c (.pp [.sl fl 3 (Qm cs)]) → lk 7 E1 = .c (.ptr x7 0) → lk 8 E1 = .c (.ptr x8 0) → lk 53 E1 = .c (.bool b1) →
    Qah prog (s_l7Block_8.seq Q10) (Qz Qja (fun x H' => ∃ x', FrzV H' (un H) x x' ∧ K x' (H'.frz (un H)))) E1 H4 := by
   intro b1 E1 hn2 l1 l2 l3 l7 l8 l53
   refine Qh (Qd l53 ?_ ?_)
   ·intro hc
    refine Qa ?_
    simp only [go_sem, reduceIte, reduceEqDiff, reduceAdd, reduceLeDiff, reduceLT, reduceCtorEq]
    refine Qj ?_
    simp only [go_sem]
    exact retf false _ _ _ (by rw [hGd, hn2, hc]; simp) kn (by simp [lk])
   intro hbf
   rw [hbf] at hn2
   refine Qf ?_
   simp only [go_sem]
   refine Q4 ?_
   refine Qa ?_
   simp only [go_sem, l1, l2, l3, l7, l8, reduceIte, reduceEqDiff, reduceAdd, reduceLeDiff, reduceLT, reduceCtorEq]
   refine Qh (Qc (Qu (fun n e1 H1 => ∃ (i : Nat), n = y.next.length - i ∧ i ≤ y.next.length ∧ H1 = H4 ∧ (y.next.take i).all (Q2w (Ql q.blocks).length) = true ∧ e1 = [(1, .c (.int .i64 k)), (2, .c (.int .i64 b)), (3, .c (.pp [.sl fl 3 (Qm cs)])), (7, .c (.ptr x7 0)), (8, .c (.ptr x8 0)), (10, .c (.int .i64 i))]) y.next.length ?_ ?_))
   ·exact ⟨0, by omega, by omega, rfl, rfl, rfl⟩
   ·rintro n e1 H1 ⟨i, hn1, hi, rfl, hall1, rfl⟩
    refine Q4 ?_
    refine Qa ?_
    simp only [go_sem, hx84, Qg, reduceIte, reduceEqDiff, reduceAdd, reduceLeDiff, reduceLT, reduceCtorEq]
    refine fun _ => ?_
    refine Qh (Qd rfl ?_ ?_)
    ·intro hc
     have hlt : i < y.next.length := by simpa using hc
     have hgd : y.next.getD i 0 = y.next[i] := by simp [List.getD_eq_getElem?_getD, hlt]
     have hng : Q2w (Ql q.blocks).length y.next[i] = decide (1 ≤ y.next.getD i 0 ∧ y.next.getD i 0 ≤ (q.blocks.length : Int) - 1) := by rw [hgd, Q2w, Qn]
     refine Qf ?_
     simp only [go_sem]
     refine Qh (Qc ?_)
     refine Qan ?_
     simp only [go_sem, hx84, hx74, hlt, Qg, Q6 _ _ hlt, Qn, reduceIte, reduceEqDiff, reduceAdd, reduceLeDiff, reduceLT, reduceCtorEq]
     refine ⟨Qo (by omega) (by omega), ?_⟩
     refine Qdc ?_
     simp only [go_sem, Q14, reduceIte, reduceEqDiff, reduceAdd, reduceLeDiff, reduceLT, reduceCtorEq]
     refine Qd rfl ?_ ?_
     ·intro hc2
      refine Qa ?_
      simp only [go_sem, reduceIte, reduceEqDiff, reduceAdd, reduceLeDiff, reduceLT, reduceCtorEq]
      refine Qj ?_
      simp only [go_sem, X.next]
      exact retf false _ _ _ (by rw [hGd, Qaiq hlt (by rw [hng]; exact Quv hc2)]; simp) kn (by simp [lk])
     ·intro hc2
      refine Qf ?_
      simp only [go_sem]
      refine Qq ?_
      simp only [go_sem, X.next, reduceIte, reduceEqDiff, reduceAdd, reduceLeDiff, reduceLT, reduceCtorEq]
      exact ⟨Qo (by omega) (by omega), y.next.length - (i + 1), by omega, i + 1, rfl, by omega, by rw [Q4u hlt, ← Qn q.blocks, hall1, hng, Qg8 hc2]; rfl, rfl⟩
    ·intro hc
     have hge : y.next.length ≤ i := by simpa using hc
     rw [List.take_of_length_le hge] at hall1
     refine Qt ?_
     simp only [go_sem, X.next]
     refine Q4 ?_
     refine Qa ?_
     simp only [go_sem, reduceIte, reduceEqDiff, reduceAdd, reduceLeDiff, reduceLT, reduceCtorEq]
     refine Qh (Qc (Qu (fun n e1 H1 => ∃ (i : Nat), n = y.ins.length - i ∧ i ≤ y.ins.length ∧ Kn H H1 [] [(x7, .st [.int .i64 q.params, .int .i64 q.regs, .sl false 5 (Ql q.blocks)]), (x8, .st [.sl false 2 (Q1 y.phis), .sl false 4 (Qaj y.ins), .int .i64 y.jump, .int .i64 y.on, .sl false 1 (Qe y.next)])] ∧ (y.ins.take i).all (insG cs k) = true ∧
      e1 = [(1, .c (.int .i64 k)), (2, .c (.int .i64 b)), (3, .c (.pp [.sl fl 3 (Qm cs)])), (7, .c (.ptr x7 0)), (8, .c (.ptr x8 0)), (11, .c (.int .i64 i))]) y.ins.length ?_ ?_))
     ·exact ⟨0, by omega, by omega, kn, rfl, rfl⟩
     ·rintro n e1 H5 ⟨i, hn1, hi, kn, hall2, rfl⟩
      have hx75 := kn.l 0 rfl
      have hx85 := kn.l 1 rfl
      refine Q4 ?_
      refine Qa ?_
      simp only [go_sem, hx85, Qab, reduceIte, reduceEqDiff, reduceAdd, reduceLeDiff, reduceLT, reduceCtorEq]
      intro hil
      simp only [LIM] at hil
      refine Qh (Qd rfl ?_ ?_)
      ·intro hc
       have hlt : i < y.ins.length := by simpa using hc
       refine Qf ?_
       simp only [go_sem]
       refine Qh (Qc ?_)
       refine Qan ?_
       simp only [go_sem, hx85, hx75, hlt, Qab, Qa9 _ _ hlt, InsD.take4, InsD.allOw, InsD.len4, reduceIte, reduceEqDiff, reduceAdd, reduceLeDiff, reduceLT, reduceCtorEq]
       refine Qbai hk (by rw [hq]; omega) (by rw [hq]; omega) hcl fun H6 hu => ?_
       have kn := kn.call0 hu
       simp only [go_sem, Qxt, reduceIte, reduceEqDiff, reduceAdd, reduceLeDiff, reduceLT, reduceCtorEq]
       refine Qd rfl ?_ ?_
       ·intro hc2
        refine Qa ?_
        simp only [go_sem, reduceIte, reduceEqDiff, reduceAdd, reduceLeDiff, reduceLT, reduceCtorEq]
        refine Qj ?_
        simp only [go_sem, X.next]
        exact retf false _ _ _ (by rw [hGd, Qaiq hlt (Quv hc2)]; simp) kn (by simp [lk])
       ·intro hc2
        refine Qf ?_
        simp only [go_sem]
        refine Qq ?_
        simp only [go_sem, X.next, reduceIte, reduceEqDiff, reduceAdd, reduceLeDiff, reduceLT, reduceCtorEq]
        exact ⟨Qo (by omega) (by omega), y.ins.length - (i + 1), by omega, i + 1, rfl, by omega, kn, by rw [Q4u hlt, hall2, Qg8 hc2]; rfl, rfl⟩
      ·intro hc
       have hge : y.ins.length ≤ i := by simpa using hc
       rw [List.take_of_length_le hge] at hall2
       refine Qt ?_
       simp only [go_sem, X.next]
       refine Qa ?_
       simp only [go_sem, hx75, reduceIte, reduceEqDiff, reduceAdd, reduceLeDiff, reduceLT, reduceCtorEq]
       refine Q52 (rows := Ql q.blocks) (nx := fun i => (q.blocks.map BlkD.next).getD i []) (.mk' _ _ _ _) rfl (Qa9l q.blocks) fun H6 hu => ?_
       have kn := kn.call0 hu
       simp only [go_sem, Qxu, reduceIte, reduceEqDiff, reduceAdd, reduceLeDiff, reduceLT, reduceCtorEq]
       refine Q4 ?_
       refine Qa ?_
       simp only [go_sem, reduceIte, reduceEqDiff, reduceAdd, reduceLeDiff, reduceLT, reduceCtorEq]
       obtain ⟨ps, hps⟩ : ∃ ps, Qas (fun i => (q.blocks.map BlkD.next).getD i []) (b : Int) (Ql q.blocks).length = ps := ⟨_, rfl⟩
       rw [hps]
       rw [hps] at hnp
       have hx76 := kn.l 0 rfl
       have hx86 := kn.l 1 rfl
       refine Qh (Qc (Qu (fun n e1 H1 => ∃ (i : Nat), n = y.phis.length - i ∧ i ≤ y.phis.length ∧ H1 = H6 ∧ (y.phis.take i).all (phiG q.regs np b) = true ∧
        e1 = [(2, .c (.int .i64 b)), (7, .c (.ptr x7 0)), (8, .c (.ptr x8 0)), (12, .c (.sl false 1 (Qe ps))), (13, .c (.int .i64 i))]) y.phis.length ?_ ?_))
       ·exact ⟨0, by omega, by omega, rfl, rfl, rfl⟩
       ·rintro n e1 H7 ⟨i, hn1, hi, rfl, hall3, rfl⟩
        refine Q4 ?_
        refine Qa ?_
        simp only [go_sem, hx86, Qy, reduceIte, reduceEqDiff, reduceAdd, reduceLeDiff, reduceLT, reduceCtorEq]
        intro hpl
        simp only [LIM] at hpl
        refine Qh (Qd rfl ?_ ?_)
        ·intro hc
         have hlt : i < y.phis.length := by simpa using hc
         refine Qf ?_
         simp only [go_sem]
         refine Qh (Qc ?_)
         have fin : ∀ (b3 : Bool) (E1 : Env), phiG q.regs np b y.phis[i] = (!b3) → lk 2 E1 = .c (.int .i64 b) → lk 7 E1 = .c (.ptr x7 0) → lk 8 E1 = .c (.ptr x8 0) → lk 12 E1 = .c (.sl false 1 (Qe ps)) → lk 13 E1 = .c (.int .i64 i) → lk 135 E1 = .c (.bool b3) →
           Qah prog Q1x (X.inBlock 6 (X.sq prog Q1y (X.next (fun e2 H2 => ∃ m, m < n ∧ ∃ (i : Nat), m = y.phis.length - i ∧ i ≤ y.phis.length ∧ H2 = H7 ∧ (y.phis.take i).all (phiG q.regs np b) = true ∧
            e2 = [(2, .c (.int .i64 b)), (7, .c (.ptr x7 0)), (8, .c (.ptr x8 0)), (12, .c (.sl false 1 (Qe ps))), (13, .c (.int .i64 i))]) (X.inBlock 5 (X.sq prog Q1z (Qz Qja (fun x H' => ∃ x', FrzV H' (un H) x x' ∧ K x' (H'.frz (un H))))))))) E1 H7 := by
          intro b3 E1 hph l2 l7 l8 l12 l13 l135
          refine Qd l135 ?_ ?_
          ·intro hc2
           refine Qa ?_
           simp only [go_sem, reduceIte, reduceEqDiff, reduceAdd, reduceLeDiff, reduceLT, reduceCtorEq]
           refine Qj ?_
           simp only [go_sem, X.next]
           exact retf false _ _ _ (by rw [hGd, Qaiq hlt (by rw [hph, hc2]; rfl)]; simp) kn (by simp [lk])
          ·intro hc2
           refine Qf ?_
           simp only [go_sem]
           refine Qq ?_
           simp only [go_sem, X.next, l2, l7, l8, l12, l13, reduceIte, reduceEqDiff, reduceAdd, reduceLeDiff, reduceLT, reduceCtorEq]
           exact ⟨Qo (by omega) (by omega), y.phis.length - (i + 1), by omega, i + 1, rfl, by omega, by rw [Q4u hlt, hall3, hph, hc2]; rfl, rfl⟩
         refine Qan ?_
         simp only [go_sem, hx86, hx76, hlt, Qy, Qa2 _ _ hlt, PhiD.cells, Qg, reduceIte, reduceEqDiff, reduceAdd, reduceLeDiff, reduceLT, reduceCtorEq]
         refine ⟨fun hb1 => ?_, fun hb1 => ?_⟩
         ·refine Qaxu (by omega) (by omega) ?_
          simp only [go_sem, Qld, hx86, hx76, hlt, Qy, Qa2 _ _ hlt, PhiD.cells, reduceIte, reduceEqDiff, reduceAdd, reduceLeDiff, reduceLT, reduceCtorEq]
          refine ⟨fun _ => Qo (by omega) (by omega), ?_⟩
          refine ⟨fun hb2 => ?_, fun hb2 => ?_⟩
          ·refine Qdc ?_
           simp only [go_sem, Qfm, reduceIte, reduceEqDiff, reduceAdd, reduceLeDiff, reduceLT, reduceCtorEq]
           refine fin _ _ ?_ (by simp [lk]) (by simp [lk]) (by simp [lk]) (by simp [lk]) (by simp [lk]) (by simp [lk]; rfl)
           simp [phiG, ← hnp]
          ·replace hb2 := Qg8 hb2
           simp only [go_sem, Qfm, hb2, reduceIte, reduceEqDiff, reduceAdd, reduceLeDiff, reduceLT, reduceCtorEq]
           refine fin true _ ?_ (by simp [lk]) (by simp [lk]) (by simp [lk]) (by simp [lk]) (by simp [lk]) (by simp [lk])
           subst hnp
           simp at hb2
           simp [phiG]
           intro h1 h2 h3
           simp [h1, h2, h3] at hb2
         ·replace hb1 := Qg8 hb1
          simp only [go_sem, Qld, Qfm, hb1, hx86, hx76, hlt, Qy, Qa2 _ _ hlt, PhiD.cells, reduceIte, reduceEqDiff, reduceAdd, reduceLeDiff, reduceLT, reduceCtorEq]
          refine fin true _ ?_ (by simp [lk]) (by simp [lk]) (by simp [lk]) (by simp [lk]) (by simp [lk]) (by simp [lk])
          subst hnp
          simp at hb1
          simp [phiG]
          intro h1 h2 h3
          simp [h1, h2] at hb1
        ·intro hc
         have hge : y.phis.length ≤ i := by simpa using hc
         rw [List.take_of_length_le hge] at hall3
         refine Qt ?_
         simp only [go_sem, X.next]
         refine Qa ?_
         simp only [go_sem, reduceIte, reduceEqDiff, reduceAdd, reduceLeDiff, reduceLT, reduceCtorEq]
         refine Qj ?_
         exact retf true _ _ _ (by rw [hGd, hn2, hall1, hall2, hall3]; rfl) kn (by simp [lk])
  refine ⟨fun hb1 => ?_, fun hb1 => ?_⟩
  ·refine Qdc ?_
   simp only [go_sem, Qhy, hb1, l1, l2, l3, l7, l8, reduceIte, reduceEqDiff, reduceAdd, reduceLeDiff, reduceLT, reduceCtorEq]
   refine rest8 _ _ ?_ (by simp [lk]) (by simp [lk]) (by simp [lk]) (by simp [lk]) (by simp [lk]) (by simp [lk]; rfl)
   by_cases hlw : (y.next.length : Int) = want
   ·by_cases hj : y.jump = 1
    ·simp [hlw, hj] at hb1
    ·simp [Qsh, hw, hlw, hj]
   ·simp [hlw] at hb1
  ·by_cases hlw : (y.next.length : Int) = want
   ·by_cases hj : y.jump = 1
    ·simp only [go_sem, Qhy, hlw, hj, l1, l2, l3, l7, l8, decide_true, decide_false, cond_true, cond_false, reduceIte, reduceEqDiff, reduceAdd, reduceLeDiff, reduceLT, reduceCtorEq]
     have hw1 : Qm5 1 = want := by rw [← hj]; exact hw
     refine rest8 _ _ ?_ (by simp [lk]) (by simp [lk]) (by simp [lk]) (by simp [lk]) (by simp [lk]) (by simp [lk]; rfl)
     simp [Qsh, hw1, hlw, hj, hjo hj]
    ·simp [hlw, hj] at hb1
   ·simp only [go_sem, Qhy, hlw, l1, l2, l3, l7, l8, decide_true, decide_false, cond_true, cond_false, reduceIte, reduceEqDiff, reduceAdd, reduceLeDiff, reduceLT, reduceCtorEq]
    by_cases hj : y.jump = 1
    ·simp only [go_sem, hj, decide_true, decide_false, cond_true, cond_false, reduceIte, reduceEqDiff, reduceAdd, reduceLeDiff, reduceLT, reduceCtorEq]
     exact rest8 true _ (by simp [Qsh, hw, hlw]) (by simp [lk]) (by simp [lk]) (by simp [lk]) (by simp [lk]) (by simp [lk]) (by simp [lk])
    ·simp only [go_sem, hj, decide_true, decide_false, cond_true, cond_false, reduceIte, reduceEqDiff, reduceAdd, reduceLeDiff, reduceLT, reduceCtorEq]
     exact rest8 true _ (by simp [Qsh, hw, hlw]) (by simp [lk]) (by simp [lk]) (by simp [lk]) (by simp [lk]) (by simp [lk]) (by simp [lk])
 refine Qh (Qc ?_)
 refine Qa ?_
 simp only [go_sem, reduceIte, reduceEqDiff, reduceAdd, reduceLeDiff, reduceLT, reduceCtorEq]
 refine Qd rfl ?_ ?_
 ·intro hc
  refine Qa ?_
  simp only [go_sem, hx84, reduceIte, reduceEqDiff, reduceAdd, reduceLeDiff, reduceLT, reduceCtorEq]
  refine Qd rfl ?_ ?_
  ·intro hc2
   refine Qa ?_
   simp only [go_sem, reduceIte, reduceEqDiff, reduceAdd, reduceLeDiff, reduceLT, reduceCtorEq]
   refine Qj ?_
   simp only [go_sem]
   exact retf false _ _ _ (by simp at hc hc2; rw [hGd]; simp [Qsh, hc, hc2]) kn (by simp [lk])
  ·intro hc2
   refine Qf ?_
   simp only [go_sem]
   exact rest31 1 _ (by simp at hc; simp [Qm5, hc]) (fun _ => by simpa using hc2) (by simp [lk]) (by simp [lk]) (by simp [lk]) (by simp [lk]) (by simp [lk]) (by simp [lk])
 intro hc1
 refine Qa ?_
 simp only [go_sem, reduceIte, reduceEqDiff, reduceAdd, reduceLeDiff, reduceLT, reduceCtorEq]
 refine Qd rfl ?_ ?_
 ·intro hc
  refine Qq ?_
  simp only [go_sem, reduceIte, reduceEqDiff, reduceAdd, reduceLeDiff, reduceLT, reduceCtorEq]
  exact rest31 2 _ (by simp at hc; simp [Qm5, hc]) (fun h => by simp at hc1; exact absurd h hc1) (by simp [lk]) (by simp [lk]) (by simp [lk]) (by simp [lk]) (by simp [lk]) (by simp [lk])
 intro hc2
 refine Qa ?_
 simp only [go_sem, reduceIte, reduceEqDiff, reduceAdd, reduceLeDiff, reduceLT, reduceCtorEq]
 refine Qd rfl ?_ ?_
 ·intro hc
  refine Qq ?_
  simp only [go_sem, reduceIte, reduceEqDiff, reduceAdd, reduceLeDiff, reduceLT, reduceCtorEq]
  exact rest31 0 _ (by simp at hc; simp [Qm5, hc]) (fun h => by simp at hc1; exact absurd h hc1) (by simp [lk]) (by simp [lk]) (by simp [lk]) (by simp [lk]) (by simp [lk]) (by simp [lk])
 ·intro hc
  refine Qa ?_
  simp only [go_sem, reduceIte, reduceEqDiff, reduceAdd, reduceLeDiff, reduceLT, reduceCtorEq]
  refine Qj ?_
  simp only [go_sem]
  exact retf false _ _ _ (by simp at hc1 hc2 hc; rw [hGd]; simp [Qsh, Qm5, hc1, hc2, hc]) kn (by simp [lk])
end Go.AE.Y

