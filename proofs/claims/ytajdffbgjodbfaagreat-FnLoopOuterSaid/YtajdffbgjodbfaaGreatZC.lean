/- Part 3 of the proof: the engine, codes, walks and plain laws, each named where it stands. -/
import Derived.Test.YtajdffbgjodbfaaGreatZB
import Derived.Test.YtajdffbgjodbfaaGreatProg
open Nat (reduceEqDiff reduceAdd reduceLeDiff reduceLT)
set_option linter.unusedVariables false
set_option linter.unusedSimpArgs false
set_option maxRecDepth 4000
namespace Go.AE.Y
open Go.Proofs.Tryz
def s_l10Code_i0 : List Item := .e none none (.sto 1 (.t 3) (.t 5)) :: []
def s_l10Code_i1 : List Item := eI 3 (.alloc [.sl true 3 []]) :: s_l10Code_i0
def s_l10Code_2 : SC := (.seq (.reg ( fI 6 (.fad 0 (.t 3)) :: fI 7 (.ld 1 false (.t 6)) :: fI 8 (.fad 0 (.t 3)) :: fI 9 (.ld 1 false (.t 8)) :: fI 10 (.len (.t 9)) :: fI 11 (.bin 0 .sub (.t 10) (kI 1)) :: fI 12 (.iad 3 (.t 7) (.t 11)) :: fI 13 (.ld 3 true (.t 12)) :: .e none none (.sto 3 (.t 2) (.t 13)) :: []) [2]) .ret)
def s_l10Code_3 : SC := (.seq (.reg ( fI 4 (.mv (.t 0)) :: eI 5 (.call fn_l10Bent [.t 4]) :: s_l10Code_i1) [2, 3]) s_l10Code_2)
def s_l10Code : SC := (.seq (.reg ( eI 2 (.alloc [.int .i64 0, .int .i64 0, .sl true 5 []]) :: []) [0, 2]) s_l10Code_3)
def r_l10Code : List RS := [.cell 2 3 true]
theorem m_l10Code : mFn prog fn_l10Code 1 14 s_l10Code r_l10Code = true := by kernel_rfl
def s_l10Bent_i0 : List Item := fI 5 (.bin 0 .eql (.t 4) (kI 0)) :: []
def s_l10Bent_i1 : List Item := .e none none (.sto 1 (.t 2) (.t 7)) :: []
def s_l10Bent_2 : SC := (.cond (.t 5) (.seq (.reg ( fI 6 (.mv (.t 0)) :: eI 7 (.call fn_l7Bent [.t 6]) :: s_l10Bent_i1) [2]) .ret) .skip)
def s_l10Bent_i3 : List Item := .e none none (.sto 1 (.t 2) (.t 9)) :: []
def s_l10Bent_4 : SC := (.seq (.reg ( fI 8 (.mv (.t 0)) :: eI 9 (.call fn_l10Unit [.t 8]) :: s_l10Bent_i3) [2]) .ret)
def s_l10Bent_5 : SC := (.seq (.seq (.reg ( fI 3 (.mv (.t 0)) :: eI 4 (.call fn_l30Rd_pick [.t 3, kI 12]) :: s_l10Bent_i0) [0, 2, 5]) s_l10Bent_2) s_l10Bent_4)
def s_l10Bent : SC := (.seq (.reg ( eI 2 (.alloc [.sl true 3 []]) :: []) [0, 2]) s_l10Bent_5)
def r_l10Bent : List RS := [.cell 2 1 true]
theorem m_l10Bent : mFn prog fn_l10Bent 1 10 s_l10Bent r_l10Bent = true := by kernel_rfl
def s_l30Rd_pick_0 : SC := (.cond (.t 24) (.seq (.reg ( fI 4 (.mv (kI 0)) :: []) [4]) .ret) .skip)
def s_l30Rd_pick_1 : SC := (.cond (.t 36) (.seq (.reg ( fI 37 (.mv (.t 0)) :: fI 38 (.nck (.t 37)) :: fI 39 (.fad 0 (.t 38)) :: fI 40 (.ld 1 false (.t 39)) :: fI 41 (.mv (.t 5)) :: fI 42 (.iad 1 (.t 40) (.t 41)) :: fI 43 (.ld 1 false (.t 42)) :: fI 44 (.cvt .i64 (.t 43)) :: fI 45 (.mv (.t 1)) :: fI 46 (.bin 0 .rem (.t 44) (.t 45)) :: fI 4 (.mv (.t 46)) :: []) [4]) .ret) .skip)
def s_l30Rd_pick_2 : SC := (.seq (.reg ( fI 96 (.mv (.t 6)) :: fI 97 (.mv (.t 1)) :: fI 98 (.bin 0 .rem (.t 96) (.t 97)) :: fI 4 (.mv (.t 98)) :: []) [4]) .ret)
def s_l30Rd_pick_3 : SC := (.seq (.reg ( fI 92 (.mv (.t 6)) :: fI 93 (.mv (.t 6)) :: fI 94 (.bin 0 .quo (.t 93) (kI 64)) :: fI 95 (.bin 0 .xor (.t 92) (.t 94)) :: fI 6 (.mv (.t 95)) :: []) [1, 6]) s_l30Rd_pick_2)
def s_l30Rd_pick_4 : SC := (.seq (.dreg 46 [0, 1, 2, 3, 4, 5, 6, 7, 8, 9, 10, 11, 12, 13, 14, 15, 16, 17, 18, 19, 20, 21, 22, 23, 24, 25, 26, 27, 28, 29, 30, 31, 32, 33, 34, 35, 36, 37, 38, 39, 40, 41, 42, 43, 44, 45] ( fI 47 (.mv (.t 0)) :: fI 48 (.nck (.t 47)) :: fI 49 (.fad 0 (.t 48)) :: fI 50 (.ld 1 false (.t 49)) :: fI 51 (.mv (.t 5)) :: fI 52 (.mv (.t 0)) :: fI 53 (.nck (.t 52)) :: fI 54 (.fad 0 (.t 53)) :: fI 55 (.ld 1 false (.t 54)) :: fI 56 (.len (.t 55)) :: fI 57 (.bin 0 .rem (.t 51) (.t 56)) :: fI 58 (.iad 1 (.t 50) (.t 57)) :: fI 59 (.ld 1 false (.t 58)) :: fI 60 (.cvt .i64 (.t 59)) :: fI 61 (.bin 0 .mul (.t 60) (kI 131)) :: fI 62 (.mv (.t 0)) :: fI 63 (.nck (.t 62)) :: fI 64 (.fad 0 (.t 63)) :: fI 65 (.ld 1 false (.t 64)) :: fI 66 (.mv (.t 5)) :: fI 67 (.bin 0 .mul (.t 66) (kI 7)) :: fI 68 (.bin 0 .add (.t 67) (kI 3)) :: fI 69 (.mv (.t 0)) :: fI 70 (.nck (.t 69)) :: fI 71 (.fad 0 (.t 70)) :: fI 72 (.ld 1 false (.t 71)) :: fI 73 (.len (.t 72)) :: fI 74 (.bin 0 .rem (.t 68) (.t 73)) :: fI 75 (.iad 1 (.t 65) (.t 74)) :: fI 76 (.ld 1 false (.t 75)) :: fI 77 (.cvt .i64 (.t 76)) :: fI 78 (.bin 0 .mul (.t 77) (kI 1117)) :: fI 79 (.bin 0 .add (.t 61) (.t 78)) :: fI 80 (.mv (.t 5)) :: fI 81 (.bin 0 .mul (.t 80) (kI 29)) :: fI 82 (.bin 0 .add (.t 79) (.t 81)) :: fI 83 (.mv (.t 5)) :: fI 84 (.mv (.t 0)) :: fI 85 (.nck (.t 84)) :: fI 86 (.fad 0 (.t 85)) :: fI 87 (.ld 1 false (.t 86)) :: fI 88 (.len (.t 87)) :: fI 89 (.bin 0 .quo (.t 83) (.t 88)) :: fI 90 (.bin 0 .mul (.t 89) (kI 53)) :: fI 91 (.bin 0 .add (.t 82) (.t 90)) :: fI 6 (.mv (.t 91)) :: []) [1, 6]) s_l30Rd_pick_3)
def s_l30Rd_pick_5 : SC := (.seq (.seq (.reg ( fI 30 (.mv (.t 5)) :: fI 31 (.mv (.t 0)) :: fI 32 (.nck (.t 31)) :: fI 33 (.fad 0 (.t 32)) :: fI 34 (.ld 1 false (.t 33)) :: fI 35 (.len (.t 34)) :: fI 36 (.bin 0 .lss (.t 30) (.t 35)) :: []) [0, 1, 5, 36]) s_l30Rd_pick_1) s_l30Rd_pick_4)
def s_l30Rd_pick_6 : SC := (.seq (.reg ( fI 25 (.mv (.t 0)) :: fI 26 (.nck (.t 25)) :: fI 27 (.fad 1 (.t 26)) :: fI 28 (.ld 1 false (.t 27)) :: fI 29 (.bin 0 .sub (.t 28) (kI 1)) :: fI 5 (.mv (.t 29)) :: []) [0, 1, 5]) s_l30Rd_pick_5)
def s_l30Rd_pick_7 : SC := (.seq (.seq (.reg ( fI 15 (.mv (.t 1)) :: fI 16 (.bin 0 .lss (.t 15) (kI 1)) :: fI 17 (.mv (.t 16)) :: gF 18 17 (.mv (.t 0)) :: gF 19 17 (.nck (.t 18)) :: gF 20 17 (.fad 0 (.t 19)) :: gF 21 17 (.ld 1 false (.t 20)) :: gF 22 17 (.len (.t 21)) :: gF 23 17 (.bin 0 .eql (.t 22) (kI 0)) :: fI 24 (.pick (.t 17) (.k (.c (.bool true))) (.t 23)) :: []) [0, 1, 24]) s_l30Rd_pick_0) s_l30Rd_pick_6)
def s_l30Rd_pick_8 : SC := (.seq (.reg ( fI 7 (.mv (.t 0)) :: fI 8 (.mv (.t 0)) :: fI 9 (.nck (.t 8)) :: fI 10 (.fad 1 (.t 9)) :: fI 11 (.ld 1 false (.t 10)) :: fI 12 (.bin 0 .add (.t 11) (kI 1)) :: fI 13 (.nck (.t 7)) :: fI 14 (.fad 1 (.t 13)) :: .e none none (.sto 1 (.t 14) (.t 12)) :: []) [0, 1]) s_l30Rd_pick_7)
def s_l30Rd_pick : SC := (.seq (.reg ( fI 4 (.mv (kI 0)) :: []) [0, 1]) s_l30Rd_pick_8)
def r_l30Rd_pick : List RS := [.tmp 4]
theorem m_l30Rd_pick : mFn prog fn_l30Rd_pick 2 99 s_l30Rd_pick r_l30Rd_pick = true := by kernel_rfl
def s_l7Bent_i0 : List Item := .e none none (.sto 1 (.t 3) (.t 9)) :: []
def s_l7Bent_i1 : List Item := eI 3 (.alloc [.sl true 3 []]) :: s_l7Bent_i0
def s_l7Bent_i2 : List Item := eI 9 (.call fn_l7CopyUnit [.t 8]) :: s_l7Bent_i1
def s_l7Bent_i3 : List Item := .chk 11 none (.ld 1 false (.t 10)) :: fI 17 (.iad 3 (.t 11) (.t 16)) :: fI 4 (.mv (.t 17)) :: []
def s_l7Bent_i4 : List Item := .chk 21 none (.ld 1 false (.t 20)) :: fI 29 (.iad 5 (.t 21) (.t 28)) :: fI 5 (.mv (.t 29)) :: []
def s_l7Bent_i5 : List Item := fI 6 (.mv (.t 41)) :: []
def s_l7Bent_i6 : List Item := fI 49 (.nck (.t 46)) :: fI 50 (.fad 2 (.t 49)) :: .e none none (.sto 1 (.t 50) (.t 48)) :: []
def s_l7Bent_7 : SC := (.cond (.t 58) (.reg ( fI 59 (.mv (.t 5)) :: fI 60 (.nck (.t 59)) :: fI 61 (.fad 4 (.t 60)) :: fI 62 (.ld 1 false (.t 61)) :: fI 63 (.mv (.t 6)) :: fI 64 (.iad 1 (.t 62) (kI 0)) :: .e none none (.sto 1 (.t 64) (.t 63)) :: []) [2, 3]) .skip)
def s_l7Bent_8 : SC := (.cond (.t 78) (.reg ( fI 79 (.mv (.t 5)) :: fI 80 (.nck (.t 79)) :: fI 81 (.fad 1 (.t 80)) :: fI 82 (.ld 1 false (.t 81)) :: fI 83 (.mv (.t 6)) :: fI 84 (.iad 4 (.t 82) (kI 0)) :: fI 85 (.fad 1 (.t 84)) :: .e none none (.sto 1 (.t 85) (.t 83)) :: []) [2, 3]) .skip)
def s_l7Bent_i9 : List Item := .chk 97 none (.ld 1 false (.t 96)) :: fI 108 (.iad 4 (.t 97) (kI 0)) :: fI 109 (.fad 2 (.t 108)) :: .e none none (.sto 1 (.t 109) (.t 107)) :: []
def s_l7Bent_10 : SC := (.cond (.t 93) (.dreg 17 [0, 1, 2, 3, 4, 5, 6, 7, 8, 9, 10, 11, 12, 13, 3, 14, 15, 16] ( fI 94 (.mv (.t 5)) :: fI 95 (.nck (.t 94)) :: fI 96 (.fad 1 (.t 95)) :: fI 97 (.ld 1 false (.t 96)) :: fI 98 (.mv (.t 5)) :: fI 99 (.nck (.t 98)) :: fI 100 (.fad 1 (.t 99)) :: fI 101 (.ld 1 false (.t 100)) :: fI 102 (.iad 4 (.t 101) (kI 0)) :: fI 103 (.fad 2 (.t 102)) :: fI 104 (.ld 1 false (.t 103)) :: fI 105 (.mv (.t 6)) :: fI 106 (.bsl 1 [.t 105]) :: eI 107 (.app 1 (.t 104) (.t 106)) :: s_l7Bent_i9) [2, 3]) .skip)
def s_l7Bent_i11 : List Item := fI 122 (.nck (.t 112)) :: fI 123 (.fad 0 (.t 122)) :: .e none none (.sto 1 (.t 123) (.t 121)) :: []
def s_l7Bent_i12 : List Item := .chk 130 none (.ld 1 false (.t 129)) :: fI 133 (.bin 0 .add (.t 130) (.t 132)) :: fI 134 (.nck (.t 126)) :: fI 135 (.fad 1 (.t 134)) :: .e none none (.sto 1 (.t 135) (.t 133)) :: []
def s_l7Bent_i13 : List Item := .chk 147 none (.ld 1 false (.t 146)) :: fI 151 (.iad 4 (.t 147) (kI 0)) :: fI 152 (.fad 3 (.t 151)) :: .e none none (.sto 1 (.t 152) (.t 150)) :: []
def s_l7Bent_14 : SC := (.cond (.t 143) (.dreg 10 [0, 1, 2, 3, 4, 5, 6, 3, 7, 8, 9] ( fI 144 (.mv (.t 5)) :: fI 145 (.nck (.t 144)) :: fI 146 (.fad 1 (.t 145)) :: fI 147 (.ld 1 false (.t 146)) :: fI 148 (.mv (.t 0)) :: fI 149 (.bsl 1 [kI 256, kI (-1), kI 1]) :: eI 150 (.call fn_l30Rd_num [.t 148, .t 149]) :: s_l7Bent_i13) [2, 3]) .skip)
def s_l7Bent_15 : SC := (.cond (.t 136) (.seq (.reg ( fI 138 (.mv (.t 5)) :: fI 139 (.nck (.t 138)) :: fI 140 (.fad 1 (.t 139)) :: fI 141 (.ld 1 false (.t 140)) :: fI 142 (.len (.t 141)) :: fI 143 (.bin 0 .gtr (.t 142) (kI 0)) :: []) [0, 2, 3, 5, 143]) s_l7Bent_14) .skip)
def s_l7Bent_16 : SC := (.cond (.t 124) (.dreg 11 [0, 1, 2, 3, 4, 5, 6, 4, 7, 8, 9, 10] ( fI 126 (.mv (.t 4)) :: fI 127 (.mv (.t 4)) :: fI 128 (.nck (.t 127)) :: fI 129 (.fad 0 (.t 128)) :: fI 130 (.ld 1 false (.t 129)) :: fI 131 (.mv (.t 0)) :: eI 132 (.call fn_l30Rd_pick [.t 131, kI 2]) :: s_l7Bent_i12) [2, 3]) (.seq (.reg ( fI 137 (.bin 0 .eql (.t 43) (kI 7)) :: fI 136 (.mv (.t 137)) :: []) [0, 2, 3, 5, 136]) s_l7Bent_15))
def s_l7Bent_17 : SC := (.cond (.t 110) (.reg ( fI 112 (.mv (.t 5)) :: fI 113 (.mv (.t 5)) :: fI 114 (.nck (.t 113)) :: fI 115 (.fad 0 (.t 114)) :: fI 116 (.ld 1 false (.t 115)) :: fI 117 (.mv (.t 6)) :: fI 118 (.bsl 1 [.t 117]) :: fI 119 (.bld [.int .i64 0, .sl true 1 []] [(0, 1, kI 0), (1, 1, .t 118)]) :: fI 120 (.bsl 2 [.t 119]) :: eI 121 (.app 2 (.t 116) (.t 120)) :: s_l7Bent_i11) [2, 3]) (.seq (.reg ( fI 125 (.bin 0 .eql (.t 43) (kI 6)) :: fI 124 (.mv (.t 125)) :: []) [0, 2, 3, 4, 5, 43, 124]) s_l7Bent_16))
def s_l7Bent_18 : SC := (.cond (.t 86) (.seq (.reg ( fI 88 (.mv (.t 5)) :: fI 89 (.nck (.t 88)) :: fI 90 (.fad 1 (.t 89)) :: fI 91 (.ld 1 false (.t 90)) :: fI 92 (.len (.t 91)) :: fI 93 (.bin 0 .gtr (.t 92) (kI 0)) :: []) [2, 3, 5, 6, 93]) s_l7Bent_10) (.seq (.reg ( fI 111 (.bin 0 .eql (.t 43) (kI 5)) :: fI 110 (.mv (.t 111)) :: []) [0, 2, 3, 4, 5, 6, 43, 110]) s_l7Bent_17))
def s_l7Bent_19 : SC := (.cond (.t 71) (.seq (.reg ( fI 73 (.mv (.t 5)) :: fI 74 (.nck (.t 73)) :: fI 75 (.fad 1 (.t 74)) :: fI 76 (.ld 1 false (.t 75)) :: fI 77 (.len (.t 76)) :: fI 78 (.bin 0 .gtr (.t 77) (kI 0)) :: []) [2, 3, 5, 6, 78]) s_l7Bent_8) (.seq (.reg ( fI 87 (.bin 0 .eql (.t 43) (kI 4)) :: fI 86 (.mv (.t 87)) :: []) [0, 2, 3, 4, 5, 6, 43, 86]) s_l7Bent_18))
def s_l7Bent_20 : SC := (.cond (.t 65) (.reg ( fI 67 (.mv (.t 5)) :: fI 68 (.mv (.t 6)) :: fI 69 (.nck (.t 67)) :: fI 70 (.fad 3 (.t 69)) :: .e none none (.sto 1 (.t 70) (.t 68)) :: []) [2, 3]) (.seq (.reg ( fI 72 (.bin 0 .eql (.t 43) (kI 3)) :: fI 71 (.mv (.t 72)) :: []) [0, 2, 3, 4, 5, 6, 43, 71]) s_l7Bent_19))
def s_l7Bent_21 : SC := (.cond (.t 51) (.seq (.reg ( fI 53 (.mv (.t 5)) :: fI 54 (.nck (.t 53)) :: fI 55 (.fad 4 (.t 54)) :: fI 56 (.ld 1 false (.t 55)) :: fI 57 (.len (.t 56)) :: fI 58 (.bin 0 .gtr (.t 57) (kI 0)) :: []) [2, 3, 5, 6, 58]) s_l7Bent_7) (.seq (.reg ( fI 66 (.bin 0 .eql (.t 43) (kI 2)) :: fI 65 (.mv (.t 66)) :: []) [0, 2, 3, 4, 5, 6, 43, 65]) s_l7Bent_20))
def s_l7Bent_22 : SC := (.cond (.t 44) (.reg ( fI 46 (.mv (.t 5)) :: fI 47 (.mv (.t 0)) :: eI 48 (.call fn_l30Rd_pick [.t 47, kI 5]) :: s_l7Bent_i6) [2, 3]) (.seq (.reg ( fI 52 (.bin 0 .eql (.t 43) (kI 1)) :: fI 51 (.mv (.t 52)) :: []) [0, 2, 3, 4, 5, 6, 43, 51]) s_l7Bent_21))
def s_l7Bent_23 : SC := (.block 0 (.seq (.reg ( fI 45 (.bin 0 .eql (.t 43) (kI 0)) :: fI 44 (.mv (.t 45)) :: []) [0, 2, 3, 4, 5, 6, 43, 44]) s_l7Bent_22))
def s_l7Bent_24 : SC := (.seq (.reg ( fI 153 (.ld 1 true (.t 3)) :: .e none none (.sto 1 (.t 2) (.t 153)) :: []) [2]) .ret)
def s_l7Bent_25 : SC := (.seq (.seq (.reg ( fI 42 (.mv (.t 0)) :: eI 43 (.call fn_l30Rd_pick [.t 42, kI 32]) :: []) [0, 2, 3, 4, 5, 6, 43]) s_l7Bent_23) s_l7Bent_24)
def s_l7Bent_26 : SC := (.seq (.dreg 13 [0, 1, 2, 3, 4, 5, 6, 7, 8, 9, 10, 11, 12] ( fI 30 (.mv (.t 0)) :: fI 31 (.mv (.t 4)) :: fI 32 (.nck (.t 31)) :: fI 33 (.fad 1 (.t 32)) :: fI 34 (.ld 1 false (.t 33)) :: fI 35 (.mv (.t 4)) :: fI 36 (.nck (.t 35)) :: fI 37 (.fad 2 (.t 36)) :: fI 38 (.ld 1 false (.t 37)) :: fI 39 (.len (.t 38)) :: fI 40 (.bsl 1 [kI (-1), .t 34, .t 39, kI 0, kI 1]) :: eI 41 (.call fn_l30Rd_num [.t 30, .t 40]) :: s_l7Bent_i5) [0, 2, 3, 4, 5, 6]) s_l7Bent_25)
def s_l7Bent_27 : SC := (.seq (.dreg 13 [0, 1, 2, 3, 4, 5, 6, 7, 8, 9, 10, 3, 11, 12] ( fI 18 (.mv (.t 4)) :: fI 19 (.nck (.t 18)) :: fI 20 (.fad 2 (.t 19)) :: fI 21 (.ld 1 false (.t 20)) :: fI 22 (.mv (.t 0)) :: fI 23 (.mv (.t 4)) :: fI 24 (.nck (.t 23)) :: fI 25 (.fad 2 (.t 24)) :: fI 26 (.ld 1 false (.t 25)) :: fI 27 (.len (.t 26)) :: eI 28 (.call fn_l30Rd_pick [.t 22, .t 27]) :: s_l7Bent_i4) [0, 2, 3, 4, 5]) s_l7Bent_26)
def s_l7Bent_28 : SC := (.seq (.dreg 9 [0, 1, 2, 3, 4, 5, 6, 1, 7, 8] ( fI 10 (.fad 0 (.t 3)) :: fI 11 (.ld 1 false (.t 10)) :: fI 12 (.mv (.t 0)) :: fI 13 (.fad 0 (.t 3)) :: fI 14 (.ld 1 false (.t 13)) :: fI 15 (.len (.t 14)) :: eI 16 (.call fn_l30Rd_pick [.t 12, .t 15]) :: s_l7Bent_i3) [0, 2, 3, 4]) s_l7Bent_27)
def s_l7Bent_29 : SC := (.seq (.reg ( fI 7 (.mv (.t 0)) :: eI 8 (.call fn_l7Unit [.t 7]) :: s_l7Bent_i2) [0, 2, 3]) s_l7Bent_28)
def s_l7Bent : SC := (.seq (.reg ( eI 2 (.alloc [.sl true 3 []]) :: []) [0, 2]) s_l7Bent_29)
def r_l7Bent : List RS := [.cell 2 1 true]
theorem m_l7Bent : mFn prog fn_l7Bent 1 154 s_l7Bent r_l7Bent = true := by kernel_rfl
def s_l10Unit_i0 : List Item := fI 6 (.bin 0 .eql (.t 5) (kI 0)) :: []
def s_l10Unit_i1 : List Item := .e none none (.sto 1 (.t 3) (.t 9)) :: []
def s_l10Unit_i2 : List Item := eI 3 (.alloc [.sl true 3 []]) :: s_l10Unit_i1
def s_l10Unit_i3 : List Item := eI 9 (.call fn_l9Unit [.t 8]) :: s_l10Unit_i2
def s_l10Unit_4 : SC := (.cond (.t 11) (.seq (.reg ( fI 12 (.ld 1 true (.t 3)) :: .e none none (.sto 1 (.t 2) (.t 12)) :: []) [2]) .ret) .skip)
def s_l10Unit_5 : SC := (.seq (.reg ( fI 10 (.ld 1 true (.t 3)) :: eI 11 (.call fn_sp_UnitValid [.t 10]) :: []) [0, 2, 3, 11]) s_l10Unit_4)
def s_l10Unit_6 : SC := (.cond (.t 6) (.seq (.reg ( fI 7 (.mv (.t 0)) :: eI 8 (.call fn_l3Prog [.t 7]) :: s_l10Unit_i3) [0, 2, 3]) s_l10Unit_5) .skip)
def s_l10Unit_i7 : List Item := .e none none (.sto 1 (.t 2) (.t 14)) :: []
def s_l10Unit_8 : SC := (.seq (.reg ( fI 13 (.mv (.t 0)) :: eI 14 (.call fn_l7Unit [.t 13]) :: s_l10Unit_i7) [2]) .ret)
def s_l10Unit_9 : SC := (.seq (.seq (.reg ( fI 4 (.mv (.t 0)) :: eI 5 (.call fn_l30Rd_pick [.t 4, kI 2]) :: s_l10Unit_i0) [0, 2, 6]) s_l10Unit_6) s_l10Unit_8)
def s_l10Unit : SC := (.seq (.reg ( eI 2 (.alloc [.sl true 3 []]) :: []) [0, 2]) s_l10Unit_9)
def r_l10Unit : List RS := [.cell 2 1 true]
theorem m_l10Unit : mFn prog fn_l10Unit 1 15 s_l10Unit r_l10Unit = true := by kernel_rfl
def s_l30Rd_num_i0 : List Item := fI 10 (.iad 1 (.t 5) (.t 9)) :: fI 11 (.ld 1 false (.t 10)) :: fI 4 (.mv (.t 11)) :: []
def s_l30Rd_num_1 : SC := (.seq (.reg ( fI 5 (.mv (.t 1)) :: fI 6 (.mv (.t 0)) :: fI 7 (.mv (.t 1)) :: fI 8 (.len (.t 7)) :: eI 9 (.call fn_l30Rd_pick [.t 6, .t 8]) :: s_l30Rd_num_i0) [4]) .ret)
def s_l30Rd_num : SC := (.seq (.reg ( fI 4 (.mv (kI 0)) :: []) [0, 1]) s_l30Rd_num_1)
def r_l30Rd_num : List RS := [.tmp 4]
theorem m_l30Rd_num : mFn prog fn_l30Rd_num 2 12 s_l30Rd_num r_l30Rd_num = true := by kernel_rfl
def s_l7CopyUnit_i0 : List Item := .e none none (.sto 1 (.t 3) (.t 5)) :: []
def s_l7CopyUnit_i1 : List Item := fI 23 (.fad 0 (.t 3)) :: .e none none (.sto 1 (.t 23) (.t 22)) :: []
def s_l7CopyUnit_i2 : List Item := .chk 14 none (.ld 1 false (.t 13)) :: fI 21 (.bsl 3 [.t 20]) :: eI 22 (.app 3 (.t 14) (.t 21)) :: s_l7CopyUnit_i1
def s_l7CopyUnit_3 : SC := (.reg ( fI 11 (.mv (.t 4)) :: fI 12 (.bin 0 .add (.t 11) (kI 1)) :: fI 4 (.mv (.t 12)) :: []) [1, 2, 3, 4])
def s_l7CopyUnit_4 : SC := (.seq (.block 1 (.dreg 12 [0, 1, 2, 3, 4, 5, 6, 7, 1, 8, 9, 10, 11] ( fI 13 (.fad 0 (.t 3)) :: fI 14 (.ld 1 false (.t 13)) :: fI 15 (.fad 0 (.t 1)) :: fI 16 (.ld 1 false (.t 15)) :: fI 17 (.mv (.t 4)) :: fI 18 (.iad 3 (.t 16) (.t 17)) :: fI 19 (.ld 3 true (.t 18)) :: eI 20 (.call fn_l7Copy [.t 19]) :: s_l7CopyUnit_i2) [1, 2, 3, 4])) s_l7CopyUnit_3)
def s_l7CopyUnit_l5 : SC := (.seq (.seq (.reg ( fI 6 (.mv (.t 4)) :: fI 7 (.fad 0 (.t 1)) :: fI 8 (.ld 1 false (.t 7)) :: fI 9 (.len (.t 8)) :: fI 10 (.bin 0 .lss (.t 6) (.t 9)) :: []) [1, 2, 3, 4, 10]) (.cond (.t 10) .skip (.exit 0))) s_l7CopyUnit_4)
def s_l7CopyUnit_6 : SC := (.seq (.reg ( fI 24 (.ld 1 true (.t 3)) :: .e none none (.sto 1 (.t 2) (.t 24)) :: []) [2]) .ret)
def s_l7CopyUnit_7 : SC := (.seq (.seq (.reg ( fI 4 (.mv (kI 0)) :: []) [1, 2, 3, 4]) (.block 0 (.loop s_l7CopyUnit_l5))) s_l7CopyUnit_6)
def s_l7CopyUnit_8 : SC := (.seq (.reg ( fI 5 (.bld [.sl true 3 []] []) :: eI 3 (.alloc [.sl true 3 []]) :: s_l7CopyUnit_i0) [1, 2, 3]) s_l7CopyUnit_7)
def s_l7CopyUnit : SC := (.seq (.reg ( fI 1 (.box (.t 0)) :: eI 2 (.alloc [.sl true 3 []]) :: []) [1, 2]) s_l7CopyUnit_8)
def r_l7CopyUnit : List RS := [.cell 2 1 true]
theorem m_l7CopyUnit : mFn prog fn_l7CopyUnit 1 25 s_l7CopyUnit r_l7CopyUnit = true := by kernel_rfl
def s_l7Unit_i0 : List Item := .e none none (.sto 1 (.t 3) (.t 9)) :: []
def s_l7Unit_i1 : List Item := fI 4 (.mv (.t 12)) :: []
def s_l7Unit_i2 : List Item := fI 24 (.fad 0 (.t 3)) :: .e none none (.sto 1 (.t 24) (.t 23)) :: []
def s_l7Unit_i3 : List Item := .chk 18 none (.ld 1 false (.t 17)) :: fI 22 (.bsl 3 [.t 21]) :: eI 23 (.app 3 (.t 18) (.t 22)) :: s_l7Unit_i2
def s_l7Unit_4 : SC := (.reg ( fI 15 (.mv (.t 4)) :: fI 16 (.bin 0 .sub (.t 15) (kI 1)) :: fI 4 (.mv (.t 16)) :: []) [0, 2, 3, 4])
def s_l7Unit_5 : SC := (.seq (.block 1 (.dreg 9 [0, 1, 2, 3, 4, 1, 5, 6, 7, 8] ( fI 17 (.fad 0 (.t 3)) :: fI 18 (.ld 1 false (.t 17)) :: fI 19 (.mv (.t 0)) :: fI 20 (.ld 1 true (.t 3)) :: eI 21 (.call fn_l7Code [.t 19, .t 20]) :: s_l7Unit_i3) [0, 2, 3, 4])) s_l7Unit_4)
def s_l7Unit_l6 : SC := (.seq (.seq (.reg ( fI 13 (.mv (.t 4)) :: fI 14 (.bin 0 .gtr (.t 13) (kI 0)) :: []) [0, 2, 3, 4, 14]) (.cond (.t 14) .skip (.exit 0))) s_l7Unit_5)
def s_l7Unit_i7 : List Item := fI 5 (.mv (.t 27)) :: []
def s_l7Unit_i8 : List Item := .chk 33 none (.ld 1 false (.t 32)) :: fI 39 (.iad 3 (.t 33) (.t 38)) :: fI 6 (.mv (.t 39)) :: []
def s_l7Unit_i9 : List Item := fI 7 (.mv (.t 46)) :: []
def s_l7Unit_i10 : List Item := .e none none (.sto 2 (.t 8) (.t 53)) :: []
def s_l7Unit_i11 : List Item := fI 53 (.bld [.int .i64 0, .sl true 1 []] [(0, 1, .t 52)]) :: eI 8 (.alloc [.int .i64 0, .sl true 1 []]) :: s_l7Unit_i10
def s_l7Unit_i12 : List Item := fI 59 (.len (.t 58)) :: fI 60 (.mv (kI 0)) :: []
def s_l7Unit_i13 : List Item := fI 72 (.fad 1 (.t 8)) :: .e none none (.sto 1 (.t 72) (.t 71)) :: []
def s_l7Unit_i14 : List Item := .chk 63 none (.ld 1 false (.t 62)) :: fI 70 (.bsl 1 [.t 69]) :: eI 71 (.app 1 (.t 63) (.t 70)) :: s_l7Unit_i13
def s_l7Unit_15 : SC := (.reg ( fI 73 (.bin 0 .add (.t 60) (kI 1)) :: fI 60 (.mv (.t 73)) :: []) [0, 2, 3, 5, 6, 7, 8, 59, 60])
def s_l7Unit_16 : SC := (.seq (.block 5 (.dreg 12 [0, 1, 2, 3, 4, 5, 6, 7, 1, 8, 9, 10, 11] ( fI 62 (.fad 1 (.t 8)) :: fI 63 (.ld 1 false (.t 62)) :: fI 64 (.mv (.t 0)) :: fI 65 (.mv (.t 6)) :: fI 66 (.nck (.t 65)) :: fI 67 (.fad 1 (.t 66)) :: fI 68 (.ld 1 false (.t 67)) :: eI 69 (.call fn_l30Rd_pick [.t 64, .t 68]) :: s_l7Unit_i14) [0, 2, 3, 5, 6, 7, 8, 59, 60])) s_l7Unit_15)
def s_l7Unit_l17 : SC := (.seq (.reg ( fI 61 (.bin 0 .lss (.t 60) (.t 59)) :: []) [0, 2, 3, 5, 6, 7, 8, 59, 60, 61]) (.seq (.cond (.t 61) .skip (.exit 4)) s_l7Unit_16))
def s_l7Unit_i18 : List Item := .chk 79 none (.ld 1 false (.t 78)) :: fI 92 (.iad 5 (.t 79) (.t 80)) :: fI 93 (.fad 0 (.t 92)) :: .e none none (.sto 1 (.t 93) (.t 91)) :: []
def s_l7Unit_19 : SC := (.cond (.t 75) (.dreg 19 [0, 1, 2, 3, 4, 5, 6, 7, 8, 9, 10, 11, 12, 13, 14, 15, 3, 16, 17, 18] ( fI 76 (.mv (.t 6)) :: fI 77 (.nck (.t 76)) :: fI 78 (.fad 2 (.t 77)) :: fI 79 (.ld 1 false (.t 78)) :: fI 80 (.mv (.t 7)) :: fI 81 (.mv (.t 6)) :: fI 82 (.nck (.t 81)) :: fI 83 (.fad 2 (.t 82)) :: fI 84 (.ld 1 false (.t 83)) :: fI 85 (.mv (.t 7)) :: fI 86 (.iad 5 (.t 84) (.t 85)) :: fI 87 (.fad 0 (.t 86)) :: fI 88 (.ld 1 false (.t 87)) :: fI 89 (.ld 2 true (.t 8)) :: fI 90 (.bsl 2 [.t 89]) :: eI 91 (.app 2 (.t 88) (.t 90)) :: s_l7Unit_i18) [0, 2, 3, 5]) .skip)
def s_l7Unit_20 : SC := (.seq (.reg ( fI 74 (.mv (.t 7)) :: fI 75 (.bin 0 .gtr (.t 74) (kI 0)) :: []) [0, 2, 3, 5, 6, 7, 8, 75]) s_l7Unit_19)
def s_l7Unit_21 : SC := (.seq (.seq (.reg ( fI 54 (.mv (.t 6)) :: fI 55 (.nck (.t 54)) :: fI 56 (.ld 3 true (.t 55)) :: fI 57 (.mv (.t 7)) :: eI 58 (.call fn_l7Preds [.t 56, .t 57]) :: s_l7Unit_i12) [0, 2, 3, 5, 6, 7, 8, 59, 60]) (.block 4 (.loop s_l7Unit_l17))) s_l7Unit_20)
def s_l7Unit_22 : SC := (.seq (.reg ( fI 47 (.mv (.t 0)) :: fI 48 (.mv (.t 6)) :: fI 49 (.nck (.t 48)) :: fI 50 (.fad 1 (.t 49)) :: fI 51 (.ld 1 false (.t 50)) :: eI 52 (.call fn_l30Rd_pick [.t 47, .t 51]) :: s_l7Unit_i11) [0, 2, 3, 5, 6, 7, 8]) s_l7Unit_21)
def s_l7Unit_23 : SC := (.seq (.reg ( fI 40 (.mv (.t 0)) :: fI 41 (.mv (.t 6)) :: fI 42 (.nck (.t 41)) :: fI 43 (.fad 2 (.t 42)) :: fI 44 (.ld 1 false (.t 43)) :: fI 45 (.len (.t 44)) :: eI 46 (.call fn_l30Rd_pick [.t 40, .t 45]) :: s_l7Unit_i9) [0, 2, 3, 5, 6, 7]) s_l7Unit_22)
def s_l7Unit_24 : SC := (.reg ( fI 30 (.mv (.t 5)) :: fI 31 (.bin 0 .sub (.t 30) (kI 1)) :: fI 5 (.mv (.t 31)) :: []) [0, 2, 3, 5])
def s_l7Unit_25 : SC := (.seq (.block 3 (.seq (.dreg 9 [0, 1, 2, 3, 4, 5, 6, 1, 7, 8] ( fI 32 (.fad 0 (.t 3)) :: fI 33 (.ld 1 false (.t 32)) :: fI 34 (.mv (.t 0)) :: fI 35 (.fad 0 (.t 3)) :: fI 36 (.ld 1 false (.t 35)) :: fI 37 (.len (.t 36)) :: eI 38 (.call fn_l30Rd_pick [.t 34, .t 37]) :: s_l7Unit_i8) [0, 2, 3, 5, 6]) s_l7Unit_23)) s_l7Unit_24)
def s_l7Unit_l26 : SC := (.seq (.seq (.reg ( fI 28 (.mv (.t 5)) :: fI 29 (.bin 0 .gtr (.t 28) (kI 0)) :: []) [0, 2, 3, 5, 29]) (.cond (.t 29) .skip (.exit 2))) s_l7Unit_25)
def s_l7Unit_27 : SC := (.seq (.reg ( fI 94 (.ld 1 true (.t 3)) :: .e none none (.sto 1 (.t 2) (.t 94)) :: []) [2]) .ret)
def s_l7Unit_28 : SC := (.seq (.seq (.reg ( fI 25 (.mv (.t 0)) :: fI 26 (.bsl 1 [kI 0, kI 0, kI 1, kI 3]) :: eI 27 (.call fn_l30Rd_num [.t 25, .t 26]) :: s_l7Unit_i7) [0, 2, 3, 5]) (.block 2 (.loop s_l7Unit_l26))) s_l7Unit_27)
def s_l7Unit_29 : SC := (.seq (.seq (.reg ( fI 10 (.mv (.t 0)) :: fI 11 (.bsl 1 [kI 1, kI 2, kI 1, kI 3]) :: eI 12 (.call fn_l30Rd_num [.t 10, .t 11]) :: s_l7Unit_i1) [0, 2, 3, 4]) (.block 0 (.loop s_l7Unit_l6))) s_l7Unit_28)
def s_l7Unit_30 : SC := (.seq (.reg ( fI 9 (.bld [.sl true 3 []] []) :: eI 3 (.alloc [.sl true 3 []]) :: s_l7Unit_i0) [0, 2, 3]) s_l7Unit_29)
def s_l7Unit : SC := (.seq (.reg ( eI 2 (.alloc [.sl true 3 []]) :: []) [0, 2]) s_l7Unit_30)
def r_l7Unit : List RS := [.cell 2 1 true]
theorem m_l7Unit : mFn prog fn_l7Unit 1 95 s_l7Unit r_l7Unit = true := by kernel_rfl
def s_sp_UnitValid_i0 : List Item := fI 11 (.not (.t 10)) :: []
def s_sp_UnitValid_1 : SC := (.cond (.t 11) (.seq (.reg ( fI 2 (.mv (.k (.c (.bool false)))) :: []) [2]) .ret) .skip)
def s_sp_UnitValid_i2 : List Item := .e none none (.sto 3 (.t 5) (.t 23)) :: []
def s_sp_UnitValid_i3 : List Item := gF 41 36 (.not (.t 40)) :: fI 42 (.pick (.t 36) (.k (.c (.bool true))) (.t 41)) :: []
def s_sp_UnitValid_i4 : List Item := gF 34 28 (.not (.t 33)) :: fI 35 (.pick (.t 28) (.k (.c (.bool true))) (.t 34)) :: fI 36 (.mv (.t 35)) :: gF 37 36 (.fad 2 (.t 5)) :: gF 38 36 (.ld 1 false (.t 37)) :: gF 39 36 (.len (.t 38)) :: .e (some 40) (some (36, false)) (.call fn_l1In [.t 39, kI 1, kI 160]) :: s_sp_UnitValid_i3
def s_sp_UnitValid_i5 : List Item := fI 27 (.not (.t 26)) :: fI 28 (.mv (.t 27)) :: gF 29 28 (.fad 1 (.t 5)) :: gF 30 28 (.ld 1 false (.t 29)) :: gF 31 28 (.fad 0 (.t 5)) :: gF 32 28 (.ld 1 false (.t 31)) :: .e (some 33) (some (28, false)) (.call fn_l1In [.t 30, .t 32, kI 300]) :: s_sp_UnitValid_i4
def s_sp_UnitValid_6 : SC := (.cond (.t 42) (.seq (.reg ( fI 2 (.mv (.k (.c (.bool false)))) :: []) [2]) .ret) .skip)
def s_sp_UnitValid_i7 : List Item := gF 74 69 (.not (.t 73)) :: fI 75 (.pick (.t 69) (.k (.c (.bool true))) (.t 74)) :: []
def s_sp_UnitValid_8 : SC := (.cond (.t 75) (.seq (.reg ( fI 2 (.mv (.k (.c (.bool false)))) :: []) [2]) .ret) .skip)
def s_sp_UnitValid_9 : SC := (.seq (.reg ( fI 67 (.mv (.t 3)) :: fI 68 (.bin 0 .gtr (.t 67) (kI 800)) :: fI 69 (.mv (.t 68)) :: gF 70 69 (.ld 1 true (.t 1)) :: gF 71 69 (.mv (.t 4)) :: gF 72 69 (.mv (.t 6)) :: .e (some 73) (some (69, false)) (.call fn_l7Block [.t 70, .t 71, .t 72]) :: s_sp_UnitValid_i7) [1, 3, 4, 5, 6, 75]) s_sp_UnitValid_8)
def s_sp_UnitValid_10 : SC := (.reg ( fI 48 (.mv (.t 6)) :: fI 49 (.bin 0 .add (.t 48) (kI 1)) :: fI 6 (.mv (.t 49)) :: []) [1, 3, 4, 5, 6])
def s_sp_UnitValid_11 : SC := (.seq (.block 3 (.seq (.dreg 18 [0, 1, 2, 3, 4, 5, 6, 7, 8, 9, 10, 11, 12, 13, 14, 15, 16, 17] ( fI 50 (.mv (.t 3)) :: fI 51 (.fad 2 (.t 5)) :: fI 52 (.ld 1 false (.t 51)) :: fI 53 (.mv (.t 6)) :: fI 54 (.iad 5 (.t 52) (.t 53)) :: fI 55 (.fad 1 (.t 54)) :: fI 56 (.ld 1 false (.t 55)) :: fI 57 (.len (.t 56)) :: fI 58 (.bin 0 .add (.t 50) (.t 57)) :: fI 59 (.fad 2 (.t 5)) :: fI 60 (.ld 1 false (.t 59)) :: fI 61 (.mv (.t 6)) :: fI 62 (.iad 5 (.t 60) (.t 61)) :: fI 63 (.fad 0 (.t 62)) :: fI 64 (.ld 1 false (.t 63)) :: fI 65 (.len (.t 64)) :: fI 66 (.bin 0 .add (.t 58) (.t 65)) :: fI 3 (.mv (.t 66)) :: []) [1, 3, 4, 5, 6]) s_sp_UnitValid_9)) s_sp_UnitValid_10)
def s_sp_UnitValid_l12 : SC := (.seq (.seq (.reg ( fI 43 (.mv (.t 6)) :: fI 44 (.fad 2 (.t 5)) :: fI 45 (.ld 1 false (.t 44)) :: fI 46 (.len (.t 45)) :: fI 47 (.bin 0 .lss (.t 43) (.t 46)) :: []) [1, 3, 4, 5, 6, 47]) (.cond (.t 47) .skip (.exit 2))) s_sp_UnitValid_11)
def s_sp_UnitValid_13 : SC := (.seq (.reg ( fI 6 (.mv (kI 0)) :: []) [1, 3, 4, 5, 6]) (.block 2 (.loop s_sp_UnitValid_l12)))
def s_sp_UnitValid_14 : SC := (.seq (.seq (.reg ( fI 24 (.fad 0 (.t 5)) :: fI 25 (.ld 1 false (.t 24)) :: eI 26 (.call fn_l1In [.t 25, kI 0, kI 3]) :: s_sp_UnitValid_i5) [1, 3, 4, 5, 42]) s_sp_UnitValid_6) s_sp_UnitValid_13)
def s_sp_UnitValid_15 : SC := (.reg ( fI 17 (.mv (.t 4)) :: fI 18 (.bin 0 .add (.t 17) (kI 1)) :: fI 4 (.mv (.t 18)) :: []) [1, 3, 4])
def s_sp_UnitValid_16 : SC := (.seq (.block 1 (.seq (.reg ( fI 19 (.fad 0 (.t 1)) :: fI 20 (.ld 1 false (.t 19)) :: fI 21 (.mv (.t 4)) :: fI 22 (.iad 3 (.t 20) (.t 21)) :: fI 23 (.ld 3 true (.t 22)) :: eI 5 (.alloc [.int .i64 0, .int .i64 0, .sl true 5 []]) :: s_sp_UnitValid_i2) [1, 3, 4, 5]) s_sp_UnitValid_14)) s_sp_UnitValid_15)
def s_sp_UnitValid_l17 : SC := (.seq (.seq (.reg ( fI 12 (.mv (.t 4)) :: fI 13 (.fad 0 (.t 1)) :: fI 14 (.ld 1 false (.t 13)) :: fI 15 (.len (.t 14)) :: fI 16 (.bin 0 .lss (.t 12) (.t 15)) :: []) [1, 3, 4, 16]) (.cond (.t 16) .skip (.exit 0))) s_sp_UnitValid_16)
def s_sp_UnitValid_18 : SC := (.seq (.reg ( fI 2 (.mv (.k (.c (.bool true)))) :: []) [2]) .ret)
def s_sp_UnitValid_19 : SC := (.seq (.seq (.reg ( fI 4 (.mv (kI 0)) :: []) [1, 3, 4]) (.block 0 (.loop s_sp_UnitValid_l17))) s_sp_UnitValid_18)
def s_sp_UnitValid_20 : SC := (.seq (.reg ( fI 3 (.mv (kI 0)) :: []) [1, 3]) s_sp_UnitValid_19)
def s_sp_UnitValid_21 : SC := (.seq (.seq (.reg ( fI 7 (.fad 0 (.t 1)) :: fI 8 (.ld 1 false (.t 7)) :: fI 9 (.len (.t 8)) :: eI 10 (.call fn_l1In [.t 9, kI 1, kI 4]) :: s_sp_UnitValid_i0) [1, 11]) s_sp_UnitValid_1) s_sp_UnitValid_20)
def s_sp_UnitValid : SC := (.seq (.reg ( fI 1 (.box (.t 0)) :: fI 2 (.mv (.k (.c (.bool false)))) :: []) [1]) s_sp_UnitValid_21)
def r_sp_UnitValid : List RS := [.tmp 2]
theorem m_sp_UnitValid : mFn prog fn_sp_UnitValid 1 76 s_sp_UnitValid r_sp_UnitValid = true := by kernel_rfl
def s_l9Unit_i0 : List Item := .e none none (.sto 1 (.t 3) (.t 5)) :: []
def s_l9Unit_i1 : List Item := fI 20 (.fad 0 (.t 3)) :: .e none none (.sto 1 (.t 20) (.t 19)) :: []
def s_l9Unit_i2 : List Item := .chk 14 none (.ld 1 false (.t 13)) :: fI 18 (.bsl 3 [.t 17]) :: eI 19 (.app 3 (.t 14) (.t 18)) :: s_l9Unit_i1
def s_l9Unit_3 : SC := (.reg ( fI 11 (.mv (.t 4)) :: fI 12 (.bin 0 .add (.t 11) (kI 1)) :: fI 4 (.mv (.t 12)) :: []) [1, 2, 3, 4])
def s_l9Unit_4 : SC := (.seq (.block 1 (.dreg 9 [0, 1, 2, 3, 4, 1, 5, 6, 7, 8] ( fI 13 (.fad 0 (.t 3)) :: fI 14 (.ld 1 false (.t 13)) :: fI 15 (.ld 1 true (.t 1)) :: fI 16 (.mv (.t 4)) :: eI 17 (.call fn_l9Fn [.t 15, .t 16]) :: s_l9Unit_i2) [1, 2, 3, 4])) s_l9Unit_3)
def s_l9Unit_l5 : SC := (.seq (.seq (.reg ( fI 6 (.mv (.t 4)) :: fI 7 (.fad 0 (.t 1)) :: fI 8 (.ld 1 false (.t 7)) :: fI 9 (.len (.t 8)) :: fI 10 (.bin 0 .lss (.t 6) (.t 9)) :: []) [1, 2, 3, 4, 10]) (.cond (.t 10) .skip (.exit 0))) s_l9Unit_4)
def s_l9Unit_6 : SC := (.seq (.reg ( fI 21 (.ld 1 true (.t 3)) :: .e none none (.sto 1 (.t 2) (.t 21)) :: []) [2]) .ret)
def s_l9Unit_7 : SC := (.seq (.seq (.reg ( fI 4 (.mv (kI 0)) :: []) [1, 2, 3, 4]) (.block 0 (.loop s_l9Unit_l5))) s_l9Unit_6)
def s_l9Unit_8 : SC := (.seq (.reg ( fI 5 (.bld [.sl true 3 []] []) :: eI 3 (.alloc [.sl true 3 []]) :: s_l9Unit_i0) [1, 2, 3]) s_l9Unit_7)
def s_l9Unit : SC := (.seq (.reg ( fI 1 (.box (.t 0)) :: eI 2 (.alloc [.sl true 3 []]) :: []) [1, 2]) s_l9Unit_8)
def r_l9Unit : List RS := [.cell 2 1 true]
theorem m_l9Unit : mFn prog fn_l9Unit 1 22 s_l9Unit r_l9Unit = true := by kernel_rfl
def s_l3Prog_i0 : List Item := fI 3 (.mv (.t 13)) :: []
def s_l3Prog_i1 : List Item := fI 12 (.bld [.pnil, .sl true 3 [], .sl true 1 [], .int .i64 0, .int .i64 0] [(0, 1, .t 8), (4, 1, .t 11)]) :: eI 13 (.boxm (.t 12)) :: s_l3Prog_i0
def s_l3Prog_i2 : List Item := fI 4 (.mv (.t 16)) :: []
def s_l3Prog_i3 : List Item := .chk 26 none (.ld 1 false (.t 25)) :: .chk 27 none (.len (.t 26)) :: .chk 28 none (.iad 1 (.t 22) (.t 27)) :: .chk 29 none (.ld 1 false (.t 28)) :: .e none none (.sto 3 (.t 5) (.t 32)) :: []
def s_l3Prog_i4 : List Item := eI 5 (.alloc [.str [], .sl true 1 [], .sl true 5 []]) :: s_l3Prog_i3
def s_l3Prog_i5 : List Item := .chk 26 none (.ld 1 false (.t 25)) :: .chk 27 none (.len (.t 26)) :: .chk 28 none (.iad 1 (.t 22) (.t 27)) :: .chk 29 none (.ld 1 false (.t 28)) :: eI 32 (.call fn_l3Gen_fn [.t 21, .t 29, .t 31]) :: s_l3Prog_i4
def s_l3Prog_i6 : List Item := fI 41 (.nck (.t 33)) :: fI 42 (.fad 1 (.t 41)) :: .e none none (.sto 1 (.t 42) (.t 40)) :: []
def s_l3Prog_7 : SC := (.dreg 11 [0, 1, 2, 3, 4, 5, 6, 7, 8, 9, 10] ( fI 33 (.mv (.t 3)) :: fI 34 (.mv (.t 3)) :: fI 35 (.nck (.t 34)) :: fI 36 (.fad 1 (.t 35)) :: fI 37 (.ld 1 false (.t 36)) :: fI 38 (.ld 3 true (.t 5)) :: fI 39 (.bsl 3 [.t 38]) :: eI 40 (.app 3 (.t 37) (.t 39)) :: s_l3Prog_i6) [0, 2, 3, 4])
def s_l3Prog_8 : SC := (.reg ( fI 19 (.mv (.t 4)) :: fI 20 (.bin 0 .sub (.t 19) (kI 1)) :: fI 4 (.mv (.t 20)) :: []) [0, 2, 3, 4])
def s_l3Prog_9 : SC := (.seq (.block 1 (.seq (.dreg 12 [0, 1, 2, 3, 4, 5, 6, 7, 8, 9, 10, 5, 6, 7, 8, 11, 12, 5, 6, 7, 8, 13] ( fI 21 (.mv (.t 3)) :: fI 22 (.bsl 1 [.k (.c (.str [102])), .k (.c (.str [103])), .k (.c (.str [104]))]) :: fI 23 (.mv (.t 3)) :: fI 24 (.nck (.t 23)) :: fI 25 (.fad 1 (.t 24)) :: fI 26 (.ld 1 false (.t 25)) :: fI 27 (.len (.t 26)) :: fI 28 (.iad 1 (.t 22) (.t 27)) :: fI 29 (.ld 1 false (.t 28)) :: fI 30 (.mv (.t 0)) :: eI 31 (.call fn_l30Rd_pick [.t 30, kI 3]) :: s_l3Prog_i5) [0, 2, 3, 4, 5]) s_l3Prog_7)) s_l3Prog_8)
def s_l3Prog_l10 : SC := (.seq (.seq (.reg ( fI 17 (.mv (.t 4)) :: fI 18 (.bin 0 .gtr (.t 17) (kI 0)) :: []) [0, 2, 3, 4, 18]) (.cond (.t 18) .skip (.exit 0))) s_l3Prog_9)
def s_l3Prog_i11 : List Item := .e none none (.sto 3 (.t 6) (.t 47)) :: []
def s_l3Prog_i12 : List Item := eI 6 (.alloc [.str [], .sl true 1 [], .sl true 5 []]) :: s_l3Prog_i11
def s_l3Prog_i13 : List Item := eI 47 (.call fn_l3Gen_fn [.t 43, .k (.c (.str [109])), .t 46]) :: s_l3Prog_i12
def s_l3Prog_i14 : List Item := .chk 52 none (.ld 1 false (.t 51)) :: .chk 54 none (.ld 3 true (.t 6)) :: .e none none (.sto 1 (.t 7) (.t 57)) :: []
def s_l3Prog_i15 : List Item := fI 57 (.bld [.sl true 3 []] [(0, 1, .t 56)]) :: eI 7 (.alloc [.sl true 3 []]) :: s_l3Prog_i14
def s_l3Prog_i16 : List Item := .chk 54 none (.ld 3 true (.t 6)) :: eI 56 (.app 3 (.t 53) (.t 55)) :: s_l3Prog_i15
def s_l3Prog_i17 : List Item := fI 60 (.not (.t 59)) :: []
def s_l3Prog_18 : SC := (.cond (.t 60) (.seq (.reg ( fI 61 (.bld [.int .i64 0, .int .i64 0, .str [], .sl true 4 []] [(0, 1, kI 1), (1, 1, kI 1)]) :: fI 62 (.bsl 4 [.t 61]) :: fI 63 (.bld [.int .i64 0, .str [], .sl true 4 [], .sl true 5 [], .sl true 5 []] [(0, 1, kI 3), (2, 1, .t 62)]) :: fI 64 (.bsl 5 [.t 63]) :: fI 65 (.bld [.str [], .sl true 1 [], .sl true 5 []] [(0, 1, .k (.c (.str [109]))), (2, 1, .t 64)]) :: fI 66 (.bsl 3 [.t 65]) :: fI 67 (.bld [.sl true 3 []] [(0, 1, .t 66)]) :: .e none none (.sto 1 (.t 2) (.t 67)) :: []) [2]) .ret) .skip)
def s_l3Prog_19 : SC := (.seq (.reg ( fI 68 (.ld 1 true (.t 7)) :: .e none none (.sto 1 (.t 2) (.t 68)) :: []) [2]) .ret)
def s_l3Prog_20 : SC := (.seq (.seq (.seq .gh (.reg ( fI 58 (.ld 1 true (.t 7)) :: eI 59 (.call fn_sp_ProgramValid [.t 58]) :: s_l3Prog_i17) [2, 7, 60])) s_l3Prog_18) s_l3Prog_19)
def s_l3Prog_21 : SC := (.seq (.dreg 10 [0, 1, 2, 3, 4, 6, 7, 5, 6, 8, 9, 10, 4, 6, 11] ( fI 48 (.bsl 3 []) :: fI 49 (.mv (.t 3)) :: fI 50 (.nck (.t 49)) :: fI 51 (.fad 1 (.t 50)) :: fI 52 (.ld 1 false (.t 51)) :: fI 54 (.ld 3 true (.t 6)) :: fI 55 (.bsl 3 [.t 54]) :: eI 53 (.app 3 (.t 48) (.t 52)) :: s_l3Prog_i16) [2, 7]) s_l3Prog_20)
def s_l3Prog_22 : SC := (.seq (.reg ( fI 43 (.mv (.t 3)) :: fI 44 (.mv (.t 0)) :: fI 45 (.bsl 1 [kI 0, kI 1, kI 2, kI 1]) :: eI 46 (.call fn_l30Rd_num [.t 44, .t 45]) :: s_l3Prog_i13) [2, 3, 6]) s_l3Prog_21)
def s_l3Prog_23 : SC := (.seq (.seq (.reg ( fI 14 (.mv (.t 0)) :: fI 15 (.bsl 1 [kI 0, kI 1, kI 1, kI 2]) :: eI 16 (.call fn_l30Rd_num [.t 14, .t 15]) :: s_l3Prog_i2) [0, 2, 3, 4]) (.block 0 (.loop s_l3Prog_l10))) s_l3Prog_22)
def s_l3Prog_24 : SC := (.seq (.reg ( fI 8 (.mv (.t 0)) :: fI 9 (.mv (.t 0)) :: fI 10 (.bsl 1 [kI 14, kI 20, kI 8, kI 26]) :: eI 11 (.call fn_l30Rd_num [.t 9, .t 10]) :: s_l3Prog_i1) [0, 2, 3]) s_l3Prog_23)
def s_l3Prog : SC := (.seq (.reg ( eI 2 (.alloc [.sl true 3 []]) :: []) [0, 2]) s_l3Prog_24)
def r_l3Prog : List RS := [.cell 2 1 true]
theorem m_l3Prog : mFn prog fn_l3Prog 1 69 s_l3Prog r_l3Prog = true := by kernel_rfl
def s_l7Copy_i0 : List Item := .e none none (.sto 3 (.t 3) (.t 9)) :: []
def s_l7Copy_i1 : List Item := fI 27 (.fad 2 (.t 3)) :: .e none none (.sto 1 (.t 27) (.t 26)) :: []
def s_l7Copy_i2 : List Item := .chk 18 none (.ld 1 false (.t 17)) :: fI 25 (.bsl 5 [.t 24]) :: eI 26 (.app 5 (.t 18) (.t 25)) :: s_l7Copy_i1
def s_l7Copy_3 : SC := (.reg ( fI 15 (.mv (.t 4)) :: fI 16 (.bin 0 .add (.t 15) (kI 1)) :: fI 4 (.mv (.t 16)) :: []) [1, 2, 3, 4])
def s_l7Copy_4 : SC := (.seq (.block 1 (.dreg 12 [0, 1, 2, 3, 4, 5, 6, 7, 1, 8, 9, 10, 11] ( fI 17 (.fad 2 (.t 3)) :: fI 18 (.ld 1 false (.t 17)) :: fI 19 (.fad 2 (.t 1)) :: fI 20 (.ld 1 false (.t 19)) :: fI 21 (.mv (.t 4)) :: fI 22 (.iad 5 (.t 20) (.t 21)) :: fI 23 (.ld 5 true (.t 22)) :: eI 24 (.call fn_l7CopyBlock [.t 23]) :: s_l7Copy_i2) [1, 2, 3, 4])) s_l7Copy_3)
def s_l7Copy_l5 : SC := (.seq (.seq (.reg ( fI 10 (.mv (.t 4)) :: fI 11 (.fad 2 (.t 1)) :: fI 12 (.ld 1 false (.t 11)) :: fI 13 (.len (.t 12)) :: fI 14 (.bin 0 .lss (.t 10) (.t 13)) :: []) [1, 2, 3, 4, 14]) (.cond (.t 14) .skip (.exit 0))) s_l7Copy_4)
def s_l7Copy_6 : SC := (.seq (.reg ( fI 28 (.ld 3 true (.t 3)) :: .e none none (.sto 3 (.t 2) (.t 28)) :: []) [2]) .ret)
def s_l7Copy_7 : SC := (.seq (.seq (.reg ( fI 4 (.mv (kI 0)) :: []) [1, 2, 3, 4]) (.block 0 (.loop s_l7Copy_l5))) s_l7Copy_6)
def s_l7Copy_8 : SC := (.seq (.reg ( fI 5 (.fad 0 (.t 1)) :: fI 6 (.ld 1 false (.t 5)) :: fI 7 (.fad 1 (.t 1)) :: fI 8 (.ld 1 false (.t 7)) :: fI 9 (.bld [.int .i64 0, .int .i64 0, .sl true 5 []] [(0, 1, .t 6), (1, 1, .t 8)]) :: eI 3 (.alloc [.int .i64 0, .int .i64 0, .sl true 5 []]) :: s_l7Copy_i0) [1, 2, 3]) s_l7Copy_7)
def s_l7Copy : SC := (.seq (.reg ( fI 1 (.box (.t 0)) :: eI 2 (.alloc [.int .i64 0, .int .i64 0, .sl true 5 []]) :: []) [1, 2]) s_l7Copy_8)
def r_l7Copy : List RS := [.cell 2 3 true]
theorem m_l7Copy : mFn prog fn_l7Copy 1 29 s_l7Copy r_l7Copy = true := by kernel_rfl
def s_l7Preds_i0 : List Item := fI 5 (.mv (.t 41)) :: []
def s_l7Preds_1 : SC := (.cond (.t 37) (.seq (.reg ( fI 38 (.mv (.t 5)) :: fI 39 (.mv (.t 6)) :: fI 40 (.bsl 1 [.t 39]) :: eI 41 (.app 1 (.t 38) (.t 40)) :: s_l7Preds_i0) [1, 2, 5, 6]) (.exit 2)) .skip)
def s_l7Preds_2 : SC := (.reg ( fI 25 (.mv (.t 7)) :: fI 26 (.bin 0 .add (.t 25) (kI 1)) :: fI 7 (.mv (.t 26)) :: []) [1, 2, 5, 6, 7])
def s_l7Preds_3 : SC := (.seq (.block 3 (.seq (.reg ( fI 27 (.fad 2 (.t 2)) :: fI 28 (.ld 1 false (.t 27)) :: fI 29 (.mv (.t 6)) :: fI 30 (.iad 5 (.t 28) (.t 29)) :: fI 31 (.fad 4 (.t 30)) :: fI 32 (.ld 1 false (.t 31)) :: fI 33 (.mv (.t 7)) :: fI 34 (.iad 1 (.t 32) (.t 33)) :: fI 35 (.ld 1 false (.t 34)) :: fI 36 (.mv (.t 1)) :: fI 37 (.bin 0 .eql (.t 35) (.t 36)) :: []) [1, 2, 5, 6, 7, 37]) s_l7Preds_1)) s_l7Preds_2)
def s_l7Preds_l4 : SC := (.seq (.seq (.reg ( fI 16 (.mv (.t 7)) :: fI 17 (.fad 2 (.t 2)) :: fI 18 (.ld 1 false (.t 17)) :: fI 19 (.mv (.t 6)) :: fI 20 (.iad 5 (.t 18) (.t 19)) :: fI 21 (.fad 4 (.t 20)) :: fI 22 (.ld 1 false (.t 21)) :: fI 23 (.len (.t 22)) :: fI 24 (.bin 0 .lss (.t 16) (.t 23)) :: []) [1, 2, 5, 6, 7, 24]) (.cond (.t 24) .skip (.exit 2))) s_l7Preds_3)
def s_l7Preds_5 : SC := (.reg ( fI 14 (.mv (.t 6)) :: fI 15 (.bin 0 .add (.t 14) (kI 1)) :: fI 6 (.mv (.t 15)) :: []) [1, 2, 5, 6])
def s_l7Preds_6 : SC := (.seq (.block 1 (.seq (.reg ( fI 7 (.mv (kI 0)) :: []) [1, 2, 5, 6, 7]) (.block 2 (.loop s_l7Preds_l4)))) s_l7Preds_5)
def s_l7Preds_l7 : SC := (.seq (.seq (.reg ( fI 9 (.mv (.t 6)) :: fI 10 (.fad 2 (.t 2)) :: fI 11 (.ld 1 false (.t 10)) :: fI 12 (.len (.t 11)) :: fI 13 (.bin 0 .lss (.t 9) (.t 12)) :: []) [1, 2, 5, 6, 13]) (.cond (.t 13) .skip (.exit 0))) s_l7Preds_6)
def s_l7Preds_8 : SC := (.seq (.reg ( fI 42 (.mv (.t 5)) :: fI 4 (.mv (.t 42)) :: []) [4]) .ret)
def s_l7Preds_9 : SC := (.seq (.seq (.reg ( fI 6 (.mv (kI 0)) :: []) [1, 2, 5, 6]) (.block 0 (.loop s_l7Preds_l7))) s_l7Preds_8)
def s_l7Preds_10 : SC := (.seq (.reg ( fI 8 (.bsl 1 []) :: fI 5 (.mv (.t 8)) :: []) [1, 2, 5]) s_l7Preds_9)
def s_l7Preds : SC := (.seq (.reg ( fI 2 (.box (.t 0)) :: fI 4 (.mv (.k (.c (.sl true 1 [])))) :: []) [1, 2]) s_l7Preds_10)
def r_l7Preds : List RS := [.tmp 4]
theorem m_l7Preds : mFn prog fn_l7Preds 2 43 s_l7Preds r_l7Preds = true := by kernel_rfl
def s_l7Code_i0 : List Item := .e none none (.sto 3 (.t 5) (.t 13)) :: []
def s_l7Code_i1 : List Item := fI 13 (.bld [.int .i64 0, .int .i64 0, .sl true 5 []] [(0, 1, .t 12)]) :: eI 5 (.alloc [.int .i64 0, .int .i64 0, .sl true 5 []]) :: s_l7Code_i0
def s_l7Code_i2 : List Item := .chk 15 none (.ld 1 false (.t 14)) :: fI 19 (.bin 0 .add (.t 16) (.t 18)) :: fI 20 (.fad 1 (.t 5)) :: .e none none (.sto 1 (.t 20) (.t 19)) :: []
def s_l7Code_i3 : List Item := fI 6 (.mv (.t 23)) :: []
def s_l7Code_i4 : List Item := .e none none (.sto 5 (.t 8) (.t 29)) :: []
def s_l7Code_i5 : List Item := fI 9 (.mv (.t 32)) :: []
def s_l7Code_i6 : List Item := fI 46 (.fad 1 (.t 8)) :: .e none none (.sto 1 (.t 46) (.t 45)) :: []
def s_l7Code_i7 : List Item := .chk 38 none (.ld 1 false (.t 37)) :: fI 44 (.bsl 4 [.t 43]) :: eI 45 (.app 4 (.t 38) (.t 44)) :: s_l7Code_i6
def s_l7Code_8 : SC := (.reg ( fI 35 (.mv (.t 9)) :: fI 36 (.bin 0 .sub (.t 35) (kI 1)) :: fI 9 (.mv (.t 36)) :: []) [0, 3, 4, 5, 6, 7, 8, 9])
def s_l7Code_9 : SC := (.seq (.block 3 (.dreg 11 [0, 1, 2, 3, 4, 5, 6, 1, 7, 8, 9, 10] ( fI 37 (.fad 1 (.t 8)) :: fI 38 (.ld 1 false (.t 37)) :: fI 39 (.mv (.t 0)) :: fI 40 (.ld 1 true (.t 3)) :: fI 41 (.fad 1 (.t 5)) :: fI 42 (.ld 1 false (.t 41)) :: eI 43 (.call fn_l7Some [.t 39, .t 40, .t 42]) :: s_l7Code_i7) [0, 3, 4, 5, 6, 7, 8, 9])) s_l7Code_8)
def s_l7Code_l10 : SC := (.seq (.seq (.reg ( fI 33 (.mv (.t 9)) :: fI 34 (.bin 0 .gtr (.t 33) (kI 0)) :: []) [0, 3, 4, 5, 6, 7, 8, 9, 34]) (.cond (.t 34) .skip (.exit 2))) s_l7Code_9)
def s_l7Code_i11 : List Item := fI 51 (.fad 3 (.t 8)) :: .e none none (.sto 1 (.t 51) (.t 50)) :: []
def s_l7Code_i12 : List Item := fI 55 (.fad 2 (.t 8)) :: .e none none (.sto 1 (.t 55) (.t 54)) :: []
def s_l7Code_i13 : List Item := gT 66 63 (.bin 0 .gtr (.t 65) (kI 0)) :: gF 67 58 (.pick (.t 63) (.t 66) (.k (.c (.bool false)))) :: fI 68 (.pick (.t 58) (.k (.c (.bool true))) (.t 67)) :: []
def s_l7Code_14 : SC := (.cond (.t 68) (.reg ( fI 69 (.fad 2 (.t 8)) :: .e none none (.sto 1 (.t 69) (kI 3)) :: []) [0, 3, 4, 5, 6, 7, 8]) .skip)
def s_l7Code_i15 : List Item := fI 79 (.bsl 1 [.t 78]) :: fI 80 (.fad 4 (.t 8)) :: .e none none (.sto 1 (.t 80) (.t 79)) :: []
def s_l7Code_16 : SC := (.reg ( fI 75 (.mv (.t 0)) :: fI 76 (.mv (.t 7)) :: fI 77 (.mv (.t 6)) :: eI 78 (.call fn_l7To [.t 75, .t 76, .t 77]) :: s_l7Code_i15) [0, 3, 4, 5, 6, 7, 8])
def s_l7Code_i17 : List Item := fI 91 (.bsl 1 [.t 86, .t 90]) :: fI 92 (.fad 4 (.t 8)) :: .e none none (.sto 1 (.t 92) (.t 91)) :: []
def s_l7Code_i18 : List Item := fI 87 (.mv (.t 0)) :: fI 88 (.mv (.t 7)) :: fI 89 (.mv (.t 6)) :: eI 90 (.call fn_l7To [.t 87, .t 88, .t 89]) :: s_l7Code_i17
def s_l7Code_19 : SC := (.cond (.t 81) (.reg ( fI 83 (.mv (.t 0)) :: fI 84 (.mv (.t 7)) :: fI 85 (.mv (.t 6)) :: eI 86 (.call fn_l7To [.t 83, .t 84, .t 85]) :: s_l7Code_i18) [0, 3, 4, 5, 6, 7, 8]) .skip)
def s_l7Code_20 : SC := (.cond (.t 72) (.seq (.reg ( fI 74 (.fad 3 (.t 8)) :: .e none none (.sto 1 (.t 74) (kI 0)) :: []) [0, 3, 4, 5, 6, 7, 8]) s_l7Code_16) (.seq (.reg ( fI 82 (.bin 0 .eql (.t 71) (kI 2)) :: fI 81 (.mv (.t 82)) :: []) [0, 3, 4, 5, 6, 7, 8, 81]) s_l7Code_19))
def s_l7Code_21 : SC := (.block 4 (.seq (.reg ( fI 73 (.bin 0 .eql (.t 71) (kI 1)) :: fI 72 (.mv (.t 73)) :: []) [0, 3, 4, 5, 6, 7, 8, 71, 72]) s_l7Code_20))
def s_l7Code_i22 : List Item := fI 98 (.fad 2 (.t 5)) :: .e none none (.sto 1 (.t 98) (.t 97)) :: []
def s_l7Code_23 : SC := (.reg ( fI 93 (.fad 2 (.t 5)) :: fI 94 (.ld 1 false (.t 93)) :: fI 95 (.ld 5 true (.t 8)) :: fI 96 (.bsl 5 [.t 95]) :: eI 97 (.app 5 (.t 94) (.t 96)) :: s_l7Code_i22) [0, 3, 4, 5, 6, 7])
def s_l7Code_24 : SC := (.seq (.seq (.reg ( fI 70 (.fad 2 (.t 8)) :: fI 71 (.ld 1 false (.t 70)) :: []) [0, 3, 4, 5, 6, 7, 8, 71]) s_l7Code_21) s_l7Code_23)
def s_l7Code_25 : SC := (.seq (.seq (.reg ( fI 56 (.mv (.t 6)) :: fI 57 (.bin 0 .eql (.t 56) (kI 1)) :: fI 58 (.mv (.t 57)) :: gF 59 58 (.mv (.t 7)) :: gF 60 58 (.mv (.t 6)) :: gF 61 58 (.bin 0 .sub (.t 60) (kI 1)) :: gF 62 58 (.bin 0 .eql (.t 59) (.t 61)) :: gF 63 58 (.mv (.t 62)) :: gT 64 63 (.mv (.t 0)) :: .e (some 65) (some (63, true)) (.call fn_l30Rd_pick [.t 64, kI 3]) :: s_l7Code_i13) [0, 3, 4, 5, 6, 7, 8, 68]) s_l7Code_14) s_l7Code_24)
def s_l7Code_26 : SC := (.seq (.reg ( fI 52 (.mv (.t 0)) :: fI 53 (.bsl 1 [kI 2, kI 1, kI 2, kI 1, kI 3]) :: eI 54 (.call fn_l30Rd_num [.t 52, .t 53]) :: s_l7Code_i12) [0, 3, 4, 5, 6, 7, 8]) s_l7Code_25)
def s_l7Code_27 : SC := (.seq (.reg ( fI 47 (.mv (.t 0)) :: fI 48 (.fad 1 (.t 5)) :: fI 49 (.ld 1 false (.t 48)) :: eI 50 (.call fn_l30Rd_pick [.t 47, .t 49]) :: s_l7Code_i11) [0, 3, 4, 5, 6, 7, 8]) s_l7Code_26)
def s_l7Code_28 : SC := (.seq (.seq (.reg ( fI 30 (.mv (.t 0)) :: fI 31 (.bsl 1 [kI 1, kI 2, kI 0, kI 3, kI 4]) :: eI 32 (.call fn_l30Rd_num [.t 30, .t 31]) :: s_l7Code_i5) [0, 3, 4, 5, 6, 7, 8, 9]) (.block 2 (.loop s_l7Code_l10))) s_l7Code_27)
def s_l7Code_29 : SC := (.reg ( fI 27 (.mv (.t 7)) :: fI 28 (.bin 0 .add (.t 27) (kI 1)) :: fI 7 (.mv (.t 28)) :: []) [0, 3, 4, 5, 6, 7])
def s_l7Code_30 : SC := (.seq (.block 1 (.seq (.reg ( fI 29 (.bld [.sl true 2 [], .sl true 4 [], .int .i64 0, .int .i64 0, .sl true 1 []] []) :: eI 8 (.alloc [.sl true 2 [], .sl true 4 [], .int .i64 0, .int .i64 0, .sl true 1 []]) :: s_l7Code_i4) [0, 3, 4, 5, 6, 7, 8]) s_l7Code_28)) s_l7Code_29)
def s_l7Code_l31 : SC := (.seq (.seq (.reg ( fI 24 (.mv (.t 7)) :: fI 25 (.mv (.t 6)) :: fI 26 (.bin 0 .lss (.t 24) (.t 25)) :: []) [0, 3, 4, 5, 6, 7, 26]) (.cond (.t 26) .skip (.exit 0))) s_l7Code_30)
def s_l7Code_32 : SC := (.seq (.reg ( fI 99 (.ld 3 true (.t 5)) :: .e none none (.sto 3 (.t 4) (.t 99)) :: []) [4]) .ret)
def s_l7Code_33 : SC := (.seq (.seq (.reg ( fI 7 (.mv (kI 0)) :: []) [0, 3, 4, 5, 6, 7]) (.block 0 (.loop s_l7Code_l31))) s_l7Code_32)
def s_l7Code_34 : SC := (.seq (.reg ( fI 21 (.mv (.t 0)) :: fI 22 (.bsl 1 [kI 3, kI 5, kI 2, kI 1, kI 7, kI 4]) :: eI 23 (.call fn_l30Rd_num [.t 21, .t 22]) :: s_l7Code_i3) [0, 3, 4, 5, 6]) s_l7Code_33)
def s_l7Code_35 : SC := (.seq (.dreg 8 [0, 1, 2, 3, 4, 1, 5, 6, 7] ( fI 14 (.fad 0 (.t 5)) :: fI 15 (.ld 1 false (.t 14)) :: fI 16 (.bin 0 .add (.t 15) (kI 2)) :: fI 17 (.mv (.t 0)) :: eI 18 (.call fn_l30Rd_pick [.t 17, kI 5]) :: s_l7Code_i2) [0, 3, 4, 5]) s_l7Code_34)
def s_l7Code_36 : SC := (.seq (.reg ( fI 10 (.mv (.t 0)) :: fI 11 (.bsl 1 [kI 1, kI 0, kI 2, kI 3]) :: eI 12 (.call fn_l30Rd_num [.t 10, .t 11]) :: s_l7Code_i1) [0, 3, 4, 5]) s_l7Code_35)
def s_l7Code : SC := (.seq (.reg ( fI 3 (.box (.t 1)) :: eI 4 (.alloc [.int .i64 0, .int .i64 0, .sl true 5 []]) :: []) [0, 3, 4]) s_l7Code_36)
def r_l7Code : List RS := [.cell 4 3 true]
theorem m_l7Code : mFn prog fn_l7Code 2 100 s_l7Code r_l7Code = true := by kernel_rfl
def s_l1In_0 : SC := (.seq (.reg ( fI 7 (.mv (.t 0)) :: fI 8 (.mv (.t 1)) :: fI 9 (.bin 0 .geq (.t 7) (.t 8)) :: fI 10 (.mv (.t 9)) :: gT 11 10 (.mv (.t 0)) :: gT 12 10 (.mv (.t 2)) :: gT 13 10 (.bin 0 .leq (.t 11) (.t 12)) :: fI 14 (.pick (.t 10) (.t 13) (.k (.c (.bool false)))) :: fI 6 (.mv (.t 14)) :: []) [6]) .ret)
def s_l1In : SC := (.seq (.reg ( fI 6 (.mv (.k (.c (.bool false)))) :: []) [0, 1, 2]) s_l1In_0)
def r_l1In : List RS := [.tmp 6]
theorem m_l1In : mFn prog fn_l1In 3 15 s_l1In r_l1In = true := by kernel_rfl
def s_l7Block_i0 : List Item := .e none none (.sto 3 (.t 7) (.t 18)) :: []
def s_l7Block_i1 : List Item := .e none none (.sto 5 (.t 8) (.t 23)) :: []
def s_l7Block_2 : SC := (.cond (.t 30) (.seq (.reg ( fI 6 (.mv (.k (.c (.bool false)))) :: []) [6]) .ret) .skip)
def s_l7Block_3 : SC := (.cond (.t 33) (.reg ( fI 9 (.mv (kI 0)) :: []) [1, 2, 3, 7, 8, 9]) (.seq (.reg ( fI 6 (.mv (.k (.c (.bool false)))) :: []) [6]) .ret))
def s_l7Block_4 : SC := (.cond (.t 31) (.reg ( fI 9 (.mv (kI 2)) :: []) [1, 2, 3, 7, 8, 9]) (.seq (.reg ( fI 34 (.bin 0 .eql (.t 25) (kI 3)) :: fI 33 (.mv (.t 34)) :: []) [1, 2, 3, 7, 8, 33]) s_l7Block_3))
def s_l7Block_5 : SC := (.cond (.t 26) (.seq (.reg ( fI 28 (.fad 3 (.t 8)) :: fI 29 (.ld 1 false (.t 28)) :: fI 30 (.bin 0 .neq (.t 29) (kI 0)) :: []) [1, 2, 3, 7, 8, 9, 30]) s_l7Block_2) (.seq (.reg ( fI 32 (.bin 0 .eql (.t 25) (kI 2)) :: fI 31 (.mv (.t 32)) :: []) [1, 2, 3, 7, 8, 25, 31]) s_l7Block_4))
def s_l7Block_6 : SC := (.block 0 (.seq (.reg ( fI 27 (.bin 0 .eql (.t 25) (kI 1)) :: fI 26 (.mv (.t 27)) :: []) [1, 2, 3, 7, 8, 9, 25, 26]) s_l7Block_5))
def s_l7Block_i7 : List Item := gT 51 44 (.not (.t 50)) :: gF 52 40 (.pick (.t 44) (.t 51) (.k (.c (.bool false)))) :: fI 53 (.pick (.t 40) (.k (.c (.bool true))) (.t 52)) :: []
def s_l7Block_8 : SC := (.cond (.t 53) (.seq (.reg ( fI 6 (.mv (.k (.c (.bool false)))) :: []) [6]) .ret) .skip)
def s_l7Block_i9 : List Item := fI 71 (.not (.t 70)) :: []
def s_l7Block_10 : SC := (.cond (.t 71) (.seq (.reg ( fI 6 (.mv (.k (.c (.bool false)))) :: []) [6]) .ret) .skip)
def s_l7Block_11 : SC := (.reg ( fI 59 (.mv (.t 10)) :: fI 60 (.bin 0 .add (.t 59) (kI 1)) :: fI 10 (.mv (.t 60)) :: []) [1, 2, 3, 7, 8, 10])
def s_l7Block_12 : SC := (.seq (.block 2 (.seq (.dreg 11 [0, 1, 2, 3, 4, 5, 6, 7, 8, 9, 10] ( fI 61 (.fad 4 (.t 8)) :: fI 62 (.ld 1 false (.t 61)) :: fI 63 (.mv (.t 10)) :: fI 64 (.iad 1 (.t 62) (.t 63)) :: fI 65 (.ld 1 false (.t 64)) :: fI 66 (.fad 2 (.t 7)) :: fI 67 (.ld 1 false (.t 66)) :: fI 68 (.len (.t 67)) :: fI 69 (.bin 0 .sub (.t 68) (kI 1)) :: eI 70 (.call fn_l1In [.t 65, kI 1, .t 69]) :: s_l7Block_i9) [1, 2, 3, 7, 8, 10, 71]) s_l7Block_10)) s_l7Block_11)
def s_l7Block_l13 : SC := (.seq (.seq (.reg ( fI 54 (.mv (.t 10)) :: fI 55 (.fad 4 (.t 8)) :: fI 56 (.ld 1 false (.t 55)) :: fI 57 (.len (.t 56)) :: fI 58 (.bin 0 .lss (.t 54) (.t 57)) :: []) [1, 2, 3, 7, 8, 10, 58]) (.cond (.t 58) .skip (.exit 1))) s_l7Block_12)
def s_l7Block_i14 : List Item := fI 87 (.not (.t 86)) :: []
def s_l7Block_15 : SC := (.cond (.t 87) (.seq (.reg ( fI 6 (.mv (.k (.c (.bool false)))) :: []) [6]) .ret) .skip)
def s_l7Block_16 : SC := (.reg ( fI 77 (.mv (.t 11)) :: fI 78 (.bin 0 .add (.t 77) (kI 1)) :: fI 11 (.mv (.t 78)) :: []) [1, 2, 3, 7, 8, 11])
def s_l7Block_17 : SC := (.seq (.block 4 (.seq (.dreg 9 [0, 1, 2, 3, 4, 5, 6, 7, 8] ( fI 79 (.ld 1 true (.t 3)) :: fI 80 (.mv (.t 1)) :: fI 81 (.fad 1 (.t 8)) :: fI 82 (.ld 1 false (.t 81)) :: fI 83 (.mv (.t 11)) :: fI 84 (.iad 4 (.t 82) (.t 83)) :: fI 85 (.ld 4 true (.t 84)) :: eI 86 (.call fn_l7Ins [.t 79, .t 80, .t 85]) :: s_l7Block_i14) [1, 2, 3, 7, 8, 11, 87]) s_l7Block_15)) s_l7Block_16)
def s_l7Block_l18 : SC := (.seq (.seq (.reg ( fI 72 (.mv (.t 11)) :: fI 73 (.fad 1 (.t 8)) :: fI 74 (.ld 1 false (.t 73)) :: fI 75 (.len (.t 74)) :: fI 76 (.bin 0 .lss (.t 72) (.t 75)) :: []) [1, 2, 3, 7, 8, 11, 76]) (.cond (.t 76) .skip (.exit 3))) s_l7Block_17)
def s_l7Block_i19 : List Item := fI 12 (.mv (.t 90)) :: []
def s_l7Block_i20 : List Item := gF 134 123 (.not (.t 133)) :: fI 135 (.pick (.t 123) (.k (.c (.bool true))) (.t 134)) :: []
def s_l7Block_i21 : List Item := gF 121 112 (.not (.t 120)) :: fI 122 (.pick (.t 112) (.k (.c (.bool true))) (.t 121)) :: fI 123 (.mv (.t 122)) :: gF 124 123 (.fad 0 (.t 8)) :: gF 125 123 (.ld 1 false (.t 124)) :: gF 126 123 (.mv (.t 13)) :: gF 127 123 (.iad 2 (.t 125) (.t 126)) :: gF 128 123 (.fad 0 (.t 127)) :: gF 129 123 (.ld 1 false (.t 128)) :: gF 130 123 (.fad 1 (.t 7)) :: gF 131 123 (.ld 1 false (.t 130)) :: gF 132 123 (.bin 0 .sub (.t 131) (kI 1)) :: .e (some 133) (some (123, false)) (.call fn_l1In [.t 129, kI 0, .t 132]) :: s_l7Block_i20
def s_l7Block_22 : SC := (.cond (.t 135) (.seq (.reg ( fI 6 (.mv (.k (.c (.bool false)))) :: []) [6]) .ret) .skip)
def s_l7Block_23 : SC := (.reg ( fI 96 (.mv (.t 13)) :: fI 97 (.bin 0 .add (.t 96) (kI 1)) :: fI 13 (.mv (.t 97)) :: []) [2, 7, 8, 12, 13])
def s_l7Block_24 : SC := (.seq (.block 6 (.seq (.dreg 38 [0, 1, 2, 3, 4, 5, 6, 7, 8, 9, 10, 11, 12, 13, 14, 15, 16, 17, 18, 19, 20, 21, 22, 23, 24, 25, 26, 27, 28, 29, 30, 31, 32, 33, 34, 35, 36, 37] ( fI 98 (.mv (.t 2)) :: fI 99 (.bin 0 .eql (.t 98) (kI 0)) :: fI 100 (.mv (.t 99)) :: gF 101 100 (.fad 0 (.t 8)) :: gF 102 100 (.ld 1 false (.t 101)) :: gF 103 100 (.mv (.t 13)) :: gF 104 100 (.iad 2 (.t 102) (.t 103)) :: gF 105 100 (.fad 1 (.t 104)) :: gF 106 100 (.ld 1 false (.t 105)) :: gF 107 100 (.len (.t 106)) :: gF 108 100 (.mv (.t 12)) :: gF 109 100 (.len (.t 108)) :: gF 110 100 (.bin 0 .neq (.t 107) (.t 109)) :: fI 111 (.pick (.t 100) (.k (.c (.bool true))) (.t 110)) :: fI 112 (.mv (.t 111)) :: gF 113 112 (.ld 3 true (.t 7)) :: gF 114 112 (.fad 0 (.t 8)) :: gF 115 112 (.ld 1 false (.t 114)) :: gF 116 112 (.mv (.t 13)) :: gF 117 112 (.iad 2 (.t 115) (.t 116)) :: gF 118 112 (.fad 1 (.t 117)) :: gF 119 112 (.ld 1 false (.t 118)) :: .e (some 120) (some (112, false)) (.call fn_l7Regs [.t 113, .t 119]) :: s_l7Block_i21) [2, 7, 8, 12, 13, 135]) s_l7Block_22)) s_l7Block_23)
def s_l7Block_l25 : SC := (.seq (.seq (.reg ( fI 91 (.mv (.t 13)) :: fI 92 (.fad 0 (.t 8)) :: fI 93 (.ld 1 false (.t 92)) :: fI 94 (.len (.t 93)) :: fI 95 (.bin 0 .lss (.t 91) (.t 94)) :: []) [2, 7, 8, 12, 13, 95]) (.cond (.t 95) .skip (.exit 5))) s_l7Block_24)
def s_l7Block_26 : SC := (.seq (.reg ( fI 6 (.mv (.k (.c (.bool true)))) :: []) [6]) .ret)
def s_l7Block_27 : SC := (.seq (.seq (.reg ( fI 13 (.mv (kI 0)) :: []) [2, 7, 8, 12, 13]) (.block 5 (.loop s_l7Block_l25))) s_l7Block_26)
def s_l7Block_28 : SC := (.seq (.reg ( fI 88 (.ld 3 true (.t 7)) :: fI 89 (.mv (.t 2)) :: eI 90 (.call fn_l7Preds [.t 88, .t 89]) :: s_l7Block_i19) [2, 7, 8, 12]) s_l7Block_27)
def s_l7Block_29 : SC := (.seq (.seq (.reg ( fI 11 (.mv (kI 0)) :: []) [1, 2, 3, 7, 8, 11]) (.block 3 (.loop s_l7Block_l18))) s_l7Block_28)
def s_l7Block_30 : SC := (.seq (.seq (.reg ( fI 10 (.mv (kI 0)) :: []) [1, 2, 3, 7, 8, 10]) (.block 1 (.loop s_l7Block_l13))) s_l7Block_29)
def s_l7Block_31 : SC := (.seq (.seq (.reg ( fI 35 (.fad 4 (.t 8)) :: fI 36 (.ld 1 false (.t 35)) :: fI 37 (.len (.t 36)) :: fI 38 (.mv (.t 9)) :: fI 39 (.bin 0 .neq (.t 37) (.t 38)) :: fI 40 (.mv (.t 39)) :: gF 41 40 (.fad 2 (.t 8)) :: gF 42 40 (.ld 1 false (.t 41)) :: gF 43 40 (.bin 0 .neq (.t 42) (kI 1)) :: gF 44 40 (.mv (.t 43)) :: gT 45 44 (.fad 3 (.t 8)) :: gT 46 44 (.ld 1 false (.t 45)) :: gT 47 44 (.fad 1 (.t 7)) :: gT 48 44 (.ld 1 false (.t 47)) :: gT 49 44 (.bin 0 .sub (.t 48) (kI 1)) :: .e (some 50) (some (44, true)) (.call fn_l1In [.t 46, kI 0, .t 49]) :: s_l7Block_i7) [1, 2, 3, 7, 8, 53]) s_l7Block_8) s_l7Block_30)
def s_l7Block_32 : SC := (.seq (.seq (.reg ( fI 24 (.fad 2 (.t 8)) :: fI 25 (.ld 1 false (.t 24)) :: []) [1, 2, 3, 7, 8, 9, 25]) s_l7Block_6) s_l7Block_31)
def s_l7Block_33 : SC := (.seq (.reg ( fI 9 (.mv (kI 1)) :: []) [1, 2, 3, 7, 8, 9]) s_l7Block_32)
def s_l7Block_34 : SC := (.seq (.reg ( fI 19 (.fad 2 (.t 7)) :: fI 20 (.ld 1 false (.t 19)) :: fI 21 (.mv (.t 2)) :: fI 22 (.iad 5 (.t 20) (.t 21)) :: fI 23 (.ld 5 true (.t 22)) :: eI 8 (.alloc [.sl true 2 [], .sl true 4 [], .int .i64 0, .int .i64 0, .sl true 1 []]) :: s_l7Block_i1) [1, 2, 3, 7, 8]) s_l7Block_33)
def s_l7Block_35 : SC := (.seq (.reg ( fI 14 (.fad 0 (.t 3)) :: fI 15 (.ld 1 false (.t 14)) :: fI 16 (.mv (.t 1)) :: fI 17 (.iad 3 (.t 15) (.t 16)) :: fI 18 (.ld 3 true (.t 17)) :: eI 7 (.alloc [.int .i64 0, .int .i64 0, .sl true 5 []]) :: s_l7Block_i0) [1, 2, 3, 7]) s_l7Block_34)
def s_l7Block : SC := (.seq (.reg ( fI 3 (.box (.t 0)) :: fI 6 (.mv (.k (.c (.bool false)))) :: []) [1, 2, 3]) s_l7Block_35)
def r_l7Block : List RS := [.tmp 6]
theorem m_l7Block : mFn prog fn_l7Block 3 136 s_l7Block r_l7Block = true := by kernel_rfl
def s_l9Fn_i0 : List Item := .e none none (.sto 3 (.t 5) (.t 13)) :: []
def s_l9Fn_i1 : List Item := fI 6 (.mv (.t 19)) :: []
def s_l9Fn_i2 : List Item := .chk 29 none (.ld 1 false (.t 28)) :: .chk 30 none (.len (.t 29)) :: fI 34 (.bin 0 .add (.t 30) (.t 33)) :: fI 35 (.nck (.t 27)) :: fI 36 (.fad 1 (.t 35)) :: fI 37 (.fad 1 (.t 36)) :: .e none none (.sto 1 (.t 37) (.t 34)) :: []
def s_l9Fn_i3 : List Item := fI 59 (.nck (.t 45)) :: fI 60 (.fad 5 (.t 59)) :: .e none none (.sto 1 (.t 60) (.t 58)) :: []
def s_l9Fn_4 : SC := (.reg ( fI 43 (.mv (.t 7)) :: fI 44 (.bin 0 .add (.t 43) (kI 1)) :: fI 7 (.mv (.t 44)) :: []) [4, 5, 6, 7])
def s_l9Fn_5 : SC := (.seq (.block 1 (.dreg 17 [0, 1, 2, 3, 4, 5, 6, 7, 8, 9, 10, 11, 12, 13, 14, 15, 16] ( fI 45 (.mv (.t 6)) :: fI 46 (.mv (.t 6)) :: fI 47 (.nck (.t 46)) :: fI 48 (.fad 5 (.t 47)) :: fI 49 (.ld 1 false (.t 48)) :: fI 50 (.fad 1 (.t 5)) :: fI 51 (.ld 1 false (.t 50)) :: fI 52 (.mv (.t 7)) :: fI 53 (.iad 1 (.t 51) (.t 52)) :: fI 54 (.ld 1 false (.t 53)) :: fI 55 (.mv (.t 7)) :: fI 56 (.bld [.str [], .int .i64 0, .int .i64 0] [(0, 1, .t 54), (1, 1, .t 55), (2, 1, kI 0)]) :: fI 57 (.bsl 3 [.t 56]) :: eI 58 (.app 3 (.t 49) (.t 57)) :: s_l9Fn_i3) [4, 5, 6, 7])) s_l9Fn_4)
def s_l9Fn_l6 : SC := (.seq (.seq (.reg ( fI 38 (.mv (.t 7)) :: fI 39 (.fad 1 (.t 5)) :: fI 40 (.ld 1 false (.t 39)) :: fI 41 (.len (.t 40)) :: fI 42 (.bin 0 .lss (.t 38) (.t 41)) :: []) [4, 5, 6, 7, 42]) (.cond (.t 42) .skip (.exit 0))) s_l9Fn_5)
def s_l9Fn_i7 : List Item := fI 8 (.mv (.t 71)) :: []
def s_l9Fn_i8 : List Item := fI 70 (.bsl 1 []) :: eI 71 (.call fn_l9Low_put [.t 67, kI 1, .t 69, kI 0, .t 70]) :: s_l9Fn_i7
def s_l9Fn_9 : SC := (.seq (.reg ( fI 76 (.mv (.t 6)) :: fI 77 (.nck (.t 76)) :: fI 78 (.fad 1 (.t 77)) :: fI 79 (.ld 3 true (.t 78)) :: .e none none (.sto 3 (.t 4) (.t 79)) :: []) [4]) .ret)
def s_l9Fn_10 : SC := (.seq (.reg ( fI 72 (.mv (.t 6)) :: fI 73 (.mv (.t 8)) :: fI 74 (.bsl 1 []) :: eI 75 (.call fn_l9Low_jump [.t 72, kI 3, .t 73, .t 74, kI 0]) :: []) [4, 6]) s_l9Fn_9)
def s_l9Fn_11 : SC := (.seq (.reg ( fI 67 (.mv (.t 6)) :: fI 68 (.mv (.t 6)) :: eI 69 (.call fn_l9Low_fresh [.t 68]) :: s_l9Fn_i8) [4, 6, 8]) s_l9Fn_10)
def s_l9Fn_12 : SC := (.seq (.reg ( fI 63 (.mv (.t 6)) :: fI 64 (.fad 2 (.t 5)) :: fI 65 (.ld 1 false (.t 64)) :: eI 66 (.call fn_l9Low_stmts [.t 63, .t 65]) :: []) [4, 6]) s_l9Fn_11)
def s_l9Fn_13 : SC := (.seq (.reg ( fI 61 (.mv (.t 6)) :: eI 62 (.call fn_l9Low_block [.t 61]) :: []) [4, 5, 6]) s_l9Fn_12)
def s_l9Fn_14 : SC := (.seq (.seq (.reg ( fI 7 (.mv (kI 0)) :: []) [4, 5, 6, 7]) (.block 0 (.loop s_l9Fn_l6))) s_l9Fn_13)
def s_l9Fn_15 : SC := (.seq (.dreg 12 [0, 1, 2, 3, 4, 5, 6, 2, 3, 7, 8, 9, 10, 11] ( fI 27 (.mv (.t 6)) :: fI 28 (.fad 1 (.t 5)) :: fI 29 (.ld 1 false (.t 28)) :: fI 30 (.len (.t 29)) :: fI 31 (.fad 2 (.t 5)) :: fI 32 (.ld 1 false (.t 31)) :: eI 33 (.call fn_l9Lets [.t 32]) :: s_l9Fn_i2) [4, 5, 6]) s_l9Fn_14)
def s_l9Fn_16 : SC := (.seq (.reg ( fI 20 (.mv (.t 6)) :: fI 21 (.fad 1 (.t 5)) :: fI 22 (.ld 1 false (.t 21)) :: fI 23 (.len (.t 22)) :: fI 24 (.nck (.t 20)) :: fI 25 (.fad 1 (.t 24)) :: fI 26 (.fad 0 (.t 25)) :: .e none none (.sto 1 (.t 26) (.t 23)) :: []) [4, 5, 6]) s_l9Fn_15)
def s_l9Fn_17 : SC := (.seq (.reg ( fI 14 (.ld 1 true (.t 2)) :: fI 15 (.fad 1 (.t 5)) :: fI 16 (.ld 1 false (.t 15)) :: fI 17 (.len (.t 16)) :: fI 18 (.bld [.sl true 3 [], .int .i64 0, .int .i64 0, .sl true 5 [], .int .i64 0, .sl true 3 [], .int .i64 0, .sl true 1 []] [(0, 1, .t 14), (6, 1, .t 17)]) :: eI 19 (.boxm (.t 18)) :: s_l9Fn_i1) [4, 5, 6]) s_l9Fn_16)
def s_l9Fn_18 : SC := (.seq (.reg ( fI 9 (.fad 0 (.t 2)) :: fI 10 (.ld 1 false (.t 9)) :: fI 11 (.mv (.t 1)) :: fI 12 (.iad 3 (.t 10) (.t 11)) :: fI 13 (.ld 3 true (.t 12)) :: eI 5 (.alloc [.str [], .sl true 1 [], .sl true 5 []]) :: s_l9Fn_i0) [2, 4, 5]) s_l9Fn_17)
def s_l9Fn : SC := (.seq (.reg ( fI 2 (.box (.t 0)) :: eI 4 (.alloc [.int .i64 0, .int .i64 0, .sl true 5 []]) :: []) [1, 2, 4]) s_l9Fn_18)
def r_l9Fn : List RS := [.cell 4 3 true]
theorem m_l9Fn : mFn prog fn_l9Fn 2 80 s_l9Fn r_l9Fn = true := by kernel_rfl
def s_l3Gen_fn_i0 : List Item := .e none none (.sto 3 (.t 7) (.t 26)) :: []
def s_l3Gen_fn_i1 : List Item := fI 26 (.bld [.str [], .sl true 1 [], .sl true 5 []] [(0, 1, .t 19), (1, 1, .t 25)]) :: eI 7 (.alloc [.str [], .sl true 1 [], .sl true 5 []]) :: s_l3Gen_fn_i0
def s_l3Gen_fn_i2 : List Item := fI 29 (.fad 2 (.t 7)) :: .e none none (.sto 1 (.t 29) (.t 28)) :: []
def s_l3Gen_fn_i3 : List Item := gT 41 35 (.bin 0 .gtr (.t 40) (kI 0)) :: fI 42 (.pick (.t 35) (.t 41) (.k (.c (.bool false)))) :: []
def s_l3Gen_fn_i4 : List Item := fI 59 (.fad 2 (.t 7)) :: .e none none (.sto 1 (.t 59) (.t 58)) :: []
def s_l3Gen_fn_i5 : List Item := .chk 52 none (.ld 1 false (.t 51)) :: fI 55 (.bsl 4 [.t 54]) :: fI 56 (.bld [.int .i64 0, .str [], .sl true 4 [], .sl true 5 [], .sl true 5 []] [(0, 1, kI 7), (2, 1, .t 55)]) :: fI 57 (.bsl 5 [.t 56]) :: eI 58 (.app 5 (.t 52) (.t 57)) :: s_l3Gen_fn_i4
def s_l3Gen_fn_6 : SC := (.dreg 10 [0, 1, 2, 3, 1, 4, 5, 6, 7, 8, 9] ( fI 51 (.fad 2 (.t 7)) :: fI 52 (.ld 1 false (.t 51)) :: fI 53 (.mv (.t 0)) :: eI 54 (.call fn_l3Gen_expr [.t 53, kI 2]) :: s_l3Gen_fn_i5) [6, 7])
def s_l3Gen_fn_7 : SC := (.cond (.t 42) (.seq (.reg ( fI 43 (.mv (.t 0)) :: fI 44 (.mv (.t 0)) :: fI 45 (.nck (.t 44)) :: fI 46 (.fad 4 (.t 45)) :: fI 47 (.ld 1 false (.t 46)) :: fI 48 (.bin 0 .sub (.t 47) (kI 1)) :: fI 49 (.nck (.t 43)) :: fI 50 (.fad 4 (.t 49)) :: .e none none (.sto 1 (.t 50) (.t 48)) :: []) [0, 6, 7]) s_l3Gen_fn_6) .skip)
def s_l3Gen_fn_8 : SC := (.seq (.reg ( fI 60 (.ld 3 true (.t 7)) :: .e none none (.sto 3 (.t 6) (.t 60)) :: []) [6]) .ret)
def s_l3Gen_fn_9 : SC := (.seq (.seq (.reg ( fI 30 (.mv (.t 0)) :: fI 31 (.nck (.t 30)) :: fI 32 (.fad 4 (.t 31)) :: fI 33 (.ld 1 false (.t 32)) :: fI 34 (.bin 0 .gtr (.t 33) (kI 0)) :: fI 35 (.mv (.t 34)) :: gT 36 35 (.mv (.t 0)) :: gT 37 35 (.nck (.t 36)) :: gT 38 35 (.fad 0 (.t 37)) :: gT 39 35 (.ld 1 false (.t 38)) :: .e (some 40) (some (35, true)) (.call fn_l30Rd_pick [.t 39, kI 4]) :: s_l3Gen_fn_i3) [0, 6, 7, 42]) s_l3Gen_fn_7) s_l3Gen_fn_8)
def s_l3Gen_fn_10 : SC := (.seq (.reg ( fI 27 (.mv (.t 0)) :: eI 28 (.call fn_l3Gen_block [.t 27, kI 3]) :: s_l3Gen_fn_i2) [0, 6, 7]) s_l3Gen_fn_9)
def s_l3Gen_fn_11 : SC := (.seq (.reg ( fI 19 (.mv (.t 1)) :: fI 20 (.bsl 1 []) :: fI 21 (.mv (.t 0)) :: fI 22 (.nck (.t 21)) :: fI 23 (.fad 2 (.t 22)) :: fI 24 (.ld 1 false (.t 23)) :: eI 25 (.app 1 (.t 20) (.t 24)) :: s_l3Gen_fn_i1) [0, 6, 7]) s_l3Gen_fn_10)
def s_l3Gen_fn_12 : SC := (.seq (.reg ( fI 14 (.mv (.t 0)) :: fI 15 (.mv (.t 2)) :: fI 16 (.bin 0 .sub (.t 15) (kI 1)) :: fI 17 (.nck (.t 14)) :: fI 18 (.fad 3 (.t 17)) :: .e none none (.sto 1 (.t 18) (.t 16)) :: []) [0, 1, 6]) s_l3Gen_fn_11)
def s_l3Gen_fn_13 : SC := (.seq (.reg ( fI 8 (.mv (.t 0)) :: fI 9 (.bsl 1 [.k (.c (.str [97])), .k (.c (.str [98])), .k (.c (.str [99]))]) :: fI 10 (.mv (.t 2)) :: fI 11 (.sli 1 (.t 9) none (some (.t 10))) :: fI 12 (.nck (.t 8)) :: fI 13 (.fad 2 (.t 12)) :: .e none none (.sto 1 (.t 13) (.t 11)) :: []) [0, 1, 2, 6]) s_l3Gen_fn_12)
def s_l3Gen_fn : SC := (.seq (.reg ( eI 6 (.alloc [.str [], .sl true 1 [], .sl true 5 []]) :: []) [0, 1, 2, 6]) s_l3Gen_fn_13)
def r_l3Gen_fn : List RS := [.cell 6 3 true]
theorem m_l3Gen_fn : mFn prog fn_l3Gen_fn 3 61 s_l3Gen_fn r_l3Gen_fn = true := by kernel_rfl
def s_sp_ProgramValid_i0 : List Item := fI 8 (.not (.t 7)) :: []
def s_sp_ProgramValid_1 : SC := (.cond (.t 8) (.seq (.reg ( fI 2 (.mv (.k (.c (.bool false)))) :: []) [2]) .ret) .skip)
def s_sp_ProgramValid_i2 : List Item := fI 22 (.not (.t 21)) :: []
def s_sp_ProgramValid_3 : SC := (.cond (.t 22) (.seq (.reg ( fI 2 (.mv (.k (.c (.bool false)))) :: []) [2]) .ret) .skip)
def s_sp_ProgramValid_4 : SC := (.reg ( fI 14 (.mv (.t 3)) :: fI 15 (.bin 0 .add (.t 14) (kI 1)) :: fI 3 (.mv (.t 15)) :: []) [1, 3])
def s_sp_ProgramValid_5 : SC := (.seq (.block 1 (.seq (.reg ( fI 16 (.fad 0 (.t 1)) :: fI 17 (.ld 1 false (.t 16)) :: fI 18 (.mv (.t 3)) :: fI 19 (.iad 3 (.t 17) (.t 18)) :: fI 20 (.ld 3 true (.t 19)) :: eI 21 (.call fn_l3Fn [.t 20]) :: s_sp_ProgramValid_i2) [1, 3, 22]) s_sp_ProgramValid_3)) s_sp_ProgramValid_4)
def s_sp_ProgramValid_l6 : SC := (.seq (.seq (.reg ( fI 9 (.mv (.t 3)) :: fI 10 (.fad 0 (.t 1)) :: fI 11 (.ld 1 false (.t 10)) :: fI 12 (.len (.t 11)) :: fI 13 (.bin 0 .lss (.t 9) (.t 12)) :: []) [1, 3, 13]) (.cond (.t 13) .skip (.exit 0))) s_sp_ProgramValid_5)
def s_sp_ProgramValid_i7 : List Item := fI 25 (.bin 0 .leq (.t 24) (kI 40)) :: fI 2 (.mv (.t 25)) :: []
def s_sp_ProgramValid_8 : SC := (.seq (.reg ( fI 23 (.ld 1 true (.t 1)) :: eI 24 (.call fn_l3All [.t 23]) :: s_sp_ProgramValid_i7) [2]) .ret)
def s_sp_ProgramValid_9 : SC := (.seq (.seq (.reg ( fI 3 (.mv (kI 0)) :: []) [1, 3]) (.block 0 (.loop s_sp_ProgramValid_l6))) s_sp_ProgramValid_8)
def s_sp_ProgramValid_10 : SC := (.seq (.seq (.reg ( fI 4 (.fad 0 (.t 1)) :: fI 5 (.ld 1 false (.t 4)) :: fI 6 (.len (.t 5)) :: eI 7 (.call fn_l1In [.t 6, kI 1, kI 4]) :: s_sp_ProgramValid_i0) [1, 8]) s_sp_ProgramValid_1) s_sp_ProgramValid_9)
def s_sp_ProgramValid : SC := (.seq (.reg ( fI 1 (.box (.t 0)) :: fI 2 (.mv (.k (.c (.bool false)))) :: []) [1]) s_sp_ProgramValid_10)
def r_sp_ProgramValid : List RS := [.tmp 2]
theorem m_sp_ProgramValid : mFn prog fn_sp_ProgramValid 1 26 s_sp_ProgramValid r_sp_ProgramValid = true := by kernel_rfl
def s_l7CopyBlock_i0 : List Item := .chk 10 none (.ld 1 false (.t 9)) :: .chk 12 none (.ld 1 false (.t 11)) :: .chk 15 none (.ld 1 false (.t 14)) :: .e none none (.sto 5 (.t 3) (.t 17)) :: []
def s_l7CopyBlock_i1 : List Item := .chk 10 none (.ld 1 false (.t 9)) :: .chk 12 none (.ld 1 false (.t 11)) :: fI 17 (.bld [.sl true 2 [], .sl true 4 [], .int .i64 0, .int .i64 0, .sl true 1 []] [(0, 1, .t 7), (1, 1, .t 8), (2, 1, .t 10), (3, 1, .t 12), (4, 1, .t 16)]) :: eI 3 (.alloc [.sl true 2 [], .sl true 4 [], .int .i64 0, .int .i64 0, .sl true 1 []]) :: s_l7CopyBlock_i0
def s_l7CopyBlock_i2 : List Item := fI 44 (.fad 0 (.t 3)) :: .e none none (.sto 1 (.t 44) (.t 43)) :: []
def s_l7CopyBlock_i3 : List Item := .chk 26 none (.ld 1 false (.t 25)) :: .chk 28 none (.ld 1 false (.t 27)) :: .chk 30 none (.iad 2 (.t 28) (.t 29)) :: .chk 32 none (.ld 1 false (.t 31)) :: fI 41 (.bld [.int .i64 0, .sl true 1 []] [(0, 1, .t 32), (1, 1, .t 40)]) :: fI 42 (.bsl 2 [.t 41]) :: eI 43 (.app 2 (.t 26) (.t 42)) :: s_l7CopyBlock_i2
def s_l7CopyBlock_4 : SC := (.reg ( fI 23 (.mv (.t 4)) :: fI 24 (.bin 0 .add (.t 23) (kI 1)) :: fI 4 (.mv (.t 24)) :: []) [1, 2, 3, 4])
def s_l7CopyBlock_5 : SC := (.seq (.block 1 (.dreg 21 [0, 1, 2, 3, 4, 5, 6, 7, 8, 9, 10, 11, 12, 13, 14, 15, 1, 3, 5, 7, 16, 17, 18, 19, 20] ( fI 25 (.fad 0 (.t 3)) :: fI 26 (.ld 1 false (.t 25)) :: fI 27 (.fad 0 (.t 1)) :: fI 28 (.ld 1 false (.t 27)) :: fI 29 (.mv (.t 4)) :: fI 30 (.iad 2 (.t 28) (.t 29)) :: fI 31 (.fad 0 (.t 30)) :: fI 32 (.ld 1 false (.t 31)) :: fI 33 (.bsl 1 []) :: fI 34 (.fad 0 (.t 1)) :: fI 35 (.ld 1 false (.t 34)) :: fI 36 (.mv (.t 4)) :: fI 37 (.iad 2 (.t 35) (.t 36)) :: fI 38 (.fad 1 (.t 37)) :: fI 39 (.ld 1 false (.t 38)) :: eI 40 (.app 1 (.t 33) (.t 39)) :: s_l7CopyBlock_i3) [1, 2, 3, 4])) s_l7CopyBlock_4)
def s_l7CopyBlock_l6 : SC := (.seq (.seq (.reg ( fI 18 (.mv (.t 4)) :: fI 19 (.fad 0 (.t 1)) :: fI 20 (.ld 1 false (.t 19)) :: fI 21 (.len (.t 20)) :: fI 22 (.bin 0 .lss (.t 18) (.t 21)) :: []) [1, 2, 3, 4, 22]) (.cond (.t 22) .skip (.exit 0))) s_l7CopyBlock_5)
def s_l7CopyBlock_i7 : List Item := .e none none (.sto 4 (.t 6) (.t 56)) :: []
def s_l7CopyBlock_i8 : List Item := fI 72 (.fad 1 (.t 3)) :: .e none none (.sto 1 (.t 72) (.t 71)) :: []
def s_l7CopyBlock_i9 : List Item := .chk 58 none (.ld 1 false (.t 57)) :: .chk 60 none (.ld 1 false (.t 59)) :: .chk 62 none (.ld 1 false (.t 61)) :: .chk 68 none (.ld 1 false (.t 67)) :: fI 69 (.bld [.int .i64 0, .int .i64 0, .sl true 1 [], .int .i64 0] [(0, 1, .t 60), (1, 1, .t 62), (2, 1, .t 66), (3, 1, .t 68)]) :: fI 70 (.bsl 4 [.t 69]) :: eI 71 (.app 4 (.t 58) (.t 70)) :: s_l7CopyBlock_i8
def s_l7CopyBlock_10 : SC := (.dreg 17 [0, 1, 2, 3, 4, 5, 6, 7, 8, 10, 11, 9, 1, 3, 5, 11, 12, 13, 14, 15, 16] ( fI 57 (.fad 1 (.t 3)) :: fI 58 (.ld 1 false (.t 57)) :: fI 59 (.fad 0 (.t 6)) :: fI 60 (.ld 1 false (.t 59)) :: fI 61 (.fad 1 (.t 6)) :: fI 62 (.ld 1 false (.t 61)) :: fI 63 (.bsl 1 []) :: fI 64 (.fad 2 (.t 6)) :: fI 65 (.ld 1 false (.t 64)) :: fI 67 (.fad 3 (.t 6)) :: fI 68 (.ld 1 false (.t 67)) :: eI 66 (.app 1 (.t 63) (.t 65)) :: s_l7CopyBlock_i9) [1, 2, 3, 5])
def s_l7CopyBlock_11 : SC := (.reg ( fI 50 (.mv (.t 5)) :: fI 51 (.bin 0 .add (.t 50) (kI 1)) :: fI 5 (.mv (.t 51)) :: []) [1, 2, 3, 5])
def s_l7CopyBlock_12 : SC := (.seq (.block 3 (.seq (.reg ( fI 52 (.fad 1 (.t 1)) :: fI 53 (.ld 1 false (.t 52)) :: fI 54 (.mv (.t 5)) :: fI 55 (.iad 4 (.t 53) (.t 54)) :: fI 56 (.ld 4 true (.t 55)) :: eI 6 (.alloc [.int .i64 0, .int .i64 0, .sl true 1 [], .int .i64 0]) :: s_l7CopyBlock_i7) [1, 2, 3, 5, 6]) s_l7CopyBlock_10)) s_l7CopyBlock_11)
def s_l7CopyBlock_l13 : SC := (.seq (.seq (.reg ( fI 45 (.mv (.t 5)) :: fI 46 (.fad 1 (.t 1)) :: fI 47 (.ld 1 false (.t 46)) :: fI 48 (.len (.t 47)) :: fI 49 (.bin 0 .lss (.t 45) (.t 48)) :: []) [1, 2, 3, 5, 49]) (.cond (.t 49) .skip (.exit 2))) s_l7CopyBlock_12)
def s_l7CopyBlock_14 : SC := (.seq (.reg ( fI 73 (.ld 5 true (.t 3)) :: .e none none (.sto 5 (.t 2) (.t 73)) :: []) [2]) .ret)
def s_l7CopyBlock_15 : SC := (.seq (.seq (.reg ( fI 5 (.mv (kI 0)) :: []) [1, 2, 3, 5]) (.block 2 (.loop s_l7CopyBlock_l13))) s_l7CopyBlock_14)
def s_l7CopyBlock_16 : SC := (.seq (.seq (.reg ( fI 4 (.mv (kI 0)) :: []) [1, 2, 3, 4]) (.block 0 (.loop s_l7CopyBlock_l6))) s_l7CopyBlock_15)
def s_l7CopyBlock_17 : SC := (.seq (.dreg 11 [0, 1, 2, 3, 4, 5, 6, 7, 8, 9, 3, 5, 10, 11, 3, 5, 8, 12] ( fI 7 (.bsl 2 []) :: fI 8 (.bsl 4 []) :: fI 9 (.fad 2 (.t 1)) :: fI 10 (.ld 1 false (.t 9)) :: fI 11 (.fad 3 (.t 1)) :: fI 12 (.ld 1 false (.t 11)) :: fI 13 (.bsl 1 []) :: fI 14 (.fad 4 (.t 1)) :: fI 15 (.ld 1 false (.t 14)) :: eI 16 (.app 1 (.t 13) (.t 15)) :: s_l7CopyBlock_i1) [1, 2, 3]) s_l7CopyBlock_16)
def s_l7CopyBlock : SC := (.seq (.reg ( fI 1 (.box (.t 0)) :: eI 2 (.alloc [.sl true 2 [], .sl true 4 [], .int .i64 0, .int .i64 0, .sl true 1 []]) :: []) [1, 2]) s_l7CopyBlock_17)
def r_l7CopyBlock : List RS := [.cell 2 5 true]
theorem m_l7CopyBlock : mFn prog fn_l7CopyBlock 1 74 s_l7CopyBlock r_l7CopyBlock = true := by kernel_rfl
def s_l7Some_i0 : List Item := fI 7 (.mv (.t 13)) :: []
def s_l7Some_i1 : List Item := .e none none (.sto 4 (.t 8) (.t 18)) :: []
def s_l7Some_i2 : List Item := fI 18 (.bld [.int .i64 0, .int .i64 0, .sl true 1 [], .int .i64 0] [(0, 1, .t 14), (1, 1, .t 17)]) :: eI 8 (.alloc [.int .i64 0, .int .i64 0, .sl true 1 [], .int .i64 0]) :: s_l7Some_i1
def s_l7Some_i3 : List Item := fI 9 (.mv (.t 20)) :: []
def s_l7Some_i4 : List Item := fI 30 (.bsl 1 [.t 29]) :: fI 31 (.bld [.int .i64 0, .int .i64 0, .sl true 1 [], .int .i64 0] [(0, 1, kI 13), (1, 1, kI (-1)), (2, 1, .t 30)]) :: .e none none (.sto 4 (.t 6) (.t 31)) :: []
def s_l7Some_5 : SC := (.cond (.t 26) (.seq (.reg ( fI 27 (.mv (.t 0)) :: fI 28 (.mv (.t 2)) :: eI 29 (.call fn_l30Rd_pick [.t 27, .t 28]) :: s_l7Some_i4) [6]) .ret) .skip)
def s_l7Some_i6 : List Item := fI 37 (.fad 3 (.t 8)) :: .e none none (.sto 1 (.t 37) (.t 36)) :: []
def s_l7Some_7 : SC := (.reg ( fI 38 (.fad 0 (.t 4)) :: fI 39 (.ld 1 false (.t 38)) :: fI 40 (.fad 3 (.t 8)) :: fI 41 (.ld 1 false (.t 40)) :: fI 42 (.iad 3 (.t 39) (.t 41)) :: fI 43 (.fad 0 (.t 42)) :: fI 44 (.ld 1 false (.t 43)) :: fI 9 (.mv (.t 44)) :: []) [0, 2, 6, 7, 8, 9])
def s_l7Some_8 : SC := (.seq (.reg ( fI 32 (.mv (.t 0)) :: fI 33 (.fad 0 (.t 4)) :: fI 34 (.ld 1 false (.t 33)) :: fI 35 (.len (.t 34)) :: eI 36 (.call fn_l30Rd_pick [.t 32, .t 35]) :: s_l7Some_i6) [0, 2, 4, 6, 7, 8]) s_l7Some_7)
def s_l7Some_9 : SC := (.cond (.t 22) (.seq (.seq (.reg ( fI 23 (.fad 0 (.t 4)) :: fI 24 (.ld 1 false (.t 23)) :: fI 25 (.len (.t 24)) :: fI 26 (.bin 0 .eql (.t 25) (kI 0)) :: []) [0, 2, 4, 6, 7, 8, 26]) s_l7Some_5) s_l7Some_8) .skip)
def s_l7Some_i10 : List Item := fI 50 (.fad 3 (.t 8)) :: .e none none (.sto 1 (.t 50) (.t 49)) :: []
def s_l7Some_11 : SC := (.cond (.t 46) (.reg ( fI 47 (.mv (.t 0)) :: fI 48 (.bsl 1 [kI 0, kI 1, kI 2, kI 3, kI 15, kI 16, kI 255]) :: eI 49 (.call fn_l30Rd_num [.t 47, .t 48]) :: s_l7Some_i10) [0, 2, 6, 7, 8, 9]) .skip)
def s_l7Some_i12 : List Item := fI 53 (.not (.t 52)) :: []
def s_l7Some_13 : SC := (.cond (.t 53) (.reg ( fI 54 (.fad 1 (.t 8)) :: .e none none (.sto 1 (.t 54) (kI (-1))) :: []) [0, 2, 6, 8, 9]) .skip)
def s_l7Some_i14 : List Item := fI 67 (.fad 2 (.t 8)) :: .e none none (.sto 1 (.t 67) (.t 66)) :: []
def s_l7Some_i15 : List Item := .chk 61 none (.ld 1 false (.t 60)) :: fI 65 (.bsl 1 [.t 64]) :: eI 66 (.app 1 (.t 61) (.t 65)) :: s_l7Some_i14
def s_l7Some_16 : SC := (.reg ( fI 58 (.mv (.t 10)) :: fI 59 (.bin 0 .add (.t 58) (kI 1)) :: fI 10 (.mv (.t 59)) :: []) [0, 2, 6, 8, 9, 10])
def s_l7Some_17 : SC := (.seq (.block 1 (.dreg 9 [0, 1, 2, 3, 4, 1, 5, 6, 7, 8] ( fI 60 (.fad 2 (.t 8)) :: fI 61 (.ld 1 false (.t 60)) :: fI 62 (.mv (.t 0)) :: fI 63 (.mv (.t 2)) :: eI 64 (.call fn_l30Rd_pick [.t 62, .t 63]) :: s_l7Some_i15) [0, 2, 6, 8, 9, 10])) s_l7Some_16)
def s_l7Some_l18 : SC := (.seq (.seq (.reg ( fI 55 (.mv (.t 10)) :: fI 56 (.mv (.t 9)) :: fI 57 (.bin 0 .lss (.t 55) (.t 56)) :: []) [0, 2, 6, 8, 9, 10, 57]) (.cond (.t 57) .skip (.exit 0))) s_l7Some_17)
def s_l7Some_19 : SC := (.seq (.reg ( fI 68 (.ld 4 true (.t 8)) :: .e none none (.sto 4 (.t 6) (.t 68)) :: []) [6]) .ret)
def s_l7Some_20 : SC := (.seq (.seq (.reg ( fI 10 (.mv (kI 0)) :: []) [0, 2, 6, 8, 9, 10]) (.block 0 (.loop s_l7Some_l18))) s_l7Some_19)
def s_l7Some_21 : SC := (.seq (.seq (.reg ( fI 51 (.mv (.t 7)) :: eI 52 (.call fn_l7Makes [.t 51]) :: s_l7Some_i12) [0, 2, 6, 8, 9, 53]) s_l7Some_13) s_l7Some_20)
def s_l7Some_22 : SC := (.seq (.seq (.reg ( fI 45 (.mv (.t 7)) :: fI 46 (.bin 0 .eql (.t 45) (kI 1)) :: []) [0, 2, 6, 7, 8, 9, 46]) s_l7Some_11) s_l7Some_21)
def s_l7Some_23 : SC := (.seq (.seq (.reg ( fI 21 (.mv (.t 7)) :: fI 22 (.bin 0 .eql (.t 21) (kI 14)) :: []) [0, 2, 4, 6, 7, 8, 9, 22]) s_l7Some_9) s_l7Some_22)
def s_l7Some_24 : SC := (.seq (.reg ( fI 19 (.mv (.t 7)) :: eI 20 (.call fn_l7Args [.t 19]) :: s_l7Some_i3) [0, 2, 4, 6, 7, 8, 9]) s_l7Some_23)
def s_l7Some_25 : SC := (.seq (.reg ( fI 14 (.mv (.t 7)) :: fI 15 (.mv (.t 0)) :: fI 16 (.mv (.t 2)) :: eI 17 (.call fn_l30Rd_pick [.t 15, .t 16]) :: s_l7Some_i2) [0, 2, 4, 6, 7, 8]) s_l7Some_24)
def s_l7Some_26 : SC := (.seq (.reg ( fI 11 (.mv (.t 0)) :: fI 12 (.bsl 1 [kI 1, kI 1, kI 2, kI 3, kI 4, kI 5, kI 8, kI 9, kI 10, kI 13, kI 3, kI 6, kI 7, kI 11, kI 12, kI 14]) :: eI 13 (.call fn_l30Rd_num [.t 11, .t 12]) :: s_l7Some_i0) [0, 2, 4, 6, 7]) s_l7Some_25)
def s_l7Some : SC := (.seq (.reg ( fI 4 (.box (.t 1)) :: eI 6 (.alloc [.int .i64 0, .int .i64 0, .sl true 1 [], .int .i64 0]) :: []) [0, 2, 4, 6]) s_l7Some_26)
def r_l7Some : List RS := [.cell 6 4 true]
theorem m_l7Some : mFn prog fn_l7Some 3 69 s_l7Some r_l7Some = true := by kernel_rfl
def s_l7To_i0 : List Item := gT 14 11 (.bin 0 .gtr (.t 13) (kI 0)) :: fI 15 (.pick (.t 11) (.t 14) (.k (.c (.bool false)))) :: []
def s_l7To_i1 : List Item := fI 24 (.bin 0 .add (.t 17) (.t 23)) :: fI 6 (.mv (.t 24)) :: []
def s_l7To_2 : SC := (.cond (.t 15) (.seq (.reg ( fI 16 (.mv (.t 1)) :: fI 17 (.bin 0 .add (.t 16) (kI 1)) :: fI 18 (.mv (.t 0)) :: fI 19 (.mv (.t 2)) :: fI 20 (.bin 0 .sub (.t 19) (kI 1)) :: fI 21 (.mv (.t 1)) :: fI 22 (.bin 0 .sub (.t 20) (.t 21)) :: eI 23 (.call fn_l30Rd_pick [.t 18, .t 22]) :: s_l7To_i1) [6]) .ret) .skip)
def s_l7To_i3 : List Item := fI 29 (.bin 0 .add (kI 1) (.t 28)) :: fI 6 (.mv (.t 29)) :: []
def s_l7To_4 : SC := (.seq (.reg ( fI 25 (.mv (.t 0)) :: fI 26 (.mv (.t 2)) :: fI 27 (.bin 0 .sub (.t 26) (kI 1)) :: eI 28 (.call fn_l30Rd_pick [.t 25, .t 27]) :: s_l7To_i3) [6]) .ret)
def s_l7To_5 : SC := (.seq (.seq (.reg ( fI 7 (.mv (.t 1)) :: fI 8 (.mv (.t 2)) :: fI 9 (.bin 0 .sub (.t 8) (kI 1)) :: fI 10 (.bin 0 .lss (.t 7) (.t 9)) :: fI 11 (.mv (.t 10)) :: gT 12 11 (.mv (.t 0)) :: .e (some 13) (some (11, true)) (.call fn_l30Rd_pick [.t 12, kI 4]) :: s_l7To_i0) [0, 1, 2, 15]) s_l7To_2) s_l7To_4)
def s_l7To : SC := (.seq (.reg ( fI 6 (.mv (kI 0)) :: []) [0, 1, 2]) s_l7To_5)
def r_l7To : List RS := [.tmp 6]
theorem m_l7To : mFn prog fn_l7To 3 30 s_l7To r_l7To = true := by kernel_rfl
def s_l7Ins_i0 : List Item := .e none none (.sto 3 (.t 7) (.t 12)) :: []
def s_l7Ins_i1 : List Item := gF 22 17 (.not (.t 21)) :: fI 23 (.pick (.t 17) (.k (.c (.bool true))) (.t 22)) :: []
def s_l7Ins_i2 : List Item := fI 16 (.not (.t 15)) :: fI 17 (.mv (.t 16)) :: gF 18 17 (.ld 3 true (.t 7)) :: gF 19 17 (.fad 2 (.t 5)) :: gF 20 17 (.ld 1 false (.t 19)) :: .e (some 21) (some (17, false)) (.call fn_l7Regs [.t 18, .t 20]) :: s_l7Ins_i1
def s_l7Ins_3 : SC := (.cond (.t 23) (.seq (.reg ( fI 6 (.mv (.k (.c (.bool false)))) :: []) [6]) .ret) .skip)
def s_l7Ins_i4 : List Item := gF 38 34 (.not (.t 37)) :: gF 39 34 (.mv (.t 38)) :: gT 40 39 (.fad 1 (.t 5)) :: gT 41 39 (.ld 1 false (.t 40)) :: gT 42 39 (.bin 0 .neq (.t 41) (kI (-1))) :: gF 43 34 (.pick (.t 39) (.t 42) (.k (.c (.bool false)))) :: fI 44 (.pick (.t 34) (.k (.c (.bool true))) (.t 43)) :: []
def s_l7Ins_i5 : List Item := fI 33 (.bin 1 .neq (.t 26) (.t 32)) :: fI 34 (.mv (.t 33)) :: gF 35 34 (.fad 0 (.t 5)) :: gF 36 34 (.ld 1 false (.t 35)) :: .e (some 37) (some (34, false)) (.call fn_l7Makes [.t 36]) :: s_l7Ins_i4
def s_l7Ins_i6 : List Item := .chk 28 none (.ld 1 false (.t 27)) :: .chk 30 none (.ld 1 false (.t 29)) :: eI 32 (.call fn_l1In [.t 28, kI 0, .t 31]) :: s_l7Ins_i5
def s_l7Ins_7 : SC := (.cond (.t 44) (.seq (.reg ( fI 6 (.mv (.k (.c (.bool false)))) :: []) [6]) .ret) .skip)
def s_l7Ins_i8 : List Item := fI 53 (.mv (.t 52)) :: gT 54 53 (.fad 2 (.t 5)) :: gT 55 53 (.ld 1 false (.t 54)) :: gT 56 53 (.len (.t 55)) :: gT 57 53 (.fad 0 (.t 3)) :: gT 58 53 (.ld 1 false (.t 57)) :: gT 59 53 (.fad 3 (.t 5)) :: gT 60 53 (.ld 1 false (.t 59)) :: gT 61 53 (.iad 3 (.t 58) (.t 60)) :: gT 62 53 (.fad 0 (.t 61)) :: gT 63 53 (.ld 1 false (.t 62)) :: gT 64 53 (.bin 0 .eql (.t 56) (.t 63)) :: fI 65 (.pick (.t 53) (.t 64) (.k (.c (.bool false)))) :: fI 6 (.mv (.t 65)) :: []
def s_l7Ins_9 : SC := (.cond (.t 47) (.seq (.dreg 19 [0, 1, 2, 3, 4, 5, 6, 7, 8, 9, 10, 11, 12, 13, 14, 15, 16, 17, 18] ( fI 48 (.fad 3 (.t 5)) :: fI 49 (.ld 1 false (.t 48)) :: fI 50 (.mv (.t 1)) :: fI 51 (.bin 0 .sub (.t 50) (kI 1)) :: eI 52 (.call fn_l1In [.t 49, kI 0, .t 51]) :: s_l7Ins_i8) [6]) .ret) .skip)
def s_l7Ins_i10 : List Item := fI 77 (.pick (.t 73) (.t 76) (.k (.c (.bool false)))) :: fI 78 (.mv (.t 77)) :: gT 79 78 (.fad 3 (.t 5)) :: gT 80 78 (.ld 1 false (.t 79)) :: gT 81 78 (.bin 0 .eql (.t 80) (kI 0)) :: gT 82 78 (.mv (.t 81)) :: gF 83 82 (.fad 0 (.t 5)) :: gF 84 82 (.ld 1 false (.t 83)) :: gF 85 82 (.bin 0 .eql (.t 84) (kI 1)) :: gT 86 78 (.pick (.t 82) (.k (.c (.bool true))) (.t 85)) :: fI 87 (.pick (.t 78) (.t 86) (.k (.c (.bool false)))) :: fI 6 (.mv (.t 87)) :: []
def s_l7Ins_i11 : List Item := .chk 67 none (.ld 1 false (.t 66)) :: .chk 68 none (.len (.t 67)) :: fI 72 (.bin 0 .eql (.t 68) (.t 71)) :: fI 73 (.mv (.t 72)) :: gT 74 73 (.fad 3 (.t 5)) :: gT 75 73 (.ld 1 false (.t 74)) :: .e (some 76) (some (73, true)) (.call fn_l1In [.t 75, kI 0, kI 255]) :: s_l7Ins_i10
def s_l7Ins_12 : SC := (.seq (.dreg 23 [0, 1, 2, 3, 4, 5, 1, 2, 6, 7, 8, 9, 10, 11, 12, 13, 14, 15, 16, 17, 18, 19, 20, 21, 22] ( fI 66 (.fad 2 (.t 5)) :: fI 67 (.ld 1 false (.t 66)) :: fI 68 (.len (.t 67)) :: fI 69 (.fad 0 (.t 5)) :: fI 70 (.ld 1 false (.t 69)) :: eI 71 (.call fn_l7Args [.t 70]) :: s_l7Ins_i11) [6]) .ret)
def s_l7Ins_13 : SC := (.seq (.seq (.reg ( fI 45 (.fad 0 (.t 5)) :: fI 46 (.ld 1 false (.t 45)) :: fI 47 (.bin 0 .eql (.t 46) (kI 14)) :: []) [1, 3, 5, 47]) s_l7Ins_9) s_l7Ins_12)
def s_l7Ins_14 : SC := (.seq (.seq (.dreg 21 [0, 1, 3, 4, 5, 6, 7, 2, 4, 6, 8, 9, 10, 11, 12, 13, 14, 15, 16, 17, 18, 19, 20] ( fI 24 (.fad 0 (.t 5)) :: fI 25 (.ld 1 false (.t 24)) :: fI 27 (.fad 1 (.t 5)) :: fI 28 (.ld 1 false (.t 27)) :: fI 29 (.fad 1 (.t 7)) :: fI 30 (.ld 1 false (.t 29)) :: fI 31 (.bin 0 .sub (.t 30) (kI 1)) :: eI 26 (.call fn_l7Makes [.t 25]) :: s_l7Ins_i6) [1, 3, 5, 44]) s_l7Ins_7) s_l7Ins_13)
def s_l7Ins_15 : SC := (.seq (.seq (.reg ( fI 13 (.fad 0 (.t 5)) :: fI 14 (.ld 1 false (.t 13)) :: eI 15 (.call fn_l1In [.t 14, kI 1, kI 14]) :: s_l7Ins_i2) [1, 3, 5, 7, 23]) s_l7Ins_3) s_l7Ins_14)
def s_l7Ins_16 : SC := (.seq (.reg ( fI 8 (.fad 0 (.t 3)) :: fI 9 (.ld 1 false (.t 8)) :: fI 10 (.mv (.t 1)) :: fI 11 (.iad 3 (.t 9) (.t 10)) :: fI 12 (.ld 3 true (.t 11)) :: eI 7 (.alloc [.int .i64 0, .int .i64 0, .sl true 5 []]) :: s_l7Ins_i0) [1, 3, 5, 7]) s_l7Ins_15)
def s_l7Ins : SC := (.seq (.reg ( fI 3 (.box (.t 0)) :: fI 5 (.box (.t 2)) :: fI 6 (.mv (.k (.c (.bool false)))) :: []) [1, 3, 5]) s_l7Ins_16)
def r_l7Ins : List RS := [.tmp 6]
theorem m_l7Ins : mFn prog fn_l7Ins 3 88 s_l7Ins r_l7Ins = true := by kernel_rfl
def s_l7Regs_i0 : List Item := fI 20 (.not (.t 19)) :: []
def s_l7Regs_1 : SC := (.cond (.t 20) (.seq (.reg ( fI 4 (.mv (.k (.c (.bool false)))) :: []) [4]) .ret) .skip)
def s_l7Regs_2 : SC := (.reg ( fI 10 (.mv (.t 5)) :: fI 11 (.bin 0 .add (.t 10) (kI 1)) :: fI 5 (.mv (.t 11)) :: []) [1, 2, 5])
def s_l7Regs_3 : SC := (.seq (.block 1 (.seq (.dreg 9 [0, 1, 2, 3, 4, 5, 6, 7, 8] ( fI 12 (.mv (.t 1)) :: fI 13 (.mv (.t 5)) :: fI 14 (.iad 1 (.t 12) (.t 13)) :: fI 15 (.ld 1 false (.t 14)) :: fI 16 (.fad 1 (.t 2)) :: fI 17 (.ld 1 false (.t 16)) :: fI 18 (.bin 0 .sub (.t 17) (kI 1)) :: eI 19 (.call fn_l1In [.t 15, kI 0, .t 18]) :: s_l7Regs_i0) [1, 2, 5, 20]) s_l7Regs_1)) s_l7Regs_2)
def s_l7Regs_l4 : SC := (.seq (.seq (.reg ( fI 6 (.mv (.t 5)) :: fI 7 (.mv (.t 1)) :: fI 8 (.len (.t 7)) :: fI 9 (.bin 0 .lss (.t 6) (.t 8)) :: []) [1, 2, 5, 9]) (.cond (.t 9) .skip (.exit 0))) s_l7Regs_3)
def s_l7Regs_5 : SC := (.seq (.reg ( fI 4 (.mv (.k (.c (.bool true)))) :: []) [4]) .ret)
def s_l7Regs_6 : SC := (.seq (.seq (.reg ( fI 5 (.mv (kI 0)) :: []) [1, 2, 5]) (.block 0 (.loop s_l7Regs_l4))) s_l7Regs_5)
def s_l7Regs : SC := (.seq (.reg ( fI 2 (.box (.t 0)) :: fI 4 (.mv (.k (.c (.bool false)))) :: []) [1, 2]) s_l7Regs_6)
def r_l7Regs : List RS := [.tmp 4]
theorem m_l7Regs : mFn prog fn_l7Regs 2 21 s_l7Regs r_l7Regs = true := by kernel_rfl
def s_l9Lets_i0 : List Item := fI 33 (.bin 0 .add (.t 26) (.t 32)) :: fI 3 (.mv (.t 33)) :: []
def s_l9Lets_i1 : List Item := .chk 29 none (.iad 5 (.t 27) (.t 28)) :: .chk 31 none (.ld 1 false (.t 30)) :: fI 26 (.bin 0 .add (.t 19) (.t 25)) :: eI 32 (.call fn_l9Lets [.t 31]) :: s_l9Lets_i0
def s_l9Lets_i2 : List Item := .chk 22 none (.iad 5 (.t 20) (.t 21)) :: .chk 24 none (.ld 1 false (.t 23)) :: .chk 29 none (.iad 5 (.t 27) (.t 28)) :: .chk 31 none (.ld 1 false (.t 30)) :: fI 19 (.bin 0 .add (.t 11) (.t 18)) :: eI 25 (.call fn_l9Lets [.t 24]) :: s_l9Lets_i1
def s_l9Lets_3 : SC := (.reg ( fI 9 (.mv (.t 4)) :: fI 10 (.bin 0 .add (.t 9) (kI 1)) :: fI 4 (.mv (.t 10)) :: []) [0, 3, 4])
def s_l9Lets_4 : SC := (.seq (.block 1 (.dreg 24 [0, 1, 2, 3, 4, 5, 6, 9, 10, 11, 12, 13, 16, 17, 18, 19, 20, 7, 11, 13, 18, 20, 8, 14, 18, 20, 15, 21, 22, 23] ( fI 11 (.mv (.t 3)) :: fI 12 (.mv (.t 0)) :: fI 13 (.mv (.t 4)) :: fI 14 (.iad 5 (.t 12) (.t 13)) :: fI 15 (.fad 0 (.t 14)) :: fI 16 (.ld 1 false (.t 15)) :: fI 17 (.bin 0 .eql (.t 16) (kI 1)) :: fI 20 (.mv (.t 0)) :: fI 21 (.mv (.t 4)) :: fI 22 (.iad 5 (.t 20) (.t 21)) :: fI 23 (.fad 3 (.t 22)) :: fI 24 (.ld 1 false (.t 23)) :: fI 27 (.mv (.t 0)) :: fI 28 (.mv (.t 4)) :: fI 29 (.iad 5 (.t 27) (.t 28)) :: fI 30 (.fad 4 (.t 29)) :: fI 31 (.ld 1 false (.t 30)) :: eI 18 (.call fn_l5Truth [.t 17]) :: s_l9Lets_i2) [0, 3, 4])) s_l9Lets_3)
def s_l9Lets_l5 : SC := (.seq (.seq (.reg ( fI 5 (.mv (.t 4)) :: fI 6 (.mv (.t 0)) :: fI 7 (.len (.t 6)) :: fI 8 (.bin 0 .lss (.t 5) (.t 7)) :: []) [0, 3, 4, 8]) (.cond (.t 8) .skip (.exit 0))) s_l9Lets_4)
def s_l9Lets_6 : SC := (.seq (.reg ( fI 34 (.mv (.t 3)) :: fI 2 (.mv (.t 34)) :: []) [2]) .ret)
def s_l9Lets_7 : SC := (.seq (.seq (.reg ( fI 4 (.mv (kI 0)) :: []) [0, 3, 4]) (.block 0 (.loop s_l9Lets_l5))) s_l9Lets_6)
def s_l9Lets_8 : SC := (.seq (.reg ( fI 3 (.mv (kI 0)) :: []) [0, 3]) s_l9Lets_7)
def s_l9Lets : SC := (.seq (.reg ( fI 2 (.mv (kI 0)) :: []) [0]) s_l9Lets_8)
def r_l9Lets : List RS := [.tmp 2]
theorem m_l9Lets : mFn prog fn_l9Lets 1 35 s_l9Lets r_l9Lets = true := by kernel_rfl
def s_l9Low_block_i0 : List Item := fI 15 (.nck (.t 3)) :: fI 16 (.fad 1 (.t 15)) :: fI 17 (.fad 2 (.t 16)) :: .e none none (.sto 1 (.t 17) (.t 14)) :: []
def s_l9Low_block_1 : SC := (.seq (.reg ( fI 18 (.mv (.t 0)) :: fI 19 (.nck (.t 18)) :: fI 20 (.fad 1 (.t 19)) :: fI 21 (.fad 2 (.t 20)) :: fI 22 (.ld 1 false (.t 21)) :: fI 23 (.len (.t 22)) :: fI 24 (.bin 0 .sub (.t 23) (kI 1)) :: fI 2 (.mv (.t 24)) :: []) [2]) .ret)
def s_l9Low_block_2 : SC := (.seq (.reg ( fI 3 (.mv (.t 0)) :: fI 4 (.mv (.t 0)) :: fI 5 (.nck (.t 4)) :: fI 6 (.fad 1 (.t 5)) :: fI 7 (.fad 2 (.t 6)) :: fI 8 (.ld 1 false (.t 7)) :: fI 9 (.bsl 2 []) :: fI 10 (.bsl 4 []) :: fI 11 (.bsl 1 []) :: fI 12 (.bld [.sl true 2 [], .sl true 4 [], .int .i64 0, .int .i64 0, .sl true 1 []] [(0, 1, .t 9), (1, 1, .t 10), (4, 1, .t 11)]) :: fI 13 (.bsl 5 [.t 12]) :: eI 14 (.app 5 (.t 8) (.t 13)) :: s_l9Low_block_i0) [0]) s_l9Low_block_1)
def s_l9Low_block : SC := (.seq (.reg ( fI 2 (.mv (kI 0)) :: []) [0]) s_l9Low_block_2)
def r_l9Low_block : List RS := [.tmp 2]
theorem m_l9Low_block : mFn prog fn_l9Low_block 1 25 s_l9Low_block r_l9Low_block = true := by kernel_rfl
def s_l9Low_stmts_0 : SC := (.reg ( fI 15 (.mv (.t 5)) :: fI 16 (.bin 0 .add (.t 15) (kI 1)) :: fI 5 (.mv (.t 16)) :: []) [0, 1, 4, 5])
def s_l9Low_stmts_1 : SC := (.seq (.block 1 (.reg ( fI 17 (.mv (.t 0)) :: fI 18 (.mv (.t 1)) :: fI 19 (.mv (.t 5)) :: fI 20 (.iad 5 (.t 18) (.t 19)) :: fI 21 (.ld 5 true (.t 20)) :: eI 22 (.call fn_l9Low_stmt [.t 17, .t 21]) :: []) [0, 1, 4, 5])) s_l9Low_stmts_0)
def s_l9Low_stmts_l2 : SC := (.seq (.seq (.reg ( fI 11 (.mv (.t 5)) :: fI 12 (.mv (.t 1)) :: fI 13 (.len (.t 12)) :: fI 14 (.bin 0 .lss (.t 11) (.t 13)) :: []) [0, 1, 4, 5, 14]) (.cond (.t 14) .skip (.exit 0))) s_l9Low_stmts_1)
def s_l9Low_stmts_3 : SC := (.reg ( fI 23 (.mv (.t 0)) :: fI 24 (.mv (.t 0)) :: fI 25 (.nck (.t 24)) :: fI 26 (.fad 5 (.t 25)) :: fI 27 (.ld 1 false (.t 26)) :: fI 28 (.mv (.t 4)) :: fI 29 (.sli 3 (.t 27) none (some (.t 28))) :: fI 30 (.nck (.t 23)) :: fI 31 (.fad 5 (.t 30)) :: .e none none (.sto 1 (.t 31) (.t 29)) :: []) [])
def s_l9Low_stmts_4 : SC := (.seq (.seq (.reg ( fI 5 (.mv (kI 0)) :: []) [0, 1, 4, 5]) (.block 0 (.loop s_l9Low_stmts_l2))) s_l9Low_stmts_3)
def s_l9Low_stmts : SC := (.seq (.reg ( fI 6 (.mv (.t 0)) :: fI 7 (.nck (.t 6)) :: fI 8 (.fad 5 (.t 7)) :: fI 9 (.ld 1 false (.t 8)) :: fI 10 (.len (.t 9)) :: fI 4 (.mv (.t 10)) :: []) [0, 1, 4]) s_l9Low_stmts_4)
def r_l9Low_stmts : List RS := []
theorem m_l9Low_stmts : mFn prog fn_l9Low_stmts 2 32 s_l9Low_stmts r_l9Low_stmts = true := by kernel_rfl
def s_l9Low_put_i0 : List Item := fI 34 (.nck (.t 22)) :: fI 35 (.fad 1 (.t 34)) :: .e none none (.sto 1 (.t 35) (.t 33)) :: []
def s_l9Low_put_1 : SC := (.seq (.reg ( fI 36 (.mv (.t 2)) :: fI 10 (.mv (.t 36)) :: []) [10]) .ret)
def s_l9Low_put_2 : SC := (.seq (.reg ( fI 22 (.mv (.t 11)) :: fI 23 (.mv (.t 11)) :: fI 24 (.nck (.t 23)) :: fI 25 (.fad 1 (.t 24)) :: fI 26 (.ld 1 false (.t 25)) :: fI 27 (.mv (.t 1)) :: fI 28 (.mv (.t 2)) :: fI 29 (.mv (.t 4)) :: fI 30 (.mv (.t 3)) :: fI 31 (.bld [.int .i64 0, .int .i64 0, .sl true 1 [], .int .i64 0] [(0, 1, .t 27), (1, 1, .t 28), (2, 1, .t 29), (3, 1, .t 30)]) :: fI 32 (.bsl 4 [.t 31]) :: eI 33 (.app 4 (.t 26) (.t 32)) :: s_l9Low_put_i0) [2]) s_l9Low_put_1)
def s_l9Low_put_3 : SC := (.seq (.dreg 11 [0, 1, 2, 3, 4, 5, 6, 7, 8, 9, 10] ( fI 12 (.mv (.t 0)) :: fI 13 (.nck (.t 12)) :: fI 14 (.fad 1 (.t 13)) :: fI 15 (.fad 2 (.t 14)) :: fI 16 (.ld 1 false (.t 15)) :: fI 17 (.mv (.t 0)) :: fI 18 (.nck (.t 17)) :: fI 19 (.fad 4 (.t 18)) :: fI 20 (.ld 1 false (.t 19)) :: fI 21 (.iad 5 (.t 16) (.t 20)) :: fI 11 (.mv (.t 21)) :: []) [1, 2, 3, 4, 11]) s_l9Low_put_2)
def s_l9Low_put : SC := (.seq (.reg ( fI 10 (.mv (kI 0)) :: []) [0, 1, 2, 3, 4]) s_l9Low_put_3)
def r_l9Low_put : List RS := [.tmp 10]
theorem m_l9Low_put : mFn prog fn_l9Low_put 5 37 s_l9Low_put r_l9Low_put = true := by kernel_rfl
def s_l9Low_fresh_0 : SC := (.seq (.reg ( fI 13 (.mv (.t 0)) :: fI 14 (.nck (.t 13)) :: fI 15 (.fad 1 (.t 14)) :: fI 16 (.fad 1 (.t 15)) :: fI 17 (.ld 1 false (.t 16)) :: fI 18 (.bin 0 .sub (.t 17) (kI 1)) :: fI 2 (.mv (.t 18)) :: []) [2]) .ret)
def s_l9Low_fresh_1 : SC := (.seq (.reg ( fI 3 (.mv (.t 0)) :: fI 4 (.mv (.t 0)) :: fI 5 (.nck (.t 4)) :: fI 6 (.fad 1 (.t 5)) :: fI 7 (.fad 1 (.t 6)) :: fI 8 (.ld 1 false (.t 7)) :: fI 9 (.bin 0 .add (.t 8) (kI 1)) :: fI 10 (.nck (.t 3)) :: fI 11 (.fad 1 (.t 10)) :: fI 12 (.fad 1 (.t 11)) :: .e none none (.sto 1 (.t 12) (.t 9)) :: []) [0]) s_l9Low_fresh_0)
def s_l9Low_fresh : SC := (.seq (.reg ( fI 2 (.mv (kI 0)) :: []) [0]) s_l9Low_fresh_1)
def r_l9Low_fresh : List RS := [.tmp 2]
theorem m_l9Low_fresh : mFn prog fn_l9Low_fresh 1 19 s_l9Low_fresh r_l9Low_fresh = true := by kernel_rfl
def s_l9Low_jump_0 : SC := (.reg ( fI 33 (.mv (.t 0)) :: fI 34 (.mv (.t 4)) :: fI 35 (.nck (.t 33)) :: fI 36 (.fad 4 (.t 35)) :: .e none none (.sto 1 (.t 36) (.t 34)) :: []) [])
def s_l9Low_jump_1 : SC := (.seq (.reg ( fI 29 (.mv (.t 10)) :: fI 30 (.mv (.t 3)) :: fI 31 (.nck (.t 29)) :: fI 32 (.fad 4 (.t 31)) :: .e none none (.sto 1 (.t 32) (.t 30)) :: []) [0, 4]) s_l9Low_jump_0)
def s_l9Low_jump_2 : SC := (.seq (.reg ( fI 25 (.mv (.t 10)) :: fI 26 (.mv (.t 2)) :: fI 27 (.nck (.t 25)) :: fI 28 (.fad 3 (.t 27)) :: .e none none (.sto 1 (.t 28) (.t 26)) :: []) [0, 3, 4, 10]) s_l9Low_jump_1)
def s_l9Low_jump_3 : SC := (.seq (.reg ( fI 21 (.mv (.t 10)) :: fI 22 (.mv (.t 1)) :: fI 23 (.nck (.t 21)) :: fI 24 (.fad 2 (.t 23)) :: .e none none (.sto 1 (.t 24) (.t 22)) :: []) [0, 2, 3, 4, 10]) s_l9Low_jump_2)
def s_l9Low_jump : SC := (.seq (.dreg 11 [0, 1, 2, 3, 4, 5, 6, 7, 8, 9, 10] ( fI 11 (.mv (.t 0)) :: fI 12 (.nck (.t 11)) :: fI 13 (.fad 1 (.t 12)) :: fI 14 (.fad 2 (.t 13)) :: fI 15 (.ld 1 false (.t 14)) :: fI 16 (.mv (.t 0)) :: fI 17 (.nck (.t 16)) :: fI 18 (.fad 4 (.t 17)) :: fI 19 (.ld 1 false (.t 18)) :: fI 20 (.iad 5 (.t 15) (.t 19)) :: fI 10 (.mv (.t 20)) :: []) [0, 1, 2, 3, 4, 10]) s_l9Low_jump_3)
def r_l9Low_jump : List RS := []
theorem m_l9Low_jump : mFn prog fn_l9Low_jump 5 37 s_l9Low_jump r_l9Low_jump = true := by kernel_rfl
def s_l3Gen_block_i0 : List Item := fI 7 (.mv (.t 18)) :: []
def s_l3Gen_block_i1 : List Item := fI 6 (.mv (.t 34)) :: []
def s_l3Gen_block_i2 : List Item := eI 34 (.app 5 (.t 30) (.t 33)) :: s_l3Gen_block_i1
def s_l3Gen_block_3 : SC := (.reg ( fI 28 (.mv (.t 7)) :: fI 29 (.bin 0 .sub (.t 28) (kI 1)) :: fI 7 (.mv (.t 29)) :: []) [0, 1, 5, 6, 7])
def s_l3Gen_block_4 : SC := (.seq (.block 1 (.reg ( fI 30 (.mv (.t 6)) :: fI 31 (.mv (.t 0)) :: fI 32 (.mv (.t 1)) :: eI 33 (.call fn_l3Gen_some [.t 31, .t 32]) :: s_l3Gen_block_i2) [0, 1, 5, 6, 7])) s_l3Gen_block_3)
def s_l3Gen_block_l5 : SC := (.seq (.seq (.reg ( fI 19 (.mv (.t 7)) :: fI 20 (.bin 0 .gtr (.t 19) (kI 0)) :: fI 21 (.mv (.t 20)) :: gT 22 21 (.mv (.t 0)) :: gT 23 21 (.nck (.t 22)) :: gT 24 21 (.fad 4 (.t 23)) :: gT 25 21 (.ld 1 false (.t 24)) :: gT 26 21 (.bin 0 .gtr (.t 25) (kI 0)) :: fI 27 (.pick (.t 21) (.t 26) (.k (.c (.bool false)))) :: []) [0, 1, 5, 6, 7, 27]) (.cond (.t 27) .skip (.exit 0))) s_l3Gen_block_4)
def s_l3Gen_block_6 : SC := (.seq (.reg ( fI 39 (.mv (.t 6)) :: fI 4 (.mv (.t 39)) :: []) [4]) .ret)
def s_l3Gen_block_7 : SC := (.seq (.reg ( fI 35 (.mv (.t 0)) :: fI 36 (.mv (.t 5)) :: fI 37 (.nck (.t 35)) :: fI 38 (.fad 2 (.t 37)) :: .e none none (.sto 1 (.t 38) (.t 36)) :: []) [6]) s_l3Gen_block_6)
def s_l3Gen_block_8 : SC := (.seq (.seq (.reg ( fI 13 (.mv (.t 0)) :: fI 14 (.nck (.t 13)) :: fI 15 (.fad 0 (.t 14)) :: fI 16 (.ld 1 false (.t 15)) :: fI 17 (.bsl 1 [kI 2, kI 3, kI 1, kI 4]) :: eI 18 (.call fn_l30Rd_num [.t 16, .t 17]) :: s_l3Gen_block_i0) [0, 1, 5, 6, 7]) (.block 0 (.loop s_l3Gen_block_l5))) s_l3Gen_block_7)
def s_l3Gen_block_9 : SC := (.seq (.reg ( fI 12 (.bsl 5 []) :: fI 6 (.mv (.t 12)) :: []) [0, 1, 5, 6]) s_l3Gen_block_8)
def s_l3Gen_block_10 : SC := (.seq (.reg ( fI 8 (.mv (.t 0)) :: fI 9 (.nck (.t 8)) :: fI 10 (.fad 2 (.t 9)) :: fI 11 (.ld 1 false (.t 10)) :: fI 5 (.mv (.t 11)) :: []) [0, 1, 5]) s_l3Gen_block_9)
def s_l3Gen_block : SC := (.seq (.reg ( fI 4 (.mv (.k (.c (.sl true 5 [])))) :: []) [0, 1]) s_l3Gen_block_10)
def r_l3Gen_block : List RS := [.tmp 4]
theorem m_l3Gen_block : mFn prog fn_l3Gen_block 2 40 s_l3Gen_block r_l3Gen_block = true := by kernel_rfl
def s_l3Gen_expr_i0 : List Item := .chk 12 none (.ld 1 false (.t 11)) :: .chk 16 none (.ld 1 false (.t 15)) :: .e none none (.sto 4 (.t 5) (.t 18)) :: []
def s_l3Gen_expr_i1 : List Item := eI 5 (.alloc [.int .i64 0, .int .i64 0, .str [], .sl true 4 []]) :: s_l3Gen_expr_i0
def s_l3Gen_expr_i2 : List Item := gF 31 25 (.bin 0 .gtr (.t 30) (kI 0)) :: fI 32 (.pick (.t 25) (.k (.c (.bool true))) (.t 31)) :: []
def s_l3Gen_expr_3 : SC := (.cond (.t 32) (.seq (.reg ( fI 33 (.ld 4 true (.t 5)) :: .e none none (.sto 4 (.t 4) (.t 33)) :: []) [4]) .ret) .skip)
def s_l3Gen_expr_i4 : List Item := .chk 37 none (.ld 1 false (.t 36)) :: .chk 41 none (.ld 1 false (.t 40)) :: .chk 45 none (.ld 1 false (.t 44)) :: .chk 46 none (.len (.t 45)) :: .chk 48 none (.iad 3 (.t 37) (.t 47)) :: .chk 49 none (.ld 3 true (.t 48)) :: .e none none (.sto 3 (.t 6) (.t 49)) :: []
def s_l3Gen_expr_i5 : List Item := .chk 37 none (.ld 1 false (.t 36)) :: fI 48 (.iad 3 (.t 37) (.t 47)) :: fI 49 (.ld 3 true (.t 48)) :: eI 6 (.alloc [.str [], .sl true 1 [], .sl true 5 []]) :: s_l3Gen_expr_i4
def s_l3Gen_expr_i6 : List Item := .e none none (.sto 4 (.t 7) (.t 52)) :: []
def s_l3Gen_expr_i7 : List Item := fI 73 (.fad 3 (.t 7)) :: .e none none (.sto 1 (.t 73) (.t 72)) :: []
def s_l3Gen_expr_i8 : List Item := .chk 61 none (.ld 1 false (.t 60)) :: fI 71 (.bsl 4 [.t 70]) :: eI 72 (.app 4 (.t 61) (.t 71)) :: s_l3Gen_expr_i7
def s_l3Gen_expr_9 : SC := (.reg ( fI 58 (.mv (.t 8)) :: fI 59 (.bin 0 .add (.t 58) (kI 1)) :: fI 8 (.mv (.t 59)) :: []) [0, 4, 6, 7, 8])
def s_l3Gen_expr_10 : SC := (.seq (.block 1 (.dreg 15 [0, 1, 2, 3, 4, 5, 6, 7, 8, 9, 10, 1, 11, 12, 13, 14] ( fI 60 (.fad 3 (.t 7)) :: fI 61 (.ld 1 false (.t 60)) :: fI 62 (.mv (.t 0)) :: fI 63 (.nck (.t 62)) :: fI 64 (.fad 0 (.t 63)) :: fI 65 (.ld 1 false (.t 64)) :: fI 66 (.mv (.t 0)) :: fI 67 (.nck (.t 66)) :: fI 68 (.fad 2 (.t 67)) :: fI 69 (.ld 1 false (.t 68)) :: eI 70 (.call fn_l2Expr [.t 65, .t 69, kI 2]) :: s_l3Gen_expr_i8) [0, 4, 6, 7, 8])) s_l3Gen_expr_9)
def s_l3Gen_expr_l11 : SC := (.seq (.seq (.reg ( fI 53 (.mv (.t 8)) :: fI 54 (.fad 1 (.t 6)) :: fI 55 (.ld 1 false (.t 54)) :: fI 56 (.len (.t 55)) :: fI 57 (.bin 0 .lss (.t 53) (.t 56)) :: []) [0, 4, 6, 7, 8, 57]) (.cond (.t 57) .skip (.exit 0))) s_l3Gen_expr_10)
def s_l3Gen_expr_i12 : List Item := fI 79 (.bin 0 .eql (.t 78) (kI 0)) :: []
def s_l3Gen_expr_13 : SC := (.cond (.t 79) (.seq (.reg ( fI 80 (.ld 4 true (.t 7)) :: .e none none (.sto 4 (.t 4) (.t 80)) :: []) [4]) .ret) .skip)
def s_l3Gen_expr_i14 : List Item := .chk 87 none (.ld 4 true (.t 7)) :: fI 97 (.bsl 4 [.t 87, .t 96]) :: fI 98 (.bld [.int .i64 0, .int .i64 0, .str [], .sl true 4 []] [(0, 1, .t 86), (3, 1, .t 97)]) :: .e none none (.sto 4 (.t 4) (.t 98)) :: []
def s_l3Gen_expr_i15 : List Item := .chk 87 none (.ld 4 true (.t 7)) :: .chk 91 none (.ld 1 false (.t 90)) :: .chk 95 none (.ld 1 false (.t 94)) :: eI 96 (.call fn_l2Expr [.t 91, .t 95, kI 2]) :: s_l3Gen_expr_i14
def s_l3Gen_expr_16 : SC := (.seq (.dreg 19 [0, 1, 2, 3, 4, 6, 7, 8, 9, 10, 11, 12, 13, 14, 5, 6, 10, 14, 15, 6, 16, 17, 18] ( fI 81 (.mv (.t 0)) :: fI 82 (.nck (.t 81)) :: fI 83 (.fad 0 (.t 82)) :: fI 84 (.ld 1 false (.t 83)) :: fI 85 (.bsl 1 [kI 3, kI 4, kI 8, kI 10]) :: fI 87 (.ld 4 true (.t 7)) :: fI 88 (.mv (.t 0)) :: fI 89 (.nck (.t 88)) :: fI 90 (.fad 0 (.t 89)) :: fI 91 (.ld 1 false (.t 90)) :: fI 92 (.mv (.t 0)) :: fI 93 (.nck (.t 92)) :: fI 94 (.fad 2 (.t 93)) :: fI 95 (.ld 1 false (.t 94)) :: eI 86 (.call fn_l30Rd_num [.t 84, .t 85]) :: s_l3Gen_expr_i15) [4]) .ret)
def s_l3Gen_expr_17 : SC := (.seq (.seq (.reg ( fI 74 (.mv (.t 0)) :: fI 75 (.nck (.t 74)) :: fI 76 (.fad 0 (.t 75)) :: fI 77 (.ld 1 false (.t 76)) :: eI 78 (.call fn_l30Rd_pick [.t 77, kI 2]) :: s_l3Gen_expr_i12) [0, 4, 7, 79]) s_l3Gen_expr_13) s_l3Gen_expr_16)
def s_l3Gen_expr_18 : SC := (.seq (.seq (.reg ( fI 8 (.mv (kI 0)) :: []) [0, 4, 6, 7, 8]) (.block 0 (.loop s_l3Gen_expr_l11))) s_l3Gen_expr_17)
def s_l3Gen_expr_19 : SC := (.seq (.reg ( fI 50 (.fad 0 (.t 6)) :: fI 51 (.ld 1 false (.t 50)) :: fI 52 (.bld [.int .i64 0, .int .i64 0, .str [], .sl true 4 []] [(0, 1, kI 13), (2, 1, .t 51)]) :: eI 7 (.alloc [.int .i64 0, .int .i64 0, .str [], .sl true 4 []]) :: s_l3Gen_expr_i6) [0, 4, 6, 7]) s_l3Gen_expr_18)
def s_l3Gen_expr_20 : SC := (.seq (.dreg 16 [0, 1, 2, 3, 4, 5, 6, 7, 8, 9, 10, 11, 12, 13, 3, 14, 15, 16, 3, 7, 11, 12, 14, 15, 17] ( fI 34 (.mv (.t 0)) :: fI 35 (.nck (.t 34)) :: fI 36 (.fad 1 (.t 35)) :: fI 37 (.ld 1 false (.t 36)) :: fI 38 (.mv (.t 0)) :: fI 39 (.nck (.t 38)) :: fI 40 (.fad 0 (.t 39)) :: fI 41 (.ld 1 false (.t 40)) :: fI 42 (.mv (.t 0)) :: fI 43 (.nck (.t 42)) :: fI 44 (.fad 1 (.t 43)) :: fI 45 (.ld 1 false (.t 44)) :: fI 46 (.len (.t 45)) :: eI 47 (.call fn_l30Rd_pick [.t 41, .t 46]) :: s_l3Gen_expr_i5) [0, 4, 6]) s_l3Gen_expr_19)
def s_l3Gen_expr_21 : SC := (.seq (.seq (.reg ( fI 19 (.mv (.t 0)) :: fI 20 (.nck (.t 19)) :: fI 21 (.fad 1 (.t 20)) :: fI 22 (.ld 1 false (.t 21)) :: fI 23 (.len (.t 22)) :: fI 24 (.bin 0 .eql (.t 23) (kI 0)) :: fI 25 (.mv (.t 24)) :: gF 26 25 (.mv (.t 0)) :: gF 27 25 (.nck (.t 26)) :: gF 28 25 (.fad 0 (.t 27)) :: gF 29 25 (.ld 1 false (.t 28)) :: .e (some 30) (some (25, false)) (.call fn_l30Rd_pick [.t 29, kI 4]) :: s_l3Gen_expr_i2) [0, 4, 5, 32]) s_l3Gen_expr_3) s_l3Gen_expr_20)
def s_l3Gen_expr_22 : SC := (.seq (.dreg 10 [0, 1, 2, 3, 4, 5, 6, 7, 8, 9, 10, 3, 7, 11] ( fI 9 (.mv (.t 0)) :: fI 10 (.nck (.t 9)) :: fI 11 (.fad 0 (.t 10)) :: fI 12 (.ld 1 false (.t 11)) :: fI 13 (.mv (.t 0)) :: fI 14 (.nck (.t 13)) :: fI 15 (.fad 2 (.t 14)) :: fI 16 (.ld 1 false (.t 15)) :: fI 17 (.mv (.t 1)) :: eI 18 (.call fn_l2Expr [.t 12, .t 16, .t 17]) :: s_l3Gen_expr_i1) [0, 4, 5]) s_l3Gen_expr_21)
def s_l3Gen_expr : SC := (.seq (.reg ( eI 4 (.alloc [.int .i64 0, .int .i64 0, .str [], .sl true 4 []]) :: []) [0, 1, 4]) s_l3Gen_expr_22)
def r_l3Gen_expr : List RS := [.cell 4 4 true]
theorem m_l3Gen_expr : mFn prog fn_l3Gen_expr 2 99 s_l3Gen_expr r_l3Gen_expr = true := by kernel_rfl
def s_l3Fn_i0 : List Item := fI 17 (.not (.t 16)) :: []
def s_l3Fn_1 : SC := (.cond (.t 17) (.seq (.reg ( fI 2 (.mv (.k (.c (.bool false)))) :: []) [2]) .ret) .skip)
def s_l3Fn_2 : SC := (.reg ( fI 9 (.mv (.t 3)) :: fI 10 (.bin 0 .add (.t 9) (kI 1)) :: fI 3 (.mv (.t 10)) :: []) [1, 3])
def s_l3Fn_3 : SC := (.seq (.block 1 (.seq (.reg ( fI 11 (.fad 1 (.t 1)) :: fI 12 (.ld 1 false (.t 11)) :: fI 13 (.mv (.t 3)) :: fI 14 (.iad 1 (.t 12) (.t 13)) :: fI 15 (.ld 1 false (.t 14)) :: eI 16 (.call fn_sp_IsName [.t 15]) :: s_l3Fn_i0) [1, 3, 17]) s_l3Fn_1)) s_l3Fn_2)
def s_l3Fn_l4 : SC := (.seq (.seq (.reg ( fI 4 (.mv (.t 3)) :: fI 5 (.fad 1 (.t 1)) :: fI 6 (.ld 1 false (.t 5)) :: fI 7 (.len (.t 6)) :: fI 8 (.bin 0 .lss (.t 4) (.t 7)) :: []) [1, 3, 8]) (.cond (.t 8) .skip (.exit 0))) s_l3Fn_3)
def s_l3Fn_i5 : List Item := fI 31 (.pick (.t 27) (.t 30) (.k (.c (.bool false)))) :: fI 2 (.mv (.t 31)) :: []
def s_l3Fn_i6 : List Item := fI 21 (.mv (.t 20)) :: gT 22 21 (.fad 1 (.t 1)) :: gT 23 21 (.ld 1 false (.t 22)) :: gT 24 21 (.len (.t 23)) :: gT 25 21 (.bin 0 .leq (.t 24) (kI 3)) :: fI 26 (.pick (.t 21) (.t 25) (.k (.c (.bool false)))) :: fI 27 (.mv (.t 26)) :: gT 28 27 (.fad 2 (.t 1)) :: gT 29 27 (.ld 1 false (.t 28)) :: .e (some 30) (some (27, true)) (.call fn_l3Stmts [.t 29, kI 4]) :: s_l3Fn_i5
def s_l3Fn_7 : SC := (.seq (.reg ( fI 18 (.fad 0 (.t 1)) :: fI 19 (.ld 1 false (.t 18)) :: eI 20 (.call fn_sp_IsName [.t 19]) :: s_l3Fn_i6) [2]) .ret)
def s_l3Fn_8 : SC := (.seq (.seq (.reg ( fI 3 (.mv (kI 0)) :: []) [1, 3]) (.block 0 (.loop s_l3Fn_l4))) s_l3Fn_7)
def s_l3Fn : SC := (.seq (.reg ( fI 1 (.box (.t 0)) :: fI 2 (.mv (.k (.c (.bool false)))) :: []) [1]) s_l3Fn_8)
def r_l3Fn : List RS := [.tmp 2]
theorem m_l3Fn : mFn prog fn_l3Fn 1 32 s_l3Fn r_l3Fn = true := by kernel_rfl
def s_l3All_i0 : List Item := fI 20 (.bin 0 .add (.t 12) (.t 19)) :: fI 3 (.mv (.t 20)) :: []
def s_l3All_1 : SC := (.reg ( fI 10 (.mv (.t 4)) :: fI 11 (.bin 0 .add (.t 10) (kI 1)) :: fI 4 (.mv (.t 11)) :: []) [1, 3, 4])
def s_l3All_2 : SC := (.seq (.block 1 (.reg ( fI 12 (.mv (.t 3)) :: fI 13 (.fad 0 (.t 1)) :: fI 14 (.ld 1 false (.t 13)) :: fI 15 (.mv (.t 4)) :: fI 16 (.iad 3 (.t 14) (.t 15)) :: fI 17 (.fad 2 (.t 16)) :: fI 18 (.ld 1 false (.t 17)) :: eI 19 (.call fn_l3Count [.t 18]) :: s_l3All_i0) [1, 3, 4])) s_l3All_1)
def s_l3All_l3 : SC := (.seq (.seq (.reg ( fI 5 (.mv (.t 4)) :: fI 6 (.fad 0 (.t 1)) :: fI 7 (.ld 1 false (.t 6)) :: fI 8 (.len (.t 7)) :: fI 9 (.bin 0 .lss (.t 5) (.t 8)) :: []) [1, 3, 4, 9]) (.cond (.t 9) .skip (.exit 0))) s_l3All_2)
def s_l3All_4 : SC := (.seq (.reg ( fI 21 (.mv (.t 3)) :: fI 2 (.mv (.t 21)) :: []) [2]) .ret)
def s_l3All_5 : SC := (.seq (.seq (.reg ( fI 4 (.mv (kI 0)) :: []) [1, 3, 4]) (.block 0 (.loop s_l3All_l3))) s_l3All_4)
def s_l3All_6 : SC := (.seq (.reg ( fI 3 (.mv (kI 0)) :: []) [1, 3]) s_l3All_5)
def s_l3All : SC := (.seq (.reg ( fI 1 (.box (.t 0)) :: fI 2 (.mv (kI 0)) :: []) [1]) s_l3All_6)
def r_l3All : List RS := [.tmp 2]
theorem m_l3All : mFn prog fn_l3All 1 22 s_l3All r_l3All = true := by kernel_rfl
def s_l7Makes_i0 : List Item := fI 5 (.mv (.t 4)) :: gT 6 5 (.mv (.t 0)) :: gT 7 5 (.bin 0 .neq (.t 6) (kI 12)) :: fI 8 (.pick (.t 5) (.t 7) (.k (.c (.bool false)))) :: fI 9 (.mv (.t 8)) :: gT 10 9 (.mv (.t 0)) :: gT 11 9 (.bin 0 .neq (.t 10) (kI 13)) :: fI 12 (.pick (.t 9) (.t 11) (.k (.c (.bool false)))) :: fI 2 (.mv (.t 12)) :: []
def s_l7Makes_1 : SC := (.seq (.reg ( fI 3 (.mv (.t 0)) :: eI 4 (.call fn_l1In [.t 3, kI 1, kI 14]) :: s_l7Makes_i0) [2]) .ret)
def s_l7Makes : SC := (.seq (.reg ( fI 2 (.mv (.k (.c (.bool false)))) :: []) [0]) s_l7Makes_1)
def r_l7Makes : List RS := [.tmp 2]
theorem m_l7Makes : mFn prog fn_l7Makes 1 13 s_l7Makes r_l7Makes = true := by kernel_rfl
def s_l7Args_i0 : List Item := fI 24 (.mv (.t 23)) :: gF 25 24 (.mv (.t 0)) :: gF 26 24 (.bin 0 .eql (.t 25) (kI 12)) :: fI 27 (.pick (.t 24) (.k (.c (.bool true))) (.t 26)) :: fI 21 (.mv (.t 27)) :: []
def s_l7Args_1 : SC := (.cond (.t 21) (.seq (.reg ( fI 2 (.mv (kI 2)) :: []) [2]) .ret) .skip)
def s_l7Args_2 : SC := (.cond (.t 6) (.seq (.reg ( fI 2 (.mv (kI 1)) :: []) [2]) .ret) (.seq (.reg ( fI 22 (.mv (.t 0)) :: eI 23 (.call fn_l1In [.t 22, kI 3, kI 9]) :: s_l7Args_i0) [21]) s_l7Args_1))
def s_l7Args_3 : SC := (.cond (.t 3) (.seq (.reg ( fI 2 (.mv (kI 0)) :: []) [2]) .ret) (.seq (.reg ( fI 7 (.mv (.t 0)) :: fI 8 (.bin 0 .eql (.t 7) (kI 2)) :: fI 9 (.mv (.t 8)) :: gF 10 9 (.mv (.t 0)) :: gF 11 9 (.bin 0 .eql (.t 10) (kI 10)) :: fI 12 (.pick (.t 9) (.k (.c (.bool true))) (.t 11)) :: fI 13 (.mv (.t 12)) :: gF 14 13 (.mv (.t 0)) :: gF 15 13 (.bin 0 .eql (.t 14) (kI 11)) :: fI 16 (.pick (.t 13) (.k (.c (.bool true))) (.t 15)) :: fI 17 (.mv (.t 16)) :: gF 18 17 (.mv (.t 0)) :: gF 19 17 (.bin 0 .eql (.t 18) (kI 13)) :: fI 20 (.pick (.t 17) (.k (.c (.bool true))) (.t 19)) :: fI 6 (.mv (.t 20)) :: []) [0, 6]) s_l7Args_2))
def s_l7Args_4 : SC := (.seq (.reg ( fI 2 (.mv (kI (-1))) :: []) [2]) .ret)
def s_l7Args_5 : SC := (.seq (.block 0 (.seq (.reg ( fI 4 (.mv (.t 0)) :: fI 5 (.bin 0 .eql (.t 4) (kI 1)) :: fI 3 (.mv (.t 5)) :: []) [0, 3]) s_l7Args_3)) s_l7Args_4)
def s_l7Args : SC := (.seq (.reg ( fI 2 (.mv (kI 0)) :: []) [0]) s_l7Args_5)
def r_l7Args : List RS := [.tmp 2]
theorem m_l7Args : mFn prog fn_l7Args 1 28 s_l7Args r_l7Args = true := by kernel_rfl
def s_l5Truth_0 : SC := (.cond (.t 3) (.seq (.reg ( fI 2 (.mv (kI 1)) :: []) [2]) .ret) .skip)
def s_l5Truth_1 : SC := (.seq (.reg ( fI 2 (.mv (kI 0)) :: []) [2]) .ret)
def s_l5Truth_2 : SC := (.seq (.seq (.reg ( fI 3 (.mv (.t 0)) :: []) [3]) s_l5Truth_0) s_l5Truth_1)
def s_l5Truth : SC := (.seq (.reg ( fI 2 (.mv (kI 0)) :: []) [0]) s_l5Truth_2)
def r_l5Truth : List RS := [.tmp 2]
theorem m_l5Truth : mFn prog fn_l5Truth 1 4 s_l5Truth r_l5Truth = true := by kernel_rfl
def s_l9Low_stmt_0 : SC := (.cond (.t 11) (.seq (.reg ( fI 12 (.mv (.t 0)) :: fI 13 (.ld 5 true (.t 3)) :: eI 14 (.call fn_l9Low_loop [.t 12, .t 13]) :: []) []) .ret) .skip)
def s_l9Low_stmt_i1 : List Item := fI 4 (.mv (.t 32)) :: []
def s_l9Low_stmt_i2 : List Item := fI 31 (.bsl 1 [.t 30]) :: eI 32 (.app 1 (.t 23) (.t 31)) :: s_l9Low_stmt_i1
def s_l9Low_stmt_3 : SC := (.reg ( fI 21 (.mv (.t 5)) :: fI 22 (.bin 0 .add (.t 21) (kI 1)) :: fI 5 (.mv (.t 22)) :: []) [0, 3, 4, 5])
def s_l9Low_stmt_4 : SC := (.seq (.block 1 (.reg ( fI 23 (.mv (.t 4)) :: fI 24 (.mv (.t 0)) :: fI 25 (.fad 2 (.t 3)) :: fI 26 (.ld 1 false (.t 25)) :: fI 27 (.mv (.t 5)) :: fI 28 (.iad 4 (.t 26) (.t 27)) :: fI 29 (.ld 4 true (.t 28)) :: eI 30 (.call fn_l9Low_expr [.t 24, .t 29]) :: s_l9Low_stmt_i2) [0, 3, 4, 5])) s_l9Low_stmt_3)
def s_l9Low_stmt_l5 : SC := (.seq (.seq (.reg ( fI 16 (.mv (.t 5)) :: fI 17 (.fad 2 (.t 3)) :: fI 18 (.ld 1 false (.t 17)) :: fI 19 (.len (.t 18)) :: fI 20 (.bin 0 .lss (.t 16) (.t 19)) :: []) [0, 3, 4, 5, 20]) (.cond (.t 20) .skip (.exit 0))) s_l9Low_stmt_4)
def s_l9Low_stmt_i6 : List Item := fI 58 (.nck (.t 44)) :: fI 59 (.fad 5 (.t 58)) :: .e none none (.sto 1 (.t 59) (.t 57)) :: []
def s_l9Low_stmt_7 : SC := (.reg ( fI 60 (.mv (.t 0)) :: fI 61 (.mv (.t 0)) :: fI 62 (.nck (.t 61)) :: fI 63 (.fad 6 (.t 62)) :: fI 64 (.ld 1 false (.t 63)) :: fI 65 (.bin 0 .add (.t 64) (kI 1)) :: fI 66 (.nck (.t 60)) :: fI 67 (.fad 6 (.t 66)) :: .e none none (.sto 1 (.t 67) (.t 65)) :: []) [])
def s_l9Low_stmt_8 : SC := (.seq (.dreg 17 [0, 1, 2, 3, 4, 5, 6, 7, 8, 9, 10, 11, 12, 13, 14, 15, 16] ( fI 44 (.mv (.t 0)) :: fI 45 (.mv (.t 0)) :: fI 46 (.nck (.t 45)) :: fI 47 (.fad 5 (.t 46)) :: fI 48 (.ld 1 false (.t 47)) :: fI 49 (.fad 1 (.t 3)) :: fI 50 (.ld 1 false (.t 49)) :: fI 51 (.mv (.t 0)) :: fI 52 (.nck (.t 51)) :: fI 53 (.fad 6 (.t 52)) :: fI 54 (.ld 1 false (.t 53)) :: fI 55 (.bld [.str [], .int .i64 0, .int .i64 0] [(0, 1, .t 50), (1, 1, .t 54), (2, 1, kI 0)]) :: fI 56 (.bsl 3 [.t 55]) :: eI 57 (.app 3 (.t 48) (.t 56)) :: s_l9Low_stmt_i6) [0]) s_l9Low_stmt_7)
def s_l9Low_stmt_i9 : List Item := fI 75 (.mv (.t 4)) :: eI 76 (.call fn_l9Low_put [.t 70, kI 2, .t 74, kI 0, .t 75]) :: []
def s_l9Low_stmt_i10 : List Item := .chk 91 none (.iad 1 (.t 90) (kI 0)) :: .chk 92 none (.ld 1 false (.t 91)) :: eI 96 (.call fn_l9Low_jump [.t 89, kI 3, .t 92, .t 93, .t 95]) :: []
def s_l9Low_stmt_i11 : List Item := fI 6 (.mv (.t 100)) :: []
def s_l9Low_stmt_i12 : List Item := fI 7 (.mv (.t 102)) :: []
def s_l9Low_stmt_i13 : List Item := fI 8 (.mv (.t 104)) :: []
def s_l9Low_stmt_14 : SC := (.reg ( fI 127 (.mv (.t 0)) :: fI 128 (.mv (.t 8)) :: fI 129 (.bsl 1 [.t 128]) :: fI 130 (.mv (.t 8)) :: eI 131 (.call fn_l9Low_jump [.t 127, kI 1, kI 0, .t 129, .t 130]) :: []) [])
def s_l9Low_stmt_15 : SC := (.seq (.reg ( fI 123 (.mv (.t 0)) :: fI 124 (.fad 4 (.t 3)) :: fI 125 (.ld 1 false (.t 124)) :: eI 126 (.call fn_l9Low_stmts [.t 123, .t 125]) :: []) [0, 8]) s_l9Low_stmt_14)
def s_l9Low_stmt_16 : SC := (.seq (.reg ( fI 118 (.mv (.t 0)) :: fI 119 (.mv (.t 8)) :: fI 120 (.bsl 1 [.t 119]) :: fI 121 (.mv (.t 7)) :: eI 122 (.call fn_l9Low_jump [.t 118, kI 1, kI 0, .t 120, .t 121]) :: []) [0, 3, 8]) s_l9Low_stmt_15)
def s_l9Low_stmt_17 : SC := (.seq (.reg ( fI 114 (.mv (.t 0)) :: fI 115 (.fad 3 (.t 3)) :: fI 116 (.ld 1 false (.t 115)) :: eI 117 (.call fn_l9Low_stmts [.t 114, .t 116]) :: []) [0, 3, 7, 8]) s_l9Low_stmt_16)
def s_l9Low_stmt_18 : SC := (.seq (.reg ( fI 105 (.mv (.t 0)) :: fI 106 (.mv (.t 4)) :: fI 107 (.iad 1 (.t 106) (kI 0)) :: fI 108 (.ld 1 false (.t 107)) :: fI 109 (.mv (.t 6)) :: fI 110 (.mv (.t 7)) :: fI 111 (.bsl 1 [.t 109, .t 110]) :: fI 112 (.mv (.t 6)) :: eI 113 (.call fn_l9Low_jump [.t 105, kI 2, .t 108, .t 111, .t 112]) :: []) [0, 3, 7, 8]) s_l9Low_stmt_17)
def s_l9Low_stmt_19 : SC := (.seq (.reg ( fI 103 (.mv (.t 0)) :: eI 104 (.call fn_l9Low_block [.t 103]) :: s_l9Low_stmt_i13) [0, 3, 4, 6, 7, 8]) s_l9Low_stmt_18)
def s_l9Low_stmt_20 : SC := (.seq (.reg ( fI 101 (.mv (.t 0)) :: eI 102 (.call fn_l9Low_block [.t 101]) :: s_l9Low_stmt_i12) [0, 3, 4, 6, 7]) s_l9Low_stmt_19)
def s_l9Low_stmt_21 : SC := (.cond (.t 97) (.seq (.reg ( fI 99 (.mv (.t 0)) :: eI 100 (.call fn_l9Low_block [.t 99]) :: s_l9Low_stmt_i11) [0, 3, 4, 6]) s_l9Low_stmt_20) .skip)
def s_l9Low_stmt_22 : SC := (.cond (.t 87) (.dreg 8 [0, 1, 2, 3, 4, 5, 6, 2, 3, 7] ( fI 89 (.mv (.t 0)) :: fI 90 (.mv (.t 4)) :: fI 91 (.iad 1 (.t 90) (kI 0)) :: fI 92 (.ld 1 false (.t 91)) :: fI 93 (.bsl 1 []) :: fI 94 (.mv (.t 0)) :: eI 95 (.call fn_l9Low_block [.t 94]) :: s_l9Low_stmt_i10) []) (.seq (.reg ( fI 98 (.bin 0 .eql (.t 34) (kI 5)) :: fI 97 (.mv (.t 98)) :: []) [0, 3, 4, 97]) s_l9Low_stmt_21))
def s_l9Low_stmt_23 : SC := (.cond (.t 82) (.reg ( fI 84 (.mv (.t 0)) :: fI 85 (.mv (.t 4)) :: eI 86 (.call fn_l9Low_put [.t 84, kI 12, kI (-1), kI 0, .t 85]) :: []) []) (.seq (.reg ( fI 88 (.bin 0 .eql (.t 34) (kI 7)) :: fI 87 (.mv (.t 88)) :: []) [0, 3, 4, 34, 87]) s_l9Low_stmt_22))
def s_l9Low_stmt_24 : SC := (.cond (.t 77) (.reg ( fI 79 (.mv (.t 0)) :: fI 80 (.mv (.t 4)) :: eI 81 (.call fn_l9Low_put [.t 79, kI 13, kI (-1), kI 0, .t 80]) :: []) []) (.seq (.reg ( fI 83 (.bin 0 .eql (.t 34) (kI 4)) :: fI 82 (.mv (.t 83)) :: []) [0, 3, 4, 34, 82]) s_l9Low_stmt_23))
def s_l9Low_stmt_25 : SC := (.cond (.t 68) (.reg ( fI 70 (.mv (.t 0)) :: fI 71 (.mv (.t 0)) :: fI 72 (.fad 1 (.t 3)) :: fI 73 (.ld 1 false (.t 72)) :: eI 74 (.call fn_l9Low_reg [.t 71, .t 73]) :: s_l9Low_stmt_i9) []) (.seq (.reg ( fI 78 (.bin 0 .eql (.t 34) (kI 3)) :: fI 77 (.mv (.t 78)) :: []) [0, 3, 4, 34, 77]) s_l9Low_stmt_24))
def s_l9Low_stmt_26 : SC := (.cond (.t 35) (.seq (.reg ( fI 37 (.mv (.t 0)) :: fI 38 (.mv (.t 0)) :: fI 39 (.nck (.t 38)) :: fI 40 (.fad 6 (.t 39)) :: fI 41 (.ld 1 false (.t 40)) :: fI 42 (.mv (.t 4)) :: eI 43 (.call fn_l9Low_put [.t 37, kI 2, .t 41, kI 0, .t 42]) :: []) [0, 3]) s_l9Low_stmt_8) (.seq (.reg ( fI 69 (.bin 0 .eql (.t 34) (kI 2)) :: fI 68 (.mv (.t 69)) :: []) [0, 3, 4, 34, 68]) s_l9Low_stmt_25))
def s_l9Low_stmt_27 : SC := (.block 2 (.seq (.reg ( fI 36 (.bin 0 .eql (.t 34) (kI 1)) :: fI 35 (.mv (.t 36)) :: []) [0, 3, 4, 34, 35]) s_l9Low_stmt_26))
def s_l9Low_stmt_28 : SC := (.seq (.seq .gh (.reg ( fI 33 (.fad 0 (.t 3)) :: fI 34 (.ld 1 false (.t 33)) :: []) [0, 3, 4, 34])) s_l9Low_stmt_27)
def s_l9Low_stmt_29 : SC := (.seq (.seq (.reg ( fI 5 (.mv (kI 0)) :: []) [0, 3, 4, 5]) (.block 0 (.loop s_l9Low_stmt_l5))) s_l9Low_stmt_28)
def s_l9Low_stmt_30 : SC := (.seq (.reg ( fI 15 (.bsl 1 []) :: fI 4 (.mv (.t 15)) :: []) [0, 3, 4]) s_l9Low_stmt_29)
def s_l9Low_stmt_31 : SC := (.seq (.seq (.reg ( fI 9 (.fad 0 (.t 3)) :: fI 10 (.ld 1 false (.t 9)) :: fI 11 (.bin 0 .eql (.t 10) (kI 6)) :: []) [0, 3, 11]) s_l9Low_stmt_0) s_l9Low_stmt_30)
def s_l9Low_stmt : SC := (.seq (.reg ( fI 3 (.box (.t 1)) :: []) [0, 3]) s_l9Low_stmt_31)
def r_l9Low_stmt : List RS := []
theorem m_l9Low_stmt : mFn prog fn_l9Low_stmt 2 132 s_l9Low_stmt r_l9Low_stmt = true := by kernel_rfl
def s_l3Gen_some_i0 : List Item := fI 5 (.mv (.t 19)) :: []
def s_l3Gen_some_i1 : List Item := fI 42 (.bsl 4 [.t 41]) :: fI 43 (.bld [.int .i64 0, .str [], .sl true 4 [], .sl true 5 [], .sl true 5 []] [(0, 1, kI 2), (1, 1, .t 39), (2, 1, .t 42)]) :: fI 44 (.bsl 5 [.t 43]) :: fI 4 (.mv (.t 44)) :: []
def s_l3Gen_some_i2 : List Item := eI 41 (.call fn_l3Gen_expr [.t 40, kI 3]) :: s_l3Gen_some_i1
def s_l3Gen_some_i3 : List Item := fI 52 (.bsl 5 [.t 51]) :: fI 4 (.mv (.t 52)) :: []
def s_l3Gen_some_i4 : List Item := eI 51 (.call fn_l3Gen_let [.t 48, .t 50]) :: s_l3Gen_some_i3
def s_l3Gen_some_i5 : List Item := fI 62 (.bsl 4 [.t 61]) :: fI 63 (.bld [.int .i64 0, .str [], .sl true 4 [], .sl true 5 [], .sl true 5 []] [(0, 1, kI 3), (2, 1, .t 62)]) :: fI 64 (.bsl 5 [.t 63]) :: fI 4 (.mv (.t 64)) :: []
def s_l3Gen_some_i6 : List Item := fI 72 (.bsl 4 [.t 69, .t 71]) :: fI 73 (.bld [.int .i64 0, .str [], .sl true 4 [], .sl true 5 [], .sl true 5 []] [(0, 1, kI 4), (2, 1, .t 72)]) :: fI 74 (.bsl 5 [.t 73]) :: fI 4 (.mv (.t 74)) :: []
def s_l3Gen_some_i7 : List Item := fI 70 (.mv (.t 0)) :: eI 71 (.call fn_l3Gen_expr [.t 70, kI 2]) :: s_l3Gen_some_i6
def s_l3Gen_some_i8 : List Item := fI 80 (.bsl 4 [.t 79]) :: fI 81 (.bld [.int .i64 0, .int .i64 0, .str [], .sl true 4 []] [(0, 1, kI 12), (3, 1, .t 80)]) :: fI 82 (.bsl 4 [.t 81]) :: fI 83 (.bld [.int .i64 0, .str [], .sl true 4 [], .sl true 5 [], .sl true 5 []] [(0, 1, kI 3), (2, 1, .t 82)]) :: fI 84 (.bsl 5 [.t 83]) :: fI 4 (.mv (.t 84)) :: []
def s_l3Gen_some_i9 : List Item := .e none none (.sto 5 (.t 6) (.t 95)) :: []
def s_l3Gen_some_i10 : List Item := fI 95 (.bld [.int .i64 0, .str [], .sl true 4 [], .sl true 5 [], .sl true 5 []] [(0, 1, kI 5), (2, 1, .t 90), (3, 1, .t 94)]) :: eI 6 (.alloc [.int .i64 0, .str [], .sl true 4 [], .sl true 5 [], .sl true 5 []]) :: s_l3Gen_some_i9
def s_l3Gen_some_i11 : List Item := fI 90 (.bsl 4 [.t 89]) :: fI 91 (.mv (.t 0)) :: fI 92 (.mv (.t 1)) :: fI 93 (.bin 0 .sub (.t 92) (kI 1)) :: eI 94 (.call fn_l3Gen_block [.t 91, .t 93]) :: s_l3Gen_some_i10
def s_l3Gen_some_i12 : List Item := fI 101 (.bin 0 .eql (.t 100) (kI 0)) :: []
def s_l3Gen_some_i13 : List Item := fI 106 (.fad 4 (.t 6)) :: .e none none (.sto 1 (.t 106) (.t 105)) :: []
def s_l3Gen_some_14 : SC := (.cond (.t 101) (.reg ( fI 102 (.mv (.t 0)) :: fI 103 (.mv (.t 1)) :: fI 104 (.bin 0 .sub (.t 103) (kI 1)) :: eI 105 (.call fn_l3Gen_block [.t 102, .t 104]) :: s_l3Gen_some_i13) [6]) .skip)
def s_l3Gen_some_15 : SC := (.seq (.reg ( fI 107 (.ld 5 true (.t 6)) :: fI 108 (.bsl 5 [.t 107]) :: fI 4 (.mv (.t 108)) :: []) [4]) .ret)
def s_l3Gen_some_16 : SC := (.seq (.seq (.reg ( fI 96 (.mv (.t 0)) :: fI 97 (.nck (.t 96)) :: fI 98 (.fad 0 (.t 97)) :: fI 99 (.ld 1 false (.t 98)) :: eI 100 (.call fn_l30Rd_pick [.t 99, kI 2]) :: s_l3Gen_some_i12) [0, 1, 6, 101]) s_l3Gen_some_14) s_l3Gen_some_15)
def s_l3Gen_some_i17 : List Item := gT 118 112 (.bin 0 .eql (.t 117) (kI 0)) :: fI 119 (.pick (.t 112) (.t 118) (.k (.c (.bool false)))) :: fI 109 (.mv (.t 119)) :: []
def s_l3Gen_some_i18 : List Item := fI 122 (.bsl 4 [.t 121]) :: fI 123 (.bld [.int .i64 0, .str [], .sl true 4 [], .sl true 5 [], .sl true 5 []] [(0, 1, kI 7), (2, 1, .t 122)]) :: fI 124 (.bsl 5 [.t 123]) :: fI 4 (.mv (.t 124)) :: []
def s_l3Gen_some_19 : SC := (.cond (.t 109) (.seq (.reg ( fI 120 (.mv (.t 0)) :: eI 121 (.call fn_l3Gen_expr [.t 120, kI 2]) :: s_l3Gen_some_i18) [4]) .ret) .skip)
def s_l3Gen_some_20 : SC := (.cond (.t 85) (.seq (.reg ( fI 88 (.mv (.t 0)) :: eI 89 (.call fn_l3Gen_expr [.t 88, kI 3]) :: s_l3Gen_some_i11) [0, 1, 6]) s_l3Gen_some_16) (.seq (.reg ( fI 110 (.mv (.t 5)) :: fI 111 (.bin 0 .eql (.t 110) (kI 11)) :: fI 112 (.mv (.t 111)) :: gT 113 112 (.mv (.t 0)) :: gT 114 112 (.nck (.t 113)) :: gT 115 112 (.fad 0 (.t 114)) :: gT 116 112 (.ld 1 false (.t 115)) :: .e (some 117) (some (112, true)) (.call fn_l30Rd_pick [.t 116, kI 3]) :: s_l3Gen_some_i17) [0, 1, 109]) s_l3Gen_some_19))
def s_l3Gen_some_21 : SC := (.cond (.t 75) (.seq (.reg ( fI 78 (.mv (.t 0)) :: eI 79 (.call fn_l3Gen_cell [.t 78]) :: s_l3Gen_some_i8) [4]) .ret) (.seq (.reg ( fI 86 (.mv (.t 5)) :: fI 87 (.bin 0 .lss (.t 86) (kI 11)) :: fI 85 (.mv (.t 87)) :: []) [0, 1, 5, 85]) s_l3Gen_some_20))
def s_l3Gen_some_22 : SC := (.cond (.t 65) (.seq (.reg ( fI 68 (.mv (.t 0)) :: eI 69 (.call fn_l3Gen_cell [.t 68]) :: s_l3Gen_some_i7) [4]) .ret) (.seq (.reg ( fI 76 (.mv (.t 5)) :: fI 77 (.bin 0 .eql (.t 76) (kI 8)) :: fI 75 (.mv (.t 77)) :: []) [0, 1, 5, 75]) s_l3Gen_some_21))
def s_l3Gen_some_23 : SC := (.cond (.t 53) (.seq (.reg ( fI 60 (.mv (.t 0)) :: eI 61 (.call fn_l3Gen_expr [.t 60, kI 3]) :: s_l3Gen_some_i5) [4]) .ret) (.seq (.reg ( fI 66 (.mv (.t 5)) :: fI 67 (.bin 0 .eql (.t 66) (kI 7)) :: fI 65 (.mv (.t 67)) :: []) [0, 1, 5, 65]) s_l3Gen_some_22))
def s_l3Gen_some_24 : SC := (.cond (.t 45) (.seq (.reg ( fI 48 (.mv (.t 0)) :: fI 49 (.mv (.t 0)) :: eI 50 (.call fn_l3Gen_expr [.t 49, kI 3]) :: s_l3Gen_some_i4) [4]) .ret) (.seq (.reg ( fI 54 (.mv (.t 5)) :: fI 55 (.bin 0 .lss (.t 54) (kI 7)) :: fI 56 (.mv (.t 55)) :: gF 57 56 (.mv (.t 1)) :: gF 58 56 (.bin 0 .lss (.t 57) (kI 2)) :: fI 59 (.pick (.t 56) (.k (.c (.bool true))) (.t 58)) :: fI 53 (.mv (.t 59)) :: []) [0, 1, 5, 53]) s_l3Gen_some_23))
def s_l3Gen_some_25 : SC := (.cond (.t 20) (.seq (.dreg 15 [0, 1, 2, 3, 4, 5, 6, 7, 9, 8, 10, 11, 12, 13, 14] ( fI 31 (.mv (.t 0)) :: fI 32 (.nck (.t 31)) :: fI 33 (.fad 0 (.t 32)) :: fI 34 (.ld 1 false (.t 33)) :: fI 35 (.mv (.t 0)) :: fI 36 (.nck (.t 35)) :: fI 37 (.fad 2 (.t 36)) :: fI 38 (.ld 1 false (.t 37)) :: fI 40 (.mv (.t 0)) :: eI 39 (.call fn_l30Rd_of [.t 34, .t 38]) :: s_l3Gen_some_i2) [4]) .ret) (.seq (.reg ( fI 46 (.mv (.t 5)) :: fI 47 (.bin 0 .lss (.t 46) (kI 5)) :: fI 45 (.mv (.t 47)) :: []) [0, 1, 5, 45]) s_l3Gen_some_24))
def s_l3Gen_some_i26 : List Item := fI 4 (.mv (.t 127)) :: []
def s_l3Gen_some_27 : SC := (.seq (.reg ( fI 125 (.mv (.t 0)) :: fI 126 (.mv (.t 1)) :: eI 127 (.call fn_l3Gen_loop [.t 125, .t 126]) :: s_l3Gen_some_i26) [4]) .ret)
def s_l3Gen_some_28 : SC := (.seq (.block 0 (.seq (.reg ( fI 21 (.mv (.t 5)) :: fI 22 (.bin 0 .lss (.t 21) (kI 3)) :: fI 23 (.mv (.t 22)) :: gT 24 23 (.mv (.t 0)) :: gT 25 23 (.nck (.t 24)) :: gT 26 23 (.fad 2 (.t 25)) :: gT 27 23 (.ld 1 false (.t 26)) :: gT 28 23 (.len (.t 27)) :: gT 29 23 (.bin 0 .gtr (.t 28) (kI 0)) :: fI 30 (.pick (.t 23) (.t 29) (.k (.c (.bool false)))) :: fI 20 (.mv (.t 30)) :: []) [0, 1, 5, 20]) s_l3Gen_some_25)) s_l3Gen_some_27)
def s_l3Gen_some_29 : SC := (.seq (.reg ( fI 15 (.mv (.t 0)) :: fI 16 (.nck (.t 15)) :: fI 17 (.fad 0 (.t 16)) :: fI 18 (.ld 1 false (.t 17)) :: eI 19 (.call fn_l30Rd_pick [.t 18, kI 13]) :: s_l3Gen_some_i0) [0, 1, 5]) s_l3Gen_some_28)
def s_l3Gen_some_30 : SC := (.seq (.reg ( fI 7 (.mv (.t 0)) :: fI 8 (.mv (.t 0)) :: fI 9 (.nck (.t 8)) :: fI 10 (.fad 4 (.t 9)) :: fI 11 (.ld 1 false (.t 10)) :: fI 12 (.bin 0 .sub (.t 11) (kI 1)) :: fI 13 (.nck (.t 7)) :: fI 14 (.fad 4 (.t 13)) :: .e none none (.sto 1 (.t 14) (.t 12)) :: []) [0, 1]) s_l3Gen_some_29)
def s_l3Gen_some : SC := (.seq (.reg ( fI 4 (.mv (.k (.c (.sl true 5 [])))) :: []) [0, 1]) s_l3Gen_some_30)
def r_l3Gen_some : List RS := [.tmp 4]
theorem m_l3Gen_some : mFn prog fn_l3Gen_some 2 128 s_l3Gen_some r_l3Gen_some = true := by kernel_rfl
def s_l2Expr_i0 : List Item := gF 13 10 (.bin 0 .eql (.t 12) (kI 0)) :: fI 14 (.pick (.t 10) (.k (.c (.bool true))) (.t 13)) :: []
def s_l2Expr_i1 : List Item := .e none none (.sto 4 (.t 6) (.t 17)) :: []
def s_l2Expr_2 : SC := (.cond (.t 14) (.seq (.reg ( fI 15 (.mv (.t 0)) :: fI 16 (.mv (.t 1)) :: eI 17 (.call fn_l2Leaf [.t 15, .t 16]) :: s_l2Expr_i1) [6]) .ret) .skip)
def s_l2Expr_i3 : List Item := fI 20 (.bin 0 .eql (.t 19) (kI 0)) :: []
def s_l2Expr_i4 : List Item := fI 29 (.bsl 4 [.t 28]) :: fI 30 (.bld [.int .i64 0, .int .i64 0, .str [], .sl true 4 []] [(0, 1, .t 23), (3, 1, .t 29)]) :: .e none none (.sto 4 (.t 6) (.t 30)) :: []
def s_l2Expr_i5 : List Item := fI 24 (.mv (.t 0)) :: fI 25 (.mv (.t 1)) :: fI 26 (.mv (.t 2)) :: fI 27 (.bin 0 .sub (.t 26) (kI 1)) :: eI 28 (.call fn_l2Expr [.t 24, .t 25, .t 27]) :: s_l2Expr_i4
def s_l2Expr_6 : SC := (.cond (.t 20) (.seq (.reg ( fI 21 (.mv (.t 0)) :: fI 22 (.bsl 1 [kI 11, kI 12, kI 11]) :: eI 23 (.call fn_l30Rd_num [.t 21, .t 22]) :: s_l2Expr_i5) [6]) .ret) .skip)
def s_l2Expr_i7 : List Item := fI 7 (.mv (.t 33)) :: []
def s_l2Expr_i8 : List Item := fI 45 (.bsl 4 [.t 39, .t 44]) :: fI 46 (.bld [.int .i64 0, .int .i64 0, .str [], .sl true 4 []] [(0, 1, .t 34), (3, 1, .t 45)]) :: .e none none (.sto 4 (.t 6) (.t 46)) :: []
def s_l2Expr_i9 : List Item := fI 40 (.mv (.t 0)) :: fI 41 (.mv (.t 1)) :: fI 42 (.mv (.t 2)) :: fI 43 (.bin 0 .sub (.t 42) (kI 1)) :: eI 44 (.call fn_l2Expr [.t 40, .t 41, .t 43]) :: s_l2Expr_i8
def s_l2Expr_10 : SC := (.seq (.reg ( fI 34 (.mv (.t 7)) :: fI 35 (.mv (.t 0)) :: fI 36 (.mv (.t 1)) :: fI 37 (.mv (.t 2)) :: fI 38 (.bin 0 .sub (.t 37) (kI 1)) :: eI 39 (.call fn_l2Expr [.t 35, .t 36, .t 38]) :: s_l2Expr_i9) [6]) .ret)
def s_l2Expr_11 : SC := (.seq (.reg ( fI 31 (.mv (.t 0)) :: fI 32 (.bsl 1 [kI 3, kI 3, kI 4, kI 5, kI 6, kI 7, kI 8, kI 9, kI 10]) :: eI 33 (.call fn_l30Rd_num [.t 31, .t 32]) :: s_l2Expr_i7) [0, 1, 2, 6, 7]) s_l2Expr_10)
def s_l2Expr_12 : SC := (.seq (.seq (.reg ( fI 18 (.mv (.t 0)) :: eI 19 (.call fn_l30Rd_pick [.t 18, kI 7]) :: s_l2Expr_i3) [0, 1, 2, 6, 20]) s_l2Expr_6) s_l2Expr_11)
def s_l2Expr_13 : SC := (.seq (.seq (.reg ( fI 8 (.mv (.t 2)) :: fI 9 (.bin 0 .lss (.t 8) (kI 2)) :: fI 10 (.mv (.t 9)) :: gF 11 10 (.mv (.t 0)) :: .e (some 12) (some (10, false)) (.call fn_l30Rd_pick [.t 11, kI 4]) :: s_l2Expr_i0) [0, 1, 2, 6, 14]) s_l2Expr_2) s_l2Expr_12)
def s_l2Expr : SC := (.seq (.reg ( eI 6 (.alloc [.int .i64 0, .int .i64 0, .str [], .sl true 4 []]) :: []) [0, 1, 2, 6]) s_l2Expr_13)
def r_l2Expr : List RS := [.cell 6 4 true]
theorem m_l2Expr : mFn prog fn_l2Expr 3 47 s_l2Expr r_l2Expr = true := by kernel_rfl
def s_sp_IsName_i0 : List Item := gT 13 10 (.not (.t 12)) :: fI 14 (.pick (.t 10) (.t 13) (.k (.c (.bool false)))) :: fI 2 (.mv (.t 14)) :: []
def s_sp_IsName_i1 : List Item := fI 5 (.mv (.t 4)) :: gT 6 5 (.mv (.t 0)) :: gT 7 5 (.lens (.t 6)) :: gT 8 5 (.bin 0 .leq (.t 7) (kI 4)) :: fI 9 (.pick (.t 5) (.t 8) (.k (.c (.bool false)))) :: fI 10 (.mv (.t 9)) :: gT 11 10 (.mv (.t 0)) :: .e (some 12) (some (10, true)) (.call fn_l1Key [.t 11]) :: s_sp_IsName_i0
def s_sp_IsName_2 : SC := (.seq (.reg ( fI 3 (.mv (.t 0)) :: eI 4 (.call fn_l1All [.t 3, kI 1]) :: s_sp_IsName_i1) [2]) .ret)
def s_sp_IsName : SC := (.seq (.reg ( fI 2 (.mv (.k (.c (.bool false)))) :: []) [0]) s_sp_IsName_2)
def r_sp_IsName : List RS := [.tmp 2]
theorem m_sp_IsName : mFn prog fn_sp_IsName 1 15 s_sp_IsName r_sp_IsName = true := by kernel_rfl
def s_l3Stmts_i0 : List Item := fI 18 (.not (.t 17)) :: []
def s_l3Stmts_1 : SC := (.cond (.t 18) (.seq (.reg ( fI 4 (.mv (.k (.c (.bool false)))) :: []) [4]) .ret) .skip)
def s_l3Stmts_2 : SC := (.reg ( fI 10 (.mv (.t 5)) :: fI 11 (.bin 0 .add (.t 10) (kI 1)) :: fI 5 (.mv (.t 11)) :: []) [0, 1, 5])
def s_l3Stmts_3 : SC := (.seq (.block 1 (.seq (.reg ( fI 12 (.mv (.t 0)) :: fI 13 (.mv (.t 5)) :: fI 14 (.iad 5 (.t 12) (.t 13)) :: fI 15 (.ld 5 true (.t 14)) :: fI 16 (.mv (.t 1)) :: eI 17 (.call fn_l3Stmt [.t 15, .t 16]) :: s_l3Stmts_i0) [0, 1, 5, 18]) s_l3Stmts_1)) s_l3Stmts_2)
def s_l3Stmts_l4 : SC := (.seq (.seq (.reg ( fI 6 (.mv (.t 5)) :: fI 7 (.mv (.t 0)) :: fI 8 (.len (.t 7)) :: fI 9 (.bin 0 .lss (.t 6) (.t 8)) :: []) [0, 1, 5, 9]) (.cond (.t 9) .skip (.exit 0))) s_l3Stmts_3)
def s_l3Stmts_5 : SC := (.seq (.reg ( fI 4 (.mv (.k (.c (.bool true)))) :: []) [4]) .ret)
def s_l3Stmts_6 : SC := (.seq (.seq (.reg ( fI 5 (.mv (kI 0)) :: []) [0, 1, 5]) (.block 0 (.loop s_l3Stmts_l4))) s_l3Stmts_5)
def s_l3Stmts : SC := (.seq (.reg ( fI 4 (.mv (.k (.c (.bool false)))) :: []) [0, 1]) s_l3Stmts_6)
def r_l3Stmts : List RS := [.tmp 4]
theorem m_l3Stmts : mFn prog fn_l3Stmts 2 19 s_l3Stmts r_l3Stmts = true := by kernel_rfl
def s_l3Count_i0 : List Item := fI 27 (.bin 0 .add (.t 20) (.t 26)) :: fI 3 (.mv (.t 27)) :: []
def s_l3Count_i1 : List Item := .chk 23 none (.iad 5 (.t 21) (.t 22)) :: .chk 25 none (.ld 1 false (.t 24)) :: fI 20 (.bin 0 .add (.t 13) (.t 19)) :: eI 26 (.call fn_l3Count [.t 25]) :: s_l3Count_i0
def s_l3Count_2 : SC := (.reg ( fI 11 (.mv (.t 4)) :: fI 12 (.bin 0 .add (.t 11) (kI 1)) :: fI 4 (.mv (.t 12)) :: []) [0, 3, 4])
def s_l3Count_3 : SC := (.seq (.block 1 (.dreg 16 [0, 1, 2, 3, 4, 5, 8, 9, 10, 11, 12, 6, 10, 12, 7, 13, 14, 15] ( fI 13 (.mv (.t 3)) :: fI 14 (.mv (.t 0)) :: fI 15 (.mv (.t 4)) :: fI 16 (.iad 5 (.t 14) (.t 15)) :: fI 17 (.fad 3 (.t 16)) :: fI 18 (.ld 1 false (.t 17)) :: fI 21 (.mv (.t 0)) :: fI 22 (.mv (.t 4)) :: fI 23 (.iad 5 (.t 21) (.t 22)) :: fI 24 (.fad 4 (.t 23)) :: fI 25 (.ld 1 false (.t 24)) :: eI 19 (.call fn_l3Count [.t 18]) :: s_l3Count_i1) [0, 3, 4])) s_l3Count_2)
def s_l3Count_l4 : SC := (.seq (.seq (.reg ( fI 7 (.mv (.t 4)) :: fI 8 (.mv (.t 0)) :: fI 9 (.len (.t 8)) :: fI 10 (.bin 0 .lss (.t 7) (.t 9)) :: []) [0, 3, 4, 10]) (.cond (.t 10) .skip (.exit 0))) s_l3Count_3)
def s_l3Count_5 : SC := (.seq (.reg ( fI 28 (.mv (.t 3)) :: fI 2 (.mv (.t 28)) :: []) [2]) .ret)
def s_l3Count_6 : SC := (.seq (.seq (.reg ( fI 4 (.mv (kI 0)) :: []) [0, 3, 4]) (.block 0 (.loop s_l3Count_l4))) s_l3Count_5)
def s_l3Count_7 : SC := (.seq (.reg ( fI 5 (.mv (.t 0)) :: fI 6 (.len (.t 5)) :: fI 3 (.mv (.t 6)) :: []) [0, 3]) s_l3Count_6)
def s_l3Count : SC := (.seq (.reg ( fI 2 (.mv (kI 0)) :: []) [0]) s_l3Count_7)
def r_l3Count : List RS := [.tmp 2]
theorem m_l3Count : mFn prog fn_l3Count 1 29 s_l3Count r_l3Count = true := by kernel_rfl
def s_l9Low_loop_i0 : List Item := fI 4 (.mv (.t 9)) :: []
def s_l9Low_loop_i1 : List Item := fI 5 (.mv (.t 11)) :: []
def s_l9Low_loop_i2 : List Item := fI 6 (.mv (.t 13)) :: []
def s_l9Low_loop_i3 : List Item := fI 7 (.mv (.t 24)) :: []
def s_l9Low_loop_4 : SC := (.reg ( fI 36 (.mv (.t 0)) :: fI 37 (.mv (.t 4)) :: fI 38 (.bsl 1 [.t 37]) :: fI 39 (.mv (.t 6)) :: eI 40 (.call fn_l9Low_jump [.t 36, kI 1, kI 0, .t 38, .t 39]) :: []) [])
def s_l9Low_loop_5 : SC := (.seq (.reg ( fI 32 (.mv (.t 0)) :: fI 33 (.fad 3 (.t 3)) :: fI 34 (.ld 1 false (.t 33)) :: eI 35 (.call fn_l9Low_stmts [.t 32, .t 34]) :: []) [0, 4, 6]) s_l9Low_loop_4)
def s_l9Low_loop_6 : SC := (.seq (.reg ( fI 25 (.mv (.t 0)) :: fI 26 (.mv (.t 7)) :: fI 27 (.mv (.t 5)) :: fI 28 (.mv (.t 6)) :: fI 29 (.bsl 1 [.t 27, .t 28]) :: fI 30 (.mv (.t 5)) :: eI 31 (.call fn_l9Low_jump [.t 25, kI 2, .t 26, .t 29, .t 30]) :: []) [0, 3, 4, 6]) s_l9Low_loop_5)
def s_l9Low_loop_7 : SC := (.seq (.reg ( fI 19 (.mv (.t 0)) :: fI 20 (.fad 2 (.t 3)) :: fI 21 (.ld 1 false (.t 20)) :: fI 22 (.iad 4 (.t 21) (kI 0)) :: fI 23 (.ld 4 true (.t 22)) :: eI 24 (.call fn_l9Low_expr [.t 19, .t 23]) :: s_l9Low_loop_i3) [0, 3, 4, 5, 6, 7]) s_l9Low_loop_6)
def s_l9Low_loop_8 : SC := (.seq (.reg ( fI 14 (.mv (.t 0)) :: fI 15 (.mv (.t 4)) :: fI 16 (.bsl 1 [.t 15]) :: fI 17 (.mv (.t 4)) :: eI 18 (.call fn_l9Low_jump [.t 14, kI 1, kI 0, .t 16, .t 17]) :: []) [0, 3, 4, 5, 6]) s_l9Low_loop_7)
def s_l9Low_loop_9 : SC := (.seq (.reg ( fI 12 (.mv (.t 0)) :: eI 13 (.call fn_l9Low_block [.t 12]) :: s_l9Low_loop_i2) [0, 3, 4, 5, 6]) s_l9Low_loop_8)
def s_l9Low_loop_10 : SC := (.seq (.reg ( fI 10 (.mv (.t 0)) :: eI 11 (.call fn_l9Low_block [.t 10]) :: s_l9Low_loop_i1) [0, 3, 4, 5]) s_l9Low_loop_9)
def s_l9Low_loop_11 : SC := (.seq (.reg ( fI 8 (.mv (.t 0)) :: eI 9 (.call fn_l9Low_block [.t 8]) :: s_l9Low_loop_i0) [0, 3, 4]) s_l9Low_loop_10)
def s_l9Low_loop : SC := (.seq (.reg ( fI 3 (.box (.t 1)) :: []) [0, 3]) s_l9Low_loop_11)
def r_l9Low_loop : List RS := []
theorem m_l9Low_loop : mFn prog fn_l9Low_loop 2 41 s_l9Low_loop r_l9Low_loop = true := by kernel_rfl
def s_l9Low_expr_i0 : List Item := fI 4 (.mv (.t 17)) :: []
def s_l9Low_expr_i1 : List Item := .chk 15 none (.ld 1 false (.t 14)) :: eI 17 (.call fn_l9Low_put [.t 11, kI 1, .t 13, .t 15, .t 16]) :: s_l9Low_expr_i0
def s_l9Low_expr_i2 : List Item := fI 4 (.mv (.t 23)) :: []
def s_l9Low_expr_i3 : List Item := fI 4 (.mv (.t 28)) :: []
def s_l9Low_expr_4 : SC := (.cond (.t 24) (.seq (.reg ( fI 26 (.mv (.t 0)) :: fI 27 (.ld 4 true (.t 3)) :: eI 28 (.call fn_l9Low_and [.t 26, .t 27]) :: s_l9Low_expr_i3) [4]) .ret) .skip)
def s_l9Low_expr_5 : SC := (.cond (.t 18) (.seq (.reg ( fI 20 (.mv (.t 0)) :: fI 21 (.fad 2 (.t 3)) :: fI 22 (.ld 1 false (.t 21)) :: eI 23 (.call fn_l9Low_reg [.t 20, .t 22]) :: s_l9Low_expr_i2) [4]) .ret) (.seq (.reg ( fI 25 (.bin 0 .eql (.t 8) (kI 10)) :: fI 24 (.mv (.t 25)) :: []) [0, 3, 24]) s_l9Low_expr_4))
def s_l9Low_expr_6 : SC := (.cond (.t 9) (.seq (.dreg 8 [0, 1, 3, 4, 5, 2, 4, 6, 7] ( fI 11 (.mv (.t 0)) :: fI 12 (.mv (.t 0)) :: fI 14 (.fad 1 (.t 3)) :: fI 15 (.ld 1 false (.t 14)) :: fI 16 (.bsl 1 []) :: eI 13 (.call fn_l9Low_fresh [.t 12]) :: s_l9Low_expr_i1) [4]) .ret) (.seq (.reg ( fI 19 (.bin 0 .eql (.t 8) (kI 2)) :: fI 18 (.mv (.t 19)) :: []) [0, 3, 8, 18]) s_l9Low_expr_5))
def s_l9Low_expr_7 : SC := (.block 0 (.seq (.reg ( fI 10 (.bin 0 .eql (.t 8) (kI 1)) :: fI 9 (.mv (.t 10)) :: []) [0, 3, 8, 9]) s_l9Low_expr_6))
def s_l9Low_expr_i8 : List Item := fI 5 (.mv (.t 46)) :: []
def s_l9Low_expr_i9 : List Item := fI 45 (.bsl 1 [.t 44]) :: eI 46 (.app 1 (.t 37) (.t 45)) :: s_l9Low_expr_i8
def s_l9Low_expr_10 : SC := (.reg ( fI 35 (.mv (.t 6)) :: fI 36 (.bin 0 .add (.t 35) (kI 1)) :: fI 6 (.mv (.t 36)) :: []) [0, 3, 5, 6])
def s_l9Low_expr_11 : SC := (.seq (.block 2 (.reg ( fI 37 (.mv (.t 5)) :: fI 38 (.mv (.t 0)) :: fI 39 (.fad 3 (.t 3)) :: fI 40 (.ld 1 false (.t 39)) :: fI 41 (.mv (.t 6)) :: fI 42 (.iad 4 (.t 40) (.t 41)) :: fI 43 (.ld 4 true (.t 42)) :: eI 44 (.call fn_l9Low_expr [.t 38, .t 43]) :: s_l9Low_expr_i9) [0, 3, 5, 6])) s_l9Low_expr_10)
def s_l9Low_expr_l12 : SC := (.seq (.seq (.reg ( fI 30 (.mv (.t 6)) :: fI 31 (.fad 3 (.t 3)) :: fI 32 (.ld 1 false (.t 31)) :: fI 33 (.len (.t 32)) :: fI 34 (.bin 0 .lss (.t 30) (.t 33)) :: []) [0, 3, 5, 6, 34]) (.cond (.t 34) .skip (.exit 1))) s_l9Low_expr_11)
def s_l9Low_expr_i13 : List Item := fI 4 (.mv (.t 55)) :: []
def s_l9Low_expr_i14 : List Item := fI 54 (.mv (.t 5)) :: eI 55 (.call fn_l9Low_put [.t 51, kI 10, .t 53, kI 0, .t 54]) :: s_l9Low_expr_i13
def s_l9Low_expr_i15 : List Item := fI 4 (.mv (.t 62)) :: []
def s_l9Low_expr_i16 : List Item := fI 61 (.mv (.t 5)) :: eI 62 (.call fn_l9Low_put [.t 58, kI 11, .t 60, kI 0, .t 61]) :: s_l9Low_expr_i15
def s_l9Low_expr_i17 : List Item := fI 4 (.mv (.t 76)) :: []
def s_l9Low_expr_i18 : List Item := eI 76 (.call fn_l9Low_put [.t 65, kI 14, .t 67, .t 74, .t 75]) :: s_l9Low_expr_i17
def s_l9Low_expr_i19 : List Item := .chk 71 none (.ld 1 true (.t 70)) :: .chk 73 none (.ld 1 false (.t 72)) :: eI 74 (.call fn_sp_FnAt [.t 71, .t 73]) :: s_l9Low_expr_i18
def s_l9Low_expr_20 : SC := (.cond (.t 63) (.seq (.dreg 13 [0, 1, 3, 4, 5, 6, 7, 8, 10, 2, 6, 8, 9, 11, 12] ( fI 65 (.mv (.t 0)) :: fI 66 (.mv (.t 0)) :: fI 68 (.mv (.t 0)) :: fI 69 (.nck (.t 68)) :: fI 70 (.fad 0 (.t 69)) :: fI 71 (.ld 1 true (.t 70)) :: fI 72 (.fad 2 (.t 3)) :: fI 73 (.ld 1 false (.t 72)) :: fI 75 (.mv (.t 5)) :: eI 67 (.call fn_l9Low_fresh [.t 66]) :: s_l9Low_expr_i19) [4]) .ret) .skip)
def s_l9Low_expr_21 : SC := (.cond (.t 56) (.seq (.reg ( fI 58 (.mv (.t 0)) :: fI 59 (.mv (.t 0)) :: eI 60 (.call fn_l9Low_fresh [.t 59]) :: s_l9Low_expr_i16) [4]) .ret) (.seq (.reg ( fI 64 (.bin 0 .eql (.t 48) (kI 13)) :: fI 63 (.mv (.t 64)) :: []) [0, 3, 5, 63]) s_l9Low_expr_20))
def s_l9Low_expr_22 : SC := (.cond (.t 49) (.seq (.reg ( fI 51 (.mv (.t 0)) :: fI 52 (.mv (.t 0)) :: eI 53 (.call fn_l9Low_fresh [.t 52]) :: s_l9Low_expr_i14) [4]) .ret) (.seq (.reg ( fI 57 (.bin 0 .eql (.t 48) (kI 12)) :: fI 56 (.mv (.t 57)) :: []) [0, 3, 5, 48, 56]) s_l9Low_expr_21))
def s_l9Low_expr_23 : SC := (.block 3 (.seq (.reg ( fI 50 (.bin 0 .eql (.t 48) (kI 11)) :: fI 49 (.mv (.t 50)) :: []) [0, 3, 5, 48, 49]) s_l9Low_expr_22))
def s_l9Low_expr_i24 : List Item := fI 4 (.mv (.t 83)) :: []
def s_l9Low_expr_i25 : List Item := .chk 79 none (.ld 1 false (.t 78)) :: eI 83 (.call fn_l9Low_put [.t 77, .t 79, .t 81, kI 0, .t 82]) :: s_l9Low_expr_i24
def s_l9Low_expr_26 : SC := (.seq (.dreg 8 [0, 1, 2, 3, 5, 4, 2, 6, 7] ( fI 77 (.mv (.t 0)) :: fI 78 (.fad 0 (.t 3)) :: fI 79 (.ld 1 false (.t 78)) :: fI 80 (.mv (.t 0)) :: fI 82 (.mv (.t 5)) :: eI 81 (.call fn_l9Low_fresh [.t 80]) :: s_l9Low_expr_i25) [4]) .ret)
def s_l9Low_expr_27 : SC := (.seq (.seq (.seq .gh (.reg ( fI 47 (.fad 0 (.t 3)) :: fI 48 (.ld 1 false (.t 47)) :: []) [0, 3, 5, 48])) s_l9Low_expr_23) s_l9Low_expr_26)
def s_l9Low_expr_28 : SC := (.seq (.seq (.reg ( fI 6 (.mv (kI 0)) :: []) [0, 3, 5, 6]) (.block 1 (.loop s_l9Low_expr_l12))) s_l9Low_expr_27)
def s_l9Low_expr_29 : SC := (.seq (.reg ( fI 29 (.bsl 1 []) :: fI 5 (.mv (.t 29)) :: []) [0, 3, 5]) s_l9Low_expr_28)
def s_l9Low_expr_30 : SC := (.seq (.seq (.reg ( fI 7 (.fad 0 (.t 3)) :: fI 8 (.ld 1 false (.t 7)) :: []) [0, 3, 8]) s_l9Low_expr_7) s_l9Low_expr_29)
def s_l9Low_expr : SC := (.seq (.reg ( fI 3 (.box (.t 1)) :: fI 4 (.mv (kI 0)) :: []) [0, 3]) s_l9Low_expr_30)
def r_l9Low_expr : List RS := [.tmp 4]
theorem m_l9Low_expr : mFn prog fn_l9Low_expr 2 84 s_l9Low_expr r_l9Low_expr = true := by kernel_rfl
def s_l9Low_reg_0 : SC := (.cond (.t 25) (.seq (.reg ( fI 26 (.mv (.t 0)) :: fI 27 (.nck (.t 26)) :: fI 28 (.fad 5 (.t 27)) :: fI 29 (.ld 1 false (.t 28)) :: fI 30 (.mv (.t 5)) :: fI 31 (.iad 3 (.t 29) (.t 30)) :: fI 32 (.fad 1 (.t 31)) :: fI 33 (.ld 1 false (.t 32)) :: fI 4 (.mv (.t 33)) :: []) [4]) .ret) .skip)
def s_l9Low_reg_1 : SC := (.reg ( fI 14 (.mv (.t 5)) :: fI 15 (.bin 0 .sub (.t 14) (kI 1)) :: fI 5 (.mv (.t 15)) :: []) [0, 1, 5])
def s_l9Low_reg_2 : SC := (.seq (.block 1 (.seq (.reg ( fI 16 (.mv (.t 0)) :: fI 17 (.nck (.t 16)) :: fI 18 (.fad 5 (.t 17)) :: fI 19 (.ld 1 false (.t 18)) :: fI 20 (.mv (.t 5)) :: fI 21 (.iad 3 (.t 19) (.t 20)) :: fI 22 (.fad 0 (.t 21)) :: fI 23 (.ld 1 false (.t 22)) :: fI 24 (.mv (.t 1)) :: fI 25 (.bin 0 .eql (.t 23) (.t 24)) :: []) [0, 1, 5, 25]) s_l9Low_reg_0)) s_l9Low_reg_1)
def s_l9Low_reg_l3 : SC := (.seq (.seq (.reg ( fI 12 (.mv (.t 5)) :: fI 13 (.bin 0 .geq (.t 12) (kI 0)) :: []) [0, 1, 5, 13]) (.cond (.t 13) .skip (.exit 0))) s_l9Low_reg_2)
def s_l9Low_reg_4 : SC := (.seq (.reg ( fI 4 (.mv (kI (-1))) :: []) [4]) .ret)
def s_l9Low_reg_5 : SC := (.seq (.seq (.reg ( fI 6 (.mv (.t 0)) :: fI 7 (.nck (.t 6)) :: fI 8 (.fad 5 (.t 7)) :: fI 9 (.ld 1 false (.t 8)) :: fI 10 (.len (.t 9)) :: fI 11 (.bin 0 .sub (.t 10) (kI 1)) :: fI 5 (.mv (.t 11)) :: []) [0, 1, 5]) (.block 0 (.loop s_l9Low_reg_l3))) s_l9Low_reg_4)
def s_l9Low_reg : SC := (.seq (.reg ( fI 4 (.mv (kI 0)) :: []) [0, 1]) s_l9Low_reg_5)
def r_l9Low_reg : List RS := [.tmp 4]
theorem m_l9Low_reg : mFn prog fn_l9Low_reg 2 34 s_l9Low_reg r_l9Low_reg = true := by kernel_rfl
def s_l30Rd_of_i0 : List Item := fI 10 (.iad 1 (.t 5) (.t 9)) :: fI 11 (.ld 1 false (.t 10)) :: fI 4 (.mv (.t 11)) :: []
def s_l30Rd_of_1 : SC := (.seq (.reg ( fI 5 (.mv (.t 1)) :: fI 6 (.mv (.t 0)) :: fI 7 (.mv (.t 1)) :: fI 8 (.len (.t 7)) :: eI 9 (.call fn_l30Rd_pick [.t 6, .t 8]) :: s_l30Rd_of_i0) [4]) .ret)
def s_l30Rd_of : SC := (.seq (.reg ( fI 4 (.mv (.k (.c (.str [])))) :: []) [0, 1]) s_l30Rd_of_1)
def r_l30Rd_of : List RS := [.tmp 4]
theorem m_l30Rd_of : mFn prog fn_l30Rd_of 2 12 s_l30Rd_of r_l30Rd_of = true := by kernel_rfl
def s_l3Gen_let_i0 : List Item := fI 5 (.mv (.t 7)) :: []
def s_l3Gen_let_i1 : List Item := fI 18 (.nck (.t 8)) :: fI 19 (.fad 2 (.t 18)) :: .e none none (.sto 1 (.t 19) (.t 17)) :: []
def s_l3Gen_let_i2 : List Item := fI 15 (.mv (.t 5)) :: fI 16 (.bsl 1 [.t 15]) :: eI 17 (.app 1 (.t 14) (.t 16)) :: s_l3Gen_let_i1
def s_l3Gen_let_3 : SC := (.seq (.reg ( fI 20 (.mv (.t 5)) :: fI 21 (.ld 4 true (.t 3)) :: fI 22 (.bsl 4 [.t 21]) :: fI 23 (.bld [.int .i64 0, .str [], .sl true 4 [], .sl true 5 [], .sl true 5 []] [(0, 1, kI 1), (1, 1, .t 20), (2, 1, .t 22)]) :: .e none none (.sto 5 (.t 4) (.t 23)) :: []) [4]) .ret)
def s_l3Gen_let_4 : SC := (.seq (.reg ( fI 8 (.mv (.t 0)) :: fI 9 (.bsl 1 []) :: fI 10 (.mv (.t 0)) :: fI 11 (.nck (.t 10)) :: fI 12 (.fad 2 (.t 11)) :: fI 13 (.ld 1 false (.t 12)) :: eI 14 (.app 1 (.t 9) (.t 13)) :: s_l3Gen_let_i2) [3, 4, 5]) s_l3Gen_let_3)
def s_l3Gen_let_5 : SC := (.seq (.reg ( fI 6 (.mv (.t 0)) :: eI 7 (.call fn_l3Gen_fresh [.t 6]) :: s_l3Gen_let_i0) [0, 3, 4, 5]) s_l3Gen_let_4)
def s_l3Gen_let : SC := (.seq (.reg ( fI 3 (.box (.t 1)) :: eI 4 (.alloc [.int .i64 0, .str [], .sl true 4 [], .sl true 5 [], .sl true 5 []]) :: []) [0, 3, 4]) s_l3Gen_let_5)
def r_l3Gen_let : List RS := [.cell 4 5 true]
theorem m_l3Gen_let : mFn prog fn_l3Gen_let 2 24 s_l3Gen_let r_l3Gen_let = true := by kernel_rfl
def s_l3Gen_cell_i0 : List Item := fI 11 (.bld [.int .i64 0, .int .i64 0, .str [], .sl true 4 []] [(0, 1, kI 1), (1, 1, .t 10)]) :: fI 12 (.bsl 4 [.t 4, .t 11]) :: fI 13 (.bld [.int .i64 0, .int .i64 0, .str [], .sl true 4 []] [(0, 1, kI 7), (3, 1, .t 12)]) :: .e none none (.sto 4 (.t 2) (.t 13)) :: []
def s_l3Gen_cell_i1 : List Item := .chk 8 none (.ld 1 false (.t 7)) :: eI 10 (.call fn_l30Rd_num [.t 8, .t 9]) :: s_l3Gen_cell_i0
def s_l3Gen_cell_2 : SC := (.seq (.dreg 12 [0, 2, 3, 4, 5, 6, 1, 5, 7, 8, 9, 10, 11] ( fI 3 (.mv (.t 0)) :: fI 5 (.mv (.t 0)) :: fI 6 (.nck (.t 5)) :: fI 7 (.fad 0 (.t 6)) :: fI 8 (.ld 1 false (.t 7)) :: fI 9 (.bsl 1 [kI 16, kI 16, kI 16, kI 8, kI 17, kI 0]) :: eI 4 (.call fn_l3Gen_expr [.t 3, kI 2]) :: s_l3Gen_cell_i1) [2]) .ret)
def s_l3Gen_cell : SC := (.seq (.reg ( eI 2 (.alloc [.int .i64 0, .int .i64 0, .str [], .sl true 4 []]) :: []) [0, 2]) s_l3Gen_cell_2)
def r_l3Gen_cell : List RS := [.cell 2 4 true]
theorem m_l3Gen_cell : mFn prog fn_l3Gen_cell 1 14 s_l3Gen_cell r_l3Gen_cell = true := by kernel_rfl
def s_l3Gen_loop_i0 : List Item := .e none none (.sto 5 (.t 5) (.t 17)) :: []
def s_l3Gen_loop_i1 : List Item := eI 5 (.alloc [.int .i64 0, .str [], .sl true 4 [], .sl true 5 [], .sl true 5 []]) :: s_l3Gen_loop_i0
def s_l3Gen_loop_i2 : List Item := fI 16 (.bld [.int .i64 0, .int .i64 0, .str [], .sl true 4 []] [(0, 1, kI 1), (1, 1, .t 15)]) :: eI 17 (.call fn_l3Gen_let [.t 9, .t 16]) :: s_l3Gen_loop_i1
def s_l3Gen_loop_i3 : List Item := .e none none (.sto 4 (.t 6) (.t 20)) :: []
def s_l3Gen_loop_i4 : List Item := fI 7 (.mv (.t 24)) :: []
def s_l3Gen_loop_i5 : List Item := .e none none (.sto 5 (.t 8) (.t 32)) :: []
def s_l3Gen_loop_i6 : List Item := .chk 41 none (.ld 5 true (.t 5)) :: .chk 42 none (.ld 4 true (.t 6)) :: fI 48 (.bld [.int .i64 0, .str [], .sl true 4 [], .sl true 5 [], .sl true 5 []] [(0, 1, kI 6), (2, 1, .t 43), (3, 1, .t 47)]) :: fI 49 (.bsl 5 [.t 41, .t 48]) :: fI 4 (.mv (.t 49)) :: []
def s_l3Gen_loop_7 : SC := (.seq (.dreg 10 [0, 1, 2, 3, 4, 5, 6, 0, 1, 7, 8, 9] ( fI 41 (.ld 5 true (.t 5)) :: fI 42 (.ld 4 true (.t 6)) :: fI 43 (.bsl 4 [.t 42]) :: fI 44 (.mv (.t 7)) :: fI 45 (.ld 5 true (.t 8)) :: fI 46 (.bsl 5 [.t 45]) :: eI 47 (.app 5 (.t 44) (.t 46)) :: s_l3Gen_loop_i6) [4]) .ret)
def s_l3Gen_loop_8 : SC := (.seq (.reg ( fI 33 (.mv (.t 0)) :: fI 34 (.mv (.t 0)) :: fI 35 (.nck (.t 34)) :: fI 36 (.fad 4 (.t 35)) :: fI 37 (.ld 1 false (.t 36)) :: fI 38 (.bin 0 .sub (.t 37) (kI 2)) :: fI 39 (.nck (.t 33)) :: fI 40 (.fad 4 (.t 39)) :: .e none none (.sto 1 (.t 40) (.t 38)) :: []) [5, 6, 7, 8]) s_l3Gen_loop_7)
def s_l3Gen_loop_9 : SC := (.seq (.reg ( fI 25 (.fad 1 (.t 5)) :: fI 26 (.ld 1 false (.t 25)) :: fI 27 (.ld 4 true (.t 6)) :: fI 28 (.bld [.int .i64 0, .int .i64 0, .str [], .sl true 4 []] [(0, 1, kI 1), (1, 1, kI 1)]) :: fI 29 (.bsl 4 [.t 27, .t 28]) :: fI 30 (.bld [.int .i64 0, .int .i64 0, .str [], .sl true 4 []] [(0, 1, kI 4), (3, 1, .t 29)]) :: fI 31 (.bsl 4 [.t 30]) :: fI 32 (.bld [.int .i64 0, .str [], .sl true 4 [], .sl true 5 [], .sl true 5 []] [(0, 1, kI 2), (1, 1, .t 26), (2, 1, .t 31)]) :: eI 8 (.alloc [.int .i64 0, .str [], .sl true 4 [], .sl true 5 [], .sl true 5 []]) :: s_l3Gen_loop_i5) [0, 5, 6, 7, 8]) s_l3Gen_loop_8)
def s_l3Gen_loop_10 : SC := (.seq (.reg ( fI 21 (.mv (.t 0)) :: fI 22 (.mv (.t 1)) :: fI 23 (.bin 0 .sub (.t 22) (kI 1)) :: eI 24 (.call fn_l3Gen_block [.t 21, .t 23]) :: s_l3Gen_loop_i4) [0, 5, 6, 7]) s_l3Gen_loop_9)
def s_l3Gen_loop_11 : SC := (.seq (.reg ( fI 18 (.fad 1 (.t 5)) :: fI 19 (.ld 1 false (.t 18)) :: fI 20 (.bld [.int .i64 0, .int .i64 0, .str [], .sl true 4 []] [(0, 1, kI 2), (2, 1, .t 19)]) :: eI 6 (.alloc [.int .i64 0, .int .i64 0, .str [], .sl true 4 []]) :: s_l3Gen_loop_i3) [0, 1, 5, 6]) s_l3Gen_loop_10)
def s_l3Gen_loop_12 : SC := (.seq (.reg ( fI 9 (.mv (.t 0)) :: fI 10 (.mv (.t 0)) :: fI 11 (.nck (.t 10)) :: fI 12 (.fad 0 (.t 11)) :: fI 13 (.ld 1 false (.t 12)) :: fI 14 (.bsl 1 [kI 2, kI 3, kI 1, kI 0, kI 5]) :: eI 15 (.call fn_l30Rd_num [.t 13, .t 14]) :: s_l3Gen_loop_i2) [0, 1, 5]) s_l3Gen_loop_11)
def s_l3Gen_loop : SC := (.seq (.reg ( fI 4 (.mv (.k (.c (.sl true 5 [])))) :: []) [0, 1]) s_l3Gen_loop_12)
def r_l3Gen_loop : List RS := [.tmp 4]
theorem m_l3Gen_loop : mFn prog fn_l3Gen_loop 2 50 s_l3Gen_loop r_l3Gen_loop = true := by kernel_rfl
def s_l2Leaf_i0 : List Item := gF 11 8 (.bin 0 .eql (.t 10) (kI 0)) :: fI 12 (.pick (.t 8) (.k (.c (.bool true))) (.t 11)) :: []
def s_l2Leaf_i1 : List Item := fI 16 (.bld [.int .i64 0, .int .i64 0, .str [], .sl true 4 []] [(0, 1, kI 1), (1, 1, .t 15)]) :: .e none none (.sto 4 (.t 4) (.t 16)) :: []
def s_l2Leaf_2 : SC := (.cond (.t 12) (.seq (.reg ( fI 13 (.mv (.t 0)) :: fI 14 (.bsl 1 [kI 0, kI 1, kI 2, kI 3, kI 5, kI 7, kI 15, kI 16, kI 100, kI 255]) :: eI 15 (.call fn_l30Rd_num [.t 13, .t 14]) :: s_l2Leaf_i1) [4]) .ret) .skip)
def s_l2Leaf_i3 : List Item := fI 20 (.bld [.int .i64 0, .int .i64 0, .str [], .sl true 4 []] [(0, 1, kI 2), (2, 1, .t 19)]) :: .e none none (.sto 4 (.t 4) (.t 20)) :: []
def s_l2Leaf_4 : SC := (.seq (.reg ( fI 17 (.mv (.t 0)) :: fI 18 (.mv (.t 1)) :: eI 19 (.call fn_l30Rd_of [.t 17, .t 18]) :: s_l2Leaf_i3) [4]) .ret)
def s_l2Leaf_5 : SC := (.seq (.seq (.reg ( fI 5 (.mv (.t 1)) :: fI 6 (.len (.t 5)) :: fI 7 (.bin 0 .eql (.t 6) (kI 0)) :: fI 8 (.mv (.t 7)) :: gF 9 8 (.mv (.t 0)) :: .e (some 10) (some (8, false)) (.call fn_l30Rd_pick [.t 9, kI 3]) :: s_l2Leaf_i0) [0, 1, 4, 12]) s_l2Leaf_2) s_l2Leaf_4)
def s_l2Leaf : SC := (.seq (.reg ( eI 4 (.alloc [.int .i64 0, .int .i64 0, .str [], .sl true 4 []]) :: []) [0, 1, 4]) s_l2Leaf_5)
def r_l2Leaf : List RS := [.cell 4 4 true]
theorem m_l2Leaf : mFn prog fn_l2Leaf 2 21 s_l2Leaf r_l2Leaf = true := by kernel_rfl
def s_l1All_i0 : List Item := fI 16 (.mv (.t 1)) :: fI 17 (.bin 0 .neq (.t 15) (.t 16)) :: []
def s_l1All_1 : SC := (.cond (.t 17) (.seq (.reg ( fI 4 (.mv (.k (.c (.bool false)))) :: []) [4]) .ret) .skip)
def s_l1All_2 : SC := (.reg ( fI 10 (.mv (.t 5)) :: fI 11 (.bin 0 .add (.t 10) (kI 1)) :: fI 5 (.mv (.t 11)) :: []) [0, 1, 5])
def s_l1All_3 : SC := (.seq (.block 1 (.seq (.reg ( fI 12 (.mv (.t 0)) :: fI 13 (.mv (.t 5)) :: fI 14 (.idx (.t 12) (.t 13)) :: eI 15 (.call fn_l1Class [.t 14]) :: s_l1All_i0) [0, 1, 5, 17]) s_l1All_1)) s_l1All_2)
def s_l1All_l4 : SC := (.seq (.seq (.reg ( fI 6 (.mv (.t 5)) :: fI 7 (.mv (.t 0)) :: fI 8 (.lens (.t 7)) :: fI 9 (.bin 0 .lss (.t 6) (.t 8)) :: []) [0, 1, 5, 9]) (.cond (.t 9) .skip (.exit 0))) s_l1All_3)
def s_l1All_5 : SC := (.seq (.reg ( fI 18 (.mv (.t 0)) :: fI 19 (.lens (.t 18)) :: fI 20 (.bin 0 .gtr (.t 19) (kI 0)) :: fI 4 (.mv (.t 20)) :: []) [4]) .ret)
def s_l1All_6 : SC := (.seq (.seq (.reg ( fI 5 (.mv (kI 0)) :: []) [0, 1, 5]) (.block 0 (.loop s_l1All_l4))) s_l1All_5)
def s_l1All : SC := (.seq (.reg ( fI 4 (.mv (.k (.c (.bool false)))) :: []) [0, 1]) s_l1All_6)
def r_l1All : List RS := [.tmp 4]
theorem m_l1All : mFn prog fn_l1All 2 21 s_l1All r_l1All = true := by kernel_rfl
def s_l1Key_i0 : List Item := fI 3 (.mv (.t 5)) :: []
def s_l1Key_1 : SC := (.cond (.t 17) (.seq (.reg ( fI 2 (.mv (.k (.c (.bool true)))) :: []) [2]) .ret) .skip)
def s_l1Key_2 : SC := (.reg ( fI 10 (.mv (.t 4)) :: fI 11 (.bin 0 .add (.t 10) (kI 1)) :: fI 4 (.mv (.t 11)) :: []) [0, 3, 4])
def s_l1Key_3 : SC := (.seq (.block 1 (.seq (.reg ( fI 12 (.mv (.t 3)) :: fI 13 (.mv (.t 4)) :: fI 14 (.iad 1 (.t 12) (.t 13)) :: fI 15 (.ld 1 false (.t 14)) :: fI 16 (.mv (.t 0)) :: fI 17 (.bin 0 .eql (.t 15) (.t 16)) :: []) [0, 3, 4, 17]) s_l1Key_1)) s_l1Key_2)
def s_l1Key_l4 : SC := (.seq (.seq (.reg ( fI 6 (.mv (.t 4)) :: fI 7 (.mv (.t 3)) :: fI 8 (.len (.t 7)) :: fI 9 (.bin 0 .lss (.t 6) (.t 8)) :: []) [0, 3, 4, 9]) (.cond (.t 9) .skip (.exit 0))) s_l1Key_3)
def s_l1Key_5 : SC := (.seq (.reg ( fI 2 (.mv (.k (.c (.bool false)))) :: []) [2]) .ret)
def s_l1Key_6 : SC := (.seq (.seq (.reg ( fI 4 (.mv (kI 0)) :: []) [0, 3, 4]) (.block 0 (.loop s_l1Key_l4))) s_l1Key_5)
def s_l1Key_7 : SC := (.seq (.reg ( eI 5 (.call fn_sp_KeyWords []) :: s_l1Key_i0) [0, 3]) s_l1Key_6)
def s_l1Key : SC := (.seq (.reg ( fI 2 (.mv (.k (.c (.bool false)))) :: []) [0]) s_l1Key_7)
def r_l1Key : List RS := [.tmp 2]
theorem m_l1Key : mFn prog fn_l1Key 1 18 s_l1Key r_l1Key = true := by kernel_rfl
def s_l3Stmt_i0 : List Item := .chk 17 (some (15, false)) (.ld 1 false (.t 16)) :: .chk 18 (some (15, false)) (.len (.t 17)) :: gF 22 15 (.bin 0 .neq (.t 18) (.t 21)) :: fI 23 (.pick (.t 15) (.k (.c (.bool true))) (.t 22)) :: []
def s_l3Stmt_i1 : List Item := gF 13 9 (.not (.t 12)) :: fI 14 (.pick (.t 9) (.k (.c (.bool true))) (.t 13)) :: fI 15 (.mv (.t 14)) :: gF 16 15 (.fad 2 (.t 2)) :: gF 17 15 (.ld 1 false (.t 16)) :: gF 18 15 (.len (.t 17)) :: gF 19 15 (.fad 0 (.t 2)) :: gF 20 15 (.ld 1 false (.t 19)) :: .e (some 21) (some (15, false)) (.call fn_l3Args [.t 20]) :: s_l3Stmt_i0
def s_l3Stmt_2 : SC := (.cond (.t 23) (.seq (.reg ( fI 4 (.mv (.k (.c (.bool false)))) :: []) [4]) .ret) .skip)
def s_l3Stmt_i3 : List Item := fI 36 (.bin 1 .neq (.t 32) (.t 35)) :: fI 37 (.mv (.t 36)) :: gF 38 37 (.mv (.t 5)) :: gF 39 37 (.not (.t 38)) :: gF 40 37 (.mv (.t 39)) :: gT 41 40 (.fad 1 (.t 2)) :: gT 42 40 (.ld 1 false (.t 41)) :: gT 43 40 (.bin 0 .neq (.t 42) (.k (.c (.str [])))) :: gF 44 37 (.pick (.t 40) (.t 43) (.k (.c (.bool false)))) :: fI 45 (.pick (.t 37) (.k (.c (.bool true))) (.t 44)) :: []
def s_l3Stmt_4 : SC := (.cond (.t 45) (.seq (.reg ( fI 4 (.mv (.k (.c (.bool false)))) :: []) [4]) .ret) .skip)
def s_l3Stmt_i5 : List Item := fI 59 (.not (.t 58)) :: []
def s_l3Stmt_6 : SC := (.cond (.t 59) (.seq (.reg ( fI 4 (.mv (.k (.c (.bool false)))) :: []) [4]) .ret) .skip)
def s_l3Stmt_7 : SC := (.reg ( fI 51 (.mv (.t 6)) :: fI 52 (.bin 0 .add (.t 51) (kI 1)) :: fI 6 (.mv (.t 52)) :: []) [1, 2, 6])
def s_l3Stmt_8 : SC := (.seq (.block 1 (.seq (.reg ( fI 53 (.fad 2 (.t 2)) :: fI 54 (.ld 1 false (.t 53)) :: fI 55 (.mv (.t 6)) :: fI 56 (.iad 4 (.t 54) (.t 55)) :: fI 57 (.ld 4 true (.t 56)) :: eI 58 (.call fn_sp_ExprValid [.t 57]) :: s_l3Stmt_i5) [1, 2, 6, 59]) s_l3Stmt_6)) s_l3Stmt_7)
def s_l3Stmt_l9 : SC := (.seq (.seq (.reg ( fI 46 (.mv (.t 6)) :: fI 47 (.fad 2 (.t 2)) :: fI 48 (.ld 1 false (.t 47)) :: fI 49 (.len (.t 48)) :: fI 50 (.bin 0 .lss (.t 46) (.t 49)) :: []) [1, 2, 6, 50]) (.cond (.t 50) .skip (.exit 0))) s_l3Stmt_8)
def s_l3Stmt_10 : SC := (.cond (.t 70) (.seq (.reg ( fI 4 (.mv (.k (.c (.bool false)))) :: []) [4]) .ret) .skip)
def s_l3Stmt_11 : SC := (.cond (.t 95) (.seq (.reg ( fI 4 (.mv (.k (.c (.bool false)))) :: []) [4]) .ret) .skip)
def s_l3Stmt_i12 : List Item := fI 107 (.pick (.t 101) (.t 106) (.k (.c (.bool false)))) :: fI 4 (.mv (.t 107)) :: []
def s_l3Stmt_i13 : List Item := fI 101 (.mv (.t 100)) :: gT 102 101 (.fad 4 (.t 2)) :: gT 103 101 (.ld 1 false (.t 102)) :: gT 104 101 (.mv (.t 1)) :: gT 105 101 (.bin 0 .sub (.t 104) (kI 1)) :: .e (some 106) (some (101, true)) (.call fn_l3Stmts [.t 103, .t 105]) :: s_l3Stmt_i12
def s_l3Stmt_14 : SC := (.seq (.reg ( fI 96 (.fad 3 (.t 2)) :: fI 97 (.ld 1 false (.t 96)) :: fI 98 (.mv (.t 1)) :: fI 99 (.bin 0 .sub (.t 98) (kI 1)) :: eI 100 (.call fn_l3Stmts [.t 97, .t 99]) :: s_l3Stmt_i13) [4]) .ret)
def s_l3Stmt_15 : SC := (.seq (.seq (.reg ( fI 71 (.fad 4 (.t 2)) :: fI 72 (.ld 1 false (.t 71)) :: fI 73 (.len (.t 72)) :: fI 74 (.bin 0 .gtr (.t 73) (kI 0)) :: fI 75 (.mv (.t 74)) :: gT 76 75 (.fad 0 (.t 2)) :: gT 77 75 (.ld 1 false (.t 76)) :: gT 78 75 (.bin 0 .neq (.t 77) (kI 5)) :: fI 79 (.pick (.t 75) (.t 78) (.k (.c (.bool false)))) :: fI 80 (.mv (.t 79)) :: gF 81 80 (.fad 3 (.t 2)) :: gF 82 80 (.ld 1 false (.t 81)) :: gF 83 80 (.len (.t 82)) :: gF 84 80 (.bin 0 .gtr (.t 83) (kI 0)) :: gF 85 80 (.mv (.t 84)) :: gT 86 85 (.fad 0 (.t 2)) :: gT 87 85 (.ld 1 false (.t 86)) :: gT 88 85 (.bin 0 .neq (.t 87) (kI 5)) :: gF 89 80 (.pick (.t 85) (.t 88) (.k (.c (.bool false)))) :: gF 90 80 (.mv (.t 89)) :: gT 91 90 (.fad 0 (.t 2)) :: gT 92 90 (.ld 1 false (.t 91)) :: gT 93 90 (.bin 0 .neq (.t 92) (kI 6)) :: gF 94 80 (.pick (.t 90) (.t 93) (.k (.c (.bool false)))) :: fI 95 (.pick (.t 80) (.k (.c (.bool true))) (.t 94)) :: []) [1, 2, 95]) s_l3Stmt_11) s_l3Stmt_14)
def s_l3Stmt_16 : SC := (.seq (.seq (.reg ( fI 60 (.fad 0 (.t 2)) :: fI 61 (.ld 1 false (.t 60)) :: fI 62 (.bin 0 .eql (.t 61) (kI 8)) :: fI 63 (.mv (.t 62)) :: gT 64 63 (.fad 2 (.t 2)) :: gT 65 63 (.ld 1 false (.t 64)) :: gT 66 63 (.iad 4 (.t 65) (kI 0)) :: gT 67 63 (.fad 0 (.t 66)) :: gT 68 63 (.ld 1 false (.t 67)) :: gT 69 63 (.bin 0 .neq (.t 68) (kI 13)) :: fI 70 (.pick (.t 63) (.t 69) (.k (.c (.bool false)))) :: []) [1, 2, 70]) s_l3Stmt_10) s_l3Stmt_15)
def s_l3Stmt_17 : SC := (.seq (.seq (.reg ( fI 6 (.mv (kI 0)) :: []) [1, 2, 6]) (.block 0 (.loop s_l3Stmt_l9))) s_l3Stmt_16)
def s_l3Stmt_18 : SC := (.seq (.seq (.reg ( fI 32 (.mv (.t 5)) :: fI 33 (.fad 1 (.t 2)) :: fI 34 (.ld 1 false (.t 33)) :: eI 35 (.call fn_sp_IsName [.t 34]) :: s_l3Stmt_i3) [1, 2, 45]) s_l3Stmt_4) s_l3Stmt_17)
def s_l3Stmt_19 : SC := (.seq (.reg ( fI 24 (.fad 0 (.t 2)) :: fI 25 (.ld 1 false (.t 24)) :: fI 26 (.bin 0 .eql (.t 25) (kI 1)) :: fI 27 (.mv (.t 26)) :: gF 28 27 (.fad 0 (.t 2)) :: gF 29 27 (.ld 1 false (.t 28)) :: gF 30 27 (.bin 0 .eql (.t 29) (kI 2)) :: fI 31 (.pick (.t 27) (.k (.c (.bool true))) (.t 30)) :: fI 5 (.mv (.t 31)) :: []) [1, 2, 5]) s_l3Stmt_18)
def s_l3Stmt_20 : SC := (.seq (.seq (.dreg 17 [0, 1, 2, 3, 4, 5, 6, 7, 8, 9, 10, 11, 12, 13, 14, 10, 11, 15, 16] ( fI 7 (.mv (.t 1)) :: fI 8 (.bin 0 .lss (.t 7) (kI 1)) :: fI 9 (.mv (.t 8)) :: gF 10 9 (.fad 0 (.t 2)) :: gF 11 9 (.ld 1 false (.t 10)) :: .e (some 12) (some (9, false)) (.call fn_l1In [.t 11, kI 1, kI 8]) :: s_l3Stmt_i1) [1, 2, 23]) s_l3Stmt_2) s_l3Stmt_19)
def s_l3Stmt : SC := (.seq (.reg ( fI 2 (.box (.t 0)) :: fI 4 (.mv (.k (.c (.bool false)))) :: []) [1, 2]) s_l3Stmt_20)
def r_l3Stmt : List RS := [.tmp 4]
theorem m_l3Stmt : mFn prog fn_l3Stmt 2 108 s_l3Stmt r_l3Stmt = true := by kernel_rfl
def s_l9Low_and_i0 : List Item := fI 5 (.mv (.t 16)) :: []
def s_l9Low_and_i1 : List Item := fI 6 (.mv (.t 21)) :: []
def s_l9Low_and_i2 : List Item := fI 20 (.bsl 1 []) :: eI 21 (.call fn_l9Low_put [.t 17, kI 1, .t 19, kI 0, .t 20]) :: s_l9Low_and_i1
def s_l9Low_and_i3 : List Item := fI 7 (.mv (.t 23)) :: []
def s_l9Low_and_i4 : List Item := fI 8 (.mv (.t 25)) :: []
def s_l9Low_and_i5 : List Item := fI 9 (.mv (.t 38)) :: []
def s_l9Low_and_i6 : List Item := fI 10 (.mv (.t 44)) :: []
def s_l9Low_and_i7 : List Item := fI 42 (.mv (.t 9)) :: fI 43 (.bsl 1 [.t 42]) :: eI 44 (.call fn_l9Low_put [.t 39, kI 10, .t 41, kI 0, .t 43]) :: s_l9Low_and_i6
def s_l9Low_and_8 : SC := (.seq (.reg ( fI 55 (.mv (.t 6)) :: fI 4 (.mv (.t 55)) :: []) [4]) .ret)
def s_l9Low_and_9 : SC := (.seq (.reg ( fI 50 (.mv (.t 0)) :: fI 51 (.mv (.t 8)) :: fI 52 (.bsl 1 [.t 51]) :: fI 53 (.mv (.t 8)) :: eI 54 (.call fn_l9Low_jump [.t 50, kI 1, kI 0, .t 52, .t 53]) :: []) [6]) s_l9Low_and_8)
def s_l9Low_and_10 : SC := (.seq (.reg ( fI 45 (.mv (.t 0)) :: fI 46 (.mv (.t 6)) :: fI 47 (.mv (.t 10)) :: fI 48 (.bsl 1 [.t 47]) :: eI 49 (.call fn_l9Low_put [.t 45, kI 10, .t 46, kI 0, .t 48]) :: []) [0, 6, 8]) s_l9Low_and_9)
def s_l9Low_and_11 : SC := (.seq (.reg ( fI 39 (.mv (.t 0)) :: fI 40 (.mv (.t 0)) :: eI 41 (.call fn_l9Low_fresh [.t 40]) :: s_l9Low_and_i7) [0, 6, 8, 10]) s_l9Low_and_10)
def s_l9Low_and_12 : SC := (.seq (.reg ( fI 33 (.mv (.t 0)) :: fI 34 (.fad 3 (.t 3)) :: fI 35 (.ld 1 false (.t 34)) :: fI 36 (.iad 4 (.t 35) (kI 1)) :: fI 37 (.ld 4 true (.t 36)) :: eI 38 (.call fn_l9Low_expr [.t 33, .t 37]) :: s_l9Low_and_i5) [0, 6, 8, 9]) s_l9Low_and_11)
def s_l9Low_and_13 : SC := (.seq (.reg ( fI 26 (.mv (.t 0)) :: fI 27 (.mv (.t 5)) :: fI 28 (.mv (.t 7)) :: fI 29 (.mv (.t 8)) :: fI 30 (.bsl 1 [.t 28, .t 29]) :: fI 31 (.mv (.t 7)) :: eI 32 (.call fn_l9Low_jump [.t 26, kI 2, .t 27, .t 30, .t 31]) :: []) [0, 3, 6, 8]) s_l9Low_and_12)
def s_l9Low_and_14 : SC := (.seq (.reg ( fI 24 (.mv (.t 0)) :: eI 25 (.call fn_l9Low_block [.t 24]) :: s_l9Low_and_i4) [0, 3, 5, 6, 7, 8]) s_l9Low_and_13)
def s_l9Low_and_15 : SC := (.seq (.reg ( fI 22 (.mv (.t 0)) :: eI 23 (.call fn_l9Low_block [.t 22]) :: s_l9Low_and_i3) [0, 3, 5, 6, 7]) s_l9Low_and_14)
def s_l9Low_and_16 : SC := (.seq (.reg ( fI 17 (.mv (.t 0)) :: fI 18 (.mv (.t 0)) :: eI 19 (.call fn_l9Low_fresh [.t 18]) :: s_l9Low_and_i2) [0, 3, 5, 6]) s_l9Low_and_15)
def s_l9Low_and_17 : SC := (.seq (.reg ( fI 11 (.mv (.t 0)) :: fI 12 (.fad 3 (.t 3)) :: fI 13 (.ld 1 false (.t 12)) :: fI 14 (.iad 4 (.t 13) (kI 0)) :: fI 15 (.ld 4 true (.t 14)) :: eI 16 (.call fn_l9Low_expr [.t 11, .t 15]) :: s_l9Low_and_i0) [0, 3, 5]) s_l9Low_and_16)
def s_l9Low_and : SC := (.seq (.reg ( fI 3 (.box (.t 1)) :: fI 4 (.mv (kI 0)) :: []) [0, 3]) s_l9Low_and_17)
def r_l9Low_and : List RS := [.tmp 4]
theorem m_l9Low_and : mFn prog fn_l9Low_and 2 56 s_l9Low_and r_l9Low_and = true := by kernel_rfl
def s_sp_FnAt_0 : SC := (.cond (.t 20) (.seq (.reg ( fI 21 (.mv (.t 5)) :: fI 4 (.mv (.t 21)) :: []) [4]) .ret) .skip)
def s_sp_FnAt_1 : SC := (.reg ( fI 11 (.mv (.t 5)) :: fI 12 (.bin 0 .add (.t 11) (kI 1)) :: fI 5 (.mv (.t 12)) :: []) [1, 2, 5])
def s_sp_FnAt_2 : SC := (.seq (.block 1 (.seq (.reg ( fI 13 (.fad 0 (.t 2)) :: fI 14 (.ld 1 false (.t 13)) :: fI 15 (.mv (.t 5)) :: fI 16 (.iad 3 (.t 14) (.t 15)) :: fI 17 (.fad 0 (.t 16)) :: fI 18 (.ld 1 false (.t 17)) :: fI 19 (.mv (.t 1)) :: fI 20 (.bin 0 .eql (.t 18) (.t 19)) :: []) [1, 2, 5, 20]) s_sp_FnAt_0)) s_sp_FnAt_1)
def s_sp_FnAt_l3 : SC := (.seq (.seq (.reg ( fI 6 (.mv (.t 5)) :: fI 7 (.fad 0 (.t 2)) :: fI 8 (.ld 1 false (.t 7)) :: fI 9 (.len (.t 8)) :: fI 10 (.bin 0 .lss (.t 6) (.t 9)) :: []) [1, 2, 5, 10]) (.cond (.t 10) .skip (.exit 0))) s_sp_FnAt_2)
def s_sp_FnAt_4 : SC := (.seq (.reg ( fI 4 (.mv (kI (-1))) :: []) [4]) .ret)
def s_sp_FnAt_5 : SC := (.seq (.seq (.reg ( fI 5 (.mv (kI 0)) :: []) [1, 2, 5]) (.block 0 (.loop s_sp_FnAt_l3))) s_sp_FnAt_4)
def s_sp_FnAt : SC := (.seq (.reg ( fI 2 (.box (.t 0)) :: fI 4 (.mv (kI 0)) :: []) [1, 2]) s_sp_FnAt_5)
def r_sp_FnAt : List RS := [.tmp 4]
theorem m_sp_FnAt : mFn prog fn_sp_FnAt 2 22 s_sp_FnAt r_sp_FnAt = true := by kernel_rfl
def s_l3Gen_fresh_i0 : List Item := fI 16 (.bin 0 .eql (.t 15) (kI 0)) :: fI 17 (.mv (.t 16)) :: gT 18 17 (.mv (.t 0)) :: gT 19 17 (.nck (.t 18)) :: gT 20 17 (.fad 2 (.t 19)) :: gT 21 17 (.ld 1 false (.t 20)) :: gT 22 17 (.len (.t 21)) :: gT 23 17 (.bin 0 .gtr (.t 22) (kI 0)) :: fI 24 (.pick (.t 17) (.t 23) (.k (.c (.bool false)))) :: []
def s_l3Gen_fresh_i1 : List Item := fI 2 (.mv (.t 33)) :: []
def s_l3Gen_fresh_2 : SC := (.cond (.t 24) (.seq (.dreg 10 [0, 1, 2, 3, 4, 5, 6, 7, 8, 9] ( fI 25 (.mv (.t 0)) :: fI 26 (.nck (.t 25)) :: fI 27 (.fad 0 (.t 26)) :: fI 28 (.ld 1 false (.t 27)) :: fI 29 (.mv (.t 0)) :: fI 30 (.nck (.t 29)) :: fI 31 (.fad 2 (.t 30)) :: fI 32 (.ld 1 false (.t 31)) :: eI 33 (.call fn_l30Rd_of [.t 28, .t 32]) :: s_l3Gen_fresh_i1) [2]) .ret) .skip)
def s_l3Gen_fresh_3 : SC := (.seq (.dreg 13 [0, 1, 2, 3, 4, 5, 6, 7, 8, 9, 10, 11, 12] ( fI 34 (.mv (.t 0)) :: fI 35 (.nck (.t 34)) :: fI 36 (.fad 3 (.t 35)) :: fI 37 (.ld 1 false (.t 36)) :: fI 38 (.bin 0 .rem (.t 37) (kI 24)) :: fI 39 (.mv (.t 0)) :: fI 40 (.nck (.t 39)) :: fI 41 (.fad 3 (.t 40)) :: fI 42 (.ld 1 false (.t 41)) :: fI 43 (.bin 0 .rem (.t 42) (kI 24)) :: fI 44 (.bin 0 .add (.t 43) (kI 1)) :: fI 45 (.slis (.k (.c (.str [97, 98, 99, 100, 101, 103, 104, 105, 106, 107, 108, 109, 110, 112, 113, 114, 115, 116, 117, 118, 119, 120, 121, 122]))) (some (.t 38)) (some (.t 44))) :: fI 2 (.mv (.t 45)) :: []) [2]) .ret)
def s_l3Gen_fresh_4 : SC := (.seq (.seq (.reg ( fI 11 (.mv (.t 0)) :: fI 12 (.nck (.t 11)) :: fI 13 (.fad 0 (.t 12)) :: fI 14 (.ld 1 false (.t 13)) :: eI 15 (.call fn_l30Rd_pick [.t 14, kI 9]) :: s_l3Gen_fresh_i0) [0, 24]) s_l3Gen_fresh_2) s_l3Gen_fresh_3)
def s_l3Gen_fresh_5 : SC := (.seq (.reg ( fI 3 (.mv (.t 0)) :: fI 4 (.mv (.t 0)) :: fI 5 (.nck (.t 4)) :: fI 6 (.fad 3 (.t 5)) :: fI 7 (.ld 1 false (.t 6)) :: fI 8 (.bin 0 .add (.t 7) (kI 1)) :: fI 9 (.nck (.t 3)) :: fI 10 (.fad 3 (.t 9)) :: .e none none (.sto 1 (.t 10) (.t 8)) :: []) [0]) s_l3Gen_fresh_4)
def s_l3Gen_fresh : SC := (.seq (.reg ( fI 2 (.mv (.k (.c (.str [])))) :: []) [0]) s_l3Gen_fresh_5)
def r_l3Gen_fresh : List RS := [.tmp 2]
theorem m_l3Gen_fresh : mFn prog fn_l3Gen_fresh 1 46 s_l3Gen_fresh r_l3Gen_fresh = true := by kernel_rfl
def s_l1Class_i0 : List Item := fI 20 (.bin 0 .geq (.t 19) (kI 0)) :: fI 17 (.mv (.t 20)) :: []
def s_l1Class_1 : SC := (.cond (.t 21) (.seq (.reg ( fI 2 (.mv (kI 4)) :: []) [2]) .ret) .skip)
def s_l1Class_2 : SC := (.cond (.t 17) (.seq (.reg ( fI 2 (.mv (kI 3)) :: []) [2]) .ret) (.seq (.reg ( fI 22 (.mv (.t 0)) :: fI 23 (.bin 0 .eql (.t 22) (.k (.c (.int .u8 32)))) :: fI 24 (.mv (.t 23)) :: gF 25 24 (.mv (.t 0)) :: gF 26 24 (.bin 0 .eql (.t 25) (.k (.c (.int .u8 10)))) :: fI 27 (.pick (.t 24) (.k (.c (.bool true))) (.t 26)) :: fI 21 (.mv (.t 27)) :: []) [21]) s_l1Class_1))
def s_l1Class_3 : SC := (.cond (.t 10) (.seq (.reg ( fI 2 (.mv (kI 2)) :: []) [2]) .ret) (.seq (.reg ( fI 18 (.mv (.t 0)) :: eI 19 (.call fn_l30Find [.k (.c (.str [40, 41, 123, 125, 59, 44, 43, 45, 42, 47, 37, 60, 61, 38, 33, 64])), .t 18]) :: s_l1Class_i0) [0, 17]) s_l1Class_2))
def s_l1Class_4 : SC := (.cond (.t 3) (.seq (.reg ( fI 2 (.mv (kI 1)) :: []) [2]) .ret) (.seq (.reg ( fI 11 (.mv (.t 0)) :: fI 12 (.bin 0 .geq (.t 11) (.k (.c (.int .u8 48)))) :: fI 13 (.mv (.t 12)) :: gT 14 13 (.mv (.t 0)) :: gT 15 13 (.bin 0 .leq (.t 14) (.k (.c (.int .u8 57)))) :: fI 16 (.pick (.t 13) (.t 15) (.k (.c (.bool false)))) :: fI 10 (.mv (.t 16)) :: []) [0, 10]) s_l1Class_3))
def s_l1Class_5 : SC := (.seq (.reg ( fI 2 (.mv (kI 0)) :: []) [2]) .ret)
def s_l1Class_6 : SC := (.seq (.block 0 (.seq (.reg ( fI 4 (.mv (.t 0)) :: fI 5 (.bin 0 .geq (.t 4) (.k (.c (.int .u8 97)))) :: fI 6 (.mv (.t 5)) :: gT 7 6 (.mv (.t 0)) :: gT 8 6 (.bin 0 .leq (.t 7) (.k (.c (.int .u8 122)))) :: fI 9 (.pick (.t 6) (.t 8) (.k (.c (.bool false)))) :: fI 3 (.mv (.t 9)) :: []) [0, 3]) s_l1Class_4)) s_l1Class_5)
def s_l1Class : SC := (.seq (.reg ( fI 2 (.mv (kI 0)) :: []) [0]) s_l1Class_6)
def r_l1Class : List RS := [.tmp 2]
theorem m_l1Class : mFn prog fn_l1Class 1 28 s_l1Class r_l1Class = true := by kernel_rfl
def s_sp_KeyWords_0 : SC := (.seq (.reg ( fI 1 (.bsl 1 [.k (.c (.str [102, 110])), .k (.c (.str [108, 101, 116])), .k (.c (.str [115, 97, 121])), .k (.c (.str [112, 117, 116])), .k (.c (.str [105, 102])), .k (.c (.str [101, 108, 115, 101])), .k (.c (.str [108, 111, 111, 112])), .k (.c (.str [98, 97, 99, 107])), .k (.c (.str [100, 111]))]) :: fI 0 (.mv (.t 1)) :: []) [0]) .ret)
def s_sp_KeyWords : SC := (.seq (.reg ( fI 0 (.mv (.k (.c (.sl true 1 [])))) :: []) []) s_sp_KeyWords_0)
def r_sp_KeyWords : List RS := [.tmp 0]
theorem m_sp_KeyWords : mFn prog fn_sp_KeyWords 0 2 s_sp_KeyWords r_sp_KeyWords = true := by kernel_rfl
def s_l3Args_0 : SC := (.cond (.t 4) (.seq (.reg ( fI 2 (.mv (kI 2)) :: []) [2]) .ret) .skip)
def s_l3Args_1 : SC := (.seq (.reg ( fI 2 (.mv (kI 1)) :: []) [2]) .ret)
def s_l3Args_2 : SC := (.seq (.seq (.reg ( fI 3 (.mv (.t 0)) :: fI 4 (.bin 0 .eql (.t 3) (kI 4)) :: []) [4]) s_l3Args_0) s_l3Args_1)
def s_l3Args : SC := (.seq (.reg ( fI 2 (.mv (kI 0)) :: []) [0]) s_l3Args_2)
def r_l3Args : List RS := [.tmp 2]
theorem m_l3Args : mFn prog fn_l3Args 1 5 s_l3Args r_l3Args = true := by kernel_rfl
def s_sp_ExprValid_i0 : List Item := gT 8 5 (.bin 0 .leq (.t 7) (kI 30)) :: fI 9 (.pick (.t 5) (.t 8) (.k (.c (.bool false)))) :: fI 2 (.mv (.t 9)) :: []
def s_sp_ExprValid_i1 : List Item := fI 5 (.mv (.t 4)) :: gT 6 5 (.ld 4 true (.t 1)) :: .e (some 7) (some (5, true)) (.call fn_l2Parts [.t 6]) :: s_sp_ExprValid_i0
def s_sp_ExprValid_2 : SC := (.seq (.reg ( fI 3 (.ld 4 true (.t 1)) :: eI 4 (.call fn_l2Form [.t 3, kI 6]) :: s_sp_ExprValid_i1) [2]) .ret)
def s_sp_ExprValid : SC := (.seq (.reg ( fI 1 (.box (.t 0)) :: fI 2 (.mv (.k (.c (.bool false)))) :: []) [1]) s_sp_ExprValid_2)
def r_sp_ExprValid : List RS := [.tmp 2]
theorem m_sp_ExprValid : mFn prog fn_sp_ExprValid 1 10 s_sp_ExprValid r_sp_ExprValid = true := by kernel_rfl
def s_l30Find_0 : SC := (.cond (.t 16) (.seq (.reg ( fI 17 (.mv (.t 5)) :: fI 4 (.mv (.t 17)) :: []) [4]) .ret) .skip)
def s_l30Find_1 : SC := (.reg ( fI 10 (.mv (.t 5)) :: fI 11 (.bin 0 .add (.t 10) (kI 1)) :: fI 5 (.mv (.t 11)) :: []) [0, 1, 5])
def s_l30Find_2 : SC := (.seq (.block 1 (.seq (.reg ( fI 12 (.mv (.t 0)) :: fI 13 (.mv (.t 5)) :: fI 14 (.idx (.t 12) (.t 13)) :: fI 15 (.mv (.t 1)) :: fI 16 (.bin 0 .eql (.t 14) (.t 15)) :: []) [0, 1, 5, 16]) s_l30Find_0)) s_l30Find_1)
def s_l30Find_l3 : SC := (.seq (.seq (.reg ( fI 6 (.mv (.t 5)) :: fI 7 (.mv (.t 0)) :: fI 8 (.lens (.t 7)) :: fI 9 (.bin 0 .lss (.t 6) (.t 8)) :: []) [0, 1, 5, 9]) (.cond (.t 9) .skip (.exit 0))) s_l30Find_2)
def s_l30Find_4 : SC := (.seq (.reg ( fI 4 (.mv (kI (-1))) :: []) [4]) .ret)
def s_l30Find_5 : SC := (.seq (.seq (.reg ( fI 5 (.mv (kI 0)) :: []) [0, 1, 5]) (.block 0 (.loop s_l30Find_l3))) s_l30Find_4)
def s_l30Find : SC := (.seq (.reg ( fI 4 (.mv (kI 0)) :: []) [0, 1]) s_l30Find_5)
def r_l30Find : List RS := [.tmp 4]
theorem m_l30Find : mFn prog fn_l30Find 2 18 s_l30Find r_l30Find = true := by kernel_rfl
def s_l2Form_i0 : List Item := fI 9 (.mv (.t 12)) :: fI 13 (.ext (.t 9) 0) :: fI 14 (.ext (.t 9) 1) :: fI 5 (.mv (.t 13)) :: fI 6 (.mv (.t 14)) :: []
def s_l2Form_i1 : List Item := gF 30 23 (.not (.t 29)) :: fI 31 (.pick (.t 23) (.k (.c (.bool true))) (.t 30)) :: []
def s_l2Form_i2 : List Item := gF 21 17 (.not (.t 20)) :: fI 22 (.pick (.t 17) (.k (.c (.bool true))) (.t 21)) :: fI 23 (.mv (.t 22)) :: gF 24 23 (.fad 3 (.t 2)) :: gF 25 23 (.ld 1 false (.t 24)) :: gF 26 23 (.len (.t 25)) :: gF 27 23 (.mv (.t 5)) :: gF 28 23 (.mv (.t 6)) :: .e (some 29) (some (23, false)) (.call fn_l1In [.t 26, .t 27, .t 28]) :: s_l2Form_i1
def s_l2Form_3 : SC := (.cond (.t 31) (.seq (.reg ( fI 4 (.mv (.k (.c (.bool false)))) :: []) [4]) .ret) .skip)
def s_l2Form_i4 : List Item := gF 58 54 (.not (.t 57)) :: fI 59 (.pick (.t 54) (.k (.c (.bool true))) (.t 58)) :: fI 60 (.mv (.t 59)) :: gF 61 60 (.fad 0 (.t 2)) :: gF 62 60 (.ld 1 false (.t 61)) :: gF 63 60 (.bin 0 .neq (.t 62) (kI 1)) :: gF 64 60 (.mv (.t 63)) :: gT 65 64 (.fad 1 (.t 2)) :: gT 66 64 (.ld 1 false (.t 65)) :: gT 67 64 (.bin 0 .neq (.t 66) (kI 0)) :: gF 68 60 (.pick (.t 64) (.t 67) (.k (.c (.bool false)))) :: fI 69 (.pick (.t 60) (.k (.c (.bool true))) (.t 68)) :: []
def s_l2Form_i5 : List Item := fI 44 (.bin 1 .neq (.t 40) (.t 43)) :: fI 45 (.mv (.t 44)) :: gF 46 45 (.mv (.t 7)) :: gF 47 45 (.not (.t 46)) :: gF 48 45 (.mv (.t 47)) :: gT 49 48 (.fad 2 (.t 2)) :: gT 50 48 (.ld 1 false (.t 49)) :: gT 51 48 (.bin 0 .neq (.t 50) (.k (.c (.str [])))) :: gF 52 45 (.pick (.t 48) (.t 51) (.k (.c (.bool false)))) :: fI 53 (.pick (.t 45) (.k (.c (.bool true))) (.t 52)) :: fI 54 (.mv (.t 53)) :: gF 55 54 (.fad 1 (.t 2)) :: gF 56 54 (.ld 1 false (.t 55)) :: .e (some 57) (some (54, false)) (.call fn_l1In [.t 56, kI 0, kI 255]) :: s_l2Form_i4
def s_l2Form_6 : SC := (.cond (.t 69) (.seq (.reg ( fI 4 (.mv (.k (.c (.bool false)))) :: []) [4]) .ret) .skip)
def s_l2Form_i7 : List Item := fI 85 (.not (.t 84)) :: []
def s_l2Form_8 : SC := (.cond (.t 85) (.seq (.reg ( fI 4 (.mv (.k (.c (.bool false)))) :: []) [4]) .ret) .skip)
def s_l2Form_9 : SC := (.reg ( fI 75 (.mv (.t 8)) :: fI 76 (.bin 0 .add (.t 75) (kI 1)) :: fI 8 (.mv (.t 76)) :: []) [1, 2, 8])
def s_l2Form_10 : SC := (.seq (.block 1 (.seq (.reg ( fI 77 (.fad 3 (.t 2)) :: fI 78 (.ld 1 false (.t 77)) :: fI 79 (.mv (.t 8)) :: fI 80 (.iad 4 (.t 78) (.t 79)) :: fI 81 (.ld 4 true (.t 80)) :: fI 82 (.mv (.t 1)) :: fI 83 (.bin 0 .sub (.t 82) (kI 1)) :: eI 84 (.call fn_l2Form [.t 81, .t 83]) :: s_l2Form_i7) [1, 2, 8, 85]) s_l2Form_8)) s_l2Form_9)
def s_l2Form_l11 : SC := (.seq (.seq (.reg ( fI 70 (.mv (.t 8)) :: fI 71 (.fad 3 (.t 2)) :: fI 72 (.ld 1 false (.t 71)) :: fI 73 (.len (.t 72)) :: fI 74 (.bin 0 .lss (.t 70) (.t 73)) :: []) [1, 2, 8, 74]) (.cond (.t 74) .skip (.exit 0))) s_l2Form_10)
def s_l2Form_12 : SC := (.seq (.reg ( fI 4 (.mv (.k (.c (.bool true)))) :: []) [4]) .ret)
def s_l2Form_13 : SC := (.seq (.seq (.reg ( fI 8 (.mv (kI 0)) :: []) [1, 2, 8]) (.block 0 (.loop s_l2Form_l11))) s_l2Form_12)
def s_l2Form_14 : SC := (.seq (.seq (.reg ( fI 40 (.mv (.t 7)) :: fI 41 (.fad 2 (.t 2)) :: fI 42 (.ld 1 false (.t 41)) :: eI 43 (.call fn_sp_IsName [.t 42]) :: s_l2Form_i5) [1, 2, 69]) s_l2Form_6) s_l2Form_13)
def s_l2Form_15 : SC := (.seq (.reg ( fI 32 (.fad 0 (.t 2)) :: fI 33 (.ld 1 false (.t 32)) :: fI 34 (.bin 0 .eql (.t 33) (kI 2)) :: fI 35 (.mv (.t 34)) :: gF 36 35 (.fad 0 (.t 2)) :: gF 37 35 (.ld 1 false (.t 36)) :: gF 38 35 (.bin 0 .eql (.t 37) (kI 13)) :: fI 39 (.pick (.t 35) (.k (.c (.bool true))) (.t 38)) :: fI 7 (.mv (.t 39)) :: []) [1, 2, 7]) s_l2Form_14)
def s_l2Form_16 : SC := (.seq (.seq (.reg ( fI 15 (.mv (.t 1)) :: fI 16 (.bin 0 .lss (.t 15) (kI 1)) :: fI 17 (.mv (.t 16)) :: gF 18 17 (.fad 0 (.t 2)) :: gF 19 17 (.ld 1 false (.t 18)) :: .e (some 20) (some (17, false)) (.call fn_l1In [.t 19, kI 1, kI 13]) :: s_l2Form_i2) [1, 2, 31]) s_l2Form_3) s_l2Form_15)
def s_l2Form_17 : SC := (.seq (.reg ( fI 10 (.fad 0 (.t 2)) :: fI 11 (.ld 1 false (.t 10)) :: eI 12 (.call fn_l2Kids [.t 11]) :: s_l2Form_i0) [1, 2, 5, 6]) s_l2Form_16)
def s_l2Form : SC := (.seq (.reg ( fI 2 (.box (.t 0)) :: fI 4 (.mv (.k (.c (.bool false)))) :: []) [1, 2]) s_l2Form_17)
def r_l2Form : List RS := [.tmp 4]
theorem m_l2Form : mFn prog fn_l2Form 2 86 s_l2Form r_l2Form = true := by kernel_rfl
def s_l2Parts_i0 : List Item := fI 19 (.bin 0 .add (.t 12) (.t 18)) :: fI 3 (.mv (.t 19)) :: []
def s_l2Parts_1 : SC := (.reg ( fI 10 (.mv (.t 4)) :: fI 11 (.bin 0 .add (.t 10) (kI 1)) :: fI 4 (.mv (.t 11)) :: []) [1, 3, 4])
def s_l2Parts_2 : SC := (.seq (.block 1 (.reg ( fI 12 (.mv (.t 3)) :: fI 13 (.fad 3 (.t 1)) :: fI 14 (.ld 1 false (.t 13)) :: fI 15 (.mv (.t 4)) :: fI 16 (.iad 4 (.t 14) (.t 15)) :: fI 17 (.ld 4 true (.t 16)) :: eI 18 (.call fn_l2Parts [.t 17]) :: s_l2Parts_i0) [1, 3, 4])) s_l2Parts_1)
def s_l2Parts_l3 : SC := (.seq (.seq (.reg ( fI 5 (.mv (.t 4)) :: fI 6 (.fad 3 (.t 1)) :: fI 7 (.ld 1 false (.t 6)) :: fI 8 (.len (.t 7)) :: fI 9 (.bin 0 .lss (.t 5) (.t 8)) :: []) [1, 3, 4, 9]) (.cond (.t 9) .skip (.exit 0))) s_l2Parts_2)
def s_l2Parts_4 : SC := (.seq (.reg ( fI 20 (.mv (.t 3)) :: fI 2 (.mv (.t 20)) :: []) [2]) .ret)
def s_l2Parts_5 : SC := (.seq (.seq (.reg ( fI 4 (.mv (kI 0)) :: []) [1, 3, 4]) (.block 0 (.loop s_l2Parts_l3))) s_l2Parts_4)
def s_l2Parts_6 : SC := (.seq (.reg ( fI 3 (.mv (kI 1)) :: []) [1, 3]) s_l2Parts_5)
def s_l2Parts : SC := (.seq (.reg ( fI 1 (.box (.t 0)) :: fI 2 (.mv (kI 0)) :: []) [1]) s_l2Parts_6)
def r_l2Parts : List RS := [.tmp 2]
theorem m_l2Parts : mFn prog fn_l2Parts 1 21 s_l2Parts r_l2Parts = true := by kernel_rfl
def s_l2Kids_0 : SC := (.cond (.t 5) .skip (.reg ( fI 7 (.bin 0 .eql (.t 4) (kI 2)) :: fI 5 (.mv (.t 7)) :: []) [4, 5]))
def s_l2Kids_1 : SC := (.cond (.t 8) .skip (.reg ( fI 10 (.bin 0 .eql (.t 4) (kI 12)) :: fI 8 (.mv (.t 10)) :: []) [4, 8]))
def s_l2Kids_2 : SC := (.cond (.t 11) (.seq (.reg ( fI 2 (.mv (kI 0)) :: fI 3 (.mv (kI 3)) :: []) [2, 3]) .ret) .skip)
def s_l2Kids_3 : SC := (.cond (.t 8) (.seq (.reg ( fI 2 (.mv (kI 1)) :: fI 3 (.mv (kI 1)) :: []) [2, 3]) .ret) (.seq (.reg ( fI 12 (.bin 0 .eql (.t 4) (kI 13)) :: fI 11 (.mv (.t 12)) :: []) [11]) s_l2Kids_2))
def s_l2Kids_4 : SC := (.cond (.t 5) (.seq (.reg ( fI 2 (.mv (kI 0)) :: fI 3 (.mv (kI 0)) :: []) [2, 3]) .ret) (.seq (.seq (.reg ( fI 9 (.bin 0 .eql (.t 4) (kI 11)) :: fI 8 (.mv (.t 9)) :: []) [4, 8]) s_l2Kids_1) s_l2Kids_3))
def s_l2Kids_5 : SC := (.block 0 (.seq (.seq (.reg ( fI 6 (.bin 0 .eql (.t 4) (kI 1)) :: fI 5 (.mv (.t 6)) :: []) [4, 5]) s_l2Kids_0) s_l2Kids_4))
def s_l2Kids_6 : SC := (.seq (.reg ( fI 2 (.mv (kI 2)) :: fI 3 (.mv (kI 2)) :: []) [2, 3]) .ret)
def s_l2Kids_7 : SC := (.seq (.seq (.reg ( fI 4 (.mv (.t 0)) :: []) [4]) s_l2Kids_5) s_l2Kids_6)
def s_l2Kids : SC := (.seq (.reg ( fI 2 (.mv (kI 0)) :: fI 3 (.mv (kI 0)) :: []) [0]) s_l2Kids_7)
def r_l2Kids : List RS := [.tmp 2, .tmp 3]
theorem m_l2Kids : mFn prog fn_l2Kids 1 13 s_l2Kids r_l2Kids = true := by kernel_rfl
end Go.AE.Y

namespace Go.AE.Y
open Go.Proofs.Tryz
def s_im_LoopBody_i0 : List Item := fI 5 (.mv (.t 7)) :: []
def s_im_LoopBody_i1 : List Item := gF 15 10 (.not (.t 14)) :: fI 16 (.pick (.t 10) (.k (.c (.bool true))) (.t 15)) :: []
def s_im_LoopBody_i2 : List Item := gF 13 10 (.mv (.t 1)) :: .e (some 14) (some (10, false)) (.call fn_sl_Contains [.t 12, .t 13]) :: s_im_LoopBody_i1
def s_im_LoopBody_3 : SC := (.cond (.t 16) (.seq (.reg ( fI 4 (.mv (.k (.c (.sl true 1 [])))) :: []) [4]) .ret) .skip)
def s_im_LoopBody_i4 : List Item := fI 4 (.mv (.t 19)) :: []
def s_im_LoopBody_5 : SC := (.seq (.reg ( fI 17 (.mv (.t 5)) :: fI 18 (.mv (.t 1)) :: eI 19 (.call fn_im_doms_body [.t 17, .t 18]) :: s_im_LoopBody_i4) [4]) .ret)
def s_im_LoopBody_6 : SC := (.seq (.seq (.reg ( fI 8 (.mv (.t 5)) :: fI 9 (.bin 2 .eql (.t 8) (.k (.c .pnil))) :: fI 10 (.mv (.t 9)) :: gF 11 10 (.mv (.t 5)) :: .e (some 12) (some (10, false)) (.call fn_im_doms_heads [.t 11]) :: s_im_LoopBody_i2) [1, 5, 16]) s_im_LoopBody_3) s_im_LoopBody_5)
def s_im_LoopBody_7 : SC := (.seq (.reg ( fI 6 (.ld 3 true (.t 2)) :: eI 7 (.call fn_im_domsOf [.t 6]) :: s_im_LoopBody_i0) [1, 5]) s_im_LoopBody_6)
def s_im_LoopBody : SC := (.seq (.reg ( fI 2 (.box (.t 0)) :: fI 4 (.mv (.k (.c (.sl true 1 [])))) :: []) [1, 2]) s_im_LoopBody_7)
def r_im_LoopBody : List RS := [.tmp 4]
theorem m_im_LoopBody : mFn prog fn_im_LoopBody 2 20 s_im_LoopBody r_im_LoopBody = true := by kernel_rfl
def s_sp_LoopBody_i0 : List Item := fI 9 (.bin 0 .lss (.t 8) (kI 0)) :: []
def s_sp_LoopBody_i1 : List Item := fI 7 (.mv (.t 1)) :: eI 8 (.call fn_l10At [.t 6, .t 7]) :: s_sp_LoopBody_i0
def s_sp_LoopBody_2 : SC := (.cond (.t 9) (.seq (.reg ( fI 10 (.bsl 1 []) :: fI 4 (.mv (.t 10)) :: []) [4]) .ret) .skip)
def s_sp_LoopBody_i3 : List Item := fI 4 (.mv (.t 15)) :: []
def s_sp_LoopBody_i4 : List Item := .chk 11 none (.ld 3 true (.t 2)) :: eI 15 (.call fn_l17Body [.t 11, .t 13, .t 14]) :: s_sp_LoopBody_i3
def s_sp_LoopBody_5 : SC := (.seq (.dreg 6 [0, 1, 3, 2, 0, 4, 5] ( fI 11 (.ld 3 true (.t 2)) :: fI 12 (.ld 3 true (.t 2)) :: fI 14 (.mv (.t 1)) :: eI 13 (.call fn_l11Doms [.t 12]) :: s_sp_LoopBody_i4) [4]) .ret)
def s_sp_LoopBody_6 : SC := (.seq (.seq (.reg ( fI 5 (.ld 3 true (.t 2)) :: eI 6 (.call fn_sp_LoopHeads [.t 5]) :: s_sp_LoopBody_i1) [1, 2, 9]) s_sp_LoopBody_2) s_sp_LoopBody_5)
def s_sp_LoopBody : SC := (.seq (.reg ( fI 2 (.box (.t 0)) :: fI 4 (.mv (.k (.c (.sl true 1 [])))) :: []) [1, 2]) s_sp_LoopBody_6)
def r_sp_LoopBody : List RS := [.tmp 4]
theorem m_sp_LoopBody : mFn prog fn_sp_LoopBody 2 16 s_sp_LoopBody r_sp_LoopBody = true := by kernel_rfl
def s_la_wwHas_0 : SC := (.cond (.t 15) (.seq (.reg ( fI 4 (.mv (.k (.c (.bool true)))) :: []) [4]) .ret) .skip)
def s_la_wwHas_1 : SC := (.seq (.reg ( fI 13 (.mv (.t 6)) :: fI 14 (.mv (.t 1)) :: fI 15 (.bin 0 .eql (.t 13) (.t 14)) :: []) [1, 7, 8, 9, 15]) s_la_wwHas_0)
def s_la_wwHas_2 : SC := (.reg ( fI 16 (.bin 0 .add (.t 9) (kI 1)) :: fI 9 (.mv (.t 16)) :: []) [1, 7, 8, 9])
def s_la_wwHas_3 : SC := (.seq (.block 1 (.seq (.reg ( fI 11 (.iad 1 (.t 7) (.t 9)) :: fI 12 (.ld 1 false (.t 11)) :: fI 6 (.mv (.t 12)) :: []) [1, 6, 7, 8, 9]) s_la_wwHas_1)) s_la_wwHas_2)
def s_la_wwHas_l4 : SC := (.seq (.reg ( fI 10 (.bin 0 .lss (.t 9) (.t 8)) :: []) [1, 7, 8, 9, 10]) (.seq (.cond (.t 10) .skip (.exit 0)) s_la_wwHas_3))
def s_la_wwHas_5 : SC := (.seq (.reg ( fI 4 (.mv (.k (.c (.bool false)))) :: []) [4]) .ret)
def s_la_wwHas_6 : SC := (.seq (.seq (.reg ( fI 7 (.mv (.t 0)) :: fI 8 (.len (.t 7)) :: fI 9 (.mv (kI 0)) :: []) [1, 7, 8, 9]) (.block 0 (.loop s_la_wwHas_l4))) s_la_wwHas_5)
def s_la_wwHas : SC := (.seq (.reg ( fI 4 (.mv (.k (.c (.bool false)))) :: []) [0, 1]) s_la_wwHas_6)
def r_la_wwHas : List RS := [.tmp 4]
theorem m_la_wwHas : mFn prog fn_la_wwHas 2 17 s_la_wwHas r_la_wwHas = true := by kernel_rfl
def s_l17Draw_i0 : List Item := fI 3 (.mv (kI 0)) :: []
def s_l17Draw_i1 : List Item := fI 4 (.mv (.t 9)) :: []
def s_l17Draw_i2 : List Item := .e none none (.sto 3 (.t 5) (.t 11)) :: []
def s_l17Draw_i3 : List Item := eI 5 (.alloc [.int .i64 0, .int .i64 0, .sl true 5 []]) :: s_l17Draw_i2
def s_l17Draw_i4 : List Item := gT 17 14 (.bin 0 .gtr (.t 16) (kI 0)) :: fI 18 (.pick (.t 14) (.t 17) (.k (.c (.bool false)))) :: []
def s_l17Draw_i5 : List Item := fI 7 (.mv (.t 22)) :: []
def s_l17Draw_i6 : List Item := .chk 32 none (.iad 1 (.t 27) (.t 31)) :: .chk 33 none (.ld 1 false (.t 32)) :: fI 3 (.mv (.t 33)) :: []
def s_l17Draw_i7 : List Item := .chk 26 none (.ld 3 true (.t 5)) :: fI 32 (.iad 1 (.t 27) (.t 31)) :: fI 33 (.ld 1 false (.t 32)) :: .e none none (.sto 3 (.t 2) (.t 26)) :: s_l17Draw_i6
def s_l17Draw_8 : SC := (.cond (.t 25) (.seq (.dreg 10 [0, 1, 2, 3, 4, 5, 0, 6, 7, 8, 6, 7, 9] ( fI 26 (.ld 3 true (.t 5)) :: fI 27 (.mv (.t 7)) :: fI 28 (.mv (.t 4)) :: fI 29 (.mv (.t 7)) :: fI 30 (.len (.t 29)) :: eI 31 (.call fn_l30Rd_pick [.t 28, .t 30]) :: s_l17Draw_i7) [2, 3]) .ret) .skip)
def s_l17Draw_i9 : List Item := .e none none (.sto 3 (.t 5) (.t 35)) :: []
def s_l17Draw_10 : SC := (.reg ( fI 34 (.mv (.t 4)) :: eI 35 (.call fn_l10Code [.t 34]) :: s_l17Draw_i9) [2, 4, 5, 6])
def s_l17Draw_11 : SC := (.seq (.seq (.reg ( fI 23 (.mv (.t 7)) :: fI 24 (.len (.t 23)) :: fI 25 (.bin 0 .gtr (.t 24) (kI 0)) :: []) [2, 4, 5, 6, 7, 25]) s_l17Draw_8) s_l17Draw_10)
def s_l17Draw_12 : SC := (.reg ( fI 19 (.mv (.t 6)) :: fI 20 (.bin 0 .add (.t 19) (kI 1)) :: fI 6 (.mv (.t 20)) :: []) [2, 4, 5, 6])
def s_l17Draw_13 : SC := (.seq (.block 1 (.seq (.reg ( fI 21 (.ld 3 true (.t 5)) :: eI 22 (.call fn_sp_LoopHeads [.t 21]) :: s_l17Draw_i5) [2, 4, 5, 6, 7]) s_l17Draw_11)) s_l17Draw_12)
def s_l17Draw_l14 : SC := (.seq (.seq (.reg ( fI 12 (.mv (.t 6)) :: fI 13 (.bin 0 .lss (.t 12) (kI 8)) :: fI 14 (.mv (.t 13)) :: gT 15 14 (.mv (.t 4)) :: .e (some 16) (some (14, true)) (.call fn_l30Rd_pick [.t 15, kI 9]) :: s_l17Draw_i4) [2, 4, 5, 6, 18]) (.cond (.t 18) .skip (.exit 0))) s_l17Draw_13)
def s_l17Draw_i15 : List Item := fI 3 (.mv (.t 43)) :: []
def s_l17Draw_i16 : List Item := .chk 36 none (.ld 3 true (.t 5)) :: fI 43 (.bin 0 .sub (.t 42) (kI 1)) :: .e none none (.sto 3 (.t 2) (.t 36)) :: s_l17Draw_i15
def s_l17Draw_17 : SC := (.seq (.dreg 10 [0, 1, 2, 3, 4, 5, 6, 0, 7, 8, 9] ( fI 36 (.ld 3 true (.t 5)) :: fI 37 (.mv (.t 4)) :: fI 38 (.fad 2 (.t 5)) :: fI 39 (.ld 1 false (.t 38)) :: fI 40 (.len (.t 39)) :: fI 41 (.bin 0 .add (.t 40) (kI 2)) :: eI 42 (.call fn_l30Rd_pick [.t 37, .t 41]) :: s_l17Draw_i16) [2, 3]) .ret)
def s_l17Draw_18 : SC := (.seq (.seq (.reg ( fI 6 (.mv (kI 0)) :: []) [2, 4, 5, 6]) (.block 0 (.loop s_l17Draw_l14))) s_l17Draw_17)
def s_l17Draw_19 : SC := (.seq (.reg ( fI 10 (.mv (.t 4)) :: eI 11 (.call fn_l10Code [.t 10]) :: s_l17Draw_i3) [2, 4, 5]) s_l17Draw_18)
def s_l17Draw_20 : SC := (.seq (.reg ( fI 8 (.mv (.t 0)) :: eI 9 (.call fn_l30Open [.t 8]) :: s_l17Draw_i1) [2, 4]) s_l17Draw_19)
def s_l17Draw : SC := (.seq (.reg ( eI 2 (.alloc [.int .i64 0, .int .i64 0, .sl true 5 []]) :: s_l17Draw_i0) [0, 2]) s_l17Draw_20)
def r_l17Draw : List RS := [.cell 2 3 true, .tmp 3]
theorem m_l17Draw : mFn prog fn_l17Draw 1 44 s_l17Draw r_l17Draw = true := by kernel_rfl
def s_im_domsOf_i0 : List Item := fI 10 (.not (.t 9)) :: []
def s_im_domsOf_1 : SC := (.cond (.t 10) (.seq (.reg ( fI 2 (.mv (.k (.c .pnil))) :: []) [2]) .ret) .skip)
def s_im_domsOf_i2 : List Item := fI 3 (.mv (.t 15)) :: []
def s_im_domsOf_i3 : List Item := .chk 11 none (.ld 3 true (.t 1)) :: fI 14 (.bld [.int .i64 0, .int .i64 0, .sl true 5 [], .sl true 1 [], .sl true 1 []] [(0, 3, .t 11), (4, 1, .t 13)]) :: eI 15 (.boxm (.t 14)) :: s_im_domsOf_i2
def s_im_domsOf_i4 : List Item := fI 5 (.mv (.t 25)) :: []
def s_im_domsOf_i5 : List Item := fI 6 (.mv (.t 35)) :: []
def s_im_domsOf_6 : SC := (.reg ( fI 41 (.mv (.t 5)) :: fI 42 (.mv (.t 7)) :: fI 43 (.mv (.t 3)) :: fI 44 (.nck (.t 43)) :: fI 45 (.fad 4 (.t 44)) :: fI 46 (.ld 1 false (.t 45)) :: fI 47 (.mv (.t 7)) :: fI 48 (.iad 1 (.t 46) (.t 47)) :: fI 49 (.ld 1 false (.t 48)) :: fI 50 (.mv (.t 49)) :: gT 51 50 (.mv (.t 6)) :: gT 52 50 (.mv (.t 7)) :: gT 53 50 (.iad 1 (.t 51) (.t 52)) :: gT 54 50 (.ld 1 false (.t 53)) :: gT 55 50 (.not (.t 54)) :: fI 56 (.pick (.t 50) (.t 55) (.k (.c (.bool false)))) :: fI 57 (.iad 1 (.t 41) (.t 42)) :: .e none none (.sto 1 (.t 57) (.t 56)) :: []) [1, 3, 5, 6, 18, 19, 37, 38])
def s_im_domsOf_7 : SC := (.reg ( fI 58 (.bin 0 .add (.t 38) (kI 1)) :: fI 38 (.mv (.t 58)) :: []) [1, 3, 5, 6, 18, 19, 37, 38])
def s_im_domsOf_8 : SC := (.seq (.block 3 (.seq (.reg ( fI 40 (.mv (.t 38)) :: fI 7 (.mv (.t 40)) :: []) [1, 3, 5, 6, 7, 18, 19, 37, 38]) s_im_domsOf_6)) s_im_domsOf_7)
def s_im_domsOf_l9 : SC := (.seq (.reg ( fI 39 (.bin 0 .lss (.t 38) (.t 37)) :: []) [1, 3, 5, 6, 18, 19, 37, 38, 39]) (.seq (.cond (.t 39) .skip (.exit 2)) s_im_domsOf_8))
def s_im_domsOf_10 : SC := (.seq (.reg ( fI 36 (.mv (.t 5)) :: fI 37 (.len (.t 36)) :: fI 38 (.mv (kI 0)) :: []) [1, 3, 5, 6, 18, 19, 37, 38]) (.block 2 (.loop s_im_domsOf_l9)))
def s_im_domsOf_11 : SC := (.cond (.t 32) (.seq (.reg ( fI 33 (.ld 3 true (.t 1)) :: fI 34 (.mv (.t 4)) :: eI 35 (.call fn_im_reachedWithout [.t 33, .t 34]) :: s_im_domsOf_i5) [1, 3, 5, 6, 18, 19]) s_im_domsOf_10) .skip)
def s_im_domsOf_i12 : List Item := fI 67 (.nck (.t 59)) :: fI 68 (.fad 3 (.t 67)) :: .e none none (.sto 1 (.t 68) (.t 66)) :: []
def s_im_domsOf_13 : SC := (.reg ( fI 59 (.mv (.t 3)) :: fI 60 (.mv (.t 3)) :: fI 61 (.nck (.t 60)) :: fI 62 (.fad 3 (.t 61)) :: fI 63 (.ld 1 false (.t 62)) :: fI 64 (.mv (.t 5)) :: fI 65 (.bsl 1 [.t 64]) :: eI 66 (.app 1 (.t 63) (.t 65)) :: s_im_domsOf_i12) [1, 3, 18, 19])
def s_im_domsOf_14 : SC := (.seq (.seq (.reg ( fI 26 (.mv (.t 3)) :: fI 27 (.nck (.t 26)) :: fI 28 (.fad 4 (.t 27)) :: fI 29 (.ld 1 false (.t 28)) :: fI 30 (.mv (.t 4)) :: fI 31 (.iad 1 (.t 29) (.t 30)) :: fI 32 (.ld 1 false (.t 31)) :: []) [1, 3, 4, 5, 18, 19, 32]) s_im_domsOf_11) s_im_domsOf_13)
def s_im_domsOf_15 : SC := (.seq (.reg ( fI 22 (.fad 2 (.t 1)) :: fI 23 (.ld 1 false (.t 22)) :: fI 24 (.len (.t 23)) :: eI 25 (.mks 1 [.bool false] (.t 24)) :: s_im_domsOf_i4) [1, 3, 4, 5, 18, 19]) s_im_domsOf_14)
def s_im_domsOf_16 : SC := (.reg ( fI 69 (.bin 0 .add (.t 19) (kI 1)) :: fI 19 (.mv (.t 69)) :: []) [1, 3, 18, 19])
def s_im_domsOf_17 : SC := (.seq (.block 1 (.seq (.reg ( fI 21 (.mv (.t 19)) :: fI 4 (.mv (.t 21)) :: []) [1, 3, 4, 18, 19]) s_im_domsOf_15)) s_im_domsOf_16)
def s_im_domsOf_l18 : SC := (.seq (.reg ( fI 20 (.bin 0 .lss (.t 19) (.t 18)) :: []) [1, 3, 18, 19, 20]) (.seq (.cond (.t 20) .skip (.exit 0)) s_im_domsOf_17))
def s_im_domsOf_19 : SC := (.seq (.reg ( fI 70 (.mv (.t 3)) :: fI 2 (.mv (.t 70)) :: []) [2]) .ret)
def s_im_domsOf_20 : SC := (.seq (.seq (.reg ( fI 16 (.fad 2 (.t 1)) :: fI 17 (.ld 1 false (.t 16)) :: fI 18 (.len (.t 17)) :: fI 19 (.mv (kI 0)) :: []) [1, 3, 18, 19]) (.block 0 (.loop s_im_domsOf_l18))) s_im_domsOf_19)
def s_im_domsOf_21 : SC := (.seq (.dreg 6 [0, 1, 2, 0, 3, 4, 5] ( fI 11 (.ld 3 true (.t 1)) :: fI 12 (.ld 3 true (.t 1)) :: eI 13 (.call fn_im_reachedWithout [.t 12, kI (-1)]) :: s_im_domsOf_i3) [1, 3]) s_im_domsOf_20)
def s_im_domsOf_22 : SC := (.seq (.seq (.reg ( fI 8 (.ld 3 true (.t 1)) :: eI 9 (.call fn_im_graphOk [.t 8]) :: s_im_domsOf_i0) [1, 10]) s_im_domsOf_1) s_im_domsOf_21)
def s_im_domsOf : SC := (.seq (.reg ( fI 1 (.box (.t 0)) :: fI 2 (.mv (.k (.c .pnil))) :: []) [1]) s_im_domsOf_22)
def r_im_domsOf : List RS := [.tmp 2]
theorem m_im_domsOf : mFn prog fn_im_domsOf 1 71 s_im_domsOf r_im_domsOf = true := by kernel_rfl
def s_sl_Contains_i0 : List Item := fI 8 (.bin 0 .geq (.t 7) (kI 0)) :: fI 4 (.mv (.t 8)) :: []
def s_sl_Contains_1 : SC := (.seq (.reg ( fI 5 (.mv (.t 0)) :: fI 6 (.mv (.t 1)) :: eI 7 (.call fn_sl_Index [.t 5, .t 6]) :: s_sl_Contains_i0) [4]) .ret)
def s_sl_Contains : SC := (.seq (.reg ( fI 4 (.mv (.k (.c (.bool false)))) :: []) [0, 1]) s_sl_Contains_1)
def r_sl_Contains : List RS := [.tmp 4]
theorem m_sl_Contains : mFn prog fn_sl_Contains 2 9 s_sl_Contains r_sl_Contains = true := by kernel_rfl
def s_im_doms_heads_i0 : List Item := .e none none (.sto 1 (.t 4) (.t 12)) :: []
def s_im_doms_heads_i1 : List Item := eI 20 (.call fn_sl_ContainsFunc [.t 18, .t 19]) :: []
def s_im_doms_heads_i2 : List Item := fI 3 (.mv (.t 24)) :: []
def s_im_doms_heads_3 : SC := (.cond (.t 20) (.reg ( fI 21 (.mv (.t 3)) :: fI 22 (.ld 1 false (.t 4)) :: fI 23 (.bsl 1 [.t 22]) :: eI 24 (.app 1 (.t 21) (.t 23)) :: s_im_doms_heads_i2) [1, 3, 9, 10]) .skip)
def s_im_doms_heads_4 : SC := (.seq (.dreg 8 [0, 1, 2, 3, 4, 6, 5, 7] ( fI 13 (.ld 1 false (.t 1)) :: fI 14 (.nck (.t 13)) :: fI 15 (.fad 0 (.t 14)) :: fI 16 (.ld 3 true (.t 15)) :: fI 17 (.ld 1 false (.t 4)) :: fI 19 (.mkf fn_im_doms_heads_c1 [.t 1, .t 4]) :: eI 18 (.call fn_im_PredsOf [.t 16, .t 17]) :: s_im_doms_heads_i1) [1, 3, 4, 9, 10, 20]) s_im_doms_heads_3)
def s_im_doms_heads_5 : SC := (.reg ( fI 25 (.bin 0 .add (.t 10) (kI 1)) :: fI 10 (.mv (.t 25)) :: []) [1, 3, 9, 10])
def s_im_doms_heads_6 : SC := (.seq (.block 1 (.seq (.reg ( fI 12 (.mv (.t 10)) :: eI 4 (.alloc [.int .i64 0]) :: s_im_doms_heads_i0) [1, 3, 4, 9, 10]) s_im_doms_heads_4)) s_im_doms_heads_5)
def s_im_doms_heads_l7 : SC := (.seq (.reg ( fI 11 (.bin 0 .lss (.t 10) (.t 9)) :: []) [1, 3, 9, 10, 11]) (.seq (.cond (.t 11) .skip (.exit 0)) s_im_doms_heads_6))
def s_im_doms_heads_8 : SC := (.seq (.reg ( fI 26 (.mv (.t 3)) :: fI 2 (.mv (.t 26)) :: []) [2]) .ret)
def s_im_doms_heads_9 : SC := (.seq (.seq (.reg ( fI 5 (.ld 1 false (.t 1)) :: fI 6 (.nck (.t 5)) :: fI 7 (.fad 4 (.t 6)) :: fI 8 (.ld 1 false (.t 7)) :: fI 9 (.len (.t 8)) :: fI 10 (.mv (kI 0)) :: []) [1, 3, 9, 10]) (.block 0 (.loop s_im_doms_heads_l7))) s_im_doms_heads_8)
def s_im_doms_heads_10 : SC := (.seq (.reg ( fI 3 (.mv (.k (.c (.sl true 1 [])))) :: []) [1, 3]) s_im_doms_heads_9)
def s_im_doms_heads : SC := (.seq (.reg ( fI 1 (.box (.t 0)) :: fI 2 (.mv (.k (.c (.sl true 1 [])))) :: []) [1]) s_im_doms_heads_10)
def r_im_doms_heads : List RS := [.tmp 2]
theorem m_im_doms_heads : mFn prog fn_im_doms_heads 1 27 s_im_doms_heads r_im_doms_heads = true := by kernel_rfl
def s_im_doms_body_i0 : List Item := .e none none (.sto 1 (.t 5) (.t 11)) :: []
def s_im_doms_body_i1 : List Item := fI 11 (.mv (.t 9)) :: eI 5 (.alloc [.mnil]) :: s_im_doms_body_i0
def s_im_doms_body_i2 : List Item := fI 10 (.mv (.t 1)) :: .e none none (.upd 0 (.t 9) (.t 10) (.k (.c (.bool true)))) :: s_im_doms_body_i1
def s_im_doms_body_i3 : List Item := fI 19 (.len (.t 18)) :: fI 20 (.mv (kI 0)) :: []
def s_im_doms_body_4 : SC := (.cond (.t 27) (.reg ( fI 28 (.ld 1 false (.t 6)) :: fI 29 (.mv (.t 8)) :: eI 30 (.callv (.t 28) [.t 29]) :: []) [1, 2, 5, 6, 18, 19, 20]) .skip)
def s_im_doms_body_5 : SC := (.seq (.reg ( fI 24 (.ld 1 false (.t 2)) :: fI 25 (.mv (.t 1)) :: fI 26 (.mv (.t 8)) :: eI 27 (.call fn_im_doms_dominates [.t 24, .t 25, .t 26]) :: []) [1, 2, 5, 6, 8, 18, 19, 20, 27]) s_im_doms_body_4)
def s_im_doms_body_6 : SC := (.reg ( fI 31 (.bin 0 .add (.t 20) (kI 1)) :: fI 20 (.mv (.t 31)) :: []) [1, 2, 5, 6, 18, 19, 20])
def s_im_doms_body_7 : SC := (.seq (.block 1 (.seq (.reg ( fI 22 (.iad 1 (.t 18) (.t 20)) :: fI 23 (.ld 1 false (.t 22)) :: fI 8 (.mv (.t 23)) :: []) [1, 2, 5, 6, 8, 18, 19, 20]) s_im_doms_body_5)) s_im_doms_body_6)
def s_im_doms_body_l8 : SC := (.seq (.reg ( fI 21 (.bin 0 .lss (.t 20) (.t 19)) :: []) [1, 2, 5, 6, 18, 19, 20, 21]) (.seq (.cond (.t 21) .skip (.exit 0)) s_im_doms_body_7))
def s_im_doms_body_i9 : List Item := fI 4 (.mv (.t 33)) :: []
def s_im_doms_body_10 : SC := (.seq (.reg ( fI 32 (.ld 1 false (.t 5)) :: eI 33 (.call fn_im_sortedKeys_bool [.t 32]) :: s_im_doms_body_i9) [4]) .ret)
def s_im_doms_body_11 : SC := (.seq (.seq (.reg ( fI 13 (.ld 1 false (.t 2)) :: fI 14 (.nck (.t 13)) :: fI 15 (.fad 0 (.t 14)) :: fI 16 (.ld 3 true (.t 15)) :: fI 17 (.mv (.t 1)) :: eI 18 (.call fn_im_PredsOf [.t 16, .t 17]) :: s_im_doms_body_i3) [1, 2, 5, 6, 18, 19, 20]) (.block 0 (.loop s_im_doms_body_l8))) s_im_doms_body_10)
def s_im_doms_body_12 : SC := (.seq (.reg ( fI 12 (.mkf fn_im_doms_body_c1 [.t 5, .t 2, .t 6]) :: .e none none (.sto 1 (.t 6) (.t 12)) :: []) [1, 2, 5, 6]) s_im_doms_body_11)
def s_im_doms_body_13 : SC := (.seq (.reg ( eI 6 (.alloc [.fnil]) :: []) [1, 2, 5, 6]) s_im_doms_body_12)
def s_im_doms_body_14 : SC := (.seq (.reg ( eI 9 (.mkm) :: s_im_doms_body_i2) [1, 2, 5]) s_im_doms_body_13)
def s_im_doms_body : SC := (.seq (.reg ( fI 2 (.box (.t 0)) :: fI 4 (.mv (.k (.c (.sl true 1 [])))) :: []) [1, 2]) s_im_doms_body_14)
def r_im_doms_body : List RS := [.tmp 4]
theorem m_im_doms_body : mFn prog fn_im_doms_body 2 34 s_im_doms_body r_im_doms_body = true := by kernel_rfl
def s_l10At_0 : SC := (.cond (.t 17) (.seq (.reg ( fI 18 (.mv (.t 5)) :: fI 4 (.mv (.t 18)) :: []) [4]) .ret) .skip)
def s_l10At_1 : SC := (.reg ( fI 10 (.mv (.t 5)) :: fI 11 (.bin 0 .add (.t 10) (kI 1)) :: fI 5 (.mv (.t 11)) :: []) [0, 1, 5])
def s_l10At_2 : SC := (.seq (.block 1 (.seq (.reg ( fI 12 (.mv (.t 0)) :: fI 13 (.mv (.t 5)) :: fI 14 (.iad 1 (.t 12) (.t 13)) :: fI 15 (.ld 1 false (.t 14)) :: fI 16 (.mv (.t 1)) :: fI 17 (.bin 0 .eql (.t 15) (.t 16)) :: []) [0, 1, 5, 17]) s_l10At_0)) s_l10At_1)
def s_l10At_l3 : SC := (.seq (.seq (.reg ( fI 6 (.mv (.t 5)) :: fI 7 (.mv (.t 0)) :: fI 8 (.len (.t 7)) :: fI 9 (.bin 0 .lss (.t 6) (.t 8)) :: []) [0, 1, 5, 9]) (.cond (.t 9) .skip (.exit 0))) s_l10At_2)
def s_l10At_4 : SC := (.seq (.reg ( fI 4 (.mv (kI (-1))) :: []) [4]) .ret)
def s_l10At_5 : SC := (.seq (.seq (.reg ( fI 5 (.mv (kI 0)) :: []) [0, 1, 5]) (.block 0 (.loop s_l10At_l3))) s_l10At_4)
def s_l10At : SC := (.seq (.reg ( fI 4 (.mv (kI 0)) :: []) [0, 1]) s_l10At_5)
def r_l10At : List RS := [.tmp 4]
theorem m_l10At : mFn prog fn_l10At 2 19 s_l10At r_l10At = true := by kernel_rfl
def s_sp_LoopHeads_i0 : List Item := fI 5 (.not (.t 4)) :: []
def s_sp_LoopHeads_1 : SC := (.cond (.t 5) (.seq (.reg ( fI 6 (.bsl 1 []) :: fI 2 (.mv (.t 6)) :: []) [2]) .ret) .skip)
def s_sp_LoopHeads_i2 : List Item := fI 2 (.mv (.t 10)) :: []
def s_sp_LoopHeads_i3 : List Item := .chk 7 none (.ld 3 true (.t 1)) :: eI 10 (.call fn_l17Heads [.t 7, .t 9]) :: s_sp_LoopHeads_i2
def s_sp_LoopHeads_4 : SC := (.seq (.dreg 5 [0, 1, 2, 0, 3, 4] ( fI 7 (.ld 3 true (.t 1)) :: fI 8 (.ld 3 true (.t 1)) :: eI 9 (.call fn_l11Doms [.t 8]) :: s_sp_LoopHeads_i3) [2]) .ret)
def s_sp_LoopHeads_5 : SC := (.seq (.seq (.reg ( fI 3 (.ld 3 true (.t 1)) :: eI 4 (.call fn_l10Fits [.t 3]) :: s_sp_LoopHeads_i0) [1, 5]) s_sp_LoopHeads_1) s_sp_LoopHeads_4)
def s_sp_LoopHeads : SC := (.seq (.reg ( fI 1 (.box (.t 0)) :: fI 2 (.mv (.k (.c (.sl true 1 [])))) :: []) [1]) s_sp_LoopHeads_5)
def r_sp_LoopHeads : List RS := [.tmp 2]
theorem m_sp_LoopHeads : mFn prog fn_sp_LoopHeads 1 11 s_sp_LoopHeads r_sp_LoopHeads = true := by kernel_rfl
def s_l17Body_i0 : List Item := fI 9 (.mv (.t 17)) :: []
def s_l17Body_i1 : List Item := fI 8 (.mv (.t 40)) :: []
def s_l17Body_2 : SC := (.cond (.t 33) (.reg ( fI 34 (.mv (.t 8)) :: fI 35 (.mv (.t 9)) :: fI 36 (.mv (.t 10)) :: fI 37 (.iad 1 (.t 35) (.t 36)) :: fI 38 (.ld 1 false (.t 37)) :: fI 39 (.bsl 1 [.t 38]) :: eI 40 (.app 1 (.t 34) (.t 39)) :: s_l17Body_i1) [1, 2, 3, 7, 8, 9, 10]) .skip)
def s_l17Body_3 : SC := (.reg ( fI 22 (.mv (.t 10)) :: fI 23 (.bin 0 .add (.t 22) (kI 1)) :: fI 10 (.mv (.t 23)) :: []) [1, 2, 3, 7, 8, 9, 10])
def s_l17Body_4 : SC := (.seq (.block 1 (.seq (.dreg 10 [0, 1, 2, 3, 4, 5, 6, 7, 8, 9] ( fI 24 (.mv (.t 1)) :: fI 25 (.mv (.t 2)) :: fI 26 (.iad 1 (.t 24) (.t 25)) :: fI 27 (.ld 1 false (.t 26)) :: fI 28 (.mv (.t 9)) :: fI 29 (.mv (.t 10)) :: fI 30 (.iad 1 (.t 28) (.t 29)) :: fI 31 (.ld 1 false (.t 30)) :: fI 32 (.iad 1 (.t 27) (.t 31)) :: fI 33 (.ld 1 false (.t 32)) :: []) [1, 2, 3, 7, 8, 9, 10, 33]) s_l17Body_2)) s_l17Body_3)
def s_l17Body_l5 : SC := (.seq (.seq (.reg ( fI 18 (.mv (.t 10)) :: fI 19 (.mv (.t 9)) :: fI 20 (.len (.t 19)) :: fI 21 (.bin 0 .lss (.t 18) (.t 20)) :: []) [1, 2, 3, 7, 8, 9, 10, 21]) (.cond (.t 21) .skip (.exit 0))) s_l17Body_4)
def s_l17Body_i6 : List Item := fI 52 (.bin 0 .geq (.t 51) (kI 0)) :: fI 53 (.mv (.t 52)) :: gF 54 53 (.mv (.t 1)) :: gF 55 53 (.mv (.t 11)) :: gF 56 53 (.iad 1 (.t 54) (.t 55)) :: gF 57 53 (.ld 1 false (.t 56)) :: gF 58 53 (.mv (.t 11)) :: gF 59 53 (.iad 1 (.t 57) (.t 58)) :: gF 60 53 (.ld 1 false (.t 59)) :: gF 61 53 (.not (.t 60)) :: fI 62 (.pick (.t 53) (.k (.c (.bool true))) (.t 61)) :: []
def s_l17Body_i7 : List Item := fI 7 (.mv (.t 65)) :: []
def s_l17Body_i8 : List Item := fI 8 (.mv (.t 70)) :: []
def s_l17Body_i9 : List Item := eI 70 (.app 1 (.t 66) (.t 69)) :: s_l17Body_i8
def s_l17Body_10 : SC := (.reg ( fI 66 (.mv (.t 8)) :: fI 67 (.ld 3 true (.t 3)) :: fI 68 (.mv (.t 11)) :: eI 69 (.call fn_l7Preds [.t 67, .t 68]) :: s_l17Body_i9) [1, 3, 7, 8])
def s_l17Body_11 : SC := (.seq (.reg ( fI 63 (.mv (.t 7)) :: fI 64 (.mv (.t 11)) :: eI 65 (.call fn_l7Insert [.t 63, .t 64]) :: s_l17Body_i7) [1, 3, 7, 8, 11]) s_l17Body_10)
def s_l17Body_12 : SC := (.seq (.seq (.reg ( fI 49 (.mv (.t 7)) :: fI 50 (.mv (.t 11)) :: eI 51 (.call fn_l10At [.t 49, .t 50]) :: s_l17Body_i6) [1, 3, 7, 8, 11, 62]) (.cond (.t 62) (.exit 3) .skip)) s_l17Body_11)
def s_l17Body_13 : SC := (.seq (.reg ( fI 47 (.mv (.t 8)) :: fI 48 (.sli 1 (.t 47) (some (kI 1)) none) :: fI 8 (.mv (.t 48)) :: []) [1, 3, 7, 8, 11]) s_l17Body_12)
def s_l17Body_14 : SC := (.block 3 (.seq (.reg ( fI 44 (.mv (.t 8)) :: fI 45 (.iad 1 (.t 44) (kI 0)) :: fI 46 (.ld 1 false (.t 45)) :: fI 11 (.mv (.t 46)) :: []) [1, 3, 7, 8, 11]) s_l17Body_13))
def s_l17Body_l15 : SC := (.seq (.seq (.reg ( fI 41 (.mv (.t 8)) :: fI 42 (.len (.t 41)) :: fI 43 (.bin 0 .gtr (.t 42) (kI 0)) :: []) [1, 3, 7, 8, 43]) (.cond (.t 43) .skip (.exit 2))) s_l17Body_14)
def s_l17Body_16 : SC := (.seq (.reg ( fI 71 (.mv (.t 7)) :: fI 6 (.mv (.t 71)) :: []) [6]) .ret)
def s_l17Body_17 : SC := (.seq (.seq (.reg ( fI 10 (.mv (kI 0)) :: []) [1, 2, 3, 7, 8, 9, 10]) (.block 0 (.loop s_l17Body_l5))) (.seq (.block 2 (.loop s_l17Body_l15)) s_l17Body_16))
def s_l17Body_18 : SC := (.seq (.reg ( fI 15 (.ld 3 true (.t 3)) :: fI 16 (.mv (.t 2)) :: eI 17 (.call fn_l7Preds [.t 15, .t 16]) :: s_l17Body_i0) [1, 2, 3, 7, 8, 9]) s_l17Body_17)
def s_l17Body_19 : SC := (.seq (.reg ( fI 14 (.bsl 1 []) :: fI 8 (.mv (.t 14)) :: []) [1, 2, 3, 7, 8]) s_l17Body_18)
def s_l17Body_20 : SC := (.seq (.reg ( fI 12 (.mv (.t 2)) :: fI 13 (.bsl 1 [.t 12]) :: fI 7 (.mv (.t 13)) :: []) [1, 2, 3, 7]) s_l17Body_19)
def s_l17Body : SC := (.seq (.reg ( fI 3 (.box (.t 0)) :: fI 6 (.mv (.k (.c (.sl true 1 [])))) :: []) [1, 2, 3]) s_l17Body_20)
def r_l17Body : List RS := [.tmp 6]
theorem m_l17Body : mFn prog fn_l17Body 3 72 s_l17Body r_l17Body = true := by kernel_rfl
def s_l11Doms_i0 : List Item := fI 5 (.mv (.t 15)) :: []
def s_l11Doms_i1 : List Item := fI 7 (.mv (.t 26)) :: []
def s_l11Doms_2 : SC := (.reg ( fI 36 (.mv (.t 7)) :: fI 37 (.mv (.t 6)) :: fI 38 (.iad 1 (.t 36) (.t 37)) :: .e none none (.sto 1 (.t 38) (.k (.c (.bool false)))) :: []) [1, 3, 4, 5, 6, 7])
def s_l11Doms_3 : SC := (.cond (.t 31) (.seq (.reg ( fI 32 (.ld 3 true (.t 1)) :: fI 33 (.mv (.t 7)) :: fI 34 (.bsl 1 []) :: eI 35 (.call fn_l10Visit [.t 32, kI 0, .t 33, .t 34]) :: []) [1, 3, 4, 5, 6, 7]) s_l11Doms_2) (.reg ( fI 39 (.mv (.t 7)) :: fI 40 (.mv (.t 6)) :: fI 41 (.iad 1 (.t 39) (.t 40)) :: .e none none (.sto 1 (.t 41) (.k (.c (.bool false)))) :: []) [1, 3, 4, 5, 6, 7]))
def s_l11Doms_i4 : List Item := fI 8 (.mv (.t 43)) :: []
def s_l11Doms_5 : SC := (.reg ( fI 47 (.mv (.t 9)) :: fI 48 (.bin 0 .add (.t 47) (kI 1)) :: fI 9 (.mv (.t 48)) :: []) [1, 3, 4, 5, 6, 7, 8, 9])
def s_l11Doms_6 : SC := (.seq (.block 3 (.reg ( fI 49 (.mv (.t 8)) :: fI 50 (.mv (.t 9)) :: fI 51 (.mv (.t 5)) :: fI 52 (.mv (.t 6)) :: fI 53 (.iad 1 (.t 51) (.t 52)) :: fI 54 (.ld 1 false (.t 53)) :: fI 55 (.mv (.t 54)) :: gT 56 55 (.mv (.t 5)) :: gT 57 55 (.mv (.t 9)) :: gT 58 55 (.iad 1 (.t 56) (.t 57)) :: gT 59 55 (.ld 1 false (.t 58)) :: fI 60 (.pick (.t 55) (.t 59) (.k (.c (.bool false)))) :: fI 61 (.mv (.t 60)) :: gT 62 61 (.mv (.t 7)) :: gT 63 61 (.mv (.t 9)) :: gT 64 61 (.iad 1 (.t 62) (.t 63)) :: gT 65 61 (.ld 1 false (.t 64)) :: gT 66 61 (.not (.t 65)) :: fI 67 (.pick (.t 61) (.t 66) (.k (.c (.bool false)))) :: fI 68 (.iad 1 (.t 49) (.t 50)) :: .e none none (.sto 1 (.t 68) (.t 67)) :: []) [1, 3, 4, 5, 6, 7, 8, 9])) s_l11Doms_5)
def s_l11Doms_l7 : SC := (.seq (.seq (.reg ( fI 44 (.mv (.t 9)) :: fI 45 (.mv (.t 3)) :: fI 46 (.bin 0 .lss (.t 44) (.t 45)) :: []) [1, 3, 4, 5, 6, 7, 8, 9, 46]) (.cond (.t 46) .skip (.exit 2))) s_l11Doms_6)
def s_l11Doms_i8 : List Item := fI 4 (.mv (.t 72)) :: []
def s_l11Doms_9 : SC := (.reg ( fI 69 (.mv (.t 4)) :: fI 70 (.mv (.t 8)) :: fI 71 (.bsl 1 [.t 70]) :: eI 72 (.app 1 (.t 69) (.t 71)) :: s_l11Doms_i8) [1, 3, 4, 5, 6])
def s_l11Doms_10 : SC := (.seq (.seq (.reg ( fI 9 (.mv (kI 0)) :: []) [1, 3, 4, 5, 6, 7, 8, 9]) (.block 2 (.loop s_l11Doms_l7))) s_l11Doms_9)
def s_l11Doms_11 : SC := (.seq (.reg ( fI 42 (.mv (.t 3)) :: eI 43 (.mks 1 [.bool false] (.t 42)) :: s_l11Doms_i4) [1, 3, 4, 5, 6, 7, 8]) s_l11Doms_10)
def s_l11Doms_12 : SC := (.seq (.seq (.reg ( fI 30 (.mv (.t 6)) :: fI 31 (.bin 0 .neq (.t 30) (kI 0)) :: []) [1, 3, 4, 5, 6, 7, 31]) s_l11Doms_3) s_l11Doms_11)
def s_l11Doms_13 : SC := (.seq (.reg ( fI 27 (.mv (.t 7)) :: fI 28 (.mv (.t 6)) :: fI 29 (.iad 1 (.t 27) (.t 28)) :: .e none none (.sto 1 (.t 29) (.k (.c (.bool true)))) :: []) [1, 3, 4, 5, 6, 7]) s_l11Doms_12)
def s_l11Doms_14 : SC := (.reg ( fI 23 (.mv (.t 6)) :: fI 24 (.bin 0 .add (.t 23) (kI 1)) :: fI 6 (.mv (.t 24)) :: []) [1, 3, 4, 5, 6])
def s_l11Doms_15 : SC := (.seq (.block 1 (.seq (.reg ( fI 25 (.mv (.t 3)) :: eI 26 (.mks 1 [.bool false] (.t 25)) :: s_l11Doms_i1) [1, 3, 4, 5, 6, 7]) s_l11Doms_13)) s_l11Doms_14)
def s_l11Doms_l16 : SC := (.seq (.seq (.reg ( fI 20 (.mv (.t 6)) :: fI 21 (.mv (.t 3)) :: fI 22 (.bin 0 .lss (.t 20) (.t 21)) :: []) [1, 3, 4, 5, 6, 22]) (.cond (.t 22) .skip (.exit 0))) s_l11Doms_15)
def s_l11Doms_17 : SC := (.seq (.reg ( fI 73 (.mv (.t 4)) :: fI 2 (.mv (.t 73)) :: []) [2]) .ret)
def s_l11Doms_18 : SC := (.seq (.seq (.reg ( fI 6 (.mv (kI 0)) :: []) [1, 3, 4, 5, 6]) (.block 0 (.loop s_l11Doms_l16))) s_l11Doms_17)
def s_l11Doms_19 : SC := (.seq (.reg ( fI 16 (.ld 3 true (.t 1)) :: fI 17 (.mv (.t 5)) :: fI 18 (.bsl 1 []) :: eI 19 (.call fn_l10Visit [.t 16, kI 0, .t 17, .t 18]) :: []) [1, 3, 4, 5]) s_l11Doms_18)
def s_l11Doms_20 : SC := (.seq (.reg ( fI 14 (.mv (.t 3)) :: eI 15 (.mks 1 [.bool false] (.t 14)) :: s_l11Doms_i0) [1, 3, 4, 5]) s_l11Doms_19)
def s_l11Doms_21 : SC := (.seq (.reg ( fI 13 (.bsl 1 []) :: fI 4 (.mv (.t 13)) :: []) [1, 3, 4]) s_l11Doms_20)
def s_l11Doms_22 : SC := (.seq (.reg ( fI 10 (.fad 2 (.t 1)) :: fI 11 (.ld 1 false (.t 10)) :: fI 12 (.len (.t 11)) :: fI 3 (.mv (.t 12)) :: []) [1, 3]) s_l11Doms_21)
def s_l11Doms : SC := (.seq (.reg ( fI 1 (.box (.t 0)) :: fI 2 (.mv (.k (.c (.sl true 1 [])))) :: []) [1]) s_l11Doms_22)
def r_l11Doms : List RS := [.tmp 2]
theorem m_l11Doms : mFn prog fn_l11Doms 1 74 s_l11Doms r_l11Doms = true := by kernel_rfl
def s_im_graphOk_i0 : List Item := gT 12 7 (.not (.t 11)) :: fI 13 (.pick (.t 7) (.t 12) (.k (.c (.bool false)))) :: fI 2 (.mv (.t 13)) :: []
def s_im_graphOk_1 : SC := (.seq (.reg ( fI 3 (.fad 2 (.t 1)) :: fI 4 (.ld 1 false (.t 3)) :: fI 5 (.len (.t 4)) :: fI 6 (.bin 0 .gtr (.t 5) (kI 0)) :: fI 7 (.mv (.t 6)) :: gT 8 7 (.fad 2 (.t 1)) :: gT 9 7 (.ld 1 false (.t 8)) :: gT 10 7 (.mkf fn_im_graphOk_c1 [.t 1]) :: .e (some 11) (some (7, true)) (.call fn_sl_ContainsFunc_Block [.t 9, .t 10]) :: s_im_graphOk_i0) [2]) .ret)
def s_im_graphOk : SC := (.seq (.reg ( fI 1 (.box (.t 0)) :: fI 2 (.mv (.k (.c (.bool false)))) :: []) [1]) s_im_graphOk_1)
def r_im_graphOk : List RS := [.tmp 2]
theorem m_im_graphOk : mFn prog fn_im_graphOk 1 14 s_im_graphOk r_im_graphOk = true := by kernel_rfl
def s_im_once_i0 : List Item := fI 3 (.mv (.t 5)) :: []
def s_im_once_i1 : List Item := fI 2 (.mv (.t 9)) :: []
def s_im_once_2 : SC := (.seq (.reg ( fI 8 (.mv (.t 3)) :: eI 9 (.call fn_sl_Compact [.t 8]) :: s_im_once_i1) [2]) .ret)
def s_im_once_3 : SC := (.seq (.reg ( fI 6 (.mv (.t 3)) :: eI 7 (.call fn_sl_Sort [.t 6]) :: []) [3]) s_im_once_2)
def s_im_once_4 : SC := (.seq (.reg ( fI 4 (.mv (.t 0)) :: eI 5 (.call fn_sl_Clone [.t 4]) :: s_im_once_i0) [3]) s_im_once_3)
def s_im_once : SC := (.seq (.reg ( fI 2 (.mv (.k (.c (.sl true 1 [])))) :: []) [0]) s_im_once_4)
def r_im_once : List RS := [.tmp 2]
theorem m_im_once : mFn prog fn_im_once 1 10 s_im_once r_im_once = true := by kernel_rfl
def s_im_visits_i0 : List Item := .e none none (.sto 1 (.t 4) (.t 9)) :: []
def s_im_visits_i1 : List Item := eI 4 (.alloc [.sl true 1 []]) :: s_im_visits_i0
def s_im_visits_2 : SC := (.seq (.reg ( fI 13 (.ld 1 false (.t 3)) :: fI 2 (.mv (.t 13)) :: []) [2]) .ret)
def s_im_visits_3 : SC := (.seq (.reg ( fI 11 (.ld 1 false (.t 5)) :: eI 12 (.callv (.t 11) [kI 0]) :: []) [3]) s_im_visits_2)
def s_im_visits_4 : SC := (.seq (.reg ( fI 10 (.mkf fn_im_visits_c1 [.t 4, .t 1, .t 5, .t 3]) :: .e none none (.sto 1 (.t 5) (.t 10)) :: []) [3, 5]) s_im_visits_3)
def s_im_visits_5 : SC := (.seq (.reg ( eI 5 (.alloc [.fnil]) :: []) [1, 3, 4, 5]) s_im_visits_4)
def s_im_visits_6 : SC := (.seq (.reg ( fI 6 (.fad 2 (.t 1)) :: fI 7 (.ld 1 false (.t 6)) :: fI 8 (.len (.t 7)) :: eI 9 (.mks 1 [.bool false] (.t 8)) :: s_im_visits_i1) [1, 3, 4]) s_im_visits_5)
def s_im_visits_7 : SC := (.seq (.reg ( eI 3 (.alloc [.sl true 1 []]) :: []) [1, 3]) s_im_visits_6)
def s_im_visits : SC := (.seq (.reg ( fI 1 (.box (.t 0)) :: fI 2 (.mv (.k (.c (.sl true 1 [])))) :: []) [1]) s_im_visits_7)
def r_im_visits : List RS := [.tmp 2]
theorem m_im_visits : mFn prog fn_im_visits 1 14 s_im_visits r_im_visits = true := by kernel_rfl
def s_l30Open_0 : SC := (.cond (.t 5) (.reg ( fI 6 (.mv (.t 0)) :: fI 7 (.sli 1 (.t 6) none (some (kI 2000))) :: fI 0 (.mv (.t 7)) :: []) [0]) .skip)
def s_l30Open_i1 : List Item := fI 2 (.mv (.t 10)) :: []
def s_l30Open_2 : SC := (.seq (.reg ( fI 8 (.mv (.t 0)) :: fI 9 (.bld [.sl true 1 [], .int .i64 0] [(0, 1, .t 8)]) :: eI 10 (.boxm (.t 9)) :: s_l30Open_i1) [2]) .ret)
def s_l30Open_3 : SC := (.seq (.seq (.reg ( fI 3 (.mv (.t 0)) :: fI 4 (.len (.t 3)) :: fI 5 (.bin 0 .gtr (.t 4) (kI 2000)) :: []) [0, 5]) s_l30Open_0) s_l30Open_2)
def s_l30Open : SC := (.seq (.reg ( fI 2 (.mv (.k (.c .pnil))) :: []) [0]) s_l30Open_3)
def r_l30Open : List RS := [.tmp 2]
theorem m_l30Open : mFn prog fn_l30Open 1 11 s_l30Open r_l30Open = true := by kernel_rfl
def s_im_reachedWithout_i0 : List Item := fI 5 (.mv (.t 11)) :: []
def s_im_reachedWithout_i1 : List Item := fI 6 (.mv (.t 46)) :: []
def s_im_reachedWithout_2 : SC := (.reg ( fI 39 (.mv (.t 6)) :: fI 40 (.fad 2 (.t 2)) :: fI 41 (.ld 1 false (.t 40)) :: fI 42 (.mv (.t 7)) :: fI 43 (.iad 5 (.t 41) (.t 42)) :: fI 44 (.fad 4 (.t 43)) :: fI 45 (.ld 1 false (.t 44)) :: eI 46 (.app 1 (.t 39) (.t 45)) :: s_im_reachedWithout_i1) [1, 2, 5, 6])
def s_im_reachedWithout_3 : SC := (.seq (.reg ( fI 36 (.mv (.t 5)) :: fI 37 (.mv (.t 7)) :: fI 38 (.iad 1 (.t 36) (.t 37)) :: .e none none (.sto 1 (.t 38) (.k (.c (.bool true)))) :: []) [1, 2, 5, 6, 7]) s_im_reachedWithout_2)
def s_im_reachedWithout_4 : SC := (.seq (.seq (.reg ( fI 27 (.mv (.t 7)) :: fI 28 (.mv (.t 1)) :: fI 29 (.bin 0 .eql (.t 27) (.t 28)) :: fI 30 (.mv (.t 29)) :: gF 31 30 (.mv (.t 5)) :: gF 32 30 (.mv (.t 7)) :: gF 33 30 (.iad 1 (.t 31) (.t 32)) :: gF 34 30 (.ld 1 false (.t 33)) :: fI 35 (.pick (.t 30) (.k (.c (.bool true))) (.t 34)) :: []) [1, 2, 5, 6, 7, 35]) (.cond (.t 35) (.exit 1) .skip)) s_im_reachedWithout_3)
def s_im_reachedWithout_5 : SC := (.seq (.reg ( fI 22 (.mv (.t 6)) :: fI 23 (.mv (.t 6)) :: fI 24 (.len (.t 23)) :: fI 25 (.bin 0 .sub (.t 24) (kI 1)) :: fI 26 (.sli 1 (.t 22) none (some (.t 25))) :: fI 6 (.mv (.t 26)) :: []) [1, 2, 5, 6, 7]) s_im_reachedWithout_4)
def s_im_reachedWithout_6 : SC := (.block 1 (.seq (.reg ( fI 16 (.mv (.t 6)) :: fI 17 (.mv (.t 6)) :: fI 18 (.len (.t 17)) :: fI 19 (.bin 0 .sub (.t 18) (kI 1)) :: fI 20 (.iad 1 (.t 16) (.t 19)) :: fI 21 (.ld 1 false (.t 20)) :: fI 7 (.mv (.t 21)) :: []) [1, 2, 5, 6, 7]) s_im_reachedWithout_5))
def s_im_reachedWithout_l7 : SC := (.seq (.seq (.reg ( fI 13 (.mv (.t 6)) :: fI 14 (.len (.t 13)) :: fI 15 (.bin 0 .gtr (.t 14) (kI 0)) :: []) [1, 2, 5, 6, 15]) (.cond (.t 15) .skip (.exit 0))) s_im_reachedWithout_6)
def s_im_reachedWithout_8 : SC := (.seq (.reg ( fI 47 (.mv (.t 5)) :: fI 4 (.mv (.t 47)) :: []) [4]) .ret)
def s_im_reachedWithout_9 : SC := (.seq (.reg ( eI 12 (.bslm 1 [kI 0]) :: fI 6 (.mv (.t 12)) :: []) [1, 2, 5, 6]) (.seq (.block 0 (.loop s_im_reachedWithout_l7)) s_im_reachedWithout_8))
def s_im_reachedWithout_10 : SC := (.seq (.reg ( fI 8 (.fad 2 (.t 2)) :: fI 9 (.ld 1 false (.t 8)) :: fI 10 (.len (.t 9)) :: eI 11 (.mks 1 [.bool false] (.t 10)) :: s_im_reachedWithout_i0) [1, 2, 5]) s_im_reachedWithout_9)
def s_im_reachedWithout : SC := (.seq (.reg ( fI 2 (.box (.t 0)) :: fI 4 (.mv (.k (.c (.sl true 1 [])))) :: []) [1, 2]) s_im_reachedWithout_10)
def r_im_reachedWithout : List RS := [.tmp 4]
theorem m_im_reachedWithout : mFn prog fn_im_reachedWithout 2 48 s_im_reachedWithout r_im_reachedWithout = true := by kernel_rfl
def s_sl_Index_0 : SC := (.cond (.t 16) (.seq (.reg ( fI 17 (.mv (.t 5)) :: fI 4 (.mv (.t 17)) :: []) [4]) .ret) .skip)
def s_sl_Index_1 : SC := (.seq (.reg ( fI 11 (.mv (.t 1)) :: fI 12 (.mv (.t 0)) :: fI 13 (.mv (.t 5)) :: fI 14 (.iad 1 (.t 12) (.t 13)) :: fI 15 (.ld 1 false (.t 14)) :: fI 16 (.bin 0 .eql (.t 11) (.t 15)) :: []) [0, 1, 5, 7, 8, 16]) s_sl_Index_0)
def s_sl_Index_2 : SC := (.reg ( fI 18 (.bin 0 .add (.t 8) (kI 1)) :: fI 8 (.mv (.t 18)) :: []) [0, 1, 7, 8])
def s_sl_Index_3 : SC := (.seq (.block 1 (.seq (.reg ( fI 10 (.mv (.t 8)) :: fI 5 (.mv (.t 10)) :: []) [0, 1, 5, 7, 8]) s_sl_Index_1)) s_sl_Index_2)
def s_sl_Index_l4 : SC := (.seq (.reg ( fI 9 (.bin 0 .lss (.t 8) (.t 7)) :: []) [0, 1, 7, 8, 9]) (.seq (.cond (.t 9) .skip (.exit 0)) s_sl_Index_3))
def s_sl_Index_5 : SC := (.seq (.reg ( fI 4 (.mv (kI (-1))) :: []) [4]) .ret)
def s_sl_Index_6 : SC := (.seq (.seq (.reg ( fI 6 (.mv (.t 0)) :: fI 7 (.len (.t 6)) :: fI 8 (.mv (kI 0)) :: []) [0, 1, 7, 8]) (.block 0 (.loop s_sl_Index_l4))) s_sl_Index_5)
def s_sl_Index : SC := (.seq (.reg ( fI 4 (.mv (kI 0)) :: []) [0, 1]) s_sl_Index_6)
def r_sl_Index : List RS := [.tmp 4]
theorem m_sl_Index : mFn prog fn_sl_Index 2 19 s_sl_Index r_sl_Index = true := by kernel_rfl
def s_im_PredsOf_i0 : List Item := fI 14 (.not (.t 13)) :: []
def s_im_PredsOf_1 : SC := (.cond (.t 14) (.seq (.reg ( fI 4 (.mv (.k (.c (.sl true 1 [])))) :: []) [4]) .ret) .skip)
def s_im_PredsOf_i2 : List Item := fI 6 (.mv (.t 20)) :: .e none none (.sto 5 (.t 7) (.t 22)) :: []
def s_im_PredsOf_i3 : List Item := fI 5 (.mv (.t 30)) :: []
def s_im_PredsOf_4 : SC := (.cond (.t 26) (.reg ( fI 27 (.mv (.t 5)) :: fI 28 (.mv (.t 6)) :: fI 29 (.bsl 1 [.t 28]) :: eI 30 (.app 1 (.t 27) (.t 29)) :: s_im_PredsOf_i3) [1, 5, 16, 17, 18]) .skip)
def s_im_PredsOf_5 : SC := (.seq (.reg ( fI 23 (.fad 4 (.t 7)) :: fI 24 (.ld 1 false (.t 23)) :: fI 25 (.mv (.t 1)) :: eI 26 (.call fn_sl_Contains [.t 24, .t 25]) :: []) [1, 5, 6, 16, 17, 18, 26]) s_im_PredsOf_4)
def s_im_PredsOf_6 : SC := (.reg ( fI 31 (.bin 0 .add (.t 18) (kI 1)) :: fI 18 (.mv (.t 31)) :: []) [1, 5, 16, 17, 18])
def s_im_PredsOf_7 : SC := (.seq (.block 1 (.seq (.reg ( fI 20 (.mv (.t 18)) :: fI 21 (.iad 5 (.t 16) (.t 18)) :: fI 22 (.ld 5 true (.t 21)) :: eI 7 (.alloc [.sl true 2 [], .sl true 4 [], .int .i64 0, .int .i64 0, .sl true 1 []]) :: s_im_PredsOf_i2) [1, 5, 6, 7, 16, 17, 18]) s_im_PredsOf_5)) s_im_PredsOf_6)
def s_im_PredsOf_l8 : SC := (.seq (.reg ( fI 19 (.bin 0 .lss (.t 18) (.t 17)) :: []) [1, 5, 16, 17, 18, 19]) (.seq (.cond (.t 19) .skip (.exit 0)) s_im_PredsOf_7))
def s_im_PredsOf_9 : SC := (.seq (.reg ( fI 32 (.mv (.t 5)) :: fI 4 (.mv (.t 32)) :: []) [4]) .ret)
def s_im_PredsOf_10 : SC := (.seq (.seq (.reg ( fI 15 (.fad 2 (.t 2)) :: fI 16 (.ld 1 false (.t 15)) :: fI 17 (.len (.t 16)) :: fI 18 (.mv (kI 0)) :: []) [1, 5, 16, 17, 18]) (.block 0 (.loop s_im_PredsOf_l8))) s_im_PredsOf_9)
def s_im_PredsOf_11 : SC := (.seq (.seq (.reg ( fI 8 (.mv (.t 1)) :: fI 9 (.fad 2 (.t 2)) :: fI 10 (.ld 1 false (.t 9)) :: fI 11 (.len (.t 10)) :: fI 12 (.bin 0 .sub (.t 11) (kI 1)) :: eI 13 (.call fn_im_within [.t 8, kI 0, .t 12]) :: s_im_PredsOf_i0) [1, 2, 5, 14]) s_im_PredsOf_1) s_im_PredsOf_10)
def s_im_PredsOf_12 : SC := (.seq (.reg ( fI 5 (.mv (.k (.c (.sl true 1 [])))) :: []) [1, 2, 5]) s_im_PredsOf_11)
def s_im_PredsOf : SC := (.seq (.reg ( fI 2 (.box (.t 0)) :: fI 4 (.mv (.k (.c (.sl true 1 [])))) :: []) [1, 2]) s_im_PredsOf_12)
def r_im_PredsOf : List RS := [.tmp 4]
theorem m_im_PredsOf : mFn prog fn_im_PredsOf 2 33 s_im_PredsOf r_im_PredsOf = true := by kernel_rfl
def s_sl_ContainsFunc_i0 : List Item := fI 8 (.bin 0 .geq (.t 7) (kI 0)) :: fI 4 (.mv (.t 8)) :: []
def s_sl_ContainsFunc_1 : SC := (.seq (.reg ( fI 5 (.mv (.t 0)) :: fI 6 (.mv (.t 1)) :: eI 7 (.call fn_sl_IndexFunc [.t 5, .t 6]) :: s_sl_ContainsFunc_i0) [4]) .ret)
def s_sl_ContainsFunc : SC := (.seq (.reg ( fI 4 (.mv (.k (.c (.bool false)))) :: []) [0, 1]) s_sl_ContainsFunc_1)
def r_sl_ContainsFunc : List RS := [.tmp 4]
theorem m_sl_ContainsFunc : mFn prog fn_sl_ContainsFunc 2 9 s_sl_ContainsFunc r_sl_ContainsFunc = true := by kernel_rfl
def s_im_doms_heads_c1_i0 : List Item := fI 4 (.mv (.t 8)) :: []
def s_im_doms_heads_c1_1 : SC := (.seq (.reg ( fI 5 (.ld 1 false (.t 1)) :: fI 6 (.ld 1 false (.t 2)) :: fI 7 (.mv (.t 0)) :: eI 8 (.call fn_im_doms_dominates [.t 5, .t 6, .t 7]) :: s_im_doms_heads_c1_i0) [4]) .ret)
def s_im_doms_heads_c1 : SC := (.seq (.reg ( fI 4 (.mv (.k (.c (.bool false)))) :: []) [0, 1, 2]) s_im_doms_heads_c1_1)
def r_im_doms_heads_c1 : List RS := [.tmp 4]
theorem m_im_doms_heads_c1 : mFn prog fn_im_doms_heads_c1 3 9 s_im_doms_heads_c1 r_im_doms_heads_c1 = true := by kernel_rfl
def s_im_sortedKeys_bool_i0 : List Item := fI 8 (.ext (.t 7) 0) :: []
def s_im_sortedKeys_bool_i1 : List Item := fI 10 (.ext (.t 9) 0) :: fI 4 (.mv (.t 10)) :: []
def s_im_sortedKeys_bool_i2 : List Item := fI 3 (.mv (.t 14)) :: []
def s_im_sortedKeys_bool_3 : SC := (.reg ( fI 11 (.mv (.t 3)) :: fI 12 (.mv (.t 4)) :: fI 13 (.bsl 1 [.t 12]) :: eI 14 (.app 1 (.t 11) (.t 13)) :: s_im_sortedKeys_bool_i2) [3, 6])
def s_im_sortedKeys_bool_4 : SC := (.block 1 (.seq (.reg ( eI 9 (.ent (.t 6)) :: s_im_sortedKeys_bool_i1) [3, 4, 6]) s_im_sortedKeys_bool_3))
def s_im_sortedKeys_bool_l5 : SC := (.seq (.reg ( eI 7 (.nxt (.t 6)) :: s_im_sortedKeys_bool_i0) [3, 6, 8]) (.seq (.cond (.t 8) .skip (.exit 0)) s_im_sortedKeys_bool_4))
def s_im_sortedKeys_bool_6 : SC := (.seq (.reg ( fI 17 (.mv (.t 3)) :: fI 2 (.mv (.t 17)) :: []) [2]) .ret)
def s_im_sortedKeys_bool_7 : SC := (.seq (.reg ( fI 15 (.mv (.t 3)) :: eI 16 (.call fn_sl_Sort [.t 15]) :: []) [3]) s_im_sortedKeys_bool_6)
def s_im_sortedKeys_bool_8 : SC := (.seq (.seq (.reg ( fI 5 (.mv (.t 0)) :: eI 6 (.rng (.t 5)) :: []) [3, 6]) (.block 0 (.loop s_im_sortedKeys_bool_l5))) s_im_sortedKeys_bool_7)
def s_im_sortedKeys_bool_9 : SC := (.seq (.reg ( fI 3 (.mv (.k (.c (.sl true 1 [])))) :: []) [0, 3]) s_im_sortedKeys_bool_8)
def s_im_sortedKeys_bool : SC := (.seq (.reg ( fI 2 (.mv (.k (.c (.sl true 1 [])))) :: []) [0]) s_im_sortedKeys_bool_9)
def r_im_sortedKeys_bool : List RS := [.tmp 2]
theorem m_im_sortedKeys_bool : mFn prog fn_im_sortedKeys_bool 1 18 s_im_sortedKeys_bool r_im_sortedKeys_bool = true := by kernel_rfl
def s_im_doms_dominates_i0 : List Item := fI 14 (.pick (.t 10) (.t 13) (.k (.c (.bool false)))) :: fI 15 (.mv (.t 14)) :: gT 16 15 (.mv (.t 0)) :: gT 17 15 (.nck (.t 16)) :: gT 18 15 (.fad 3 (.t 17)) :: gT 19 15 (.ld 1 false (.t 18)) :: gT 20 15 (.mv (.t 1)) :: gT 21 15 (.iad 1 (.t 19) (.t 20)) :: gT 22 15 (.ld 1 false (.t 21)) :: gT 23 15 (.mv (.t 2)) :: gT 24 15 (.iad 1 (.t 22) (.t 23)) :: gT 25 15 (.ld 1 false (.t 24)) :: fI 26 (.pick (.t 15) (.t 25) (.k (.c (.bool false)))) :: fI 6 (.mv (.t 26)) :: []
def s_im_doms_dominates_i1 : List Item := fI 10 (.mv (.t 9)) :: gT 11 10 (.mv (.t 0)) :: gT 12 10 (.mv (.t 2)) :: .e (some 13) (some (10, true)) (.call fn_im_doms_has [.t 11, .t 12]) :: s_im_doms_dominates_i0
def s_im_doms_dominates_2 : SC := (.seq (.reg ( fI 7 (.mv (.t 0)) :: fI 8 (.mv (.t 1)) :: eI 9 (.call fn_im_doms_has [.t 7, .t 8]) :: s_im_doms_dominates_i1) [6]) .ret)
def s_im_doms_dominates : SC := (.seq (.reg ( fI 6 (.mv (.k (.c (.bool false)))) :: []) [0, 1, 2]) s_im_doms_dominates_2)
def r_im_doms_dominates : List RS := [.tmp 6]
theorem m_im_doms_dominates : mFn prog fn_im_doms_dominates 3 27 s_im_doms_dominates r_im_doms_dominates = true := by kernel_rfl
def s_im_doms_body_c1_i0 : List Item := fI 28 (.len (.t 27)) :: fI 29 (.mv (kI 0)) :: []
def s_im_doms_body_c1_1 : SC := (.reg ( fI 33 (.ld 1 false (.t 3)) :: fI 34 (.mv (.t 6)) :: eI 35 (.callv (.t 33) [.t 34]) :: []) [3, 27, 28, 29])
def s_im_doms_body_c1_2 : SC := (.reg ( fI 36 (.bin 0 .add (.t 29) (kI 1)) :: fI 29 (.mv (.t 36)) :: []) [3, 27, 28, 29])
def s_im_doms_body_c1_3 : SC := (.seq (.block 1 (.seq (.reg ( fI 31 (.iad 1 (.t 27) (.t 29)) :: fI 32 (.ld 1 false (.t 31)) :: fI 6 (.mv (.t 32)) :: []) [3, 6, 27, 28, 29]) s_im_doms_body_c1_1)) s_im_doms_body_c1_2)
def s_im_doms_body_c1_l4 : SC := (.seq (.reg ( fI 30 (.bin 0 .lss (.t 29) (.t 28)) :: []) [3, 27, 28, 29, 30]) (.seq (.cond (.t 30) .skip (.exit 0)) s_im_doms_body_c1_3))
def s_im_doms_body_c1_5 : SC := (.seq (.reg ( fI 22 (.ld 1 false (.t 2)) :: fI 23 (.nck (.t 22)) :: fI 24 (.fad 0 (.t 23)) :: fI 25 (.ld 3 true (.t 24)) :: fI 26 (.mv (.t 0)) :: eI 27 (.call fn_im_PredsOf [.t 25, .t 26]) :: s_im_doms_body_c1_i0) [3, 27, 28, 29]) (.block 0 (.loop s_im_doms_body_c1_l4)))
def s_im_doms_body_c1_6 : SC := (.seq (.reg ( fI 20 (.ld 1 false (.t 1)) :: fI 21 (.mv (.t 0)) :: .e none none (.upd 0 (.t 20) (.t 21) (.k (.c (.bool true)))) :: []) [0, 2, 3]) s_im_doms_body_c1_5)
def s_im_doms_body_c1 : SC := (.seq (.seq (.reg ( fI 7 (.ld 1 false (.t 1)) :: fI 8 (.mv (.t 0)) :: fI 9 (.lup 0 (.c (.bool false)) (.t 7) (.t 8)) :: fI 10 (.mv (.t 9)) :: gF 11 10 (.ld 1 false (.t 2)) :: gF 12 10 (.nck (.t 11)) :: gF 13 10 (.fad 4 (.t 12)) :: gF 14 10 (.ld 1 false (.t 13)) :: gF 15 10 (.mv (.t 0)) :: gF 16 10 (.iad 1 (.t 14) (.t 15)) :: gF 17 10 (.ld 1 false (.t 16)) :: gF 18 10 (.not (.t 17)) :: fI 19 (.pick (.t 10) (.k (.c (.bool true))) (.t 18)) :: []) [0, 1, 2, 3, 19]) (.cond (.t 19) .ret .skip)) s_im_doms_body_c1_6)
def r_im_doms_body_c1 : List RS := []
theorem m_im_doms_body_c1 : mFn prog fn_im_doms_body_c1 4 37 s_im_doms_body_c1 r_im_doms_body_c1 = true := by kernel_rfl
def s_l10Fits_i0 : List Item := fI 37 (.not (.t 36)) :: []
def s_l10Fits_1 : SC := (.cond (.t 37) (.seq (.reg ( fI 2 (.mv (.k (.c (.bool false)))) :: []) [2]) .ret) .skip)
def s_l10Fits_2 : SC := (.reg ( fI 21 (.mv (.t 4)) :: fI 22 (.bin 0 .add (.t 21) (kI 1)) :: fI 4 (.mv (.t 22)) :: []) [1, 3, 4])
def s_l10Fits_3 : SC := (.seq (.block 3 (.seq (.dreg 15 [0, 1, 2, 3, 4, 5, 6, 7, 8, 9, 10, 11, 12, 13, 14] ( fI 23 (.fad 2 (.t 1)) :: fI 24 (.ld 1 false (.t 23)) :: fI 25 (.mv (.t 3)) :: fI 26 (.iad 5 (.t 24) (.t 25)) :: fI 27 (.fad 4 (.t 26)) :: fI 28 (.ld 1 false (.t 27)) :: fI 29 (.mv (.t 4)) :: fI 30 (.iad 1 (.t 28) (.t 29)) :: fI 31 (.ld 1 false (.t 30)) :: fI 32 (.fad 2 (.t 1)) :: fI 33 (.ld 1 false (.t 32)) :: fI 34 (.len (.t 33)) :: fI 35 (.bin 0 .sub (.t 34) (kI 1)) :: eI 36 (.call fn_l1In [.t 31, kI 0, .t 35]) :: s_l10Fits_i0) [1, 3, 4, 37]) s_l10Fits_1)) s_l10Fits_2)
def s_l10Fits_l4 : SC := (.seq (.seq (.reg ( fI 12 (.mv (.t 4)) :: fI 13 (.fad 2 (.t 1)) :: fI 14 (.ld 1 false (.t 13)) :: fI 15 (.mv (.t 3)) :: fI 16 (.iad 5 (.t 14) (.t 15)) :: fI 17 (.fad 4 (.t 16)) :: fI 18 (.ld 1 false (.t 17)) :: fI 19 (.len (.t 18)) :: fI 20 (.bin 0 .lss (.t 12) (.t 19)) :: []) [1, 3, 4, 20]) (.cond (.t 20) .skip (.exit 2))) s_l10Fits_3)
def s_l10Fits_5 : SC := (.reg ( fI 10 (.mv (.t 3)) :: fI 11 (.bin 0 .add (.t 10) (kI 1)) :: fI 3 (.mv (.t 11)) :: []) [1, 3])
def s_l10Fits_6 : SC := (.seq (.block 1 (.seq (.reg ( fI 4 (.mv (kI 0)) :: []) [1, 3, 4]) (.block 2 (.loop s_l10Fits_l4)))) s_l10Fits_5)
def s_l10Fits_l7 : SC := (.seq (.seq (.reg ( fI 5 (.mv (.t 3)) :: fI 6 (.fad 2 (.t 1)) :: fI 7 (.ld 1 false (.t 6)) :: fI 8 (.len (.t 7)) :: fI 9 (.bin 0 .lss (.t 5) (.t 8)) :: []) [1, 3, 9]) (.cond (.t 9) .skip (.exit 0))) s_l10Fits_6)
def s_l10Fits_8 : SC := (.seq (.reg ( fI 38 (.fad 2 (.t 1)) :: fI 39 (.ld 1 false (.t 38)) :: fI 40 (.len (.t 39)) :: fI 41 (.bin 0 .gtr (.t 40) (kI 0)) :: fI 2 (.mv (.t 41)) :: []) [2]) .ret)
def s_l10Fits_9 : SC := (.seq (.seq (.reg ( fI 3 (.mv (kI 0)) :: []) [1, 3]) (.block 0 (.loop s_l10Fits_l7))) s_l10Fits_8)
def s_l10Fits : SC := (.seq (.reg ( fI 1 (.box (.t 0)) :: fI 2 (.mv (.k (.c (.bool false)))) :: []) [1]) s_l10Fits_9)
def r_l10Fits : List RS := [.tmp 2]
theorem m_l10Fits : mFn prog fn_l10Fits 1 42 s_l10Fits r_l10Fits = true := by kernel_rfl
def s_l17Heads_i0 : List Item := fI 7 (.mv (.t 19)) :: []
def s_l17Heads_i1 : List Item := fI 5 (.mv (.t 38)) :: []
def s_l17Heads_2 : SC := (.cond (.t 35) (.reg ( fI 36 (.mv (.t 5)) :: fI 37 (.mv (.t 6)) :: eI 38 (.call fn_l7Insert [.t 36, .t 37]) :: s_l17Heads_i1) [1, 2, 5, 6, 7, 8]) .skip)
def s_l17Heads_3 : SC := (.reg ( fI 24 (.mv (.t 8)) :: fI 25 (.bin 0 .add (.t 24) (kI 1)) :: fI 8 (.mv (.t 25)) :: []) [1, 2, 5, 6, 7, 8])
def s_l17Heads_4 : SC := (.seq (.block 3 (.seq (.dreg 10 [0, 1, 2, 3, 4, 5, 6, 7, 8, 9] ( fI 26 (.mv (.t 1)) :: fI 27 (.mv (.t 6)) :: fI 28 (.iad 1 (.t 26) (.t 27)) :: fI 29 (.ld 1 false (.t 28)) :: fI 30 (.mv (.t 7)) :: fI 31 (.mv (.t 8)) :: fI 32 (.iad 1 (.t 30) (.t 31)) :: fI 33 (.ld 1 false (.t 32)) :: fI 34 (.iad 1 (.t 29) (.t 33)) :: fI 35 (.ld 1 false (.t 34)) :: []) [1, 2, 5, 6, 7, 8, 35]) s_l17Heads_2)) s_l17Heads_3)
def s_l17Heads_l5 : SC := (.seq (.seq (.reg ( fI 20 (.mv (.t 8)) :: fI 21 (.mv (.t 7)) :: fI 22 (.len (.t 21)) :: fI 23 (.bin 0 .lss (.t 20) (.t 22)) :: []) [1, 2, 5, 6, 7, 8, 23]) (.cond (.t 23) .skip (.exit 2))) s_l17Heads_4)
def s_l17Heads_6 : SC := (.seq (.reg ( fI 8 (.mv (kI 0)) :: []) [1, 2, 5, 6, 7, 8]) (.block 2 (.loop s_l17Heads_l5)))
def s_l17Heads_7 : SC := (.reg ( fI 15 (.mv (.t 6)) :: fI 16 (.bin 0 .add (.t 15) (kI 1)) :: fI 6 (.mv (.t 16)) :: []) [1, 2, 5, 6])
def s_l17Heads_8 : SC := (.seq (.block 1 (.seq (.reg ( fI 17 (.ld 3 true (.t 2)) :: fI 18 (.mv (.t 6)) :: eI 19 (.call fn_l7Preds [.t 17, .t 18]) :: s_l17Heads_i0) [1, 2, 5, 6, 7]) s_l17Heads_6)) s_l17Heads_7)
def s_l17Heads_l9 : SC := (.seq (.seq (.reg ( fI 10 (.mv (.t 6)) :: fI 11 (.fad 2 (.t 2)) :: fI 12 (.ld 1 false (.t 11)) :: fI 13 (.len (.t 12)) :: fI 14 (.bin 0 .lss (.t 10) (.t 13)) :: []) [1, 2, 5, 6, 14]) (.cond (.t 14) .skip (.exit 0))) s_l17Heads_8)
def s_l17Heads_10 : SC := (.seq (.reg ( fI 39 (.mv (.t 5)) :: fI 4 (.mv (.t 39)) :: []) [4]) .ret)
def s_l17Heads_11 : SC := (.seq (.seq (.reg ( fI 6 (.mv (kI 0)) :: []) [1, 2, 5, 6]) (.block 0 (.loop s_l17Heads_l9))) s_l17Heads_10)
def s_l17Heads_12 : SC := (.seq (.reg ( fI 9 (.bsl 1 []) :: fI 5 (.mv (.t 9)) :: []) [1, 2, 5]) s_l17Heads_11)
def s_l17Heads : SC := (.seq (.reg ( fI 2 (.box (.t 0)) :: fI 4 (.mv (.k (.c (.sl true 1 [])))) :: []) [1, 2]) s_l17Heads_12)
def r_l17Heads : List RS := [.tmp 4]
theorem m_l17Heads : mFn prog fn_l17Heads 2 40 s_l17Heads r_l17Heads = true := by kernel_rfl
def s_l7Insert_0 : SC := (.block 1 (.reg ( fI 19 (.mv (.t 5)) :: fI 20 (.bin 0 .add (.t 19) (kI 1)) :: fI 5 (.mv (.t 20)) :: []) [0, 1, 5]))
def s_l7Insert_l1 : SC := (.seq (.seq (.reg ( fI 7 (.mv (.t 5)) :: fI 8 (.mv (.t 0)) :: fI 9 (.len (.t 8)) :: fI 10 (.bin 0 .lss (.t 7) (.t 9)) :: fI 11 (.mv (.t 10)) :: gT 12 11 (.mv (.t 0)) :: gT 13 11 (.mv (.t 5)) :: gT 14 11 (.iad 1 (.t 12) (.t 13)) :: gT 15 11 (.ld 1 false (.t 14)) :: gT 16 11 (.mv (.t 1)) :: gT 17 11 (.bin 0 .lss (.t 15) (.t 16)) :: fI 18 (.pick (.t 11) (.t 17) (.k (.c (.bool false)))) :: []) [0, 1, 5, 18]) (.cond (.t 18) .skip (.exit 0))) s_l7Insert_0)
def s_l7Insert_2 : SC := (.cond (.t 32) (.seq (.reg ( fI 33 (.mv (.t 0)) :: fI 4 (.mv (.t 33)) :: []) [4]) .ret) .skip)
def s_l7Insert_i3 : List Item := fI 6 (.mv (.t 38)) :: []
def s_l7Insert_i4 : List Item := fI 4 (.mv (.t 46)) :: []
def s_l7Insert_i5 : List Item := .chk 45 none (.sli 1 (.t 43) (some (.t 44)) none) :: eI 46 (.app 1 (.t 42) (.t 45)) :: s_l7Insert_i4
def s_l7Insert_6 : SC := (.seq (.dreg 9 [0, 1, 2, 4, 5, 6, 3, 6, 7, 8] ( fI 39 (.mv (.t 6)) :: fI 40 (.mv (.t 1)) :: fI 41 (.bsl 1 [.t 40]) :: fI 43 (.mv (.t 0)) :: fI 44 (.mv (.t 5)) :: fI 45 (.sli 1 (.t 43) (some (.t 44)) none) :: eI 42 (.app 1 (.t 39) (.t 41)) :: s_l7Insert_i5) [4]) .ret)
def s_l7Insert_7 : SC := (.seq (.reg ( fI 34 (.bsl 1 []) :: fI 35 (.mv (.t 0)) :: fI 36 (.mv (.t 5)) :: fI 37 (.sli 1 (.t 35) none (some (.t 36))) :: eI 38 (.app 1 (.t 34) (.t 37)) :: s_l7Insert_i3) [0, 1, 5, 6]) s_l7Insert_6)
def s_l7Insert_8 : SC := (.seq (.seq (.reg ( fI 21 (.mv (.t 5)) :: fI 22 (.mv (.t 0)) :: fI 23 (.len (.t 22)) :: fI 24 (.bin 0 .lss (.t 21) (.t 23)) :: fI 25 (.mv (.t 24)) :: gT 26 25 (.mv (.t 0)) :: gT 27 25 (.mv (.t 5)) :: gT 28 25 (.iad 1 (.t 26) (.t 27)) :: gT 29 25 (.ld 1 false (.t 28)) :: gT 30 25 (.mv (.t 1)) :: gT 31 25 (.bin 0 .eql (.t 29) (.t 30)) :: fI 32 (.pick (.t 25) (.t 31) (.k (.c (.bool false)))) :: []) [0, 1, 5, 32]) s_l7Insert_2) s_l7Insert_7)
def s_l7Insert_9 : SC := (.seq (.reg ( fI 5 (.mv (kI 0)) :: []) [0, 1, 5]) (.seq (.block 0 (.loop s_l7Insert_l1)) s_l7Insert_8))
def s_l7Insert : SC := (.seq (.reg ( fI 4 (.mv (.k (.c (.sl true 1 [])))) :: []) [0, 1]) s_l7Insert_9)
def r_l7Insert : List RS := [.tmp 4]
theorem m_l7Insert : mFn prog fn_l7Insert 2 47 s_l7Insert r_l7Insert = true := by kernel_rfl
def s_l10Visit_i0 : List Item := fI 3 (.mv (.t 49)) :: []
def s_l10Visit_1 : SC := (.cond (.t 36) (.dreg 14 [0, 1, 2, 3, 4, 5, 6, 7, 8, 9, 10, 11, 12, 13] ( fI 37 (.ld 3 true (.t 4)) :: fI 38 (.fad 2 (.t 4)) :: fI 39 (.ld 1 false (.t 38)) :: fI 40 (.mv (.t 1)) :: fI 41 (.iad 5 (.t 39) (.t 40)) :: fI 42 (.fad 4 (.t 41)) :: fI 43 (.ld 1 false (.t 42)) :: fI 44 (.mv (.t 9)) :: fI 45 (.iad 1 (.t 43) (.t 44)) :: fI 46 (.ld 1 false (.t 45)) :: fI 47 (.mv (.t 2)) :: fI 48 (.mv (.t 3)) :: eI 49 (.call fn_l10Visit [.t 37, .t 46, .t 47, .t 48]) :: s_l10Visit_i0) [1, 2, 3, 4, 9]) .skip)
def s_l10Visit_2 : SC := (.reg ( fI 22 (.mv (.t 9)) :: fI 23 (.bin 0 .add (.t 22) (kI 1)) :: fI 9 (.mv (.t 23)) :: []) [1, 2, 3, 4, 9])
def s_l10Visit_3 : SC := (.seq (.block 1 (.seq (.reg ( fI 24 (.mv (.t 2)) :: fI 25 (.fad 2 (.t 4)) :: fI 26 (.ld 1 false (.t 25)) :: fI 27 (.mv (.t 1)) :: fI 28 (.iad 5 (.t 26) (.t 27)) :: fI 29 (.fad 4 (.t 28)) :: fI 30 (.ld 1 false (.t 29)) :: fI 31 (.mv (.t 9)) :: fI 32 (.iad 1 (.t 30) (.t 31)) :: fI 33 (.ld 1 false (.t 32)) :: fI 34 (.iad 1 (.t 24) (.t 33)) :: fI 35 (.ld 1 false (.t 34)) :: fI 36 (.not (.t 35)) :: []) [1, 2, 3, 4, 9, 36]) s_l10Visit_1)) s_l10Visit_2)
def s_l10Visit_l4 : SC := (.seq (.seq (.reg ( fI 13 (.mv (.t 9)) :: fI 14 (.fad 2 (.t 4)) :: fI 15 (.ld 1 false (.t 14)) :: fI 16 (.mv (.t 1)) :: fI 17 (.iad 5 (.t 15) (.t 16)) :: fI 18 (.fad 4 (.t 17)) :: fI 19 (.ld 1 false (.t 18)) :: fI 20 (.len (.t 19)) :: fI 21 (.bin 0 .lss (.t 13) (.t 20)) :: []) [1, 2, 3, 4, 9, 21]) (.cond (.t 21) .skip (.exit 0))) s_l10Visit_3)
def s_l10Visit_i5 : List Item := fI 8 (.mv (.t 53)) :: []
def s_l10Visit_6 : SC := (.seq (.reg ( fI 50 (.mv (.t 3)) :: fI 51 (.mv (.t 1)) :: fI 52 (.bsl 1 [.t 51]) :: eI 53 (.app 1 (.t 50) (.t 52)) :: s_l10Visit_i5) [8]) .ret)
def s_l10Visit_7 : SC := (.seq (.seq (.reg ( fI 9 (.mv (kI 0)) :: []) [1, 2, 3, 4, 9]) (.block 0 (.loop s_l10Visit_l4))) s_l10Visit_6)
def s_l10Visit_8 : SC := (.seq (.reg ( fI 10 (.mv (.t 2)) :: fI 11 (.mv (.t 1)) :: fI 12 (.iad 1 (.t 10) (.t 11)) :: .e none none (.sto 1 (.t 12) (.k (.c (.bool true)))) :: []) [1, 2, 3, 4]) s_l10Visit_7)
def s_l10Visit : SC := (.seq (.reg ( fI 4 (.box (.t 0)) :: fI 8 (.mv (.k (.c (.sl true 1 [])))) :: []) [1, 2, 3, 4]) s_l10Visit_8)
def r_l10Visit : List RS := [.tmp 8]
theorem m_l10Visit : mFn prog fn_l10Visit 4 54 s_l10Visit r_l10Visit = true := by kernel_rfl
def s_sl_ContainsFunc_Block_i0 : List Item := fI 8 (.bin 0 .geq (.t 7) (kI 0)) :: fI 4 (.mv (.t 8)) :: []
def s_sl_ContainsFunc_Block_1 : SC := (.seq (.reg ( fI 5 (.mv (.t 0)) :: fI 6 (.mv (.t 1)) :: eI 7 (.call fn_sl_IndexFunc_Block [.t 5, .t 6]) :: s_sl_ContainsFunc_Block_i0) [4]) .ret)
def s_sl_ContainsFunc_Block : SC := (.seq (.reg ( fI 4 (.mv (.k (.c (.bool false)))) :: []) [0, 1]) s_sl_ContainsFunc_Block_1)
def r_sl_ContainsFunc_Block : List RS := [.tmp 4]
theorem m_sl_ContainsFunc_Block : mFn prog fn_sl_ContainsFunc_Block 2 9 s_sl_ContainsFunc_Block r_sl_ContainsFunc_Block = true := by kernel_rfl
def s_im_graphOk_c1_i0 : List Item := fI 3 (.mv (.t 7)) :: []
def s_im_graphOk_c1_1 : SC := (.seq (.reg ( fI 4 (.fad 4 (.t 2)) :: fI 5 (.ld 1 false (.t 4)) :: fI 6 (.mkf fn_im_graphOk_c1_c1 [.t 1]) :: eI 7 (.call fn_sl_ContainsFunc [.t 5, .t 6]) :: s_im_graphOk_c1_i0) [3]) .ret)
def s_im_graphOk_c1 : SC := (.seq (.reg ( fI 2 (.box (.t 0)) :: fI 3 (.mv (.k (.c (.bool false)))) :: []) [1, 2]) s_im_graphOk_c1_1)
def r_im_graphOk_c1 : List RS := [.tmp 3]
theorem m_im_graphOk_c1 : mFn prog fn_im_graphOk_c1 2 8 s_im_graphOk_c1 r_im_graphOk_c1 = true := by kernel_rfl
def s_sl_Clone_0 : SC := (.cond (.t 4) (.seq (.reg ( fI 2 (.mv (.k (.c (.sl true 1 [])))) :: []) [2]) .ret) .skip)
def s_sl_Clone_i1 : List Item := fI 2 (.mv (.t 7)) :: []
def s_sl_Clone_2 : SC := (.seq (.reg ( fI 5 (.bsl 1 []) :: fI 6 (.mv (.t 0)) :: eI 7 (.app 1 (.t 5) (.t 6)) :: s_sl_Clone_i1) [2]) .ret)
def s_sl_Clone_3 : SC := (.seq (.seq (.reg ( fI 3 (.mv (.t 0)) :: eI 4 (.nilq (.t 3)) :: []) [0, 4]) s_sl_Clone_0) s_sl_Clone_2)
def s_sl_Clone : SC := (.seq (.reg ( fI 2 (.mv (.k (.c (.sl true 1 [])))) :: []) [0]) s_sl_Clone_3)
def r_sl_Clone : List RS := [.tmp 2]
theorem m_sl_Clone : mFn prog fn_sl_Clone 1 8 s_sl_Clone r_sl_Clone = true := by kernel_rfl
def s_sl_Sort_i0 : List Item := eI 10 (.call fn_sl_pdqsortOrdered [.t 5, kI 0, .t 6, .t 9]) :: []
def s_sl_Sort_1 : SC := (.reg ( fI 5 (.mv (.t 0)) :: fI 6 (.mv (.t 2)) :: fI 7 (.mv (.t 2)) :: fI 8 (.cvt .u64 (.t 7)) :: eI 9 (.call fn_bits_Len [.t 8]) :: s_sl_Sort_i0) [])
def s_sl_Sort : SC := (.seq (.reg ( fI 3 (.mv (.t 0)) :: fI 4 (.len (.t 3)) :: fI 2 (.mv (.t 4)) :: []) [0, 2]) s_sl_Sort_1)
def r_sl_Sort : List RS := []
theorem m_sl_Sort : mFn prog fn_sl_Sort 1 11 s_sl_Sort r_sl_Sort = true := by kernel_rfl
def s_sl_Compact_0 : SC := (.cond (.t 8) (.seq (.reg ( fI 9 (.mv (.t 0)) :: fI 2 (.mv (.t 9)) :: []) [2]) .ret) .skip)
def s_sl_Compact_1 : SC := (.reg ( fI 52 (.mv (.t 3)) :: fI 53 (.bin 0 .add (.t 52) (kI 1)) :: fI 3 (.mv (.t 53)) :: []) [0, 3, 4, 5])
def s_sl_Compact_2 : SC := (.cond (.t 44) (.seq (.reg ( fI 45 (.mv (.t 0)) :: fI 46 (.mv (.t 3)) :: fI 47 (.mv (.t 4)) :: fI 48 (.mv (.t 5)) :: fI 49 (.iad 1 (.t 47) (.t 48)) :: fI 50 (.ld 1 false (.t 49)) :: fI 51 (.iad 1 (.t 45) (.t 46)) :: .e none none (.sto 1 (.t 51) (.t 50)) :: []) [0, 3, 4, 5]) s_sl_Compact_1) .skip)
def s_sl_Compact_3 : SC := (.reg ( fI 33 (.mv (.t 5)) :: fI 34 (.bin 0 .add (.t 33) (kI 1)) :: fI 5 (.mv (.t 34)) :: []) [0, 3, 4, 5])
def s_sl_Compact_4 : SC := (.seq (.block 3 (.seq (.dreg 10 [0, 1, 2, 3, 4, 5, 6, 7, 8, 9] ( fI 35 (.mv (.t 4)) :: fI 36 (.mv (.t 5)) :: fI 37 (.iad 1 (.t 35) (.t 36)) :: fI 38 (.ld 1 false (.t 37)) :: fI 39 (.mv (.t 4)) :: fI 40 (.mv (.t 5)) :: fI 41 (.bin 0 .sub (.t 40) (kI 1)) :: fI 42 (.iad 1 (.t 39) (.t 41)) :: fI 43 (.ld 1 false (.t 42)) :: fI 44 (.bin 0 .neq (.t 38) (.t 43)) :: []) [0, 3, 4, 5, 44]) s_sl_Compact_2)) s_sl_Compact_3)
def s_sl_Compact_l5 : SC := (.seq (.seq (.reg ( fI 29 (.mv (.t 5)) :: fI 30 (.mv (.t 4)) :: fI 31 (.len (.t 30)) :: fI 32 (.bin 0 .lss (.t 29) (.t 31)) :: []) [0, 3, 4, 5, 32]) (.cond (.t 32) .skip (.exit 2))) s_sl_Compact_4)
def s_sl_Compact_6 : SC := (.seq (.reg ( fI 57 (.mv (.t 0)) :: fI 58 (.mv (.t 3)) :: fI 59 (.sli 1 (.t 57) none (some (.t 58))) :: fI 2 (.mv (.t 59)) :: []) [2]) .ret)
def s_sl_Compact_7 : SC := (.seq (.reg ( fI 54 (.mv (.t 0)) :: fI 55 (.mv (.t 3)) :: fI 56 (.sli 1 (.t 54) (some (.t 55)) none) :: .e none none (.clrs 1 [.int .i64 0] (.t 56)) :: []) [0, 3]) s_sl_Compact_6)
def s_sl_Compact_8 : SC := (.seq (.seq (.reg ( fI 5 (.mv (kI 1)) :: []) [0, 3, 4, 5]) (.block 2 (.loop s_sl_Compact_l5))) s_sl_Compact_7)
def s_sl_Compact_9 : SC := (.cond (.t 25) (.seq (.reg ( fI 26 (.mv (.t 0)) :: fI 27 (.mv (.t 3)) :: fI 28 (.sli 1 (.t 26) (some (.t 27)) none) :: fI 4 (.mv (.t 28)) :: []) [0, 3, 4]) s_sl_Compact_8) .skip)
def s_sl_Compact_10 : SC := (.reg ( fI 14 (.mv (.t 3)) :: fI 15 (.bin 0 .add (.t 14) (kI 1)) :: fI 3 (.mv (.t 15)) :: []) [0, 3])
def s_sl_Compact_11 : SC := (.seq (.block 1 (.seq (.dreg 10 [0, 1, 2, 3, 4, 5, 6, 7, 8, 9] ( fI 16 (.mv (.t 0)) :: fI 17 (.mv (.t 3)) :: fI 18 (.iad 1 (.t 16) (.t 17)) :: fI 19 (.ld 1 false (.t 18)) :: fI 20 (.mv (.t 0)) :: fI 21 (.mv (.t 3)) :: fI 22 (.bin 0 .sub (.t 21) (kI 1)) :: fI 23 (.iad 1 (.t 20) (.t 22)) :: fI 24 (.ld 1 false (.t 23)) :: fI 25 (.bin 0 .eql (.t 19) (.t 24)) :: []) [0, 3, 25]) s_sl_Compact_9)) s_sl_Compact_10)
def s_sl_Compact_l12 : SC := (.seq (.seq (.reg ( fI 10 (.mv (.t 3)) :: fI 11 (.mv (.t 0)) :: fI 12 (.len (.t 11)) :: fI 13 (.bin 0 .lss (.t 10) (.t 12)) :: []) [0, 3, 13]) (.cond (.t 13) .skip (.exit 0))) s_sl_Compact_11)
def s_sl_Compact_13 : SC := (.seq (.reg ( fI 60 (.mv (.t 0)) :: fI 2 (.mv (.t 60)) :: []) [2]) .ret)
def s_sl_Compact_14 : SC := (.seq (.seq (.reg ( fI 3 (.mv (kI 1)) :: []) [0, 3]) (.block 0 (.loop s_sl_Compact_l12))) s_sl_Compact_13)
def s_sl_Compact_15 : SC := (.seq (.seq (.reg ( fI 6 (.mv (.t 0)) :: fI 7 (.len (.t 6)) :: fI 8 (.bin 0 .lss (.t 7) (kI 2)) :: []) [0, 8]) s_sl_Compact_0) s_sl_Compact_14)
def s_sl_Compact : SC := (.seq (.reg ( fI 2 (.mv (.k (.c (.sl true 1 [])))) :: []) [0]) s_sl_Compact_15)
def r_sl_Compact : List RS := [.tmp 2]
theorem m_sl_Compact : mFn prog fn_sl_Compact 1 61 s_sl_Compact r_sl_Compact = true := by kernel_rfl
def s_im_visits_c1_0 : SC := (.cond (.t 26) (.reg ( fI 27 (.ld 1 false (.t 3)) :: fI 28 (.mv (.t 7)) :: eI 29 (.callv (.t 27) [.t 28]) :: []) [0, 1, 3, 4, 16, 17, 18]) .skip)
def s_im_visits_c1_1 : SC := (.seq (.reg ( fI 22 (.ld 1 false (.t 1)) :: fI 23 (.mv (.t 7)) :: fI 24 (.iad 1 (.t 22) (.t 23)) :: fI 25 (.ld 1 false (.t 24)) :: fI 26 (.not (.t 25)) :: []) [0, 1, 3, 4, 7, 16, 17, 18, 26]) s_im_visits_c1_0)
def s_im_visits_c1_2 : SC := (.reg ( fI 30 (.bin 0 .add (.t 18) (kI 1)) :: fI 18 (.mv (.t 30)) :: []) [0, 1, 3, 4, 16, 17, 18])
def s_im_visits_c1_3 : SC := (.seq (.block 1 (.seq (.reg ( fI 20 (.iad 1 (.t 16) (.t 18)) :: fI 21 (.ld 1 false (.t 20)) :: fI 7 (.mv (.t 21)) :: []) [0, 1, 3, 4, 7, 16, 17, 18]) s_im_visits_c1_1)) s_im_visits_c1_2)
def s_im_visits_c1_l4 : SC := (.seq (.reg ( fI 19 (.bin 0 .lss (.t 18) (.t 17)) :: []) [0, 1, 3, 4, 16, 17, 18, 19]) (.seq (.cond (.t 19) .skip (.exit 0)) s_im_visits_c1_3))
def s_im_visits_c1_i5 : List Item := .e none none (.sto 1 (.t 4) (.t 34)) :: []
def s_im_visits_c1_6 : SC := (.reg ( fI 31 (.ld 1 false (.t 4)) :: fI 32 (.mv (.t 0)) :: fI 33 (.bsl 1 [.t 32]) :: eI 34 (.app 1 (.t 31) (.t 33)) :: s_im_visits_c1_i5) [])
def s_im_visits_c1_7 : SC := (.seq (.seq (.reg ( fI 11 (.fad 2 (.t 2)) :: fI 12 (.ld 1 false (.t 11)) :: fI 13 (.mv (.t 0)) :: fI 14 (.iad 5 (.t 12) (.t 13)) :: fI 15 (.fad 4 (.t 14)) :: fI 16 (.ld 1 false (.t 15)) :: fI 17 (.len (.t 16)) :: fI 18 (.mv (kI 0)) :: []) [0, 1, 3, 4, 16, 17, 18]) (.block 0 (.loop s_im_visits_c1_l4))) s_im_visits_c1_6)
def s_im_visits_c1 : SC := (.seq (.reg ( fI 8 (.ld 1 false (.t 1)) :: fI 9 (.mv (.t 0)) :: fI 10 (.iad 1 (.t 8) (.t 9)) :: .e none none (.sto 1 (.t 10) (.k (.c (.bool true)))) :: []) [0, 1, 2, 3, 4]) s_im_visits_c1_7)
def r_im_visits_c1 : List RS := []
theorem m_im_visits_c1 : mFn prog fn_im_visits_c1 5 35 s_im_visits_c1 r_im_visits_c1 = true := by kernel_rfl
def s_im_within_0 : SC := (.seq (.reg ( fI 7 (.mv (.t 1)) :: fI 8 (.mv (.t 0)) :: fI 9 (.bin 0 .leq (.t 7) (.t 8)) :: fI 10 (.mv (.t 9)) :: gT 11 10 (.mv (.t 0)) :: gT 12 10 (.mv (.t 2)) :: gT 13 10 (.bin 0 .leq (.t 11) (.t 12)) :: fI 14 (.pick (.t 10) (.t 13) (.k (.c (.bool false)))) :: fI 6 (.mv (.t 14)) :: []) [6]) .ret)
def s_im_within : SC := (.seq (.reg ( fI 6 (.mv (.k (.c (.bool false)))) :: []) [0, 1, 2]) s_im_within_0)
def r_im_within : List RS := [.tmp 6]
theorem m_im_within : mFn prog fn_im_within 3 15 s_im_within r_im_within = true := by kernel_rfl
def s_sl_IndexFunc_0 : SC := (.cond (.t 16) (.seq (.reg ( fI 17 (.mv (.t 5)) :: fI 4 (.mv (.t 17)) :: []) [4]) .ret) .skip)
def s_sl_IndexFunc_1 : SC := (.seq (.reg ( fI 11 (.mv (.t 1)) :: fI 12 (.mv (.t 0)) :: fI 13 (.mv (.t 5)) :: fI 14 (.iad 1 (.t 12) (.t 13)) :: fI 15 (.ld 1 false (.t 14)) :: eI 16 (.callv (.t 11) [.t 15]) :: []) [0, 1, 5, 7, 8, 16]) s_sl_IndexFunc_0)
def s_sl_IndexFunc_2 : SC := (.reg ( fI 18 (.bin 0 .add (.t 8) (kI 1)) :: fI 8 (.mv (.t 18)) :: []) [0, 1, 7, 8])
def s_sl_IndexFunc_3 : SC := (.seq (.block 1 (.seq (.reg ( fI 10 (.mv (.t 8)) :: fI 5 (.mv (.t 10)) :: []) [0, 1, 5, 7, 8]) s_sl_IndexFunc_1)) s_sl_IndexFunc_2)
def s_sl_IndexFunc_l4 : SC := (.seq (.reg ( fI 9 (.bin 0 .lss (.t 8) (.t 7)) :: []) [0, 1, 7, 8, 9]) (.seq (.cond (.t 9) .skip (.exit 0)) s_sl_IndexFunc_3))
def s_sl_IndexFunc_5 : SC := (.seq (.reg ( fI 4 (.mv (kI (-1))) :: []) [4]) .ret)
def s_sl_IndexFunc_6 : SC := (.seq (.seq (.reg ( fI 6 (.mv (.t 0)) :: fI 7 (.len (.t 6)) :: fI 8 (.mv (kI 0)) :: []) [0, 1, 7, 8]) (.block 0 (.loop s_sl_IndexFunc_l4))) s_sl_IndexFunc_5)
def s_sl_IndexFunc : SC := (.seq (.reg ( fI 4 (.mv (kI 0)) :: []) [0, 1]) s_sl_IndexFunc_6)
def r_sl_IndexFunc : List RS := [.tmp 4]
theorem m_sl_IndexFunc : mFn prog fn_sl_IndexFunc 2 19 s_sl_IndexFunc r_sl_IndexFunc = true := by kernel_rfl
def s_im_doms_has_i0 : List Item := fI 16 (.pick (.t 7) (.t 15) (.k (.c (.bool false)))) :: fI 17 (.mv (.t 16)) :: gT 18 17 (.mv (.t 0)) :: gT 19 17 (.nck (.t 18)) :: gT 20 17 (.fad 4 (.t 19)) :: gT 21 17 (.ld 1 false (.t 20)) :: gT 22 17 (.mv (.t 1)) :: gT 23 17 (.iad 1 (.t 21) (.t 22)) :: gT 24 17 (.ld 1 false (.t 23)) :: fI 25 (.pick (.t 17) (.t 24) (.k (.c (.bool false)))) :: fI 4 (.mv (.t 25)) :: []
def s_im_doms_has_1 : SC := (.seq (.reg ( fI 5 (.mv (.t 0)) :: fI 6 (.bin 2 .neq (.t 5) (.k (.c .pnil))) :: fI 7 (.mv (.t 6)) :: gT 8 7 (.mv (.t 1)) :: gT 9 7 (.mv (.t 0)) :: gT 10 7 (.nck (.t 9)) :: gT 11 7 (.fad 4 (.t 10)) :: gT 12 7 (.ld 1 false (.t 11)) :: gT 13 7 (.len (.t 12)) :: gT 14 7 (.bin 0 .sub (.t 13) (kI 1)) :: .e (some 15) (some (7, true)) (.call fn_im_within [.t 8, kI 0, .t 14]) :: s_im_doms_has_i0) [4]) .ret)
def s_im_doms_has : SC := (.seq (.reg ( fI 4 (.mv (.k (.c (.bool false)))) :: []) [0, 1]) s_im_doms_has_1)
def r_im_doms_has : List RS := [.tmp 4]
theorem m_im_doms_has : mFn prog fn_im_doms_has 2 26 s_im_doms_has r_im_doms_has = true := by kernel_rfl
def s_sl_IndexFunc_Block_0 : SC := (.cond (.t 16) (.seq (.reg ( fI 17 (.mv (.t 5)) :: fI 4 (.mv (.t 17)) :: []) [4]) .ret) .skip)
def s_sl_IndexFunc_Block_1 : SC := (.seq (.reg ( fI 11 (.mv (.t 1)) :: fI 12 (.mv (.t 0)) :: fI 13 (.mv (.t 5)) :: fI 14 (.iad 5 (.t 12) (.t 13)) :: fI 15 (.ld 5 true (.t 14)) :: eI 16 (.callv (.t 11) [.t 15]) :: []) [0, 1, 5, 7, 8, 16]) s_sl_IndexFunc_Block_0)
def s_sl_IndexFunc_Block_2 : SC := (.reg ( fI 18 (.bin 0 .add (.t 8) (kI 1)) :: fI 8 (.mv (.t 18)) :: []) [0, 1, 7, 8])
def s_sl_IndexFunc_Block_3 : SC := (.seq (.block 1 (.seq (.reg ( fI 10 (.mv (.t 8)) :: fI 5 (.mv (.t 10)) :: []) [0, 1, 5, 7, 8]) s_sl_IndexFunc_Block_1)) s_sl_IndexFunc_Block_2)
def s_sl_IndexFunc_Block_l4 : SC := (.seq (.reg ( fI 9 (.bin 0 .lss (.t 8) (.t 7)) :: []) [0, 1, 7, 8, 9]) (.seq (.cond (.t 9) .skip (.exit 0)) s_sl_IndexFunc_Block_3))
def s_sl_IndexFunc_Block_5 : SC := (.seq (.reg ( fI 4 (.mv (kI (-1))) :: []) [4]) .ret)
def s_sl_IndexFunc_Block_6 : SC := (.seq (.seq (.reg ( fI 6 (.mv (.t 0)) :: fI 7 (.len (.t 6)) :: fI 8 (.mv (kI 0)) :: []) [0, 1, 7, 8]) (.block 0 (.loop s_sl_IndexFunc_Block_l4))) s_sl_IndexFunc_Block_5)
def s_sl_IndexFunc_Block : SC := (.seq (.reg ( fI 4 (.mv (kI 0)) :: []) [0, 1]) s_sl_IndexFunc_Block_6)
def r_sl_IndexFunc_Block : List RS := [.tmp 4]
theorem m_sl_IndexFunc_Block : mFn prog fn_sl_IndexFunc_Block 2 19 s_sl_IndexFunc_Block r_sl_IndexFunc_Block = true := by kernel_rfl
def s_im_graphOk_c1_c1_i0 : List Item := fI 10 (.not (.t 9)) :: fI 3 (.mv (.t 10)) :: []
def s_im_graphOk_c1_c1_1 : SC := (.seq (.reg ( fI 4 (.mv (.t 0)) :: fI 5 (.fad 2 (.t 1)) :: fI 6 (.ld 1 false (.t 5)) :: fI 7 (.len (.t 6)) :: fI 8 (.bin 0 .sub (.t 7) (kI 1)) :: eI 9 (.call fn_im_within [.t 4, kI 0, .t 8]) :: s_im_graphOk_c1_c1_i0) [3]) .ret)
def s_im_graphOk_c1_c1 : SC := (.seq (.reg ( fI 3 (.mv (.k (.c (.bool false)))) :: []) [0, 1]) s_im_graphOk_c1_c1_1)
def r_im_graphOk_c1_c1 : List RS := [.tmp 3]
theorem m_im_graphOk_c1_c1 : mFn prog fn_im_graphOk_c1_c1 2 11 s_im_graphOk_c1_c1 r_im_graphOk_c1_c1 = true := by kernel_rfl
def s_sl_pdqsortOrdered_0 : SC := (.cond (.t 23) (.seq (.reg ( fI 24 (.mv (.t 0)) :: fI 25 (.mv (.t 1)) :: fI 26 (.mv (.t 2)) :: eI 27 (.call fn_sl_insertionSortOrdered [.t 24, .t 25, .t 26]) :: []) []) .ret) .skip)
def s_sl_pdqsortOrdered_1 : SC := (.cond (.t 29) (.seq (.reg ( fI 30 (.mv (.t 0)) :: fI 31 (.mv (.t 1)) :: fI 32 (.mv (.t 2)) :: eI 33 (.call fn_sl_heapSortOrdered [.t 30, .t 31, .t 32]) :: []) []) .ret) .skip)
def s_sl_pdqsortOrdered_2 : SC := (.reg ( fI 40 (.mv (.t 3)) :: fI 41 (.bin 0 .sub (.t 40) (kI 1)) :: fI 3 (.mv (.t 41)) :: []) [0, 1, 2, 3, 8, 9, 10])
def s_sl_pdqsortOrdered_3 : SC := (.cond (.t 35) (.seq (.reg ( fI 36 (.mv (.t 0)) :: fI 37 (.mv (.t 1)) :: fI 38 (.mv (.t 2)) :: eI 39 (.call fn_sl_breakPatternsOrdered [.t 36, .t 37, .t 38]) :: []) [0, 1, 2, 3, 8, 9, 10]) s_sl_pdqsortOrdered_2) .skip)
def s_sl_pdqsortOrdered_i4 : List Item := fI 42 (.mv (.t 46)) :: fI 47 (.ext (.t 42) 0) :: fI 48 (.ext (.t 42) 1) :: fI 11 (.mv (.t 47)) :: fI 12 (.mv (.t 48)) :: []
def s_sl_pdqsortOrdered_5 : SC := (.reg ( fI 12 (.mv (kI 1)) :: []) [0, 1, 2, 3, 8, 9, 10, 11, 12])
def s_sl_pdqsortOrdered_6 : SC := (.seq (.reg ( fI 55 (.mv (.t 2)) :: fI 56 (.bin 0 .sub (.t 55) (kI 1)) :: fI 57 (.mv (.t 11)) :: fI 58 (.mv (.t 1)) :: fI 59 (.bin 0 .sub (.t 57) (.t 58)) :: fI 60 (.bin 0 .sub (.t 56) (.t 59)) :: fI 11 (.mv (.t 60)) :: []) [0, 1, 2, 3, 8, 9, 10, 11]) s_sl_pdqsortOrdered_5)
def s_sl_pdqsortOrdered_7 : SC := (.cond (.t 50) (.seq (.reg ( fI 51 (.mv (.t 0)) :: fI 52 (.mv (.t 1)) :: fI 53 (.mv (.t 2)) :: eI 54 (.call fn_sl_reverseRangeOrdered [.t 51, .t 52, .t 53]) :: []) [0, 1, 2, 3, 8, 9, 10, 11]) s_sl_pdqsortOrdered_6) .skip)
def s_sl_pdqsortOrdered_8 : SC := (.cond (.t 68) (.seq (.reg ( fI 69 (.mv (.t 0)) :: fI 70 (.mv (.t 1)) :: fI 71 (.mv (.t 2)) :: eI 72 (.call fn_sl_partialInsertionSortOrdered [.t 69, .t 70, .t 71]) :: []) [0, 1, 2, 3, 8, 9, 10, 11, 72]) (.cond (.t 72) .ret .skip)) .skip)
def s_sl_pdqsortOrdered_i9 : List Item := gT 86 75 (.not (.t 85)) :: fI 87 (.pick (.t 75) (.t 86) (.k (.c (.bool false)))) :: []
def s_sl_pdqsortOrdered_i10 : List Item := fI 13 (.mv (.t 92)) :: []
def s_sl_pdqsortOrdered_11 : SC := (.seq (.reg ( fI 93 (.mv (.t 13)) :: fI 1 (.mv (.t 93)) :: []) [0, 1, 2, 3, 8, 9]) (.exit 1))
def s_sl_pdqsortOrdered_12 : SC := (.cond (.t 87) (.seq (.reg ( fI 88 (.mv (.t 0)) :: fI 89 (.mv (.t 1)) :: fI 90 (.mv (.t 2)) :: fI 91 (.mv (.t 11)) :: eI 92 (.call fn_sl_partitionEqualOrdered [.t 88, .t 89, .t 90, .t 91]) :: s_sl_pdqsortOrdered_i10) [0, 2, 3, 8, 9, 13]) s_sl_pdqsortOrdered_11) .skip)
def s_sl_pdqsortOrdered_i13 : List Item := fI 94 (.mv (.t 99)) :: fI 100 (.ext (.t 94) 0) :: fI 101 (.ext (.t 94) 1) :: fI 14 (.mv (.t 100)) :: fI 15 (.mv (.t 101)) :: []
def s_sl_pdqsortOrdered_14 : SC := (.reg ( fI 122 (.mv (.t 14)) :: fI 123 (.bin 0 .add (.t 122) (kI 1)) :: fI 1 (.mv (.t 123)) :: []) [0, 1, 2, 3, 8, 9])
def s_sl_pdqsortOrdered_15 : SC := (.seq (.reg ( fI 117 (.mv (.t 0)) :: fI 118 (.mv (.t 1)) :: fI 119 (.mv (.t 14)) :: fI 120 (.mv (.t 3)) :: eI 121 (.call fn_sl_pdqsortOrdered [.t 117, .t 118, .t 119, .t 120]) :: []) [0, 2, 3, 8, 9, 14]) s_sl_pdqsortOrdered_14)
def s_sl_pdqsortOrdered_16 : SC := (.reg ( fI 133 (.mv (.t 14)) :: fI 2 (.mv (.t 133)) :: []) [0, 1, 2, 3, 8, 9])
def s_sl_pdqsortOrdered_17 : SC := (.seq (.reg ( fI 127 (.mv (.t 0)) :: fI 128 (.mv (.t 14)) :: fI 129 (.bin 0 .add (.t 128) (kI 1)) :: fI 130 (.mv (.t 2)) :: fI 131 (.mv (.t 3)) :: eI 132 (.call fn_sl_pdqsortOrdered [.t 127, .t 129, .t 130, .t 131]) :: []) [0, 1, 3, 8, 9, 14]) s_sl_pdqsortOrdered_16)
def s_sl_pdqsortOrdered_18 : SC := (.cond (.t 113) (.seq (.reg ( fI 114 (.mv (.t 16)) :: fI 115 (.mv (.t 18)) :: fI 116 (.bin 0 .geq (.t 114) (.t 115)) :: fI 8 (.mv (.t 116)) :: []) [0, 1, 2, 3, 8, 9, 14]) s_sl_pdqsortOrdered_15) (.seq (.reg ( fI 124 (.mv (.t 17)) :: fI 125 (.mv (.t 18)) :: fI 126 (.bin 0 .geq (.t 124) (.t 125)) :: fI 8 (.mv (.t 126)) :: []) [0, 1, 2, 3, 8, 9, 14]) s_sl_pdqsortOrdered_17))
def s_sl_pdqsortOrdered_19 : SC := (.seq (.reg ( fI 111 (.mv (.t 16)) :: fI 112 (.mv (.t 17)) :: fI 113 (.bin 0 .lss (.t 111) (.t 112)) :: []) [0, 1, 2, 3, 9, 14, 16, 17, 18, 113]) s_sl_pdqsortOrdered_18)
def s_sl_pdqsortOrdered_20 : SC := (.seq (.reg ( fI 109 (.mv (.t 10)) :: fI 110 (.bin 0 .quo (.t 109) (kI 8)) :: fI 18 (.mv (.t 110)) :: []) [0, 1, 2, 3, 9, 14, 16, 17, 18]) s_sl_pdqsortOrdered_19)
def s_sl_pdqsortOrdered_21 : SC := (.seq (.reg ( fI 103 (.mv (.t 14)) :: fI 104 (.mv (.t 1)) :: fI 105 (.bin 0 .sub (.t 103) (.t 104)) :: fI 106 (.mv (.t 2)) :: fI 107 (.mv (.t 14)) :: fI 108 (.bin 0 .sub (.t 106) (.t 107)) :: fI 16 (.mv (.t 105)) :: fI 17 (.mv (.t 108)) :: []) [0, 1, 2, 3, 9, 10, 14, 16, 17]) s_sl_pdqsortOrdered_20)
def s_sl_pdqsortOrdered_22 : SC := (.seq (.reg ( fI 102 (.mv (.t 15)) :: fI 9 (.mv (.t 102)) :: []) [0, 1, 2, 3, 9, 10, 14]) s_sl_pdqsortOrdered_21)
def s_sl_pdqsortOrdered_23 : SC := (.seq (.reg ( fI 95 (.mv (.t 0)) :: fI 96 (.mv (.t 1)) :: fI 97 (.mv (.t 2)) :: fI 98 (.mv (.t 11)) :: eI 99 (.call fn_sl_partitionOrdered [.t 95, .t 96, .t 97, .t 98]) :: s_sl_pdqsortOrdered_i13) [0, 1, 2, 3, 10, 14, 15]) s_sl_pdqsortOrdered_22)
def s_sl_pdqsortOrdered_24 : SC := (.seq (.seq (.dreg 15 [0, 1, 2, 3, 4, 5, 6, 7, 8, 9, 10, 11, 12, 13, 14] ( fI 73 (.mv (.t 1)) :: fI 74 (.bin 0 .gtr (.t 73) (kI 0)) :: fI 75 (.mv (.t 74)) :: gT 76 75 (.mv (.t 0)) :: gT 77 75 (.mv (.t 1)) :: gT 78 75 (.bin 0 .sub (.t 77) (kI 1)) :: gT 79 75 (.iad 1 (.t 76) (.t 78)) :: gT 80 75 (.ld 1 false (.t 79)) :: gT 81 75 (.mv (.t 0)) :: gT 82 75 (.mv (.t 11)) :: gT 83 75 (.iad 1 (.t 81) (.t 82)) :: gT 84 75 (.ld 1 false (.t 83)) :: .e (some 85) (some (75, true)) (.call fn_cmp_Less [.t 80, .t 84]) :: s_sl_pdqsortOrdered_i9) [0, 1, 2, 3, 8, 9, 10, 11, 87]) s_sl_pdqsortOrdered_12) s_sl_pdqsortOrdered_23)
def s_sl_pdqsortOrdered_25 : SC := (.seq (.seq (.reg ( fI 61 (.mv (.t 8)) :: fI 62 (.mv (.t 61)) :: gT 63 62 (.mv (.t 9)) :: fI 64 (.pick (.t 62) (.t 63) (.k (.c (.bool false)))) :: fI 65 (.mv (.t 64)) :: gT 66 65 (.mv (.t 12)) :: gT 67 65 (.bin 0 .eql (.t 66) (kI 1)) :: fI 68 (.pick (.t 65) (.t 67) (.k (.c (.bool false)))) :: []) [0, 1, 2, 3, 8, 9, 10, 11, 68]) s_sl_pdqsortOrdered_8) s_sl_pdqsortOrdered_24)
def s_sl_pdqsortOrdered_26 : SC := (.seq (.seq (.reg ( fI 49 (.mv (.t 12)) :: fI 50 (.bin 0 .eql (.t 49) (kI 2)) :: []) [0, 1, 2, 3, 8, 9, 10, 11, 12, 50]) s_sl_pdqsortOrdered_7) s_sl_pdqsortOrdered_25)
def s_sl_pdqsortOrdered_27 : SC := (.seq (.reg ( fI 43 (.mv (.t 0)) :: fI 44 (.mv (.t 1)) :: fI 45 (.mv (.t 2)) :: eI 46 (.call fn_sl_choosePivotOrdered [.t 43, .t 44, .t 45]) :: s_sl_pdqsortOrdered_i4) [0, 1, 2, 3, 8, 9, 10, 11, 12]) s_sl_pdqsortOrdered_26)
def s_sl_pdqsortOrdered_28 : SC := (.seq (.seq (.reg ( fI 34 (.mv (.t 8)) :: fI 35 (.not (.t 34)) :: []) [0, 1, 2, 3, 8, 9, 10, 35]) s_sl_pdqsortOrdered_3) s_sl_pdqsortOrdered_27)
def s_sl_pdqsortOrdered_29 : SC := (.seq (.seq (.reg ( fI 28 (.mv (.t 3)) :: fI 29 (.bin 0 .eql (.t 28) (kI 0)) :: []) [0, 1, 2, 3, 8, 9, 10, 29]) s_sl_pdqsortOrdered_1) s_sl_pdqsortOrdered_28)
def s_sl_pdqsortOrdered_30 : SC := (.seq (.seq (.reg ( fI 22 (.mv (.t 10)) :: fI 23 (.bin 0 .leq (.t 22) (kI 12)) :: []) [0, 1, 2, 3, 8, 9, 10, 23]) s_sl_pdqsortOrdered_0) s_sl_pdqsortOrdered_29)
def s_sl_pdqsortOrdered_l31 : SC := (.block 1 (.seq (.reg ( fI 19 (.mv (.t 2)) :: fI 20 (.mv (.t 1)) :: fI 21 (.bin 0 .sub (.t 19) (.t 20)) :: fI 10 (.mv (.t 21)) :: []) [0, 1, 2, 3, 8, 9, 10]) s_sl_pdqsortOrdered_30))
def s_sl_pdqsortOrdered_32 : SC := (.seq (.reg ( fI 9 (.mv (.k (.c (.bool true)))) :: []) [0, 1, 2, 3, 8, 9]) (.block 0 (.loop s_sl_pdqsortOrdered_l31)))
def s_sl_pdqsortOrdered : SC := (.seq (.reg ( fI 8 (.mv (.k (.c (.bool true)))) :: []) [0, 1, 2, 3, 8]) s_sl_pdqsortOrdered_32)
def r_sl_pdqsortOrdered : List RS := []
theorem m_sl_pdqsortOrdered : mFn prog fn_sl_pdqsortOrdered 4 134 s_sl_pdqsortOrdered r_sl_pdqsortOrdered = true := by kernel_rfl
def s_sl_insertionSortOrdered_i0 : List Item := fI 30 (.pick (.t 19) (.t 29) (.k (.c (.bool false)))) :: []
def s_sl_insertionSortOrdered_i1 : List Item := fI 48 (.iad 1 (.t 35) (.t 37)) :: .e none none (.sto 1 (.t 48) (.t 46)) :: []
def s_sl_insertionSortOrdered_2 : SC := (.reg ( fI 31 (.mv (.t 7)) :: fI 32 (.bin 0 .sub (.t 31) (kI 1)) :: fI 7 (.mv (.t 32)) :: []) [0, 1, 2, 6, 7])
def s_sl_insertionSortOrdered_3 : SC := (.seq (.block 3 (.dreg 18 [0, 1, 2, 3, 4, 5, 6, 7, 8, 9, 10, 11, 12, 13, 14, 15, 16, 17] ( fI 33 (.mv (.t 0)) :: fI 34 (.mv (.t 7)) :: fI 35 (.mv (.t 0)) :: fI 36 (.mv (.t 7)) :: fI 37 (.bin 0 .sub (.t 36) (kI 1)) :: fI 38 (.mv (.t 0)) :: fI 39 (.mv (.t 7)) :: fI 40 (.bin 0 .sub (.t 39) (kI 1)) :: fI 41 (.iad 1 (.t 38) (.t 40)) :: fI 42 (.ld 1 false (.t 41)) :: fI 43 (.mv (.t 0)) :: fI 44 (.mv (.t 7)) :: fI 45 (.iad 1 (.t 43) (.t 44)) :: fI 46 (.ld 1 false (.t 45)) :: fI 47 (.iad 1 (.t 33) (.t 34)) :: .e none none (.sto 1 (.t 47) (.t 42)) :: s_sl_insertionSortOrdered_i1) [0, 1, 2, 6, 7])) s_sl_insertionSortOrdered_2)
def s_sl_insertionSortOrdered_l4 : SC := (.seq (.seq (.dreg 15 [0, 1, 2, 3, 4, 5, 6, 7, 8, 9, 10, 11, 12, 13, 14] ( fI 16 (.mv (.t 7)) :: fI 17 (.mv (.t 1)) :: fI 18 (.bin 0 .gtr (.t 16) (.t 17)) :: fI 19 (.mv (.t 18)) :: gT 20 19 (.mv (.t 0)) :: gT 21 19 (.mv (.t 7)) :: gT 22 19 (.iad 1 (.t 20) (.t 21)) :: gT 23 19 (.ld 1 false (.t 22)) :: gT 24 19 (.mv (.t 0)) :: gT 25 19 (.mv (.t 7)) :: gT 26 19 (.bin 0 .sub (.t 25) (kI 1)) :: gT 27 19 (.iad 1 (.t 24) (.t 26)) :: gT 28 19 (.ld 1 false (.t 27)) :: .e (some 29) (some (19, true)) (.call fn_cmp_Less [.t 23, .t 28]) :: s_sl_insertionSortOrdered_i0) [0, 1, 2, 6, 7, 30]) (.cond (.t 30) .skip (.exit 2))) s_sl_insertionSortOrdered_3)
def s_sl_insertionSortOrdered_5 : SC := (.reg ( fI 13 (.mv (.t 6)) :: fI 14 (.bin 0 .add (.t 13) (kI 1)) :: fI 6 (.mv (.t 14)) :: []) [0, 1, 2, 6])
def s_sl_insertionSortOrdered_6 : SC := (.seq (.block 1 (.seq (.reg ( fI 15 (.mv (.t 6)) :: fI 7 (.mv (.t 15)) :: []) [0, 1, 2, 6, 7]) (.block 2 (.loop s_sl_insertionSortOrdered_l4)))) s_sl_insertionSortOrdered_5)
def s_sl_insertionSortOrdered_l7 : SC := (.seq (.seq (.reg ( fI 10 (.mv (.t 6)) :: fI 11 (.mv (.t 2)) :: fI 12 (.bin 0 .lss (.t 10) (.t 11)) :: []) [0, 1, 2, 6, 12]) (.cond (.t 12) .skip (.exit 0))) s_sl_insertionSortOrdered_6)
def s_sl_insertionSortOrdered : SC := (.seq (.reg ( fI 8 (.mv (.t 1)) :: fI 9 (.bin 0 .add (.t 8) (kI 1)) :: fI 6 (.mv (.t 9)) :: []) [0, 1, 2, 6]) (.block 0 (.loop s_sl_insertionSortOrdered_l7)))
def r_sl_insertionSortOrdered : List RS := []
theorem m_sl_insertionSortOrdered : mFn prog fn_sl_insertionSortOrdered 3 49 s_sl_insertionSortOrdered r_sl_insertionSortOrdered = true := by kernel_rfl
end Go.AE.Y

namespace Go.AE.Y
open Go.Proofs.Tryz
def s_im_BackEdges_i0 : List Item := fI 3 (.mv (.t 13)) :: []
def s_im_BackEdges_i1 : List Item := fI 4 (.mv (.t 14)) :: []
def s_im_BackEdges_2 : SC := (.reg ( fI 22 (.mv (.t 4)) :: fI 23 (.mv (.t 6)) :: fI 24 (.mv (.t 5)) :: .e none none (.upd 0 (.t 22) (.t 23) (.t 24)) :: []) [1, 3, 4, 15, 16, 17])
def s_im_BackEdges_3 : SC := (.reg ( fI 25 (.bin 0 .add (.t 17) (kI 1)) :: fI 17 (.mv (.t 25)) :: []) [1, 3, 4, 15, 16, 17])
def s_im_BackEdges_4 : SC := (.seq (.block 1 (.seq (.reg ( fI 19 (.mv (.t 17)) :: fI 20 (.iad 1 (.t 15) (.t 17)) :: fI 21 (.ld 1 false (.t 20)) :: fI 5 (.mv (.t 19)) :: fI 6 (.mv (.t 21)) :: []) [1, 3, 4, 5, 6, 15, 16, 17]) s_im_BackEdges_2)) s_im_BackEdges_3)
def s_im_BackEdges_l5 : SC := (.seq (.reg ( fI 18 (.bin 0 .lss (.t 17) (.t 16)) :: []) [1, 3, 4, 15, 16, 17, 18]) (.seq (.cond (.t 18) .skip (.exit 0)) s_im_BackEdges_4))
def s_im_BackEdges_i6 : List Item := fI 28 (.len (.t 27)) :: fI 29 (.mv (kI 0)) :: []
def s_im_BackEdges_i7 : List Item := fI 40 (.len (.t 39)) :: fI 41 (.mv (kI 0)) :: []
def s_im_BackEdges_i8 : List Item := fI 7 (.mv (.t 57)) :: []
def s_im_BackEdges_9 : SC := (.cond (.t 51) (.reg ( fI 52 (.mv (.t 7)) :: fI 53 (.mv (.t 9)) :: fI 54 (.mv (.t 11)) :: fI 55 (.bsl 1 [.t 53, .t 54]) :: fI 56 (.bsl 1 [.t 55]) :: eI 57 (.app 1 (.t 52) (.t 56)) :: s_im_BackEdges_i8) [1, 4, 7, 9, 27, 28, 29, 39, 40, 41]) .skip)
def s_im_BackEdges_10 : SC := (.seq (.reg ( fI 45 (.mv (.t 4)) :: fI 46 (.mv (.t 11)) :: fI 47 (.lup 0 (.c (.int .i64 0)) (.t 45) (.t 46)) :: fI 48 (.mv (.t 4)) :: fI 49 (.mv (.t 9)) :: fI 50 (.lup 0 (.c (.int .i64 0)) (.t 48) (.t 49)) :: fI 51 (.bin 0 .leq (.t 47) (.t 50)) :: []) [1, 4, 7, 9, 11, 27, 28, 29, 39, 40, 41, 51]) s_im_BackEdges_9)
def s_im_BackEdges_11 : SC := (.reg ( fI 58 (.bin 0 .add (.t 41) (kI 1)) :: fI 41 (.mv (.t 58)) :: []) [1, 4, 7, 9, 27, 28, 29, 39, 40, 41])
def s_im_BackEdges_12 : SC := (.seq (.block 5 (.seq (.reg ( fI 43 (.iad 1 (.t 39) (.t 41)) :: fI 44 (.ld 1 false (.t 43)) :: fI 11 (.mv (.t 44)) :: []) [1, 4, 7, 9, 11, 27, 28, 29, 39, 40, 41]) s_im_BackEdges_10)) s_im_BackEdges_11)
def s_im_BackEdges_l13 : SC := (.seq (.reg ( fI 42 (.bin 0 .lss (.t 41) (.t 40)) :: []) [1, 4, 7, 9, 27, 28, 29, 39, 40, 41, 42]) (.seq (.cond (.t 42) .skip (.exit 4)) s_im_BackEdges_12))
def s_im_BackEdges_14 : SC := (.seq (.reg ( fI 33 (.fad 2 (.t 1)) :: fI 34 (.ld 1 false (.t 33)) :: fI 35 (.mv (.t 9)) :: fI 36 (.iad 5 (.t 34) (.t 35)) :: fI 37 (.fad 4 (.t 36)) :: fI 38 (.ld 1 false (.t 37)) :: eI 39 (.call fn_im_once [.t 38]) :: s_im_BackEdges_i7) [1, 4, 7, 9, 27, 28, 29, 39, 40, 41]) (.block 4 (.loop s_im_BackEdges_l13)))
def s_im_BackEdges_15 : SC := (.reg ( fI 59 (.bin 0 .add (.t 29) (kI 1)) :: fI 29 (.mv (.t 59)) :: []) [1, 4, 7, 27, 28, 29])
def s_im_BackEdges_16 : SC := (.seq (.block 3 (.seq (.reg ( fI 31 (.iad 1 (.t 27) (.t 29)) :: fI 32 (.ld 1 false (.t 31)) :: fI 9 (.mv (.t 32)) :: []) [1, 4, 7, 9, 27, 28, 29]) s_im_BackEdges_14)) s_im_BackEdges_15)
def s_im_BackEdges_l17 : SC := (.seq (.reg ( fI 30 (.bin 0 .lss (.t 29) (.t 28)) :: []) [1, 4, 7, 27, 28, 29, 30]) (.seq (.cond (.t 30) .skip (.exit 2)) s_im_BackEdges_16))
def s_im_BackEdges_18 : SC := (.seq (.reg ( fI 60 (.mv (.t 7)) :: fI 2 (.mv (.t 60)) :: []) [2]) .ret)
def s_im_BackEdges_19 : SC := (.seq (.seq (.reg ( fI 26 (.mv (.t 3)) :: eI 27 (.call fn_im_once [.t 26]) :: s_im_BackEdges_i6) [1, 4, 7, 27, 28, 29]) (.block 2 (.loop s_im_BackEdges_l17))) s_im_BackEdges_18)
def s_im_BackEdges_20 : SC := (.seq (.reg ( fI 7 (.mv (.k (.c (.sl true 1 [])))) :: []) [1, 3, 4, 7]) s_im_BackEdges_19)
def s_im_BackEdges_21 : SC := (.seq (.seq (.reg ( fI 15 (.mv (.t 3)) :: fI 16 (.len (.t 15)) :: fI 17 (.mv (kI 0)) :: []) [1, 3, 4, 15, 16, 17]) (.block 0 (.loop s_im_BackEdges_l5))) s_im_BackEdges_20)
def s_im_BackEdges_22 : SC := (.seq (.reg ( eI 14 (.mkm) :: s_im_BackEdges_i1) [1, 3, 4]) s_im_BackEdges_21)
def s_im_BackEdges_23 : SC := (.seq (.reg ( fI 12 (.ld 3 true (.t 1)) :: eI 13 (.call fn_im_OrderIn [.t 12]) :: s_im_BackEdges_i0) [1, 3]) s_im_BackEdges_22)
def s_im_BackEdges : SC := (.seq (.reg ( fI 1 (.box (.t 0)) :: fI 2 (.mv (.k (.c (.sl true 1 [])))) :: []) [1]) s_im_BackEdges_23)
def r_im_BackEdges : List RS := [.tmp 2]
theorem m_im_BackEdges : mFn prog fn_im_BackEdges 1 61 s_im_BackEdges r_im_BackEdges = true := by kernel_rfl
def s_im_Dominates_i0 : List Item := fI 6 (.mv (.t 11)) :: []
def s_im_Dominates_i1 : List Item := fI 9 (.mv (.t 1)) :: fI 10 (.mv (.t 2)) :: eI 11 (.call fn_im_doms_dominates [.t 8, .t 9, .t 10]) :: s_im_Dominates_i0
def s_im_Dominates_2 : SC := (.seq (.reg ( fI 7 (.ld 3 true (.t 3)) :: eI 8 (.call fn_im_domsOf [.t 7]) :: s_im_Dominates_i1) [6]) .ret)
def s_im_Dominates : SC := (.seq (.reg ( fI 3 (.box (.t 0)) :: fI 6 (.mv (.k (.c (.bool false)))) :: []) [1, 2, 3]) s_im_Dominates_2)
def r_im_Dominates : List RS := [.tmp 6]
theorem m_im_Dominates : mFn prog fn_im_Dominates 3 12 s_im_Dominates r_im_Dominates = true := by kernel_rfl
def s_im_IsTame_i0 : List Item := .e none none (.sto 1 (.t 3) (.t 5)) :: []
def s_im_IsTame_i1 : List Item := eI 3 (.alloc [.pnil]) :: s_im_IsTame_i0
def s_im_IsTame_i2 : List Item := gT 13 8 (.not (.t 12)) :: fI 14 (.pick (.t 8) (.t 13) (.k (.c (.bool false)))) :: fI 2 (.mv (.t 14)) :: []
def s_im_IsTame_i3 : List Item := gT 11 8 (.mkf fn_im_IsTame_c1 [.t 3]) :: .e (some 12) (some (8, true)) (.call fn_sl_ContainsFunc_Lint [.t 10, .t 11]) :: s_im_IsTame_i2
def s_im_IsTame_4 : SC := (.seq (.reg ( fI 6 (.ld 1 false (.t 3)) :: fI 7 (.bin 2 .neq (.t 6) (.k (.c .pnil))) :: fI 8 (.mv (.t 7)) :: gT 9 8 (.ld 3 true (.t 1)) :: .e (some 10) (some (8, true)) (.call fn_im_BackEdges [.t 9]) :: s_im_IsTame_i3) [2]) .ret)
def s_im_IsTame_5 : SC := (.seq (.reg ( fI 4 (.ld 3 true (.t 1)) :: eI 5 (.call fn_im_domsOf [.t 4]) :: s_im_IsTame_i1) [1, 3]) s_im_IsTame_4)
def s_im_IsTame : SC := (.seq (.reg ( fI 1 (.box (.t 0)) :: fI 2 (.mv (.k (.c (.bool false)))) :: []) [1]) s_im_IsTame_5)
def r_im_IsTame : List RS := [.tmp 2]
theorem m_im_IsTame : mFn prog fn_im_IsTame 1 15 s_im_IsTame r_im_IsTame = true := by kernel_rfl
def s_im_IsTame_c1_i0 : List Item := fI 12 (.not (.t 11)) :: fI 3 (.mv (.t 12)) :: []
def s_im_IsTame_c1_1 : SC := (.seq (.dreg 10 [0, 1, 2, 3, 4, 5, 6, 7, 8, 9] ( fI 4 (.ld 1 false (.t 1)) :: fI 5 (.mv (.t 0)) :: fI 6 (.iad 1 (.t 5) (kI 1)) :: fI 7 (.ld 1 false (.t 6)) :: fI 8 (.mv (.t 0)) :: fI 9 (.iad 1 (.t 8) (kI 0)) :: fI 10 (.ld 1 false (.t 9)) :: eI 11 (.call fn_im_doms_dominates [.t 4, .t 7, .t 10]) :: s_im_IsTame_c1_i0) [3]) .ret)
def s_im_IsTame_c1 : SC := (.seq (.reg ( fI 3 (.mv (.k (.c (.bool false)))) :: []) [0, 1]) s_im_IsTame_c1_1)
def r_im_IsTame_c1 : List RS := [.tmp 3]
theorem m_im_IsTame_c1 : mFn prog fn_im_IsTame_c1 2 13 s_im_IsTame_c1 r_im_IsTame_c1 = true := by kernel_rfl
def s_im_LoopDepth_i0 : List Item := fI 5 (.mv (.t 10)) :: []
def s_im_LoopDepth_i1 : List Item := fI 14 (.not (.t 13)) :: []
def s_im_LoopDepth_2 : SC := (.cond (.t 14) (.seq (.reg ( fI 4 (.mv (kI (-1))) :: []) [4]) .ret) .skip)
def s_im_LoopDepth_i3 : List Item := fI 17 (.len (.t 16)) :: fI 18 (.mv (kI 0)) :: []
def s_im_LoopDepth_i4 : List Item := fI 25 (.mv (.t 1)) :: eI 26 (.call fn_sl_Contains [.t 24, .t 25]) :: []
def s_im_LoopDepth_5 : SC := (.cond (.t 26) (.reg ( fI 27 (.mv (.t 6)) :: fI 28 (.bin 0 .add (.t 27) (kI 1)) :: fI 6 (.mv (.t 28)) :: []) [1, 5, 6, 16, 17, 18]) .skip)
def s_im_LoopDepth_6 : SC := (.seq (.reg ( fI 22 (.mv (.t 5)) :: fI 23 (.mv (.t 8)) :: eI 24 (.call fn_im_doms_body [.t 22, .t 23]) :: s_im_LoopDepth_i4) [1, 5, 6, 16, 17, 18, 26]) s_im_LoopDepth_5)
def s_im_LoopDepth_7 : SC := (.reg ( fI 29 (.bin 0 .add (.t 18) (kI 1)) :: fI 18 (.mv (.t 29)) :: []) [1, 5, 6, 16, 17, 18])
def s_im_LoopDepth_8 : SC := (.seq (.block 1 (.seq (.reg ( fI 20 (.iad 1 (.t 16) (.t 18)) :: fI 21 (.ld 1 false (.t 20)) :: fI 8 (.mv (.t 21)) :: []) [1, 5, 6, 8, 16, 17, 18]) s_im_LoopDepth_6)) s_im_LoopDepth_7)
def s_im_LoopDepth_l9 : SC := (.seq (.reg ( fI 19 (.bin 0 .lss (.t 18) (.t 17)) :: []) [1, 5, 6, 16, 17, 18, 19]) (.seq (.cond (.t 19) .skip (.exit 0)) s_im_LoopDepth_8))
def s_im_LoopDepth_10 : SC := (.seq (.reg ( fI 30 (.mv (.t 6)) :: fI 4 (.mv (.t 30)) :: []) [4]) .ret)
def s_im_LoopDepth_11 : SC := (.seq (.seq (.reg ( fI 15 (.mv (.t 5)) :: eI 16 (.call fn_im_doms_heads [.t 15]) :: s_im_LoopDepth_i3) [1, 5, 6, 16, 17, 18]) (.block 0 (.loop s_im_LoopDepth_l9))) s_im_LoopDepth_10)
def s_im_LoopDepth_12 : SC := (.seq (.reg ( fI 6 (.mv (kI 0)) :: []) [1, 5, 6]) s_im_LoopDepth_11)
def s_im_LoopDepth_13 : SC := (.seq (.seq (.reg ( fI 11 (.mv (.t 5)) :: fI 12 (.mv (.t 1)) :: eI 13 (.call fn_im_doms_has [.t 11, .t 12]) :: s_im_LoopDepth_i1) [1, 5, 14]) s_im_LoopDepth_2) s_im_LoopDepth_12)
def s_im_LoopDepth_14 : SC := (.seq (.reg ( fI 9 (.ld 3 true (.t 2)) :: eI 10 (.call fn_im_domsOf [.t 9]) :: s_im_LoopDepth_i0) [1, 5]) s_im_LoopDepth_13)
def s_im_LoopDepth : SC := (.seq (.reg ( fI 2 (.box (.t 0)) :: fI 4 (.mv (kI 0)) :: []) [1, 2]) s_im_LoopDepth_14)
def r_im_LoopDepth : List RS := [.tmp 4]
theorem m_im_LoopDepth : mFn prog fn_im_LoopDepth 2 31 s_im_LoopDepth r_im_LoopDepth = true := by kernel_rfl
def s_im_LoopOuter_i0 : List Item := fI 5 (.mv (.t 12)) :: []
def s_im_LoopOuter_i1 : List Item := gF 20 15 (.not (.t 19)) :: fI 21 (.pick (.t 15) (.k (.c (.bool true))) (.t 20)) :: []
def s_im_LoopOuter_i2 : List Item := gF 18 15 (.mv (.t 1)) :: .e (some 19) (some (15, false)) (.call fn_sl_Contains [.t 17, .t 18]) :: s_im_LoopOuter_i1
def s_im_LoopOuter_3 : SC := (.cond (.t 21) (.seq (.reg ( fI 4 (.mv (kI (-1))) :: []) [4]) .ret) .skip)
def s_im_LoopOuter_i4 : List Item := fI 24 (.len (.t 23)) :: fI 25 (.mv (kI 0)) :: []
def s_im_LoopOuter_i5 : List Item := fI 10 (.mv (.t 31)) :: []
def s_im_LoopOuter_i6 : List Item := fI 39 (.pick (.t 35) (.t 38) (.k (.c (.bool false)))) :: fI 40 (.mv (.t 39)) :: gT 41 40 (.mv (.t 6)) :: gT 42 40 (.bin 0 .lss (.t 41) (kI 0)) :: gT 43 40 (.mv (.t 42)) :: gF 44 43 (.mv (.t 10)) :: gF 45 43 (.len (.t 44)) :: gF 46 43 (.mv (.t 7)) :: gF 47 43 (.bin 0 .lss (.t 45) (.t 46)) :: gT 48 40 (.pick (.t 43) (.k (.c (.bool true))) (.t 47)) :: fI 49 (.pick (.t 40) (.t 48) (.k (.c (.bool false)))) :: []
def s_im_LoopOuter_7 : SC := (.cond (.t 49) (.reg ( fI 50 (.mv (.t 9)) :: fI 51 (.mv (.t 10)) :: fI 52 (.len (.t 51)) :: fI 6 (.mv (.t 50)) :: fI 7 (.mv (.t 52)) :: []) [1, 5, 6, 7, 23, 24, 25]) .skip)
def s_im_LoopOuter_8 : SC := (.seq (.reg ( fI 32 (.mv (.t 9)) :: fI 33 (.mv (.t 1)) :: fI 34 (.bin 0 .neq (.t 32) (.t 33)) :: fI 35 (.mv (.t 34)) :: gT 36 35 (.mv (.t 10)) :: gT 37 35 (.mv (.t 1)) :: .e (some 38) (some (35, true)) (.call fn_sl_Contains [.t 36, .t 37]) :: s_im_LoopOuter_i6) [1, 5, 6, 7, 9, 10, 23, 24, 25, 49]) s_im_LoopOuter_7)
def s_im_LoopOuter_9 : SC := (.seq (.reg ( fI 29 (.mv (.t 5)) :: fI 30 (.mv (.t 9)) :: eI 31 (.call fn_im_doms_body [.t 29, .t 30]) :: s_im_LoopOuter_i5) [1, 5, 6, 7, 9, 10, 23, 24, 25]) s_im_LoopOuter_8)
def s_im_LoopOuter_10 : SC := (.reg ( fI 53 (.bin 0 .add (.t 25) (kI 1)) :: fI 25 (.mv (.t 53)) :: []) [1, 5, 6, 7, 23, 24, 25])
def s_im_LoopOuter_11 : SC := (.seq (.block 1 (.seq (.reg ( fI 27 (.iad 1 (.t 23) (.t 25)) :: fI 28 (.ld 1 false (.t 27)) :: fI 9 (.mv (.t 28)) :: []) [1, 5, 6, 7, 9, 23, 24, 25]) s_im_LoopOuter_9)) s_im_LoopOuter_10)
def s_im_LoopOuter_l12 : SC := (.seq (.reg ( fI 26 (.bin 0 .lss (.t 25) (.t 24)) :: []) [1, 5, 6, 7, 23, 24, 25, 26]) (.seq (.cond (.t 26) .skip (.exit 0)) s_im_LoopOuter_11))
def s_im_LoopOuter_13 : SC := (.seq (.reg ( fI 54 (.mv (.t 6)) :: fI 4 (.mv (.t 54)) :: []) [4]) .ret)
def s_im_LoopOuter_14 : SC := (.seq (.seq (.reg ( fI 22 (.mv (.t 5)) :: eI 23 (.call fn_im_doms_heads [.t 22]) :: s_im_LoopOuter_i4) [1, 5, 6, 7, 23, 24, 25]) (.block 0 (.loop s_im_LoopOuter_l12))) s_im_LoopOuter_13)
def s_im_LoopOuter_15 : SC := (.seq (.reg ( fI 6 (.mv (kI (-1))) :: fI 7 (.mv (kI 0)) :: []) [1, 5, 6, 7]) s_im_LoopOuter_14)
def s_im_LoopOuter_16 : SC := (.seq (.seq (.reg ( fI 13 (.mv (.t 5)) :: fI 14 (.bin 2 .eql (.t 13) (.k (.c .pnil))) :: fI 15 (.mv (.t 14)) :: gF 16 15 (.mv (.t 5)) :: .e (some 17) (some (15, false)) (.call fn_im_doms_heads [.t 16]) :: s_im_LoopOuter_i2) [1, 5, 21]) s_im_LoopOuter_3) s_im_LoopOuter_15)
def s_im_LoopOuter_17 : SC := (.seq (.reg ( fI 11 (.ld 3 true (.t 2)) :: eI 12 (.call fn_im_domsOf [.t 11]) :: s_im_LoopOuter_i0) [1, 5]) s_im_LoopOuter_16)
def s_im_LoopOuter : SC := (.seq (.reg ( fI 2 (.box (.t 0)) :: fI 4 (.mv (kI 0)) :: []) [1, 2]) s_im_LoopOuter_17)
def r_im_LoopOuter : List RS := [.tmp 4]
theorem m_im_LoopOuter : mFn prog fn_im_LoopOuter 2 55 s_im_LoopOuter r_im_LoopOuter = true := by kernel_rfl
def s_im_OrderIn_i0 : List Item := fI 6 (.not (.t 5)) :: []
def s_im_OrderIn_1 : SC := (.cond (.t 6) (.seq (.reg ( fI 2 (.mv (.k (.c (.sl true 1 [])))) :: []) [2]) .ret) .skip)
def s_im_OrderIn_i2 : List Item := fI 3 (.mv (.t 8)) :: []
def s_im_OrderIn_3 : SC := (.seq (.reg ( fI 11 (.mv (.t 3)) :: fI 2 (.mv (.t 11)) :: []) [2]) .ret)
def s_im_OrderIn_4 : SC := (.seq (.reg ( fI 9 (.mv (.t 3)) :: eI 10 (.call fn_sl_Reverse [.t 9]) :: []) [3]) s_im_OrderIn_3)
def s_im_OrderIn_5 : SC := (.seq (.reg ( fI 7 (.ld 3 true (.t 1)) :: eI 8 (.call fn_im_visits [.t 7]) :: s_im_OrderIn_i2) [3]) s_im_OrderIn_4)
def s_im_OrderIn_6 : SC := (.seq (.seq (.reg ( fI 4 (.ld 3 true (.t 1)) :: eI 5 (.call fn_im_graphOk [.t 4]) :: s_im_OrderIn_i0) [1, 6]) s_im_OrderIn_1) s_im_OrderIn_5)
def s_im_OrderIn : SC := (.seq (.reg ( fI 1 (.box (.t 0)) :: fI 2 (.mv (.k (.c (.sl true 1 [])))) :: []) [1]) s_im_OrderIn_6)
def r_im_OrderIn : List RS := [.tmp 2]
theorem m_im_OrderIn : mFn prog fn_im_OrderIn 1 12 s_im_OrderIn r_im_OrderIn = true := by kernel_rfl
def s_la_FnLoopOuter_0 : SC := (.cond (.t 10) (.seq (.reg ( fI 2 (.mv (.k (.c (.bool true)))) :: []) [2]) .ret) .skip)
def s_la_FnLoopOuter_i1 : List Item := fI 4 (.mv (.t 15)) :: []
def s_la_FnLoopOuter_i2 : List Item := .e none none (.sto 3 (.t 3) (.t 14)) :: s_la_FnLoopOuter_i1
def s_la_FnLoopOuter_i3 : List Item := fI 11 (.mv (.t 13)) :: fI 14 (.ext (.t 11) 0) :: fI 15 (.ext (.t 11) 1) :: eI 3 (.alloc [.int .i64 0, .int .i64 0, .sl true 5 []]) :: s_la_FnLoopOuter_i2
def s_la_FnLoopOuter_i4 : List Item := fI 5 (.mv (.t 18)) :: []
def s_la_FnLoopOuter_i5 : List Item := gF 31 28 (.not (.t 30)) :: fI 32 (.pick (.t 28) (.k (.c (.bool true))) (.t 31)) :: []
def s_la_FnLoopOuter_i6 : List Item := fI 23 (.bin 0 .neq (.t 19) (.t 22)) :: fI 24 (.mv (.t 23)) :: gF 25 24 (.mv (.t 5)) :: gF 26 24 (.bin 0 .lss (.t 25) (kI 0)) :: fI 27 (.pick (.t 24) (.k (.c (.bool true))) (.t 26)) :: fI 28 (.mv (.t 27)) :: gF 29 28 (.ld 3 true (.t 3)) :: .e (some 30) (some (28, false)) (.call fn_im_IsTame [.t 29]) :: s_la_FnLoopOuter_i5
def s_la_FnLoopOuter_i7 : List Item := fI 37 (.bin 0 .eql (.t 33) (.t 36)) :: fI 38 (.mv (.t 37)) :: gT 39 38 (.mv (.t 5)) :: gT 40 38 (.bin 0 .geq (.t 39) (kI (-1))) :: fI 41 (.pick (.t 38) (.t 40) (.k (.c (.bool false)))) :: fI 2 (.mv (.t 41)) :: []
def s_la_FnLoopOuter_8 : SC := (.cond (.t 32) (.seq (.reg ( fI 33 (.mv (.t 5)) :: fI 34 (.ld 3 true (.t 3)) :: fI 35 (.mv (.t 4)) :: eI 36 (.call fn_sp_LoopOuter [.t 34, .t 35]) :: s_la_FnLoopOuter_i7) [2]) .ret) .skip)
def s_la_FnLoopOuter_i9 : List Item := fI 45 (.len (.t 44)) :: fI 46 (.mv (kI 0)) :: []
def s_la_FnLoopOuter_i10 : List Item := fI 55 (.not (.t 54)) :: []
def s_la_FnLoopOuter_i11 : List Item := fI 53 (.mv (.t 7)) :: eI 54 (.call fn_la_wwHas [.t 52, .t 53]) :: s_la_FnLoopOuter_i10
def s_la_FnLoopOuter_12 : SC := (.cond (.t 55) (.seq (.reg ( fI 2 (.mv (.k (.c (.bool false)))) :: []) [2]) .ret) .skip)
def s_la_FnLoopOuter_13 : SC := (.seq (.reg ( fI 50 (.ld 3 true (.t 3)) :: fI 51 (.mv (.t 5)) :: eI 52 (.call fn_im_LoopBody [.t 50, .t 51]) :: s_la_FnLoopOuter_i11) [3, 4, 5, 44, 45, 46, 55]) s_la_FnLoopOuter_12)
def s_la_FnLoopOuter_14 : SC := (.reg ( fI 56 (.bin 0 .add (.t 46) (kI 1)) :: fI 46 (.mv (.t 56)) :: []) [3, 4, 5, 44, 45, 46])
def s_la_FnLoopOuter_15 : SC := (.seq (.block 1 (.seq (.reg ( fI 48 (.iad 1 (.t 44) (.t 46)) :: fI 49 (.ld 1 false (.t 48)) :: fI 7 (.mv (.t 49)) :: []) [3, 4, 5, 7, 44, 45, 46]) s_la_FnLoopOuter_13)) s_la_FnLoopOuter_14)
def s_la_FnLoopOuter_l16 : SC := (.seq (.reg ( fI 47 (.bin 0 .lss (.t 46) (.t 45)) :: []) [3, 4, 5, 44, 45, 46, 47]) (.seq (.cond (.t 47) .skip (.exit 0)) s_la_FnLoopOuter_15))
def s_la_FnLoopOuter_i17 : List Item := gT 68 61 (.bin 0 .lss (.t 64) (.t 67)) :: fI 69 (.pick (.t 61) (.t 68) (.k (.c (.bool false)))) :: fI 2 (.mv (.t 69)) :: []
def s_la_FnLoopOuter_i18 : List Item := .chk 65 (some (61, true)) (.ld 3 true (.t 3)) :: .e (some 67) (some (61, true)) (.call fn_im_LoopDepth [.t 65, .t 66]) :: s_la_FnLoopOuter_i17
def s_la_FnLoopOuter_i19 : List Item := fI 61 (.mv (.t 60)) :: gT 62 61 (.ld 3 true (.t 3)) :: gT 63 61 (.mv (.t 5)) :: gT 65 61 (.ld 3 true (.t 3)) :: gT 66 61 (.mv (.t 4)) :: .e (some 64) (some (61, true)) (.call fn_im_LoopDepth [.t 62, .t 63]) :: s_la_FnLoopOuter_i18
def s_la_FnLoopOuter_20 : SC := (.seq (.dreg 14 [0, 1, 2, 3, 4, 5, 6, 8, 9, 7, 8, 10, 11, 12, 13] ( fI 57 (.ld 3 true (.t 3)) :: fI 58 (.mv (.t 5)) :: fI 59 (.mv (.t 4)) :: eI 60 (.call fn_im_Dominates [.t 57, .t 58, .t 59]) :: s_la_FnLoopOuter_i19) [2]) .ret)
def s_la_FnLoopOuter_21 : SC := (.seq (.seq (.reg ( fI 42 (.ld 3 true (.t 3)) :: fI 43 (.mv (.t 4)) :: eI 44 (.call fn_im_LoopBody [.t 42, .t 43]) :: s_la_FnLoopOuter_i9) [3, 4, 5, 44, 45, 46]) (.block 0 (.loop s_la_FnLoopOuter_l16))) s_la_FnLoopOuter_20)
def s_la_FnLoopOuter_22 : SC := (.seq (.seq (.reg ( fI 19 (.mv (.t 5)) :: fI 20 (.ld 3 true (.t 3)) :: fI 21 (.mv (.t 4)) :: eI 22 (.call fn_sp_LoopOuter [.t 20, .t 21]) :: s_la_FnLoopOuter_i6) [3, 4, 5, 32]) s_la_FnLoopOuter_8) s_la_FnLoopOuter_21)
def s_la_FnLoopOuter_23 : SC := (.seq (.reg ( fI 16 (.ld 3 true (.t 3)) :: fI 17 (.mv (.t 4)) :: eI 18 (.call fn_im_LoopOuter [.t 16, .t 17]) :: s_la_FnLoopOuter_i4) [3, 4, 5]) s_la_FnLoopOuter_22)
def s_la_FnLoopOuter_24 : SC := (.seq (.reg ( fI 12 (.mv (.t 0)) :: eI 13 (.call fn_sp_DrawLoopOuter [.t 12]) :: s_la_FnLoopOuter_i3) [3, 4]) s_la_FnLoopOuter_23)
def s_la_FnLoopOuter_25 : SC := (.seq (.seq (.reg ( fI 8 (.mv (.t 0)) :: fI 9 (.len (.t 8)) :: fI 10 (.bin 0 .gtr (.t 9) (kI 1048576)) :: []) [0, 10]) s_la_FnLoopOuter_0) s_la_FnLoopOuter_24)
def s_la_FnLoopOuter : SC := (.seq (.reg ( fI 2 (.mv (.k (.c (.bool false)))) :: []) [0]) s_la_FnLoopOuter_25)
def r_la_FnLoopOuter : List RS := [.tmp 2]
theorem m_la_FnLoopOuter : mFn prog fn_la_FnLoopOuter 1 70 s_la_FnLoopOuter r_la_FnLoopOuter = true := by kernel_rfl
def s_sl_ContainsFunc_Lint_i0 : List Item := fI 8 (.bin 0 .geq (.t 7) (kI 0)) :: fI 4 (.mv (.t 8)) :: []
def s_sl_ContainsFunc_Lint_1 : SC := (.seq (.reg ( fI 5 (.mv (.t 0)) :: fI 6 (.mv (.t 1)) :: eI 7 (.call fn_sl_IndexFunc_Lint [.t 5, .t 6]) :: s_sl_ContainsFunc_Lint_i0) [4]) .ret)
def s_sl_ContainsFunc_Lint : SC := (.seq (.reg ( fI 4 (.mv (.k (.c (.bool false)))) :: []) [0, 1]) s_sl_ContainsFunc_Lint_1)
def r_sl_ContainsFunc_Lint : List RS := [.tmp 4]
theorem m_sl_ContainsFunc_Lint : mFn prog fn_sl_ContainsFunc_Lint 2 9 s_sl_ContainsFunc_Lint r_sl_ContainsFunc_Lint = true := by kernel_rfl
def s_sl_IndexFunc_Lint_0 : SC := (.cond (.t 16) (.seq (.reg ( fI 17 (.mv (.t 5)) :: fI 4 (.mv (.t 17)) :: []) [4]) .ret) .skip)
def s_sl_IndexFunc_Lint_1 : SC := (.seq (.reg ( fI 11 (.mv (.t 1)) :: fI 12 (.mv (.t 0)) :: fI 13 (.mv (.t 5)) :: fI 14 (.iad 1 (.t 12) (.t 13)) :: fI 15 (.ld 1 false (.t 14)) :: eI 16 (.callv (.t 11) [.t 15]) :: []) [0, 1, 5, 7, 8, 16]) s_sl_IndexFunc_Lint_0)
def s_sl_IndexFunc_Lint_2 : SC := (.reg ( fI 18 (.bin 0 .add (.t 8) (kI 1)) :: fI 8 (.mv (.t 18)) :: []) [0, 1, 7, 8])
def s_sl_IndexFunc_Lint_3 : SC := (.seq (.block 1 (.seq (.reg ( fI 10 (.mv (.t 8)) :: fI 5 (.mv (.t 10)) :: []) [0, 1, 5, 7, 8]) s_sl_IndexFunc_Lint_1)) s_sl_IndexFunc_Lint_2)
def s_sl_IndexFunc_Lint_l4 : SC := (.seq (.reg ( fI 9 (.bin 0 .lss (.t 8) (.t 7)) :: []) [0, 1, 7, 8, 9]) (.seq (.cond (.t 9) .skip (.exit 0)) s_sl_IndexFunc_Lint_3))
def s_sl_IndexFunc_Lint_5 : SC := (.seq (.reg ( fI 4 (.mv (kI (-1))) :: []) [4]) .ret)
def s_sl_IndexFunc_Lint_6 : SC := (.seq (.seq (.reg ( fI 6 (.mv (.t 0)) :: fI 7 (.len (.t 6)) :: fI 8 (.mv (kI 0)) :: []) [0, 1, 7, 8]) (.block 0 (.loop s_sl_IndexFunc_Lint_l4))) s_sl_IndexFunc_Lint_5)
def s_sl_IndexFunc_Lint : SC := (.seq (.reg ( fI 4 (.mv (kI 0)) :: []) [0, 1]) s_sl_IndexFunc_Lint_6)
def r_sl_IndexFunc_Lint : List RS := [.tmp 4]
theorem m_sl_IndexFunc_Lint : mFn prog fn_sl_IndexFunc_Lint 2 19 s_sl_IndexFunc_Lint r_sl_IndexFunc_Lint = true := by kernel_rfl
def s_sl_Reverse_i0 : List Item := fI 27 (.iad 1 (.t 16) (.t 17)) :: .e none none (.sto 1 (.t 27) (.t 25)) :: []
def s_sl_Reverse_1 : SC := (.reg ( fI 10 (.mv (.t 2)) :: fI 11 (.bin 0 .add (.t 10) (kI 1)) :: fI 12 (.mv (.t 3)) :: fI 13 (.bin 0 .sub (.t 12) (kI 1)) :: fI 2 (.mv (.t 11)) :: fI 3 (.mv (.t 13)) :: []) [0, 2, 3])
def s_sl_Reverse_2 : SC := (.seq (.block 1 (.dreg 16 [0, 1, 2, 3, 4, 5, 6, 7, 8, 9, 10, 11, 12, 13, 14, 15] ( fI 14 (.mv (.t 0)) :: fI 15 (.mv (.t 2)) :: fI 16 (.mv (.t 0)) :: fI 17 (.mv (.t 3)) :: fI 18 (.mv (.t 0)) :: fI 19 (.mv (.t 3)) :: fI 20 (.iad 1 (.t 18) (.t 19)) :: fI 21 (.ld 1 false (.t 20)) :: fI 22 (.mv (.t 0)) :: fI 23 (.mv (.t 2)) :: fI 24 (.iad 1 (.t 22) (.t 23)) :: fI 25 (.ld 1 false (.t 24)) :: fI 26 (.iad 1 (.t 14) (.t 15)) :: .e none none (.sto 1 (.t 26) (.t 21)) :: s_sl_Reverse_i0) [0, 2, 3])) s_sl_Reverse_1)
def s_sl_Reverse_l3 : SC := (.seq (.seq (.reg ( fI 7 (.mv (.t 2)) :: fI 8 (.mv (.t 3)) :: fI 9 (.bin 0 .lss (.t 7) (.t 8)) :: []) [0, 2, 3, 9]) (.cond (.t 9) .skip (.exit 0))) s_sl_Reverse_2)
def s_sl_Reverse : SC := (.seq (.reg ( fI 4 (.mv (.t 0)) :: fI 5 (.len (.t 4)) :: fI 6 (.bin 0 .sub (.t 5) (kI 1)) :: fI 2 (.mv (kI 0)) :: fI 3 (.mv (.t 6)) :: []) [0, 2, 3]) (.block 0 (.loop s_sl_Reverse_l3)))
def r_sl_Reverse : List RS := []
theorem m_sl_Reverse : mFn prog fn_sl_Reverse 1 28 s_sl_Reverse r_sl_Reverse = true := by kernel_rfl
def s_sp_DrawLoopOuter_i0 : List Item := fI 3 (.mv (kI 0)) :: []
def s_sp_DrawLoopOuter_i1 : List Item := fI 3 (.mv (.t 7)) :: []
def s_sp_DrawLoopOuter_i2 : List Item := fI 6 (.ext (.t 5) 0) :: fI 7 (.ext (.t 5) 1) :: .e none none (.sto 3 (.t 2) (.t 6)) :: s_sp_DrawLoopOuter_i1
def s_sp_DrawLoopOuter_3 : SC := (.seq (.reg ( fI 4 (.mv (.t 0)) :: eI 5 (.call fn_l17Draw [.t 4]) :: s_sp_DrawLoopOuter_i2) [2, 3]) .ret)
def s_sp_DrawLoopOuter : SC := (.seq (.reg ( eI 2 (.alloc [.int .i64 0, .int .i64 0, .sl true 5 []]) :: s_sp_DrawLoopOuter_i0) [0, 2]) s_sp_DrawLoopOuter_3)
def r_sp_DrawLoopOuter : List RS := [.cell 2 3 true, .tmp 3]
theorem m_sp_DrawLoopOuter : mFn prog fn_sp_DrawLoopOuter 1 8 s_sp_DrawLoopOuter r_sp_DrawLoopOuter = true := by kernel_rfl
def s_sp_LoopOuter_i0 : List Item := fI 5 (.mv (.t 11)) :: []
def s_sp_LoopOuter_i1 : List Item := gT 20 16 (.bin 0 .geq (.t 19) (kI 0)) :: fI 21 (.pick (.t 16) (.t 20) (.k (.c (.bool false)))) :: []
def s_sp_LoopOuter_i2 : List Item := fI 9 (.mv (.t 29)) :: []
def s_sp_LoopOuter_i3 : List Item := gT 40 36 (.bin 0 .geq (.t 39) (kI 0)) :: fI 41 (.pick (.t 36) (.t 40) (.k (.c (.bool false)))) :: fI 42 (.mv (.t 41)) :: gT 43 42 (.mv (.t 6)) :: gT 44 42 (.bin 0 .lss (.t 43) (kI 0)) :: gT 45 42 (.mv (.t 44)) :: gF 46 45 (.mv (.t 9)) :: gF 47 45 (.len (.t 46)) :: gF 48 45 (.mv (.t 7)) :: gF 49 45 (.bin 0 .lss (.t 47) (.t 48)) :: gT 50 42 (.pick (.t 45) (.k (.c (.bool true))) (.t 49)) :: fI 51 (.pick (.t 42) (.t 50) (.k (.c (.bool false)))) :: []
def s_sp_LoopOuter_4 : SC := (.reg ( fI 56 (.mv (.t 9)) :: fI 57 (.len (.t 56)) :: fI 7 (.mv (.t 57)) :: []) [1, 2, 5, 6, 7, 8])
def s_sp_LoopOuter_5 : SC := (.cond (.t 51) (.seq (.reg ( fI 52 (.mv (.t 5)) :: fI 53 (.mv (.t 8)) :: fI 54 (.iad 1 (.t 52) (.t 53)) :: fI 55 (.ld 1 false (.t 54)) :: fI 6 (.mv (.t 55)) :: []) [1, 2, 5, 6, 8, 9]) s_sp_LoopOuter_4) .skip)
def s_sp_LoopOuter_6 : SC := (.seq (.reg ( fI 30 (.mv (.t 5)) :: fI 31 (.mv (.t 8)) :: fI 32 (.iad 1 (.t 30) (.t 31)) :: fI 33 (.ld 1 false (.t 32)) :: fI 34 (.mv (.t 1)) :: fI 35 (.bin 0 .neq (.t 33) (.t 34)) :: fI 36 (.mv (.t 35)) :: gT 37 36 (.mv (.t 9)) :: gT 38 36 (.mv (.t 1)) :: .e (some 39) (some (36, true)) (.call fn_l10At [.t 37, .t 38]) :: s_sp_LoopOuter_i3) [1, 2, 5, 6, 7, 8, 9, 51]) s_sp_LoopOuter_5)
def s_sp_LoopOuter_7 : SC := (.reg ( fI 22 (.mv (.t 8)) :: fI 23 (.bin 0 .add (.t 22) (kI 1)) :: fI 8 (.mv (.t 23)) :: []) [1, 2, 5, 6, 7, 8])
def s_sp_LoopOuter_8 : SC := (.seq (.block 1 (.seq (.dreg 7 [0, 1, 2, 3, 4, 5, 6] ( fI 24 (.ld 3 true (.t 2)) :: fI 25 (.mv (.t 5)) :: fI 26 (.mv (.t 8)) :: fI 27 (.iad 1 (.t 25) (.t 26)) :: fI 28 (.ld 1 false (.t 27)) :: eI 29 (.call fn_sp_LoopBody [.t 24, .t 28]) :: s_sp_LoopOuter_i2) [1, 2, 5, 6, 7, 8, 9]) s_sp_LoopOuter_6)) s_sp_LoopOuter_7)
def s_sp_LoopOuter_l9 : SC := (.seq (.seq (.reg ( fI 12 (.mv (.t 8)) :: fI 13 (.mv (.t 5)) :: fI 14 (.len (.t 13)) :: fI 15 (.bin 0 .lss (.t 12) (.t 14)) :: fI 16 (.mv (.t 15)) :: gT 17 16 (.mv (.t 5)) :: gT 18 16 (.mv (.t 1)) :: .e (some 19) (some (16, true)) (.call fn_l10At [.t 17, .t 18]) :: s_sp_LoopOuter_i1) [1, 2, 5, 6, 7, 8, 21]) (.cond (.t 21) .skip (.exit 0))) s_sp_LoopOuter_8)
def s_sp_LoopOuter_10 : SC := (.seq (.reg ( fI 58 (.mv (.t 6)) :: fI 4 (.mv (.t 58)) :: []) [4]) .ret)
def s_sp_LoopOuter_11 : SC := (.seq (.seq (.reg ( fI 8 (.mv (kI 0)) :: []) [1, 2, 5, 6, 7, 8]) (.block 0 (.loop s_sp_LoopOuter_l9))) s_sp_LoopOuter_10)
def s_sp_LoopOuter_12 : SC := (.seq (.reg ( fI 7 (.mv (kI 0)) :: []) [1, 2, 5, 6, 7]) s_sp_LoopOuter_11)
def s_sp_LoopOuter_13 : SC := (.seq (.reg ( fI 6 (.mv (kI (-1))) :: []) [1, 2, 5, 6]) s_sp_LoopOuter_12)
def s_sp_LoopOuter_14 : SC := (.seq (.reg ( fI 10 (.ld 3 true (.t 2)) :: eI 11 (.call fn_sp_LoopHeads [.t 10]) :: s_sp_LoopOuter_i0) [1, 2, 5]) s_sp_LoopOuter_13)
def s_sp_LoopOuter : SC := (.seq (.reg ( fI 2 (.box (.t 0)) :: fI 4 (.mv (kI 0)) :: []) [1, 2]) s_sp_LoopOuter_14)
def r_sp_LoopOuter : List RS := [.tmp 4]
theorem m_sp_LoopOuter : mFn prog fn_sp_LoopOuter 2 59 s_sp_LoopOuter r_sp_LoopOuter = true := by kernel_rfl
end Go.AE.Y

namespace Go.AE.Y
open Go.Proofs.Tryz
theorem hmix : prog.follows .mixedOrders = true := by kernel_rfl
theorem pick_ok (l : Nat) (fl : Bool) (bs : List UInt8) (k : Nat) (n : Int) (H : Heap) (K : V → Heap → Prop)
   (hH : H l = .st [.sl fl 1 (bytesOf bs), .int .i64 k]) (hp' : k ≤ 2^40)
   (hK : ∀ v : Int, (if n < 1 then v = 0 else 0 ≤ v ∧ v < n) → K (.c (.int .i64 v)) (H.set l (.st [.sl fl 1 (bytesOf bs), .int .i64 ((k + 1 : Nat) : Int)]))) :
   ACall prog fn_l30Rd_pick [.c (.ptr l 0), .c (.int .i64 n)] H K := by
  refine call_sound hmix m_l30Rd_pick ?_
  refine s_reg ?_
  simp only [go_sem, bytesOf_len, byte_i64, reduceIte, Nat.reduceEqDiff, Nat.reduceAdd]
  refine s_reg ?_
  simp only [go_sem, bytesOf_len, byte_i64, reduceIte, Nat.reduceEqDiff, Nat.reduceAdd, Nat.reduceLeDiff, Nat.reduceLT, hH]
  refine ⟨inR64 (by omega) (by omega), fun H2 hH2' => ?_⟩
  have hH2 : H2 l = .st [C.sl fl 1 (bytesOf bs), C.int IntKind.i64 (k + 1)] := by rw [hH2']; exact Heap.set_same _ _ _
  have hK2 : ∀ v : Int, (if n < 1 then v = 0 else 0 ≤ v ∧ v < n) → K (.c (.int .i64 v)) H2 := by
    intro v hv; rw [hH2']; exact hK v hv
  clear hK
  refine c_as ?_
  refine s_reg ?_
  simp only [go_sem, bytesOf_len, byte_i64, reduceIte, Nat.reduceEqDiff, Nat.reduceAdd, Nat.reduceLeDiff, hH2]
  intro _
  refine c_seq (c_cond rfl ?_ ?_)
  · intro hc
    refine s_reg ?_
    simp only [go_sem, reduceIte, Nat.reduceEqDiff]
    refine c_ret ?_
    simp only [go_sem, endQ, retT, r_l30Rd_pick, reduceIte, List.mem_singleton, forall_eq, RS.op]
    refine hK2 0 ?_
    split <;> omega
  · intro hc
    refine c_skip ?_
    simp only [go_sem]
    have hn : 1 ≤ n ∧ bs.length ≠ 0 := by
      simp only [cond_eq_ite] at hc
      split at hc
      · simp at hc
      · simp at hc; simp_all
    refine s_reg ?_
    simp only [go_sem, bytesOf_len, byte_i64, reduceIte, Nat.reduceEqDiff, Nat.reduceAdd, Nat.reduceLeDiff, hH2]
    refine ⟨inR64 (by omega) (by omega), ?_⟩
    refine c_as ?_
    refine s_reg ?_
    simp only [go_sem, bytesOf_len, byte_i64, reduceIte, Nat.reduceEqDiff, Nat.reduceAdd, Nat.reduceLeDiff, hH2]
    intro hl
    refine c_seq (c_cond rfl ?_ ?_)
    · intro hc2
      have hk : k < bs.length := by simpa using hc2
      refine s_reg ?_
      simp only [go_sem, bytesOf_len, byte_i64, reduceIte, Nat.reduceEqDiff, Nat.reduceAdd, Nat.reduceLeDiff, hH2, hk, bytesOf_getD]
      refine ⟨by omega, ?_⟩
      refine c_ret ?_
      simp only [go_sem, endQ, retT, r_l30Rd_pick, reduceIte, List.mem_singleton, forall_eq, RS.op]
      refine hK2 _ ?_
      rw [if_neg (by omega)]
      exact ⟨Int.tmod_nonneg _ (by omega), Int.tmod_lt_of_pos _ (by omega)⟩
    · intro hc2
      refine c_skip ?_
      simp only [go_sem]
      refine s_dreg ?_
      have e1 : ((k : Int).tmod (bs.length : Int)) = ((k % bs.length : Nat) : Int) := rfl
      have e2 : (((k : Int) * 7 + 3).tmod (bs.length : Int)) = (((k * 7 + 3) % bs.length : Nat) : Int) := rfl
      have h1 : k % bs.length < bs.length := Nat.mod_lt _ (by omega)
      have h2 : (k * 7 + 3) % bs.length < bs.length := Nat.mod_lt _ (by omega)
      simp only [go_sem, bytesOf_len, byte_i64, reduceIte, Nat.reduceEqDiff, Nat.reduceAdd, Nat.reduceLeDiff, hH2, e1, e2, h1, h2, bytesOf_getD]
      have e3 : (k : Int).tdiv (bs.length : Int) = ((k / bs.length : Nat) : Int) := rfl
      have h3 : k / bs.length ≤ k := Nat.div_le_self _ _
      rw [e3]
      have h4 := (bs.getD (k % bs.length) 0).toNat_lt
      have h5 := (bs.getD ((k * 7 + 3) % bs.length) 0).toNat_lt
      generalize (bs.getD (k % bs.length) 0).toNat = b1 at *
      generalize (bs.getD ((k * 7 + 3) % bs.length) 0).toNat = b2 at *
      generalize k / bs.length = d at *
      clear e1 e2 h1 h2 e3
      refine ⟨by omega, inR64 (by omega) (by omega), inR64 (by omega) (by omega), inR64 (by omega) (by omega), by omega, inR64 (by omega) (by omega), inR64 (by omega) (by omega),
        inR64 (by omega) (by omega), inR64 (by omega) (by omega), ⟨by omega, inR64 (by omega) (by omega)⟩, inR64 (by omega) (by omega), inR64 (by omega) (by omega), ?_⟩
      have hx : 0 ≤ (b1 : Int) * 131 + b2 * 1117 + k * 29 + d * 53 := by omega
      have hx' : (b1 : Int) * 131 + b2 * 1117 + k * 29 + d * 53 < 2 ^ 62 := by omega
      generalize (b1 : Int) * 131 + b2 * 1117 + k * 29 + d * 53 = x at *
      refine s_reg ?_
      simp only [go_sem, bytesOf_len, byte_i64, reduceIte, Nat.reduceEqDiff, Nat.reduceAdd, Nat.reduceLeDiff]
      have hq : 0 ≤ x.tdiv 64 := Int.tdiv_nonneg hx (by omega)
      have hq' : x.tdiv 64 ≤ x := by have := Int.tdiv_le_self (a := x) 64 hx; exact this
      refine ⟨⟨by omega, inR64 (by omega) (by omega)⟩, ?_⟩
      have hy := xor_i64 hx hq hx' (by omega)
      generalize bitsI .xor .i64 x (x.tdiv 64) = y at *
      refine s_reg ?_
      simp only [go_sem, bytesOf_len, byte_i64, reduceIte, Nat.reduceEqDiff, Nat.reduceAdd, Nat.reduceLeDiff]
      refine ⟨by omega, ?_⟩
      refine c_ret ?_
      simp only [go_sem, endQ, retT, r_l30Rd_pick, reduceIte, List.mem_singleton, forall_eq, RS.op]
      refine hK2 _ ?_
      rw [if_neg (by omega)]
      exact ⟨Int.tmod_nonneg _ (by omega), Int.tmod_lt_of_pos _ (by omega)⟩
theorem pick_c {R : Rdr} {k : Nat} {n : Int} {H : Heap} {K : V → Heap → Prop} (hH : H R.l = R.o k) (hk : k ≤ 2^40)
  (hK : ∀ (v : Int) (H' : Heap), (if n < 1 then v = 0 else 0 ≤ v ∧ v < n) → Upd H H' [(R.l, R.o (k + 1))] → K (.c (.int .i64 v)) H') :
  ACall prog fn_l30Rd_pick [.c (.ptr R.l 0), .c (.int .i64 n)] H K :=
 pick_ok R.l R.fl R.bs k n H K hH hk fun v hv => hK v _ hv ⟨by simp [Heap.set_same, Rdr.o], fun m _ hm => Heap.set_other _ _ (by simpa using hm)⟩
theorem num_c {R : Rdr} {k : Nat} {fl : Bool} {ns : List Int} {H : Heap} {K : V → Heap → Prop} (hH : H R.l = R.o k) (hk : k ≤ 2^40) (hns : 0 < ns.length)
  (hK : ∀ (v : Int) (H' : Heap), v ∈ ns → Upd H H' [(R.l, R.o (k + 1))] → K (.c (.int .i64 v)) H') :
  ACall prog fn_l30Rd_num [.c (.ptr R.l 0), .c (.sl fl 1 (intsOf ns))] H K := by
 refine call_sound hmix m_l30Rd_num ?_
 refine s_reg ?_
 simp only [go_sem, reduceIte, reduceEqDiff, reduceAdd, reduceLeDiff, reduceLT, reduceCtorEq]
 refine s_reg ?_
 simp only [go_sem, intsOf_len, reduceIte, reduceEqDiff, reduceAdd, reduceLeDiff, reduceLT, reduceCtorEq]
 intro hl
 refine pick_c hH hk fun v H' hv hu => ?_
 rw [if_neg (by omega)] at hv
 obtain ⟨i, rfl⟩ := Int.eq_ofNat_of_zero_le hv.1
 have hi : i < ns.length := by omega
 simp only [go_sem, s_l30Rd_num_i0, intsOf_len, intsOf_getD, hi, reduceIte, reduceEqDiff, reduceAdd, reduceLeDiff, reduceLT, reduceCtorEq]
 refine c_ret ?_
 simp only [go_sem, endQ, retT, r_l30Rd_num, reduceIte, List.mem_singleton, forall_eq, RS.op]
 refine hK _ H' ?_ hu
 rw [List.getD_eq_getElem?_getD, List.getElem?_eq_getElem hi]; exact List.getElem_mem hi
theorem of_c {R : Rdr} {k : Nat} {fl : Bool} {ss : List (List UInt8)} {H : Heap} {K : V → Heap → Prop} (hH : H R.l = R.o k) (hk : k ≤ 2^40) (hns : 0 < ss.length)
  (hK : ∀ (v : List UInt8) (H' : Heap), v ∈ ss → Upd H H' [(R.l, R.o (k + 1))] → K (.c (.str v)) H') :
  ACall prog fn_l30Rd_of [.c (.ptr R.l 0), .c (.sl fl 1 (strsOf ss))] H K := by
 refine call_sound hmix m_l30Rd_of ?_
 refine s_reg ?_
 simp only [go_sem, reduceIte, reduceEqDiff, reduceAdd, reduceLeDiff, reduceLT, reduceCtorEq]
 refine s_reg ?_
 simp only [go_sem, strsOf_len, reduceIte, reduceEqDiff, reduceAdd, reduceLeDiff, reduceLT, reduceCtorEq]
 intro hl
 refine pick_c hH hk fun v H' hv hu => ?_
 rw [if_neg (by omega)] at hv
 obtain ⟨i, rfl⟩ := Int.eq_ofNat_of_zero_le hv.1
 have hi : i < ss.length := by omega
 simp only [go_sem, s_l30Rd_of_i0, strsOf_len, strsOf_getD, hi, reduceIte, reduceEqDiff, reduceAdd, reduceLeDiff, reduceLT, reduceCtorEq]
 refine c_ret ?_
 simp only [go_sem, endQ, retT, r_l30Rd_of, reduceIte, List.mem_singleton, forall_eq, RS.op]
 refine hK _ H' ?_ hu
 rw [List.getD_eq_getElem?_getD, List.getElem?_eq_getElem hi]; exact List.getElem_mem hi
theorem l2Leaf_c {R : Rdr} {k : Nat} {fl : Bool} {ss : List (List UInt8)} {H : Heap} {K : V → Heap → Prop} (hH : H R.l = R.o k) (hk : k + 2 ≤ 2^40)
  (hK : ∀ (x : Ex) (H' : Heap) (k' : Nat), k < k' → k' ≤ k + 2 → Upd H H' [(R.l, R.o k')] → x.ok → x.size = 1 → K (.ag x.cells) H') :
  ACall prog fn_l2Leaf [.c (.ptr R.l 0), .c (.sl fl 1 (strsOf ss))] H K := by
 refine acall_un ?_
 refine call_sound hmix m_l2Leaf ?_
 refine s_reg ?_
 simp only [go_sem, reduceIte, reduceEqDiff, reduceAdd, reduceLeDiff, reduceLT, reduceCtorEq]
 intro x hx H1 h1
 have kn := (Kn.start1 hH (R.o_ne k)).al hx h1
 refine c_as ?_
 refine s_reg ?_
 simp only [go_sem, strsOf_len, reduceIte, reduceEqDiff, reduceAdd, reduceLeDiff, reduceLT, reduceCtorEq]
 intro hl
 have rest : ∀ (b : Bool) (H2 : Heap) (k2 : Nat), k ≤ k2 → k2 ≤ k + 1 → Kn H H2 [(R.l, R.o k2)] [(x, .st [.int .i64 0, .int .i64 0, .str [], .sl true 4 []])] → (b = false → 0 < ss.length) →
   codeT prog (s_l2Leaf_2.seq s_l2Leaf_4) (endQ r_l2Leaf fun x H' => ∃ x', FrzV H' (un H) x x' ∧ K x' (H'.frz (un H))) [(0, V.c (C.ptr R.l 0)), (1, V.c (C.sl fl 1 (strsOf ss))), (4, V.c (C.ptr x 0)), (12, V.c (.bool b))] H2 := by
  intro b H2 k2 hk1 hk2 kn hb
  refine c_seq (c_cond rfl ?_ ?_)
  ·intro hb'
   refine s_reg ?_
   simp only [go_sem, reduceIte, reduceEqDiff, reduceAdd, reduceLeDiff, reduceLT, reduceCtorEq]
   refine num_c (ns := [0, 1, 2, 3, 5, 7, 15, 16, 100, 255]) (kn.e 0 rfl) (by omega) (by simp) fun v H3 hv hu => ?_
   have kn := kn.callE 0 rfl hu (R.o_ne _)
   have hx3 := kn.l 0 rfl
   simp only [go_sem, s_l2Leaf_i1, hx3, reduceIte, reduceEqDiff, reduceAdd, reduceLeDiff, reduceLT, reduceCtorEq]
   intro H4 h4
   have kn := kn.stL 0 rfl h4
   have hx4 := kn.l 0 rfl
   refine c_ret ?_
   simp only [go_sem, endQ, retT, r_l2Leaf, reduceIte, List.mem_singleton, forall_eq, RS.op, hx4, reduceIte, reduceEqDiff, reduceAdd, reduceLeDiff, reduceLT, reduceCtorEq]
   refine ⟨_, (Ex.mk 1 v [] []).frz, hK _ _ (k2 + 1) (by omega) (by omega) kn.fin ?_ ?_⟩
   ·simp [Ex.ok, exsOk]
   ·simp [Ex.size, exsSize]
  ·intro hb'
   refine c_skip ?_
   simp only [go_sem]
   refine s_reg ?_
   simp only [go_sem, reduceIte, reduceEqDiff, reduceAdd, reduceLeDiff, reduceLT, reduceCtorEq]
   refine of_c (kn.e 0 rfl) (by omega) (hb hb') fun v H3 hv hu => ?_
   have kn := kn.callE 0 rfl hu (R.o_ne _)
   have hx3 := kn.l 0 rfl
   simp only [go_sem, s_l2Leaf_i3, hx3, reduceIte, reduceEqDiff, reduceAdd, reduceLeDiff, reduceLT, reduceCtorEq]
   intro H4 h4
   have kn := kn.stL 0 rfl h4
   have hx4 := kn.l 0 rfl
   refine c_ret ?_
   simp only [go_sem, endQ, retT, r_l2Leaf, reduceIte, List.mem_singleton, forall_eq, RS.op, hx4, reduceIte, reduceEqDiff, reduceAdd, reduceLeDiff, reduceLT, reduceCtorEq]
   refine ⟨_, (Ex.mk 2 0 v []).frz, hK _ _ (k2 + 1) (by omega) (by omega) kn.fin ?_ ?_⟩
   ·simp [Ex.ok, exsOk]
   ·simp [Ex.size, exsSize]
 refine ⟨fun hb => ?_, fun hb => ?_⟩
 ·refine pick_c (kn.e 0 rfl) (by omega) fun v H2 hv hu => ?_
  have kn := kn.callE 0 rfl hu (R.o_ne _)
  simp only [go_sem, s_l2Leaf_i0, reduceIte, reduceEqDiff, reduceAdd, reduceLeDiff, reduceLT, reduceCtorEq]
  refine rest _ H2 (k + 1) (by omega) (by omega) kn ?_
  intro h
  have : ¬ ss.length = 0 := by simpa using hb
  omega
 ·have hb2 : decide ((ss.length : Int) = 0) = true := by simpa using hb
  simp only [go_sem, s_l2Leaf_i0, hb2, reduceIte, reduceEqDiff, reduceAdd, reduceLeDiff, reduceLT, reduceCtorEq]
  exact rest true H1 k (by omega) (by omega) kn (fun h => by simp at h)
end Go.AE.Y

