/- Part 3 of the proof: the engine, codes, walks and plain laws, each named where it stands. -/
import Derived.Test.YtajdffbgjodbfaaGreatZB
open Nat (reduceEqDiff reduceAdd reduceLeDiff reduceLT)
set_option linter.unusedVariables false
set_option linter.unusedSimpArgs false
set_option maxRecDepth 4000
namespace Go.AE.Y
open Go.Proofs.Tryz
def Qhv:List Item:=oJ 10 9::[]
def Q0a:SC:=(.cond (.t 10) (.seq (.reg ( fI 2 (.mv (.k (.c (.bool false))))::[]) [2]) .ret) .skip)
def Qhw:List Item:=mJ 4 16::.e none none (.sto 3 (.t 5) (.t 18))::[]
def Qhx:List Item:=oJ 22 21::[]
def Q0b:SC:=(.cond (.t 22) (.seq (.reg ( fI 2 (.mv (.k (.c (.bool false))))::[]) [2]) .ret) .skip)
def Qhy:List Item:=bJ 26 .add 23 25::mJ 3 26::[]
def Q0c:SC:=(.reg ( mJ 23 3::tJ 24 3 5::aJ 25 Qe8 [.t 24]::Qhy) [1,3,12,13,14])
def Q0d:SC:=(.seq (.seq (.reg ( tJ 19 1 1::mJ 20 4::aJ 21 Qk3 [.t 19,.t 20]::Qhx) [1,3,5,12,13,14,22]) Q0b) Q0c)
def Q0e:SC:=(.reg ( cJ 27 .add 14 1::mJ 14 27::[]) [1,3,12,13,14])
def Q0f:SC:=(.seq (.block 1 (.seq (.reg ( mJ 16 14::iJ 17 3 12 14::tJ 18 3 17::eI 5 (.alloc [.int .i64 0,.int .i64 0,.sl true 5 []])::Qhw) [1,3,4,5,12,13,14]) Q0d)) Q0e)
def Qsf:SC:=(.seq (.reg ( bJ 15 .lss 14 13::[]) [1,3,12,13,14,15]) (.seq (.cond (.t 15) .skip (.exit 0)) Q0f))
def Qve:SC:=(.seq (.reg ( mJ 28 3::cJ 29 .leq 28 800::mJ 2 29::[]) [2]) .ret)
def Qvf:SC:=(.seq (.seq (.reg ( fJ 11 0 1::lJ 12 11::nJ 13 12::fI 14 (.mv (kI 0))::[]) [1,3,12,13,14]) (.block 0 (.loop Qsf))) Qve)
def Qvg:SC:=(.seq (.reg ( fI 3 (.mv (kI 0))::[]) [1,3]) Qvf)
def Qvh:SC:=(.seq (.seq (.reg ( fJ 6 0 1::lJ 7 6::nJ 8 7::aJ 9 Qav [.t 8,kI 1,kI 4]::Qhv) [1,10]) Q0a) Qvg)
def Q96:SC:=(.seq (.reg ( fI 1 (.box (.t 0))::fI 2 (.mv (.k (.c (.bool false))))::[]) [1]) Qvh)
def Qg2:List RS:=[.tmp 2]
theorem Q9m:mFn prog Qe7 1 30 Q96 Qg2=true:=by kernel_rfl
def Qg7:List Item:=fI 14 (.pick (.t 7) (.t 13) (.k (.c (.bool false))))::mJ 4 14::[]
def Qg8:List Item:=mJ 7 6::gTm 8 7 1::gTf 9 7 0 2::gTl 10 7 9::gT 11 7 (.len (.t 10))::gT 12 7 (.bin 0 .sub (.t 11) (kI 1))::.e (some 13) (some (7,true)) (.call Qav [.t 8,kI 0,.t 12])::Qg7
def Qafk:SC:=(.seq (.reg ( tJ 5 1 2::aJ 6 Qe7 [.t 5]::Qg8) [4]) .ret)
def Qar9:SC:=(.seq (.reg ( fI 2 (.box (.t 0))::fI 4 (.mv (.k (.c (.bool false))))::[]) [1,2]) Qafk)
def Qp6:List RS:=[.tmp 4]
theorem Qare:mFn prog Qk2 2 15 Qar9 Qp6=true:=by kernel_rfl
def Qhz:List Item:=.e none none (.sto 5 (.t 5) (.t 12))::[]
def Q0g:SC:=(.reg ( mJ 13 3::fJ 14 0 5::lJ 15 14::nJ 16 15::fJ 17 1 5::lJ 18 17::nJ 19 18::bJ 20 .add 16 19::bJ 21 .add 13 20::mJ 3 21::[]) [3,7,8,9])
def Q0h:SC:=(.reg ( cJ 22 .add 9 1::mJ 9 22::[]) [3,7,8,9])
def Q0i:SC:=(.seq (.block 1 (.seq (.reg ( iJ 11 5 7 9::tJ 12 5 11::eI 5 (.alloc [.sl true 2 [],.sl true 4 [],.int .i64 0,.int .i64 0,.sl true 1 []])::Qhz) [3,5,7,8,9]) Q0g)) Q0h)
def Qvo:SC:=(.seq (.reg ( bJ 10 .lss 9 8::[]) [3,7,8,9,10]) (.seq (.cond (.t 10) .skip (.exit 0)) Q0i))
def Q0j:SC:=(.seq (.reg ( mJ 23 3::mJ 2 23::[]) [2]) .ret)
def Q0k:SC:=(.seq (.seq (.reg ( fJ 6 2 1::lJ 7 6::nJ 8 7::fI 9 (.mv (kI 0))::[]) [3,7,8,9]) (.block 0 (.loop Qvo))) Q0j)
def Q0l:SC:=(.seq (.reg ( fI 3 (.mv (kI 0))::[]) [1,3]) Q0k)
def Q97:SC:=(.seq (.reg ( fI 1 (.box (.t 0))::fI 2 (.mv (kI 0))::[]) [1]) Q0l)
def Qoi:List RS:=[.tmp 2]
theorem Q9n:mFn prog Qe8 1 24 Q97 Qoi=true:=by kernel_rfl
def Qou:List Item:=.e none none (.sto 3 (.t 5) (.t 16))::[]
def Qd3:List Item:=gF 35 30 (.not (.t 34))::fI 36 (.pick (.t 30) (.k (.c (.bool true))) (.t 35))::[]
def Qd4:List Item:=gF 28 21 (.not (.t 27))::fI 29 (.pick (.t 21) (.k (.c (.bool true))) (.t 28))::mJ 30 29::gFf 31 30 2 5::gFl 32 30 31::gF 33 30 (.len (.t 32))::.e (some 34) (some (30,false)) (.call Qav [.t 33,kI 1,kI 160])::Qd3
def Qha:List Item:=oJ 20 19::mJ 21 20::gFf 22 21 0 5::gFl 23 21 22::gFf 24 21 1 5::gFl 25 21 24::gF 26 21 (.mn (kI 3) (.t 25))::.e (some 27) (some (21,false)) (.call Qav [.t 23,kI 0,.t 26])::Qd4
def s_im_codeOk_4:SC:=(.cond (.t 36) (.seq (.reg ( fI 4 (.mv (.k (.c (.bool false))))::[]) [4]) .ret) .skip)
def Qov:List Item:=.e none none (.sto 1 (.t 6) (.t 37))::[]
def Qow:List Item:=mJ 7 43::.e none none (.sto 5 (.t 8) (.t 45))::[]
def Qcr:List Item:=gF 69 65 (.not (.t 68))::gFm 70 65 69::gTf 71 70 3 8::gTl 72 70 71::gT 73 70 (.bin 0 .neq (.t 72) (kI 0))::gF 74 65 (.pick (.t 70) (.t 73) (.k (.c (.bool false))))::fI 75 (.pick (.t 65) (.k (.c (.bool true))) (.t 74))::[]
def Qcs:List Item:=gT 62 57 (.not (.t 61))::gF 63 53 (.pick (.t 57) (.t 62) (.k (.c (.bool false))))::fI 64 (.pick (.t 53) (.k (.c (.bool true))) (.t 63))::mJ 65 64::gFf 66 65 2 8::gFl 67 65 66::.e (some 68) (some (65,false)) (.call Qf3 [.t 67])::Qcr
def Qd5:List Item:=gFm 57 53 56::gTl 58 57 6::gTf 59 57 3 8::gTl 60 57 59::.e (some 61) (some (57,true)) (.callv (.t 58) [.t 60])::Qcs
def Qfo:List Item:=.chk 47 none (.ld 1 false (.t 46))::.chk 48 none (.len (.t 47))::bJ 52 .neq 48 51::mJ 53 52::gFf 54 53 2 8::gFl 55 53 54::.e (some 56) (some (53,false)) (.call Qf3 [.t 55])::Qd5
def s_im_codeOk_11:SC:=(.cond (.t 75) (.seq (.reg ( fI 4 (.mv (.k (.c (.bool false))))::[]) [4]) .ret) .skip)
def Qfp:List Item:=fI 85 (.pick (.t 80) (.k (.c (.bool true))) (.t 84))::[]
def Qfq:List Item:=mJ 80 79::gFf 81 80 1 8::gFl 82 80 81::gF 83 80 (.mkf Qfa [.t 2,.t 3])::.e (some 84) (some (80,false)) (.call Qb8 [.t 82,.t 83])::Qfp
def s_im_codeOk_14:SC:=(.cond (.t 85) (.seq (.reg ( fI 4 (.mv (.k (.c (.bool false))))::[]) [4]) .ret) .skip)
def Qlu:List Item:=nJ 89 88::mJ 9 89::[]
def Qlv:List Item:=.e none none (.sto 2 (.t 11) (.t 96))::[]
def Qcb:List Item:=fI 118 (.pick (.t 113) (.k (.c (.bool true))) (.t 117))::[]
def Qcc:List Item:=gF 104 99 (.not (.t 103))::fI 105 (.pick (.t 99) (.k (.c (.bool true))) (.t 104))::mJ 106 105::gFf 107 106 1 11::gFl 108 106 107::gF 109 106 (.len (.t 108))::gFm 110 106 9::gF 111 106 (.bin 0 .neq (.t 109) (.t 110))::fI 112 (.pick (.t 106) (.k (.c (.bool true))) (.t 111))::mJ 113 112::gFf 114 113 1 11::gFl 115 113 114::gF 116 113 (.mkf Qfb [.t 6])::.e (some 117) (some (113,false)) (.call Qbr [.t 115,.t 116])::Qcb
def Qoq:SC:=(.cond (.t 118) (.seq (.reg ( fI 4 (.mv (.k (.c (.bool false))))::[]) [4]) .ret) .skip)
def Q98:SC:=(.seq (.reg ( mJ 97 7::cJ 98 .eql 97 0::mJ 99 98::gFl 100 99 6::gFf 101 99 0 11::gFl 102 99 101::.e (some 103) (some (99,false)) (.callv (.t 100) [.t 102])::Qcc) [2,3,5,6,7,9,39,40,41,91,92,93,118]) Qoq)
def Qor:SC:=(.reg ( cJ 119 .add 93 1::mJ 93 119::[]) [2,3,5,6,7,9,39,40,41,91,92,93])
def Q99:SC:=(.seq (.block 3 (.seq (.reg ( iJ 95 2 91 93::tJ 96 2 95::eI 11 (.alloc [.int .i64 0,.sl true 1 []])::Qlv) [2,3,5,6,7,9,11,39,40,41,91,92,93]) Q98)) Qor)
def Q4j:SC:=(.seq (.reg ( bJ 94 .lss 93 92::[]) [2,3,5,6,7,9,39,40,41,91,92,93,94]) (.seq (.cond (.t 94) .skip (.exit 2)) Q99))
def Qaaa:SC:=(.seq (.reg ( fJ 90 0 8::lJ 91 90::nJ 92 91::fI 93 (.mv (kI 0))::[]) [2,3,5,6,7,9,39,40,41,91,92,93]) (.block 2 (.loop Q4j)))
def Qg9:SC:=(.seq (.reg ( tJ 86 3 5::mJ 87 7::aJ 88 Qiv [.t 86,.t 87]::Qlu) [2,3,5,6,7,8,9,39,40,41]) Qaaa)
def Qos:SC:=(.seq (.seq (.reg ( fJ 76 4 8::lJ 77 76::fI 78 (.mkf Qe9 [.t 5])::aJ 79 Qbr [.t 77,.t 78]::Qfq) [2,3,5,6,7,8,39,40,41,85]) s_im_codeOk_14) Qg9)
def Qaab:SC:=(.seq (.seq (.dreg 30 [0,1,2,3,4,5,1,2,6,7,8,9,10,11,12,13,14,15,16,17,18,19,20,21,22,23,24,25,26,27,28,29] ( fJ 46 4 8::lJ 47 46::nJ 48 47::fJ 49 2 8::lJ 50 49::aJ 51 Qfc [.t 50]::Qfo) [2,3,5,6,7,8,39,40,41,75]) s_im_codeOk_11) Qos)
def Qaac:SC:=(.reg ( cJ 120 .add 41 1::mJ 41 120::[]) [2,3,5,6,39,40,41])
def Qaad:SC:=(.seq (.block 1 (.seq (.reg ( mJ 43 41::iJ 44 5 39 41::tJ 45 5 44::eI 8 (.alloc [.sl true 2 [],.sl true 4 [],.int .i64 0,.int .i64 0,.sl true 1 []])::Qow) [2,3,5,6,7,8,39,40,41]) Qaab)) Qaac)
def Q4k:SC:=(.seq (.reg ( bJ 42 .lss 41 40::[]) [2,3,5,6,39,40,41,42]) (.seq (.cond (.t 42) .skip (.exit 0)) Qaad))
def Qaae:SC:=(.seq (.reg ( fI 4 (.mv (.k (.c (.bool true))))::[]) [4]) .ret)
def Qaaf:SC:=(.seq (.seq (.reg ( fJ 38 2 5::lJ 39 38::nJ 40 39::fI 41 (.mv (kI 0))::[]) [2,3,5,6,39,40,41]) (.block 0 (.loop Q4k))) Qaae)
def Qot:SC:=(.seq (.reg ( fI 37 (.mkf Qag [.t 5])::eI 6 (.alloc [.fnil])::Qov) [2,3,5,6]) Qaaf)
def Qaag:SC:=(.seq (.seq (.reg ( fJ 17 1 5::lJ 18 17::aJ 19 Qav [.t 18,kI 0,kI 300]::Qha) [2,3,5,36]) s_im_codeOk_4) Qot)
def Qaah:SC:=(.seq (.reg ( fJ 12 0 2::lJ 13 12::lJ 14 3::iJ 15 3 13 14::tJ 16 3 15::eI 5 (.alloc [.int .i64 0,.int .i64 0,.sl true 5 []])::Qou) [2,3,5]) Qaag)
def Qasa:SC:=(.seq (.reg ( fI 2 (.box (.t 0))::fI 3 (.box (.t 1))::fI 4 (.mv (.k (.c (.bool false))))::[]) [2,3]) Qaah)
def Qfl:List RS:=[.tmp 4]
theorem Qarf:mFn prog Qk3 2 121 Qasa Qfl=true:=by kernel_rfl
def Qh0:List Item:=mJ 3 8::[]
def Q0m:SC:=(.seq (.reg ( mJ 4 0::fJ 5 1 1::lJ 6 5::cJ 7 .sub 6 1::aJ 8 Qav [.t 4,kI 0,.t 7]::Qh0) [3]) .ret)
def Qaai:SC:=(.seq (.reg ( fI 3 (.mv (.k (.c (.bool false))))::[]) [0,1]) Q0m)
def Qoj:List RS:=[.tmp 3]
theorem Q9o:mFn prog Qag 2 9 Qaai Qoj=true:=by kernel_rfl
def Qh1:List Item:=oJ 10 9::mJ 3 10::[]
def Q0n:SC:=(.seq (.reg ( mJ 4 0::fJ 5 2 1::lJ 6 5::nJ 7 6::cJ 8 .sub 7 1::aJ 9 Qav [.t 4,kI 1,.t 8]::Qh1) [3]) .ret)
def Qaaj:SC:=(.seq (.reg ( fI 3 (.mv (.k (.c (.bool false))))::[]) [0,1]) Q0n)
def Qok:List RS:=[.tmp 3]
theorem Q9p:mFn prog Qe9 2 11 Qaaj Qok=true:=by kernel_rfl
def Qh2:List Item:=oJ 9 8::mJ 4 9::[]
def Q0o:SC:=(.seq (.reg ( tJ 5 1 1::lJ 6 2::tJ 7 4 3::aJ 8 Qpz [.t 5,.t 6,.t 7]::Qh2) [4]) .ret)
def Qaak:SC:=(.seq (.reg ( fI 3 (.box (.t 0))::fI 4 (.mv (.k (.c (.bool false))))::[]) [1,2,3]) Q0o)
def Qol:List RS:=[.tmp 4]
theorem Q9q:mFn prog Qfa 3 10 Qaak Qol=true:=by kernel_rfl
def Qh3:List Item:=oJ 7 6::mJ 3 7::[]
def Q0p:SC:=(.seq (.reg ( lJ 4 1::mJ 5 0::eI 6 (.callv (.t 4) [.t 5])::Qh3) [3]) .ret)
def Qaal:SC:=(.seq (.reg ( fI 3 (.mv (.k (.c (.bool false))))::[]) [0,1]) Q0p)
def Qom:List RS:=[.tmp 3]
theorem Q9r:mFn prog Qfb 2 8 Qaal Qom=true:=by kernel_rfl
def Qaam:SC:=(.cond (.t 6) .skip (.reg ( cJ 10 .eql 3 13::mJ 6 10::[]) [6]))
def Qaan:SC:=(.cond (.t 6) .skip (.seq (.reg ( cJ 9 .eql 3 11::mJ 6 9::[]) [3,6]) Qaam))
def Qaao:SC:=(.cond (.t 6) .skip (.seq (.reg ( cJ 8 .eql 3 10::mJ 6 8::[]) [3,6]) Qaan))
def Qox:SC:=(.cond (.t 6) (.seq (.reg ( fI 2 (.mv (kI 1))::[]) [2]) .ret) .skip)
def Qaap:SC:=(.cond (.t 4) (.seq (.reg ( fI 2 (.mv (kI 0))::[]) [2]) .ret) (.seq (.seq (.reg ( cJ 7 .eql 3 2::mJ 6 7::[]) [3,6]) Qaao) Qox))
def Qaaq:SC:=(.block 0 (.seq (.reg ( cJ 5 .eql 3 1::mJ 4 5::[]) [3,4]) Qaap))
def Qoy:SC:=(.seq (.reg ( fI 2 (.mv (kI 2))::[]) [2]) .ret)
def Qaar:SC:=(.seq (.seq (.reg ( mJ 3 0::[]) [3]) Qaaq) Qoy)
def Qakg:SC:=(.seq (.reg ( fI 2 (.mv (kI 0))::[]) [0]) Qaar)
def Qgb:List RS:=[.tmp 2]
theorem Qajf:mFn prog Qiw 1 11 Qakg Qgb=true:=by kernel_rfl
def Qsn:List Item:=.e none none (.sto 3 (.t 7) (.t 13))::[]
def Qso:List Item:=.e none none (.sto 1 (.t 8) (.t 14))::[]
def Qja:List Item:=fI 24 (.pick (.t 19) (.k (.c (.bool true))) (.t 23))::[]
def Qsp:List Item:=oJ 18 17::mJ 19 18::gFf 20 19 2 5::gFl 21 19 20::gF 22 19 (.mkf Qgv [.t 8])::.e (some 23) (some (19,false)) (.call Qbr [.t 21,.t 22])::Qja
def s_im_insOk_4:SC:=(.cond (.t 24) (.seq (.reg ( fI 6 (.mv (.k (.c (.bool false))))::[]) [6]) .ret) .skip)
def Qex:List Item:=gF 39 35 (.not (.t 38))::gFm 40 35 39::gTf 41 40 1 5::gTl 42 40 41::gT 43 40 (.bin 0 .neq (.t 42) (kI (-1)))::gF 44 35 (.pick (.t 40) (.t 43) (.k (.c (.bool false))))::fI 45 (.pick (.t 35) (.k (.c (.bool true))) (.t 44))::[]
def Qey:List Item:=gT 33 28 (.not (.t 32))::fI 34 (.pick (.t 28) (.t 33) (.k (.c (.bool false))))::mJ 35 34::gFf 36 35 0 5::gFl 37 35 36::.e (some 38) (some (35,false)) (.call Qnk [.t 37])::Qex
def Qjb:List Item:=mJ 28 27::gTl 29 28 8::gTf 30 28 1 5::gTl 31 28 30::.e (some 32) (some (28,true)) (.callv (.t 29) [.t 31])::Qey
def s_im_insOk_8:SC:=(.cond (.t 45) (.seq (.reg ( fI 6 (.mv (.k (.c (.bool false))))::[]) [6]) .ret) .skip)
def Qjc:List Item:=fI 58 (.pick (.t 54) (.t 57) (.k (.c (.bool false))))::mJ 6 58::[]
def Qd6:List Item:=mJ 66 65::gTf 67 66 2 5::gTl 68 66 67::gT 69 66 (.len (.t 68))::gTf 70 66 0 3::gTl 71 66 70::gTf 72 66 3 5::gTl 73 66 72::gT 74 66 (.iad 3 (.t 71) (.t 73))::gTf 75 66 0 74::gTl 76 66 75::gT 77 66 (.bin 0 .eql (.t 69) (.t 76))::fI 78 (.pick (.t 66) (.t 77) (.k (.c (.bool false))))::mJ 6 78::[]
def Qafl:SC:=(.cond (.t 59) (.seq (.dreg 19 [0,1,2,3,4,5,6,7,8,9,10,11,12,13,14,15,16,17,18] ( fJ 61 3 5::lJ 62 61::mJ 63 1::cJ 64 .sub 63 1::aJ 65 Qav [.t 62,kI 0,.t 64]::Qd6) [6]) .ret) .skip)
def Qafm:SC:=(.cond (.t 48) (.seq (.reg ( fJ 50 2 5::lJ 51 50::nJ 52 51::cJ 53 .eql 52 0::mJ 54 53::gTf 55 54 3 5::gTl 56 54 55::.e (some 57) (some (54,true)) (.call Qk4 [.t 56])::Qjc) [6]) .ret) (.seq (.reg ( cJ 60 .eql 47 14::mJ 59 60::[]) [1,3,5,59]) Qafl))
def Qafn:SC:=(.block 0 (.seq (.reg ( cJ 49 .eql 47 1::mJ 48 49::[]) [1,3,5,47,48]) Qafm))
def Qhb:List Item:=.chk 84 (some (82,true)) (.ld 1 false (.t 83))::.chk 85 (some (82,true)) (.len (.t 84))::gT 89 82 (.bin 0 .eql (.t 85) (.t 88))::fI 90 (.pick (.t 82) (.t 89) (.k (.c (.bool false))))::mJ 6 90::[]
def Qafo:SC:=(.seq (.dreg 13 [0,1,2,3,4,5,6,7,8,9,5,6,10,11,12] ( fJ 79 3 5::lJ 80 79::cJ 81 .eql 80 0::mJ 82 81::gTf 83 82 2 5::gTl 84 82 83::gT 85 82 (.len (.t 84))::gTf 86 82 0 5::gTl 87 82 86::.e (some 88) (some (82,true)) (.call Qiw [.t 87])::Qhb) [6]) .ret)
def Qsl:SC:=(.seq (.seq (.reg ( fJ 46 0 5::lJ 47 46::[]) [1,3,5,47]) Qafn) Qafo)
def Qsm:SC:=(.seq (.seq (.reg ( fJ 25 0 5::lJ 26 25::aJ 27 Qnk [.t 26]::Qjb) [1,3,5,45]) s_im_insOk_8) Qsl)
def Qafp:SC:=(.seq (.seq (.reg ( fJ 15 0 5::lJ 16 15::aJ 17 Qix [.t 16]::Qsp) [1,3,5,8,24]) s_im_insOk_4) Qsm)
def Qafq:SC:=(.seq (.reg ( fI 14 (.mkf Qco [.t 7])::eI 8 (.alloc [.fnil])::Qso) [1,3,5,8]) Qafp)
def Qafr:SC:=(.seq (.reg ( fJ 9 0 3::lJ 10 9::mJ 11 1::iJ 12 3 10 11::tJ 13 3 12::eI 7 (.alloc [.int .i64 0,.int .i64 0,.sl true 5 []])::Qsn) [1,3,5,7]) Qafq)
def Qa0x:SC:=(.seq (.reg ( fI 3 (.box (.t 0))::fI 5 (.box (.t 2))::fI 6 (.mv (.k (.c (.bool false))))::[]) [1,3,5]) Qafr)
def Qhp:List RS:=[.tmp 6]
theorem Qa0b:mFn prog Qpz 3 91 Qa0x Qhp=true:=by kernel_rfl
def Qjq:List Item:=mJ 3 8::[]
def Q4l:SC:=(.seq (.reg ( mJ 4 0::fJ 5 1 1::lJ 6 5::cJ 7 .sub 6 1::aJ 8 Qav [.t 4,kI 0,.t 7]::Qjq) [3]) .ret)
def Qafs:SC:=(.seq (.reg ( fI 3 (.mv (.k (.c (.bool false))))::[]) [0,1]) Q4l)
def Qr0:List RS:=[.tmp 3]
theorem Qaez:mFn prog Qco 2 9 Qafs Qr0=true:=by kernel_rfl
def Qjr:List Item:=oJ 7 6::mJ 3 7::[]
def Q4m:SC:=(.seq (.reg ( lJ 4 1::mJ 5 0::eI 6 (.callv (.t 4) [.t 5])::Qjr) [3]) .ret)
def Qaft:SC:=(.seq (.reg ( fI 3 (.mv (.k (.c (.bool false))))::[]) [0,1]) Q4m)
def Qr1:List RS:=[.tmp 3]
theorem Qae0:mFn prog Qgv 2 8 Qaft Qr1=true:=by kernel_rfl
def Qoz:List Item:=mJ 2 4::[]
def Qafu:SC:=(.seq (.reg ( mJ 3 0::aJ 4 Qav [.t 3,kI 0,kI 255]::Qoz) [2]) .ret)
def Qasb:SC:=(.seq (.reg ( fI 2 (.mv (.k (.c (.bool false))))::[]) [0]) Qafu)
def Q3p:List RS:=[.tmp 2]
theorem Qarg:mFn prog Qk4 1 5 Qasb Q3p=true:=by kernel_rfl
def Qsq:List Item:=mJ 2 4::[]
def Qakh:SC:=(.seq (.reg ( mJ 3 0::aJ 4 Qav [.t 3,kI 1,kI 14]::Qsq) [2]) .ret)
def Qa0y:SC:=(.seq (.reg ( fI 2 (.mv (.k (.c (.bool false))))::[]) [0]) Qakh)
def Qadj:List RS:=[.tmp 2]
theorem Qa0c:mFn prog Qix 1 5 Qa0y Qadj=true:=by kernel_rfl
def Q0q:SC:=(.cond (.t 8) (.seq (.reg ( fI 2 (.mv (kI 0))::[]) [2]) .ret) .skip)
def Q0r:SC:=(.cond (.t 6) (.seq (.reg ( fI 2 (.mv (kI 2))::[]) [2]) .ret) (.seq (.reg ( cJ 9 .eql 3 3::mJ 8 9::[]) [8]) Q0q))
def Q0s:SC:=(.cond (.t 4) (.seq (.reg ( fI 2 (.mv (kI 1))::[]) [2]) .ret) (.seq (.reg ( cJ 7 .eql 3 2::mJ 6 7::[]) [3,6]) Q0r))
def Q0t:SC:=(.block 0 (.seq (.reg ( cJ 5 .eql 3 1::mJ 4 5::[]) [3,4]) Q0s))
def Q0u:SC:=(.seq (.reg ( fI 2 (.mv (kI (-1)))::[]) [2]) .ret)
def Q0v:SC:=(.seq (.seq (.reg ( mJ 3 0::[]) [3]) Q0t) Q0u)
def Qaas:SC:=(.seq (.reg ( fI 2 (.mv (kI 0))::[]) [0]) Q0v)
def Qg3:List RS:=[.tmp 2]
theorem Q9s:mFn prog Qfc 1 10 Qaas Qg3=true:=by kernel_rfl
def Qw6:List Item:=mJ 5 4::gTm 6 5 0::gT 7 5 (.bin 0 .neq (.t 6) (kI 12))::fI 8 (.pick (.t 5) (.t 7) (.k (.c (.bool false))))::mJ 9 8::gTm 10 9 0::gT 11 9 (.bin 0 .neq (.t 10) (kI 13))::fI 12 (.pick (.t 9) (.t 11) (.k (.c (.bool false))))::mJ 2 12::[]
def Qasc:SC:=(.seq (.reg ( mJ 3 0::aJ 4 Qix [.t 3]::Qw6) [2]) .ret)
def Qa5x:SC:=(.seq (.reg ( fI 2 (.mv (.k (.c (.bool false))))::[]) [0]) Qasc)
def Qajx:List RS:=[.tmp 2]
theorem Qa4o:mFn prog Qnk 1 13 Qa5x Qajx=true:=by kernel_rfl
def Qafv:SC:=(.seq (.reg ( mJ 3 0::cJ 4 .eql 3 2::mJ 5 4::gFm 6 5 0::gF 7 5 (.bin 0 .eql (.t 6) (kI 3))::fI 8 (.pick (.t 5) (.k (.c (.bool true))) (.t 7))::mJ 2 8::[]) [2]) .ret)
def Qasd:SC:=(.seq (.reg ( fI 2 (.mv (.k (.c (.bool false))))::[]) [0]) Qafv)
def Q3q:List RS:=[.tmp 2]
theorem Qarh:mFn prog Qf3 1 9 Qasd Q3q=true:=by kernel_rfl
def Qo1:List Item:=mJ 9 20::[]
def Qo2:List Item:=.e none none (.sto 5 (.t 10) (.t 25))::[]
def Qagl:SC:=(.cond (.t 28) (.reg ( mJ 29 9::fJ 30 3 10::lJ 31 30::iJ 32 1 29 31::.e none none (.sto 1 (.t 32) (.k (.c (.bool true))))::[]) [3,9,10]) .skip)
def Qo3:List Item:=mJ 12 47::[]
def Qagm:SC:=(.cond (.t 49) (.reg ( mJ 50 9::mJ 51 12::iJ 52 1 50 51::.e none none (.sto 1 (.t 52) (.k (.c (.bool false))))::[]) [3,9,10,11]) .skip)
def Qagn:SC:=(.reg ( mJ 62 13::cJ 63 .add 62 1::mJ 13 63::[]) [3,9,10,11,13])
def Qago:SC:=(.seq (.block 3 (.reg ( mJ 64 9::fJ 65 1 10::lJ 66 65::mJ 67 11::iJ 68 4 66 67::fJ 69 2 68::lJ 70 69::mJ 71 13::iJ 72 1 70 71::lJ 73 72::iJ 74 1 64 73::.e none none (.sto 1 (.t 74) (.k (.c (.bool true))))::[]) [3,9,10,11,13])) Qagn)
def Qaa2:SC:=(.seq (.seq (.reg ( mJ 53 13::fJ 54 1 10::lJ 55 54::mJ 56 11::iJ 57 4 55 56::fJ 58 2 57::lJ 59 58::nJ 60 59::bJ 61 .lss 53 60::[]) [3,9,10,11,13,61]) (.cond (.t 61) .skip (.exit 2))) Qago)
def Qagp:SC:=(.seq (.reg ( fI 13 (.mv (kI 0))::[]) [3,9,10,11,13]) (.block 2 (.loop Qaa2)))
def Qagq:SC:=(.seq (.seq (.reg ( mJ 48 12::cJ 49 .geq 48 0::[]) [3,9,10,11,12,49]) Qagm) Qagp)
def Qaav:SC:=(.reg ( mJ 40 11::cJ 41 .sub 40 1::mJ 11 41::[]) [3,9,10,11])
def Qaaw:SC:=(.seq (.block 1 (.seq (.reg ( fJ 42 1 10::lJ 43 42::mJ 44 11::iJ 45 4 43 44::tJ 46 4 45::aJ 47 Qf6 [.t 46]::Qo3) [3,9,10,11,12]) Qagq)) Qaav)
def Q4u:SC:=(.seq (.seq (.reg ( mJ 37 11::mJ 38 3::bJ 39 .gtr 37 38::[]) [3,9,10,11,39]) (.cond (.t 39) .skip (.exit 0))) Qaaw)
def Qaax:SC:=(.seq (.reg ( mJ 75 9::mJ 8 75::[]) [8]) .ret)
def Qaay:SC:=(.seq (.seq (.reg ( fJ 33 1 10::lJ 34 33::nJ 35 34::cJ 36 .sub 35 1::mJ 11 36::[]) [3,9,10,11]) (.block 0 (.loop Q4u))) Qaax)
def Qaaz:SC:=(.seq (.seq (.reg ( fJ 26 2 10::lJ 27 26::cJ 28 .neq 27 1::[]) [3,9,10,28]) Qagl) Qaay)
def Qaa0:SC:=(.seq (.reg ( fJ 21 2 4::lJ 22 21::mJ 23 2::iJ 24 5 22 23::tJ 25 5 24::eI 10 (.alloc [.sl true 2 [],.sl true 4 [],.int .i64 0,.int .i64 0,.sl true 1 []])::Qo2) [3,9,10]) Qaaz)
def Qaa1:SC:=(.seq (.reg ( fI 14 (.bsl 1 [])::fJ 15 1 5::lJ 16 15::mJ 17 2::iJ 18 1 16 17::lJ 19 18::eI 20 (.app 1 (.t 14) (.t 19))::Qo1) [2,3,4,9]) Qaa0)
def Qatd:SC:=(.seq (.reg ( fI 4 (.box (.t 0))::fI 5 (.box (.t 1))::fI 8 (.mv (.k (.c (.sl true 1 []))))::[]) [2,3,4,5]) Qaa1)
def Q3v:List RS:=[.tmp 8]
theorem Qark:mFn prog Qk6 4 76 Qatd Q3v=true:=by kernel_rfl
def Qx1:List Item:=mJ 9 20::[]
def Qx2:List Item:=mJ 10 25::[]
def Qx3:List Item:=mJ 24 2::aJ 25 Qnl [.t 23,.t 24]::Qx2
def Qate:SC:=(.reg ( mJ 35 11::cJ 36 .add 35 1::mJ 11 36::[]) [2,3,4,5,9,10,11])
def Qatf:SC:=(.seq (.block 1 (.reg ( mJ 37 9::fJ 38 2 4::lJ 39 38::mJ 40 3::iJ 41 5 39 40::fJ 42 0 41::lJ 43 42::mJ 44 11::iJ 45 2 43 44::fJ 46 1 45::lJ 47 46::mJ 48 10::iJ 49 1 47 48::lJ 50 49::iJ 51 1 37 50::.e none none (.sto 1 (.t 51) (.k (.c (.bool true))))::[]) [2,3,4,5,9,10,11])) Qate)
def Qam4:SC:=(.seq (.seq (.reg ( mJ 26 11::fJ 27 2 4::lJ 28 27::mJ 29 3::iJ 30 5 28 29::fJ 31 0 30::lJ 32 31::nJ 33 32::bJ 34 .lss 26 33::[]) [2,3,4,5,9,10,11,34]) (.cond (.t 34) .skip (.exit 0))) Qatf)
def Q4v:SC:=(.reg ( fJ 74 1 5::lJ 75 74::mJ 76 2::iJ 77 1 75 76::lJ 78 77::mJ 79 13::iJ 80 1 78 79::.e none none (.sto 1 (.t 80) (.k (.c (.bool true))))::[]) [2,4,5,9,12,13])
def Qatg:SC:=(.cond (.t 61) (.seq (.reg ( mJ 62 12::mJ 63 62::gFf 64 63 1 5::gFl 65 63 64::gFm 66 63 2::gF 67 63 (.iad 1 (.t 65) (.t 66))::gFl 68 63 67::gFm 69 63 13::gF 70 63 (.iad 1 (.t 68) (.t 69))::gFl 71 63 70::gF 72 63 (.not (.t 71))::fI 73 (.pick (.t 63) (.k (.c (.bool true))) (.t 72))::mJ 12 73::[]) [2,4,5,9,12,13]) Q4v) .skip)
def Qath:SC:=(.reg ( mJ 56 13::cJ 57 .add 56 1::mJ 13 57::[]) [2,4,5,9,12,13])
def Qati:SC:=(.seq (.block 3 (.seq (.reg ( mJ 58 9::mJ 59 13::iJ 60 1 58 59::lJ 61 60::[]) [2,4,5,9,12,13,61]) Qatg)) Qath)
def Qagr:SC:=(.seq (.seq (.reg ( mJ 52 13::fJ 53 1 4::lJ 54 53::bJ 55 .lss 52 54::[]) [2,4,5,9,12,13,55]) (.cond (.t 55) .skip (.exit 2))) Qati)
def Qamy:SC:=(.seq (.reg ( mJ 81 12::mJ 8 81::[]) [8]) .ret)
def Qamz:SC:=(.seq (.seq (.reg ( fI 13 (.mv (kI 0))::[]) [2,4,5,9,12,13]) (.block 2 (.loop Qagr))) Qamy)
def Qam0:SC:=(.seq (.reg ( fI 12 (.mv (.k (.c (.bool false))))::[]) [2,4,5,9,12]) Qamz)
def Qam1:SC:=(.seq (.seq (.reg ( fI 11 (.mv (kI 0))::[]) [2,3,4,5,9,10,11]) (.block 0 (.loop Qam4))) Qam0)
def Qam2:SC:=(.seq (.reg ( tJ 21 3 4::mJ 22 3::aJ 23 Qb5 [.t 21,.t 22]::Qx3) [2,3,4,5,9,10]) Qam1)
def Qam3:SC:=(.seq (.reg ( fI 14 (.bsl 1 [])::fJ 15 0 5::lJ 16 15::mJ 17 3::iJ 18 1 16 17::lJ 19 18::eI 20 (.app 1 (.t 14) (.t 19))::Qx1) [2,3,4,5,9]) Qam2)
def Qa6c:SC:=(.seq (.reg ( fI 4 (.box (.t 0))::fI 5 (.box (.t 1))::fI 8 (.mv (.k (.c (.bool false))))::[]) [2,3,4,5]) Qam3)
def Qaj3:List RS:=[.tmp 8]
theorem Qa4y:mFn prog Quo 4 82 Qa6c Qaj3=true:=by kernel_rfl
def Qqf:List Item:=fI 14 (.pick (.t 7) (.t 13) (.k (.c (.bool false))))::mJ 4 14::[]
def Qqg:List Item:=mJ 7 6::gTm 8 7 1::gTf 9 7 0 2::gTl 10 7 9::gT 11 7 (.len (.t 10))::gT 12 7 (.bin 0 .sub (.t 11) (kI 1))::.e (some 13) (some (7,true)) (.call Qbd [.t 8,kI 0,.t 12])::Qqf
def Qa04:SC:=(.seq (.reg ( tJ 5 1 2::aJ 6 Qbj [.t 5]::Qqg) [4]) .ret)
def Qa99:SC:=(.seq (.reg ( fI 2 (.box (.t 0))::fI 4 (.mv (.k (.c (.bool false))))::[]) [1,2]) Qa04)
def Qafe:List RS:=[.tmp 4]
theorem Qa9g:mFn prog Q2t 2 15 Qa99 Qafe=true:=by kernel_rfl
def Qx4:List Item:=.e none none (.sto 2 (.t 3) (.t 12))::[]
def Qx5:List Item:=fJ 28 0 3::.e none none (.sto 1 (.t 28) (.t 27))::[]
def Qx6:List Item:=.chk 22 none (.ld 1 false (.t 21))::fI 26 (.bsl 1 [.t 25])::eI 27 (.app 1 (.t 22) (.t 26))::Qx5
def Qx7:List Item:=fJ 36 1 3::.e none none (.sto 1 (.t 36) (.t 35))::[]
def Qx8:List Item:=.chk 30 none (.ld 1 false (.t 29))::fI 34 (.bsl 1 [.t 33])::eI 35 (.app 1 (.t 30) (.t 34))::Qx7
def Qatj:SC:=(.dreg 9 [0,1,2,3,4,1,5,6,7,8] ( fJ 29 1 3::lJ 30 29::fJ 31 1 1::lJ 32 31::eI 33 (.mks 1 [.bool false] (.t 32))::Qx8) [1,2,3,4,5])
def Qatk:SC:=(.reg ( mJ 19 5::cJ 20 .add 19 1::mJ 5 20::[]) [1,2,3,4,5])
def Qatl:SC:=(.seq (.block 1 (.seq (.dreg 9 [0,1,2,3,4,1,5,6,7,8] ( fJ 21 0 3::lJ 22 21::fJ 23 1 1::lJ 24 23::eI 25 (.mks 1 [.bool false] (.t 24))::Qx6) [1,2,3,4,5]) Qatj)) Qatk)
def Qano:SC:=(.seq (.seq (.reg ( mJ 16 5::mJ 17 4::bJ 18 .lss 16 17::[]) [1,2,3,4,5,18]) (.cond (.t 18) .skip (.exit 0))) Qatl)
def Qlw:List Item:=mJ 68 67::gFm 69 68 6::fI 70 (.pick (.t 68) (.k (.c (.bool true))) (.t 69))::mJ 6 70::[]
def Qam5:SC:=(.reg ( mJ 53 8::cJ 54 .add 53 1::mJ 8 54::[]) [1,2,3,4,6,7,8])
def Qam6:SC:=(.seq (.block 7 (.dreg 17 [0,1,2,3,4,5,6,7,8,9,10,11,12,13,14,15,16] ( tJ 55 3 1::tJ 56 2 3::mJ 57 7::fJ 58 2 1::lJ 59 58::mJ 60 7::iJ 61 5 59 60::fJ 62 4 61::lJ 63 62::mJ 64 8::iJ 65 1 63 64::lJ 66 65::aJ 67 Quo [.t 55,.t 56,.t 57,.t 66]::Qlw) [1,2,3,4,6,7,8])) Qam5)
def Qags:SC:=(.seq (.seq (.reg ( mJ 44 8::fJ 45 2 1::lJ 46 45::mJ 47 7::iJ 48 5 46 47::fJ 49 4 48::lJ 50 49::nJ 51 50::bJ 52 .lss 44 51::[]) [1,2,3,4,6,7,8,52]) (.cond (.t 52) .skip (.exit 6))) Qam6)
def Qs7:List Item:=mJ 9 74::[]
def Qam7:SC:=(.reg ( mJ 84 10::cJ 85 .add 84 1::mJ 10 85::[]) [1,2,3,4,6,7,9,10])
def Qam8:SC:=(.seq (.block 9 (.reg ( mJ 86 9::fJ 87 2 1::lJ 88 87::mJ 89 7::iJ 90 5 88 89::fJ 91 0 90::lJ 92 91::mJ 93 10::iJ 94 2 92 93::fJ 95 0 94::lJ 96 95::iJ 97 1 86 96::.e none none (.sto 1 (.t 97) (.k (.c (.bool false))))::[]) [1,2,3,4,6,7,9,10])) Qam7)
def Qagt:SC:=(.seq (.seq (.reg ( mJ 75 10::fJ 76 2 1::lJ 77 76::mJ 78 7::iJ 79 5 77 78::fJ 80 0 79::lJ 81 80::nJ 82 81::bJ 83 .lss 75 82::[]) [1,2,3,4,6,7,9,10,83]) (.cond (.t 83) .skip (.exit 8))) Qam8)
def Qam9:SC:=(.reg ( mJ 102 11::cJ 103 .add 102 1::mJ 11 103::[]) [1,2,3,4,6,7,9,11])
def Qana:SC:=(.seq (.block 11 (.dreg 17 [0,1,2,3,4,5,6,7,8,9,10,11,12,13,14,15,16] ( mJ 104 6::mJ 105 104::gFm 106 105 9::gFm 107 105 11::gF 108 105 (.iad 1 (.t 106) (.t 107))::gFl 109 105 108::gFf 110 105 0 3::gFl 111 105 110::gFm 112 105 7::gF 113 105 (.iad 1 (.t 111) (.t 112))::gFl 114 105 113::gFm 115 105 11::gF 116 105 (.iad 1 (.t 114) (.t 115))::gFl 117 105 116::gF 118 105 (.bin 1 .neq (.t 109) (.t 117))::fI 119 (.pick (.t 105) (.k (.c (.bool true))) (.t 118))::mJ 6 119::[]) [1,2,3,4,6,7,9,11])) Qam9)
def Qagu:SC:=(.seq (.seq (.reg ( mJ 98 11::fJ 99 1 1::lJ 100 99::bJ 101 .lss 98 100::[]) [1,2,3,4,6,7,9,11,101]) (.cond (.t 101) .skip (.exit 10))) Qana)
def Qanb:SC:=(.reg ( fJ 120 0 3::lJ 121 120::mJ 122 7::mJ 123 9::iJ 124 1 121 122::.e none none (.sto 1 (.t 124) (.t 123))::[]) [1,2,3,4,6,7])
def Qanc:SC:=(.seq (.seq (.reg ( fI 11 (.mv (kI 0))::[]) [1,2,3,4,6,7,9,11]) (.block 10 (.loop Qagu))) Qanb)
def Qand:SC:=(.seq (.seq (.reg ( fI 10 (.mv (kI 0))::[]) [1,2,3,4,6,7,9,10]) (.block 8 (.loop Qagt))) Qanc)
def Qane:SC:=(.seq (.reg ( tJ 71 3 1::tJ 72 2 3::mJ 73 7::aJ 74 Qk6 [.t 71,.t 72,.t 73,kI (-1)]::Qs7) [1,2,3,4,6,7,9]) Qand)
def Qanf:SC:=(.reg ( mJ 42 7::cJ 43 .sub 42 1::mJ 7 43::[]) [1,2,3,4,6,7])
def Qang:SC:=(.seq (.block 5 (.seq (.seq (.reg ( fI 8 (.mv (kI 0))::[]) [1,2,3,4,6,7,8]) (.block 6 (.loop Qags))) Qane)) Qanf)
def Qagv:SC:=(.seq (.seq (.reg ( mJ 40 7::cJ 41 .geq 40 0::[]) [1,2,3,4,6,7,41]) (.cond (.t 41) .skip (.exit 4))) Qang)
def Qanh:SC:=(.seq (.reg ( mJ 38 4::cJ 39 .sub 38 1::mJ 7 39::[]) [1,2,3,4,6,7]) (.block 4 (.loop Qagv)))
def Qani:SC:=(.block 3 (.seq (.reg ( fI 6 (.mv (.k (.c (.bool false))))::[]) [1,2,3,4,6]) Qanh))
def Qagw:SC:=(.seq (.seq (.reg ( mJ 37 6::[]) [1,2,3,4,37]) (.cond (.t 37) .skip (.exit 2))) Qani)
def Qanj:SC:=(.seq (.reg ( tJ 125 2 3::.e none none (.sto 2 (.t 2) (.t 125))::[]) [2]) .ret)
def Qank:SC:=(.seq (.seq (.reg ( fI 6 (.mv (.k (.c (.bool true))))::[]) [1,2,3,4,6]) (.block 2 (.loop Qagw))) Qanj)
def Qanl:SC:=(.seq (.seq (.reg ( fI 5 (.mv (kI 0))::[]) [1,2,3,4,5]) (.block 0 (.loop Qano))) Qank)
def Qanm:SC:=(.seq (.reg ( fJ 13 2 1::lJ 14 13::nJ 15 14::mJ 4 15::[]) [1,2,3,4]) Qanl)
def Qann:SC:=(.seq (.reg ( fI 12 (.bld [.sl true 1 [],.sl true 1 []] [])::eI 3 (.alloc [.sl true 1 [],.sl true 1 []])::Qx4) [1,2,3]) Qanm)
def Qa6d:SC:=(.seq (.reg ( fI 1 (.box (.t 0))::eI 2 (.alloc [.sl true 1 [],.sl true 1 []])::[]) [1,2]) Qann)
def Qaj4:List RS:=[.cell 2 2 true]
theorem Qa4z:mFn prog Qnq 1 126 Qa6d Qaj4=true:=by kernel_rfl
def Qc5:List Item:=cJ 8 .geq 7 0::mJ 4 8::[]
def Qjh:SC:=(.seq (.reg ( mJ 5 0::mJ 6 1::aJ 7 Qcw [.t 5,.t 6]::Qc5) [4]) .ret)
def Qnb:SC:=(.seq (.reg ( fI 4 (.mv (.k (.c (.bool false))))::[]) [0,1]) Qjh)
def Qec:List RS:=[.tmp 4]
theorem Qlh:mFn prog Qb8 2 9 Qnb Qec=true:=by kernel_rfl
def Qn8:SC:=(.cond (.t 16) (.seq (.reg ( mJ 17 5::mJ 4 17::[]) [4]) .ret) .skip)
def Qn9:SC:=(.seq (.reg ( mJ 11 1::mJ 12 0::mJ 13 5::iJ 14 4 12 13::tJ 15 4 14::eI 16 (.callv (.t 11) [.t 15])::[]) [0,1,5,7,8,16]) Qn8)
def Qoa:SC:=(.reg ( cJ 18 .add 8 1::mJ 8 18::[]) [0,1,7,8])
def Qob:SC:=(.seq (.block 1 (.seq (.reg ( mJ 10 8::mJ 5 10::[]) [0,1,5,7,8]) Qn9)) Qoa)
def Qnc:SC:=(.seq (.reg ( bJ 9 .lss 8 7::[]) [0,1,7,8,9]) (.seq (.cond (.t 9) .skip (.exit 0)) Qob))
def Qoc:SC:=(.seq (.reg ( fI 4 (.mv (kI (-1)))::[]) [4]) .ret)
def Qod:SC:=(.seq (.seq (.reg ( mJ 6 0::nJ 7 6::fI 8 (.mv (kI 0))::[]) [0,1,7,8]) (.block 0 (.loop Qnc))) Qoc)
def Qt3:SC:=(.seq (.reg ( fI 4 (.mv (kI 0))::[]) [0,1]) Qod)
def Qdd:List RS:=[.tmp 4]
theorem Qrv:mFn prog Qcw 2 19 Qt3 Qdd=true:=by kernel_rfl
def Qaig:SC:=(.cond (.t 5) (.seq (.reg ( fJ 6 1 1::lJ 7 6::mJ 2 7::[]) [2]) .ret) .skip)
def Qaih:SC:=(.seq (.reg ( fI 2 (.mv (kI (-1)))::[]) [2]) .ret)
def Qaii:SC:=(.seq (.seq (.reg ( fJ 3 0 1::lJ 4 3::aJ 5 Qdq [.t 4]::[]) [1,5]) Qaig) Qaih)
def Qax3:SC:=(.seq (.reg ( fI 1 (.box (.t 0))::fI 2 (.mv (kI 0))::[]) [1]) Qaii)
def Qqb:List RS:=[.tmp 2]
theorem Qaru:mFn prog Qf6 1 8 Qax3 Qqb=true:=by kernel_rfl
end Go.AE.Y

namespace Go.AE.Y
open Go.Proofs.Tryz
theorem Qat:prog.follows .mixedOrders=true:=by kernel_rfl
theorem Qbdl (l : Nat) (fl : Bool) (bs : List UInt8) (k : Nat) (n : Int) (H : Heap) (K : V → Heap → Prop)
   (hH : H l = .st [.sl fl 1 (Qby bs), .int .i64 k]) (hp' : k ≤ 2^40)
   (hK : ∀ v : Int, (if n < 1 then v = 0 else 0 ≤ v ∧ v < n) → K (.c (.int .i64 v)) (H.set l (.st [.sl fl 1 (Qby bs), .int .i64 ((k + 1 : Nat) : Int)]))) :
   Qw prog Qn [.c (.ptr l 0), .c (.int .i64 n)] H K := by
  refine Qb Qat Qajg ?_
  refine Qa ?_
  simp only [go_sem, Qau, Qet, reduceIte, Nat.reduceEqDiff, Nat.reduceAdd]
  refine Qa ?_
  simp only [go_sem, Qau, Qet, reduceIte, Nat.reduceEqDiff, Nat.reduceAdd, Nat.reduceLeDiff, Nat.reduceLT, hH]
  refine ⟨Qo (by omega) (by omega), fun H2 hH2' => ?_⟩
  have hH2 : H2 l = .st [C.sl fl 1 (Qby bs), C.int IntKind.i64 (k + 1)] := by rw [hH2']; exact Heap.set_same _ _ _
  have hK2 : ∀ v : Int, (if n < 1 then v = 0 else 0 ≤ v ∧ v < n) → K (.c (.int .i64 v)) H2 := by
    intro v hv; rw [hH2']; exact hK v hv
  clear hK
  refine Q3 ?_
  refine Qa ?_
  simp only [go_sem, Qau, Qet, reduceIte, Nat.reduceEqDiff, Nat.reduceAdd, Nat.reduceLeDiff, hH2]
  intro _
  refine Qh (Qd rfl ?_ ?_)
  · intro hc
    refine Qa ?_
    simp only [go_sem, reduceIte, Nat.reduceEqDiff]
    refine Qk ?_
    simp only [go_sem, Q6, Qad, Qgc, reduceIte, List.mem_singleton, forall_eq, RS.op]
    refine hK2 0 ?_
    split <;> omega
  · intro hc
    refine Qi ?_
    simp only [go_sem]
    have hn : 1 ≤ n ∧ bs.length ≠ 0 := by
      simp only [cond_eq_ite] at hc
      split at hc
      · simp at hc
      · simp at hc; simp_all
    refine Qa ?_
    simp only [go_sem, Qau, Qet, reduceIte, Nat.reduceEqDiff, Nat.reduceAdd, Nat.reduceLeDiff, hH2]
    refine ⟨Qo (by omega) (by omega), ?_⟩
    refine Q3 ?_
    refine Qa ?_
    simp only [go_sem, Qau, Qet, reduceIte, Nat.reduceEqDiff, Nat.reduceAdd, Nat.reduceLeDiff, hH2]
    intro hl
    refine Qh (Qd rfl ?_ ?_)
    · intro hc2
      have hk : k < bs.length := by simpa using hc2
      refine Qa ?_
      simp only [go_sem, Qau, Qet, reduceIte, Nat.reduceEqDiff, Nat.reduceAdd, Nat.reduceLeDiff, hH2, hk, Qwt]
      refine ⟨by omega, ?_⟩
      refine Qk ?_
      simp only [go_sem, Q6, Qad, Qgc, reduceIte, List.mem_singleton, forall_eq, RS.op]
      refine hK2 _ ?_
      rw [if_neg (by omega)]
      exact ⟨Int.tmod_nonneg _ (by omega), Int.tmod_lt_of_pos _ (by omega)⟩
    · intro hc2
      refine Qi ?_
      simp only [go_sem]
      refine Qal ?_
      have e1 : ((k : Int).tmod (bs.length : Int)) = ((k % bs.length : Nat) : Int) := rfl
      have e2 : (((k : Int) * 7 + 3).tmod (bs.length : Int)) = (((k * 7 + 3) % bs.length : Nat) : Int) := rfl
      have h1 : k % bs.length < bs.length := Nat.mod_lt _ (by omega)
      have h2 : (k * 7 + 3) % bs.length < bs.length := Nat.mod_lt _ (by omega)
      simp only [go_sem, Qau, Qet, reduceIte, Nat.reduceEqDiff, Nat.reduceAdd, Nat.reduceLeDiff, hH2, e1, e2, h1, h2, Qwt]
      have e3 : (k : Int).tdiv (bs.length : Int) = ((k / bs.length : Nat) : Int) := rfl
      have h3 : k / bs.length ≤ k := Nat.div_le_self _ _
      rw [e3]
      have h4 := (bs.getD (k % bs.length) 0).toNat_lt
      have h5 := (bs.getD ((k * 7 + 3) % bs.length) 0).toNat_lt
      generalize (bs.getD (k % bs.length) 0).toNat = b1 at *
      generalize (bs.getD ((k * 7 + 3) % bs.length) 0).toNat = b2 at *
      generalize k / bs.length = d at *
      clear e1 e2 h1 h2 e3
      refine ⟨by omega, Qo (by omega) (by omega), Qo (by omega) (by omega), Qo (by omega) (by omega), by omega, Qo (by omega) (by omega), Qo (by omega) (by omega),
        Qo (by omega) (by omega), Qo (by omega) (by omega), ⟨by omega, Qo (by omega) (by omega)⟩, Qo (by omega) (by omega), Qo (by omega) (by omega), ?_⟩
      have hx : 0 ≤ (b1 : Int) * 131 + b2 * 1117 + k * 29 + d * 53 := by omega
      have hx' : (b1 : Int) * 131 + b2 * 1117 + k * 29 + d * 53 < 2 ^ 62 := by omega
      generalize (b1 : Int) * 131 + b2 * 1117 + k * 29 + d * 53 = x at *
      refine Qa ?_
      simp only [go_sem, Qau, Qet, reduceIte, Nat.reduceEqDiff, Nat.reduceAdd, Nat.reduceLeDiff]
      have hq : 0 ≤ x.tdiv 64 := Int.tdiv_nonneg hx (by omega)
      have hq' : x.tdiv 64 ≤ x := by have := Int.tdiv_le_self (a := x) 64 hx; exact this
      refine ⟨⟨by omega, Qo (by omega) (by omega)⟩, ?_⟩
      have hy := Qbd3 hx hq hx' (by omega)
      generalize Qazn .xor .i64 x (x.tdiv 64) = y at *
      refine Qa ?_
      simp only [go_sem, Qau, Qet, reduceIte, Nat.reduceEqDiff, Nat.reduceAdd, Nat.reduceLeDiff]
      refine ⟨by omega, ?_⟩
      refine Qk ?_
      simp only [go_sem, Q6, Qad, Qgc, reduceIte, List.mem_singleton, forall_eq, RS.op]
      refine hK2 _ ?_
      rw [if_neg (by omega)]
      exact ⟨Int.tmod_nonneg _ (by omega), Int.tmod_lt_of_pos _ (by omega)⟩
theorem Qa5 {R:Rdr} {k:Nat} {n:Int} {H:Heap} {K:V→Heap→Prop} (hH:H R.l=R.o k) (hk:k≤2^40)
  (hK:∀(v:Int) (H':Heap),(if n<1 then v=0 else 0≤v∧v<n)→Upd H H' [(R.l,R.o (k+1))]→K (.c (.int .i64 v)) H') :
  Qw prog Qn [.c (.ptr R.l 0),.c (.int .i64 n)] H K:=
 Qbdl R.l R.fl R.bs k n H K hH hk fun v hv=>hK v _ hv ⟨by simp[Heap.set_same,Rdr.o],fun m _ hm=>Heap.set_other _ _ (by simpa using hm)⟩
theorem Qg1 {R:Rdr} {k:Nat} {fl:Bool} {ns:List Int} {H:Heap} {K:V→Heap→Prop} (hH:H R.l=R.o k) (hk:k≤2^40) (hns:0<ns.length)
  (hK:∀(v:Int) (H':Heap),v∈ns→Upd H H' [(R.l,R.o (k+1))]→K (.c (.int .i64 v)) H') :
  Qw prog Q8 [.c (.ptr R.l 0),.c (.sl fl 1 (Qf ns))] H K:=by
 refine Qb Qat Qarn ?_
 refine Qa ?_
 simp only[go_sem,reduceIte,reduceEqDiff,reduceAdd,reduceLeDiff,reduceLT,reduceCtorEq]
 refine Qa ?_
 simp only[go_sem,Qe,reduceIte,reduceEqDiff,reduceAdd,reduceLeDiff,reduceLT,reduceCtorEq]
 intro hl
 refine Qa5 hH hk fun v H' hv hu=>?_
 rw[if_neg (by omega)]at hv
 obtain⟨i,rfl⟩:=Int.eq_ofNat_of_zero_le hv.1
 have hi:i<ns.length:=by omega
 simp only[go_sem,Qpf,Qe,Qs,hi,reduceIte,reduceEqDiff,reduceAdd,reduceLeDiff,reduceLT,reduceCtorEq]
 refine Qk ?_
 simp only[go_sem,Q6,Qad,Q32,reduceIte,List.mem_singleton,forall_eq,RS.op]
 refine hK _ H' ?_ hu
 rw[List.getD_eq_getElem?_getD,List.getElem?_eq_getElem hi];exact List.getElem_mem hi
theorem of_c {R:Rdr} {k:Nat} {fl:Bool} {ss:List (List UInt8)} {H:Heap} {K:V→Heap→Prop} (hH:H R.l=R.o k) (hk:k≤2^40) (hns:0<ss.length)
  (hK:∀(v:List UInt8) (H':Heap),v∈ss→Upd H H' [(R.l,R.o (k+1))]→K (.c (.str v)) H') :
  Qw prog Qfe [.c (.ptr R.l 0),.c (.sl fl 1 (Qbe ss))] H K:=by
 refine Qb Qat Qa0i ?_
 refine Qa ?_
 simp only[go_sem,reduceIte,reduceEqDiff,reduceAdd,reduceLeDiff,reduceLT,reduceCtorEq]
 refine Qa ?_
 simp only[go_sem,Qaq,reduceIte,reduceEqDiff,reduceAdd,reduceLeDiff,reduceLT,reduceCtorEq]
 intro hl
 refine Qa5 hH hk fun v H' hv hu=>?_
 rw[if_neg (by omega)]at hv
 obtain⟨i,rfl⟩:=Int.eq_ofNat_of_zero_le hv.1
 have hi:i<ss.length:=by omega
 simp only[go_sem,Qtr,Qaq,Qfw,hi,reduceIte,reduceEqDiff,reduceAdd,reduceLeDiff,reduceLT,reduceCtorEq]
 refine Qk ?_
 simp only[go_sem,Q6,Qad,Qadp,reduceIte,List.mem_singleton,forall_eq,RS.op]
 refine hK _ H' ?_ hu
 rw[List.getD_eq_getElem?_getD,List.getElem?_eq_getElem hi];exact List.getElem_mem hi
theorem Qa84 {R:Rdr} {k:Nat} {fl:Bool} {ss:List (List UInt8)} {H:Heap} {K:V→Heap→Prop} (hH:H R.l=R.o k) (hk:k+2≤2^40)
  (hK:∀(x:Ex) (H':Heap) (k':Nat),k<k'→k'≤k+2→Upd H H' [(R.l,R.o k')]→x.ok→x.size=1→K (.ag x.cells) H') :
  Qw prog Q2v [.c (.ptr R.l 0),.c (.sl fl 1 (Qbe ss))] H K:=by
 refine Qz ?_
 refine Qb Qat Qa9k ?_
 refine Qa ?_
 simp only[go_sem,reduceIte,reduceEqDiff,reduceAdd,reduceLeDiff,reduceLT,reduceCtorEq]
 intro x hx H1 h1
 have kn:=(Kn.start1 hH (R.o_ne k)).al hx h1
 refine Q3 ?_
 refine Qa ?_
 simp only[go_sem,Qaq,reduceIte,reduceEqDiff,reduceAdd,reduceLeDiff,reduceLT,reduceCtorEq]
 intro hl
 have rest:∀(b:Bool) (H2:Heap) (k2:Nat),k≤k2→k2≤k+1→Kn H H2 [(R.l,R.o k2)] [(x,.st [.int .i64 0,.int .i64 0,.str [],.sl true 4 []])]→(b=false→0<ss.length)→
   Qac prog (s_l2Leaf_2.seq Qadv) (Q6 Q18 fun x H'=>∃x',FrzV H' (un H) x x'∧K x' (H'.frz (un H))) [(0,V.c (C.ptr R.l 0)),(1,V.c (C.sl fl 1 (Qbe ss))),(4,V.c (C.ptr x 0)),(12,V.c (.bool b))] H2:=by
  intro b H2 k2 hk1 hk2 kn hb
  refine Qh (Qd rfl ?_ ?_)
  ·intro hb'
   refine Qa ?_
   simp only[go_sem,reduceIte,reduceEqDiff,reduceAdd,reduceLeDiff,reduceLT,reduceCtorEq]
   refine Qg1 (ns:=[0,1,2,3,5,7,15,16,100,255]) (kn.e 0 rfl) (by omega) (by simp) fun v H3 hv hu=>?_
   have kn:=kn.callE 0 rfl hu (R.o_ne _)
   have hx3:=kn.l 0 rfl
   simp only[go_sem,Q5a,hx3,reduceIte,reduceEqDiff,reduceAdd,reduceLeDiff,reduceLT,reduceCtorEq]
   intro H4 h4
   have kn:=kn.stL 0 rfl h4
   have hx4:=kn.l 0 rfl
   refine Qk ?_
   simp only[go_sem,Q6,Qad,Q18,reduceIte,List.mem_singleton,forall_eq,RS.op,hx4,reduceIte,reduceEqDiff,reduceAdd,reduceLeDiff,reduceLT,reduceCtorEq]
   refine⟨_,(Ex.mk 1 v [] []).frz,hK _ _ (k2+1) (by omega) (by omega) kn.fin ?_ ?_⟩
   ·simp[Ex.ok,Qda]
   ·simp[Ex.size,Qaf]
  ·intro hb'
   refine Qi ?_
   simp only[go_sem]
   refine Qa ?_
   simp only[go_sem,reduceIte,reduceEqDiff,reduceAdd,reduceLeDiff,reduceLT,reduceCtorEq]
   refine of_c (kn.e 0 rfl) (by omega) (hb hb') fun v H3 hv hu=>?_
   have kn:=kn.callE 0 rfl hu (R.o_ne _)
   have hx3:=kn.l 0 rfl
   simp only[go_sem,Q5b,hx3,reduceIte,reduceEqDiff,reduceAdd,reduceLeDiff,reduceLT,reduceCtorEq]
   intro H4 h4
   have kn:=kn.stL 0 rfl h4
   have hx4:=kn.l 0 rfl
   refine Qk ?_
   simp only[go_sem,Q6,Qad,Q18,reduceIte,List.mem_singleton,forall_eq,RS.op,hx4,reduceIte,reduceEqDiff,reduceAdd,reduceLeDiff,reduceLT,reduceCtorEq]
   refine⟨_,(Ex.mk 2 0 v []).frz,hK _ _ (k2+1) (by omega) (by omega) kn.fin ?_ ?_⟩
   ·simp[Ex.ok,Qda]
   ·simp[Ex.size,Qaf]
 refine⟨fun hb=>?_,fun hb=>?_⟩
 ·refine Qa5 (kn.e 0 rfl) (by omega) fun v H2 hv hu=>?_
  have kn:=kn.callE 0 rfl hu (R.o_ne _)
  simp only[go_sem,Qq3,reduceIte,reduceEqDiff,reduceAdd,reduceLeDiff,reduceLT,reduceCtorEq]
  refine rest _ H2 (k+1) (by omega) (by omega) kn ?_
  intro h
  have:¬ss.length=0:=by simpa using hb
  omega
 ·have hb2:decide ((ss.length:Int)=0)=true:=by simpa using hb
  simp only[go_sem,Qq3,hb2,reduceIte,reduceEqDiff,reduceAdd,reduceLeDiff,reduceLT,reduceCtorEq]
  exact rest true H1 k (by omega) (by omega) kn (fun h=>by simp at h)
end Go.AE.Y

namespace Go.AE.Y
open Go.Proofs.Tryz
variable {H:Heap} {K:V→Heap→Prop}
theorem Qcm {n lo hi:Int} (hK:K (.c (.bool (decide (lo≤n∧n≤hi)))) H):Qw prog Qbd [.c (.int .i64 n),.c (.int .i64 lo),.c (.int .i64 hi)] H K:=by
 refine Qb Qat Qbeu ?_
 refine Qa ?_
 simp only[go_sem,reduceIte,reduceEqDiff,reduceAdd,reduceLeDiff,reduceLT,reduceCtorEq]
 refine Qa ?_
 simp only[go_sem,reduceIte,reduceEqDiff,reduceAdd,reduceLeDiff,reduceLT,reduceCtorEq]
 refine Qk ?_
 simp only[go_sem,Q6,Qad,Qbbo,reduceIte,List.mem_singleton,forall_eq,RS.op,reduceIte,reduceEqDiff,reduceAdd,reduceLeDiff,reduceLT,reduceCtorEq]
 have:(bif decide (lo≤n)then decide (n≤hi)else false)=decide (lo≤n∧n≤hi):=by
  by_cases h:lo≤n <;> simp[h]
 rw[this];exact hK
theorem Qa4i {b:Bool} (hK:K (.c (.int .i64 (if b then 1 else 0))) H):Qw prog Qux [.c (.bool b)] H K:=by
 refine Qb Qat Qa5b ?_
 refine Qa ?_
 simp only[go_sem,reduceIte,reduceEqDiff,reduceAdd,reduceLeDiff,reduceLT,reduceCtorEq]
 refine Q3 ?_
 refine Qa ?_
 simp only[go_sem,reduceIte,reduceEqDiff,reduceAdd,reduceLeDiff,reduceLT,reduceCtorEq]
 refine Qh (Qd rfl ?_ ?_)
 ·intro hc;subst hc
  refine Qa ?_
  simp only[go_sem,reduceIte,reduceEqDiff,reduceAdd,reduceLeDiff,reduceLT,reduceCtorEq]
  refine Qk ?_
  simp only[go_sem,Q6,Qad,Q35,reduceIte,List.mem_singleton,forall_eq,RS.op,reduceIte,reduceEqDiff,reduceAdd,reduceLeDiff,reduceLT,reduceCtorEq]
  exact hK
 ·intro hc;subst hc
  refine Qi ?_
  simp only[go_sem]
  refine Qa ?_
  simp only[go_sem,reduceIte,reduceEqDiff,reduceAdd,reduceLeDiff,reduceLT,reduceCtorEq]
  refine Qk ?_
  simp only[go_sem,Q6,Qad,Q35,reduceIte,List.mem_singleton,forall_eq,RS.op,reduceIte,reduceEqDiff,reduceAdd,reduceLeDiff,reduceLT,reduceCtorEq]
  exact hK
theorem Qa4f {s:List UInt8} {b:UInt8} (hK:∀n:Int,K (.c (.int .i64 n)) H):Qw prog Quv [.c (.str s),.c (.int .u8 b.toNat)] H K:=by
 refine Qb Qat Qa47 ?_
 refine Qa ?_
 simp only[go_sem,reduceIte,reduceEqDiff,reduceAdd,reduceLeDiff,reduceLT,reduceCtorEq]
 refine Q3 ?_
 refine Qa ?_
 simp only[go_sem,reduceIte,reduceEqDiff,reduceAdd,reduceLeDiff,reduceLT,reduceCtorEq]
 refine Qh (Qc (Qu (fun n e1 H1=>∃i:Nat,n=s.length-i∧i≤s.length∧H1=H∧e1=[(0,.c (.str s)),(1,.c (.int .u8 b.toNat)),(5,.c (.int .i64 i))]) s.length ?_ ?_))
 ·exact⟨0,by omega,by omega,rfl,rfl⟩
 ·rintro n e1 H1 ⟨i,hn,hi,rfl,rfl⟩
  refine Q3 ?_
  refine Qa ?_
  simp only[go_sem,reduceIte,reduceEqDiff,reduceAdd,reduceLeDiff,reduceLT,reduceCtorEq]
  intro hl
  simp only[LIM]at hl
  refine Qh (Qd rfl ?_ ?_)
  ·intro hc
   have hlt:i<s.length:=by simpa using hc
   refine Qi ?_
   simp only[go_sem]
   refine Qh (Qc ?_)
   refine Qa ?_
   simp only[go_sem,hlt,reduceIte,reduceEqDiff,reduceAdd,reduceLeDiff,reduceLT,reduceCtorEq]
   refine Qd rfl ?_ ?_
   ·intro hc2
    refine Qa ?_
    simp only[go_sem,reduceIte,reduceEqDiff,reduceAdd,reduceLeDiff,reduceLT,reduceCtorEq]
    refine Qk ?_
    simp only[go_sem,X.next,Q6,Qad,Q30,reduceIte,List.mem_singleton,forall_eq,RS.op,reduceIte,reduceEqDiff,reduceAdd,reduceLeDiff,reduceLT,reduceCtorEq]
    exact hK _
   ·intro hc2
    refine Qi ?_
    simp only[go_sem]
    refine Qq ?_
    simp only[go_sem,X.next,reduceIte,reduceEqDiff,reduceAdd,reduceLeDiff,reduceLT,reduceCtorEq]
    exact⟨Qo (by omega) (by omega),s.length-(i+1),by omega,i+1,rfl,by omega,rfl⟩
  ·intro hc
   refine Qt ?_
   simp only[go_sem,X.next]
   refine Qa ?_
   simp only[go_sem,reduceIte,reduceEqDiff,reduceAdd,reduceLeDiff,reduceLT,reduceCtorEq]
   refine Qk ?_
   simp only[go_sem,Q6,Qad,Q30,reduceIte,List.mem_singleton,forall_eq,RS.op,reduceIte,reduceEqDiff,reduceAdd,reduceLeDiff,reduceLT,reduceCtorEq]
   exact hK _
theorem Qa4d {b:UInt8} (hK:∀n:Int,K (.c (.int .i64 n)) H):Qw prog Quu [.c (.int .u8 b.toNat)] H K:=by
 refine Qb Qat Qa45 ?_
 refine Qa ?_
 simp only[go_sem,reduceIte,reduceEqDiff,reduceAdd,reduceLeDiff,reduceLT,reduceCtorEq]
 refine Qh (Qc ?_)
 refine Qa ?_
 simp only[go_sem,reduceIte,reduceEqDiff,reduceAdd,reduceLeDiff,reduceLT,reduceCtorEq]
 refine Qd rfl ?_ ?_
 ·intro hc
  refine Qa ?_
  simp only[go_sem,reduceIte,reduceEqDiff,reduceAdd,reduceLeDiff,reduceLT,reduceCtorEq]
  refine Qk ?_
  simp only[go_sem,Q6,Qad,Qhq,reduceIte,List.mem_singleton,forall_eq,RS.op,reduceIte,reduceEqDiff,reduceAdd,reduceLeDiff,reduceLT,reduceCtorEq]
  exact hK _
 intro hc
 refine Qa ?_
 simp only[go_sem,reduceIte,reduceEqDiff,reduceAdd,reduceLeDiff,reduceLT,reduceCtorEq]
 refine Qd rfl ?_ ?_
 ·intro hc
  refine Qa ?_
  simp only[go_sem,reduceIte,reduceEqDiff,reduceAdd,reduceLeDiff,reduceLT,reduceCtorEq]
  refine Qk ?_
  simp only[go_sem,Q6,Qad,Qhq,reduceIte,List.mem_singleton,forall_eq,RS.op,reduceIte,reduceEqDiff,reduceAdd,reduceLeDiff,reduceLT,reduceCtorEq]
  exact hK _
 intro hc
 refine Qa ?_
 simp only[go_sem,reduceIte,reduceEqDiff,reduceAdd,reduceLeDiff,reduceLT,reduceCtorEq]
 refine Qa4f fun n=>?_
 simp only[go_sem,Qyu,reduceIte,reduceEqDiff,reduceAdd,reduceLeDiff,reduceLT,reduceCtorEq]
 refine Qd rfl ?_ ?_
 ·intro hc
  refine Qa ?_
  simp only[go_sem,reduceIte,reduceEqDiff,reduceAdd,reduceLeDiff,reduceLT,reduceCtorEq]
  refine Qk ?_
  simp only[go_sem,Q6,Qad,Qhq,reduceIte,List.mem_singleton,forall_eq,RS.op,reduceIte,reduceEqDiff,reduceAdd,reduceLeDiff,reduceLT,reduceCtorEq]
  exact hK _
 intro hc
 refine Qa ?_
 simp only[go_sem,reduceIte,reduceEqDiff,reduceAdd,reduceLeDiff,reduceLT,reduceCtorEq]
 refine Qd rfl ?_ ?_
 ·intro hc
  refine Qa ?_
  simp only[go_sem,reduceIte,reduceEqDiff,reduceAdd,reduceLeDiff,reduceLT,reduceCtorEq]
  refine Qk ?_
  simp only[go_sem,Q6,Qad,Qhq,reduceIte,List.mem_singleton,forall_eq,RS.op,reduceIte,reduceEqDiff,reduceAdd,reduceLeDiff,reduceLT,reduceCtorEq]
  exact hK _
 intro hc
 refine Qi ?_
 simp only[go_sem]
 refine Qa ?_
 simp only[go_sem,reduceIte,reduceEqDiff,reduceAdd,reduceLeDiff,reduceLT,reduceCtorEq]
 refine Qk ?_
 simp only[go_sem,Q6,Qad,Qhq,reduceIte,List.mem_singleton,forall_eq,RS.op,reduceIte,reduceEqDiff,reduceAdd,reduceLeDiff,reduceLT,reduceCtorEq]
 exact hK _
theorem Qbcy {s:List UInt8} {k:Int} (hK:∀b:Bool,K (.c (.bool b)) H):Qw prog Qaeg [.c (.str s),.c (.int .i64 k)] H K:=by
 refine Qb Qat Qbc9 ?_
 refine Qa ?_
 simp only[go_sem,reduceIte,reduceEqDiff,reduceAdd,reduceLeDiff,reduceLT,reduceCtorEq]
 refine Q3 ?_
 refine Qa ?_
 simp only[go_sem,reduceIte,reduceEqDiff,reduceAdd,reduceLeDiff,reduceLT,reduceCtorEq]
 refine Qh (Qc (Qu (fun n e1 H1=>∃i:Nat,n=s.length-i∧i≤s.length∧H1=H∧e1=[(0,.c (.str s)),(1,.c (.int .i64 k)),(5,.c (.int .i64 i))]) s.length ?_ ?_))
 ·exact⟨0,by omega,by omega,rfl,rfl⟩
 ·rintro n e1 H1 ⟨i,hn,hi,rfl,rfl⟩
  refine Q3 ?_
  refine Qa ?_
  simp only[go_sem,reduceIte,reduceEqDiff,reduceAdd,reduceLeDiff,reduceLT,reduceCtorEq]
  intro hl
  simp only[LIM]at hl
  refine Qh (Qd rfl ?_ ?_)
  ·intro hc
   have hlt:i<s.length:=by simpa using hc
   refine Qi ?_
   simp only[go_sem]
   refine Qh (Qc ?_)
   refine Qa ?_
   simp only[go_sem,hlt,reduceIte,reduceEqDiff,reduceAdd,reduceLeDiff,reduceLT,reduceCtorEq]
   refine Qa4d fun cl=>?_
   simp only[go_sem,Qadr,reduceIte,reduceEqDiff,reduceAdd,reduceLeDiff,reduceLT,reduceCtorEq]
   refine Qd rfl ?_ ?_
   ·intro hc2
    refine Qa ?_
    simp only[go_sem,reduceIte,reduceEqDiff,reduceAdd,reduceLeDiff,reduceLT,reduceCtorEq]
    refine Qk ?_
    simp only[go_sem,X.next,Q6,Qad,Qar5,reduceIte,List.mem_singleton,forall_eq,RS.op,reduceIte,reduceEqDiff,reduceAdd,reduceLeDiff,reduceLT,reduceCtorEq]
    exact hK _
   ·intro hc2
    refine Qi ?_
    simp only[go_sem]
    refine Qq ?_
    simp only[go_sem,X.next,reduceIte,reduceEqDiff,reduceAdd,reduceLeDiff,reduceLT,reduceCtorEq]
    exact⟨Qo (by omega) (by omega),s.length-(i+1),by omega,i+1,rfl,by omega,rfl⟩
  ·intro hc
   refine Qt ?_
   simp only[go_sem,X.next]
   refine Qa ?_
   simp only[go_sem,reduceIte,reduceEqDiff,reduceAdd,reduceLeDiff,reduceLT,reduceCtorEq]
   intro _
   refine Qk ?_
   simp only[go_sem,Q6,Qad,Qar5,reduceIte,List.mem_singleton,forall_eq,RS.op,reduceIte,reduceEqDiff,reduceAdd,reduceLeDiff,reduceLT,reduceCtorEq]
   exact hK _
theorem Qazk (hK:∀ss:List (List UInt8),K (.c (.sl true 1 (Qbe ss))) H):Qw prog Qgz [] H K:=by
 refine Qb Qat Qae9 ?_
 refine Qa ?_
 simp only[go_sem,reduceIte,reduceEqDiff,reduceAdd,reduceLeDiff,reduceLT,reduceCtorEq]
 refine Qa ?_
 simp only[go_sem,reduceIte,reduceEqDiff,reduceAdd,reduceLeDiff,reduceLT,reduceCtorEq]
 refine Qk ?_
 simp only[go_sem,Q6,Qad,Qsd,reduceIte,List.mem_singleton,forall_eq,RS.op,reduceIte,reduceEqDiff,reduceAdd,reduceLeDiff,reduceLT,reduceCtorEq]
 exact hK [[102,110],[108,101,116],[115,97,121],[112,117,116],[105,102],[101,108,115,101],[108,111,111,112],[98,97,99,107],[100,111]]
theorem Qbcz {s:List UInt8} (hK:∀b:Bool,K (.c (.bool b)) H):Qw prog Qaeh [.c (.str s)] H K:=by
 refine Qb Qat Qbda ?_
 refine Qa ?_
 simp only[go_sem,reduceIte,reduceEqDiff,reduceAdd,reduceLeDiff,reduceLT,reduceCtorEq]
 refine Qa ?_
 simp only[go_sem,reduceIte,reduceEqDiff,reduceAdd,reduceLeDiff,reduceLT,reduceCtorEq]
 refine Qazk fun ss=>?_
 simp only[go_sem,Qads,reduceIte,reduceEqDiff,reduceAdd,reduceLeDiff,reduceLT,reduceCtorEq]
 refine Q3 ?_
 refine Qa ?_
 simp only[go_sem,reduceIte,reduceEqDiff,reduceAdd,reduceLeDiff,reduceLT,reduceCtorEq]
 refine Qh (Qc (Qu (fun n e1 H1=>∃i:Nat,n=ss.length-i∧i≤ss.length∧H1=H∧e1=[(0,.c (.str s)),(3,.c (.sl true 1 (Qbe ss))),(4,.c (.int .i64 i))]) ss.length ?_ ?_))
 ·exact⟨0,by omega,by omega,rfl,rfl⟩
 ·rintro n e1 H1 ⟨i,hn,hi,rfl,rfl⟩
  refine Q3 ?_
  refine Qa ?_
  simp only[go_sem,Qaq,reduceIte,reduceEqDiff,reduceAdd,reduceLeDiff,reduceLT,reduceCtorEq]
  intro hl
  simp only[LIM]at hl
  refine Qh (Qd rfl ?_ ?_)
  ·intro hc
   have hlt:i<ss.length:=by simpa using hc
   refine Qi ?_
   simp only[go_sem]
   refine Qh (Qc ?_)
   refine Qa ?_
   simp only[go_sem,hlt,Qaq,Qfw _ _ hlt,reduceIte,reduceEqDiff,reduceAdd,reduceLeDiff,reduceLT,reduceCtorEq]
   refine Qd rfl ?_ ?_
   ·intro hc2
    refine Qa ?_
    simp only[go_sem,reduceIte,reduceEqDiff,reduceAdd,reduceLeDiff,reduceLT,reduceCtorEq]
    refine Qk ?_
    simp only[go_sem,X.next,Q6,Qad,Qar6,reduceIte,List.mem_singleton,forall_eq,RS.op,reduceIte,reduceEqDiff,reduceAdd,reduceLeDiff,reduceLT,reduceCtorEq]
    exact hK _
   ·intro hc2
    refine Qi ?_
    simp only[go_sem]
    refine Qq ?_
    simp only[go_sem,X.next,reduceIte,reduceEqDiff,reduceAdd,reduceLeDiff,reduceLT,reduceCtorEq]
    exact⟨Qo (by omega) (by omega),ss.length-(i+1),by omega,i+1,rfl,by omega,rfl⟩
  ·intro hc
   refine Qt ?_
   simp only[go_sem,X.next]
   refine Qa ?_
   simp only[go_sem,reduceIte,reduceEqDiff,reduceAdd,reduceLeDiff,reduceLT,reduceCtorEq]
   refine Qk ?_
   simp only[go_sem,Q6,Qad,Qar6,reduceIte,List.mem_singleton,forall_eq,RS.op,reduceIte,reduceEqDiff,reduceAdd,reduceLeDiff,reduceLT,reduceCtorEq]
   exact hK _
theorem Q11 {s:List UInt8} (hK:∀b:Bool,K (.c (.bool b)) H):Qw prog Qc3 [.c (.str s)] H K:=by
 refine Qb Qat Qart ?_
 refine Qa ?_
 simp only[go_sem,reduceIte,reduceEqDiff,reduceAdd,reduceLeDiff,reduceLT,reduceCtorEq]
 refine Qa ?_
 simp only[go_sem,reduceIte,reduceEqDiff,reduceAdd,reduceLeDiff,reduceLT,reduceCtorEq]
 refine Qbcy fun b=>?_
 simp only[go_sem,Qps,reduceIte,reduceEqDiff,reduceAdd,reduceLeDiff,reduceLT,reduceCtorEq]
 intro hl
 refine⟨fun hb=>?_,fun hb=>?_⟩
 ·refine Qbcz fun b2=>?_
  simp only[go_sem,Qhc,reduceIte,reduceEqDiff,reduceAdd,reduceLeDiff,reduceLT,reduceCtorEq]
  refine Qk ?_
  simp only[go_sem,Q6,Qad,Qqa,reduceIte,List.mem_singleton,forall_eq,RS.op,reduceIte,reduceEqDiff,reduceAdd,reduceLeDiff,reduceLT,reduceCtorEq]
  exact hK _
 ·simp only[go_sem,Qhc,hb,reduceIte,reduceEqDiff,reduceAdd,reduceLeDiff,reduceLT,reduceCtorEq]
  refine Qk ?_
  simp only[go_sem,Q6,Qad,Qqa,reduceIte,List.mem_singleton,forall_eq,RS.op,reduceIte,reduceEqDiff,reduceAdd,reduceLeDiff,reduceLT,reduceCtorEq]
  exact hK _
theorem Qa83 {op:Int} (hK:∀a b:Int,K (.tup [.c (.int .i64 a),.c (.int .i64 b)]) H):Qw prog Q2u [.c (.int .i64 op)] H K:=by
 refine Qb Qat Qa9j ?_
 refine Qa ?_
 simp only[go_sem,reduceIte,reduceEqDiff,reduceAdd,reduceLeDiff,reduceLT,reduceCtorEq]
 refine Q3 ?_
 refine Qa ?_
 simp only[go_sem,reduceIte,reduceEqDiff,reduceAdd,reduceLeDiff,reduceLT,reduceCtorEq]
 have ret:∀(a b:Int) (e:Env),lk 2 e=.c (.int .i64 a)→lk 3 e=.c (.int .i64 b)→Q6 Qr6 K .ret e H:=by
  intro a b e h1 h2
  simp only[go_sem,Q6,Qad,Qr6,List.forall_mem_cons,RS.op,h1,h2,reduceIte,reduceEqDiff,reduceAdd,reduceLeDiff,reduceLT,reduceCtorEq]
  exact hK _ _
 refine Qh (Qc ?_)
 refine Q3 ?_
 refine Qa ?_
 simp only[go_sem,reduceIte,reduceEqDiff,reduceAdd,reduceLeDiff,reduceLT,reduceCtorEq]
 have r5:∀(b:Bool),Qac prog Qadu (X.inBlock 0 (X.sq prog Qvx (Q6 Qr6 K))) [(4,.c (.int .i64 op)),(5,.c (.bool b))] H:=by
  intro b
  refine Qd rfl ?_ ?_
  ·intro hc
   refine Qa ?_
   simp only[go_sem,reduceIte,reduceEqDiff,reduceAdd,reduceLeDiff,reduceLT,reduceCtorEq]
   refine Qk ?_
   simp only[go_sem]
   exact ret 0 0 _ (by simp[lk]) (by simp[lk])
  intro hc
  refine Q3 ?_
  refine Qa ?_
  simp only[go_sem,reduceIte,reduceEqDiff,reduceAdd,reduceLeDiff,reduceLT,reduceCtorEq]
  have r8:∀(b:Bool),Qac prog Qadt (X.inBlock 0 (X.sq prog Qvx (Q6 Qr6 K))) [(4,.c (.int .i64 op)),(8,.c (.bool b))] H:=by
   intro b
   refine Qd rfl ?_ ?_
   ·intro hc
    refine Qa ?_
    simp only[go_sem,reduceIte,reduceEqDiff,reduceAdd,reduceLeDiff,reduceLT,reduceCtorEq]
    refine Qk ?_
    simp only[go_sem]
    exact ret 1 1 _ (by simp[lk]) (by simp[lk])
   intro hc
   refine Qa ?_
   simp only[go_sem,reduceIte,reduceEqDiff,reduceAdd,reduceLeDiff,reduceLT,reduceCtorEq]
   refine Qd rfl ?_ ?_
   ·intro hc
    refine Qa ?_
    simp only[go_sem,reduceIte,reduceEqDiff,reduceAdd,reduceLeDiff,reduceLT,reduceCtorEq]
    refine Qk ?_
    simp only[go_sem]
    exact ret 0 3 _ (by simp[lk]) (by simp[lk])
   ·intro hc
    refine Qi ?_
    simp only[go_sem]
    refine Qa ?_
    simp only[go_sem,reduceIte,reduceEqDiff,reduceAdd,reduceLeDiff,reduceLT,reduceCtorEq]
    refine Qk ?_
    exact ret 2 2 _ (by simp[lk]) (by simp[lk])
  refine Qh (Qd rfl ?_ ?_)
  ·intro hc
   refine Qi ?_
   simp only[go_sem]
   exact r8 _
  ·intro hc
   refine Qq ?_
   simp only[go_sem,reduceIte,reduceEqDiff,reduceAdd,reduceLeDiff,reduceLT,reduceCtorEq]
   exact r8 _
 refine Qh (Qd rfl ?_ ?_)
 ·intro hc
  refine Qi ?_
  simp only[go_sem]
  exact r5 _
 ·intro hc
  refine Qq ?_
  simp only[go_sem,reduceIte,reduceEqDiff,reduceAdd,reduceLeDiff,reduceLT,reduceCtorEq]
  exact r5 _
theorem Qa85 {op:Int} (hK:K (.c (.int .i64 (if op=4 then 2 else 1))) H):Qw prog Q2w [.c (.int .i64 op)] H K:=by
 refine Qb Qat Qa9l ?_
 refine Qa ?_
 simp only[go_sem,reduceIte,reduceEqDiff,reduceAdd,reduceLeDiff,reduceLT,reduceCtorEq]
 refine Q3 ?_
 refine Qa ?_
 simp only[go_sem,reduceIte,reduceEqDiff,reduceAdd,reduceLeDiff,reduceLT,reduceCtorEq]
 refine Qh (Qd rfl ?_ ?_)
 ·intro hc
  refine Qa ?_
  simp only[go_sem,reduceIte,reduceEqDiff,reduceAdd,reduceLeDiff,reduceLT,reduceCtorEq]
  refine Qk ?_
  simp only[go_sem,Q6,Qad,Qaff,reduceIte,List.mem_singleton,forall_eq,RS.op,reduceIte,reduceEqDiff,reduceAdd,reduceLeDiff,reduceLT,reduceCtorEq]
  rw[if_pos (by simpa using hc)]at hK;exact hK
 ·intro hc
  refine Qi ?_
  simp only[go_sem]
  refine Qa ?_
  simp only[go_sem,reduceIte,reduceEqDiff,reduceAdd,reduceLeDiff,reduceLT,reduceCtorEq]
  refine Qk ?_
  simp only[go_sem,Q6,Qad,Qaff,reduceIte,List.mem_singleton,forall_eq,RS.op,reduceIte,reduceEqDiff,reduceAdd,reduceLeDiff,reduceLT,reduceCtorEq]
  rw[if_neg (by simpa using hc)]at hK;exact hK
end Go.AE.Y

namespace Go.AE.Y
open Go.Proofs.Tryz
variable {H:Heap} {K:V→Heap→Prop}
end Go.AE.Y
namespace Go.AE
open Go.AE.Y
open Go.Proofs.Tryz
variable {H:Heap} {K:V→Heap→Prop}
theorem Slc.keep {H':Heap} {sz:Nat} {rows:List (List C)} {b:C} {E L:List (Nat×Obj)} (h:Slc H sz rows b) (kn:Kn H H' E L) (hE:∀l a c d,b=.vsl l a c d→l∉E.map Prod.fst):Slc H' sz rows b:=by
 obtain⟨h1,h2,h3,h4⟩:=h
 cases b with
 |sl fl z rs=>exact⟨trivial,h2,h3,h4⟩
 |vsl l z st n=>
  simp only[Go.AE.okSl]at h1
  cases ho:H l with
  |vec y rs=>
   have:=kn.chg l (by rw[ho];simp) (hE l z st n rfl)
   refine⟨?_,h2,?_,h4⟩
   ·simp only[Go.AE.okSl,this];exact h1
   ·simp only[Go.AE.rowsOf,this];exact h3
  |_=>rw[ho]at h1;exact h1.elim
 |_=>exact h1.elim
end Go.AE
namespace Go.AE.Y
open Go.Proofs.Tryz
variable {H:Heap} {K:V→Heap→Prop}
end Go.AE.Y
namespace Go.AE
open Go.AE.Y
open Go.Proofs.Tryz
variable {H:Heap} {K:V→Heap→Prop}
theorem Slc.keep0 {H':Heap} {sz:Nat} {rows:List (List C)} {b:C} {L:List (Nat×Obj)} (h:Slc H sz rows b) (kn:Kn H H' [] L):Slc H' sz rows b:=h.keep kn (by simp)
end Go.AE
namespace Go.AE.Y
open Go.Proofs.Tryz
variable {H:Heap} {K:V→Heap→Prop}
def Q7 (nx:Nat→List Int) (b:Int) (n:Nat):List Int:=((List.range n).filter fun i=>(nx i).contains b).map Int.ofNat
theorem Qf9 (nx:Nat→List Int) (b:Int) (n:Nat):Q7 nx b (n+1)=Q7 nx b n++if (nx n).contains b then [(n:Int)]else []:=by
 simp only[Q7,List.range_succ,List.filter_append,List.map_append]
 congr 1
 cases h:(nx n).contains b
 ·simp only[List.filter_cons,h,List.filter_nil];rfl
 ·simp only[List.filter_cons,h,List.filter_nil,if_true];rfl
theorem Qca (nx:Nat→List Int) (b:Int) (n:Nat):(Q7 nx b n).length≤n:=by
 simp only[Q7,List.length_map]
 exact Nat.le_trans (List.length_filter_le _ _) (by simp)
set_option maxHeartbeats 1000000 in
theorem Qeb {p rg:Int} {bc:C} {rows:List (List C)} {nx:Nat→List Int} {b:Int} (hs:Slc H 5 rows bc) (how:bc.isOw=false)
  (hx:∀i,i<rows.length→∃a1 a2 a3 a4 fl,rows.getD i []=[a1,a2,a3,a4,.sl fl 1 (Qf (nx i))])
  (hK:∀H',Upd H H' []→K (.c (.sl false 1 (Qf (Q7 nx b rows.length)))) H'):Qw prog Qb5 [.ag [.int .i64 p,.int .i64 rg,bc],.c (.int .i64 b)] H K:=by
 refine Qz ?_
 refine Qb Qat Qa5e ?_
 refine Qa ?_
 simp only[go_sem,reduceIte,reduceEqDiff,reduceAdd,reduceLeDiff,reduceLT,reduceCtorEq]
 refine Qa ?_
 simp only[go_sem,reduceIte,reduceEqDiff,reduceAdd,reduceLeDiff,reduceLT,reduceCtorEq]
 refine Q3 ?_
 refine Qa ?_
 simp only[go_sem,reduceIte,reduceEqDiff,reduceAdd,reduceLeDiff,reduceLT,reduceCtorEq]
 have hlen:=hs.len
 have hesz:=hs.sz
 refine Qh (Qc (Qu (fun n e1 H1=>∃(i:Nat) (c:C) (Lg:List (Nat×Obj)),n=rows.length-i∧i≤rows.length∧Gr Lg 1 (Qf (Q7 nx b i)) c∧Kn H H1 [] ([]++Lg)∧
  e1=[(1,.c (.int .i64 b)),(2,.c (.pp [.int .i64 p,.int .i64 rg,bc])),(5,.c c),(6,.c (.int .i64 i))]) rows.length ?_ ?_))
 ·exact⟨0,_,[],by omega,by omega,.nil 1,Kn.start0 H,rfl⟩
 ·rintro n e1 H1 ⟨i,c,Lg,hn1,hi,hgr,kn,rfl⟩
  have hs1:=hs.keep0 kn
  have hok1:=eq_true hs1.ok
  have hrw1:=hs1.rows
  refine Q3 ?_
  refine Qa ?_
  simp only[go_sem,how,hok1,hlen,reduceIte,reduceEqDiff,reduceAdd,reduceLeDiff,reduceLT,reduceCtorEq]
  intro hl
  simp only[LIM]at hl
  refine Qh (Qd rfl ?_ ?_)
  ·intro hc
   have hlt:i<rows.length:=by simpa using hc
   obtain⟨a1,a2,a3,a4,fl,hrow⟩:=hx i hlt
   refine Qi ?_
   simp only[go_sem]
   have turn:∀(e:Env) (H2:Heap) (c':C) (Lg':List (Nat×Obj)),lk 1 e=.c (.int .i64 b)→lk 2 e=.c (.pp [.int .i64 p,.int .i64 rg,bc])→lk 5 e=.c c'→lk 6 e=.c (.int .i64 i)→
     Gr Lg' 1 (Qf (Q7 nx b (i+1))) c'→Kn H H2 [] ([]++Lg')→
     Qac prog Q69 (X.next (fun e2 H2=>∃m,m<n∧∃(i:Nat) (c:C) (Lg:List (Nat×Obj)),m=rows.length-i∧i≤rows.length∧Gr Lg 1 (Qf (Q7 nx b i)) c∧Kn H H2 [] ([]++Lg)∧
      e2=[(1,.c (.int .i64 b)),(2,.c (.pp [.int .i64 p,.int .i64 rg,bc])),(5,.c c),(6,.c (.int .i64 i))]) (X.inBlock 0 (X.sq prog Q7a (Q6 Q37 fun x H'=>∃x',FrzV H' (un H) x x'∧K x' (H'.frz (un H)))))) e H2:=by
    intro e H2 c' Lg' l1 l2 l5 l6 hg' kn'
    refine Qq ?_
    simp only[go_sem,l1,l2,l5,l6,X.next,reduceIte,reduceEqDiff,reduceAdd,reduceLeDiff,reduceLT,reduceCtorEq]
    exact⟨Qo (by omega) (by omega),rows.length-(i+1),by omega,i+1,c',Lg',rfl,by omega,hg',by simpa using kn',rfl⟩
   refine Qh (Qc ?_)
   refine Qa ?_
   simp only[go_sem,reduceIte,reduceEqDiff,reduceAdd,reduceLeDiff,reduceLT,reduceCtorEq]
   refine Qc (Qu (fun n e1 H2=>∃(k:Nat),n=(nx i).length-k∧k≤(nx i).length∧b∉(nx i).take k∧H2=H1∧e1=[(1,.c (.int .i64 b)),(2,.c (.pp [.int .i64 p,.int .i64 rg,bc])),(5,.c c),(6,.c (.int .i64 i)),(7,.c (.int .i64 k))]) (nx i).length ?_ ?_)
   ·exact⟨0,by omega,by omega,by simp,rfl,rfl⟩
   ·rintro n e1 H2 ⟨k,hn2,hk,hno,rfl,rfl⟩
    refine Q3 ?_
    refine Qa ?_
    simp only[go_sem,how,hok1,hlen,hesz,hrw1,hlt,hrow,Qe,reduceIte,reduceEqDiff,reduceAdd,reduceLeDiff,reduceLT,reduceCtorEq]
    intro hl2
    simp only[LIM]at hl2
    refine Qh (Qd rfl ?_ ?_)
    ·intro hc
     have hlt2:k<(nx i).length:=by simpa using hc
     have hgd:(nx i).getD k 0=(nx i)[k]:=by simp[List.getD_eq_getElem?_getD,hlt2]
     refine Qi ?_
     simp only[go_sem]
     refine Qh (Qc ?_)
     refine Qa ?_
     simp only[go_sem,how,hok1,hlen,hesz,hrw1,hlt,hrow,hlt2,Qe,Qs _ _ hlt2,hgd,reduceIte,reduceEqDiff,reduceAdd,reduceLeDiff,reduceLT,reduceCtorEq]
     refine Qd rfl ?_ ?_
     ·intro hc2
      have hb:(nx i)[k]=b:=by simpa using hc2
      have hcon:(nx i).contains b=true:=by rw[List.contains_iff_mem,←hb];exact List.getElem_mem hlt2
      refine Qa ?_
      simp only[go_sem,reduceIte,reduceEqDiff,reduceAdd,reduceLeDiff,reduceLT,reduceCtorEq]
      have hpl:=Qca nx b i
      refine kn.grow (B:=[]) (new:=Qf [(i:Int)]) hgr (.mk' _ _ _ _) (Qv _) (by simp only[Qe,LIM,List.length_cons,List.length_nil];omega) fun y' H3 kn=>?_
      simp only[go_sem,Qzs,reduceIte,reduceEqDiff,reduceAdd,reduceLeDiff,reduceLT,reduceCtorEq]
      refine Qt ?_
      have hib:((2:Nat) == 3)=false:=rfl
      rw[Qa8o hib]
      simp only[go_sem,X.next]
      refine turn _ _ _ _ (by simp[lk]) (by simp[lk]) (by simp[lk];rfl) (by simp[lk]) ?_ kn
      rw[Qf9,hcon,if_pos rfl,Qb7]
      exact .mk _ _ _ (by simp)
     ·intro hc2
      have hb:¬(nx i)[k]=b:=by simpa using hc2
      refine Qi ?_
      simp only[go_sem]
      refine Qq ?_
      simp only[go_sem,X.next,reduceIte,reduceEqDiff,reduceAdd,reduceLeDiff,reduceLT,reduceCtorEq]
      refine⟨Qo (by omega) (by omega),(nx i).length-(k+1),by omega,k+1,rfl,by omega,?_,rfl⟩
      rw[List.take_succ_eq_append_getElem hlt2]
      simp only[List.mem_append,List.mem_singleton,not_or]
      exact⟨hno,fun h=>hb h.symm⟩
    ·intro hc
     have hge:(nx i).length≤k:=by simpa using hc
     rw[List.take_of_length_le hge]at hno
     have hcon:(nx i).contains b=false:=by
      cases hcc:(nx i).contains b with
      |false=>rfl
      |true=>exact absurd (List.contains_iff_mem.1 hcc) hno
     refine Qt ?_
     simp only[go_sem,X.next]
     refine turn _ _ _ _ (by simp[lk]) (by simp[lk]) (by simp[lk];rfl) (by simp[lk]) ?_ kn
     rw[Qf9,hcon]
     simpa using hgr
  ·intro hc
   have hge:i=rows.length:=by have:rows.length≤i:=(by simpa using hc);omega
   subst hge
   refine Qt ?_
   simp only[go_sem,X.next]
   refine Qa ?_
   simp only[go_sem,reduceIte,reduceEqDiff,reduceAdd,reduceLeDiff,reduceLT,reduceCtorEq]
   refine Qk ?_
   simp only[go_sem,Q6,Qad,Q37,reduceIte,List.mem_singleton,forall_eq,RS.op,reduceIte,reduceEqDiff,reduceAdd,reduceLeDiff,reduceLT,reduceCtorEq]
   exact⟨_,.c _ _ (hgr.frz kn (Qv _)),hK _ kn.fin⟩
end Go.AE.Y

namespace Go.AE.Y
open Go.Proofs.Tryz
variable {H:Heap} {K:V→Heap→Prop}
def Qpv (op:Int):Int:=if op=1 then 0 else if op=2∨op=10∨op=11∨op=13 then 1 else if (3≤op∧op≤9)∨op=12 then 2 else -1
theorem Qayu {op:Int} (hK:K (.c (.int .i64 (Qpv op))) H):Qw prog Qk9 [.c (.int .i64 op)] H K:=by
 refine Qb Qat Qa9o ?_
 have retf:∀(n:Int) (e:Env),Qpv op=n→lk 2 e=.c (.int .i64 n)→Q6 Qafh K .ret e H:=by
  intro b e h1 h3
  simp only[go_sem,Q6,Qad,Qafh,List.mem_singleton,forall_eq,RS.op,h3,reduceIte,reduceEqDiff,reduceAdd,reduceLeDiff,reduceLT,reduceCtorEq]
  rw[←h1];exact hK
 refine Qa ?_
 simp only[go_sem,reduceIte,reduceEqDiff,reduceAdd,reduceLeDiff,reduceLT,reduceCtorEq]
 refine Qh (Qc ?_)
 refine Qa ?_
 simp only[go_sem,reduceIte,reduceEqDiff,reduceAdd,reduceLeDiff,reduceLT,reduceCtorEq]
 refine Qd rfl ?_ ?_
 ·intro hc
  refine Qa ?_
  simp only[go_sem,reduceIte,reduceEqDiff,reduceAdd,reduceLeDiff,reduceLT,reduceCtorEq]
  refine Qk ?_
  simp only[go_sem]
  exact retf 0 _ (by simp only[decide_eq_true_eq]at hc;simp[Qpv,hc]) (by simp[lk])
 intro hc1
 refine Qa ?_
 simp only[go_sem,reduceIte,reduceEqDiff,reduceAdd,reduceLeDiff,reduceLT,reduceCtorEq]
 refine Qd rfl ?_ ?_
 ·intro hc
  refine Qa ?_
  simp only[go_sem,reduceIte,reduceEqDiff,reduceAdd,reduceLeDiff,reduceLT,reduceCtorEq]
  refine Qk ?_
  simp only[go_sem]
  exact retf 1 _ (by simp at hc1 hc;rw[Qpv,if_neg hc1,if_pos (by omega)]) (by simp[lk])
 intro hc2
 refine Qa ?_
 simp only[go_sem,reduceIte,reduceEqDiff,reduceAdd,reduceLeDiff,reduceLT,reduceCtorEq]
 refine Qcm ?_
 simp only[go_sem,Q6k,reduceIte,reduceEqDiff,reduceAdd,reduceLeDiff,reduceLT,reduceCtorEq]
 refine Qd rfl ?_ ?_
 ·intro hc
  refine Qa ?_
  simp only[go_sem,reduceIte,reduceEqDiff,reduceAdd,reduceLeDiff,reduceLT,reduceCtorEq]
  refine Qk ?_
  simp only[go_sem]
  exact retf 2 _ (by simp at hc1 hc2 hc;rw[Qpv,if_neg hc1,if_neg (by omega),if_pos (by omega)]) (by simp[lk])
 ·intro hc
  refine Qi ?_
  simp only[go_sem]
  refine Qa ?_
  simp only[go_sem,reduceIte,reduceEqDiff,reduceAdd,reduceLeDiff,reduceLT,reduceCtorEq]
  refine Qk ?_
  exact retf (-1) _ (by simp at hc1 hc2 hc;rw[Qpv,if_neg hc1,if_neg (by omega),if_neg (by omega)]) (by simp[lk])
theorem argsN_in {op:Int}:-1≤Qpv op∧Qpv op≤2:=by
 rw[Qpv];split
 ·omega
 ·split
  ·omega
  ·split <;> omega
theorem Qa4j {op:Int} (hK:∀n:Int,-1≤n→n≤2→K (.c (.int .i64 n)) H):Qw prog Qk9 [.c (.int .i64 op)] H K:=Qayu (hK _ argsN_in.1 argsN_in.2)
def Qde (op:Int):Bool:=decide (1≤op∧op≤14)&&!decide (op=12)&&!decide (op=13)
theorem Qlg {op:Int} (hK:K (.c (.bool (Qde op))) H):Qw prog Qdq [.c (.int .i64 op)] H K:=by
 refine Qb Qat Qa5d ?_
 refine Qa ?_
 simp only[go_sem,reduceIte,reduceEqDiff,reduceAdd,reduceLeDiff,reduceLT,reduceCtorEq]
 refine Qa ?_
 simp only[go_sem,reduceIte,reduceEqDiff,reduceAdd,reduceLeDiff,reduceLT,reduceCtorEq]
 refine Qcm ?_
 simp only[go_sem,Qzr,reduceIte,reduceEqDiff,reduceAdd,reduceLeDiff,reduceLT,reduceCtorEq]
 refine Qk ?_
 simp only[go_sem,Q6,Qad,Qaj9,reduceIte,List.mem_singleton,forall_eq,RS.op,reduceIte,reduceEqDiff,reduceAdd,reduceLeDiff,reduceLT,reduceCtorEq]
 have:∀a b c:Bool,(bif bif a then b else false then c else false)=(a&&b&&c):=by decide
 rw[this];exact hK
def Qlq (rg:Int) (l:List Int):Bool:=l.all fun x=>decide (0≤x∧x≤rg-1)
theorem Qa0s {rg:Int} {l:List Int} {i:Nat} (hi:i<l.length):Qlq rg (l.take (i+1))=(Qlq rg (l.take i)&&decide (0≤l.getD i 0∧l.getD i 0≤rg-1)):=by
 have e:l.getD i 0=l[i]:=by simp[List.getD_eq_getElem?_getD,hi]
 rw[Qlq,List.take_succ_eq_append_getElem hi,List.all_append,e];simp[Qlq]
theorem Qa5u {rg:Int} {l:List Int} {i:Nat} (hi:i<l.length) (h:decide (0≤l.getD i 0∧l.getD i 0≤rg-1)=false):Qlq rg l=false:=by
 have e:l.getD i 0=l[i]:=by simp[List.getD_eq_getElem?_getD,hi]
 cases hc:Qlq rg l with
 |false=>rfl
 |true=>
  rw[Qlq,List.all_eq_true]at hc
  have:=hc _ (List.getElem_mem hi)
  rw[e]at h
  rw[h]at this;exact absurd this (by simp)
theorem Qayv {p rg:Int} {bc:C} {fl:Bool} {l:List Int} (hr:-(2^62)≤rg) (hr2:rg≤2^62) (hK:K (.c (.bool (Qlq rg l))) H) :
  Qw prog Qrm [.ag [.int .i64 p,.int .i64 rg,bc],.c (.sl fl 1 (Qf l))] H K:=by
 refine Qb Qat Qa9s ?_
 have retf:∀(b:Bool) (e:Env),Qlq rg l=b→lk 4 e=.c (.bool b)→Q6 Qafi K .ret e H:=by
  intro b e h1 h3
  simp only[go_sem,Q6,Qad,Qafi,List.mem_singleton,forall_eq,RS.op,h3,reduceIte,reduceEqDiff,reduceAdd,reduceLeDiff,reduceLT,reduceCtorEq]
  rw[←h1];exact hK
 refine Qa ?_
 simp only[go_sem,reduceIte,reduceEqDiff,reduceAdd,reduceLeDiff,reduceLT,reduceCtorEq]
 refine Q3 ?_
 refine Qa ?_
 simp only[go_sem,reduceIte,reduceEqDiff,reduceAdd,reduceLeDiff,reduceLT,reduceCtorEq]
 refine Qh (Qc (Qu (fun n e1 H1=>∃(i:Nat),n=l.length-i∧i≤l.length∧H1=H∧Qlq rg (l.take i)=true∧e1=[(1,.c (.sl fl 1 (Qf l))),(2,.c (.pp [.int .i64 p,.int .i64 rg,bc])),(5,.c (.int .i64 i))]) l.length ?_ ?_))
 ·exact⟨0,by omega,by omega,rfl,rfl,rfl⟩
 ·rintro n e1 H1 ⟨i,hn1,hi,rfl,hall,rfl⟩
  refine Q3 ?_
  refine Qa ?_
  simp only[go_sem,Qe,reduceIte,reduceEqDiff,reduceAdd,reduceLeDiff,reduceLT,reduceCtorEq]
  intro hl
  simp only[LIM]at hl
  refine Qh (Qd rfl ?_ ?_)
  ·intro hc
   have hlt:i<l.length:=by simpa using hc
   refine Qi ?_
   simp only[go_sem]
   refine Qh (Qc ?_)
   refine Qal ?_
   simp only[go_sem,hlt,Qe,Qs _ _ hlt,reduceIte,reduceEqDiff,reduceAdd,reduceLeDiff,reduceLT,reduceCtorEq]
   refine⟨Qo (by omega) (by omega),?_⟩
   refine Qcm ?_
   simp only[go_sem,Q7b,reduceIte,reduceEqDiff,reduceAdd,reduceLeDiff,reduceLT,reduceCtorEq]
   refine Qd rfl ?_ ?_
   ·intro hc2
    refine Qa ?_
    simp only[go_sem,reduceIte,reduceEqDiff,reduceAdd,reduceLeDiff,reduceLT,reduceCtorEq]
    refine Qk ?_
    simp only[go_sem,X.next]
    exact retf false _ (Qa5u hlt (Qrw hc2)) (by simp[lk])
   ·intro hc2
    refine Qi ?_
    simp only[go_sem]
    refine Qq ?_
    simp only[go_sem,X.next,reduceIte,reduceEqDiff,reduceAdd,reduceLeDiff,reduceLT,reduceCtorEq]
    exact⟨Qo (by omega) (by omega),l.length-(i+1),by omega,i+1,rfl,by omega,by rw[Qa0s hlt,hall,Qeg hc2];rfl,rfl⟩
  ·intro hc
   have hge:l.length≤i:=by simpa using hc
   rw[List.take_of_length_le hge]at hall
   refine Qt ?_
   simp only[go_sem,X.next]
   refine Qa ?_
   simp only[go_sem,reduceIte,reduceEqDiff,reduceAdd,reduceLeDiff,reduceLT,reduceCtorEq]
   refine Qk ?_
   exact retf true _ hall (by simp[lk])
def rgOf (cs:List CodeD) (k:Nat):Int:=(cs[k]?.map CodeD.regs).getD 0
def pmOf (cs:List CodeD) (k:Nat):Int:=(cs[k]?.map CodeD.params).getD 0
theorem Qar8 {cs:List CodeD} {k:Nat} (h:k<cs.length):rgOf cs k=cs[k].regs:=by simp[rgOf,h]
theorem Qar1 {cs:List CodeD} {k:Nat} (h:k<cs.length):pmOf cs k=cs[k].params:=by simp[pmOf,h]
def insH (rg:Int) (x:InsD):Bool:=decide (1≤x.op∧x.op≤14)&&Qlq rg x.args
def insT (rg:Int) (x:InsD):Bool:=if Qde x.op then decide (0≤x.to∧x.to≤rg-1)else decide (x.to=-1)
def insL (cs:List CodeD) (k:Nat) (x:InsD):Bool:=
 if x.op=14 then decide (0≤x.n∧x.n≤(k:Int)-1)&&decide ((x.args.length:Int)=pmOf cs x.n.toNat)
 else decide ((x.args.length:Int)=Qpv x.op)&&decide (0≤x.n∧x.n≤255)&&(decide (x.n=0) || decide (x.op=1))
def Q9k (cs:List CodeD) (k:Nat) (x:InsD):Bool:=insH (rgOf cs k) x&&insT (rgOf cs k) x&&insL cs k x
set_option maxHeartbeats 1000000 in
theorem Qbc1 {cs:List CodeD} {fl:Bool} {k:Nat} {x:InsD} (hk:k<cs.length) (hr:0≤cs[k].regs) (hr2:cs[k].regs≤300) (hcl:cs.length≤100) (hK:∀(H':Heap),Upd H H' []→K (.c (.bool (Q9k cs k x))) H') :
  Qw prog Qaej [.ag [.sl fl 3 (Qp cs)],.c (.int .i64 k),.ag x.cells] H K:=by
 refine Qz ?_
 refine Qb Qat Qbdc ?_
 refine Qa ?_
 simp only[go_sem,InsD.cells,reduceIte,reduceEqDiff,reduceAdd,reduceLeDiff,reduceLT,reduceCtorEq]
 refine Qa ?_
 simp only[go_sem,hk,Q4,Qaj _ _ hk,CodeD.cells,reduceIte,reduceEqDiff,reduceAdd,reduceLeDiff,reduceLT,reduceCtorEq]
 intro x7 hx7 H1 h1
 have kn:=(Kn.start0 H).al hx7 h1
 have hx71:=kn.l 0 rfl
 simp only[go_sem,Qadz,hx71,reduceIte,reduceEqDiff,reduceAdd,reduceLeDiff,reduceLT,reduceCtorEq]
 intro H2 h2
 have kn:=kn.stL 0 rfl h2
 have hx72:=kn.l 0 rfl
 have hrg:=Qar8 hk
 have retf:∀(b:Bool) (e:Env),Q9k cs k x=b→lk 6 e=.c (.bool b)→Q6 Q36 (fun x H'=>∃x',FrzV H' (un H) x x'∧K x' (H'.frz (un H))) .ret e H2:=by
  intro b e h1 h3
  simp only[go_sem,Q6,Qad,Q36,List.mem_singleton,forall_eq,RS.op,h3,reduceIte,reduceEqDiff,reduceAdd,reduceLeDiff,reduceLT,reduceCtorEq]
  rw[←h1];exact⟨_,.c _ _ (Qg rfl),hK _ kn.fin⟩
 refine Q3 ?_
 refine Qa ?_
 simp only[go_sem,reduceIte,reduceEqDiff,reduceAdd,reduceLeDiff,reduceLT,reduceCtorEq]
 refine Qcm ?_
 simp only[go_sem,Qad0,hx72,reduceIte,reduceEqDiff,reduceAdd,reduceLeDiff,reduceLT,reduceCtorEq]
 have rest:∀(E1:Env) (b:Bool),insH cs[k].regs x=(!b)→lk 1 E1=.c (.int .i64 k)→lk 3 E1=.c (.pp [.sl fl 3 (Qp cs)])→lk 5 E1=.c (.pp [.int .i64 x.op,.int .i64 x.to,.sl false 1 (Qf x.args),.int .i64 x.n])→lk 7 E1=.c (.ptr x7 0)→lk 23 E1=.c (.bool b)→
   Qac prog (s_l7Ins_3.seq Qady) (Q6 Q36 (fun x H'=>∃x',FrzV H' (un H) x x'∧K x' (H'.frz (un H)))) E1 H2:=by
  intro E1 b hb l1 l3 l5 l7 l23
  refine Qh (Qd l23 ?_ ?_)
  ·intro hc
   refine Qa ?_
   simp only[go_sem,reduceIte,reduceEqDiff,reduceAdd,reduceLeDiff,reduceLT,reduceCtorEq]
   refine Qk ?_
   simp only[go_sem]
   exact retf false _ (by rw[Q9k,hrg,hb,hc];rfl) (by simp[lk])
  intro hc
  rw[hc]at hb
  refine Qi ?_
  simp only[go_sem]
  refine Q3 ?_
  refine Qal ?_
  simp only[go_sem,l1,l3,l5,l7,hx72,reduceIte,reduceEqDiff,reduceAdd,reduceLeDiff,reduceLT,reduceCtorEq]
  refine⟨Qo (by omega) (by omega),?_⟩
  refine Qlg ?_
  simp only[go_sem,Qad2,l1,l3,l5,l7,hx72,reduceIte,reduceEqDiff,reduceAdd,reduceLeDiff,reduceLT,reduceCtorEq]
  refine Qcm ?_
  simp only[go_sem,Qad1,l1,l3,l5,l7,hx72,reduceIte,reduceEqDiff,reduceAdd,reduceLeDiff,reduceLT,reduceCtorEq]
  have rest2:∀(E1:Env) (b:Bool),insT cs[k].regs x=(!b)→lk 1 E1=.c (.int .i64 k)→lk 3 E1=.c (.pp [.sl fl 3 (Qp cs)])→lk 5 E1=.c (.pp [.int .i64 x.op,.int .i64 x.to,.sl false 1 (Qf x.args),.int .i64 x.n])→lk 44 E1=.c (.bool b)→
    Qac prog (s_l7Ins_7.seq Qadx) (Q6 Q36 (fun x H'=>∃x',FrzV H' (un H) x x'∧K x' (H'.frz (un H)))) E1 H2:=by
   intro E1 b hb2 l1 l3 l5 l44
   refine Qh (Qd l44 ?_ ?_)
   ·intro hc
    refine Qa ?_
    simp only[go_sem,reduceIte,reduceEqDiff,reduceAdd,reduceLeDiff,reduceLT,reduceCtorEq]
    refine Qk ?_
    simp only[go_sem]
    exact retf false _ (by rw[Q9k,hrg,hb2,hc];simp) (by simp[lk])
   intro hc
   rw[hc]at hb2
   have hG:Q9k cs k x=insL cs k x:=by rw[Q9k,hrg,hb,hb2];rfl
   refine Qi ?_
   simp only[go_sem]
   refine Q3 ?_
   refine Qa ?_
   simp only[go_sem,l1,l3,l5,reduceIte,reduceEqDiff,reduceAdd,reduceLeDiff,reduceLT,reduceCtorEq]
   refine Qh (Qd rfl ?_ ?_)
   ·intro hc
    have hop:x.op=14:=of_decide_eq_true hc
    rw[insL,if_pos hop]at hG
    refine Qal ?_
    simp only[go_sem,reduceIte,reduceEqDiff,reduceAdd,reduceLeDiff,reduceLT,reduceCtorEq]
    refine⟨Qo (by omega) (by omega),?_⟩
    refine Qcm ?_
    by_cases hin:0≤x.n∧x.n≤(k:Int)-1
    ·obtain⟨m,hm⟩:=Int.eq_ofNat_of_zero_le hin.1
     have hmk:m<cs.length:=by omega
     have hin':(0≤(m:Int)∧(m:Int)≤(k:Int)-1)=True:=eq_true (by rw[←hm];exact hin)
     simp only[go_sem,Qn1,hm,hin',hmk,decide_true,Q4,Qaj _ _ hmk,CodeD.cells,Qe,reduceIte,reduceEqDiff,reduceAdd,reduceLeDiff,reduceLT,reduceCtorEq]
     refine Qk ?_
     refine retf _ _ ?_ (by simp[lk];rfl)
     rw[hG,hm,Int.toNat_natCast,Qar1 hmk]
     simp only[hin',decide_true,Bool.true_and]
     simp[show ((m:Int)≤(k:Int)-1) from by omega]
    ·have hin':decide (0≤x.n∧x.n≤(k:Int)-1)=false:=by simpa using hin
     by_cases hm:x.n.toNat<cs.length
     ·simp only[go_sem,Qn1,hin',Qaj _ _ hm,CodeD.cells,reduceIte,reduceEqDiff,reduceAdd,reduceLeDiff,reduceLT,reduceCtorEq]
      refine Qk ?_
      exact retf false _ (by rw[hG,hin'];rfl) (by simp[lk])
     ·have hgd:(Qp cs).getD x.n.toNat []=[]:=by
       rw[List.getD_eq_getElem?_getD,List.getElem?_eq_none (by rw[Q4];omega)];rfl
      simp only[go_sem,Qn1,hin',hgd,List.take_nil,List.headD_nil,reduceIte,reduceEqDiff,reduceAdd,reduceLeDiff,reduceLT,reduceCtorEq]
      refine Qk ?_
      exact retf false _ (by rw[hG,hin'];rfl) (by simp[lk])
   ·intro hc
    have hop:¬x.op=14:=of_decide_eq_false hc
    rw[insL,if_neg hop]at hG
    refine Qi ?_
    simp only[go_sem]
    refine Qal ?_
    simp only[go_sem,reduceIte,reduceEqDiff,reduceAdd,reduceLeDiff,reduceLT,reduceCtorEq]
    refine Qayu ?_
    simp only[go_sem,Q68,reduceIte,reduceEqDiff,reduceAdd,reduceLeDiff,reduceLT,reduceCtorEq]
    refine⟨fun hb=>?_,fun hb=>?_⟩
    ·refine Qcm ?_
     simp only[go_sem,Qq5,reduceIte,reduceEqDiff,reduceAdd,reduceLeDiff,reduceLT,reduceCtorEq]
     refine Qk ?_
     refine retf _ _ ?_ (by simp[lk];rfl)
     have hb':(x.args.length:Int)=Qpv x.op:=by simpa[Qe]using hb
     rw[hG];simp[hb',Qe]
    ·simp only[go_sem,Qq5,hb,reduceIte,reduceEqDiff,reduceAdd,reduceLeDiff,reduceLT,reduceCtorEq]
     refine Qk ?_
     refine retf _ _ ?_ (by simp[lk];rfl)
     have hb':¬(x.args.length:Int)=Qpv x.op:=by simpa[Qe]using hb
     rw[hG];simp[hb']
  refine⟨fun hb=>?_,fun hb=>?_⟩
  ·refine Qlg ?_
   simp only[go_sem,Qv0,l1,l3,l5,l7,reduceIte,reduceEqDiff,reduceAdd,reduceLeDiff,reduceLT,reduceCtorEq]
   refine rest2 _ _ ?_ (by simp[lk]) (by simp[lk]) (by simp[lk]) (by simp[lk];rfl)
   cases hmk:Qde x.op with
   |true=>simp[insT,hmk]
   |false=>by_cases h:x.to=-1 <;> simp[insT,hmk,h]
  ·replace hb:=Qeg hb
   simp only[go_sem,Qv0,l1,l3,l5,l7,hb,reduceIte,reduceEqDiff,reduceAdd,reduceLeDiff,reduceLT,reduceCtorEq]
   refine rest2 _ true ?_ (by simp[lk]) (by simp[lk]) (by simp[lk]) (by simp[lk])
   cases hmk:Qde x.op with
   |true=>simp[hmk]at hb;simp[insT,hmk];omega
   |false=>simp[hmk]at hb;simp[insT,hmk];omega
 refine⟨fun hb=>?_,fun hb=>?_⟩
 ·refine Qayv (by omega) (by omega) ?_
  simp only[go_sem,Qvz,reduceIte,reduceEqDiff,reduceAdd,reduceLeDiff,reduceLT,reduceCtorEq]
  refine rest _ _ ?_ (by simp[lk]) (by simp[lk]) (by simp[lk]) (by simp[lk]) (by simp[lk];rfl)
  simp[insH]
 ·replace hb:=Qeg hb
  simp only[go_sem,Qvz,hb,reduceIte,reduceEqDiff,reduceAdd,reduceLeDiff,reduceLT,reduceCtorEq]
  refine rest _ true ?_ (by simp[lk]) (by simp[lk]) (by simp[lk]) (by simp[lk]) (by simp[lk])
  rw[insH,Qrw hb];rfl
end Go.AE.Y

namespace Go.AE.Y
open Go.Proofs.Tryz
variable {H:Heap} {K:V→Heap→Prop}
theorem InsD.take4 (x:InsD):x.cells.take 4=x.cells:=rfl
theorem InsD.allOw (x:InsD):(x.cells.all fun c=>!c.isOw)=true:=rfl
theorem InsD.len4 (x:InsD):x.cells.length=4:=rfl
theorem Qbb4 (l:List BlkD) (i:Nat) (h:i<(Ql l).length):∃a1 a2 a3 a4 fl,(Ql l).getD i []=[a1,a2,a3,a4,.sl fl 1 (Qf ((l.map BlkD.next).getD i []))]:=by
 rw[Qj]at h
 rw[Q5 _ _ h]
 have:(l.map BlkD.next).getD i []=l[i].next:=by simp[List.getD_eq_getElem?_getD,h]
 exact⟨.sl false 2 (Qai l[i].phis),.sl false 4 (Qbk l[i].ins),.int .i64 l[i].jump,.int .i64 l[i].on,false,by rw[this];rfl⟩
set_option maxHeartbeats 3000000 in
theorem Q12 {α:Type} {p:α→Bool} {l:List α} {i:Nat} (hi:i<l.length):(l.take (i+1)).all p=((l.take i).all p&&p l[i]):=by
 rw[List.take_succ_eq_append_getElem hi,List.all_append];simp
theorem Qaea {α:Type} {p:α→Bool} {l:List α} {i:Nat} (hi:i<l.length) (h:p l[i]=false):l.all p=false:=by
 cases hc:l.all p with
 |false=>rfl
 |true=>rw[List.all_eq_true.1 hc _ (List.getElem_mem hi)]at h;exact absurd h (by simp)
def Qkw (j:Int):Int:=if j=1 then 1 else if j=2 then 2 else if j=3 then 0 else -1
def Qn2 (rg:Int) (y:BlkD):Bool:=decide ((y.next.length:Int)=Qkw y.jump)&&if y.jump=1 then decide (y.on=0)else decide (0≤y.on∧y.on≤rg-1)
def Qz8 (n:Nat) (x:Int):Bool:=decide (1≤x∧x≤(n:Int)-1)
def phiG (rg:Int) (np b:Nat) (x:PhiD):Bool:=!decide (b=0)&&decide ((x.args.length:Int)=np)&&Qlq rg x.args&&decide (0≤x.to∧x.to≤rg-1)
def blkG (cs:List CodeD) (k b:Nat) (q:CodeD) (y:BlkD):Bool:=
 Qn2 q.regs y&&y.next.all (Qz8 (Ql q.blocks).length)&&y.ins.all (Q9k cs k)&&y.phis.all (phiG q.regs (Q7 (fun i=>(q.blocks.map BlkD.next).getD i []) (b:Int) (Ql q.blocks).length).length b)
theorem Qa26 {cs:List CodeD} {k b:Nat} {q:CodeD} {y:BlkD} (h:blkG cs k b q y=true):y.next.length≤2:=by
 simp only[blkG,Qn2,Bool.and_eq_true,decide_eq_true_eq]at h
 have:=h.1.1.1.1
 rw[Qkw]at this
 split at this
 ·omega
 ·split at this
  ·omega
  ·split at this <;> omega
set_option maxHeartbeats 1000000 in
theorem Qa4k {cs:List CodeD} {fl:Bool} {k b:Nat} (hk:k<cs.length) (hbk:b<cs[k].blocks.length) (hr:0≤cs[k].regs) (hr2:cs[k].regs≤300) (hcl:cs.length≤100) (hbl:cs[k].blocks.length≤200) (hK:∀(H':Heap),Upd H H' []→K (.c (.bool (blkG cs k b cs[k] cs[k].blocks[b]))) H') :
  Qw prog Quy [.ag [.sl fl 3 (Qp cs)],.c (.int .i64 k),.c (.int .i64 b)] H K:=by
 refine Qz ?_
 refine Qb Qat Qa5c ?_
 have retf:∀(v:Bool) (e:Env) (H':Heap) (L:List (Nat×Obj)),blkG cs k b cs[k] cs[k].blocks[b]=v→Kn H H' [] L→lk 6 e=.c (.bool v)→Q6 Qhr (fun x H'=>∃x',FrzV H' (un H) x x'∧K x' (H'.frz (un H))) .ret e H':=by
  intro v e H' L hb kn h3
  simp only[go_sem,Q6,Qad,Qhr,List.mem_singleton,forall_eq,RS.op,h3,reduceIte,reduceEqDiff,reduceAdd,reduceLeDiff,reduceLT,reduceCtorEq]
  rw[←hb];exact⟨_,.c _ _ (Qg rfl),hK _ kn.fin⟩
 refine Qa ?_
 simp only[go_sem,reduceIte,reduceEqDiff,reduceAdd,reduceLeDiff,reduceLT,reduceCtorEq]
 refine Qa ?_
 simp only[go_sem,hk,Q4,Qaj _ _ hk,CodeD.cells,reduceIte,reduceEqDiff,reduceAdd,reduceLeDiff,reduceLT,reduceCtorEq]
 intro x7 hx7 H1 h1
 have kn:=(Kn.start0 H).al hx7 h1
 have hx71:=kn.l 0 rfl
 simp only[go_sem,Qzg,hx71,reduceIte,reduceEqDiff,reduceAdd,reduceLeDiff,reduceLT,reduceCtorEq]
 intro H2 h2
 have kn:=kn.stL 0 rfl h2
 have hx72:=kn.l 0 rfl
 refine Qa ?_
 simp only[go_sem,hx72,hbk,Qj,Q5 _ _ hbk,BlkD.cells,reduceIte,reduceEqDiff,reduceAdd,reduceLeDiff,reduceLT,reduceCtorEq]
 obtain⟨y,hy⟩:∃y,cs[k].blocks[b]=y:=⟨_,rfl⟩
 rw[hy]
 intro x8 hx8 H3 h3
 have kn:=kn.al hx8 h3
 have hx83:=kn.l 1 rfl
 simp only[go_sem,Qzh,hx83,reduceIte,reduceEqDiff,reduceAdd,reduceLeDiff,reduceLT,reduceCtorEq]
 intro H4 h4
 have kn:Kn H H4 [] [(x7,.st [.int .i64 cs[k].params,.int .i64 cs[k].regs,.sl false 5 (Ql cs[k].blocks)]),(x8,.st [.sl false 2 (Qai y.phis),.sl false 4 (Qbk y.ins),.int .i64 y.jump,.int .i64 y.on,.sl false 1 (Qf y.next)])]:=kn.stL 1 rfl h4
 obtain⟨q,hq⟩:∃q,cs[k]=q:=⟨_,rfl⟩
 have hGe:blkG cs k b cs[k] cs[k].blocks[b]=blkG cs k b q y:=by rw[hy,hq]
 rw[hGe]at retf
 rw[hq]at kn hr hr2 hbk hbl
 generalize hnp:(Q7 (fun i=>(q.blocks.map BlkD.next).getD i []) (b:Int) (Ql q.blocks).length).length=np
 have hGd:blkG cs k b q y=(Qn2 q.regs y&&y.next.all (Qz8 (Ql q.blocks).length)&&y.ins.all (Q9k cs k)&&y.phis.all (phiG q.regs np b)):=by rw[blkG,hnp]
 refine Qa ?_
 simp only[go_sem,reduceIte,reduceEqDiff,reduceAdd,reduceLeDiff,reduceLT,reduceCtorEq]
 have hx74:=kn.l 0 rfl
 have hx84:=kn.l 1 rfl
 refine Q3 ?_
 refine Qa ?_
 simp only[go_sem,hx84,reduceIte,reduceEqDiff,reduceAdd,reduceLeDiff,reduceLT,reduceCtorEq]
 have rest31:∀(want:Int) (E1:Env),Qkw y.jump=want→(y.jump=1→y.on=0)→lk 1 E1=.c (.int .i64 k)→lk 2 E1=.c (.int .i64 b)→lk 3 E1=.c (.pp [.sl fl 3 (Qp cs)])→lk 7 E1=.c (.ptr x7 0)→lk 8 E1=.c (.ptr x8 0)→lk 9 E1=.c (.int .i64 want)→
   Qac prog Qzf (Q6 Qhr (fun x H'=>∃x',FrzV H' (un H) x x'∧K x' (H'.frz (un H)))) E1 H4:=by
  intro want E1 hw hjo l1 l2 l3 l7 l8 l9
  refine Q3 ?_
  refine Qa ?_
  simp only[go_sem,l1,l2,l3,l7,l8,l9,hx74,hx84,Qe,reduceIte,reduceEqDiff,reduceAdd,reduceLeDiff,reduceLT,reduceCtorEq]
  intro hnl
  simp only[LIM]at hnl
  refine⟨fun _=>Qo (by omega) (by omega),?_⟩
  have rest8:∀(b1:Bool) (E1:Env),Qn2 q.regs y=(!b1)→lk 1 E1=.c (.int .i64 k)→lk 2 E1=.c (.int .i64 b)→lk 3 E1=.c (.pp [.sl fl 3 (Qp cs)])→lk 7 E1=.c (.ptr x7 0)→lk 8 E1=.c (.ptr x8 0)→lk 53 E1=.c (.bool b1)→
    Qac prog (s_l7Block_8.seq Qze) (Q6 Qhr (fun x H'=>∃x',FrzV H' (un H) x x'∧K x' (H'.frz (un H)))) E1 H4:=by
   intro b1 E1 hn2 l1 l2 l3 l7 l8 l53
   refine Qh (Qd l53 ?_ ?_)
   ·intro hc
    refine Qa ?_
    simp only[go_sem,reduceIte,reduceEqDiff,reduceAdd,reduceLeDiff,reduceLT,reduceCtorEq]
    refine Qk ?_
    simp only[go_sem]
    exact retf false _ _ _ (by rw[hGd,hn2,hc];simp) kn (by simp[lk])
   intro hbf
   rw[hbf]at hn2
   refine Qi ?_
   simp only[go_sem]
   refine Q3 ?_
   refine Qa ?_
   simp only[go_sem,l1,l2,l3,l7,l8,reduceIte,reduceEqDiff,reduceAdd,reduceLeDiff,reduceLT,reduceCtorEq]
   refine Qh (Qc (Qu (fun n e1 H1=>∃(i:Nat),n=y.next.length-i∧i≤y.next.length∧H1=H4∧(y.next.take i).all (Qz8 (Ql q.blocks).length)=true∧e1=[(1,.c (.int .i64 k)),(2,.c (.int .i64 b)),(3,.c (.pp [.sl fl 3 (Qp cs)])),(7,.c (.ptr x7 0)),(8,.c (.ptr x8 0)),(10,.c (.int .i64 i))]) y.next.length ?_ ?_))
   ·exact⟨0,by omega,by omega,rfl,rfl,rfl⟩
   ·rintro n e1 H1 ⟨i,hn1,hi,rfl,hall1,rfl⟩
    refine Q3 ?_
    refine Qa ?_
    simp only[go_sem,hx84,Qe,reduceIte,reduceEqDiff,reduceAdd,reduceLeDiff,reduceLT,reduceCtorEq]
    refine fun _=>?_
    refine Qh (Qd rfl ?_ ?_)
    ·intro hc
     have hlt:i<y.next.length:=by simpa using hc
     have hgd:y.next.getD i 0=y.next[i]:=by simp[List.getD_eq_getElem?_getD,hlt]
     have hng:Qz8 (Ql q.blocks).length y.next[i]=decide (1≤y.next.getD i 0∧y.next.getD i 0≤(q.blocks.length:Int)-1):=by rw[hgd,Qz8,Qj]
     refine Qi ?_
     simp only[go_sem]
     refine Qh (Qc ?_)
     refine Qal ?_
     simp only[go_sem,hx84,hx74,hlt,Qe,Qs _ _ hlt,Qj,reduceIte,reduceEqDiff,reduceAdd,reduceLeDiff,reduceLT,reduceCtorEq]
     refine⟨Qo (by omega) (by omega),?_⟩
     refine Qcm ?_
     simp only[go_sem,Qzi,reduceIte,reduceEqDiff,reduceAdd,reduceLeDiff,reduceLT,reduceCtorEq]
     refine Qd rfl ?_ ?_
     ·intro hc2
      refine Qa ?_
      simp only[go_sem,reduceIte,reduceEqDiff,reduceAdd,reduceLeDiff,reduceLT,reduceCtorEq]
      refine Qk ?_
      simp only[go_sem,X.next]
      exact retf false _ _ _ (by rw[hGd,Qaea hlt (by rw[hng];exact Qrw hc2)];simp) kn (by simp[lk])
     ·intro hc2
      refine Qi ?_
      simp only[go_sem]
      refine Qq ?_
      simp only[go_sem,X.next,reduceIte,reduceEqDiff,reduceAdd,reduceLeDiff,reduceLT,reduceCtorEq]
      exact⟨Qo (by omega) (by omega),y.next.length-(i+1),by omega,i+1,rfl,by omega,by rw[Q12 hlt,←Qj q.blocks,hall1,hng,Qeg hc2];rfl,rfl⟩
    ·intro hc
     have hge:y.next.length≤i:=by simpa using hc
     rw[List.take_of_length_le hge]at hall1
     refine Qt ?_
     simp only[go_sem,X.next]
     refine Q3 ?_
     refine Qa ?_
     simp only[go_sem,reduceIte,reduceEqDiff,reduceAdd,reduceLeDiff,reduceLT,reduceCtorEq]
     refine Qh (Qc (Qu (fun n e1 H1=>∃(i:Nat),n=y.ins.length-i∧i≤y.ins.length∧Kn H H1 [] [(x7,.st [.int .i64 q.params,.int .i64 q.regs,.sl false 5 (Ql q.blocks)]),(x8,.st [.sl false 2 (Qai y.phis),.sl false 4 (Qbk y.ins),.int .i64 y.jump,.int .i64 y.on,.sl false 1 (Qf y.next)])]∧(y.ins.take i).all (Q9k cs k)=true∧
      e1=[(1,.c (.int .i64 k)),(2,.c (.int .i64 b)),(3,.c (.pp [.sl fl 3 (Qp cs)])),(7,.c (.ptr x7 0)),(8,.c (.ptr x8 0)),(11,.c (.int .i64 i))]) y.ins.length ?_ ?_))
     ·exact⟨0,by omega,by omega,kn,rfl,rfl⟩
     ·rintro n e1 H5 ⟨i,hn1,hi,kn,hall2,rfl⟩
      have hx75:=kn.l 0 rfl
      have hx85:=kn.l 1 rfl
      refine Q3 ?_
      refine Qa ?_
      simp only[go_sem,hx85,Qam,reduceIte,reduceEqDiff,reduceAdd,reduceLeDiff,reduceLT,reduceCtorEq]
      intro hil
      simp only[LIM]at hil
      refine Qh (Qd rfl ?_ ?_)
      ·intro hc
       have hlt:i<y.ins.length:=by simpa using hc
       refine Qi ?_
       simp only[go_sem]
       refine Qh (Qc ?_)
       refine Qal ?_
       simp only[go_sem,hx85,hx75,hlt,Qam,Qbq _ _ hlt,InsD.take4,InsD.allOw,InsD.len4,reduceIte,reduceEqDiff,reduceAdd,reduceLeDiff,reduceLT,reduceCtorEq]
       refine Qbc1 hk (by rw[hq];omega) (by rw[hq];omega) hcl fun H6 hu=>?_
       have kn:=kn.call0 hu
       simp only[go_sem,Qtx,reduceIte,reduceEqDiff,reduceAdd,reduceLeDiff,reduceLT,reduceCtorEq]
       refine Qd rfl ?_ ?_
       ·intro hc2
        refine Qa ?_
        simp only[go_sem,reduceIte,reduceEqDiff,reduceAdd,reduceLeDiff,reduceLT,reduceCtorEq]
        refine Qk ?_
        simp only[go_sem,X.next]
        exact retf false _ _ _ (by rw[hGd,Qaea hlt (Qrw hc2)];simp) kn (by simp[lk])
       ·intro hc2
        refine Qi ?_
        simp only[go_sem]
        refine Qq ?_
        simp only[go_sem,X.next,reduceIte,reduceEqDiff,reduceAdd,reduceLeDiff,reduceLT,reduceCtorEq]
        exact⟨Qo (by omega) (by omega),y.ins.length-(i+1),by omega,i+1,rfl,by omega,kn,by rw[Q12 hlt,hall2,Qeg hc2];rfl,rfl⟩
      ·intro hc
       have hge:y.ins.length≤i:=by simpa using hc
       rw[List.take_of_length_le hge]at hall2
       refine Qt ?_
       simp only[go_sem,X.next]
       refine Qa ?_
       simp only[go_sem,hx75,reduceIte,reduceEqDiff,reduceAdd,reduceLeDiff,reduceLT,reduceCtorEq]
       refine Qeb (rows:=Ql q.blocks) (nx:=fun i=>(q.blocks.map BlkD.next).getD i []) (.mk' _ _ _ _) rfl (Qbb4 q.blocks) fun H6 hu=>?_
       have kn:=kn.call0 hu
       simp only[go_sem,Qty,reduceIte,reduceEqDiff,reduceAdd,reduceLeDiff,reduceLT,reduceCtorEq]
       refine Q3 ?_
       refine Qa ?_
       simp only[go_sem,reduceIte,reduceEqDiff,reduceAdd,reduceLeDiff,reduceLT,reduceCtorEq]
       obtain⟨ps,hps⟩:∃ps,Q7 (fun i=>(q.blocks.map BlkD.next).getD i []) (b:Int) (Ql q.blocks).length=ps:=⟨_,rfl⟩
       rw[hps]
       rw[hps]at hnp
       have hx76:=kn.l 0 rfl
       have hx86:=kn.l 1 rfl
       refine Qh (Qc (Qu (fun n e1 H1=>∃(i:Nat),n=y.phis.length-i∧i≤y.phis.length∧H1=H6∧(y.phis.take i).all (phiG q.regs np b)=true∧
        e1=[(2,.c (.int .i64 b)),(7,.c (.ptr x7 0)),(8,.c (.ptr x8 0)),(12,.c (.sl false 1 (Qf ps))),(13,.c (.int .i64 i))]) y.phis.length ?_ ?_))
       ·exact⟨0,by omega,by omega,rfl,rfl,rfl⟩
       ·rintro n e1 H7 ⟨i,hn1,hi,rfl,hall3,rfl⟩
        refine Q3 ?_
        refine Qa ?_
        simp only[go_sem,hx86,Q9,reduceIte,reduceEqDiff,reduceAdd,reduceLeDiff,reduceLT,reduceCtorEq]
        intro hpl
        simp only[LIM]at hpl
        refine Qh (Qd rfl ?_ ?_)
        ·intro hc
         have hlt:i<y.phis.length:=by simpa using hc
         refine Qi ?_
         simp only[go_sem]
         refine Qh (Qc ?_)
         have fin:∀(b3:Bool) (E1:Env),phiG q.regs np b y.phis[i]=(!b3)→lk 2 E1=.c (.int .i64 b)→lk 7 E1=.c (.ptr x7 0)→lk 8 E1=.c (.ptr x8 0)→lk 12 E1=.c (.sl false 1 (Qf ps))→lk 13 E1=.c (.int .i64 i)→lk 135 E1=.c (.bool b3)→
           Qac prog Qzb (X.inBlock 6 (X.sq prog Qzc (X.next (fun e2 H2=>∃m,m<n∧∃(i:Nat),m=y.phis.length-i∧i≤y.phis.length∧H2=H7∧(y.phis.take i).all (phiG q.regs np b)=true∧
            e2=[(2,.c (.int .i64 b)),(7,.c (.ptr x7 0)),(8,.c (.ptr x8 0)),(12,.c (.sl false 1 (Qf ps))),(13,.c (.int .i64 i))]) (X.inBlock 5 (X.sq prog Qzd (Q6 Qhr (fun x H'=>∃x',FrzV H' (un H) x x'∧K x' (H'.frz (un H))))))))) E1 H7:=by
          intro b3 E1 hph l2 l7 l8 l12 l13 l135
          refine Qd l135 ?_ ?_
          ·intro hc2
           refine Qa ?_
           simp only[go_sem,reduceIte,reduceEqDiff,reduceAdd,reduceLeDiff,reduceLT,reduceCtorEq]
           refine Qk ?_
           simp only[go_sem,X.next]
           exact retf false _ _ _ (by rw[hGd,Qaea hlt (by rw[hph,hc2];rfl)];simp) kn (by simp[lk])
          ·intro hc2
           refine Qi ?_
           simp only[go_sem]
           refine Qq ?_
           simp only[go_sem,X.next,l2,l7,l8,l12,l13,reduceIte,reduceEqDiff,reduceAdd,reduceLeDiff,reduceLT,reduceCtorEq]
           exact⟨Qo (by omega) (by omega),y.phis.length-(i+1),by omega,i+1,rfl,by omega,by rw[Q12 hlt,hall3,hph,hc2];rfl,rfl⟩
         refine Qal ?_
         simp only[go_sem,hx86,hx76,hlt,Q9,Qbb _ _ hlt,PhiD.cells,Qe,reduceIte,reduceEqDiff,reduceAdd,reduceLeDiff,reduceLT,reduceCtorEq]
         refine⟨fun hb1=>?_,fun hb1=>?_⟩
         ·refine Qayv (by omega) (by omega) ?_
          simp only[go_sem,Qjg,hx86,hx76,hlt,Q9,Qbb _ _ hlt,PhiD.cells,reduceIte,reduceEqDiff,reduceAdd,reduceLeDiff,reduceLT,reduceCtorEq]
          refine⟨fun _=>Qo (by omega) (by omega),?_⟩
          refine⟨fun hb2=>?_,fun hb2=>?_⟩
          ·refine Qcm ?_
           simp only[go_sem,Qez,reduceIte,reduceEqDiff,reduceAdd,reduceLeDiff,reduceLT,reduceCtorEq]
           refine fin _ _ ?_ (by simp[lk]) (by simp[lk]) (by simp[lk]) (by simp[lk]) (by simp[lk]) (by simp[lk];rfl)
           simp[phiG,←hnp]
          ·replace hb2:=Qeg hb2
           simp only[go_sem,Qez,hb2,reduceIte,reduceEqDiff,reduceAdd,reduceLeDiff,reduceLT,reduceCtorEq]
           refine fin true _ ?_ (by simp[lk]) (by simp[lk]) (by simp[lk]) (by simp[lk]) (by simp[lk]) (by simp[lk])
           subst hnp
           simp at hb2
           simp[phiG]
           intro h1 h2 h3
           simp[h1,h2,h3]at hb2
         ·replace hb1:=Qeg hb1
          simp only[go_sem,Qjg,Qez,hb1,hx86,hx76,hlt,Q9,Qbb _ _ hlt,PhiD.cells,reduceIte,reduceEqDiff,reduceAdd,reduceLeDiff,reduceLT,reduceCtorEq]
          refine fin true _ ?_ (by simp[lk]) (by simp[lk]) (by simp[lk]) (by simp[lk]) (by simp[lk]) (by simp[lk])
          subst hnp
          simp at hb1
          simp[phiG]
          intro h1 h2 h3
          simp[h1,h2]at hb1
        ·intro hc
         have hge:y.phis.length≤i:=by simpa using hc
         rw[List.take_of_length_le hge]at hall3
         refine Qt ?_
         simp only[go_sem,X.next]
         refine Qa ?_
         simp only[go_sem,reduceIte,reduceEqDiff,reduceAdd,reduceLeDiff,reduceLT,reduceCtorEq]
         refine Qk ?_
         exact retf true _ _ _ (by rw[hGd,hn2,hall1,hall2,hall3];rfl) kn (by simp[lk])
  refine⟨fun hb1=>?_,fun hb1=>?_⟩
  ·refine Qcm ?_
   simp only[go_sem,Qgk,hb1,l1,l2,l3,l7,l8,reduceIte,reduceEqDiff,reduceAdd,reduceLeDiff,reduceLT,reduceCtorEq]
   refine rest8 _ _ ?_ (by simp[lk]) (by simp[lk]) (by simp[lk]) (by simp[lk]) (by simp[lk]) (by simp[lk];rfl)
   by_cases hlw:(y.next.length:Int)=want
   ·by_cases hj:y.jump=1
    ·simp[hlw,hj]at hb1
    ·simp[Qn2,hw,hlw,hj]
   ·simp[hlw]at hb1
  ·by_cases hlw:(y.next.length:Int)=want
   ·by_cases hj:y.jump=1
    ·simp only[go_sem,Qgk,hlw,hj,l1,l2,l3,l7,l8,decide_true,decide_false,cond_true,cond_false,reduceIte,reduceEqDiff,reduceAdd,reduceLeDiff,reduceLT,reduceCtorEq]
     have hw1:Qkw 1=want:=by rw[←hj];exact hw
     refine rest8 _ _ ?_ (by simp[lk]) (by simp[lk]) (by simp[lk]) (by simp[lk]) (by simp[lk]) (by simp[lk];rfl)
     simp[Qn2,hw1,hlw,hj,hjo hj]
    ·simp[hlw,hj]at hb1
   ·simp only[go_sem,Qgk,hlw,l1,l2,l3,l7,l8,decide_true,decide_false,cond_true,cond_false,reduceIte,reduceEqDiff,reduceAdd,reduceLeDiff,reduceLT,reduceCtorEq]
    by_cases hj:y.jump=1
    ·simp only[go_sem,hj,decide_true,decide_false,cond_true,cond_false,reduceIte,reduceEqDiff,reduceAdd,reduceLeDiff,reduceLT,reduceCtorEq]
     exact rest8 true _ (by simp[Qn2,hw,hlw]) (by simp[lk]) (by simp[lk]) (by simp[lk]) (by simp[lk]) (by simp[lk]) (by simp[lk])
    ·simp only[go_sem,hj,decide_true,decide_false,cond_true,cond_false,reduceIte,reduceEqDiff,reduceAdd,reduceLeDiff,reduceLT,reduceCtorEq]
     exact rest8 true _ (by simp[Qn2,hw,hlw]) (by simp[lk]) (by simp[lk]) (by simp[lk]) (by simp[lk]) (by simp[lk]) (by simp[lk])
 refine Qh (Qc ?_)
 refine Qa ?_
 simp only[go_sem,reduceIte,reduceEqDiff,reduceAdd,reduceLeDiff,reduceLT,reduceCtorEq]
 refine Qd rfl ?_ ?_
 ·intro hc
  refine Qa ?_
  simp only[go_sem,hx84,reduceIte,reduceEqDiff,reduceAdd,reduceLeDiff,reduceLT,reduceCtorEq]
  refine Qd rfl ?_ ?_
  ·intro hc2
   refine Qa ?_
   simp only[go_sem,reduceIte,reduceEqDiff,reduceAdd,reduceLeDiff,reduceLT,reduceCtorEq]
   refine Qk ?_
   simp only[go_sem]
   exact retf false _ _ _ (by simp at hc hc2;rw[hGd];simp[Qn2,hc,hc2]) kn (by simp[lk])
  ·intro hc2
   refine Qi ?_
   simp only[go_sem]
   exact rest31 1 _ (by simp at hc;simp[Qkw,hc]) (fun _=>by simpa using hc2) (by simp[lk]) (by simp[lk]) (by simp[lk]) (by simp[lk]) (by simp[lk]) (by simp[lk])
 intro hc1
 refine Qa ?_
 simp only[go_sem,reduceIte,reduceEqDiff,reduceAdd,reduceLeDiff,reduceLT,reduceCtorEq]
 refine Qd rfl ?_ ?_
 ·intro hc
  refine Qq ?_
  simp only[go_sem,reduceIte,reduceEqDiff,reduceAdd,reduceLeDiff,reduceLT,reduceCtorEq]
  exact rest31 2 _ (by simp at hc;simp[Qkw,hc]) (fun h=>by simp at hc1;exact absurd h hc1) (by simp[lk]) (by simp[lk]) (by simp[lk]) (by simp[lk]) (by simp[lk]) (by simp[lk])
 intro hc2
 refine Qa ?_
 simp only[go_sem,reduceIte,reduceEqDiff,reduceAdd,reduceLeDiff,reduceLT,reduceCtorEq]
 refine Qd rfl ?_ ?_
 ·intro hc
  refine Qq ?_
  simp only[go_sem,reduceIte,reduceEqDiff,reduceAdd,reduceLeDiff,reduceLT,reduceCtorEq]
  exact rest31 0 _ (by simp at hc;simp[Qkw,hc]) (fun h=>by simp at hc1;exact absurd h hc1) (by simp[lk]) (by simp[lk]) (by simp[lk]) (by simp[lk]) (by simp[lk]) (by simp[lk])
 ·intro hc
  refine Qa ?_
  simp only[go_sem,reduceIte,reduceEqDiff,reduceAdd,reduceLeDiff,reduceLT,reduceCtorEq]
  refine Qk ?_
  simp only[go_sem]
  exact retf false _ _ _ (by simp at hc1 hc2 hc;rw[hGd];simp[Qn2,Qkw,hc1,hc2,hc]) kn (by simp[lk])
end Go.AE.Y

namespace Go.AE.Y
open Go.Proofs.Tryz
variable {H:Heap} {K:V→Heap→Prop}
set_option maxHeartbeats 3000000 in
theorem Qrt {b:BlkD} (hb:b.sg) (hK:∀(o:OBlk) (H':Heap),Kn H H' [] o.lg→o.ok→o.d=b→(∀p∈o.phis,p.own)→K (.ag o.row) H'):Qw prog Qd1 [.ag b.cells] H K:=by
 have hbn:=hb.n
 have hbi:=hb.i
 have hbp:=hb.p
 refine Qd9 ?_
 refine Qb Qat Qae4 ?_
 refine Qa ?_
 simp only[go_sem,BlkD.cells,reduceIte,reduceEqDiff,reduceAdd,reduceLeDiff,reduceLT,reduceCtorEq]
 intro x2 hx2 H1 h1
 have kn:=(Kn.start0 H).al hx2 h1
 refine Qal ?_
 simp only[go_sem,Qe,List.nil_append,Nat.zero_add,reduceIte,reduceEqDiff,reduceAdd,reduceLeDiff,reduceLT,reduceCtorEq]
 refine⟨.inl trivial,Qv _,by simp only[LIM];omega,fun y hy H2 h2=>?_⟩
 have kn:=kn.al hy h2
 simp only[go_sem,Qj9,reduceIte,reduceEqDiff,reduceAdd,reduceLeDiff,reduceLT,reduceCtorEq]
 intro x3 hx3 H3 h3
 have kn:=kn.al hx3 h3
 have hx33:=kn.l 2 rfl
 simp only[go_sem,Qj8,hx33,reduceIte,reduceEqDiff,reduceAdd,reduceLeDiff,reduceLT,reduceCtorEq]
 intro H4 h4
 have kn:=kn.stL 2 rfl h4
 obtain⟨nx,hnx⟩:∃nx:OInts,nx=⟨b.next,y⟩:=⟨_,rfl⟩
 have hnc:C.vsl y 1 0 b.next.length=nx.c:=by rw[hnx];rfl
 have hnl:[(y,Obj.vec 1 (Qf b.next))]=nx.lg:=by rw[hnx];rfl
 rw[hnc]at kn
 have kn:Kn H H4 [] ([(x2,.st [.sl true 2 [],.sl true 4 [],.int .i64 0,.int .i64 0,.sl true 1 []]),(x3,.st [.sl true 2 [],.sl true 4 [],.int .i64 b.jump,.int .i64 b.on,nx.c])]++nx.lg):=kn.perm (by
  rw[←hnl]
  exact .cons _ (.swap _ _ _))
 refine Q3 ?_
 refine Qa ?_
 simp only[go_sem,reduceIte,reduceEqDiff,reduceAdd,reduceLeDiff,reduceLT,reduceCtorEq]
 refine Qh (Qc (Qu (fun n e1 H1=>∃(i:Nat) (ps:List OPhi) (pc:C) (pl:List (Nat×Obj)),n=b.phis.length-i∧i≤b.phis.length∧ps.map OPhi.d=b.phis.take i∧(∀p∈ps,p.own)∧Gr pl 2 (ps.map OPhi.row) pc∧
  Kn H H1 [] (([(x2,.st [.sl true 2 [],.sl true 4 [],.int .i64 0,.int .i64 0,.sl true 1 []]),(x3,.st [pc,.sl true 4 [],.int .i64 b.jump,.int .i64 b.on,nx.c])]++(nx.lg++ps.flatMap OPhi.lg))++pl)∧
  e1=[(1,.c (.pp [.sl false 2 (Qai b.phis),.sl false 4 (Qbk b.ins),.int .i64 b.jump,.int .i64 b.on,.sl false 1 (Qf b.next)])),(2,.c (.ptr x2 0)),(3,.c (.ptr x3 0)),(4,.c (.int .i64 i))]) b.phis.length ?_ ?_))
 ·exact⟨0,[],_,[],by omega,by omega,rfl,by simp,.nil 2,by simpa using kn,rfl⟩
 ·rintro n e1 H1 ⟨i,ps,pc,pl,hn1,hi,hpsd,hpsok,hgr,kn,rfl⟩
  have hpsl:ps.length=i:=by have:=congrArg List.length hpsd;rw[List.length_map,List.length_take]at this;omega
  have hpcow:=hgr.isOw
  refine Q3 ?_
  refine Qa ?_
  simp only[go_sem,Q9,reduceIte,reduceEqDiff,reduceAdd,reduceLeDiff,reduceLT,reduceCtorEq]
  intro hl
  refine Qh (Qd rfl ?_ ?_)
  ·intro hc
   have hlt:i<b.phis.length:=by simpa using hc
   have hpa:=hb.pa _ (List.getElem_mem hlt)
   have hx31:=kn.l 1 rfl
   refine Qi ?_
   simp only[go_sem]
   refine Qh (Qc (Qa9 ?_))
   simp only[go_sem,hx31,hpcow,hlt,Q9,Qbb _ _ hlt,PhiD.cells,Qe,List.nil_append,Nat.zero_add,reduceIte,reduceEqDiff,reduceAdd,reduceLeDiff,reduceLT,reduceCtorEq]
   refine⟨.inl trivial,Qv _,by simp only[LIM];omega,fun a ha H5 h5=>?_⟩
   have kn:=kn.al ha h5
   have hx35:=kn.l 1 rfl
   simp only[go_sem,Qkb,hx35,hpcow,hlt,Q9,Qbb _ _ hlt,PhiD.cells,reduceIte,reduceEqDiff,reduceAdd,reduceLeDiff,reduceLT,reduceCtorEq]
   obtain⟨o,ho⟩:∃o:OPhi,o=⟨b.phis[i].to,b.phis[i].args,.vsl a 1 0 b.phis[i].args.length,[(a,.vec 1 (Qf b.phis[i].args))]⟩:=⟨_,rfl⟩
   have hoow:o.own:=by rw[ho];exact⟨a,rfl,rfl⟩
   have hook:o.ok:=.inl hoow
   have hor:[C.int IntKind.i64 b.phis[i].to,C.vsl a 1 0 b.phis[i].args.length]=o.row:=by rw[ho];rfl
   have hol:[(a,Obj.vec 1 (Qf b.phis[i].args))]=o.lg:=by rw[ho]
   rw[hor]
   rw[hol]at kn
   have kn:=kn.perm Qadh
   refine kn.grow (new:=[o.row]) hgr (.mk' _ _ _ _) (by intro r hr;simp only[List.mem_singleton]at hr;subst hr;exact o.noOw hook) (by simp only[List.length_map,List.length_cons,List.length_nil,LIM];omega) fun z H6 kn=>?_
   have kn:Kn H H6 [] (([(x2,.st [.sl true 2 [],.sl true 4 [],.int .i64 0,.int .i64 0,.sl true 1 []]),(x3,.st [pc,.sl true 4 [],.int .i64 b.jump,.int .i64 b.on,nx.c])]++(nx.lg++(ps++[o]).flatMap OPhi.lg))++[(z,.vec 2 ((ps++[o]).map OPhi.row))]):=by
    simpa[List.flatMap_append,List.append_assoc]using kn
   have hx36:=kn.l 1 rfl
   simp only[go_sem,Qka,hx36,reduceIte,reduceEqDiff,reduceAdd,reduceLeDiff,reduceLT,reduceCtorEq]
   intro H7 h7
   have kn:=kn.stL 1 rfl h7
   refine Qq ?_
   simp only[go_sem,X.next,reduceIte,reduceEqDiff,reduceAdd,reduceLeDiff,reduceLT,reduceCtorEq]
   simp only[LIM]at hl
   refine⟨Qo (by omega) (by omega),b.phis.length-(i+1),by omega,i+1,ps++[o],_,_,rfl,by omega,by rw[List.map_append,hpsd,List.take_succ_eq_append_getElem hlt,ho];rfl,fun p hp=>?_,?_,kn,rfl⟩
   ·rcases List.mem_append.1 hp with h|h
    ·exact hpsok p h
    ·simp only[List.mem_singleton]at h;subst h;exact hoow
   ·exact .mk _ _ _ (by simp)
  ·intro hc
   have hpsd':ps.map OPhi.d=b.phis:=by rw[hpsd,List.take_of_length_le (by simpa using hc)]
   refine Qt ?_
   simp only[go_sem,X.next]
   refine Q3 ?_
   refine Qa ?_
   simp only[go_sem,reduceIte,reduceEqDiff,reduceAdd,reduceLeDiff,reduceLT,reduceCtorEq]
   refine Qh (Qc (Qu (fun n e1 H1=>∃(i:Nat) (is:List OIns) (ic:C) (il:List (Nat×Obj)),n=b.ins.length-i∧i≤b.ins.length∧is.map OIns.d=b.ins.take i∧(∀x∈is,x.a.ns.length≤1000000)∧Gr il 4 (is.map OIns.row) ic∧
    Kn H H1 [] (([(x2,.st [.sl true 2 [],.sl true 4 [],.int .i64 0,.int .i64 0,.sl true 1 []]),(x3,.st [pc,ic,.int .i64 b.jump,.int .i64 b.on,nx.c])]++(nx.lg++(ps.flatMap OPhi.lg++(pl++is.flatMap OIns.lg))))++il)∧
    e1=[(1,.c (.pp [.sl false 2 (Qai b.phis),.sl false 4 (Qbk b.ins),.int .i64 b.jump,.int .i64 b.on,.sl false 1 (Qf b.next)])),(2,.c (.ptr x2 0)),(3,.c (.ptr x3 0)),(5,.c (.int .i64 i))]) b.ins.length ?_ ?_))
   ·exact⟨0,[],_,[],by omega,by omega,rfl,by simp,.nil 4,by simpa[List.append_assoc]using kn,rfl⟩
   ·rintro n e1 H1 ⟨i,is,ic,il,hn1,hi,hisd,hisa,hgi,kn,rfl⟩
    have hisl:is.length=i:=by have:=congrArg List.length hisd;rw[List.length_map,List.length_take]at this;omega
    have hicow:=hgi.isOw
    refine Q3 ?_
    refine Qa ?_
    simp only[go_sem,Qam,reduceIte,reduceEqDiff,reduceAdd,reduceLeDiff,reduceLT,reduceCtorEq]
    intro hl
    refine Qh (Qd rfl ?_ ?_)
    ·intro hc
     have hlt:i<b.ins.length:=by simpa using hc
     have hia:=hb.ia _ (List.getElem_mem hlt)
     refine Qi ?_
     simp only[go_sem]
     refine Qh (Qc ?_)
     refine Qa ?_
     simp only[go_sem,hlt,Qam,Qbq _ _ hlt,InsD.cells,reduceIte,reduceEqDiff,reduceAdd,reduceLeDiff,reduceLT,reduceCtorEq]
     intro x6 hx6 H5 h5
     have kn:=kn.al hx6 h5
     have kn:=kn.perm (List.perm_append_comm (l₁:=_) (l₂:=[(x6,_)]))
     have hx65:=kn.l 0 rfl
     simp only[go_sem,Qkc,hx65,reduceIte,reduceEqDiff,reduceAdd,reduceLeDiff,reduceLT,reduceCtorEq]
     intro H6 h6
     have kn:=kn.stL 0 rfl h6
     have hx66:=kn.l 0 rfl
     have hx36:=kn.l 2 rfl
     refine Qa9 ?_
     simp only[go_sem,hx66,hx36,hicow,Qe,List.nil_append,Nat.zero_add,reduceIte,reduceEqDiff,reduceAdd,reduceLeDiff,reduceLT,reduceCtorEq]
     refine⟨.inl trivial,Qv _,by simp only[LIM];omega,fun a ha H7 h7=>?_⟩
     have kn:=kn.al ha h7
     have hx67:=kn.l 0 rfl
     have hx37:=kn.l 2 rfl
     simp only[go_sem,Qke,hx67,hx37,hicow,reduceIte,reduceEqDiff,reduceAdd,reduceLeDiff,reduceLT,reduceCtorEq]
     obtain⟨o,ho⟩:∃o:OIns,o=⟨b.ins[i].op,b.ins[i].to,⟨b.ins[i].args,a⟩,b.ins[i].n⟩:=⟨_,rfl⟩
     have hor:[C.int IntKind.i64 b.ins[i].op,C.int IntKind.i64 b.ins[i].to,C.vsl a 1 0 b.ins[i].args.length,C.int IntKind.i64 b.ins[i].n]=o.row:=by rw[ho];rfl
     have hol:[(a,Obj.vec 1 (Qf b.ins[i].args))]=o.lg:=by rw[ho];rfl
     rw[hor]
     rw[hol]at kn
     have kn:Kn H H7 [] ((([(x2,.st [.sl true 2 [],.sl true 4 [],.int .i64 0,.int .i64 0,.sl true 1 []]),(x3,.st [pc,ic,.int .i64 b.jump,.int .i64 b.on,nx.c])]++(nx.lg++(ps.flatMap OPhi.lg++(pl++is.flatMap OIns.lg))))++il)++o.lg):=by
      have kn:=kn.perm (List.perm_append_comm (l₁:=[(x6,_)]) (l₂:=_))
      exact kn.drop
     have kn:=kn.perm Qadh
     refine kn.grow (new:=[o.row]) hgi (.mk' _ _ _ _) (by simp[o.noOw]) (by simp only[List.length_map,List.length_cons,List.length_nil,LIM];omega) fun z H8 kn=>?_
     have kn:Kn H H8 [] (([(x2,.st [.sl true 2 [],.sl true 4 [],.int .i64 0,.int .i64 0,.sl true 1 []]),(x3,.st [pc,ic,.int .i64 b.jump,.int .i64 b.on,nx.c])]++(nx.lg++(ps.flatMap OPhi.lg++(pl++(is++[o]).flatMap OIns.lg))))++[(z,.vec 4 ((is++[o]).map OIns.row))]):=by
      simpa[List.flatMap_append,List.append_assoc]using kn
     have hx38:=kn.l 1 rfl
     simp only[go_sem,Qkd,hx38,reduceIte,reduceEqDiff,reduceAdd,reduceLeDiff,reduceLT,reduceCtorEq]
     intro H9 h9
     have kn:=kn.stL 1 rfl h9
     refine Qq ?_
     simp only[go_sem,X.next,reduceIte,reduceEqDiff,reduceAdd,reduceLeDiff,reduceLT,reduceCtorEq]
     simp only[LIM]at hl
     refine⟨Qo (by omega) (by omega),b.ins.length-(i+1),by omega,i+1,is++[o],_,_,rfl,by omega,by rw[List.map_append,hisd,List.take_succ_eq_append_getElem hlt,ho];rfl,fun x hx=>?_,?_,kn,rfl⟩
     ·rcases List.mem_append.1 hx with hx|hx
      ·exact hisa x hx
      ·simp only[List.mem_singleton]at hx
       rw[hx,ho];exact hia
     ·exact .mk _ _ _ (by simp)
    ·intro hc
     have hisd':is.map OIns.d=b.ins:=by rw[hisd,List.take_of_length_le (by simpa using hc)]
     have hx21:=kn.l 0 rfl
     have hx31:=kn.l 1 rfl
     refine Qt ?_
     simp only[go_sem,X.next]
     have hnow:nx.c.isOw=false:=rfl
     refine Qa ?_
     simp only[go_sem,hx21,hx31,hpcow,hicow,hnow,reduceIte,reduceEqDiff,reduceAdd,reduceLeDiff,reduceLT,reduceCtorEq]
     intro H5 h5
     have kn:=kn.stL 0 rfl h5
     have hx25:=kn.l 0 rfl
     refine Qk ?_
     simp only[go_sem,Q6,Qad,Qr8,reduceIte,List.mem_singleton,forall_eq,RS.op,hx25,hpcow,hicow,hnow,reduceIte,reduceEqDiff,reduceAdd,reduceLeDiff,reduceLT,reduceCtorEq]
     obtain⟨o,ho⟩:∃o:OBlk,o=⟨ps,pc,pl,is,ic,il,b.jump,b.on,nx⟩:=⟨_,rfl⟩
     have hok:o.ok:=by rw[ho];exact⟨hgr,hgi,fun p hp=>.inl (hpsok p hp)⟩
     have hod:o.d=b:=by
      rw[ho]
      show BlkD.mk (ps.map OPhi.d) (is.map OIns.d) b.jump b.on nx.ns=b
      rw[hpsd',hisd',hnx]
     have kn:Kn H H5 [] ([(x2,.st [pc,ic,.int .i64 b.jump,.int .i64 b.on,nx.c]),(x3,.st [pc,ic,.int .i64 b.jump,.int .i64 b.on,nx.c])]++o.lg):=by
      rw[ho];simpa[OBlk.lg,List.append_assoc]using kn
     refine⟨unx H o.lg,.ag o.row,H5.frz (unx H o.lg),?_,Qew _ _,hK o _ kn.finK hok hod (by rw[ho];exact hpsok)⟩
     rw[ho]
     exact FrzL.ag (.cons (.same _ hpcow) (.cons (.same _ hicow) (.cons (Qg rfl) (.cons (Qg rfl) (.cons (.same _ hnow) .nil)))))
end Go.AE.Y

namespace Go.AE.Y
open Go.Proofs.Tryz
variable {H:Heap} {K:V→Heap→Prop}
theorem BlkD.take5 (x:BlkD):x.cells.take 5=x.cells:=rfl
theorem BlkD.allOw (x:BlkD):(x.cells.all fun c=>!c.isOw)=true:=rfl
theorem BlkD.len5 (x:BlkD):x.cells.length=5:=rfl
theorem CodeD.take3 (x:CodeD):x.cells.take 3=x.cells:=rfl
theorem CodeD.allOw (x:CodeD):(x.cells.all fun c=>!c.isOw)=true:=rfl
theorem CodeD.len3 (x:CodeD):x.cells.length=3:=rfl
theorem OBlk.len5 (x:OBlk):x.row.length=5:=rfl
theorem OCode.len3 (x:OCode):x.row.length=3:=rfl
set_option maxHeartbeats 2000000 in
theorem Qaev {q:CodeD} (hq:q.sg) (hK:∀(o:OCode) (H':Heap),Kn H H' [] o.lg→o.ok→o.d=q→(∀b∈o.blocks,∀p∈b.phis,p.own)→K (.ag o.row) H'):Qw prog Qhi [.ag q.cells] H K:=by
 have hqb:=hq.b
 refine Qd9 ?_
 refine Qb Qat Qa9r ?_
 refine Qa ?_
 simp only[go_sem,CodeD.cells,reduceIte,reduceEqDiff,reduceAdd,reduceLeDiff,reduceLT,reduceCtorEq]
 intro x2 hx2 H1 h1
 have kn:=(Kn.start0 H).al hx2 h1
 refine Qa ?_
 simp only[go_sem,reduceIte,reduceEqDiff,reduceAdd,reduceLeDiff,reduceLT,reduceCtorEq]
 intro x3 hx3 H2 h2
 have kn:=kn.al hx3 h2
 have hx32:=kn.l 1 rfl
 simp only[go_sem,Q65,hx32,reduceIte,reduceEqDiff,reduceAdd,reduceLeDiff,reduceLT,reduceCtorEq]
 intro H3 h3
 have kn:=kn.stL 1 rfl h3
 refine Q3 ?_
 refine Qa ?_
 simp only[go_sem,reduceIte,reduceEqDiff,reduceAdd,reduceLeDiff,reduceLT,reduceCtorEq]
 refine Qh (Qc (Qu (fun n e1 H1=>∃(i:Nat) (os:List OBlk) (bc:C) (bl:List (Nat×Obj)),n=q.blocks.length-i∧i≤q.blocks.length∧os.map OBlk.d=q.blocks.take i∧(∀o∈os,o.ok∧∀p∈o.phis,p.own)∧Gr bl 5 (os.map OBlk.row) bc∧
  Kn H H1 [] (([(x2,.st [.int .i64 0,.int .i64 0,.sl true 5 []]),(x3,.st [.int .i64 q.params,.int .i64 q.regs,bc])]++os.flatMap OBlk.lg)++bl)∧
  e1=[(1,.c (.pp [.int .i64 q.params,.int .i64 q.regs,.sl false 5 (Ql q.blocks)])),(2,.c (.ptr x2 0)),(3,.c (.ptr x3 0)),(4,.c (.int .i64 i))]) q.blocks.length ?_ ?_))
 ·exact⟨0,[],_,[],by omega,by omega,rfl,by simp,.nil 5,by simpa using kn,rfl⟩
 ·rintro n e1 H1 ⟨i,os,bc,bl,hn1,hi,hod,hok,hgr,kn,rfl⟩
  have hol:os.length=i:=by have:=congrArg List.length hod;rw[List.length_map,List.length_take]at this;omega
  have hbow:=hgr.isOw
  have hx31:=kn.l 1 rfl
  refine Q3 ?_
  refine Qa ?_
  simp only[go_sem,Qj,reduceIte,reduceEqDiff,reduceAdd,reduceLeDiff,reduceLT,reduceCtorEq]
  intro hl
  simp only[LIM]at hl
  refine Qh (Qd rfl ?_ ?_)
  ·intro hc
   have hlt:i<q.blocks.length:=by simpa using hc
   refine Qi ?_
   simp only[go_sem]
   refine Qh (Qc (Qa9 ?_))
   simp only[go_sem,hx31,hbow,hlt,Qj,Q5 _ _ hlt,BlkD.take5,BlkD.allOw,BlkD.len5,reduceIte,reduceEqDiff,reduceAdd,reduceLeDiff,reduceLT,reduceCtorEq]
   refine Qrt (hq.bs _ (List.getElem_mem hlt)) fun o H4 k2 hoo hbd hoow=>?_
   have kn:=kn.comp0 k2
   have hx34:=kn.l 1 rfl
   simp only[go_sem,Q67,hx34,hbow,o.len5,reduceIte,reduceEqDiff,reduceAdd,reduceLeDiff,reduceLT,reduceCtorEq]
   have kn:=kn.perm Qadh
   refine kn.grow (new:=[o.row]) hgr (.mk' _ _ _ _) (by intro r hr;simp only[List.mem_singleton]at hr;subst hr;exact o.noOw hoo) (by simp only[List.length_map,List.length_cons,List.length_nil,LIM];omega) fun z H5 kn=>?_
   have kn:Kn H H5 [] (([(x2,.st [.int .i64 0,.int .i64 0,.sl true 5 []]),(x3,.st [.int .i64 q.params,.int .i64 q.regs,bc])]++(os++[o]).flatMap OBlk.lg)++[(z,.vec 5 ((os++[o]).map OBlk.row))]):=by
    simpa[List.flatMap_append,List.append_assoc]using kn
   have hx35:=kn.l 1 rfl
   simp only[go_sem,Q66,hx35,reduceIte,reduceEqDiff,reduceAdd,reduceLeDiff,reduceLT,reduceCtorEq]
   intro H6 h6
   have kn:=kn.stL 1 rfl h6
   refine Qq ?_
   simp only[go_sem,X.next,reduceIte,reduceEqDiff,reduceAdd,reduceLeDiff,reduceLT,reduceCtorEq]
   refine⟨Qo (by omega) (by omega),q.blocks.length-(i+1),by omega,i+1,os++[o],_,_,rfl,by omega,by rw[List.map_append,hod,List.take_succ_eq_append_getElem hlt,List.map_cons,List.map_nil,hbd],fun o' ho'=>?_,.mk _ _ _ (by simp),kn,rfl⟩
   rcases List.mem_append.1 ho' with h|h
   ·exact hok o' h
   ·simp at h;subst h;exact⟨hoo,hoow⟩
  ·intro hc
   have hge:q.blocks.length≤i:=by simpa using hc
   have hx21:=kn.l 0 rfl
   refine Qt ?_
   simp only[go_sem,X.next]
   refine Qa ?_
   simp only[go_sem,hx31,hx21,hbow,reduceIte,reduceEqDiff,reduceAdd,reduceLeDiff,reduceLT,reduceCtorEq]
   intro H4 h4
   have kn:=kn.stL 0 rfl h4
   have hx24:=kn.l 0 rfl
   refine Qk ?_
   simp only[go_sem,Q6,Qad,Qay6,reduceIte,List.mem_singleton,forall_eq,RS.op,hx24,hbow,reduceIte,reduceEqDiff,reduceAdd,reduceLeDiff,reduceLT,reduceCtorEq]
   obtain⟨o,ho⟩:∃o:OCode,o=⟨q.params,q.regs,os,bc,bl⟩:=⟨_,rfl⟩
   have hod:o.d=q:=by
    rw[ho]
    show CodeD.mk q.params q.regs (os.map OBlk.d)=q
    rw[hod,List.take_of_length_le hge]
   have how':∀b∈o.blocks,∀p∈b.phis,p.own:=by rw[ho];exact fun b hb=>(hok b hb).2
   have hok:o.ok:=by rw[ho];exact⟨hgr,fun b hb=>(hok b hb).1⟩
   have kn:Kn H H4 [] ([(x2,.st [.int .i64 q.params,.int .i64 q.regs,bc]),(x3,.st [.int .i64 q.params,.int .i64 q.regs,bc])]++o.lg):=by
    rw[ho];simpa[OCode.lg,List.append_assoc]using kn
   refine⟨unx H o.lg,.ag o.row,H4.frz (unx H o.lg),?_,Qew _ _,hK o _ kn.finK hok hod how'⟩
   rw[ho]
   exact FrzL.ag (.cons (Qg rfl) (.cons (Qg rfl) (.cons (.same _ hbow) .nil)))
theorem Qa89 {q:CodeD} (hq:q.sm) (hK:∀(o:OCode) (H':Heap),Kn H H' [] o.lg→o.ok→o.d=q→o.sm 1000→K (.ag o.row) H'):Qw prog Qhi [.ag q.cells] H K:=
 Qaev hq.sg fun o H' k1 k2 k3 _=>hK o H' k1 k2 k3 (by rw[←k3]at hq;exact hq.o)
set_option maxHeartbeats 2000000 in
theorem Qajc {cs:List CodeD} {fl:Bool} (hs:∀c∈cs,c.sm) (hl:cs.length≤1000000)
  (hK:∀(us:List OCode) (cc:C) (cl:List (Nat×Obj)) (H':Heap),Kn H H' [] (us.flatMap OCode.lg++cl)→Gr cl 3 (us.map OCode.row) cc→(∀u∈us,u.ok∧u.sm 1000)→us.length=cs.length→K (.ag [cc]) H') :
  Qw prog Qi2 [.ag [.sl fl 3 (Qp cs)]] H K:=by
 refine Qd9 ?_
 refine Qb Qat Qajl ?_
 refine Qa ?_
 simp only[go_sem,reduceIte,reduceEqDiff,reduceAdd,reduceLeDiff,reduceLT,reduceCtorEq]
 intro x2 hx2 H1 h1
 have kn:=(Kn.start0 H).al hx2 h1
 refine Qa ?_
 simp only[go_sem,reduceIte,reduceEqDiff,reduceAdd,reduceLeDiff,reduceLT,reduceCtorEq]
 intro x3 hx3 H2 h2
 have kn:=kn.al hx3 h2
 have hx32:=kn.l 1 rfl
 simp only[go_sem,Qmt,hx32,reduceIte,reduceEqDiff,reduceAdd,reduceLeDiff,reduceLT,reduceCtorEq]
 intro H3 h3
 have kn:=kn.stL 1 rfl h3
 refine Q3 ?_
 refine Qa ?_
 simp only[go_sem,reduceIte,reduceEqDiff,reduceAdd,reduceLeDiff,reduceLT,reduceCtorEq]
 refine Qh (Qc (Qu (fun n e1 H1=>∃(i:Nat) (os:List OCode) (bc:C) (bl:List (Nat×Obj)),n=cs.length-i∧i≤cs.length∧os.length=i∧(∀o∈os,o.ok∧o.sm 1000)∧Gr bl 3 (os.map OCode.row) bc∧
  Kn H H1 [] (([(x2,.st [.sl true 3 []]),(x3,.st [bc])]++os.flatMap OCode.lg)++bl)∧
  e1=[(1,.c (.pp [.sl fl 3 (Qp cs)])),(2,.c (.ptr x2 0)),(3,.c (.ptr x3 0)),(4,.c (.int .i64 i))]) cs.length ?_ ?_))
 ·exact⟨0,[],_,[],by omega,by omega,rfl,by simp,.nil 3,by simpa using kn,rfl⟩
 ·rintro n e1 H1 ⟨i,os,bc,bl,hn1,hi,hol,hok,hgr,kn,rfl⟩
  have hbow:=hgr.isOw
  have hx31:=kn.l 1 rfl
  refine Q3 ?_
  refine Qa ?_
  simp only[go_sem,Q4,reduceIte,reduceEqDiff,reduceAdd,reduceLeDiff,reduceLT,reduceCtorEq]
  intro _
  refine Qh (Qd rfl ?_ ?_)
  ·intro hc
   have hlt:i<cs.length:=by simpa using hc
   refine Qi ?_
   simp only[go_sem]
   refine Qh (Qc (Qa9 ?_))
   simp only[go_sem,hx31,hbow,hlt,Q4,Qaj _ _ hlt,CodeD.take3,CodeD.allOw,CodeD.len3,reduceIte,reduceEqDiff,reduceAdd,reduceLeDiff,reduceLT,reduceCtorEq]
   refine Qa89 (hs _ (List.getElem_mem hlt)) fun o H4 k2 hoo _ hob=>?_
   have kn:=kn.comp0 k2
   have hx34:=kn.l 1 rfl
   simp only[go_sem,Qmv,hx34,hbow,o.len3,reduceIte,reduceEqDiff,reduceAdd,reduceLeDiff,reduceLT,reduceCtorEq]
   have kn:=kn.perm Qadh
   refine kn.grow (new:=[o.row]) hgr (.mk' _ _ _ _) (by intro r hr;simp only[List.mem_singleton]at hr;subst hr;exact o.noOw hoo) (by simp only[List.length_map,List.length_cons,List.length_nil,LIM];omega) fun z H5 kn=>?_
   have kn:Kn H H5 [] (([(x2,.st [.sl true 3 []]),(x3,.st [bc])]++(os++[o]).flatMap OCode.lg)++[(z,.vec 3 ((os++[o]).map OCode.row))]):=by
    simpa[List.flatMap_append,List.append_assoc]using kn
   have hx35:=kn.l 1 rfl
   simp only[go_sem,Qmu,hx35,reduceIte,reduceEqDiff,reduceAdd,reduceLeDiff,reduceLT,reduceCtorEq]
   intro H6 h6
   have kn:=kn.stL 1 rfl h6
   refine Qq ?_
   simp only[go_sem,X.next,reduceIte,reduceEqDiff,reduceAdd,reduceLeDiff,reduceLT,reduceCtorEq]
   refine⟨Qo (by omega) (by omega),cs.length-(i+1),by omega,i+1,os++[o],_,_,rfl,by omega,by simp[hol],fun o' ho'=>?_,.mk _ _ _ (by simp),kn,rfl⟩
   rcases List.mem_append.1 ho' with h|h
   ·exact hok o' h
   ·simp at h;subst h;exact⟨hoo,hob⟩
  ·intro hc
   have hge:cs.length≤i:=by simpa using hc
   have hx21:=kn.l 0 rfl
   refine Qt ?_
   simp only[go_sem,X.next]
   refine Qa ?_
   simp only[go_sem,hx31,hx21,hbow,reduceIte,reduceEqDiff,reduceAdd,reduceLeDiff,reduceLT,reduceCtorEq]
   intro H4 h4
   have kn:=kn.stL 0 rfl h4
   have hx24:=kn.l 0 rfl
   refine Qk ?_
   simp only[go_sem,Q6,Qad,Qw1,reduceIte,List.mem_singleton,forall_eq,RS.op,hx24,hbow,reduceIte,reduceEqDiff,reduceAdd,reduceLeDiff,reduceLT,reduceCtorEq]
   have kn:Kn H H4 [] ([(x2,.st [bc]),(x3,.st [bc])]++(os.flatMap OCode.lg++bl)):=by
    simpa[List.append_assoc]using kn
   exact⟨unx H _,.ag [bc],H4.frz (unx H _),FrzL.ag (.cons (.same _ hbow) .nil),Qew _ _,hK os bc bl _ kn.finK hgr hok (by omega)⟩
end Go.AE.Y

namespace Go.AE.Y
open Go.Proofs.Tryz
variable {H:Heap} {K:V→Heap→Prop}
structure CRd (H:Heap) (R:Rdr) (cc:C) (rows:List (List C)):Prop where
 s:Slc H 3 rows cc
 ow:cc.isOw=false
 ne:∀l a c d,cc=.vsl l a c d→l≠R.l
 r:∀i,i<rows.length→∃(p:Int) (c1 c2:C),rows.getD i []=[.int .i64 p,c1,c2]∧0≤p∧p≤3
theorem CRd.keep {R:Rdr} {cc:C} {rows:List (List C)} {o:Obj} {H':Heap} {L:List (Nat×Obj)} (h:CRd H R cc rows) (kn:Kn H H' [(R.l,o)] L):CRd H' R cc rows:=
 ⟨h.s.keep kn (fun l a c d hh=>by simpa using h.ne l a c d hh),h.ow,h.ne,h.r⟩
theorem Qa4l {R:Rdr} {k b n:Nat} (hH:H R.l=R.o k) (hk:k+2≤2^40) (hb:b≤1000) (hn:n≤1000)
  (hK:∀(v:Int) (H':Heap) (k':Nat),k<k'→k'≤k+2→Upd H H' [(R.l,R.o k')]→K (.c (.int .i64 v)) H') :
  Qw prog Q22 [.c (.ptr R.l 0),.c (.int .i64 b),.c (.int .i64 n)] H K:=by
 refine Qz ?_
 refine Qb Qat Qbew ?_
 have kn:=Kn.start1 hH (R.o_ne k)
 refine Qa ?_
 simp only[go_sem,reduceIte,reduceEqDiff,reduceAdd,reduceLeDiff,reduceLT,reduceCtorEq]
 refine Q3 ?_
 refine Qa ?_
 simp only[go_sem,reduceIte,reduceEqDiff,reduceAdd,reduceLeDiff,reduceLT,reduceCtorEq]
 refine⟨Qo (by omega) (by omega),?_⟩
 have rest:∀(v:Bool) (H2:Heap) (k2:Nat),k≤k2→k2≤k+1→Kn H H2 [(R.l,R.o k2)] []→
   Qac prog (s_l7To_2.seq Qazc) (Q6 Qay7 fun x H'=>∃x',FrzV H' (un H) x x'∧K x' (H'.frz (un H))) [(0,.c (.ptr R.l 0)),(1,.c (.int .i64 b)),(2,.c (.int .i64 n)),(15,.c (.bool v))] H2:=by
  intro v H2 k2 hk1 hk2 kn
  have pv:∀m v:Int,m≤1000→(if m<1 then v=0 else 0≤v∧v<m)→0≤v∧v≤1000:=by
   intro m v hm hv
   split at hv <;> omega
  refine Qh (Qd rfl ?_ ?_)
  ·intro hc
   refine Qa ?_
   simp only[go_sem,reduceIte,reduceEqDiff,reduceAdd,reduceLeDiff,reduceLT,reduceCtorEq]
   refine⟨Qo (by omega) (by omega),Qo (by omega) (by omega),Qo (by omega) (by omega),?_⟩
   refine Qa5 (kn.e 0 rfl) (by omega) fun v H3 hv hu=>?_
   have kn:=kn.callE 0 rfl hu (R.o_ne _)
   have hv:=pv _ _ (by omega) hv
   simp only[go_sem,Qaps,reduceIte,reduceEqDiff,reduceAdd,reduceLeDiff,reduceLT,reduceCtorEq]
   refine⟨Qo (by omega) (by omega),?_⟩
   refine Qk ?_
   simp only[go_sem,Q6,Qad,Qay7,reduceIte,List.mem_singleton,forall_eq,RS.op,reduceIte,reduceEqDiff,reduceAdd,reduceLeDiff,reduceLT,reduceCtorEq]
   exact⟨_,.c _ _ (Qg rfl),hK _ _ (k2+1) (by omega) (by omega) kn.fin⟩
  ·intro hc
   refine Qi ?_
   simp only[go_sem]
   refine Qa ?_
   simp only[go_sem,reduceIte,reduceEqDiff,reduceAdd,reduceLeDiff,reduceLT,reduceCtorEq]
   refine⟨Qo (by omega) (by omega),?_⟩
   refine Qa5 (kn.e 0 rfl) (by omega) fun v H3 hv hu=>?_
   have kn:=kn.callE 0 rfl hu (R.o_ne _)
   have hv:=pv _ _ (by omega) hv
   simp only[go_sem,Qapt,reduceIte,reduceEqDiff,reduceAdd,reduceLeDiff,reduceLT,reduceCtorEq]
   refine⟨Qo (by omega) (by omega),?_⟩
   refine Qk ?_
   simp only[go_sem,Q6,Qad,Qay7,reduceIte,List.mem_singleton,forall_eq,RS.op,reduceIte,reduceEqDiff,reduceAdd,reduceLeDiff,reduceLT,reduceCtorEq]
   exact⟨_,.c _ _ (Qg rfl),hK _ _ (k2+1) (by omega) (by omega) kn.fin⟩
 refine⟨fun hb1=>?_,fun hb1=>?_⟩
 ·refine Qa5 (kn.e 0 rfl) (by omega) fun v H3 hv hu=>?_
  have kn:=kn.callE 0 rfl hu (R.o_ne _)
  simp only[go_sem,Q7k,hb1,reduceIte,reduceEqDiff,reduceAdd,reduceLeDiff,reduceLT,reduceCtorEq]
  exact rest _ _ (k+1) (by omega) (by omega) kn
 ·simp only[go_sem,Q7k,hb1,reduceIte,reduceEqDiff,reduceAdd,reduceLeDiff,reduceLT,reduceCtorEq]
  exact rest _ _ k (by omega) (by omega) kn
set_option maxHeartbeats 2000000 in
theorem Qa9a {R:Rdr} {k:Nat} {cc:C} {rows:List (List C)} {regs:Int} (hH:H R.l=R.o k) (hk:k+9≤2^40) (hc:CRd H R cc rows)
  (hK:∀(x:InsD) (H':Heap) (k':Nat),k<k'→k'≤k+9→Upd H H' [(R.l,R.o k')]→x.args.length≤3→K (.ag x.cells) H') :
  Qw prog Q21 [.c (.ptr R.l 0),.ag [cc],.c (.int .i64 regs)] H K:=by
 refine Qz ?_
 refine Qb Qat Qa9t ?_
 have how:=hc.ow
 have hlen:=hc.s.len
 have hesz:=hc.s.sz
 refine Qa ?_
 simp only[go_sem,how,reduceIte,reduceEqDiff,reduceAdd,reduceLeDiff,reduceLT,reduceCtorEq]
 intro x6 hx6 H1 h1
 have kn:=(Kn.start1 hH (R.o_ne k)).al hx6 h1
 refine Qa ?_
 simp only[go_sem,reduceIte,reduceEqDiff,reduceAdd,reduceLeDiff,reduceLT,reduceCtorEq]
 refine Qg1 (ns:=[1,1,2,3,4,5,8,9,10,13,3,6,7,11,12,14]) (kn.e 0 rfl) (by omega) (by simp) fun op H2 hop hu=>?_
 have kn:=kn.callE 0 rfl hu (R.o_ne _)
 simp only[go_sem,Q7f,reduceIte,reduceEqDiff,reduceAdd,reduceLeDiff,reduceLT,reduceCtorEq]
 refine Qa ?_
 simp only[go_sem,reduceIte,reduceEqDiff,reduceAdd,reduceLeDiff,reduceLT,reduceCtorEq]
 refine Qa5 (kn.e 0 rfl) (by omega) fun to H3 hto hu=>?_
 have kn:=kn.callE 0 rfl hu (R.o_ne _)
 simp only[go_sem,Q7g,Qq6,reduceIte,reduceEqDiff,reduceAdd,reduceLeDiff,reduceLT,reduceCtorEq]
 intro x8 hx8 H4 h4
 have kn:=kn.al hx8 h4
 have hx84:=kn.l 1 rfl
 simp only[go_sem,Qq6,hx84,reduceIte,reduceEqDiff,reduceAdd,reduceLeDiff,reduceLT,reduceCtorEq]
 intro H5 h5
 have kn:=kn.stL 1 rfl h5
 refine Qa ?_
 simp only[go_sem,reduceIte,reduceEqDiff,reduceAdd,reduceLeDiff,reduceLT,reduceCtorEq]
 refine Qa4j fun many hm1 hm2=>?_
 simp only[go_sem,Q7h,reduceIte,reduceEqDiff,reduceAdd,reduceLeDiff,reduceLT,reduceCtorEq]
 have args:∀(many:Int) (to n:Int) (H6:Heap) (k6:Nat),many≤3→k<k6→k6≤k+4→Kn H H6 [(R.l,R.o k6)] [(x6,.st [.int .i64 0,.int .i64 0,.sl true 1 [],.int .i64 0]),(x8,.st [.int .i64 op,.int .i64 to,.sl true 1 [],.int .i64 n])]→
   Qac prog Q7c (Q6 Qnz fun x H'=>∃x',FrzV H' (un H) x x'∧K x' (H'.frz (un H))) [(0,.c (.ptr R.l 0)),(2,.c (.int .i64 regs)),(6,.c (.ptr x6 0)),(8,.c (.ptr x8 0)),(9,.c (.int .i64 many))] H6:=by
  intro many to n H6 k6 hmany hk1 hk2 kn
  refine Q3 ?_
  refine Qa ?_
  simp only[go_sem,reduceIte,reduceEqDiff,reduceAdd,reduceLeDiff,reduceLT,reduceCtorEq]
  refine Qh (Qc (Qu (fun m e1 H1=>∃(i:Nat) (ns:List Int) (ac:C) (al:List (Nat×Obj)),m=3-i∧i≤3∧ns.length=i∧Gr al 1 (Qf ns) ac∧
   Kn H H1 [(R.l,R.o (k6+i))] ([(x6,.st [.int .i64 0,.int .i64 0,.sl true 1 [],.int .i64 0]),(x8,.st [.int .i64 op,.int .i64 to,ac,.int .i64 n])]++al)∧
   e1=[(0,.c (.ptr R.l 0)),(2,.c (.int .i64 regs)),(6,.c (.ptr x6 0)),(8,.c (.ptr x8 0)),(9,.c (.int .i64 many)),(10,.c (.int .i64 i))]) 3 ?_ ?_))
  ·exact⟨0,[],_,[],by omega,by omega,rfl,.nil 1,by simpa using kn,rfl⟩
  ·rintro m e1 H7 ⟨i,ns,ac,al,hm,hi,hns,hgr,kn,rfl⟩
   have hacow:=hgr.isOw
   have hx8:=kn.l 1 rfl
   refine Q3 ?_
   refine Qa ?_
   simp only[go_sem,reduceIte,reduceEqDiff,reduceAdd,reduceLeDiff,reduceLT,reduceCtorEq]
   refine Qh (Qd rfl ?_ ?_)
   ·intro hc
    have hlt:(i:Int)<many:=by simpa using hc
    refine Qi ?_
    simp only[go_sem]
    refine Qh (Qc ?_)
    refine Qa9 ?_
    simp only[go_sem,hx8,hacow,reduceIte,reduceEqDiff,reduceAdd,reduceLeDiff,reduceLT,reduceCtorEq]
    refine Qa5 (kn.e 0 rfl) (by omega) fun v H8 hv hu=>?_
    have kn:=kn.callE 0 rfl hu (R.o_ne _)
    have hx8:=kn.l 1 rfl
    simp only[go_sem,Qzw,hx8,hacow,reduceIte,reduceEqDiff,reduceAdd,reduceLeDiff,reduceLT,reduceCtorEq]
    refine kn.grow (new:=Qf [v]) hgr (.mk' _ _ _ _) (Qv _) (by simp only[Qe,LIM,List.length_cons,List.length_nil];omega) fun y H9 kn=>?_
    have hx8:=kn.l 1 rfl
    simp only[go_sem,Qzv,hx8,reduceIte,reduceEqDiff,reduceAdd,reduceLeDiff,reduceLT,reduceCtorEq]
    intro H10 h10
    have kn:=kn.stL 1 rfl h10
    refine Qq ?_
    simp only[go_sem,X.next,reduceIte,reduceEqDiff,reduceAdd,reduceLeDiff,reduceLT,reduceCtorEq]
    refine⟨Qo (by omega) (by omega),3-(i+1),by omega,i+1,ns++[v],_,_,rfl,by omega,by simp[hns],?_,kn,rfl⟩
    rw[←Qb7]
    exact .mk _ _ _ (by simp[Qb7,Qe])
   ·intro hc
    refine Qt ?_
    simp only[go_sem,X.next]
    have hx6:=kn.l 0 rfl
    refine Qa ?_
    simp only[go_sem,hx8,hx6,hacow,reduceIte,reduceEqDiff,reduceAdd,reduceLeDiff,reduceLT,reduceCtorEq]
    intro H8 h8
    have kn:Kn H H8 [(R.l,R.o (k6+i))] ([(x6,.st [.int .i64 op,.int .i64 to,ac,.int .i64 n]),(x8,.st [.int .i64 op,.int .i64 to,ac,.int .i64 n])]++al):=kn.stL 0 rfl h8
    have hx6:=kn.l 0 rfl
    refine Qk ?_
    simp only[go_sem,Q6,Qad,Qnz,reduceIte,List.mem_singleton,forall_eq,RS.op,hx6,hacow,reduceIte,reduceEqDiff,reduceAdd,reduceLeDiff,reduceLT,reduceCtorEq]
    exact⟨.ag (InsD.mk op to ns n).cells,FrzL.ag (.cons (Qg rfl) (.cons (Qg rfl) (.cons (hgr.frz kn (Qv _)) (.cons (Qg rfl) .nil)))),hK ⟨op,to,ns,n⟩ _ (k6+i) (by omega) (by omega) kn.fin (by show ns.length≤3;omega)⟩
 have rest:∀(many n:Int) (H6:Heap) (k6:Nat) (E1:Env),lk 0 E1=.c (.ptr R.l 0)→lk 2 E1=.c (.int .i64 regs)→lk 6 E1=.c (.ptr x6 0)→lk 7 E1=.c (.int .i64 op)→lk 8 E1=.c (.ptr x8 0)→lk 9 E1=.c (.int .i64 many)→many≤3→k<k6→k6≤k+3→Kn H H6 [(R.l,R.o k6)] [(x6,.st [.int .i64 0,.int .i64 0,.sl true 1 [],.int .i64 0]),(x8,.st [.int .i64 op,.int .i64 to,.sl true 1 [],.int .i64 n])]→
   Qac prog Q7e (Q6 Qnz fun x H'=>∃x',FrzV H' (un H) x x'∧K x' (H'.frz (un H))) E1 H6:=by
  intro many n H6 k6 E1 l0 l2 l6 l7 l8 l9 hmany hk1 hk2 kn
  have rest2:∀(n:Int) (H6:Heap) (k6:Nat) (E1:Env),lk 0 E1=.c (.ptr R.l 0)→lk 2 E1=.c (.int .i64 regs)→lk 6 E1=.c (.ptr x6 0)→lk 7 E1=.c (.int .i64 op)→lk 8 E1=.c (.ptr x8 0)→lk 9 E1=.c (.int .i64 many)→k<k6→k6≤k+4→Kn H H6 [(R.l,R.o k6)] [(x6,.st [.int .i64 0,.int .i64 0,.sl true 1 [],.int .i64 0]),(x8,.st [.int .i64 op,.int .i64 to,.sl true 1 [],.int .i64 n])]→
    Qac prog Q7d (Q6 Qnz fun x H'=>∃x',FrzV H' (un H) x x'∧K x' (H'.frz (un H))) E1 H6:=by
   intro n H6 k6 E1 l0 l2 l6 l7 l8 l9 hk1 hk2 kn
   refine Q3 ?_
   refine Qa ?_
   simp only[go_sem,reduceIte,reduceEqDiff,reduceAdd,reduceLeDiff,reduceLT,reduceCtorEq]
   simp only[l7,true_and]
   refine Qlg ?_
   simp only[go_sem,Qzu,l0,l2,l6,l7,l8,l9,reduceIte,reduceEqDiff,reduceAdd,reduceLeDiff,reduceLT,reduceCtorEq]
   refine Qh (Qd rfl ?_ ?_)
   ·intro hc
    have hx8:=kn.l 1 rfl
    refine Qq ?_
    simp only[go_sem,hx8,reduceIte,reduceEqDiff,reduceAdd,reduceLeDiff,reduceLT,reduceCtorEq]
    intro H7 h7
    have kn:=kn.stL 1 rfl h7
    exact args many (-1) n H7 k6 hmany hk1 hk2 kn
   ·intro hc
    refine Qi ?_
    simp only[go_sem]
    exact args many to n H6 k6 hmany hk1 hk2 kn
  refine Q3 ?_
  refine Qa ?_
  simp only[go_sem,l0,l2,l6,l7,l8,l9,reduceIte,reduceEqDiff,reduceAdd,reduceLeDiff,reduceLT,reduceCtorEq]
  refine Qh (Qd rfl ?_ ?_)
  ·intro hc
   refine Qq ?_
   simp only[go_sem,reduceIte,reduceEqDiff,reduceAdd,reduceLeDiff,reduceLT,reduceCtorEq]
   refine Qg1 (ns:=[0,1,2,3,15,16,255]) (kn.e 0 rfl) (by omega) (by simp) fun n2 H7 hn2 hu=>?_
   have kn:=kn.callE 0 rfl hu (R.o_ne _)
   have hx8:=kn.l 1 rfl
   simp only[go_sem,Qzt,hx8,reduceIte,reduceEqDiff,reduceAdd,reduceLeDiff,reduceLT,reduceCtorEq]
   intro H8 h8
   have kn:=kn.stL 1 rfl h8
   exact rest2 n2 H8 (k6+1) _ (by simp[lk]) (by simp[lk]) (by simp[lk]) (by simp[lk]) (by simp[lk]) (by simp[lk]) (by omega) (by omega) kn
  ·intro hc
   refine Qi ?_
   simp only[go_sem]
   exact rest2 n H6 k6 _ (by simp[lk]) (by simp[lk]) (by simp[lk]) (by simp[lk]) (by simp[lk]) (by simp[lk]) (by omega) (by omega) kn
 refine Q3 ?_
 refine Qa ?_
 simp only[go_sem,reduceIte,reduceEqDiff,reduceAdd,reduceLeDiff,reduceLT,reduceCtorEq]
 refine Qh (Qd rfl ?_ ?_)
 ·intro hop14
  have hc5:=hc.keep kn
  have hok5:=eq_true hc5.s.ok
  refine Q3 ?_
  refine Qa ?_
  simp only[go_sem,how,hlen,hok5,reduceIte,reduceEqDiff,reduceAdd,reduceLeDiff,reduceLT,reduceCtorEq]
  intro hl
  refine Qh (Qd rfl ?_ ?_)
  ·intro h0
   refine Qa ?_
   simp only[go_sem,reduceIte,reduceEqDiff,reduceAdd,reduceLeDiff,reduceLT,reduceCtorEq]
   refine Qa5 (kn.e 0 rfl) (by omega) fun v H6 hv hu=>?_
   have kn:=kn.callE 0 rfl hu (R.o_ne _)
   have hx6:=kn.l 0 rfl
   simp only[go_sem,Q7i,hx6,reduceIte,reduceEqDiff,reduceAdd,reduceLeDiff,reduceLT,reduceCtorEq]
   intro H7 h7
   have kn:=kn.stL 0 rfl h7
   have hx6:=kn.l 0 rfl
   refine Qk ?_
   simp only[go_sem,Q6,Qad,Qnz,reduceIte,List.mem_singleton,forall_eq,RS.op,hx6,reduceIte,reduceEqDiff,reduceAdd,reduceLeDiff,reduceLT,reduceCtorEq]
   exact⟨.ag (InsD.mk 13 (-1) [v] 0).cells,FrzL.ag (.cons (Qg rfl) (.cons (Qg rfl) (.cons (FrzR.same (Qv [v])).sl (.cons (Qg rfl) .nil)))),hK ⟨13,-1,[v],0⟩ _ (k+3) (by omega) (by omega) kn.fin (by simp)⟩
  ·intro h0
   have hpos:0<rows.length:=by
    have:¬rows.length=0:=by simpa using h0
    omega
   refine Qi ?_
   simp only[go_sem]
   refine Qa ?_
   simp only[go_sem,how,hlen,hok5,reduceIte,reduceEqDiff,reduceAdd,reduceLeDiff,reduceLT,reduceCtorEq]
   intro _
   refine Qa5 (kn.e 0 rfl) (by omega) fun v H6 hv hu=>?_
   have kn:=kn.callE 0 rfl hu (R.o_ne _)
   rw[if_neg (by omega)]at hv
   obtain⟨i,rfl⟩:=Int.eq_ofNat_of_zero_le hv.1
   have hi:i<rows.length:=by omega
   obtain⟨p,c1,c2,hrow,hp0,hp3⟩:=hc.r i hi
   have hx8:=kn.l 1 rfl
   simp only[go_sem,Q7j,hx8,reduceIte,reduceEqDiff,reduceAdd,reduceLeDiff,reduceLT,reduceCtorEq]
   intro H7 h7
   have kn:=kn.stL 1 rfl h7
   have hx8:=kn.l 1 rfl
   have hc7:=hc.keep kn
   have hok7:=eq_true hc7.s.ok
   have hrw7:=hc7.s.rows
   refine Qq ?_
   simp only[go_sem,how,hlen,hok7,hrw7,hesz,hx8,hi,hrow,reduceIte,reduceEqDiff,reduceAdd,reduceLeDiff,reduceLT,reduceCtorEq]
   exact rest p i H7 (k+3) _ (by simp[lk]) (by simp[lk]) (by simp[lk]) (by simp[lk]) (by simp[lk]) (by simp[lk]) (by omega) (by omega) (by omega) kn
 ·intro hop14
  refine Qi ?_
  simp only[go_sem]
  exact rest many 0 H5 (k+2) _ (by simp[lk]) (by simp[lk]) (by simp[lk]) (by simp[lk]) (by simp[lk]) (by simp[lk]) (by omega) (by omega) (by omega) kn
end Go.AE.Y

namespace Go.AE.Y
open Go.Proofs.Tryz
variable {H:Heap} {K:V→Heap→Prop}
theorem Qbdk {α:Type} {a M b c:List α}:(a++(M++b)++c).Perm (((M++c)++b)++a):=by
 refine List.perm_append_comm.trans ?_
 refine (List.Perm.append_left _ (List.perm_append_comm (l₁:=a))).trans ?_
 rw[←List.append_assoc]
 refine .append_right _ ?_
 rw[←List.append_assoc]
 exact .append_right _ List.perm_append_comm
def EnvA (R:Rdr) (cc:C) (x4 x5 x8 n b:Nat) (e:Env):Prop:=
 lk 0 e=.c (.ptr R.l 0)∧lk 3 e=.c (.pp [cc])∧lk 4 e=.c (.ptr x4 0)∧lk 5 e=.c (.ptr x5 0)∧lk 6 e=.c (.int .i64 n)∧lk 7 e=.c (.int .i64 b)∧lk 8 e=.c (.ptr x8 0)
set_option maxHeartbeats 4000000 in
theorem Qa88 {R:Rdr} {k:Nat} {cc:C} {rows:List (List C)} (hH:H R.l=R.o k) (hk:k+1000≤2^40) (hc:CRd H R cc rows)
  (hK:∀(o:UCode) (H':Heap) (k':Nat),k<k'→k'≤k+1000→Kn H H' [(R.l,R.o k')] o.lg→o.ok→o.sm 0→K (.ag o.row) H') :
  Qw prog Q20 [.c (.ptr R.l 0),.ag [cc]] H K:=by
 refine Qd9 ?_
 refine Qb Qat Qa9q ?_
 have how:=hc.ow
 refine Qa ?_
 simp only[go_sem,how,reduceIte,reduceEqDiff,reduceAdd,reduceLeDiff,reduceLT,reduceCtorEq]
 intro x4 hx4 H1 h1
 have kn:=(Kn.start1 hH (R.o_ne k)).al hx4 h1
 refine Qa ?_
 simp only[go_sem,reduceIte,reduceEqDiff,reduceAdd,reduceLeDiff,reduceLT,reduceCtorEq]
 refine Qg1 (ns:=[1,0,2,3]) (kn.e 0 rfl) (by omega) (by simp) fun p H2 hp hu=>?_
 have kn:=kn.callE 0 rfl hu (R.o_ne _)
 have hp:0≤p∧p≤3:=by simp at hp;omega
 simp only[go_sem,Q6v,reduceIte,reduceEqDiff,reduceAdd,reduceLeDiff,reduceLT,reduceCtorEq]
 intro x5 hx5 H3 h3
 have kn:=kn.al hx5 h3
 have hx53:=kn.l 1 rfl
 simp only[go_sem,Q6u,hx53,reduceIte,reduceEqDiff,reduceAdd,reduceLeDiff,reduceLT,reduceCtorEq]
 intro H4 h4
 have kn:=kn.stL 1 rfl h4
 have hx54:=kn.l 1 rfl
 refine Qal ?_
 simp only[go_sem,hx54,reduceIte,reduceEqDiff,reduceAdd,reduceLeDiff,reduceLT,reduceCtorEq]
 refine⟨Qo (by omega) (by omega),?_⟩
 refine Qa5 (kn.e 0 rfl) (by omega) fun q H5 hq hu=>?_
 have kn:=kn.callE 0 rfl hu (R.o_ne _)
 have hx55:=kn.l 1 rfl
 rw[if_neg (by omega)]at hq
 simp only[go_sem,Q6w,hx55,reduceIte,reduceEqDiff,reduceAdd,reduceLeDiff,reduceLT,reduceCtorEq]
 refine⟨Qo (by omega) (by omega),?_⟩
 intro H6 h6
 have kn:=kn.stL 1 rfl h6
 obtain⟨rg,hrg⟩:∃rg,p+2+q=rg:=⟨_,rfl⟩
 rw[hrg]at kn
 refine Qa ?_
 simp only[go_sem,reduceIte,reduceEqDiff,reduceAdd,reduceLeDiff,reduceLT,reduceCtorEq]
 refine Qg1 (ns:=[3,5,2,1,7,4]) (kn.e 0 rfl) (by omega) (by simp) fun n0 H7 hn0 hu=>?_
 have kn:=kn.callE 0 rfl hu (R.o_ne _)
 simp only[go_sem,Q6x,reduceIte,reduceEqDiff,reduceAdd,reduceLeDiff,reduceLT,reduceCtorEq]
 obtain⟨n,rfl,hn1,hn7⟩:∃n:Nat,n0=n∧1≤n∧n≤7:=⟨n0.toNat,by simp at hn0;omega⟩
 refine Q3 ?_
 refine Qa ?_
 simp only[go_sem,reduceIte,reduceEqDiff,reduceAdd,reduceLeDiff,reduceLT,reduceCtorEq]
 refine Qh (Qc (Qu (fun m e1 H1=>∃(b k1:Nat) (bs:List UBlk) (bc:C) (bl:List (Nat×Obj)),m=n-b∧b≤n∧bs.length=b∧k<k1∧k1≤k+3+50 * b∧(∀o∈bs,o.ok∧o.sm 0)∧Gr bl 5 (bs.map UBlk.row) bc∧
  Kn H H1 [(R.l,R.o k1)] (([(x4,.st [.int .i64 0,.int .i64 0,.sl true 5 []]),(x5,.st [.int .i64 p,.int .i64 rg,bc])]++bs.flatMap UBlk.lg)++bl)∧
  e1=[(0,.c (.ptr R.l 0)),(3,.c (.pp [cc])),(4,.c (.ptr x4 0)),(5,.c (.ptr x5 0)),(6,.c (.int .i64 n)),(7,.c (.int .i64 b))]) n ?_ ?_))
 ·exact⟨0,k+1+1+1,[],_,[],by omega,by omega,rfl,by omega,by omega,by simp,.nil 5,by simpa using kn,rfl⟩
 ·rintro m e1 H8 ⟨b,k1,bs,bc,bl,hm,hb,hbs,hk1,hk2,hok,hgr,kn,rfl⟩
  have hbow:=hgr.isOw
  refine Q3 ?_
  refine Qa ?_
  simp only[go_sem,reduceIte,reduceEqDiff,reduceAdd,reduceLeDiff,reduceLT,reduceCtorEq]
  refine Qh (Qd rfl ?_ ?_)
  ·intro hc1
   have hlt:b<n:=by simpa using hc1
   refine Qi ?_
   simp only[go_sem]
   refine Qh (Qc ?_)
   refine Qa ?_
   simp only[go_sem,reduceIte,reduceEqDiff,reduceAdd,reduceLeDiff,reduceLT,reduceCtorEq]
   intro x8 hx8 H9 h9
   have kn:=kn.al hx8 h9
   have kn:=kn.perm List.perm_append_comm
   have hx89:=kn.l 0 rfl
   simp only[go_sem,Q6y,hx89,reduceIte,reduceEqDiff,reduceAdd,reduceLeDiff,reduceLT,reduceCtorEq]
   intro H10 h10
   have kn:=kn.stL 0 rfl h10
   refine Q3 ?_
   refine Qa ?_
   simp only[go_sem,reduceIte,reduceEqDiff,reduceAdd,reduceLeDiff,reduceLT,reduceCtorEq]
   refine Qg1 (ns:=[1,2,0,3,4]) (kn.e 0 rfl) (by omega) (by simp) fun i0 H11 hi0 hu=>?_
   have kn:=kn.callE 0 rfl hu (R.o_ne _)
   simp only[go_sem,Q6z,reduceIte,reduceEqDiff,reduceAdd,reduceLeDiff,reduceLT,reduceCtorEq]
   obtain⟨i,rfl,hi4⟩:∃i:Nat,i0=i∧i≤4:=⟨i0.toNat,by simp at hi0;omega⟩
   refine Qh (Qc (Qu (fun m e1 H1=>∃(t k2:Nat) (ds:List InsD) (ic:C) (il:List (Nat×Obj)),m=t∧t+ds.length=i∧k1<k2∧k2≤k1+1+9 * ds.length∧(∀d∈ds,d.args.length≤3)∧Gr il 4 (Qbk ds) ic∧
    Kn H H1 [(R.l,R.o k2)] (([(x8,.st [.sl true 2 [],ic,.int .i64 0,.int .i64 0,.sl true 1 []])]++(([(x4,.st [.int .i64 0,.int .i64 0,.sl true 5 []]),(x5,.st [.int .i64 p,.int .i64 rg,bc])]++bs.flatMap UBlk.lg)++bl))++il)∧
    e1=[(0,.c (.ptr R.l 0)),(3,.c (.pp [cc])),(4,.c (.ptr x4 0)),(5,.c (.ptr x5 0)),(6,.c (.int .i64 n)),(7,.c (.int .i64 b)),(8,.c (.ptr x8 0)),(9,.c (.int .i64 t))]) i ?_ ?_))
   ·refine⟨i,k1+1,[],_,[],rfl,rfl,by omega,by simp,by simp,.nil 4,by simpa using kn,rfl⟩
   ·rintro m2 e1 H12 ⟨t,k2,ds,ic,il,hm2,ht,hk3,hk4,hds,hgi,kn,rfl⟩
    have hicow:=hgi.isOw
    have hx8:=kn.l 0 rfl
    have hx5:=kn.l 2 rfl
    refine Q3 ?_
    refine Qa ?_
    simp only[go_sem,reduceIte,reduceEqDiff,reduceAdd,reduceLeDiff,reduceLT,reduceCtorEq]
    refine Qh (Qd rfl ?_ ?_)
    ·intro hc2
     have ht0:0<t:=by simpa using hc2
     refine Qi ?_
     simp only[go_sem]
     refine Qh (Qc ?_)
     refine Qa9 ?_
     simp only[go_sem,hx8,hx5,hicow,hbow,how,reduceIte,reduceEqDiff,reduceAdd,reduceLeDiff,reduceLT,reduceCtorEq]
     refine Qa9a (kn.e 0 rfl) (by omega) (hc.keep kn) fun d H13 k3 hk5 hk6 hu hd=>?_
     have kn:=kn.callE 0 rfl hu (R.o_ne _)
     have hx8:=kn.l 0 rfl
     simp only[go_sem,Q61,hx8,hicow,InsD.take4,InsD.allOw,InsD.len4,reduceIte,reduceEqDiff,reduceAdd,reduceLeDiff,reduceLT,reduceCtorEq]
     refine kn.grow (new:=[d.cells]) hgi (.mk' _ _ _ _) (by intro r hr;simp only[List.mem_singleton]at hr;subst hr;rfl) (by simp only[Qam,LIM,List.length_cons,List.length_nil];omega) fun y H14 kn=>?_
     have hx8:=kn.l 0 rfl
     simp only[go_sem,Q60,hx8,reduceIte,reduceEqDiff,reduceAdd,reduceLeDiff,reduceLT,reduceCtorEq]
     intro H15 h15
     have kn:=kn.stL 0 rfl h15
     refine Qq ?_
     simp only[go_sem,X.next,reduceIte,reduceEqDiff,reduceAdd,reduceLeDiff,reduceLT,reduceCtorEq]
     refine⟨Qo (by omega) (by omega),t-1,by omega,t-1,k3,ds++[d],_,_,rfl,by simp;omega,by omega,by simp;omega,fun d' hd'=>?_,?_,kn,?_⟩
     ·rcases List.mem_append.1 hd' with h|h
      ·exact hds _ h
      ·simp only[List.mem_singleton]at h;subst h;exact hd
     ·rw[Qaz1];exact .mk _ _ _ (by simp[Qam])
     ·have:(t:Int)-1=((t-1:Nat):Int):=by omega
      rw[this]
    ·intro hc2
     have ht0:t=0:=by have:¬0<t:=(by simpa using hc2);omega
     refine Qt ?_
     simp only[go_sem,X.next]
     refine Qa ?_
     simp only[go_sem,hx5,hbow,reduceIte,reduceEqDiff,reduceAdd,reduceLeDiff,reduceLT,reduceCtorEq]
     refine Qa5 (kn.e 0 rfl) (by omega) fun on H13 hon hu=>?_
     have kn:=kn.callE 0 rfl hu (R.o_ne _)
     have hx8:=kn.l 0 rfl
     simp only[go_sem,Qzj,hx8,hicow,reduceIte,reduceEqDiff,reduceAdd,reduceLeDiff,reduceLT,reduceCtorEq]
     intro H14 h14
     have kn:=kn.stL 0 rfl h14
     refine Qa ?_
     simp only[go_sem,reduceIte,reduceEqDiff,reduceAdd,reduceLeDiff,reduceLT,reduceCtorEq]
     refine Qg1 (ns:=[2,1,2,1,3]) (kn.e 0 rfl) (by omega) (by simp) fun jump H15 hjump hu=>?_
     have kn:=kn.callE 0 rfl hu (R.o_ne _)
     have hx8:=kn.l 0 rfl
     simp only[go_sem,Qzk,hx8,hicow,reduceIte,reduceEqDiff,reduceAdd,reduceLeDiff,reduceLT,reduceCtorEq]
     intro H16 h16
     have kn:=kn.stL 0 rfl h16
     refine Qc6 (fun e2 H2=>∃(k2:Nat) (jump:Int),k1<k2∧k2≤k1+40∧Kn H H2 [(R.l,R.o k2)] (([(x8,.st [.sl true 2 [],ic,.int .i64 jump,.int .i64 on,.sl true 1 []])]++(([(x4,.st [.int .i64 0,.int .i64 0,.sl true 5 []]),(x5,.st [.int .i64 p,.int .i64 rg,bc])]++bs.flatMap UBlk.lg)++bl))++il)∧EnvA R cc x4 x5 x8 n b e2) ?_ ?_
     ·intro Q hn _ _
      have rest:∀(v:Bool) (H2:Heap) (k2:Nat),k1<k2→k2≤k1+40→Kn H H2 [(R.l,R.o k2)] (([(x8,.st [.sl true 2 [],ic,.int .i64 jump,.int .i64 on,.sl true 1 []])]++(([(x4,.st [.int .i64 0,.int .i64 0,.sl true 5 []]),(x5,.st [.int .i64 p,.int .i64 rg,bc])]++bs.flatMap UBlk.lg)++bl))++il)→
        Qac prog Q6t Q [(0,.c (.ptr R.l 0)),(3,.c (.pp [cc])),(4,.c (.ptr x4 0)),(5,.c (.ptr x5 0)),(6,.c (.int .i64 n)),(7,.c (.int .i64 b)),(8,.c (.ptr x8 0)),(68,.c (.bool v))] H2:=by
       intro v H2 k2 hk1 hk2 kn
       refine Qd rfl ?_ ?_
       ·intro hc
        have hx8:=kn.l 0 rfl
        refine Qq ?_
        simp only[go_sem,hx8,hicow,reduceIte,reduceEqDiff,reduceAdd,reduceLeDiff,reduceLT,reduceCtorEq]
        intro H3 h3
        have kn:=kn.stL 0 rfl h3
        exact hn _ _ ⟨k2,3,hk1,hk2,kn,rfl,rfl,rfl,rfl,rfl,rfl,rfl⟩
       ·intro hc
        refine Qi ?_
        exact hn _ _ ⟨k2,jump,hk1,hk2,kn,rfl,rfl,rfl,rfl,rfl,rfl,rfl⟩
      refine Qa ?_
      simp only[go_sem,reduceIte,reduceEqDiff,reduceAdd,reduceLeDiff,reduceLT,reduceCtorEq]
      refine⟨fun _=>Qo (by omega) (by omega),?_⟩
      refine⟨fun hb1=>?_,fun hb1=>?_⟩
      ·refine Qa5 (kn.e 0 rfl) (by omega) fun v H17 hv hu=>?_
       have kn:=kn.callE 0 rfl hu (R.o_ne _)
       simp only[go_sem,Qgl,hb1,reduceIte,reduceEqDiff,reduceAdd,reduceLeDiff,reduceLT,reduceCtorEq]
       exact rest _ _ _ (by omega) (by omega) kn
      ·by_cases h1:(n:Int)=1
       ·have hd:=decide_eq_true h1
        have hd2:decide ((b:Int)=n-1)=true:=decide_eq_true (by omega)
        simp only[go_sem,Qgl,hd,hd2,Bool.not_true,cond_true,cond_false,reduceIte,reduceEqDiff,reduceAdd,reduceLeDiff,reduceLT,reduceCtorEq]
        exact rest true _ _ (by omega) (by omega) kn
       ·have h2:¬(b:Int)=n-1:=by simpa[h1]using hb1
        simp only[go_sem,Qgl,hb1,h1,h2,decide_false,Bool.not_false,cond_true,cond_false,reduceIte,reduceEqDiff,reduceAdd,reduceLeDiff,reduceLT,reduceCtorEq]
        exact rest false _ _ (by omega) (by omega) kn
     rintro e2 H17 ⟨k3,jump,hk5,hk6,kn,l0,l3,l4,l5,l6,l7,l8⟩
     refine Qc6 (fun e2 H2=>∃(k2:Nat) (jump on:Int) (nfl:Bool) (next:List Int),next.length≤2∧k1<k2∧k2≤k1+50∧Kn H H2 [(R.l,R.o k2)] (([(x8,.st [.sl true 2 [],ic,.int .i64 jump,.int .i64 on,.sl nfl 1 (Qf next)])]++(([(x4,.st [.int .i64 0,.int .i64 0,.sl true 5 []]),(x5,.st [.int .i64 p,.int .i64 rg,bc])]++bs.flatMap UBlk.lg)++bl))++il)∧EnvA R cc x4 x5 x8 n b e2) ?_ ?_
     ·intro Q hn _ _
      have hx8:=kn.l 0 rfl
      refine Qa ?_
      simp only[go_sem,hx8,l0,l3,l4,l5,l6,l7,l8,hicow,reduceIte,reduceEqDiff,reduceAdd,reduceLeDiff,reduceLT,reduceCtorEq]
      refine Qc ?_
      refine Qa ?_
      simp only[go_sem,reduceIte,reduceEqDiff,reduceAdd,reduceLeDiff,reduceLT,reduceCtorEq]
      refine Qd rfl ?_ ?_
      ·intro hc
       refine Qa ?_
       simp only[go_sem,hx8,hicow,reduceIte,reduceEqDiff,reduceAdd,reduceLeDiff,reduceLT,reduceCtorEq]
       intro H18 h18
       have kn:=kn.stL 0 rfl h18
       refine Qq ?_
       simp only[go_sem,reduceIte,reduceEqDiff,reduceAdd,reduceLeDiff,reduceLT,reduceCtorEq]
       refine Qa4l (kn.e 0 rfl) (by omega) (by omega) (by omega) fun v1 H19 k4 hk7 hk8 hu=>?_
       have kn:=kn.callE 0 rfl hu (R.o_ne _)
       have hx8:=kn.l 0 rfl
       simp only[go_sem,Qzl,hx8,hicow,reduceIte,reduceEqDiff,reduceAdd,reduceLeDiff,reduceLT,reduceCtorEq]
       intro H20 h20
       have kn:=kn.stL 0 rfl h20
       exact hn _ _ ⟨k4,jump,0,true,[v1],by simp,by omega,by omega,kn,rfl,rfl,rfl,rfl,rfl,rfl,rfl⟩
      ·intro hc
       refine Qa ?_
       simp only[go_sem,reduceIte,reduceEqDiff,reduceAdd,reduceLeDiff,reduceLT,reduceCtorEq]
       refine Qd rfl ?_ ?_
       ·intro hc
        refine Qq ?_
        simp only[go_sem,reduceIte,reduceEqDiff,reduceAdd,reduceLeDiff,reduceLT,reduceCtorEq]
        refine Qa4l (kn.e 0 rfl) (by omega) (by omega) (by omega) fun v1 H19 k4 hk7 hk8 hu=>?_
        have kn:=kn.callE 0 rfl hu (R.o_ne _)
        simp only[go_sem,Qzn,reduceIte,reduceEqDiff,reduceAdd,reduceLeDiff,reduceLT,reduceCtorEq]
        refine Qa4l (kn.e 0 rfl) (by omega) (by omega) (by omega) fun v2 H20 k5 hk9 hk10 hu=>?_
        have kn:=kn.callE 0 rfl hu (R.o_ne _)
        have hx8:=kn.l 0 rfl
        simp only[go_sem,Qzm,hx8,hicow,reduceIte,reduceEqDiff,reduceAdd,reduceLeDiff,reduceLT,reduceCtorEq]
        intro H21 h21
        have kn:=kn.stL 0 rfl h21
        exact hn _ _ ⟨k5,jump,on,true,[v1,v2],by simp,by omega,by omega,kn,rfl,rfl,rfl,rfl,rfl,rfl,rfl⟩
       ·intro hc
        refine Qi ?_
        exact hn _ _ ⟨k3,jump,on,true,[],by simp,by omega,by omega,kn,rfl,rfl,rfl,rfl,rfl,rfl,rfl⟩
     rintro e3 H18 ⟨k4,jump,on,nfl,next,hnx,hk7,hk8,kn,l0,l3,l4,l5,l6,l7,l8⟩
     have hx8:=kn.l 0 rfl
     have hx5:=kn.l 2 rfl
     refine Qq ?_
     simp only[go_sem,hx8,hx5,l0,l3,l4,l5,l6,l7,l8,hicow,hbow,reduceIte,reduceEqDiff,reduceAdd,reduceLeDiff,reduceLT,reduceCtorEq]
     obtain⟨o,ho⟩:∃o:UBlk,o=⟨[],.sl true 2 [],[],ds,ic,il,jump,on,nfl,next⟩:=⟨_,rfl⟩
     have hor:[C.sl true 2 [],ic,C.int IntKind.i64 jump,C.int IntKind.i64 on,C.sl nfl 1 (Qf next)]=o.row:=by rw[ho];rfl
     have hol:o.lg=il:=by rw[ho];simp[UBlk.lg]
     have hook:o.ok:=by rw[ho];exact⟨.nil 2,hgi,by simp⟩
     have hosm:o.sm 0:=by rw[ho];exact⟨hnx,by show ds.length≤_;omega,by simp,fun d hd=>by have:=hds d hd;omega,by simp⟩
     rw[hor]
     have kn:=(kn.perm Qbdk).drop
     refine kn.grow (new:=[o.row]) hgr (.mk' _ _ _ _) (by intro r hr;simp only[List.mem_singleton]at hr;subst hr;exact o.noOw hook) (by simp only[List.length_map,List.length_cons,List.length_nil,LIM];omega) fun z H19 kn=>?_
     have kn:Kn H H19 [(R.l,R.o k4)] (([(x4,.st [.int .i64 0,.int .i64 0,.sl true 5 []]),(x5,.st [.int .i64 p,.int .i64 rg,bc])]++(bs++[o]).flatMap UBlk.lg)++[(z,.vec 5 ((bs++[o]).map UBlk.row))]):=by
      simpa[List.flatMap_append,List.append_assoc,hol]using kn
     have hx5:=kn.l 1 rfl
     simp only[go_sem,Qzo,hx5,l0,l3,l4,l5,l6,l7,hbow,reduceIte,reduceEqDiff,reduceAdd,reduceLeDiff,reduceLT,reduceCtorEq]
     intro H20 h20
     have kn:=kn.stL 1 rfl h20
     refine Qq ?_
     simp only[go_sem,X.next,reduceIte,reduceEqDiff,reduceAdd,reduceLeDiff,reduceLT,reduceCtorEq]
     refine⟨Qo (by omega) (by omega),n-(b+1),by omega,b+1,k4,bs++[o],_,_,rfl,by omega,by simp[hbs],by omega,by omega,fun o' ho'=>?_,.mk _ _ _ (by simp),kn,rfl⟩
     rcases List.mem_append.1 ho' with h|h
     ·exact hok o' h
     ·simp only[List.mem_singleton]at h;subst h;exact⟨hook,hosm⟩
  ·intro hc1
   have hbn:b=n:=by have:¬b<n:=(by simpa using hc1);omega
   have hx4:=kn.l 0 rfl
   have hx5:=kn.l 1 rfl
   refine Qt ?_
   simp only[go_sem,X.next]
   refine Qa ?_
   simp only[go_sem,hx5,hx4,hbow,reduceIte,reduceEqDiff,reduceAdd,reduceLeDiff,reduceLT,reduceCtorEq]
   intro H9 h9
   have kn:=kn.stL 0 rfl h9
   have hx4:=kn.l 0 rfl
   refine Qk ?_
   simp only[go_sem,Q6,Qad,Qay5,reduceIte,List.mem_singleton,forall_eq,RS.op,hx4,hbow,reduceIte,reduceEqDiff,reduceAdd,reduceLeDiff,reduceLT,reduceCtorEq]
   obtain⟨o,ho⟩:∃o:UCode,o=⟨p,rg,bs,bc,bl⟩:=⟨_,rfl⟩
   have hook:o.ok:=by rw[ho];exact⟨hgr,fun b hb=>(hok b hb).1,hp.1,hp.2⟩
   have hosm:o.sm 0:=by rw[ho];exact⟨by show 0<bs.length;omega,by show bs.length≤_;omega,fun b hb=>(hok b hb).2⟩
   have kn:Kn H H9 [(R.l,R.o k1)] ([(x4,.st [.int .i64 p,.int .i64 rg,bc]),(x5,.st [.int .i64 p,.int .i64 rg,bc])]++o.lg):=by
    rw[ho];simpa[UCode.lg,List.append_assoc]using kn
   refine⟨unx H o.lg,.ag o.row,H9.frz (unx H o.lg),?_,Qew _ _,hK o _ k1 hk1 (by omega) kn.finK hook hosm⟩
   rw[ho]
   exact FrzL.ag (.cons (Qg rfl) (.cons (Qg rfl) (.cons (.same _ hbow) .nil)))
end Go.AE.Y

namespace Go.AE.Y
open Go.Proofs.Tryz
variable {H:Heap} {K:V→Heap→Prop}
end Go.AE.Y
namespace Go.AE
open Go.AE.Y
open Go.Proofs.Tryz
variable {H:Heap} {K:V→Heap→Prop}
theorem Gr.slc {H0 H:Heap} {E B Lg:List (Nat×Obj)} {sz:Nat} {rows:List (List C)} {c:C} (h:Gr Lg sz rows c) (kn:Kn H0 H E (B++Lg)):Slc H sz rows c:=by
 obtain⟨h1,h2⟩:=h.get kn
 exact⟨h1,h.elemSz,h2,h.lenC⟩
end Go.AE
namespace Go.AE.Y
open Go.Proofs.Tryz
variable {H:Heap} {K:V→Heap→Prop}
end Go.AE.Y
namespace Go.AE
open Go.AE.Y
open Go.Proofs.Tryz
variable {H:Heap} {K:V→Heap→Prop}
theorem Gr.ne {H0 H:Heap} {E B Lg:List (Nat×Obj)} {sz:Nat} {rows:List (List C)} {c:C} {r:Nat} {o:Obj} (h:Gr Lg sz rows c) (kn:Kn H0 H E (B++Lg)) (hr:(r,o)∈E):∀l a d n,c=.vsl l a d n→l≠r:=by
 intro l a d n hc hh
 rcases h with ⟨h1,_⟩|⟨y,h1,h2⟩
 ·rw[h1]at hc;simp at hc
 ·rw[h1]at hc
  have hy:y=l:=by injection hc
  have:=kn.loc (y,.vec sz rows) (by rw[h2];simp)
  exact kn.ext (r,o) hr (by rw[←hh,←hy];exact this)
end Go.AE
namespace Go.AE.Y
open Go.Proofs.Tryz
variable {H:Heap} {K:V→Heap→Prop}
end Go.AE.Y
namespace Go.AE
open Go.AE.Y
open Go.Proofs.Tryz
variable {H:Heap} {K:V→Heap→Prop}
theorem Gr.slcM {H0 H:Heap} {E L Lg:List (Nat×Obj)} {sz:Nat} {rows:List (List C)} {c:C} (h:Gr Lg sz rows c) (kn:Kn H0 H E L) (hm:∀p∈Lg,p∈L):Slc H sz rows c:=by
 rcases h with ⟨h1,h2,h3⟩|⟨y,h1,h2⟩
 ·rw[h1,h2];exact .mk' _ _ _ _
 ·have hy:H y=.vec sz rows:=(kn.get (y,.vec sz rows) (List.mem_append_right _ (hm _ (by rw[h2];simp)))).1
  rw[h1];exact⟨by simp[Go.AE.okSl,hy],rfl,by simp[Go.AE.rowsOf,hy],rfl⟩
end Go.AE
namespace Go.AE.Y
open Go.Proofs.Tryz
variable {H:Heap} {K:V→Heap→Prop}
theorem Qbed {H0 H:Heap} {B cl:List (Nat×Obj)} {R:Rdr} {o:Obj} {us:List UCode} {cc:C} (hg:Gr cl 3 (us.map UCode.row) cc) (kn:Kn H0 H [(R.l,o)] (B++cl)) (hu:∀u∈us,u.ok):CRd H R cc (us.map UCode.row):=by
 refine⟨hg.slc kn,hg.isOw,hg.ne kn (o:=o) (by simp),fun i hi=>?_⟩
 rw[List.length_map]at hi
 refine⟨us[i].params,.int .i64 us[i].regs,us[i].bc,by simp[List.getD_eq_getElem?_getD,hi,UCode.row],(hu _ (List.getElem_mem hi)).p0,(hu _ (List.getElem_mem hi)).p1⟩
set_option maxHeartbeats 4000000 in
theorem Qayw {R:Rdr} {k:Nat} (hH:H R.l=R.o k) (hk:k+10000≤2^40)
  (hK:∀(cs:List CodeD) (H':Heap) (k':Nat),k<k'→k'≤k+10000→Upd H H' [(R.l,R.o k')]→0<cs.length→cs.length≤3→(∀c∈cs,c.sm)→K (.ag [.sl false 3 (Qp cs)]) H') :
  Qw prog Qrn [.c (.ptr R.l 0)] H K:=by
 refine Qz ?_
 refine Qb Qat Qa9u ?_
 refine Qa ?_
 simp only[go_sem,reduceIte,reduceEqDiff,reduceAdd,reduceLeDiff,reduceLT,reduceCtorEq]
 intro x2 hx2 H1 h1
 have kn:=(Kn.start1 hH (R.o_ne k)).al hx2 h1
 refine Qa ?_
 simp only[go_sem,reduceIte,reduceEqDiff,reduceAdd,reduceLeDiff,reduceLT,reduceCtorEq]
 intro x3 hx3 H2 h2
 have kn:=kn.al hx3 h2
 have hx32:=kn.l 1 rfl
 simp only[go_sem,Q7l,hx32,reduceIte,reduceEqDiff,reduceAdd,reduceLeDiff,reduceLT,reduceCtorEq]
 intro H3 h3
 have kn:=kn.stL 1 rfl h3
 refine Q3 ?_
 refine Qa ?_
 simp only[go_sem,reduceIte,reduceEqDiff,reduceAdd,reduceLeDiff,reduceLT,reduceCtorEq]
 refine Qg1 (ns:=[1,2,1,3]) (kn.e 0 rfl) (by omega) (by simp) fun i0 H4 hi0 hu=>?_
 have kn:=kn.callE 0 rfl hu (R.o_ne _)
 simp only[go_sem,Q7m,reduceIte,reduceEqDiff,reduceAdd,reduceLeDiff,reduceLT,reduceCtorEq]
 obtain⟨i,rfl,hi1,hi3⟩:∃i:Nat,i0=i∧1≤i∧i≤3:=⟨i0.toNat,by simp at hi0;omega⟩
 refine Qh (Qc (Qu (fun m e1 H1=>∃(t k1:Nat) (us:List UCode) (cc:C) (cl:List (Nat×Obj)),m=t∧t+us.length=i∧k<k1∧k1≤k+1+1000 * us.length∧(∀u∈us,u.ok∧u.sm 0)∧Gr cl 3 (us.map UCode.row) cc∧
  Kn H H1 [(R.l,R.o k1)] (([(x2,.st [.sl true 3 []]),(x3,.st [cc])]++us.flatMap UCode.lg)++cl)∧
  e1=[(0,.c (.ptr R.l 0)),(2,.c (.ptr x2 0)),(3,.c (.ptr x3 0)),(4,.c (.int .i64 t))]) i ?_ ?_))
 ·exact⟨i,k+1,[],_,[],rfl,rfl,by omega,by simp,by simp,.nil 3,by simpa using kn,rfl⟩
 ·rintro m e1 H5 ⟨t,k1,us,cc,cl,hm,ht,hk1,hk2,hok,hgr,kn,rfl⟩
  have hcow:=hgr.isOw
  have hx3:=kn.l 1 rfl
  refine Q3 ?_
  refine Qa ?_
  simp only[go_sem,reduceIte,reduceEqDiff,reduceAdd,reduceLeDiff,reduceLT,reduceCtorEq]
  refine Qh (Qd rfl ?_ ?_)
  ·intro hc
   have ht0:0<t:=by simpa using hc
   refine Qi ?_
   simp only[go_sem]
   refine Qh (Qc (Qa9 ?_))
   simp only[go_sem,hx3,hcow,reduceIte,reduceEqDiff,reduceAdd,reduceLeDiff,reduceLT,reduceCtorEq]
   refine Qa88 (kn.e 0 rfl) (by omega) (Qbed hgr kn fun u hu=>(hok u hu).1) fun o H6 k2 hk3 hk4 kn2 hoo hos=>?_
   have kn:=kn.compE 0 rfl kn2
   have hx3:=kn.l 1 rfl
   simp only[go_sem,Q7o,hx3,hcow,o.len3,reduceIte,reduceEqDiff,reduceAdd,reduceLeDiff,reduceLT,reduceCtorEq]
   have kn:=kn.perm Qadh
   refine kn.grow (new:=[o.row]) hgr (.mk' _ _ _ _) (by intro r hr;simp only[List.mem_singleton]at hr;subst hr;exact o.noOw hoo) (by simp only[List.length_map,List.length_cons,List.length_nil,LIM];omega) fun z H7 kn=>?_
   have kn:Kn H H7 [(R.l,R.o k2)] (([(x2,.st [.sl true 3 []]),(x3,.st [cc])]++(us++[o]).flatMap UCode.lg)++[(z,.vec 3 ((us++[o]).map UCode.row))]):=by
    simpa[List.flatMap_append,List.append_assoc]using kn
   have hx3:=kn.l 1 rfl
   simp only[go_sem,Q7n,hx3,reduceIte,reduceEqDiff,reduceAdd,reduceLeDiff,reduceLT,reduceCtorEq]
   intro H8 h8
   have kn:=kn.stL 1 rfl h8
   refine Qq ?_
   simp only[go_sem,X.next,reduceIte,reduceEqDiff,reduceAdd,reduceLeDiff,reduceLT,reduceCtorEq]
   refine⟨Qo (by omega) (by omega),t-1,by omega,t-1,k2,us++[o],_,_,rfl,by simp;omega,by omega,by simp;omega,fun o' ho'=>?_,.mk _ _ _ (by simp),kn,?_⟩
   ·rcases List.mem_append.1 ho' with h|h
    ·exact hok o' h
    ·simp only[List.mem_singleton]at h;subst h;exact⟨hoo,hos⟩
   ·have:(t:Int)-1=((t-1:Nat):Int):=by omega
    rw[this]
  ·intro hc
   have ht0:t=0:=by have:¬0<t:=(by simpa using hc);omega
   refine Qt ?_
   simp only[go_sem,X.next]
   refine Q3 ?_
   refine Qa ?_
   simp only[go_sem,reduceIte,reduceEqDiff,reduceAdd,reduceLeDiff,reduceLT,reduceCtorEq]
   refine Qg1 (ns:=[0,0,1,3]) (kn.e 0 rfl) (by omega) (by simp) fun j0 H6 hj0 hu=>?_
   have kn:=kn.callE 0 rfl hu (R.o_ne _)
   simp only[go_sem,Q7p,reduceIte,reduceEqDiff,reduceAdd,reduceLeDiff,reduceLT,reduceCtorEq]
   obtain⟨j,rfl,hj3⟩:∃j:Nat,j0=j∧j≤3:=⟨j0.toNat,by simp at hj0;omega⟩
   have hcl:0<us.length:=by omega
   have hcl3:us.length≤3:=by omega
   refine Qh (Qc (Qu (fun m e1 H1=>∃(t k2 N:Nat) (us:List UCode),m=t∧t+N=j∧us.length=i∧k<k2∧k2≤k1+1+200 * N∧(∀u∈us,u.ok∧u.sm N)∧Gr cl 3 (us.map UCode.row) cc∧
    Kn H H1 [(R.l,R.o k2)] (([(x2,.st [.sl true 3 []]),(x3,.st [cc])]++us.flatMap UCode.lg)++cl)∧
    e1=[(0,.c (.ptr R.l 0)),(2,.c (.ptr x2 0)),(3,.c (.ptr x3 0)),(5,.c (.int .i64 t))]) j ?_ ?_))
   ·exact⟨j,k1+1,0,us,rfl,rfl,by omega,by omega,by omega,hok,hgr,kn,rfl⟩
   ·rintro m e1 H7 ⟨t,k2,N,us,hm,ht,hui,hk3,hk4,hok,hgr,kn,rfl⟩
    have hx3:=kn.l 1 rfl
    refine Q3 ?_
    refine Qa ?_
    simp only[go_sem,reduceIte,reduceEqDiff,reduceAdd,reduceLeDiff,reduceLT,reduceCtorEq]
    refine Qh (Qd rfl ?_ ?_)
    ·intro hc
     have ht0:0<t:=by simpa using hc
     refine Qi ?_
     simp only[go_sem]
     have hmem:∀p∈cl,p∈(([(x2,.st [.sl true 3 []]),(x3,.st [cc])]++us.flatMap UCode.lg)++cl):=fun p hp=>by simp[hp]
     refine Qc6 (fun e2 H2=>∃(k3:Nat) (us:List UCode),us.length=i∧k<k3∧k3≤k2+200∧(∀u∈us,u.ok∧u.sm (N+1))∧Gr cl 3 (us.map UCode.row) cc∧
      Kn H H2 [(R.l,R.o k3)] (([(x2,.st [.sl true 3 []]),(x3,.st [cc])]++us.flatMap UCode.lg)++cl)∧lk 0 e2=.c (.ptr R.l 0)∧lk 2 e2=.c (.ptr x2 0)∧lk 3 e2=.c (.ptr x3 0)∧lk 5 e2=.c (.int .i64 t)) ?_ ?_
     ·intro Q hn _ _
      have hs:=hgr.slc kn
      have hsok:=eq_true hs.ok
      have hlen:=hs.len
      have hsz:=hs.sz
      rw[List.length_map]at hlen
      refine Qc ?_
      refine Qal ?_
      simp only[go_sem,hx3,hcow,hsok,hlen,reduceIte,reduceEqDiff,reduceAdd,reduceLeDiff,reduceLT,reduceCtorEq]
      refine Qa5 (kn.e 0 rfl) (by omega) fun v H8 hv hu=>?_
      have kn:=kn.callE 0 rfl hu (R.o_ne _)
      rw[if_neg (by omega)]at hv
      obtain⟨ci,rfl⟩:=Int.eq_ofNat_of_zero_le hv.1
      have hci:ci<us.length:=by omega
      have hx3:=kn.l 1 rfl
      have hs:=hgr.slc kn
      have hsok:=eq_true hs.ok
      simp only[go_sem,Q7q,hx3,hcow,hsok,hlen,hsz,hci,reduceIte,reduceEqDiff,reduceAdd,reduceLeDiff,reduceLT,reduceCtorEq]
      obtain⟨u,hu⟩:∃u,us[ci]=u:=⟨_,rfl⟩
      obtain⟨huok,husm⟩:=hok _ (List.getElem_mem hci)
      rw[hu]at huok husm
      have hrow:(us.map UCode.row).getD ci []=[.int .i64 u.params,.int .i64 u.regs,u.bc]:=by rw[←hu];simp[List.getD_eq_getElem?_getD,hci,UCode.row]
      have hub0:=husm.b0
      have hub1:=husm.b
      obtain⟨yb,hbc,hbl⟩:=UCode.bvec huok hub0
      have hblow:=huok.b.isOw
      have hblen:=huok.b.lenC
      rw[List.length_map]at hblen
      have hrws:=hs.rows
      have hmemb:∀p∈u.bl,p∈(([(x2,.st [.sl true 3 []]),(x3,.st [cc])]++us.flatMap UCode.lg)++cl):=fun p hp=>by
       have:p∈us.flatMap UCode.lg:=List.mem_flatMap.2 ⟨u,by rw[←hu];exact List.getElem_mem hci,List.mem_append_right _ hp⟩
       simp[this]
      have hbok:=eq_true (huok.b.slcM kn hmemb).ok
      refine Qa ?_
      simp only[go_sem,hx3,hcow,hsok,hlen,hsz,hci,hrws,hrow,hblow,hblen,hbok,reduceIte,reduceEqDiff,reduceAdd,reduceLeDiff,reduceLT,reduceCtorEq]
      intro _
      refine Qa5 (kn.e 0 rfl) (by omega) fun v H9 hv hu9=>?_
      have kn:=kn.callE 0 rfl hu9 (R.o_ne _)
      rw[if_neg (by omega)]at hv
      obtain⟨bi,rfl⟩:=Int.eq_ofNat_of_zero_le hv.1
      have hbi:bi<u.blocks.length:=by omega
      have hsok:=eq_true (hgr.slcM kn hmem).ok
      have hrws:=(hgr.slcM kn hmem).rows
      simp only[go_sem,Q7r,reduceIte,reduceEqDiff,reduceAdd,reduceLeDiff,reduceLT,reduceCtorEq]
      refine Qa ?_
      simp only[go_sem,hcow,hsok,hlen,hsz,hci,hrws,hrow,hblow,reduceIte,reduceEqDiff,reduceAdd,reduceLeDiff,reduceLT,reduceCtorEq]
      refine Qa5 (kn.e 0 rfl) (by omega) fun to H10 _ hu10=>?_
      have kn:=kn.callE 0 rfl hu10 (R.o_ne _)
      simp only[go_sem,Qzy,reduceIte,reduceEqDiff,reduceAdd,reduceLeDiff,reduceLT,reduceCtorEq]
      intro x8 hx8 H11 h11
      have kn:=kn.al hx8 h11
      have kn:=kn.perm List.perm_append_comm
      have hx8:=kn.l 0 rfl
      simp only[go_sem,Qzx,hx8,reduceIte,reduceEqDiff,reduceAdd,reduceLeDiff,reduceLT,reduceCtorEq]
      intro H12 h12
      have kn:Kn H H12 [(R.l,R.o (k2+1+1+1))] ([(x8,.st [.int .i64 to,.sl true 1 []])]++(([(x2,.st [.sl true 3 []]),(x3,.st [cc])]++us.flatMap UCode.lg)++cl)):=kn.stL 0 rfl h12
      have hmem2:∀p∈cl,p∈([(x8,Obj.st [.int .i64 to,.sl true 1 []])]++(([(x2,.st [.sl true 3 []]),(x3,.st [cc])]++us.flatMap UCode.lg)++cl)):=fun p hp=>List.mem_append_right _ (hmem p hp)
      have hsok:=eq_true (hgr.slcM kn hmem2).ok
      have hrws:=(hgr.slcM kn hmem2).rows
      have hbs:=huok.b.slcM kn (fun p hp=>List.mem_append_right _ (hmemb p hp))
      refine Q3 ?_
      refine Qa ?_
      simp only[go_sem,hcow,hsok,hlen,hsz,hci,hrws,hrow,hblow,reduceIte,reduceEqDiff,reduceAdd,reduceLeDiff,reduceLT,reduceCtorEq]
      refine Qeb (rows:=u.blocks.map UBlk.row) (nx:=fun i=>(u.blocks.map UBlk.next).getD i []) hbs hblow (fun i hi=>?_) fun H13 hu13=>?_
      ·rw[List.length_map]at hi
       refine⟨u.blocks[i].pc,u.blocks[i].ic,.int .i64 u.blocks[i].jump,.int .i64 u.blocks[i].on,u.blocks[i].nfl,?_⟩
       simp[List.getD_eq_getElem?_getD,hi,UBlk.row]
      have kn:=kn.call0 hu13
      obtain⟨ps,hps⟩:∃ps,Q7 (fun i=>(u.blocks.map UBlk.next).getD i []) (bi:Int) (u.blocks.map UBlk.row).length=ps:=⟨_,rfl⟩
      have hpsl:ps.length≤160:=by
       have:=Qca (fun i=>(u.blocks.map UBlk.next).getD i []) (bi:Int) (u.blocks.map UBlk.row).length
       rw[hps,List.length_map]at this;omega
      rw[hps]
      simp only[go_sem,Qzz,Qe,reduceIte,reduceEqDiff,reduceAdd,reduceLeDiff,reduceLT,reduceCtorEq]
      intro _
      refine Qh (Qc (Qu (fun m e1 H1=>∃(q:Nat) (ns:List Int) (ac:C) (al:List (Nat×Obj)),m=ps.length-q∧q≤ps.length∧ns.length=q∧Gr al 1 (Qf ns) ac∧
       Kn H H1 [(R.l,R.o (k2+1+1+1+q))] (([(x8,.st [.int .i64 to,ac])]++(([(x2,.st [.sl true 3 []]),(x3,.st [cc])]++us.flatMap UCode.lg)++cl))++al)∧
       e1=[(0,.c (.ptr R.l 0)),(2,.c (.ptr x2 0)),(3,.c (.ptr x3 0)),(5,.c (.int .i64 t)),(6,.c (cc.ep 3 ci 0)),(7,.c (.int .i64 bi)),(8,.c (.ptr x8 0)),(59,.c (.int .i64 ps.length)),(60,.c (.int .i64 q))]) ps.length ?_ ?_))
      ·exact⟨0,[],_,[],by omega,by omega,rfl,.nil 1,by simpa using kn,rfl⟩
      ·rintro m2 e1 H14 ⟨q,ns,ac,al,hm2,hq,hns,hga,kn,rfl⟩
       have hacow:=hga.isOw
       have hx8:=kn.l 0 rfl
       have hmem3:∀p∈cl,p∈(([(x8,Obj.st [.int .i64 to,ac])]++(([(x2,.st [.sl true 3 []]),(x3,.st [cc])]++us.flatMap UCode.lg)++cl))++al):=fun p hp=>List.mem_append_left _ (List.mem_append_right _ (hmem p hp))
       have hsok:=eq_true (hgr.slcM kn hmem3).ok
       have hrws:=(hgr.slcM kn hmem3).rows
       refine Qa ?_
       simp only[go_sem,reduceIte,reduceEqDiff,reduceAdd,reduceLeDiff,reduceLT,reduceCtorEq]
       refine Qh (Qd rfl ?_ ?_)
       ·intro hc
        have hlt:q<ps.length:=by simpa using hc
        refine Qi ?_
        simp only[go_sem]
        refine Qh (Qc (Qa9 ?_))
        simp only[go_sem,hx8,hacow,hcow,hsok,hlen,hsz,hci,hrws,hrow,hblow,reduceIte,reduceEqDiff,reduceAdd,reduceLeDiff,reduceLT,reduceCtorEq]
        refine Qa5 (kn.e 0 rfl) (by omega) fun v H15 _ hu15=>?_
        have kn:=kn.callE 0 rfl hu15 (R.o_ne _)
        have hx8:=kn.l 0 rfl
        simp only[go_sem,Qz1,hx8,hacow,reduceIte,reduceEqDiff,reduceAdd,reduceLeDiff,reduceLT,reduceCtorEq]
        refine kn.grow (new:=Qf [v]) hga (.mk' _ _ _ _) (Qv _) (by simp only[Qe,LIM,List.length_cons,List.length_nil];omega) fun y H16 kn=>?_
        have hx8:=kn.l 0 rfl
        simp only[go_sem,Qz0,hx8,reduceIte,reduceEqDiff,reduceAdd,reduceLeDiff,reduceLT,reduceCtorEq]
        intro H17 h17
        have kn:=kn.stL 0 rfl h17
        refine Qq ?_
        simp only[go_sem,X.next,reduceIte,reduceEqDiff,reduceAdd,reduceLeDiff,reduceLT,reduceCtorEq]
        refine⟨Qo (by omega) (by omega),ps.length-(q+1),by omega,q+1,ns++[v],_,_,rfl,by omega,by simp[hns],?_,kn,rfl⟩
        rw[←Qb7]
        exact .mk _ _ _ (by simp[Qb7,Qe])
       ·intro hc
        have hqp:q=ps.length:=by have:¬q<ps.length:=(by simpa using hc);omega
        refine Qt ?_
        simp only[go_sem,X.next]
        refine Qa ?_
        simp only[go_sem,reduceIte,reduceEqDiff,reduceAdd,reduceLeDiff,reduceLT,reduceCtorEq]
        refine Qd rfl ?_ ?_
        ·intro hc
         obtain⟨blk,hblk⟩:∃blk,u.blocks[bi]=blk:=⟨_,rfl⟩
         have hbok2:=huok.bs _ (List.getElem_mem hbi)
         have hbsm2:=husm.bs _ (List.getElem_mem hbi)
         rw[hblk]at hbok2 hbsm2
         have hbp:=hbsm2.p
         have hbr:(u.blocks.map UBlk.row).getD bi []=[blk.pc,blk.ic,.int .i64 blk.jump,.int .i64 blk.on,.sl blk.nfl 1 (Qf blk.next)]:=by rw[←hblk];simp[List.getD_eq_getElem?_getD,hbi,UBlk.row]
         have hpcow:=hbok2.p.isOw
         have hbl5:(u.blocks.map UBlk.row).length=u.blocks.length:=by simp
         have kn:Kn H H14 [(R.l,R.o (k2+1+1+1+q))] (([(yb,.vec 5 (u.blocks.map UBlk.row))]++([(x8,.st [.int .i64 to,ac])]++([(x2,.st [.sl true 3 []]),(x3,.st [cc])]++(blk.core++(al++(Qair us ci bi hci++cl))))))++blk.pl):=kn.perm (Qr fun f hf h0 hc1 hp=>by
          have h1:=hp _ _ (Qbbc us ci bi hci (by rw[hu];exact hbi))
          subst hu
          rw[hblk,hbl]at h1
          simp only[hf]at h1⊢
          omega)
         have hyb:=kn.l 0 rfl
         have hx8:=kn.l 1 rfl
         have hmem4:∀p∈cl,p∈(([(yb,Obj.vec 5 (u.blocks.map UBlk.row))]++([(x8,Obj.st [.int .i64 to,ac])]++([(x2,Obj.st [.sl true 3 []]),(x3,Obj.st [cc])]++(blk.core++(al++(Qair us ci bi hci++cl))))))++blk.pl):=fun p hp=>by simp[hp]
         have hsok:=eq_true (hgr.slcM kn hmem4).ok
         have hrws:=(hgr.slcM kn hmem4).rows
         obtain⟨ph,hph⟩:∃ph:UPhi,ph=⟨to,ns,ac,al⟩:=⟨_,rfl⟩
         have hphr:[C.int IntKind.i64 to,ac]=ph.row:=by rw[hph];rfl
         have hphl:ph.al=al:=by rw[hph]
         have hphg:Gr ph.al 1 (Qf ph.ns) ph.ac:=by rw[hph];exact hga
         rw[hbc]at hrow hblow hblen
         have hgp:=hbok2.p
         have htk:List.take u.blocks.length (u.blocks.map UBlk.row)=u.blocks.map UBlk.row:=List.take_of_length_le (by simp)
         refine Qa9 ?_
         simp only[go_sem,hx8,hacow,hcow,hsok,hlen,hsz,hci,hrws,hrow,hyb,hbi,hbl5,htk,hbr,hpcow,List.drop_zero,List.take_length,Nat.zero_add,reduceIte,reduceEqDiff,reduceAdd,reduceLeDiff,reduceLT,reduceCtorEq]
         rw[hphr]
         refine kn.grow (new:=[ph.row]) hgp (.mk' _ _ _ _) (by intro r hr;simp only[List.mem_singleton]at hr;subst hr;exact ph.noOw hphg) (by simp only[List.length_map,List.length_cons,List.length_nil,LIM];omega) fun z H15 kn=>?_
         have kn:Kn H H15 [(R.l,R.o (k2+1+1+1+q))] ([(yb,.vec 5 (u.blocks.map UBlk.row))]++(([(x8,.st [.int .i64 to,ac])]++([(x2,.st [.sl true 3 []]),(x3,.st [cc])]++(blk.core++(al++(Qair us ci bi hci++cl)))))++[(z,.vec 2 ((blk.phis++[ph]).map UPhi.row))])):=by
          simpa[List.append_assoc]using kn
         have hyb:=kn.l 0 rfl
         have hmem5:∀p∈cl,p∈([(yb,Obj.vec 5 (u.blocks.map UBlk.row))]++(([(x8,Obj.st [.int .i64 to,ac])]++([(x2,Obj.st [.sl true 3 []]),(x3,Obj.st [cc])]++(blk.core++(al++(Qair us ci bi hci++cl)))))++[(z,.vec 2 ((blk.phis++[ph]).map UPhi.row))])):=fun p hp=>by simp[hp]
         have hsok:=eq_true (hgr.slcM kn hmem5).ok
         have hrws:=(hgr.slcM kn hmem5).rows
         simp only[go_sem,Qz2,hcow,hsok,hlen,hsz,hci,hrws,hrow,hyb,hbi,hbl5,htk,hbr,hpcow,List.drop_zero,Nat.zero_add,reduceIte,reduceEqDiff,reduceAdd,reduceLeDiff,reduceLT,reduceCtorEq]
         intro H16 h16
         obtain⟨b',hb'⟩:∃b':UBlk,b'={ blk with phis:=blk.phis++[ph],pc:=.vsl z 2 0 ((blk.phis.map UPhi.row).length+1),pl:=[(z,.vec 2 ((blk.phis++[ph]).map UPhi.row))] }:=⟨_,rfl⟩
         have hbr':[C.vsl z 2 0 ((blk.phis.map UPhi.row).length+1),blk.ic,C.int IntKind.i64 blk.jump,C.int IntKind.i64 blk.on,C.sl blk.nfl 1 (Qf blk.next)]=b'.row:=by rw[hb'];rfl
         have hbset:(u.blocks.map UBlk.row).set bi b'.row=(u.blocks.set bi b').map UBlk.row:=by rw[List.map_set]
         rw[hbr',hbset]at h16
         have kn:=kn.stL 0 rfl h16
         have hbok':b'.ok:=by
          rw[hb']
          refine⟨.mk _ _ _ (by simp),hbok2.i,fun p hp=>?_⟩
          rcases List.mem_append.1 hp with h|h
          ·exact hbok2.a p h
          ·simp only[List.mem_singleton]at h;subst h;exact hphg
         have hbsm':b'.sm (N+1):=by
          rw[hb']
          refine⟨hbsm2.n,hbsm2.i,by simp;omega,hbsm2.ia,fun p hp=>?_⟩
          rcases List.mem_append.1 hp with h|h
          ·exact hbsm2.pa p h
          ·simp only[List.mem_singleton]at h;subst h;rw[hph];show ns.length≤1000;omega
         obtain⟨u',hu'⟩:∃u',u'=u.put bi b' [(yb,.vec 5 ((u.blocks.set bi b').map UBlk.row))]:=⟨_,rfl⟩
         have huok':u'.ok:=by rw[hu'];exact UCode.put_ok huok hbok' hbl
         have husm':u'.sm (N+1):=by rw[hu'];exact UCode.put_sm husm hbsm'
         have hkn:Kn H H16 [(R.l,R.o (k2+1+1+1+q))] ((([(x2,.st [.sl true 3 []]),(x3,.st [cc])]++(us.set ci u').flatMap UCode.lg)++cl)++[(x8,.st [.int .i64 to,ac])]):=kn.perm (Qr fun f hf h0 hc1 hp=>by
          have h1:=hp _ _ (Qbd0 us ci bi hci (by rw[hu];exact hbi) b' [(yb,.vec 5 ((u.blocks.set bi b').map UBlk.row))])
          rw[hu,←hu']at h1
          have h2:b'.core=blk.core++al:=by rw[hb',UBlk.core_snoc,hphl]
          have h3:b'.pl=[(z,.vec 2 ((blk.phis++[ph]).map UPhi.row))]:=by rw[hb']
          rw[h2,h3]at h1
          simp only[List.cons_append,List.nil_append,List.set_cons_zero,hf,hc1 _ (_::_),hc1 _ (_++_)]at h1⊢
          omega)
         refine hn _ _ ⟨k2+1+1+1+q,us.set ci u',by simpa using hui,by omega,by omega,fun v hv=>?_,?_,hkn.drop,rfl,rfl,rfl,rfl⟩
         ·rcases List.mem_or_eq_of_mem_set hv with hv|rfl
          ·exact⟨(hok v hv).1,(hok v hv).2.mono (by omega)⟩
          ·exact⟨huok',husm'⟩
         ·rw[Qbd1 us ci hci u' (by rw[hu',UCode.put_row,hu])];exact hgr
        ·intro hc
         refine Qi ?_
         simp only[go_sem]
         refine hn _ _ ⟨k2+1+1+1+q,us,hui,by omega,by omega,fun u hu=>⟨(hok u hu).1,(hok u hu).2.mono (by omega)⟩,hgr,?_,rfl,rfl,rfl,rfl⟩
         have kn:=kn.drop
         exact (kn.perm List.perm_append_comm).drop
     rintro e2 H8 ⟨k3,us,hui,hk5,hk6,hok,hgr,kn,l0,l2,l3,l5⟩
     refine Qq ?_
     simp only[go_sem,X.next,l0,l2,l3,l5,reduceIte,reduceEqDiff,reduceAdd,reduceLeDiff,reduceLT,reduceCtorEq]
     refine⟨Qo (by omega) (by omega),t-1,by omega,t-1,k3,N+1,us,rfl,by omega,hui,hk5,by omega,hok,hgr,kn,?_⟩
     have:(t:Int)-1=((t-1:Nat):Int):=by omega
     rw[this]
    ·intro hc
     refine Qt ?_
     simp only[go_sem,X.next]
     have hx2:=kn.l 0 rfl
     refine Qa ?_
     simp only[go_sem,hx2,hx3,hcow,reduceIte,reduceEqDiff,reduceAdd,reduceLeDiff,reduceLT,reduceCtorEq]
     intro H8 h8
     have kn:=kn.stL 0 rfl h8
     have hx2:=kn.l 0 rfl
     refine Qk ?_
     simp only[go_sem,Q6,Qad,Qay8,reduceIte,List.mem_singleton,forall_eq,RS.op,hx2,hcow,reduceIte,reduceEqDiff,reduceAdd,reduceLeDiff,reduceLT,reduceCtorEq]
     have hheld:Held H8 (un H) (us.flatMap UCode.lg++cl):=fun p hp=>by
      have hp2:p∈(([(x2,Obj.st [cc]),(x3,Obj.st [cc])]++us.flatMap UCode.lg)++cl):=by
       rcases List.mem_append.1 hp with h|h
       ·simp[h]
       ·simp[h]
      exact⟨(kn.get p (List.mem_append_right _ hp2)).1,Qd0 (kn.loc p hp2)⟩
     obtain⟨cs,hf,hcn,hcs⟩:=UCodes.frz (N:=N) (by omega) hgr hok hheld
     exact⟨_,FrzL.ag (.cons hf .nil),hK cs _ k2 hk3 (by omega) kn.fin (by omega) (by omega) hcs⟩
end Go.AE.Y

namespace Go.AE.Y
open Go.Proofs.Tryz
variable {H:Heap} {K:V→Heap→Prop}
end Go.AE.Y
namespace Go.AE
open Go.AE.Y
open Go.Proofs.Tryz
variable {H:Heap} {K:V→Heap→Prop}
theorem Kn.lm {H0 H:Heap} {E L:List (Nat×Obj)} {x:Nat} {o:Obj} (kn:Kn H0 H E L) (h:(x,o)∈L):H x=o:=(kn.get (x,o) (List.mem_append_right _ h)).1
end Go.AE
namespace Go.AE.Y
open Go.Proofs.Tryz
variable {H:Heap} {K:V→Heap→Prop}
set_option maxHeartbeats 4000000 in
theorem Qa87 {R:Rdr} {k:Nat} (hH:H R.l=R.o k) (hk:k+20000≤2^40)
  (hK:∀(cs:List CodeD) (H':Heap) (k':Nat),k<k'→k'≤k+20000→Upd H H' [(R.l,R.o k')]→0<cs.length→cs.length≤3→(∀c∈cs,c.gd)→K (.ag [.sl false 3 (Qp cs)]) H') :
  Qw prog Q2z [.c (.ptr R.l 0)] H K:=by
 refine Qz ?_
 refine Qb Qat Qa9p ?_
 refine Qa ?_
 simp only[go_sem,reduceIte,reduceEqDiff,reduceAdd,reduceLeDiff,reduceLT,reduceCtorEq]
 intro x2 hx2 H1 h1
 have kn:=(Kn.start1 hH (R.o_ne k)).al hx2 h1
 refine Qa ?_
 simp only[go_sem,reduceIte,reduceEqDiff,reduceAdd,reduceLeDiff,reduceLT,reduceCtorEq]
 refine Qayw (kn.e 0 rfl) (by omega) fun cs H2 k1 hk1 hk2 hu hcs0 hcs3 hsm=>?_
 have kn:=kn.callE 0 rfl hu (R.o_ne _)
 simp only[go_sem,Q6n,reduceIte,reduceEqDiff,reduceAdd,reduceLeDiff,reduceLT,reduceCtorEq]
 refine Qajc hsm (by omega) fun us cc cl H3 k2 hgr hok hul=>?_
 have kn:=kn.comp0 k2
 have hcow:=hgr.isOw
 simp only[go_sem,Q6m,hcow,reduceIte,reduceEqDiff,reduceAdd,reduceLeDiff,reduceLT,reduceCtorEq]
 intro x3 hx3 H4 h4
 have kn:=kn.al hx3 h4
 have kn:=kn.perm List.perm_append_comm
 have hx3:=kn.l 0 rfl
 simp only[go_sem,Q6l,hx3,hcow,reduceIte,reduceEqDiff,reduceAdd,reduceLeDiff,reduceLT,reduceCtorEq]
 intro H5 h5
 have kn:=kn.stL 0 rfl h5
 have kn:Kn H H5 [(R.l,R.o k1)] (([(x2,.st [.sl true 3 []]),(x3,.st [cc])]++us.flatMap OCode.lg)++cl):=kn.perm (Qr fun f hf h0 hc1 hp=>by
  simp only[List.cons_append,List.nil_append,List.set_cons_zero,hf,hc1 _ (_::_),hc1 _ (_++_),hc1 _ (List.flatMap _ _)]
  omega)
 have hx3:=kn.l 1 rfl
 have hs:=hgr.slc kn
 have hsok:=eq_true hs.ok
 have hlen:=hs.len
 have hsz:=hs.sz
 rw[List.length_map]at hlen
 refine Qal ?_
 simp only[go_sem,hx3,hcow,hsok,hlen,reduceIte,reduceEqDiff,reduceAdd,reduceLeDiff,reduceLT,reduceCtorEq]
 refine Qa5 (kn.e 0 rfl) (by omega) fun v H6 hv hu=>?_
 have kn:=kn.callE 0 rfl hu (R.o_ne _)
 rw[if_neg (by omega)]at hv
 obtain⟨ci,rfl⟩:=Int.eq_ofNat_of_zero_le hv.1
 have hci:ci<us.length:=by omega
 have hx3:=kn.l 1 rfl
 have hs:=hgr.slc kn
 have hsok:=eq_true hs.ok
 have hrws:=hs.rows
 simp only[go_sem,Q6o,hx3,hcow,hsok,hlen,hsz,hci,reduceIte,reduceEqDiff,reduceAdd,reduceLeDiff,reduceLT,reduceCtorEq]
 obtain⟨u,hu⟩:∃u,us[ci]=u:=⟨_,rfl⟩
 obtain⟨huok,husm⟩:=hok _ (List.getElem_mem hci)
 rw[hu]at huok husm
 have hrow:(us.map OCode.row).getD ci []=[.int .i64 u.params,.int .i64 u.regs,u.bc]:=by rw[←hu];simp[List.getD_eq_getElem?_getD,hci,OCode.row]
 have hub0:=husm.b0
 have hub1:=husm.b
 obtain⟨yb,hbc,hbl⟩:=OCode.bvec huok hub0
 have hblow:(C.vsl yb 5 0 u.blocks.length).isOw=false:=rfl
 have hblen:lenC (C.vsl yb 5 0 u.blocks.length)=u.blocks.length:=rfl
 rw[hbc]at hrow
 have hybm:(yb,Obj.vec 5 (u.blocks.map OBlk.row))∈(([(x2,Obj.st [.sl true 3 []]),(x3,.st [cc])]++us.flatMap OCode.lg)++cl):=by
  have:(yb,Obj.vec 5 (u.blocks.map OBlk.row))∈us.flatMap OCode.lg:=List.mem_flatMap.2 ⟨u,by rw[←hu];exact List.getElem_mem hci,List.mem_append_right _ (by rw[hbl];simp)⟩
  simp[this]
 have hyb:=kn.lm hybm
 have hbl5:(u.blocks.map OBlk.row).length=u.blocks.length:=by simp
 have htk:List.take u.blocks.length (u.blocks.map OBlk.row)=u.blocks.map OBlk.row:=List.take_of_length_le (by simp)
 refine Qal ?_
 simp only[go_sem,hcow,hsok,hlen,hsz,hci,hrws,hrow,hyb,hbl5,Nat.zero_add,Nat.le_refl,reduceIte,reduceEqDiff,reduceAdd,reduceLeDiff,reduceLT,reduceCtorEq]
 refine Qa5 (kn.e 0 rfl) (by omega) fun v H7 hv hu7=>?_
 have kn:=kn.callE 0 rfl hu7 (R.o_ne _)
 rw[if_neg (by omega)]at hv
 obtain⟨bi,rfl⟩:=Int.eq_ofNat_of_zero_le hv.1
 have hbi:bi<u.blocks.length:=by omega
 have hs:=hgr.slc kn
 have hsok:=eq_true hs.ok
 have hrws:=hs.rows
 have hyb:=kn.lm hybm
 simp only[go_sem,Q6p,hcow,hsok,hlen,hsz,hci,hrws,hrow,hyb,hbl5,hbi,Nat.zero_add,Nat.le_refl,reduceIte,reduceEqDiff,reduceAdd,reduceLeDiff,reduceLT,reduceCtorEq]
 refine Qal ?_
 simp only[go_sem,hcow,hsok,hlen,hsz,hci,hrws,hrow,hyb,hbl5,hbi,Nat.zero_add,Nat.le_refl,reduceIte,reduceEqDiff,reduceAdd,reduceLeDiff,reduceLT,reduceCtorEq]
 refine Qg1 (ns:=[-1,u.regs,u.blocks.length,0,1]) (kn.e 0 rfl) (by omega) (by simp) fun bad H8 _ hu8=>?_
 have kn:=kn.callE 0 rfl hu8 (R.o_ne _)
 simp only[go_sem,Q6q,reduceIte,reduceEqDiff,reduceAdd,reduceLeDiff,reduceLT,reduceCtorEq]
 refine Q3 ?_
 refine Qa ?_
 simp only[go_sem,reduceIte,reduceEqDiff,reduceAdd,reduceLeDiff,reduceLT,reduceCtorEq]
 refine Qa5 (kn.e 0 rfl) (by omega) fun kind H9 _ hu9=>?_
 have kn:=kn.callE 0 rfl hu9 (R.o_ne _)
 refine Qc6 (fun e2 H2=>∃(k3:Nat) (us:List OCode) (cl:List (Nat×Obj)),us.length=cs.length∧k<k3∧k3≤k+20000∧(∀u∈us,u.ok∧u.sm 1001)∧Gr cl 3 (us.map OCode.row) cc∧
   Kn H H2 [(R.l,R.o k3)] (([(x2,.st [.sl true 3 []]),(x3,.st [cc])]++us.flatMap OCode.lg)++cl)∧lk 2 e2=.c (.ptr x2 0)∧lk 3 e2=.c (.ptr x3 0)) ?_ ?_
 ·intro Q hn _ _
  have hull:us.length=cs.length:=hul
  have knO:=kn
  obtain⟨blk,hblk⟩:∃blk,u.blocks[bi]=blk:=⟨_,rfl⟩
  have hbok:=huok.bs _ (List.getElem_mem hbi)
  have hbsm:=husm.bs _ (List.getElem_mem hbi)
  rw[hblk]at hbok hbsm
  have hbr:(u.blocks.map OBlk.row).getD bi []=[blk.pc,blk.ic,.int .i64 blk.jump,.int .i64 blk.on,.vsl blk.nx.y 1 0 blk.nx.ns.length]:=by rw[←hblk];simp[List.getD_eq_getElem?_getD,hbi,OBlk.row,OInts.c]
  have hpcow:=hbok.p.isOw
  have hicow:=hbok.i.isOw
  have kn:=Qazm kn hci hu hbi hblk hbl
  have hset:∀b':OBlk,(u.blocks.map OBlk.row).set bi b'.row=(u.blocks.set bi b').map OBlk.row:=fun b'=>(List.map_set).symm
  have hdone:∀(b':OBlk) (H2:Heap) (k3:Nat) (e2:Env),b'.ok→b'.sm 1001→k<k3→k3≤k+20000→Kn H H2 [(R.l,R.o k3)] ([(yb,.vec 5 ((u.blocks.set bi b').map OBlk.row))]++(b'.lg++(Q9f us ci bi hci++([(x2,Obj.st [.sl true 3 []]),(x3,.st [cc])]++cl))))→
    lk 2 e2=.c (.ptr x2 0)→lk 3 e2=.c (.ptr x3 0)→Q .nrm e2 H2:=by
   intro b' H2 k3 e2 h1 h2 h3 h4 kn l2 l3
   obtain⟨us',g1,g2,g3,g4⟩:=Qa25 (N:=1000) hci hu hbi hbl hok h1 h2 hgr kn
   exact hn _ _ ⟨k3,us',cl,by omega,h3,h4,g3,g2,g4,l2,l3⟩
  have hsame:∀e2:Env,lk 2 e2=.c (.ptr x2 0)→lk 3 e2=.c (.ptr x3 0)→Q .nrm e2 H9:=fun e2 l2 l3=>
   hn _ _ ⟨_,us,cl,hul,by omega,by omega,fun u hu=>⟨(hok u hu).1,(hok u hu).2.mono (by omega)⟩,hgr,knO,l2,l3⟩
  refine Qc ?_
  refine Qa ?_
  simp only[go_sem,reduceIte,reduceEqDiff,reduceAdd,reduceLeDiff,reduceLT,reduceCtorEq]
  have hsok:=eq_true (hgr.slcM kn (fun p hp=>by simp[hp])).ok
  have hrws:=(hgr.slcM kn (fun p hp=>by simp[hp])).rows
  have hyb:=kn.l 0 rfl
  refine Qd rfl ?_ ?_
  ·intro hc
   refine Qq ?_
   simp only[go_sem,reduceIte,reduceEqDiff,reduceAdd,reduceLeDiff,reduceLT,reduceCtorEq]
   refine Qa5 (kn.e 0 rfl) (by omega) fun v H10 _ hu10=>?_
   have kn:=kn.callE 0 rfl hu10 (R.o_ne _)
   have hyb:=kn.l 0 rfl
   simp only[go_sem,Q6r,hyb,hbl5,htk,hbi,hbr,hpcow,hicow,Qbv,List.drop_zero,Nat.zero_add,Nat.le_refl,reduceIte,reduceEqDiff,reduceAdd,reduceLeDiff,reduceLT,reduceCtorEq]
   intro H11 h11
   have hb':[blk.pc,blk.ic,C.int IntKind.i64 v,C.int IntKind.i64 blk.on,C.vsl blk.nx.y 1 0 blk.nx.ns.length]=({ blk with jump:=v }:OBlk).row:=rfl
   rw[hb',hset]at h11
   exact hdone { blk with jump:=v } _ _ _ ⟨hbok.p,hbok.i,hbok.a⟩ ⟨hbsm.n,hbsm.i,by have:=hbsm.p;show blk.phis.length≤_;omega,fun x hx=>by have:=hbsm.ia x hx;omega⟩ (by omega) (by omega) (kn.stL 0 rfl h11) (by simp[lk]) (by simp[lk])
  intro hc0
  refine Qa ?_
  simp only[go_sem,reduceIte,reduceEqDiff,reduceAdd,reduceLeDiff,reduceLT,reduceCtorEq]
  refine Qd rfl ?_ ?_
  ·intro hc
   have hny:H9 blk.nx.y=.vec 1 (Qf blk.nx.ns):=kn.l 1 rfl
   have htk2:List.take blk.nx.ns.length (Qf blk.nx.ns)=Qf blk.nx.ns:=List.take_of_length_le (by simp[Qe])
   refine Qa ?_
   simp only[go_sem,hyb,hbl5,htk,hbi,hbr,hpcow,hicow,Qbv,List.drop_zero,Nat.zero_add,Nat.le_refl,hny,Qe,reduceIte,reduceEqDiff,reduceAdd,reduceLeDiff,reduceLT,reduceCtorEq]
   intro _
   refine Qd rfl ?_ ?_
   ·intro hc2
    have hn0:0<blk.nx.ns.length:=by simpa using hc2
    have hg1:=Qs blk.nx.ns 0 hn0
    refine Qq ?_
    simp only[go_sem,hyb,hbl5,htk,hbi,hbr,hpcow,hicow,Qbv,List.drop_zero,Nat.zero_add,Nat.le_refl,hny,hn0,hg1,htk2,Qe,reduceIte,reduceEqDiff,reduceAdd,reduceLeDiff,reduceLT,reduceCtorEq]
    refine⟨by omega,fun H11 h11=>?_⟩
    have hs1:(Qf blk.nx.ns).set 0 [C.int IntKind.i64 bad]=Qf (blk.nx.ns.set 0 bad):=by simp[Qf,List.map_set]
    rw[hs1]at h11
    have kn:Kn H H11 [(R.l,R.o (k1+1+1+1+1))] ([(yb,.vec 5 (u.blocks.map OBlk.row))]++(OBlk.lg { blk with nx:=⟨blk.nx.ns.set 0 bad,blk.nx.y⟩ }++(Q9f us ci bi hci++([(x2,Obj.st [.sl true 3 []]),(x3,.st [cc])]++cl)))):=kn.stL 1 rfl h11
    refine hdone { blk with nx:=⟨blk.nx.ns.set 0 bad,blk.nx.y⟩ } _ (k1+1+1+1+1) _ ⟨hbok.p,hbok.i,hbok.a⟩ ⟨by simpa using hbsm.n,hbsm.i,by have:=hbsm.p;show blk.phis.length≤_;omega,fun x hx=>by have:=hbsm.ia x hx;omega⟩ (by omega) (by omega) ?_ (by simp[lk]) (by simp[lk])
    rw[Q13 hbi (by rw[hblk];simp[OBlk.row,OInts.c])]
    exact kn
   ·intro hc2
    refine Qi ?_
    exact hsame _ (by simp[lk]) (by simp[lk])
  intro hc1
  refine Qa ?_
  simp only[go_sem,reduceIte,reduceEqDiff,reduceAdd,reduceLeDiff,reduceLT,reduceCtorEq]
  refine Qd rfl ?_ ?_
  ·intro hc
   refine Qq ?_
   simp only[go_sem,hyb,hbl5,htk,hbi,hbr,hpcow,hicow,Qbv,List.drop_zero,Nat.zero_add,Nat.le_refl,reduceIte,reduceEqDiff,reduceAdd,reduceLeDiff,reduceLT,reduceCtorEq]
   intro H11 h11
   have hb':[blk.pc,blk.ic,C.int IntKind.i64 blk.jump,C.int IntKind.i64 bad,C.vsl blk.nx.y 1 0 blk.nx.ns.length]=({ blk with on:=bad }:OBlk).row:=rfl
   rw[hb',hset]at h11
   exact hdone { blk with on:=bad } _ _ _ ⟨hbok.p,hbok.i,hbok.a⟩ ⟨hbsm.n,hbsm.i,by have:=hbsm.p;show blk.phis.length≤_;omega,fun x hx=>by have:=hbsm.ia x hx;omega⟩ (by omega) (by omega) (kn.stL 0 rfl h11) (by simp[lk]) (by simp[lk])
  intro hc2
  refine Qa ?_
  simp only[go_sem,reduceIte,reduceEqDiff,reduceAdd,reduceLeDiff,reduceLT,reduceCtorEq]
  have hilen:lenC blk.ic=blk.ins.length:=by rw[hbok.i.lenC];simp
  have hiok:okSl H9 blk.ic=True:=eq_true (hbok.i.slcM kn (fun p hp=>by simp[OBlk.lg,hp])).ok
  refine Qd rfl ?_ ?_
  ·intro hc
   refine Qa ?_
   simp only[go_sem,hyb,hbl5,htk,hbi,hbr,hpcow,hicow,Qbv,List.drop_zero,Nat.zero_add,Nat.le_refl,hilen,hiok,reduceIte,reduceEqDiff,reduceAdd,reduceLeDiff,reduceLT,reduceCtorEq]
   intro _
   refine Qd rfl ?_ ?_
   ·intro hc2
    have hn0:0<blk.ins.length:=by simpa using hc2
    obtain⟨yi,hic,hil⟩:=OBlk.ivec hbok hn0
    rw[hic]at hbr
    have knI:=Qaeo kn hil
    have hyi:=knI.l 0 rfl
    obtain⟨x,hx⟩:∃x,blk.ins[0]=x:=⟨_,rfl⟩
    have hxr:(blk.ins.map OIns.row).getD 0 []=[.int .i64 x.op,.int .i64 x.to,.vsl x.a.y 1 0 x.a.ns.length,.int .i64 x.n]:=by rw[←hx];simp[List.getD_eq_getElem?_getD,hn0,OIns.row,OInts.c]
    have hil4:(blk.ins.map OIns.row).length=blk.ins.length:=by simp
    have htk4:List.take blk.ins.length (blk.ins.map OIns.row)=blk.ins.map OIns.row:=List.take_of_length_le (by simp)
    have hxa:x.a.ns.length≤1000:=hbsm.ia x (by rw[←hx];exact List.getElem_mem hn0)
    refine Qq ?_
    simp only[go_sem,hyb,hbl5,htk,hbi,hbr,hpcow,hicow,Qbv,List.drop_zero,Nat.zero_add,Nat.le_refl,hyi,hn0,hxr,hil4,htk4,reduceIte,reduceEqDiff,reduceAdd,reduceLeDiff,reduceLT,reduceCtorEq]
    refine⟨by omega,fun H12 h12=>?_⟩
    have hr':[C.int IntKind.i64 x.op,C.int IntKind.i64 bad,C.vsl x.a.y 1 0 x.a.ns.length,C.int IntKind.i64 x.n]=({ x with to:=bad }:OIns).row:=rfl
    rw[hr',←List.map_set]at h12
    have knD:=Qa3r (b:=blk) (is:=blk.ins.set 0 { x with to:=bad }) (knI.stL 0 rfl h12) (Qwv hn0 (by rw[hx];rfl))
    refine hdone _ _ (k1+1+1+1+1) _ (OBlk.ins_ok (i:=0) (x':={ x with to:=bad }) hbok hic) (OBlk.ins_sm (i:=0) (x':={ x with to:=bad }) hbsm (by show x.a.ns.length≤_;omega)) (by omega) (by omega) ?_ (by simp[lk]) (by simp[lk])
    rw[Q13 hbi (by rw[hblk];rfl)]
    exact knD
   ·intro hc2
    refine Qi ?_
    exact hsame _ (by simp[lk]) (by simp[lk])
  intro hc3
  refine Qa ?_
  simp only[go_sem,reduceIte,reduceEqDiff,reduceAdd,reduceLeDiff,reduceLT,reduceCtorEq]
  refine Qd rfl ?_ ?_
  ·intro hc
   refine Qa ?_
   simp only[go_sem,hyb,hbl5,htk,hbi,hbr,hpcow,hicow,Qbv,List.drop_zero,Nat.zero_add,Nat.le_refl,hilen,hiok,reduceIte,reduceEqDiff,reduceAdd,reduceLeDiff,reduceLT,reduceCtorEq]
   intro _
   refine Qd rfl ?_ ?_
   ·intro hc2
    have hn0:0<blk.ins.length:=by simpa using hc2
    obtain⟨yi,hic,hil⟩:=OBlk.ivec hbok hn0
    rw[hic]at hbr
    have knI:=Qaeo kn hil
    have hyi:=knI.l 0 rfl
    obtain⟨x,hx⟩:∃x,blk.ins[0]=x:=⟨_,rfl⟩
    have hxr:(blk.ins.map OIns.row).getD 0 []=[.int .i64 x.op,.int .i64 x.to,.vsl x.a.y 1 0 x.a.ns.length,.int .i64 x.n]:=by rw[←hx];simp[List.getD_eq_getElem?_getD,hn0,OIns.row,OInts.c]
    have hil4:(blk.ins.map OIns.row).length=blk.ins.length:=by simp
    have htk4:List.take blk.ins.length (blk.ins.map OIns.row)=blk.ins.map OIns.row:=List.take_of_length_le (by simp)
    have hxa:x.a.ns.length≤1000:=hbsm.ia x (by rw[←hx];exact List.getElem_mem hn0)
    refine Qa9 ?_
    have knA:Kn H H9 [(R.l,R.o (k1+1+1+1+1))] ([(x.a.y,.vec 1 (Qf x.a.ns))]++([(yi,.vec 4 (blk.ins.map OIns.row))]++([(yb,.vec 5 (u.blocks.map OBlk.row))]++(blk.nx.lg++(blk.phis.flatMap OPhi.lg++(blk.pl++((blk.ins.eraseIdx 0).flatMap OIns.lg++(Q9f us ci bi hci++([(x2,Obj.st [.sl true 3 []]),(x3,.st [cc])]++cl))))))))):=knI.perm (Qr fun f hf h0 hc1 hp=>by
     have h1:=hp _ _ (Qgu OIns.lg blk.ins 0 hn0)
     rw[hx]at h1
     have h2:x.lg=[(x.a.y,.vec 1 (Qf x.a.ns))]:=rfl
     rw[h2]at h1
     simp only[hf]at h1⊢
     omega)
    have hxy:=knA.l 0 rfl
    have htk1:List.take x.a.ns.length (Qf x.a.ns)=Qf x.a.ns:=List.take_of_length_le (by simp[Qe])
    simp only[go_sem,hyb,hbl5,htk,hbi,hbr,hpcow,hicow,Qbv,List.drop_zero,Nat.zero_add,Nat.le_refl,hyi,hn0,hxr,hil4,htk4,hxy,Qe,htk1,reduceIte,reduceEqDiff,reduceAdd,reduceLeDiff,reduceLT,reduceCtorEq]
    refine⟨by omega,by simp only[LIM];omega,fun y' hy' H10 h10=>?_⟩
    have knA:=knA.ap 0 rfl hy' h10
    have hyi:=knA.l 1 rfl
    have hyb:=knA.l 2 rfl
    simp only[go_sem,Q6s,hyb,hbl5,htk,hbi,hbr,hpcow,hicow,Qbv,List.drop_zero,Nat.zero_add,Nat.le_refl,hyi,hn0,hxr,hil4,htk4,reduceIte,reduceEqDiff,reduceAdd,reduceLeDiff,reduceLT,reduceCtorEq]
    refine⟨by omega,fun H12 h12=>?_⟩
    obtain⟨x',hx'⟩:∃x':OIns,x'={ x with a:=⟨x.a.ns++[bad],y'⟩ }:=⟨_,rfl⟩
    have hr':[C.int IntKind.i64 x.op,C.int IntKind.i64 x.to,C.vsl y' 1 0 (x.a.ns.length+1),C.int IntKind.i64 x.n]=x'.row:=by rw[hx'];simp[OIns.row,OInts.c]
    have hl':x'.lg=[(y',.vec 1 (Qf x.a.ns++[[.int .i64 bad]]))]:=by rw[hx'];simp[OIns.lg,OInts.lg,Qf]
    rw[hr',←List.map_set]at h12
    have knA:=knA.stL 1 rfl h12
    refine hdone _ _ (k1+1+1+1+1) _ (OBlk.ins_ok (i:=0) (x':=x') hbok hic) (OBlk.ins_sm (i:=0) (x':=x') hbsm (by rw[hx'];simp;omega)) (by omega) (by omega) ?_ (by simp[lk]) (by simp[lk])
    rw[Q13 hbi (by rw[hblk];rfl)]
    refine knA.perm (Qr fun f hf h0 hc1 hp=>?_)
    have h1:=hp _ _ (Qeu OIns.lg blk.ins 0 x' hn0)
    rw[hl']at h1
    simp only[OBlk.lg,List.cons_append,List.nil_append,List.set_cons_zero,List.set_cons_succ,hf,hc1 _ (_::_),hc1 _ (_++_),hc1 _ (List.flatMap _ _)]at h1⊢
    omega
   ·intro hc2
    refine Qi ?_
    exact hsame _ (by simp[lk]) (by simp[lk])
  intro hc4
  refine Qa ?_
  simp only[go_sem,reduceIte,reduceEqDiff,reduceAdd,reduceLeDiff,reduceLT,reduceCtorEq]
  refine Qd rfl ?_ ?_
  ·intro hc
   refine Qq ?_
   simp only[go_sem,hyb,hbl5,htk,hbi,hbr,hpcow,hicow,Qbv,List.drop_zero,Nat.zero_add,Nat.le_refl,reduceIte,reduceEqDiff,reduceAdd,reduceLeDiff,reduceLT,reduceCtorEq]
   have knP:Kn H H9 [(R.l,R.o (k1+1+1+1+1))] (([(yb,.vec 5 (u.blocks.map OBlk.row))]++(blk.nx.lg++(blk.phis.flatMap OPhi.lg++(blk.ins.flatMap OIns.lg++(blk.il++(Q9f us ci bi hci++([(x2,Obj.st [.sl true 3 []]),(x3,.st [cc])]++cl)))))))++blk.pl):=kn.perm (Qr fun f hf h0 hc1 hp=>by
    simp only[OBlk.lg,hf]
    omega)
   obtain⟨ph,hph⟩:∃ph:OPhi,ph=⟨0,[bad],.sl true 1 (Qf [bad]),[]⟩:=⟨_,rfl⟩
   have hphr:[C.int IntKind.i64 0,C.sl true 1 [[C.int IntKind.i64 bad]]]=ph.row:=by rw[hph];rfl
   have hphok:ph.ok:=by rw[hph];exact .inr ⟨true,rfl,rfl⟩
   have hphl:ph.lg=[]:=by rw[hph]
   have hpl:=hbsm.p
   rw[hphr]
   refine knP.grow (new:=[ph.row]) hbok.p (.mk' _ _ _ _) (by intro r hr;simp only[List.mem_singleton]at hr;subst hr;exact ph.noOw hphok) (by simp only[List.length_map,List.length_cons,List.length_nil,LIM];omega) fun z H10 knP=>?_
   have hyb:=knP.l 0 rfl
   simp only[go_sem,Qy8,hyb,hbl5,htk,hbi,hbr,hpcow,hicow,Qbv,List.drop_zero,Nat.zero_add,Nat.le_refl,reduceIte,reduceEqDiff,reduceAdd,reduceLeDiff,reduceLT,reduceCtorEq]
   intro H11 h11
   obtain⟨b',hb'⟩:∃b':OBlk,b'={ blk with phis:=blk.phis++[ph],pc:=.vsl z 2 0 ((blk.phis.map OPhi.row).length+1),pl:=[(z,.vec 2 ((blk.phis++[ph]).map OPhi.row))] }:=⟨_,rfl⟩
   have hbr':[C.vsl z 2 0 ((blk.phis.map OPhi.row).length+1),blk.ic,C.int IntKind.i64 blk.jump,C.int IntKind.i64 blk.on,C.vsl blk.nx.y 1 0 blk.nx.ns.length]=b'.row:=by rw[hb'];rfl
   rw[hbr',hset]at h11
   have knP:=knP.stL 0 rfl h11
   have hbok':b'.ok:=by
    rw[hb']
    refine⟨.mk _ _ _ (by simp),hbok.i,fun p hp=>?_⟩
    rcases List.mem_append.1 hp with h|h
    ·exact hbok.a p h
    ·simp only[List.mem_singleton]at h;subst h;exact hphok
   have hbsm':b'.sm 1001:=by
    rw[hb']
    exact⟨hbsm.n,hbsm.i,by simp;omega,fun x hx=>by have:=hbsm.ia x hx;omega⟩
   refine hdone b' _ (k1+1+1+1+1) _ hbok' hbsm' (by omega) (by omega) ?_ (by simp[lk]) (by simp[lk])
   have hbl':b'.lg=blk.nx.lg++(blk.phis.flatMap OPhi.lg++([(z,.vec 2 ((blk.phis++[ph]).map OPhi.row))]++(blk.ins.flatMap OIns.lg++blk.il))):=by
    rw[hb'];simp[OBlk.lg,List.flatMap_append,hphl]
   rw[hbl']
   have hmm:blk.phis.map OPhi.row++[ph.row]=(blk.phis++[ph]).map OPhi.row:=by simp
   rw[hmm]at knP
   refine knP.perm (Qr fun f hf h0 hc1 hp=>?_)
   simp only[List.cons_append,List.nil_append,List.set_cons_zero,List.set_cons_succ,hf,hc1 _ (_::_),hc1 _ (_++_),hc1 _ (List.flatMap _ _)]
   omega
  intro hc5
  refine Qa ?_
  simp only[go_sem,reduceIte,reduceEqDiff,reduceAdd,reduceLeDiff,reduceLT,reduceCtorEq]
  refine Qd rfl ?_ ?_
  ·intro hc
   refine Qa9 ?_
   simp only[go_sem,hcow,hsok,hlen,hsz,hci,hrws,hrow,reduceIte,reduceEqDiff,reduceAdd,reduceLeDiff,reduceLT,reduceCtorEq]
   refine Qa5 (kn.e 0 rfl) (by omega) fun v H10 hv hu10=>?_
   have knO:=knO.callE 0 rfl hu10 (R.o_ne _)
   obtain⟨yc,hcc,hcl⟩:∃yc,cc=.vsl yc 3 0 us.length∧cl=[(yc,.vec 3 (us.map OCode.row))]:=by
    rcases hgr with ⟨h1,h2,h3⟩|⟨y,h1,h2⟩
    ·rw[List.map_eq_nil_iff]at h2;rw[h2]at hci;simp at hci
    ·exact⟨y,by rw[h1];simp,h2⟩
   have hyc:H10 yc=.vec 3 (us.map OCode.row):=knO.lm (by rw[hcl];simp)
   have hul3:(us.map OCode.row).length=us.length:=by simp
   have htk3:List.take us.length (us.map OCode.row)=us.map OCode.row:=List.take_of_length_le (by simp)
   have hbcow:=huok.b.isOw
   simp only[go_sem,Qy9,hcc,hyc,hul3,htk3,hci,hrow,Qbv,List.drop_zero,Nat.zero_add,Nat.le_refl,reduceIte,reduceEqDiff,reduceAdd,reduceLeDiff,reduceLT,reduceCtorEq]
   have hp0:=husm.p0
   have hp1:=husm.p1
   rw[if_neg (by omega)]at hv
   refine⟨Qo (by omega) (by omega),fun H11 h11=>?_⟩
   obtain⟨u',hu'⟩:∃u':OCode,u'={ u with regs:=u.params+v }:=⟨_,rfl⟩
   have hur:[C.int IntKind.i64 u.params,C.int IntKind.i64 (u.params+v),C.vsl yb 5 0 u.blocks.length]=u'.row:=by rw[hu',←hbc];rfl
   have hul':u'.lg=u.lg:=by rw[hu'];rfl
   have huok':u'.ok:=by rw[hu'];exact⟨huok.b,huok.bs⟩
   have husm':u'.sm 1000:=by rw[hu'];exact⟨husm.b0,husm.b,husm.bs,husm.p0,husm.p1⟩
   rw[hur,←List.map_set]at h11
   have knF:Kn H H10 [(R.l,R.o (k1+1+1+1+1+1))] ([(yc,.vec 3 (us.map OCode.row))]++([(x2,Obj.st [.sl true 3 []]),(x3,.st [cc])]++us.flatMap OCode.lg)):=by
    rw[hcl]at knO
    exact knO.perm List.perm_append_comm
   have knF:=knF.stL 0 rfl h11
   refine hn _ _ ⟨k1+1+1+1+1+1,us.set ci u',[(yc,.vec 3 ((us.set ci u').map OCode.row))],by simpa using hul,by omega,by omega,fun w hw=>?_,?_,?_,by simp[lk],by simp[lk]⟩
   ·rcases List.mem_or_eq_of_mem_set hw with hw|rfl
    ·exact⟨(hok w hw).1,(hok w hw).2.mono (by omega)⟩
    ·exact⟨huok',husm'.mono (by omega)⟩
   ·rw[hcc];exact .mk _ _ _ (by simp)
   ·refine knF.perm (Qr fun f hf h0 hc1 hp=>?_)
    have h1:=hp _ _ (Qeu OCode.lg us ci u' hci)
    have h2:=hp _ _ (Qgu OCode.lg us ci hci)
    rw[hul']at h1
    rw[hu]at h2
    simp only[List.cons_append,List.nil_append,List.set_cons_zero,hf,hc1 _ (_::_),hc1 _ (_++_),hc1 _ (List.flatMap _ _)]at h1 h2⊢
    omega
  intro hc6
  refine Qa ?_
  simp only[go_sem,reduceIte,reduceEqDiff,reduceAdd,reduceLeDiff,reduceLT,reduceCtorEq]
  refine Qd rfl ?_ ?_
  ·intro hc
   refine Qa ?_
   simp only[go_sem,hyb,hbl5,htk,hbi,hbr,hpcow,hicow,Qbv,List.drop_zero,Nat.zero_add,Nat.le_refl,hilen,hiok,reduceIte,reduceEqDiff,reduceAdd,reduceLeDiff,reduceLT,reduceCtorEq]
   intro _
   refine Qd rfl ?_ ?_
   ·intro hc2
    have hn0:0<blk.ins.length:=by simpa using hc2
    obtain⟨yi,hic,hil⟩:=OBlk.ivec hbok hn0
    rw[hic]at hbr
    have knI:=Qaeo kn hil
    have hyi:=knI.l 0 rfl
    obtain⟨x,hx⟩:∃x,blk.ins[0]=x:=⟨_,rfl⟩
    have hxr:(blk.ins.map OIns.row).getD 0 []=[.int .i64 x.op,.int .i64 x.to,.vsl x.a.y 1 0 x.a.ns.length,.int .i64 x.n]:=by rw[←hx];simp[List.getD_eq_getElem?_getD,hn0,OIns.row,OInts.c]
    have hil4:(blk.ins.map OIns.row).length=blk.ins.length:=by simp
    have htk4:List.take blk.ins.length (blk.ins.map OIns.row)=blk.ins.map OIns.row:=List.take_of_length_le (by simp)
    have hxa:x.a.ns.length≤1000:=hbsm.ia x (by rw[←hx];exact List.getElem_mem hn0)
    refine Qa9 ?_
    simp only[go_sem,hyb,hbl5,htk,hbi,hbr,hpcow,hicow,Qbv,List.drop_zero,Nat.zero_add,Nat.le_refl,hyi,hn0,hxr,hil4,htk4,reduceIte,reduceEqDiff,reduceAdd,reduceLeDiff,reduceLT,reduceCtorEq]
    refine Qg1 (ns:=[256,-1,1]) (knI.e 0 rfl) (by omega) (by simp) fun v H10 hv hu10=>?_
    have knI:=knI.callE 0 rfl hu10 (R.o_ne _)
    have hyi:=knI.l 0 rfl
    have hyb:=knI.l 1 rfl
    simp only[go_sem,Qza,hyb,hbl5,htk,hbi,hbr,hpcow,hicow,Qbv,List.drop_zero,Nat.zero_add,Nat.le_refl,hyi,hn0,hxr,hil4,htk4,reduceIte,reduceEqDiff,reduceAdd,reduceLeDiff,reduceLT,reduceCtorEq]
    refine⟨by omega,fun H12 h12=>?_⟩
    have hr':[C.int IntKind.i64 x.op,C.int IntKind.i64 x.to,C.vsl x.a.y 1 0 x.a.ns.length,C.int IntKind.i64 v]=({ x with n:=v }:OIns).row:=rfl
    rw[hr',←List.map_set]at h12
    have knD:=Qa3r (b:=blk) (is:=blk.ins.set 0 { x with n:=v }) (knI.stL 0 rfl h12) (Qwv hn0 (by rw[hx];rfl))
    refine hdone _ _ (k1+1+1+1+1+1) _ (OBlk.ins_ok (i:=0) (x':={ x with n:=v }) hbok hic) (OBlk.ins_sm (i:=0) (x':={ x with n:=v }) hbsm (by show x.a.ns.length≤_;omega)) (by omega) (by omega) ?_ (by simp[lk]) (by simp[lk])
    rw[Q13 hbi (by rw[hblk];rfl)]
    exact knD
   ·intro hc2
    refine Qi ?_
    exact hsame _ (by simp[lk]) (by simp[lk])
  ·intro hc
   refine Qi ?_
   exact hsame _ (by simp[lk]) (by simp[lk])
 ·rintro e2 H10 ⟨k3,us,cl,hul,hk3,hk4,hok,hgr,kn,l2,l3⟩
  have hx2:=kn.l 0 rfl
  have hx3:=kn.l 1 rfl
  refine Qa ?_
  simp only[go_sem,hx2,hx3,hcow,l2,l3,reduceIte,reduceEqDiff,reduceAdd,reduceLeDiff,reduceLT,reduceCtorEq]
  intro H8 h8
  have kn:=kn.stL 0 rfl h8
  have hx2:=kn.l 0 rfl
  refine Qk ?_
  simp only[go_sem,Q6,Qad,Qay4,reduceIte,List.mem_singleton,forall_eq,RS.op,hx2,hcow,reduceIte,reduceEqDiff,reduceAdd,reduceLeDiff,reduceLT,reduceCtorEq]
  have hheld:Held H8 (un H) (us.flatMap OCode.lg++cl):=fun p hp=>by
   have hp2:p∈(([(x2,Obj.st [cc]),(x3,Obj.st [cc])]++us.flatMap OCode.lg)++cl):=by
    rcases List.mem_append.1 hp with h|h
    ·simp[h]
    ·simp[h]
   exact⟨(kn.get p (List.mem_append_right _ hp2)).1,Qd0 (kn.loc p hp2)⟩
  obtain⟨cs,hf,hcn,hcs⟩:=OCodes.frz (N:=1001) (by omega) hgr hok hheld
  exact⟨_,FrzL.ag (.cons hf .nil),hK cs _ k3 hk3 (by omega) kn.fin (by omega) (by omega) hcs⟩
end Go.AE.Y

namespace Go.AE.Y
open Go.Proofs.Tryz
theorem Qaet {R : Rdr} {fl : Bool} {ss : List (List UInt8)} : ∀ (d : Nat) {k : Nat} {H : Heap} {K : V → Heap → Prop} (deep : Int), deep ≤ d → H R.l = R.o k → k + 6 * 2^d ≤ 2^40 →
    (∀ (x : Ex) (H' : Heap) (k' : Nat), k < k' → k' + 3 ≤ k + 6 * 2^d → Upd H H' [(R.l, R.o k')] → x.ok → k + x.size ≤ k' → K (.ag x.cells) H') →
    Qw prog Qea [.c (.ptr R.l 0), .c (.sl fl 1 (Qbe ss)), .c (.int .i64 deep)] H K := by
  intro d
  induction d using Nat.strongRecOn with
  | ind d ih =>
  intro k H K deep hd hH hk hK
  have hp1 : 1 ≤ 2^d := Nat.one_le_two_pow
  have hp0 : d < 2^d := Nat.lt_two_pow_self
  refine Qz ?_
  refine Qb Qat Qa9h ?_
  refine Qa ?_
  simp only [go_sem, reduceIte, reduceEqDiff, reduceAdd, reduceLeDiff, reduceLT, reduceCtorEq]
  intro x hx H1 h1
  have kn := (Kn.start1 hH (R.o_ne k)).al hx h1
  refine Q3 ?_
  refine Qa ?_
  simp only [go_sem, reduceIte, reduceEqDiff, reduceAdd, reduceLeDiff, reduceLT, reduceCtorEq]
  have rest : ∀ (b : Bool) (H2 : Heap) (k2 : Nat), k ≤ k2 → k2 ≤ k + 1 → Kn H H2 [(R.l, R.o k2)] [(x, .st [.int .i64 0, .int .i64 0, .str [], .sl true 4 []])] → (b = false → 2 ≤ deep) →
      Qac prog (s_l2Expr_2.seq Q4x) (Q6 Q17 fun x H' => ∃ x', FrzV H' (un H) x x' ∧ K x' (H'.frz (un H)))
       [(0, V.c (C.ptr R.l 0)), (1, V.c (C.sl fl 1 (Qbe ss))), (2, .c (.int .i64 deep)), (6, V.c (C.ptr x 0)), (14, V.c (.bool b))] H2 := by
    intro b H2 k2 hk1 hk2 kn hb
    have fin : ∀ (op n : Int) (name : List UInt8) (fl : Bool) (kids : List Ex) (H3 : Heap) (k3 : Nat) (o : Obj), k < k3 → k3 + 3 ≤ k + 6 * 2^d → Kn H H3 [(R.l, R.o k3)] [(x, .st [.int .i64 op, .int .i64 n, .str name, .sl fl 4 (Qbo kids)])] →
        (op = 10 → kids.length = 2) → Qda kids → k + 1 + Qaf kids ≤ k3 →
        Qad Q17 [(6, V.c (C.ptr x 0))] H3 fun x H' => ∃ x', FrzV H' (un H) x x' ∧ K x' (H'.frz (un H)) := by
      intro op n name fl kids H3 k3 o g1 g2 kn g3 g4 g5
      have hx3 := kn.l 0 rfl
      simp only [go_sem, Qad, Q17, reduceIte, List.mem_singleton, forall_eq, RS.op, hx3, reduceIte, reduceEqDiff, reduceAdd, reduceLeDiff, reduceLT, reduceCtorEq]
      refine ⟨_, (Ex.mk op n name kids).frz, hK _ _ k3 g1 g2 kn.fin ?_ ?_⟩
      · simp only [Ex.ok]; exact ⟨g3, g4⟩
      · simp only [Ex.size]; omega
    refine Qh (Qd rfl ?_ ?_)
    · intro hb'
      refine Qa ?_
      simp only [go_sem, reduceIte, reduceEqDiff, reduceAdd, reduceLeDiff, reduceLT, reduceCtorEq]
      refine Qa84 (kn.e 0 rfl) (by omega) fun y H3 k3 g1 g2 hu hok hsz => ?_
      have kn := kn.callE 0 rfl hu (R.o_ne _)
      have hx3 := kn.l 0 rfl
      simp only [go_sem, Q4y, hx3, y.cells_eq, reduceIte, reduceEqDiff, reduceAdd, reduceLeDiff, reduceLT, reduceCtorEq]
      intro H4 h4
      have kn := kn.stL 0 rfl h4
      refine Qk ?_
      simp only [go_sem, Q6]
      refine fin _ _ _ _ _ _ k3 .none (by omega) (by omega) kn (Ex.ok_and hok) (Ex.ok_kids hok) ?_
      have := y.size_kids; omega
    · intro hb'
      have hdp := hb hb'
      have hp : 2^d = 2 * 2^(d-1) := by rw [← Nat.pow_succ']; congr 1; omega
      have hp2 : 1 ≤ 2^(d-1) := Nat.one_le_two_pow
      have ihd := fun {k H K} => @ih (d-1) (by omega) k H K
      generalize 2^(d-1) = e at *
      refine Qi ?_
      simp only [go_sem]
      refine Q3 ?_
      refine Qa ?_
      simp only [go_sem, reduceIte, reduceEqDiff, reduceAdd, reduceLeDiff, reduceLT, reduceCtorEq]
      refine Qa5 (kn.e 0 rfl) (by omega) fun v H3 hv hu => ?_
      have kn := kn.callE 0 rfl hu (R.o_ne _)
      simp only [go_sem, Q4z, reduceIte, reduceEqDiff, reduceAdd, reduceLeDiff, reduceLT, reduceCtorEq]
      refine Qh (Qd rfl ?_ ?_)
      · intro hc
        refine Qa ?_
        simp only [go_sem, reduceIte, reduceEqDiff, reduceAdd, reduceLeDiff, reduceLT, reduceCtorEq]
        refine Qg1 (ns := [11, 12, 11]) (kn.e 0 rfl) (by omega) (by simp) fun op H4 hop hu => ?_
        have kn := kn.callE 0 rfl hu (R.o_ne _)
        simp only [go_sem, Q41, reduceIte, reduceEqDiff, reduceAdd, reduceLeDiff, reduceLT, reduceCtorEq]
        refine ⟨Qo (by omega) (by omega), ?_⟩
        refine ihd (deep - 1) (by omega) (kn.e 0 rfl) (by omega) fun y H5 k5 g1 g2 hu hok hsz => ?_
        have kn := kn.callE 0 rfl hu (R.o_ne _)
        have hx5 := kn.l 0 rfl
        simp only [go_sem, Q40, hx5, y.cells_len, reduceIte, reduceEqDiff, reduceAdd, reduceLeDiff, reduceLT, reduceCtorEq]
        intro H6 h6
        have kn := kn.stL 0 rfl h6
        refine Qk ?_
        simp only [go_sem, Q6]
        refine fin op 0 [] true [y] _ k5 .none (by omega) (by omega) kn (fun h => ?_) ⟨hok, trivial⟩ ?_
        · subst h; simp at hop
        · simp only [Qaf]; omega
      · intro hc
        refine Qi ?_
        simp only [go_sem]
        refine Qa ?_
        simp only [go_sem, reduceIte, reduceEqDiff, reduceAdd, reduceLeDiff, reduceLT, reduceCtorEq]
        refine Qg1 (ns := [3, 3, 4, 5, 6, 7, 8, 9, 10]) (kn.e 0 rfl) (by omega) (by simp) fun op H4 hop hu => ?_
        have kn := kn.callE 0 rfl hu (R.o_ne _)
        simp only [go_sem, Q42, reduceIte, reduceEqDiff, reduceAdd, reduceLeDiff, reduceLT, reduceCtorEq]
        refine Qa ?_
        simp only [go_sem, reduceIte, reduceEqDiff, reduceAdd, reduceLeDiff, reduceLT, reduceCtorEq]
        refine ⟨Qo (by omega) (by omega), ?_⟩
        refine ihd (deep - 1) (by omega) (kn.e 0 rfl) (by omega) fun y H5 k5 g1 g2 hu hok hsz => ?_
        have kn := kn.callE 0 rfl hu (R.o_ne _)
        simp only [go_sem, Q44, reduceIte, reduceEqDiff, reduceAdd, reduceLeDiff, reduceLT, reduceCtorEq]
        refine ⟨Qo (by omega) (by omega), ?_⟩
        refine ihd (deep - 1) (by omega) (kn.e 0 rfl) (by omega) fun z H6 k6 g3 g4 hu hok2 hsz2 => ?_
        have kn := kn.callE 0 rfl hu (R.o_ne _)
        have hx5 := kn.l 0 rfl
        simp only [go_sem, Q43, hx5, y.cells_len, z.cells_len, reduceIte, reduceEqDiff, reduceAdd, reduceLeDiff, reduceLT, reduceCtorEq]
        intro H7 h7
        have kn := kn.stL 0 rfl h7
        refine Qk ?_
        simp only [go_sem, Q6]
        refine fin op 0 [] true [y, z] _ k6 .none (by omega) (by omega) kn (fun h => rfl) ⟨hok, hok2, trivial⟩ ?_
        simp only [Qaf]; omega
  refine ⟨fun hb => ?_, fun hb => ?_⟩
  · refine Qa5 (kn.e 0 rfl) (by omega) fun v H2 hv hu => ?_
    have kn := kn.callE 0 rfl hu (R.o_ne _)
    simp only [go_sem, Qq0, reduceIte, reduceEqDiff, reduceAdd, reduceLeDiff, reduceLT, reduceCtorEq]
    refine rest _ H2 (k + 1) (by omega) (by omega) kn ?_
    intro h
    have : ¬ deep < 2 := by simpa using hb
    omega
  · have hb2 : decide (deep < 2) = true := by simpa using hb
    simp only [go_sem, Qq0, hb2, reduceIte, reduceEqDiff, reduceAdd, reduceLeDiff, reduceLT, reduceCtorEq]
    exact rest true H1 k (by omega) (by omega) kn (fun h => by simp at h)
end Go.AE.Y

namespace Go.AE.Y
open Go.Proofs.Tryz
theorem Qaeu {R:Rdr} {gl k:Nat} {s:GS} {H:Heap} {K:V→Heap→Prop} (hR:H R.l=R.o k) (hG:H gl=s.o R) (hne:R.l≠gl) (hs:s.ok k) (hk:k+2≤2^30)
  (hK:∀(name:List UInt8) (H':Heap) (k':Nat),k+1≤k'→k'≤k+2→Upd H H' [(R.l,R.o k'),(gl,GS.o { s with next:=s.next+1 } R)]→K (.c (.str name)) H') :
  Qw prog Qgx [.c (.ptr gl 0)] H K:=by
 have h0:=hs.n0
 have h1':=hs.n1
 refine Qz ?_
 refine Qb Qat Qae3 ?_
 refine Qa ?_
 simp only[go_sem,reduceIte,reduceEqDiff,reduceAdd,reduceLeDiff,reduceLT,reduceCtorEq]
 refine Qa ?_
 simp only[go_sem,hG,GS.o,reduceIte,reduceEqDiff,reduceAdd,reduceLeDiff,reduceLT,reduceCtorEq]
 refine⟨Qo (by omega) (by omega),fun H1 h1=>?_⟩
 have kn:Kn H H1 [(R.l,R.o k),(gl,GS.o { s with next:=s.next+1 } R)] []:=(Kn.start2 hR (R.o_ne k) hG (s.o_ne R) hne).stE 1 rfl h1
 have hG1:=kn.e 1 rfl
 refine Q3 ?_
 refine Qa ?_
 simp only[go_sem,hG1,GS.o,reduceIte,reduceEqDiff,reduceAdd,reduceLeDiff,reduceLT,reduceCtorEq]
 refine Qa5 (kn.e 0 rfl) (by omega) fun v H2 hv hu=>?_
 have kn:=kn.callE 0 rfl hu (R.o_ne _)
 have hG2:=kn.e 1 rfl
 simp only[go_sem,Qj0,hG2,GS.o,reduceIte,reduceEqDiff,reduceAdd,reduceLeDiff,reduceLT,reduceCtorEq]
 intro hl
 refine Qh (Qd rfl ?_ ?_)
 ·intro hc
  have hv0:0<s.vars.length:=by
   rw[Qaq]at hc
   cases h:decide (v=0) <;> rw[h]at hc <;> simp_all
  refine Qal ?_
  simp only[go_sem,hG2,GS.o,reduceIte,reduceEqDiff,reduceAdd,reduceLeDiff,reduceLT,reduceCtorEq]
  refine of_c (kn.e 0 rfl) (by omega) hv0 fun name H3 hn hu=>?_
  have kn:=kn.callE 0 rfl hu (R.o_ne _)
  simp only[go_sem,Qj1,reduceIte,reduceEqDiff,reduceAdd,reduceLeDiff,reduceLT,reduceCtorEq]
  refine Qk ?_
  simp only[go_sem,Q6,Qad,Qi8,reduceIte,List.mem_singleton,forall_eq,RS.op,reduceIte,reduceEqDiff,reduceAdd,reduceLeDiff,reduceLT,reduceCtorEq]
  exact⟨_,.c _ _ (Qg rfl),hK _ _ (k+1+1) (by omega) (by omega) kn.fin⟩
 ·intro hc
  refine Qi ?_
  simp only[go_sem]
  refine Qal ?_
  have e1:0≤(s.next+1).tmod 24:=Int.tmod_nonneg _ (by omega)
  have e2:(s.next+1).tmod 24<24:=Int.tmod_lt_of_pos _ (by omega)
  simp only[go_sem,hG2,GS.o,reduceIte,reduceEqDiff,reduceAdd,reduceLeDiff,reduceLT,reduceCtorEq]
  refine⟨by omega,by omega,Qo (by omega) (by omega),by omega,?_⟩
  refine Qk ?_
  simp only[go_sem,Q6,Qad,Qi8,reduceIte,List.mem_singleton,forall_eq,RS.op,reduceIte,reduceEqDiff,reduceAdd,reduceLeDiff,reduceLT,reduceCtorEq]
  exact⟨_,.c _ _ (Qg rfl),hK _ _ (k+1) (by omega) (by omega) kn.fin⟩
theorem Q28 {R:Rdr} {gl k:Nat} {s:GS} {x:Ex} {fl:Bool} {H:Heap} {K:V→Heap→Prop} (hR:H R.l=R.o k) (hG:H gl=s.o R) (hne:R.l≠gl) (hs:s.ok k) (hk:k+2≤2^30)
  (hK:∀(name:List UInt8) (H':Heap) (k':Nat),k+1≤k'→k'≤k+2→Upd H H' [(R.l,R.o k'),(gl,GS.o { s with next:=s.next+1,vars:=s.vars++[name],vfl:=false } R)]→K (.ag (St.mk 1 name [x] [] []).cells) H') :
  Qw prog Qf4 [.c (.ptr gl 0),.ag [.int .i64 x.op,.int .i64 x.n,.str x.name,.sl fl 4 (Qbo x.kids)]] H K:=by
 have hv:=hs.v
 refine Qd9 ?_
 refine Qb Qat Qaro ?_
 refine Qa ?_
 simp only[go_sem,x.cells_eq,reduceIte,reduceEqDiff,reduceAdd,reduceLeDiff,reduceLT,reduceCtorEq]
 intro y hy H1 h1
 have kn:=(Kn.start2 hR (R.o_ne k) hG (s.o_ne R) hne).al hy h1
 refine Qa ?_
 simp only[go_sem,reduceIte,reduceEqDiff,reduceAdd,reduceLeDiff,reduceLT,reduceCtorEq]
 refine Qaeu (kn.e 0 rfl) (kn.e 1 rfl) hne hs hk fun name H2 k' g1 g2 hu=>?_
 have kn:=kn.callEE 0 1 rfl rfl (by decide) hu (R.o_ne _) (GS.o_ne _ _)
 have hG2:=kn.e 1 rfl
 simp only[go_sem,Qpg,reduceIte,reduceEqDiff,reduceAdd,reduceLeDiff,reduceLT,reduceCtorEq]
 refine Qa ?_
 have hL:s.vars.length≤LIM:=by simp only[LIM];omega
 have hL1:s.vars.length+1≤LIM:=by simp only[LIM];omega
 simp only[go_sem,hG2,GS.o,Qaq,Qad8,Nat.zero_add,List.nil_append,hL,reduceIte,reduceEqDiff,reduceAdd,reduceLeDiff,reduceLT,reduceCtorEq]
 refine⟨.inl trivial,Qjj _,?_⟩
 intro z hz H3 h3
 have kn:=kn.al hz h3
 have hz3:=kn.l 1 rfl
 have hG3:=kn.e 1 rfl
 simp only[go_sem,Qpi,hz3,hG3,GS.o,Qaq,Qax8,hL1,List.take_length,List.take_of_length_le,reduceIte,reduceEqDiff,reduceAdd,reduceLeDiff,reduceLT,reduceCtorEq]
 refine⟨by omega,fun z' hz' H4 h4=>?_⟩
 have kn:=kn.ap 1 rfl hz' h4
 have hG4:=kn.e 1 rfl
 simp only[go_sem,Qph,hG4,GS.o,reduceIte,reduceEqDiff,reduceAdd,reduceLeDiff,reduceLT,reduceCtorEq]
 intro H5 h5
 have kn:=kn.stE 1 rfl h5
 have hy5:=kn.l 0 rfl
 refine Qa ?_
 simp only[go_sem,hy5,reduceIte,reduceEqDiff,reduceAdd,reduceLeDiff,reduceLT,reduceCtorEq]
 intro H6 h6
 have kn:=kn.stL 0 rfl h6
 have hy6:=kn.l 0 rfl
 refine Qk ?_
 simp only[go_sem,Q6,Qad,Q33,reduceIte,List.mem_singleton,forall_eq,RS.op,hy6,reduceIte,reduceEqDiff,reduceAdd,reduceLeDiff,reduceLT,reduceCtorEq]
 refine⟨un H,(.ag (St.mk 1 name [x] [] []).cells),(H6.frz (un H)).set gl (GS.o { s with next:=s.next+1,vars:=s.vars++[name],vfl:=false } R),?_,?_,hK name _ k' g1 g2 (kn.fin.set2 hne)⟩
 ·simp only[St.cells,Qbo,Qaz,x.cells_eq]
  exact (FrzL.cons (Qg rfl) (.cons (Qg rfl) (.cons (FrzR.cons (.cons (Qg rfl) (.cons (Qg rfl) (.cons (Qg rfl) (.cons (FrzR.same (Qhe _)).sl .nil)))) .nil).sl (.cons (FrzR.nil).sl (.cons (FrzR.nil).sl .nil))))).ag
 ·refine (Qew _ _).set (Qaya (kn.usedE 1 rfl)) ?_
  rw[kn.e 1 rfl]
  refine FrzKL.st (.same (.same (.cons rfl ?_ (.same (.same .nil)))))
  exact Qaen (kn.un 1 rfl) (kn.l 1 rfl) (by simp[Qbe]) (noOw_mem (Qjj _))
end Go.AE.Y

namespace Go.AE.Y
open Go.Proofs.Tryz
theorem Qb0 {R : Rdr} {gl k : Nat} {s : GS} {H : Heap} {K : V → Heap → Prop} (deep : Int) (hd : deep ≤ 3) (hR : H R.l = R.o k) (hG : H gl = s.o R) (hne : R.l ≠ gl) (hs : s.ok k) (hF : FnsOk H R gl s) (hk : k + 200 ≤ 2^30)
    (hK : ∀ (x : Ex) (H' : Heap) (k' : Nat), k < k' → k' ≤ k + 200 → Upd H H' [(R.l, R.o k')] → x.ok → k + x.size ≤ k' → K (.ag x.cells) H') :
    Qw prog Qa7 [.c (.ptr gl 0), .c (.int .i64 deep)] H K := by
  have hfl := hs.fn
  refine Qz ?_
  refine Qb Qat Qaji ?_
  refine Qa ?_
  simp only [go_sem, reduceIte, reduceEqDiff, reduceAdd, reduceLeDiff, reduceLT, reduceCtorEq]
  intro x4 hx4 H1 h1
  have kn := (Kn.start2 hR (R.o_ne k) hG (s.o_ne R) hne).al hx4 h1
  have hG1 := kn.e 1 rfl
  refine Qal ?_
  simp only [go_sem, hG1, GS.o, reduceIte, reduceEqDiff, reduceAdd, reduceLeDiff, reduceLT, reduceCtorEq]
  refine Qaet 3 deep (by omega) (kn.e 0 rfl) (by omega) fun e H2 k2 g1 g2 hu heok hesz => ?_
  have kn := kn.callE 0 rfl hu (R.o_ne _)
  have hG2 := kn.e 1 rfl
  simp only [go_sem, Ql2, reduceIte, reduceEqDiff, reduceAdd, reduceLeDiff, reduceLT, reduceCtorEq]
  intro x5 hx5 H3 h3
  have kn := kn.al hx5 h3
  have hG3 := kn.e 1 rfl
  have hx53 := kn.l 1 rfl
  simp only [go_sem, Ql1, hG3, hx53, GS.o, e.cells_len, e.cells_eq, reduceIte, reduceEqDiff, reduceAdd, reduceLeDiff, reduceLT, reduceCtorEq]
  intro H4 h4
  have kn := kn.stL 1 rfl h4
  have hG4 := kn.e 1 rfl
  refine Q3 ?_
  refine Qa ?_
  simp only [go_sem, hG4, GS.o, hF.ow, hF.ok kn, hF.len, reduceIte, reduceEqDiff, reduceAdd, reduceLeDiff, reduceLT, reduceCtorEq]
  intro hl
  have fin : ∀ (op n : Int) (name : List UInt8) (c : C) (kids : List Ex) (H3 : Heap) (k3 : Nat) (L : List (Nat × Obj)), k < k3 → k3 ≤ k + 200 → Kn H H3 [(R.l, R.o k3), (gl, s.o R)] L →
      L[0]? = some (x4, .st [.int .i64 op, .int .i64 n, .str name, c]) → c.isOw = false → FrzC H3 (un H) c (.sl false 4 (Qbo kids)) → (Ex.mk op n name kids).ok → k + (Ex.mk op n name kids).size ≤ k3 →
      Qad Qgd [(4, V.c (C.ptr x4 0))] H3 fun x H' => ∃ x', FrzV H' (un H) x x' ∧ K x' (H'.frz (un H)) := by
    intro op n name c kids H3 k3 L g1 g2 kn g3 hno g4 g5 g6
    have hx3 := kn.l 0 g3
    simp only [go_sem, Qad, Qgd, reduceIte, List.mem_singleton, forall_eq, RS.op, hx3, hno, reduceIte, reduceEqDiff, reduceAdd, reduceLeDiff, reduceLT, reduceCtorEq]
    refine ⟨(.ag (Ex.mk op n name kids).cells), ?_, hK _ _ k3 g1 g2 (kn.fin.drop2 hG) g5 g6⟩
    rw [Ex.cells_eq]
    exact (FrzL.cons (Qg rfl) (.cons (Qg rfl) (.cons (Qg rfl) (.cons g4 .nil)))).ag
  have rest : ∀ (b : Bool) (H2 : Heap) (k3 : Nat), k2 ≤ k3 → k3 ≤ k2 + 1 → Kn H H2 [(R.l, R.o k3), (gl, s.o R)] [(x4, .st [.int .i64 0, .int .i64 0, .str [], .sl true 4 []]), (x5, .st [.int .i64 e.op, .int .i64 e.n, .str e.name, .sl false 4 (Qbo e.kids)])] →
      (b = false → 0 < s.fns.length) →
      Qac prog (s_l3Gen_expr_3.seq Ql0) (Q6 Qgd fun x H' => ∃ x', FrzV H' (un H) x x' ∧ K x' (H'.frz (un H)))
       [(0, V.c (C.ptr gl 0)), (4, V.c (C.ptr x4 0)), (5, V.c (C.ptr x5 0)), (32, .c (.bool b))] H2 := by
    intro b H2 k3 g3 g4 kn hb
    have hx52 := kn.l 1 rfl
    have hx42 := kn.l 0 rfl
    refine Qh (Qd rfl ?_ ?_)
    · intro hb'
      refine Qa ?_
      simp only [go_sem, hx52, hx42, reduceIte, reduceEqDiff, reduceAdd, reduceLeDiff, reduceLT, reduceCtorEq]
      intro H3 h3
      have kn := kn.stL 0 rfl h3
      refine Qk ?_
      simp only [go_sem, Q6]
      cases e with
      | mk op n name kids => exact fin op n name _ kids H3 k3 _ (by omega) (by omega) kn rfl rfl (Qaem (noOw_mem (Qhe _))) heok (by omega)
    · intro hb'
      have hfn := hb hb'
      refine Qi ?_
      simp only [go_sem]
      have hG3 := kn.e 1 rfl
      refine Qal ?_
      simp only [go_sem, hG3, GS.o, hF.ow, hF.ok kn, hF.len, reduceIte, reduceEqDiff, reduceAdd, reduceLeDiff, reduceLT, reduceCtorEq]
      refine Qa5 (kn.e 0 rfl) (by omega) fun v H3 hv hu => ?_
      have kn := kn.callE 0 rfl hu (R.o_ne _)
      rw [if_neg (by omega)] at hv
      obtain ⟨i, rfl⟩ := Int.eq_ofNat_of_zero_le hv.1
      have hi : i < s.fns.length := by omega
      have hG4 := kn.e 1 rfl
      simp only [go_sem, Ql4, hG4, GS.o, hF.ow, hF.ok kn, hF.len, hF.rows kn, hF.esz, hi, Qe1 _ _ hi, Fn.cells, reduceIte, reduceEqDiff, reduceAdd, reduceLeDiff, reduceLT, reduceCtorEq]
      intro x6 hx6 H4 h4
      have kn := kn.al hx6 h4
      have hG5 := kn.e 1 rfl
      have hx64 := kn.l 2 rfl
      simp only [go_sem, Ql3, hG5, hx64, GS.o, hF.ow, hF.ok kn, hF.len, hF.rows kn, hF.esz, hi, Qe1 _ _ hi, Fn.cells, reduceIte, reduceEqDiff, reduceAdd, reduceLeDiff, reduceLT, reduceCtorEq]
      have hpar := hs.f _ (List.getElem_mem hi)
      generalize s.fns[i] = f at *
      intro H5 h5
      have kn := kn.stL 2 rfl h5
      have hx65 := kn.l 2 rfl
      refine Qa ?_
      simp only [go_sem, hx65, reduceIte, reduceEqDiff, reduceAdd, reduceLeDiff, reduceLT, reduceCtorEq]
      intro x7 hx7 H6 h6
      have kn := kn.al hx7 h6
      have hx67 := kn.l 2 rfl
      have hx77 := kn.l 3 rfl
      simp only [go_sem, Ql5, hx67, hx77, reduceIte, reduceEqDiff, reduceAdd, reduceLeDiff, reduceLT, reduceCtorEq]
      intro H7 h7
      have kn := kn.stL 3 rfl h7
      refine Q3 ?_
      refine Qa ?_
      simp only [go_sem, reduceIte, reduceEqDiff, reduceAdd, reduceLeDiff, reduceLT, reduceCtorEq]
      refine Qh (Qc (Qu (fun n e1 H1 => ∃ (i k4 : Nat) (kids : List Ex) (c : C) (Lg : List (Nat × Obj)), n = f.params.length - i ∧ i ≤ f.params.length ∧ k4 ≤ k3 + 1 + 21 * i ∧ k3 + 1 + Qaf kids ≤ k4 ∧ Qda kids ∧ kids.length = i ∧
        Gr Lg 4 (Qbo kids) c ∧ Kn H H1 [(R.l, R.o k4), (gl, s.o R)] ([(x4, .st [.int .i64 0, .int .i64 0, .str [], .sl true 4 []]), (x5, .st [.int .i64 e.op, .int .i64 e.n, .str e.name, .sl false 4 (Qbo e.kids)]),
          (x6, .st [.str f.name, .sl false 1 (Qbe f.params), .sl false 5 (Qaz f.body)]), (x7, .st [.int .i64 13, .int .i64 0, .str f.name, c])] ++ Lg) ∧
        e1 = [(0, V.c (C.ptr gl 0)), (4, V.c (C.ptr x4 0)), (6, V.c (C.ptr x6 0)), (7, V.c (C.ptr x7 0)), (8, V.c (C.int IntKind.i64 i))]) f.params.length ?_ ?_))
      · exact ⟨0, k3 + 1, [], _, [], by omega, by omega, by omega, by simp [Qaf], trivial, rfl, .nil 4, kn, rfl⟩
      · rintro n e1 H1 ⟨i, k4, kids, c, Lg, hn, hi1, hk4, hksz, hkok, hkl, hgr, kn, rfl⟩
        have hx61 := kn.l 2 rfl
        have hx71 := kn.l 3 rfl
        have hG1 := kn.e 1 rfl
        refine Q3 ?_
        refine Qa ?_
        simp only [go_sem, hx61, Qaq, reduceIte, reduceEqDiff, reduceAdd, reduceLeDiff, reduceLT, reduceCtorEq]
        intro hpl
        refine Qh (Qd rfl ?_ ?_)
        · intro hc
          have hlt : i < f.params.length := by simpa using hc
          refine Qi ?_
          simp only [go_sem]
          refine Qh (Qc (Qa9 ?_))
          have hcow := hgr.isOw
          simp only [go_sem, hx71, hG1, GS.o, hcow, reduceIte, reduceEqDiff, reduceAdd, reduceLeDiff, reduceLT, reduceCtorEq]
          refine Qaet 2 2 (by omega) (kn.e 0 rfl) (by omega) fun z H2 k5 g5 g6 hu hok hsz => ?_
          have kn := kn.callE 0 rfl hu (R.o_ne _)
          have hx72 := kn.l 3 rfl
          simp only [go_sem, Ql7, hx72, hcow, z.cells_len, reduceIte, reduceEqDiff, reduceAdd, reduceLeDiff, reduceLT, reduceCtorEq]
          refine kn.grow (new := [z.cells]) hgr (.mk' _ _ _ _) (by simp [z.noOw]) (by simp only [Qa2, List.length_cons, List.length_nil, LIM]; omega) fun y' H3 kn => ?_
          have hx73 := kn.l 3 rfl
          simp only [go_sem, Ql6, hx73, reduceIte, reduceEqDiff, reduceAdd, reduceLeDiff, reduceLT, reduceCtorEq]
          intro H4 h4
          have kn := kn.stL 3 rfl h4
          refine Qq ?_
          simp only [go_sem, reduceIte, reduceEqDiff, reduceAdd, reduceLeDiff, reduceLT, reduceCtorEq]
          refine ⟨Qo (by omega) (by omega), ?_⟩
          refine ⟨f.params.length - (i + 1), by omega, i + 1, k5, kids ++ [z], _, _, rfl, by omega, by omega, ?_, Qa3k hkok ⟨hok, trivial⟩, by simp [hkl], ?_, kn, ?_⟩
          · simp only [Qpx, Qaf]; omega
          · rw [← Qazv]; exact .mk _ _ _ (by simp)
          · simp
        · intro hc
          have hge : f.params.length ≤ i := by simpa using hc
          refine Qt ?_
          simp only [go_sem, X.next]
          refine Q3 ?_
          refine Qa ?_
          simp only [go_sem, hG1, GS.o, reduceIte, reduceEqDiff, reduceAdd, reduceLeDiff, reduceLT, reduceCtorEq]
          refine Qa5 (kn.e 0 rfl) (by omega) fun v H2 hv hu => ?_
          have kn := kn.callE 0 rfl hu (R.o_ne _)
          have hx72 := kn.l 3 rfl
          have hx42 := kn.l 0 rfl
          have hcow := hgr.isOw
          have hG2 := kn.e 1 rfl
          simp only [go_sem, Qjx, reduceIte, reduceEqDiff, reduceAdd, reduceLeDiff, reduceLT, reduceCtorEq]
          refine Qh (Qd rfl ?_ ?_)
          · intro hc
            refine Qa ?_
            simp only [go_sem, hx72, hx42, hcow, reduceIte, reduceEqDiff, reduceAdd, reduceLeDiff, reduceLT, reduceCtorEq]
            intro H3 h3
            have kn := kn.stL 0 rfl h3
            refine Qk ?_
            simp only [go_sem, Q6]
            refine fin 13 0 f.name c kids H3 (k4 + 1) _ (by omega) (by omega) kn rfl hcow (hgr.frz (B := [_, _, _, _]) kn (Qhe _)) ?_ ?_
            · simp only [Ex.ok]; exact ⟨fun h => by simp at h, hkok⟩
            · simp only [Ex.size]; omega
          · intro hc
            refine Qi ?_
            simp only [go_sem]
            refine Qal ?_
            simp only [go_sem, hx72, hG2, hcow, GS.o, reduceIte, reduceEqDiff, reduceAdd, reduceLeDiff, reduceLT, reduceCtorEq]
            refine Qg1 (ns := [3, 4, 8, 10]) (kn.e 0 rfl) (by omega) (by simp) fun op H3 hop hu => ?_
            have kn := kn.callE 0 rfl hu (R.o_ne _)
            have hx73 := kn.l 3 rfl
            have hG3 := kn.e 1 rfl
            simp only [go_sem, Qjz, hx73, hG3, hcow, GS.o, reduceIte, reduceEqDiff, reduceAdd, reduceLeDiff, reduceLT, reduceCtorEq]
            refine Qaet 2 2 (by omega) (kn.e 0 rfl) (by omega) fun z H4 k5 g5 g6 hu hok hsz => ?_
            have kn := kn.callE 0 rfl hu (R.o_ne _)
            have hx74 := kn.l 3 rfl
            have hx44 := kn.l 0 rfl
            simp only [go_sem, Qjy, hx74, hx44, hcow, z.cells_len, reduceIte, reduceEqDiff, reduceAdd, reduceLeDiff, reduceLT, reduceCtorEq]
            intro H5 h5
            have kn := kn.stL 0 rfl h5
            refine Qk ?_
            simp only [go_sem, Q6]
            refine fin op 0 [] _ [Ex.mk 13 0 f.name kids, z] H5 k5 _ (by omega) (by omega) kn rfl rfl ?_ ?_ ?_
            · refine FrzR.sl (.cons ?_ (.cons (.same z.noOw) .nil))
              rw [Ex.cells_eq]
              exact .cons (Qg rfl) (.cons (Qg rfl) (.cons (Qg rfl) (.cons (hgr.frz (B := [_, _, _, _]) kn (Qhe _)) .nil)))
            · simp only [Ex.ok, Qda]; exact ⟨fun h => rfl, ⟨fun h => by simp at h, hkok⟩, hok, trivial⟩
            · simp only [Ex.size, Qaf]; omega
  refine ⟨fun hb => ?_, fun hb => ?_⟩
  · refine Qa5 (kn.e 0 rfl) (by omega) fun v H5 hv hu => ?_
    have kn := kn.callE 0 rfl hu (R.o_ne _)
    simp only [go_sem, Qfu, reduceIte, reduceEqDiff, reduceAdd, reduceLeDiff, reduceLT, reduceCtorEq]
    refine rest _ H5 (k2 + 1) (by omega) (by omega) kn ?_
    intro h
    have : ¬ s.fns.length = 0 := by simpa using hb
    omega
  · have hb2 : decide ((s.fns.length : Int) = 0) = true := by simpa using hb
    simp only [go_sem, Qfu, hb2, reduceIte, reduceEqDiff, reduceAdd, reduceLeDiff, reduceLT, reduceCtorEq]
    exact rest true H4 k2 (by omega) (by omega) kn (fun h => by simp at h)
end Go.AE.Y

namespace Go.AE.Y
open Go.Proofs.Tryz
theorem Qww {R:Rdr} {gl k:Nat} {s:GS} {H:Heap} {K:V→Heap→Prop} (hR:H R.l=R.o k) (hG:H gl=s.o R) (hne:R.l≠gl) (hs:s.ok k) (hF:FnsOk H R gl s) (hk:k+201≤2^30)
  (hK:∀(x:Ex) (H':Heap) (k':Nat),k<k'→k'≤k+201→Upd H H' [(R.l,R.o k')]→x.ok→2 * k+x.size≤2 * k'→K (.ag x.cells) H') :
  Qw prog Qev [.c (.ptr gl 0)] H K:=by
 refine Qz ?_
 refine Qb Qat Qajh ?_
 refine Qa ?_
 simp only[go_sem,reduceIte,reduceEqDiff,reduceAdd,reduceLeDiff,reduceLT,reduceCtorEq]
 intro x2 hx2 H1 h1
 have kn:=(Kn.start2 hR (R.o_ne k) hG (s.o_ne R) hne).al hx2 h1
 have hG1:=kn.e 1 rfl
 refine Qal ?_
 simp only[go_sem,hG1,GS.o,reduceIte,reduceEqDiff,reduceAdd,reduceLeDiff,reduceLT,reduceCtorEq]
 refine Qb0 2 (by omega) (kn.e 0 rfl) (kn.e 1 rfl) hne hs (hF.keep kn rfl rfl) (by omega) fun e H2 k2 g1 g2 hu heok hesz=>?_
 have kn:=kn.callE 0 rfl hu (R.o_ne _)
 have hG2:=kn.e 1 rfl
 simp only[go_sem,Qlz,hG2,GS.o,reduceIte,reduceEqDiff,reduceAdd,reduceLeDiff,reduceLT,reduceCtorEq]
 refine Qg1 (ns:=[16,16,16,8,17,0]) (kn.e 0 rfl) (by omega) (by simp) fun v H3 hv hu=>?_
 have kn:=kn.callE 0 rfl hu (R.o_ne _)
 have hx23:=kn.l 0 rfl
 simp only[go_sem,Qly,hx23,e.cells_len,reduceIte,reduceEqDiff,reduceAdd,reduceLeDiff,reduceLT,reduceCtorEq]
 intro H4 h4
 have kn:=kn.stL 0 rfl h4
 have hx24:=kn.l 0 rfl
 refine Qk ?_
 simp only[go_sem,Q6,Qad,Qwz,reduceIte,List.mem_singleton,forall_eq,RS.op,hx24,reduceIte,reduceEqDiff,reduceAdd,reduceLeDiff,reduceLT,reduceCtorEq]
 refine⟨(.ag (Ex.mk 7 0 [] [e,Ex.mk 1 v [] []]).cells),?_,hK _ _ (k2+1) (by omega) (by omega) (kn.fin.drop2 hG) ?_ ?_⟩
 ·rw[Ex.cells_eq (Ex.mk 7 0 [] _)]
  refine FrzL.ag ?_
  refine .cons (Qg rfl) (.cons (Qg rfl) (.cons (Qg rfl) (.cons (FrzR.sl (.cons (.same e.noOw) (.cons ?_ .nil))) .nil)))
  simp only[Ex.cells,Qbo]
  exact .cons (Qg rfl) (.cons (Qg rfl) (.cons (Qg rfl) (.cons (FrzR.nil).sl .nil)))
 ·simp only[Ex.ok,Qda];exact⟨fun h=>rfl,heok,⟨fun h=>by simp at h,trivial⟩,trivial⟩
 ·simp only[Ex.size,Qaf];omega
def Qbbw (d:Nat):Prop:=∀(R:Rdr) (gl k:Nat) (s:GS) (H:Heap) (K:V→Heap→Prop) (deep:Int),deep≤d→H R.l=R.o k→H gl=s.o R→R.l≠gl→s.ok k→FnsOk H R gl s→k+500 * 10^d≤2^30→
  (∀(l:List St) (s':GS) (H':Heap) (k':Nat),k<k'→k'≤k+500 * 10^d→Upd H H' [(R.l,R.o k'),(gl,s'.o R)]→s'.ok k'→s.left+4 * (k:Int)≤s'.left+4 * (k':Int)→s'.fns=s.fns→s'.ffl=s.ffl→l.length≤2→Qcl l→4 * k+Qy l≤4 * k'→K (.c (.sl false 5 (Qaz l))) H')→
  Qw prog Qi1 [.c (.ptr gl 0),.c (.int .i64 deep)] H K
def Q2c (d:Nat):Prop:=∀(R:Rdr) (gl k:Nat) (s:GS) (H:Heap) (K:V→Heap→Prop) (deep:Int),deep≤d→H R.l=R.o k→H gl=s.o R→R.l≠gl→s.ok k→FnsOk H R gl s→k+2001 * 10^d≤2^30→
  (∀(l:List St) (c:C) (Lg:List (Nat×Obj)) (s':GS) (H':Heap) (k':Nat),k<k'→k'≤k+2001 * 10^d→Upd H H' [(R.l,R.o k'),(gl,s'.o R)]→Gr Lg 5 (Qaz l) c→New H H' Lg→s'.ok k'→s.left+4 * (k:Int)≤s'.left+4 * (k':Int)→s'.fns=s.fns→s'.ffl=s.ffl→
   l.length≤8→Qcl l→4 * k+Qy l≤4 * k'→K (.c c) H')→
  Qw prog Qb4 [.c (.ptr gl 0),.c (.int .i64 deep)] H K
theorem Qayf {d:Nat} (hS:Qbbw d):Q2c d:=by
 intro R gl k s H K deep hd hR hG hne hs hF hk hK
 have hp0:d<10^d:=Nat.lt_pow_self (by omega)
 generalize hpe:10^d=e at *
 have hS':=hS
 simp only[Qbbw]at hS'
 rw[hpe]at hS'
 generalize hM:500 * e=M at *
 refine Qd9 ?_
 refine Qb Qat Qae2 ?_
 refine Qa ?_
 simp only[go_sem,reduceIte,reduceEqDiff,reduceAdd,reduceLeDiff,reduceLT,reduceCtorEq]
 refine Qa ?_
 simp only[go_sem,hG,GS.o,reduceIte,reduceEqDiff,reduceAdd,reduceLeDiff,reduceLT,reduceCtorEq]
 refine Qa ?_
 simp only[go_sem,reduceIte,reduceEqDiff,reduceAdd,reduceLeDiff,reduceLT,reduceCtorEq]
 refine Q3 ?_
 refine Qa ?_
 simp only[go_sem,hG,GS.o,reduceIte,reduceEqDiff,reduceAdd,reduceLeDiff,reduceLT,reduceCtorEq]
 have kn:=Kn.start2 hR (R.o_ne k) hG (s.o_ne R) hne
 refine Qg1 (ns:=[2,3,1,4]) hR (by omega) (by simp) fun v H1 hv hu=>?_
 have kn:=kn.callE 0 rfl hu (R.o_ne _)
 simp only[go_sem,Qju,reduceIte,reduceEqDiff,reduceAdd,reduceLeDiff,reduceLT,reduceCtorEq]
 have hv4:1≤v∧v≤4:=by simp at hv;omega
 refine Qh (Qc (Qu (fun n e1 H1=>∃(j k4:Nat) (l:List St) (c:C) (Lg:List (Nat×Obj)) (s':GS),n=v.toNat-j∧(j:Int)≤v∧k+1≤k4∧k4≤k+1+M * j∧4 * k+Qy l≤4 * k4∧Qcl l∧l.length≤2 * j∧
    Gr Lg 5 (Qaz l) c∧s'.ok k4∧s.left+4 * (k:Int)≤s'.left+4 * (k4:Int)∧s'.fns=s.fns∧s'.ffl=s.ffl∧Kn H H1 [(R.l,R.o k4),(gl,s'.o R)] ([]++Lg)∧
    e1=[(0,V.c (C.ptr gl 0)),(1,.c (.int .i64 deep)),(5,.c (.sl s.vfl 1 (Qbe s.vars))),(6,.c c),(7,V.c (C.int IntKind.i64 (v-j)))]) v.toNat ?_ ?_))
 ·exact⟨0,k+1,[],_,[],s,by omega,by omega,by omega,by omega,by simp only[Qy];omega,trivial,by simp,.nil 5,hs.mono (by omega),by omega,rfl,rfl,kn,by simp⟩
 ·rintro n e1 H1 ⟨j,k4,l,c,Lg,s',hn,hj,hk4,hk4',hsz,hok,hll,hgr,hs',hlf,hf1,hf2,kn,rfl⟩
  have hG1:=kn.e 1 rfl
  have hMj:M * j≤M * 4:=Nat.mul_le_mul_left _ (by omega)
  refine Q3 ?_
  refine Qa ?_
  simp only[go_sem,hG1,GS.o,reduceIte,reduceEqDiff,reduceAdd,reduceLeDiff,reduceLT,reduceCtorEq]
  refine Qh (Qd rfl ?_ ?_)
  ·intro hc
   have hi:(j:Int)<v:=by
    cases h:decide (0<v-(j:Int))with
    |true=>have:0<v-(j:Int):=by simpa using h
           omega
    |false=>rw[h]at hc;simp at hc
   have hM1:M * (j+1)=M * j+M:=Nat.mul_succ _ _
   have hM2:M * (j+1)≤M * 4:=Nat.mul_le_mul_left _ (by omega)
   refine Qi ?_
   simp only[go_sem]
   refine Qh (Qc (Qq ?_))
   simp only[go_sem,reduceIte,reduceEqDiff,reduceAdd,reduceLeDiff,reduceLT,reduceCtorEq]
   refine hS' _ _ _ _ _ _ deep hd (kn.e 0 rfl) (kn.e 1 rfl) hne hs' (hF.keep kn hf1 hf2) (by omega) fun l2 s2 H2 k5 g1 g2 hu g3 glf g4 g5 g6 g7 g8=>?_
   have kn:=kn.callEE 0 1 rfl rfl (by decide) hu (R.o_ne _) (GS.o_ne _ _)
   simp only[go_sem,Qjw,reduceIte,reduceEqDiff,reduceAdd,reduceLeDiff,reduceLT,reduceCtorEq]
   refine kn.grow hgr (.mk' _ _ _ (Qaz l2)) (Qe4 _) (by simp only[Qa6,LIM];omega) fun y' H3 kn=>?_
   simp only[go_sem,Qjv,reduceIte,reduceEqDiff,reduceAdd,reduceLeDiff,reduceLT,reduceCtorEq]
   refine Qq ?_
   simp only[go_sem,reduceIte,reduceEqDiff,reduceAdd,reduceLeDiff,reduceLT,reduceCtorEq]
   refine⟨Qo (by omega) (by omega),?_⟩
   simp only[X.next]
   refine⟨v.toNat-(j+1),by omega,j+1,k5,l++l2,.vsl y' 5 0 ((Qaz l).length+(Qaz l2).length),_,s2,rfl,by omega,by omega,by omega,?_,Q9b hok g7,by simp;omega,?_,g3,by omega,g4.trans hf1,g5.trans hf2,kn,?_⟩
   ·rw[Qfx];omega
   ·rw[Q9a];exact .mk _ _ _ (by simp[Qa6])
   ·have:v-((j+1:Nat):Int)=v-j-1:=by omega
    rw[this]
  ·intro hc
   refine Qt ?_
   simp only[go_sem,X.next]
   refine Qa ?_
   simp only[go_sem,hG1,GS.o,reduceIte,reduceEqDiff,reduceAdd,reduceLeDiff,reduceLT,reduceCtorEq]
   intro H2 h2
   have kn:Kn H H2 [(R.l,R.o k4),(gl,GS.o { s' with vars:=s.vars,vfl:=s.vfl } R)] ([]++Lg):=kn.stE 1 rfl h2
   refine Qa ?_
   simp only[go_sem,reduceIte,reduceEqDiff,reduceAdd,reduceLeDiff,reduceLT,reduceCtorEq]
   refine Qk ?_
   simp only[go_sem,Q6,Qad,Qr7,reduceIte,List.mem_singleton,forall_eq,RS.op,reduceIte,reduceEqDiff,reduceAdd,reduceLeDiff,reduceLT,reduceCtorEq]
   refine⟨unx H Lg,_,H2.frz (unx H Lg),.c _ _ (.same _ hgr.isOw),Qew _ _,?_⟩
   refine hK l c Lg _ _ k4 (by omega) (by omega) kn.finx.1 hgr kn.finx.2 ⟨hs'.n0,hs'.n1,hs'.l0,hs'.l1,?_,hs'.f,hs'.fn⟩ (by show _≤s'.left+_;omega) hf1 hf2 (by omega) hok hsz
   have:=hs.v
   show s.vars.length≤_
   omega
end Go.AE.Y

attribute [go_sem_proc] reduceIte reduceEqDiff reduceAdd reduceLeDiff reduceLT reduceCtorEq
namespace Go.AE.Y
open Go.Proofs.Tryz
def Qbbu (d:Nat):Prop:=∀(R:Rdr) (gl k:Nat) (s:GS) (H:Heap) (K:V→Heap→Prop) (deep:Int),deep≤d+1→2≤deep→H R.l=R.o k→H gl=s.o R→R.l≠gl→s.ok k→FnsOk H R gl s→k+2001 * 10^d+10≤2^30→
  (∀(l:List St) (s':GS) (H':Heap) (k':Nat),k+2<k'→k'≤k+2001 * 10^d+3→Upd H H' [(R.l,R.o k'),(gl,s'.o R)]→s'.ok k'→s.left+4 * (k:Int)≤s'.left+4 * (k':Int)→s'.fns=s.fns→s'.ffl=s.ffl→l.length≤2→Qcl l→4 * k+Qy l≤4 * k'→K (.c (.sl false 5 (Qaz l))) H')→
  Qw prog Qi0 [.c (.ptr gl 0),.c (.int .i64 deep)] H K
theorem Qbc3 {d:Nat} (hB:Q2c d):Qbbu d:=by
 intro R gl k s H K deep hd hd2 hR hG hne hs hF hk hK
 have hp0:d<10^d:=Nat.lt_pow_self (by omega)
 have hB':=hB
 simp only[Q2c]at hB'
 generalize hpe:10^d=e at *
 refine Qz ?_
 refine Qb Qat Qajj ?_
 refine Qa ?_
 simp only[go_sem]
 refine Qa ?_
 simp only[go_sem,hG,GS.o]
 have kn:=Kn.start2 hR (R.o_ne k) hG (s.o_ne R) hne
 refine Qg1 (ns:=[2,3,1,0,5]) hR (by omega) (by simp) fun v H1 hv hu=>?_
 have kn:=kn.callE 0 rfl hu (R.o_ne _)
 simp only[go_sem,Qmb]
 refine Q28 (x:=Ex.mk 1 v [] []) (fl:=true) (kn.e 0 rfl) (kn.e 1 rfl) hne (hs.mono (Nat.le_succ k)) (by omega) fun name H2 k2 g1 g2 hu=>?_
 have kn:=kn.callEE 0 1 rfl rfl (by decide) hu (R.o_ne _) (GS.o_ne _ _)
 simp only[go_sem,Qma]
 intro x5 hx5 H3 h3
 have kn:=kn.al hx5 h3
 have hx53:=kn.l 0 rfl
 simp only[go_sem,Ql9,hx53,St.cells_len,St.cells]
 intro H4 h4
 have kn:=kn.stL 0 rfl h4
 have hx54:=kn.l 0 rfl
 refine Qa ?_
 simp only[go_sem,hx54]
 intro x6 hx6 H5 h5
 have kn:=kn.al hx6 h5
 have hx65:=kn.l 1 rfl
 simp only[go_sem,Qmc,hx65]
 intro H6 h6
 have kn:=kn.stL 1 rfl h6
 refine Qa ?_
 simp only[go_sem]
 refine⟨Qo (by omega) (by omega),?_⟩
 have hs2:GS.ok { s with next:=s.next+1,vars:=s.vars++[name],vfl:=false } k2:=by
  refine⟨?_,?_,?_,hs.l1,?_,hs.f,hs.fn⟩
  ·have:=hs.n0;show -1≤s.next+1;omega
  ·have:=hs.n1;show s.next+1≤_;omega
  ·have:=hs.l0;show _≤s.left;omega
  ·have:=hs.v;show (s.vars++[name]).length≤_;simp;omega
 refine hB' _ _ _ _ _ _ (deep-1) (by omega) (kn.e 0 rfl) (kn.e 1 rfl) hne hs2 (hF.keep kn rfl rfl) (by omega) fun l c Lg s3 H7 k3 g3 g4 hu hgr hnew hs3 glf g5 g6 g7 g8 g9=>?_
 have kn0:=kn
 have kn:=kn.callEE 0 1 rfl rfl (by decide) hu (R.o_ne _) (GS.o_ne _ _)
 have kn:=kn0.addGr kn rfl rfl hgr hnew
 have hx57:=kn.l 0 rfl
 have hx67:=kn.l 1 rfl
 simp only[go_sem,Qmd]
 refine Qa ?_
 simp only[go_sem,hx57,hx67]
 intro x8 hx8 H8 h8
 have kn:=kn.al hx8 h8
 have kn:=kn.perm (L':=[(x5,_),(x6,_),(x8,_)]++Lg) (by
  simp only[List.set,List.nil_append,List.cons_append,List.append_assoc]
  refine .cons _ (.cons _ ?_)
  exact List.perm_append_comm)
 have hx88:=kn.l 2 rfl
 simp only[go_sem,Qme,hx88]
 intro H9 h9
 have kn:=kn.stL 2 rfl h9
 have hG9:=kn.e 1 rfl
 refine Qa ?_
 simp only[go_sem,hG9,GS.o]
 have hl0:=hs3.l0
 have hl1:=hs3.l1
 refine⟨Qo (by omega) (by omega),fun H10 h10=>?_⟩
 have kn:Kn H H10 [(R.l,R.o k3),(gl,GS.o { s3 with left:=s3.left-2 } R)] ([(x5,_),(x6,_),(x8,_)]++Lg):=kn.stE 1 rfl h10
 have hx5a:=kn.l 0 rfl
 have hx6a:=kn.l 1 rfl
 have hx8a:=kn.l 2 rfl
 refine Qal ?_
 simp only[go_sem,hx5a,hx6a,hx8a]
 refine kn.grow hgr (.mk' _ _ _ _) (by intro r hr;simp only[List.mem_singleton]at hr;subst hr;rfl) (by simp only[Qa6,LIM,List.length_cons,List.length_nil];omega) fun y' H11 kn=>?_
 have hx5b:=kn.l 0 rfl
 have hx6b:=kn.l 1 rfl
 have hyb:=kn.l 3 rfl
 simp only[go_sem,Qmf,hx5b,hx6b]
 refine Qk ?_
 simp only[go_sem,Q6,Qad,Qw0,reduceIte,List.mem_singleton,forall_eq,RS.op]
 have hok1:GS.ok { s3 with left:=s3.left-2 } k3:=⟨hs3.n0,hs3.n1,by show _≤s3.left-2;have:=hs.l0;simp only at glf;omega,by show s3.left-2≤100;omega,hs3.v,hs3.f,hs3.fn⟩
 refine⟨.c (.sl false 5 (Qaz [St.mk 1 name [Ex.mk 1 v [] []] [] [],St.mk 6 [] [Ex.mk 2 0 name []] (l++[St.mk 2 name [Ex.mk 4 0 [] [Ex.mk 2 0 name [],Ex.mk 1 1 [] []]] [] []]) []])),.c _ _ ?_,hK _ _ _ k3 (by omega) (by omega) kn.fin hok1 (by show _≤s3.left-2+_;simp only at glf;omega) g5 g6 (by simp) ?_ ?_⟩
 ·simp only[Qaz,St.cells,Qbo,Ex.cells,←Q9a]
  repeat' first|exact FrzL.nil|exact FrzR.nil|exact Qg rfl|exact FrzL.same (Ex.noOw _)|exact FrzL.same (St.noOw _)|refine FrzL.cons ?_ ?_|refine FrzR.cons ?_ ?_|refine FrzR.sl ?_
  refine FrzR.vsl (kn.un 3 rfl) hyb (by simp) (.app (.same (Qe4 _)) ?_)
  repeat' first|exact FrzL.nil|exact FrzR.nil|exact Qg rfl|exact FrzL.same (Ex.noOw _)|exact FrzL.same (St.noOw _)|refine FrzL.cons ?_ ?_|refine FrzR.cons ?_ ?_|refine FrzR.sl ?_
 ·simp only[Qcl,St.ok,Qda,Ex.ok]
  refine⟨⟨by simp,⟨⟨fun h=>by simp at h,trivial⟩,trivial⟩,trivial,trivial⟩,⟨by simp,⟨⟨fun h=>by simp at h,trivial⟩,trivial⟩,Q9b g8 ?_,trivial⟩,trivial⟩
  simp[Qcl,St.ok,Qda,Ex.ok]
 ·simp only[Qy,St.size,Qfx,Qaf,Ex.size];omega
end Go.AE.Y

namespace Go.AE.Y
open Go.Proofs.Tryz
theorem Qbe1 {A L1 L2:List (Nat×Obj)}:(A++L1++L2).Perm (A++L2++L1):=by
 rw[List.append_assoc,List.append_assoc]
 exact .append_left _ List.perm_append_comm
set_option maxHeartbeats 2000000 in
theorem Qa7p {d : Nat} (hB : ∀ d', d = d' + 1 → Q2c d') : Qbbw d := by
  intro R gl k s H K deep hd hR hG hne hs hF hk hK
  have hp0 : d < 10^d := Nat.lt_pow_self (by omega)
  have hex : ∃ e, 10^d = e ∧ ∀ d', d = d' + 1 → 10 * 10^d' = e := ⟨10^d, rfl, fun d' h => by rw [h, Nat.pow_succ]; omega⟩
  obtain ⟨e, hpe, he'⟩ := hex
  rw [hpe] at hp0 hk hK
  have hl0 := hs.l0
  have hl1 := hs.l1
  refine Qz ?_
  refine Qb Qat Qajk ?_
  refine Qa ?_
  simp only [go_sem]
  refine Qa ?_
  simp only [go_sem, hG, GS.o]
  refine ⟨Qo (by omega) (by omega), fun H1 h1 => ?_⟩
  have kn : Kn H H1 [(R.l, R.o k), (gl, GS.o { s with left := s.left - 1 } R)] [] := (Kn.start2 hR (R.o_ne k) hG (s.o_ne R) hne).stE 1 rfl h1
  have hs1 : GS.ok { s with left := s.left - 1 } (k + 1) := ⟨hs.n0, by have := hs.n1; show s.next ≤ _; omega, by show _ ≤ s.left - 1; omega, by show s.left - 1 ≤ 100; omega, by have := hs.v; show s.vars.length ≤ _; omega, hs.f, hs.fn⟩
  have hlr : s.left ≤ ({ s with left := s.left - 1 } : GS).left + 1 := by show s.left ≤ s.left - 1 + 1; omega
  have hfn : ({ s with left := s.left - 1 } : GS).fns = s.fns := rfl
  have hff : ({ s with left := s.left - 1 } : GS).ffl = s.ffl := rfl
  have hF1 : FnsOk H R gl { s with left := s.left - 1 } := ⟨hF.1, hF.2⟩
  generalize ({ s with left := s.left - 1 } : GS) = s1 at *
  have hG1 := kn.e 1 rfl
  refine Qa ?_
  simp only [go_sem, hG1, GS.o]
  refine Qa5 (kn.e 0 rfl) (by omega) fun v H2 hv hu => ?_
  have kn : Kn H H2 [(R.l, R.o (k + 1)), (gl, s1.o R)] [] := kn.callE 0 rfl hu (R.o_ne _)
  have hG2 := kn.e 1 rfl
  simp only [go_sem, Qmi]
  have fin : ∀ (l : List St) (c : C) (s' : GS) (H3 : Heap) (k3 : Nat) (L : List (Nat × Obj)), k < k3 → k3 ≤ k + 500 * e → Kn H H3 [(R.l, R.o k3), (gl, s'.o R)] L → FrzC H3 (un H) c (.sl false 5 (Qaz l)) →
      s'.ok k3 → s1.left + 4 * ((k + 1 : Nat) : Int) ≤ s'.left + 4 * (k3 : Int) → s'.fns = s1.fns → s'.ffl = s1.ffl → l.length ≤ 2 → Qcl l → 4 * k + Qy l ≤ 4 * k3 → ∃ x', FrzV H3 (un H) (.c c) x' ∧ K x' (H3.frz (un H)) := by
    intro l c s' H3 k3 L g1 g2 kn g3 g4 g5 g6 g7 g8 g9 g10
    exact ⟨_, .c _ _ g3, hK l s' _ k3 g1 g2 kn.fin g4 (by omega) (g6.trans hfn) (g7.trans hff) g8 g9 g10⟩
  refine Qh (Qc ?_)
  refine Qa ?_
  simp only [go_sem, hG2, GS.o, Qaq]
  intro hvl
  refine Qd rfl ?_ ?_
  ·
    intro hc
    have hv0 : 0 < s1.vars.length := by
      cases h : decide (v < 3) with
      | true => rw [h] at hc; simp at hc; omega
      | false => rw [h] at hc; simp at hc
    refine Qal ?_
    simp only [go_sem, hG2, GS.o]
    refine of_c (kn.e 0 rfl) (by omega) hv0 fun name H3 hn hu => ?_
    have kn := kn.callE 0 rfl hu (R.o_ne _)
    simp only [go_sem, Qmk]
    refine Qb0 3 (by omega) (kn.e 0 rfl) (kn.e 1 rfl) hne (hs1.mono (by omega)) (hF1.keep kn rfl rfl) (by omega) fun x H4 k4 g1 g2 hu g3 g4 => ?_
    have kn := kn.callE 0 rfl hu (R.o_ne _)
    simp only [go_sem, Qmj, x.cells_len]
    refine Qk ?_
    simp only [go_sem, Q6, Qad, Qa8, reduceIte, List.mem_singleton, forall_eq, RS.op]
    refine fin [St.mk 2 name [x] [] []] _ s1 H4 k4 _ (by omega) (by omega) kn ?_ (hs1.mono (by omega)) (by omega) rfl rfl (by simp) ?_ ?_
    · simp only [Qaz, St.cells, Qbo]
      repeat' first | exact FrzL.nil | exact FrzR.nil | exact Qg rfl | exact FrzL.same (Ex.noOw _) | exact FrzL.same (St.noOw _) | refine FrzL.cons ?_ ?_ | refine FrzR.cons ?_ ?_ | refine FrzR.sl ?_
    · simp only [Qcl, St.ok, Qda]; exact ⟨⟨by simp, ⟨g3, trivial⟩, trivial, trivial⟩, trivial⟩
    · simp only [Qy, St.size, Qaf]; omega
  intro hc0
  refine Qa ?_
  simp only [go_sem]
  refine Qd rfl ?_ ?_
  ·
    intro hc
    refine Qa ?_
    simp only [go_sem]
    refine Qb0 3 (by omega) (kn.e 0 rfl) (kn.e 1 rfl) hne (hs1.mono (by omega)) (hF1.keep kn rfl rfl) (by omega) fun x H4 k4 g1 g2 hu g3 g4 => ?_
    have kn := kn.callE 0 rfl hu (R.o_ne _)
    simp only [go_sem, Qmm, x.cells_eq]
    refine Q28 (x := x) (kn.e 0 rfl) (kn.e 1 rfl) hne (hs1.mono (by omega)) (by omega) fun name H5 k5 g5 g6 hu => ?_
    have kn := kn.callEE 0 1 rfl rfl (by decide) hu (R.o_ne _) (GS.o_ne _ _)
    simp only [go_sem, Qml, St.cells_len]
    refine Qk ?_
    simp only [go_sem, Q6, Qad, Qa8, reduceIte, List.mem_singleton, forall_eq, RS.op]
    have h0 := hs1.n0
    have h1 := hs1.n1
    have h2 := hs1.l0
    have h3 := hs1.v
    refine fin [St.mk 1 name [x] [] []] _ _ H5 k5 _ (by omega) (by omega) kn ?_ ⟨?_, ?_, ?_, hs1.l1, ?_, hs1.f, hs1.fn⟩ (by show _ ≤ s1.left + _; omega) rfl rfl (by simp) ?_ ?_
    · simp only [Qaz]
      repeat' first | exact FrzL.nil | exact FrzR.nil | exact Qg rfl | exact FrzL.same (Ex.noOw _) | exact FrzL.same (St.noOw _) | refine FrzL.cons ?_ ?_ | refine FrzR.cons ?_ ?_ | refine FrzR.sl ?_
    · show -1 ≤ s1.next + 1; omega
    · show s1.next + 1 ≤ _; omega
    · show _ ≤ s1.left; omega
    · show (s1.vars ++ [name]).length ≤ _; simp; omega
    · simp only [Qcl, St.ok, Qda]; exact ⟨⟨by simp, ⟨g3, trivial⟩, trivial, trivial⟩, trivial⟩
    · simp only [Qy, St.size, Qaf]; omega
  intro hc1
  refine Qa ?_
  simp only [go_sem]
  refine Qd rfl ?_ ?_
  ·
    intro hc
    refine Qa ?_
    simp only [go_sem]
    refine Qb0 3 (by omega) (kn.e 0 rfl) (kn.e 1 rfl) hne (hs1.mono (by omega)) (hF1.keep kn rfl rfl) (by omega) fun x H4 k4 g1 g2 hu g3 g4 => ?_
    have kn := kn.callE 0 rfl hu (R.o_ne _)
    simp only [go_sem, Qmn, x.cells_len]
    refine Qk ?_
    simp only [go_sem, Q6, Qad, Qa8, reduceIte, List.mem_singleton, forall_eq, RS.op]
    refine fin [St.mk 3 [] [x] [] []] _ s1 H4 k4 _ (by omega) (by omega) kn ?_ (hs1.mono (by omega)) (by omega) rfl rfl (by simp) ?_ ?_
    · simp only [Qaz, St.cells, Qbo]
      repeat' first | exact FrzL.nil | exact FrzR.nil | exact Qg rfl | exact FrzL.same (Ex.noOw _) | exact FrzL.same (St.noOw _) | refine FrzL.cons ?_ ?_ | refine FrzR.cons ?_ ?_ | refine FrzR.sl ?_
    · simp only [Qcl, St.ok, Qda]; exact ⟨⟨by simp, ⟨g3, trivial⟩, trivial, trivial⟩, trivial⟩
    · simp only [Qy, St.size, Qaf]; omega
  intro hc2
  have hdp : 2 ≤ deep := by
    cases h : decide (v < 7) with
    | true => rw [h] at hc2; simp at hc2
    | false => rw [h] at hc2; simp at hc2; omega
  obtain ⟨d', hdd⟩ : ∃ d', d = d' + 1 := ⟨d - 1, by omega⟩
  have hB0 : Q2c d' := hB d' hdd
  have hL0 : Qbbu d' := Qbc3 hB0
  have hB' := hB0
  have hL' := hL0
  simp only [Q2c, Qbbu] at hB' hL'
  have he1 := he' d' hdd
  have hp1 : d' < 10^d' := Nat.lt_pow_self (by omega)
  generalize 10^d' = e1 at *
  refine Qa ?_
  simp only [go_sem]
  refine Qd rfl ?_ ?_
  ·
    intro hc
    refine Qa ?_
    simp only [go_sem]
    refine Qww (kn.e 0 rfl) (kn.e 1 rfl) hne (hs1.mono (by omega)) (hF1.keep kn rfl rfl) (by omega) fun x H4 k4 g1 g2 hu g3 g4 => ?_
    have kn := kn.callE 0 rfl hu (R.o_ne _)
    simp only [go_sem, Qmp, x.cells_len]
    refine Qb0 2 (by omega) (kn.e 0 rfl) (kn.e 1 rfl) hne (hs1.mono (by omega)) (hF1.keep kn rfl rfl) (by omega) fun y H5 k5 g5 g6 hu g7 g8 => ?_
    have kn := kn.callE 0 rfl hu (R.o_ne _)
    simp only [go_sem, Qmo, x.cells_len, y.cells_len]
    refine Qk ?_
    simp only [go_sem, Q6, Qad, Qa8, reduceIte, List.mem_singleton, forall_eq, RS.op]
    refine fin [St.mk 4 [] [x, y] [] []] _ s1 H5 k5 _ (by omega) (by omega) kn ?_ (hs1.mono (by omega)) (by omega) rfl rfl (by simp) ?_ ?_
    · simp only [Qaz, St.cells, Qbo]
      repeat' first | exact FrzL.nil | exact FrzR.nil | exact Qg rfl | exact FrzL.same (Ex.noOw _) | exact FrzL.same (St.noOw _) | refine FrzL.cons ?_ ?_ | refine FrzR.cons ?_ ?_ | refine FrzR.sl ?_
    · simp only [Qcl, St.ok, Qda]; exact ⟨⟨by simp, ⟨g3, g7, trivial⟩, trivial, trivial⟩, trivial⟩
    · simp only [Qy, St.size, Qaf]; omega
  intro hc3
  refine Qa ?_
  simp only [go_sem]
  refine Qd rfl ?_ ?_
  ·
    intro hc
    refine Qa ?_
    simp only [go_sem]
    refine Qww (kn.e 0 rfl) (kn.e 1 rfl) hne (hs1.mono (by omega)) (hF1.keep kn rfl rfl) (by omega) fun x H4 k4 g1 g2 hu g3 g4 => ?_
    have kn := kn.callE 0 rfl hu (R.o_ne _)
    simp only [go_sem, Qmq, x.cells_len]
    refine Qk ?_
    simp only [go_sem, Q6, Qad, Qa8, reduceIte, List.mem_singleton, forall_eq, RS.op]
    refine fin [St.mk 3 [] [Ex.mk 12 0 [] [x]] [] []] _ s1 H4 k4 _ (by omega) (by omega) kn ?_ (hs1.mono (by omega)) (by omega) rfl rfl (by simp) ?_ ?_
    · rw [Qaz, Qaz, St.cells, Qbo, Qbo, Ex.cells_eq (Ex.mk 12 0 [] _)]
      simp only [Qaz, Qbo, Ex.kids, Ex.op, Ex.n, Ex.name]
      repeat' first | exact FrzL.nil | exact FrzR.nil | exact Qg rfl | exact FrzL.same (Ex.noOw _) | exact FrzL.same (St.noOw _) | refine FrzL.cons ?_ ?_ | refine FrzR.cons ?_ ?_ | refine FrzR.sl ?_
    · simp only [Qcl, St.ok, Qda, Ex.ok]; exact ⟨⟨by simp, ⟨⟨fun h => by simp at h, g3, trivial⟩, trivial⟩, trivial, trivial⟩, trivial⟩
    · simp only [Qy, St.size, Qaf, Ex.size]; omega
  intro hc4
  refine Qa ?_
  simp only [go_sem]
  refine Qd rfl ?_ ?_
  ·
    intro hc
    refine Qa ?_
    simp only [go_sem]
    refine Qb0 3 (by omega) (kn.e 0 rfl) (kn.e 1 rfl) hne (hs1.mono (by omega)) (hF1.keep kn rfl rfl) (by omega) fun x H4 k4 g1 g2 hu g3 g4 => ?_
    have kn := kn.callE 0 rfl hu (R.o_ne _)
    simp only [go_sem, Qj3, x.cells_len]
    refine ⟨Qo (by omega) (by omega), ?_⟩
    refine hB' _ _ _ _ _ _ (deep - 1) (by omega) (kn.e 0 rfl) (kn.e 1 rfl) hne (hs1.mono (by omega)) (hF1.keep kn rfl rfl) (by omega) fun b1 c1 L1 s2 H5 k5 g5 g6 hu hg1 hnew hs2 glf g7 g8 g9 g10 g11 => ?_
    have kn0 := kn
    have kn := kn.callEE 0 1 rfl rfl (by decide) hu (R.o_ne _) (GS.o_ne _ _)
    have kn := kn0.addGr kn rfl rfl hg1 hnew
    have hc1ow := hg1.isOw
    simp only [go_sem, Qj2]
    intro x6 hx6 H6 h6
    have kn := kn.al hx6 h6
    have kn := kn.perm (L' := [(x6, _)] ++ L1) List.perm_append_comm
    have hx66 := kn.l 0 rfl
    simp only [go_sem, Qmr, hx66]
    intro H7 h7
    have kn : Kn H H7 [(R.l, R.o k5), (gl, s2.o R)] ([(x6, _)] ++ L1) := kn.stL 0 rfl h7
    have hG7 := kn.e 1 rfl
    refine Q3 ?_
    refine Qa ?_
    simp only [go_sem, hG7, GS.o]
    refine Qa5 (kn.e 0 rfl) (by omega) fun v2 H8 hv2 hu => ?_
    have kn : Kn H H8 [(R.l, R.o (k5 + 1)), (gl, s2.o R)] ([(x6, _)] ++ L1) := kn.callE 0 rfl hu (R.o_ne _)
    simp only [go_sem, Qj4]
    have rest : ∀ (E1 : Env) (hE : lk 6 E1 = V.c (C.ptr x6 0)) (c2 : C) (b2 : List St) (L2 : List (Nat × Obj)) (s3 : GS) (H9 : Heap) (k6 : Nat), k5 + 1 ≤ k6 → k6 ≤ k5 + 1 + 2001 * e1 → Gr L2 5 (Qaz b2) c2 →
        Kn H H9 [(R.l, R.o k6), (gl, s3.o R)] ([(x6, .st [.int .i64 5, .str [], .sl true 4 [x.cells], c1, c2])] ++ L1 ++ L2) → s3.ok k6 → s2.left + 4 * ((k5 + 1 : Nat) : Int) ≤ s3.left + 4 * (k6 : Int) → s3.fns = s2.fns → s3.ffl = s2.ffl → Qcl b2 → 4 * (k5 + 1) + Qy b2 ≤ 4 * k6 →
        Qac prog Qmg (X.inBlock 0 (X.sq prog Qfv (Q6 Qa8 fun x H' => ∃ x', FrzV H' (un H) x x' ∧ K x' (H'.frz (un H))))) E1 H9 := by
      intro E1 hE c2 b2 L2 s3 H9 k6 e1 e2 hg2 kn e3 e4 e5 e6 e7 e8
      have hx69 := kn.l 0 rfl
      have hc2ow := hg2.isOw
      refine Qa ?_
      simp only [go_sem, hE, hx69, hc1ow, hc2ow]
      refine Qk ?_
      simp only [go_sem, Q6, Qad, Qa8, reduceIte, List.mem_singleton, forall_eq, RS.op]
      refine fin [St.mk 5 [] [x] b1 b2] _ s3 H9 k6 _ (by omega) (by omega) kn ?_ e3 (by omega) (e5.trans g7) (e6.trans g8) (by simp) ?_ ?_
      · simp only [Qaz, St.cells, Qbo]
        repeat' first | exact FrzL.nil | exact FrzR.nil | exact Qg rfl | exact FrzL.same (Ex.noOw _) | exact FrzL.same (St.noOw _) | refine FrzL.cons ?_ ?_ | refine FrzR.cons ?_ ?_ | refine FrzR.sl ?_
        · exact hg1.frz (kn.perm Qbe1) (Qe4 _)
        · exact hg2.frz kn (Qe4 _)
      · simp only [Qcl, St.ok, Qda]; exact ⟨⟨by simp, ⟨g3, trivial⟩, g10, e7⟩, trivial⟩
      · simp only [Qy, St.size, Qaf]; omega
    refine Qh (Qd rfl ?_ ?_)
    · intro hc'
      refine Qq ?_
      simp only [go_sem]
      refine ⟨Qo (by omega) (by omega), ?_⟩
      refine hB' _ _ _ _ _ _ (deep - 1) (by omega) (kn.e 0 rfl) (kn.e 1 rfl) hne (hs2.mono (by omega)) (hF1.keep kn g7 g8) (by omega) fun b2 c2 L2 s3 H9 k6 q1 q2 hu hg2 hnew hs3 q3 q4 q5 q6 q7 q8 => ?_
      have kn0 := kn
      have kn := kn.callEE 0 1 rfl rfl (by decide) hu (R.o_ne _) (GS.o_ne _ _)
      have kn := kn0.addGr kn rfl rfl hg2 hnew
      have hx69 := kn.l 0 rfl
      simp only [go_sem, Qj5, hx69]
      intro H10 h10
      have kn : Kn H H10 [(R.l, R.o k6), (gl, s3.o R)] ([(x6, _)] ++ L1 ++ L2) := kn.stL 0 rfl h10
      exact rest _ (by simp [lk]) c2 b2 L2 s3 H10 k6 (by omega) (by omega) hg2 kn hs3 (by omega) q4 q5 q7 (by omega)
    · intro hc'
      refine Qi ?_
      simp only [go_sem]
      exact rest _ (by simp [lk]) _ [] [] s2 H8 (k5 + 1) (by omega) (by omega) (.nil 5) (by rw [List.append_nil]; exact kn) (hs2.mono (by omega)) (by omega) rfl rfl trivial (by simp only [Qy]; omega)
  · intro hc5
    refine Qa ?_
    simp only [go_sem, hG2, GS.o]
    have rest : ∀ (b : Bool) (H3 : Heap) (k3 : Nat), k + 1 ≤ k3 → k3 ≤ k + 2 → Kn H H3 [(R.l, R.o k3), (gl, s1.o R)] [] →
        Qac prog Qmh (X.inBlock 0 (X.sq prog Qfv (Q6 Qa8 fun x H' => ∃ x', FrzV H' (un H) x x' ∧ K x' (H'.frz (un H)))))
         [(0, V.c (C.ptr gl 0)), (1, .c (.int .i64 deep)), (109, .c (.bool b))] H3 := by
      intro b H3 k3 e3 e4 kn
      refine Qd rfl ?_ ?_
      · intro hb
        refine Qa ?_
        simp only [go_sem]
        refine Qb0 2 (by omega) (kn.e 0 rfl) (kn.e 1 rfl) hne (hs1.mono (by omega)) (hF1.keep kn rfl rfl) (by omega) fun x H4 k4 g1 g2 hu g3 g4 => ?_
        have kn := kn.callE 0 rfl hu (R.o_ne _)
        simp only [go_sem, Qj6, x.cells_len]
        refine Qk ?_
        simp only [go_sem, Q6, Qad, Qa8, reduceIte, List.mem_singleton, forall_eq, RS.op]
        refine fin [St.mk 7 [] [x] [] []] _ s1 H4 k4 _ (by omega) (by omega) kn ?_ (hs1.mono (by omega)) (by omega) rfl rfl (by simp) ?_ ?_
        · simp only [Qaz, St.cells, Qbo]
          repeat' first | exact FrzL.nil | exact FrzR.nil | exact Qg rfl | exact FrzL.same (Ex.noOw _) | exact FrzL.same (St.noOw _) | refine FrzL.cons ?_ ?_ | refine FrzR.cons ?_ ?_ | refine FrzR.sl ?_
        · simp only [Qcl, St.ok, Qda]; exact ⟨⟨by simp, ⟨g3, trivial⟩, trivial, trivial⟩, trivial⟩
        · simp only [Qy, St.size, Qaf]; omega
      · intro hb
        refine Qi ?_
        simp only [go_sem]
        refine Qa ?_
        simp only [go_sem]
        refine hL' _ _ _ _ _ _ deep (by omega) hdp (kn.e 0 rfl) (kn.e 1 rfl) hne (hs1.mono (by omega)) (hF1.keep kn rfl rfl) (by omega) fun l s2 H4 k4 g1 g2 hu g3 g4 g5 g6 g7 g8 g9 => ?_
        have kn := kn.callEE 0 1 rfl rfl (by decide) hu (R.o_ne _) (GS.o_ne _ _)
        simp only [go_sem, Qj7]
        refine Qk ?_
        simp only [go_sem, Q6, Qad, Qa8, reduceIte, List.mem_singleton, forall_eq, RS.op]
        exact fin l _ s2 H4 k4 _ (by omega) (by omega) kn (Qg rfl) g3 (by omega) g5 g6 g7 g8 (by omega)
    refine ⟨fun hb => ?_, fun hb => ?_⟩
    · refine Qa5 (kn.e 0 rfl) (by omega) fun v2 H3 hv2 hu => ?_
      have kn := kn.callE 0 rfl hu (R.o_ne _)
      simp only [go_sem, Qeh]
      exact rest _ H3 (k + 1 + 1) (by omega) (by omega) kn
    · simp only [go_sem, Qeh, hb]
      exact rest _ H2 (k + 1) (by omega) (by omega) kn
theorem Qbb5 (d:Nat):Q2c d:=by
 induction d with
 |zero=>exact Qayf (Qa7p (fun d' h=>absurd h (by omega)))
 |succ d ih=>exact Qayf (Qa7p (fun d' h=>by
   have:d'=d:=by omega
   rw[this];exact ih))
end Go.AE.Y

namespace Go.AE.Y
open Go.Proofs.Tryz
set_option maxHeartbeats 1000000 in
theorem Qadb {R:Rdr} {gl k:Nat} {s:GS} {name:List UInt8} {params:Int} {H:Heap} {K:V→Heap→Prop} (hp0:0≤params) (hp3:params≤3) (hR:H R.l=R.o k) (hG:H gl=s.o R) (hne:R.l≠gl) (hs:s.ok k) (hF:FnsOk H R gl s) (hk:k+2001300≤2^30)
  (hK:∀(f:Fn) (s':GS) (H':Heap) (k':Nat),k<k'→k'≤k+2001300→Upd H H' [(R.l,R.o k'),(gl,s'.o R)]→s'.ok k'→s'.fns=s.fns→s'.ffl=s.ffl→f.params.length≤3→Qcl f.body→4 * k+Qy f.body≤4 * k'→K (.ag f.cells) H') :
  Qw prog Qiz [.c (.ptr gl 0),.c (.str name),.c (.int .i64 params)] H K:=by
 obtain⟨np,rfl⟩:=Int.eq_ofNat_of_zero_le hp0
 refine Qz ?_
 refine Qb Qat Qa0j ?_
 refine Qa ?_
 simp only[go_sem]
 intro x6 hx6 H1 h1
 have kn:=(Kn.start2 hR (R.o_ne k) hG (s.o_ne R) hne).al hx6 h1
 have hG1:=kn.e 1 rfl
 refine Qa ?_
 have etk:List.take np [[C.str [97]],[C.str [98]],[C.str [99]]]=Qbe (List.take np [[97],[98],[99]]):=by simp[Qbe,List.map_take]
 simp only[go_sem,hG1,GS.o,etk]
 refine⟨⟨by omega,by omega⟩,fun H2 h2=>?_⟩
 have kn:Kn H H2 [(R.l,R.o k),(gl,GS.o { s with vars:=List.take np [[97],[98],[99]],vfl:=false } R)] [(x6,_)]:=kn.stE 1 rfl h2
 have hG2:=kn.e 1 rfl
 refine Qa ?_
 simp only[go_sem,hG2,GS.o]
 refine⟨Qo (by omega) (by omega),fun H3 h3=>?_⟩
 have kn:Kn H H3 [(R.l,R.o k),(gl,GS.o { s with vars:=List.take np [[97],[98],[99]],vfl:=false,next:=(np:Int)-1 } R)] [(x6,_)]:=kn.stE 1 rfl h3
 have hs1:GS.ok { s with vars:=List.take np [[97],[98],[99]],vfl:=false,next:=(np:Int)-1 } k:=
  ⟨by show -1≤(np:Int)-1;omega,by show (np:Int)-1≤_;omega,hs.l0,hs.l1,by show (List.take np _).length≤_;simp;omega,hs.f,hs.fn⟩
 have hvl:(List.take np [[97],[98],[99]]:List (List UInt8)).length≤3:=by simp;omega
 have hfn:GS.fns { s with vars:=List.take np [[97],[98],[99]],vfl:=false,next:=(np:Int)-1 }=s.fns:=rfl
 have hff:GS.ffl { s with vars:=List.take np [[97],[98],[99]],vfl:=false,next:=(np:Int)-1 }=s.ffl:=rfl
 have hvv:GS.vars { s with vars:=List.take np [[97],[98],[99]],vfl:=false,next:=(np:Int)-1 }=List.take np [[97],[98],[99]]:=rfl
 rw[←hvv]at hvl
 have hF1:FnsOk H R gl { s with vars:=List.take np [[97],[98],[99]],vfl:=false,next:=(np:Int)-1 }:=⟨hF.1,hF.2⟩
 generalize ({ s with vars:=List.take np [[97],[98],[99]],vfl:=false,next:=(np:Int)-1 }:GS)=s1 at *
 have hG3:=kn.e 1 rfl
 refine Qa ?_
 have hL:s1.vars.length≤LIM:=by simp only[LIM];omega
 simp only[go_sem,hG3,GS.o,Qaq,Nat.zero_add,List.nil_append,hL]
 refine⟨.inl trivial,Qjj _,fun y hy H4 h4=>?_⟩
 have kn:=kn.al hy h4
 simp only[go_sem,Qtt]
 intro x7 hx7 H5 h5
 have kn:=kn.al hx7 h5
 have hx75:=kn.l 2 rfl
 simp only[go_sem,Qts,hx75]
 intro H6 h6
 have kn:Kn H H6 [(R.l,R.o k),(gl,s1.o R)] [(x6,_),(y,_),(x7,_)]:=kn.stL 2 rfl h6
 refine Qa ?_
 simp only[go_sem]
 refine Qbb5 3 _ _ _ _ _ _ 3 (by omega) (kn.e 0 rfl) (kn.e 1 rfl) hne hs1 (hF1.keep kn rfl rfl) (by omega) fun l c Lg s2 H7 k2 g1 g2 hu hgr hnew hs2 glf g3 g4 g5 g6 g7=>?_
 have kn0:=kn
 have kn:=kn.callEE 0 1 rfl rfl (by decide) hu (R.o_ne _) (GS.o_ne _ _)
 have kn:=kn0.addGr kn rfl rfl hgr hnew
 have hx77:=kn.l 2 rfl
 simp only[go_sem,Qtu,hx77]
 intro H8 h8
 have kn:Kn H H8 [(R.l,R.o k2),(gl,s2.o R)] ([(x6,.st [.str [],.sl true 1 [],.sl true 5 []]),(y,.vec 1 (Qbe s1.vars)),(x7,.st [.str name,.vsl y 1 0 s1.vars.length,c])]++Lg):=kn.stL 2 rfl h8
 have hG8:=kn.e 1 rfl
 refine Q3 ?_
 refine Qa ?_
 simp only[go_sem,hG8,GS.o]
 have hcow:=hgr.isOw
 have rest:∀(E1:Env) (hE6:lk 6 E1=V.c (C.ptr x6 0)) (hE7:lk 7 E1=V.c (C.ptr x7 0)) (l2:List St) (c2:C) (rws:List (List C)) (L2:List (Nat×Obj)) (s3:GS) (H9:Heap) (k3:Nat),k<k3→k3≤k+2001300→
   Kn H H9 [(R.l,R.o k3),(gl,s3.o R)] ([(x6,.st [.str [],.sl true 1 [],.sl true 5 []]),(y,.vec 1 (Qbe s1.vars)),(x7,.st [.str name,.vsl y 1 0 s1.vars.length,c2])]++L2)→Gr L2 5 rws c2→(∀H',FrzR H' (un H) rws (Qaz l2))→
   s3.ok k3→s3.fns=s1.fns→s3.ffl=s1.ffl→Qcl l2→4 * k+Qy l2≤4 * k3→Qac prog Ql8 (Q6 Qny fun x H'=>∃x',FrzV H' (un H) x x'∧K x' (H'.frz (un H))) E1 H9:=by
  intro E1 hE6 hE7 l2 c2 rws L2 s3 H9 k3 e1 e2 kn hg2 hfr e3 e4 e5 e6 e7
  have hx69:=kn.l 0 rfl
  have hx79:=kn.l 2 rfl
  have hcow:=hg2.isOw
  refine Qa ?_
  simp only[go_sem,hE6,hE7,hx69,hx79,hcow]
  intro H10 h10
  have kn:=kn.stL 0 rfl h10
  have hx6a:=kn.l 0 rfl
  have hya:=kn.l 1 rfl
  refine Qk ?_
  simp only[go_sem,Q6,Qad,Qny,reduceIte,List.mem_singleton,forall_eq,RS.op,hx6a,hcow]
  refine⟨(.ag (Fn.mk name s1.vars l2).cells),?_,hK _ s3 _ k3 e1 e2 kn.fin e3 (e4.trans hfn) (e5.trans hff) hvl e6 e7⟩
  refine FrzL.ag (.cons (Qg rfl) (.cons ?_ (.cons ?_ .nil)))
  ·exact Qaen (kn.un 1 rfl) hya (by simp[Qbe]) (noOw_mem (Qjj _))
  ·exact hg2.frzR (B:=[_,_,_]) kn (hfr _)
 have tl:∀(b:Bool) (H9:Heap) (k3:Nat),k2≤k3→k3≤k2+1→(b=true→0<s2.left)→Kn H H9 [(R.l,R.o k3),(gl,s2.o R)] ([(x6,.st [.str [],.sl true 1 [],.sl true 5 []]),(y,.vec 1 (Qbe s1.vars)),(x7,.st [.str name,.vsl y 1 0 s1.vars.length,c])]++Lg)→
   Qac prog (s_l3Gen_fn_7.seq Ql8) (Q6 Qny fun x H'=>∃x',FrzV H' (un H) x x'∧K x' (H'.frz (un H))) [(0,V.c (C.ptr gl 0)),(6,V.c (C.ptr x6 0)),(7,V.c (C.ptr x7 0)),(42,.c (.bool b))] H9:=by
  intro b H9 k3 e1 e2 hb kn
  have hG9:=kn.e 1 rfl
  refine Qh (Qd rfl ?_ ?_)
  ·intro hc
   have hlp:=hb hc
   have hl1:=hs2.l1
   refine Qa ?_
   simp only[go_sem,hG9,GS.o]
   refine⟨Qo (by omega) (by omega),fun H10 h10=>?_⟩
   have kn:Kn H H10 [(R.l,R.o k3),(gl,GS.o { s2 with left:=s2.left-1 } R)] ([(x6,_),(y,_),(x7,_)]++Lg):=kn.stE 1 rfl h10
   have hs3:GS.ok { s2 with left:=s2.left-1 } k3:=⟨hs2.n0,by have:=hs2.n1;show s2.next≤_;omega,by show _≤s2.left-1;omega,by show s2.left-1≤100;omega,by have:=hs2.v;show s2.vars.length≤_;omega,hs2.f,hs2.fn⟩
   have hx7a:=kn.l 2 rfl
   refine Qa9 ?_
   simp only[go_sem,hx7a,hcow]
   refine Qb0 2 (by omega) (kn.e 0 rfl) (kn.e 1 rfl) hne hs3 (hF1.keep kn g3 g4) (by omega) fun x H11 k4 q1 q2 hu q3 q4=>?_
   have kn:=kn.callE 0 rfl hu (R.o_ne _)
   have hx7b:=kn.l 2 rfl
   simp only[go_sem,Qtw,hx7b,hcow,x.cells_len]
   refine kn.grow (B:=[_,_,_]) hgr (.mk' _ _ _ _) (by intro r hr;simp only[List.mem_singleton]at hr;subst hr;rfl) (by simp only[Qa6,LIM,List.length_cons,List.length_nil];omega) fun y' H12 kn=>?_
   have hx7c:=kn.l 2 rfl
   simp only[go_sem,Qtv,hx7c]
   intro H13 h13
   have kn:=kn.stL 2 rfl h13
   refine rest _ (by simp[lk]) (by simp[lk]) (l++[St.mk 7 [] [x] [] []]) _ _ _ _ H13 k4 (by omega) (by omega) kn (.mk _ _ _ (by simp[Qa6])) (fun H'=>?_) (hs3.mono (by omega)) g3 g4 (Q9b g6 ?_) ?_
   ·rw[←Q9a]
    refine .app (.same (Qe4 _)) ?_
    simp only[Qaz,St.cells,Qbo]
    repeat' first|exact FrzL.nil|exact FrzR.nil|exact Qg rfl|exact FrzL.same (Ex.noOw _)|exact FrzL.same (St.noOw _)|refine FrzL.cons ?_ ?_|refine FrzR.cons ?_ ?_|refine FrzR.sl ?_
   ·simp only[Qcl,St.ok,Qda];exact⟨⟨by simp,⟨q3,trivial⟩,trivial,trivial⟩,trivial⟩
   ·simp only[Qfx,Qy,St.size,Qaf];omega
  ·intro hc
   refine Qi ?_
   simp only[go_sem]
   exact rest _ (by simp[lk]) (by simp[lk]) l c _ Lg s2 H9 k3 (by omega) (by omega) kn hgr (fun H'=>.same (Qe4 _)) (hs2.mono (by omega)) g3 g4 g6 (by omega)
 refine⟨fun hb=>?_,fun hb=>?_⟩
 ·refine Qa5 (kn.e 0 rfl) (by omega) fun v H9 hv hu=>?_
  have kn:=kn.callE 0 rfl hu (R.o_ne _)
  simp only[go_sem,Qje,hb]
  exact tl _ H9 (k2+1) (by omega) (by omega) (fun _=>by simpa using hb) kn
 ·simp only[go_sem,Qje,hb]
  exact tl false H8 k2 (by omega) (by omega) (fun h=>by simp at h) kn
end Go.AE.Y

namespace Go.AE.Y
open Go.Proofs.Tryz
variable {H:Heap} {K:V→Heap→Prop}
theorem Qk1 {l:List Ex} {i:Nat} (h:i<l.length):Qaf (l.take (i+1))=Qaf (l.take i)+(l[i]'h).size:=by
 rw[List.take_succ_eq_append_getElem h,Qpx];simp[Qaf]
theorem Qnh {l:List St} {i:Nat} (h:i<l.length):Qy (l.take (i+1))=Qy (l.take i)+(l[i]'h).size:=by
 rw[List.take_succ_eq_append_getElem h,Qfx];simp[Qy]
theorem Qe6 (l:List Ex) (i:Nat):Qaf (l.take i)≤Qaf l:=by
 conv=>rhs;rw[←List.take_append_drop i l,Qpx]
 omega
theorem Qfy (l:List St) (i:Nat):Qy (l.take i)≤Qy l:=by
 conv=>rhs;rw[←List.take_append_drop i l,Qfx]
 omega
theorem St.size_pos (x:St):1≤x.size:=by rw[x.size_eq];omega
theorem Q9c (l:List St):l.length≤Qy l:=by
 induction l with
 |nil=>simp
 |cons x r ih=>simp only[List.length_cons,Qy];have:=x.size_pos;omega
theorem Qa4e:∀(n:Nat) (x:Ex) {H:Heap} {K:V→Heap→Prop},x.size≤n→x.size≤2^40→K (.c (.int .i64 x.size)) H→Qw prog Qnr [.ag x.cells] H K:=by
 intro n
 induction n with
 |zero=>intro x _ _ h;have:=x.size_pos;omega
 |succ n ih=>
 intro x H K hn hb hK
 have hsz:=x.size_kids
 refine Qb Qat Qa46 ?_
 refine Qa ?_
 simp only[go_sem,x.cells_eq]
 refine Qa ?_
 simp only[go_sem]
 refine Q3 ?_
 refine Qa ?_
 simp only[go_sem]
 refine Qh (Qc (Qu (fun n e1 H1=>∃i:Nat,n=x.kids.length-i∧i≤x.kids.length∧H1=H∧e1=[(1,.c (.pp [.int .i64 x.op,.int .i64 x.n,.str x.name,.sl false 4 (Qbo x.kids)])),(3,.c (.int .i64 ((1+Qaf (x.kids.take i):Nat):Int))),(4,.c (.int .i64 i))]) x.kids.length ?_ ?_))
 ·exact⟨0,by omega,by omega,rfl,by simp[Qaf]⟩
 ·rintro n e1 H1 ⟨i,hn,hi,rfl,rfl⟩
  refine Q3 ?_
  refine Qa ?_
  simp only[go_sem,Qa2]
  intro hl
  simp only[LIM]at hl
  refine Qh (Qd rfl ?_ ?_)
  ·intro hc
   have hlt:i<x.kids.length:=by simpa using hc
   have hm:=Qdn (List.getElem_mem hlt)
   have htk:=Qk1 hlt
   have htl:=Qe6 x.kids (i+1)
   refine Qi ?_
   simp only[go_sem]
   refine Qh (Qc (Qq ?_))
   simp only[go_sem,hlt,Qa2,Qdm _ _ hlt,Ex.take4,Ex.allOw,Ex.cells_len]
   refine ih _ (by omega) (by omega) ?_
   simp only[go_sem,Qyv]
   refine⟨Qo (by omega) (by omega),?_⟩
   refine Qq ?_
   simp only[go_sem,X.next]
   refine⟨Qo (by omega) (by omega),x.kids.length-(i+1),by omega,i+1,rfl,by omega,?_⟩
   rw[htk];simp;omega
  ·intro hc
   have hge:x.kids.length≤i:=by simpa using hc
   refine Qt ?_
   simp only[go_sem,X.next]
   refine Qa ?_
   simp only[go_sem]
   refine Qk ?_
   simp only[go_sem,Q6,Qad,Qaj7,reduceIte,List.mem_singleton,forall_eq,RS.op]
   rw[List.take_of_length_le hge,←hsz];exact hK
theorem Qa82:∀(n:Nat) (x:Ex) {H:Heap} {K:V→Heap→Prop} (deep:Int),x.size≤n→deep≤100→(∀b:Bool,K (.c (.bool b)) H)→Qw prog Qrl [.ag x.cells,.c (.int .i64 deep)] H K:=by
 intro n
 induction n with
 |zero=>intro x _ _ _ h;have:=x.size_pos;omega
 |succ n ih=>
 intro x H K deep hn hd hK
 have hsz:=x.size_kids
 refine Qb Qat Qa9i ?_
 refine Qa ?_
 simp only[go_sem,x.cells_eq]
 refine Qa ?_
 simp only[go_sem]
 refine Qa83 fun lo hi=>?_
 simp only[go_sem,Q47,List.getD_cons_zero,List.getD_cons_succ]
 refine Q3 ?_
 refine Qa ?_
 simp only[go_sem]
 have retf:∀(b:Bool) (e:Env),lk 4 e=.c (.bool b)→Q6 Qr5 K .ret e H:=by
  intro b e h1
  simp only[go_sem,Q6,Qad,Qr5,List.mem_singleton,forall_eq,RS.op,h1]
  exact hK _
 have rest:∀b:Bool,(b=false→1≤deep)→Qac prog (s_l2Form_3.seq Q46) (Q6 Qr5 K)
   [(1,.c (.int .i64 deep)),(2,.c (.pp [.int .i64 x.op,.int .i64 x.n,.str x.name,.sl false 4 (Qbo x.kids)])),(31,.c (.bool b))] H:=by
  intro b hb
  refine Qh (Qd rfl ?_ ?_)
  ·intro hc
   refine Qa ?_
   simp only[go_sem]
   refine Qk ?_
   simp only[go_sem]
   exact retf false _ (by simp[lk])
  intro hc
  have hdp:=hb hc
  refine Qi ?_
  simp only[go_sem]
  refine Qa ?_
  simp only[go_sem]
  refine Q3 ?_
  refine Qa ?_
  simp only[go_sem]
  refine Q11 fun b1=>?_
  simp only[go_sem,Q48]
  have rest2:∀b:Bool,Qac prog (s_l2Form_6.seq Q45) (Q6 Qr5 K)
    [(1,.c (.int .i64 deep)),(2,.c (.pp [.int .i64 x.op,.int .i64 x.n,.str x.name,.sl false 4 (Qbo x.kids)])),(69,.c (.bool b))] H:=by
   intro b
   refine Qh (Qd rfl ?_ ?_)
   ·intro hc
    refine Qa ?_
    simp only[go_sem]
    refine Qk ?_
    simp only[go_sem]
    exact retf false _ (by simp[lk])
   intro hc
   refine Qi ?_
   simp only[go_sem]
   refine Q3 ?_
   refine Qa ?_
   simp only[go_sem]
   refine Qh (Qc (Qu (fun n e1 H1=>∃i:Nat,n=x.kids.length-i∧i≤x.kids.length∧H1=H∧e1=[(1,.c (.int .i64 deep)),(2,.c (.pp [.int .i64 x.op,.int .i64 x.n,.str x.name,.sl false 4 (Qbo x.kids)])),(8,.c (.int .i64 i))]) x.kids.length ?_ ?_))
   ·exact⟨0,by omega,by omega,rfl,rfl⟩
   ·rintro n e1 H1 ⟨i,hn,hi,rfl,rfl⟩
    refine Q3 ?_
    refine Qa ?_
    simp only[go_sem,Qa2]
    intro hl
    simp only[LIM]at hl
    refine Qh (Qd rfl ?_ ?_)
    ·intro hc
     have hlt:i<x.kids.length:=by simpa using hc
     have hm:=Qdn (List.getElem_mem hlt)
     refine Qi ?_
     simp only[go_sem]
     refine Qh (Qc ?_)
     refine Qa ?_
     simp only[go_sem,hlt,Qa2,Qdm _ _ hlt,Ex.take4,Ex.allOw,Ex.cells_len]
     refine⟨Qo (by omega) (by omega),?_⟩
     refine ih _ (deep-1) (by omega) (by omega) fun b2=>?_
     simp only[go_sem,Q49]
     refine Qd rfl ?_ ?_
     ·intro hc2
      refine Qa ?_
      simp only[go_sem]
      refine Qk ?_
      simp only[go_sem,X.next]
      exact retf false _ (by simp[lk])
     ·intro hc2
      refine Qi ?_
      simp only[go_sem]
      refine Qq ?_
      simp only[go_sem,X.next]
      exact⟨Qo (by omega) (by omega),x.kids.length-(i+1),by omega,i+1,rfl,by omega,rfl⟩
    ·intro hc
     refine Qt ?_
     simp only[go_sem,X.next]
     refine Qa ?_
     simp only[go_sem]
     refine Qk ?_
     exact retf true _ (by simp[lk])
  refine⟨fun hb1=>?_,fun hb1=>?_⟩
  ·refine Qcm ?_
   simp only[go_sem,Qq2]
   exact rest2 _
  ·replace hb1:=Qeg hb1
   simp only[go_sem,Qq2,hb1]
   exact rest2 _
 refine⟨fun hb1=>?_,fun hb1=>?_⟩
 ·replace hb1:=Qrw hb1
  have hdp:1≤deep:=by simp at hb1;omega
  refine Qcm ?_
  simp only[go_sem,Qq1,hb1,Qa2,cond_false]
  intro hl
  refine⟨fun hb2=>?_,fun hb2=>?_⟩
  ·refine Qcm ?_
   simp only[go_sem,Qjd]
   exact rest _ (fun _=>hdp)
  ·replace hb2:=Qeg hb2
   simp only[go_sem,Qjd,hb2]
   exact rest _ (fun _=>hdp)
 ·replace hb1:=Qeg hb1
  simp only[go_sem,Qq1,Qjd,hb1,Qa2,cond_true]
  exact rest _ (fun h=>by simp at h)
theorem Qaqn {x:Ex} (hx:x.size≤2^40) (hK:∀b:Bool,K (.c (.bool b)) H):Qw prog Qfg [.ag x.cells] H K:=by
 refine Qb Qat Q9w ?_
 refine Qa ?_
 simp only[go_sem,Ex.ne_nil]
 refine Qa ?_
 simp only[go_sem,Ex.take4,Ex.allOw,Ex.cells_len]
 refine Qa82 x.size x 6 (Nat.le_refl _) (by omega) fun b=>?_
 simp only[go_sem,Qig,Ex.take4,Ex.allOw,Ex.cells_len]
 refine⟨fun hb=>?_,fun hb=>?_⟩
 ·refine Qa4e x.size x (Nat.le_refl _) hx ?_
  simp only[go_sem,Qdu]
  refine Qk ?_
  simp only[go_sem,Q6,Qad,Qg6,reduceIte,List.mem_singleton,forall_eq,RS.op]
  exact hK _
 ·simp only[go_sem,Qdu,hb]
  refine Qk ?_
  simp only[go_sem,Q6,Qad,Qg6,reduceIte,List.mem_singleton,forall_eq,RS.op]
  exact hK _
end Go.AE.Y

namespace Go.AE.Y
open Go.Proofs.Tryz
variable {H:Heap} {K:V→Heap→Prop}
def St.raw (x:St):List C:=[.int .i64 x.op,.str x.name,.sl false 4 (Qbo x.args),.sl false 5 (Qaz x.body),.sl false 5 (Qaz x.els)]
theorem Qa4h:∀(n:Nat) (l:List St) {fl:Bool} {H:Heap} {K:V→Heap→Prop},Qy l≤n→Qy l≤2^40→(∀v:Nat,v≤Qy l→K (.c (.int .i64 v)) H)→Qw prog Qhg [.c (.sl fl 5 (Qaz l))] H K:=by
 intro n
 induction n using Nat.strongRecOn with
 |ind n ih=>
 intro l fl H K hn hb hK
 have hlen:=Q9c l
 refine Qb Qat Qa49 ?_
 refine Qa ?_
 simp only[go_sem]
 refine Qa ?_
 simp only[go_sem,Qa6]
 intro hl
 refine Q3 ?_
 refine Qa ?_
 simp only[go_sem]
 refine Qh (Qc (Qu (fun n e1 H1=>∃(i v:Nat),n=l.length-i∧i≤l.length∧v≤(l.length-i)+Qy (l.take i)∧H1=H∧e1=[(0,.c (.sl fl 5 (Qaz l))),(3,.c (.int .i64 v)),(4,.c (.int .i64 i))]) l.length ?_ ?_))
 ·exact⟨0,l.length,by omega,by omega,by omega,rfl,rfl⟩
 ·rintro n e1 H1 ⟨i,v,hn1,hi,hv,rfl,rfl⟩
  refine Q3 ?_
  refine Qa ?_
  simp only[go_sem,Qa6]
  simp only[LIM]at hl
  refine fun _=>?_
  refine Qh (Qd rfl ?_ ?_)
  ·intro hc
   have hlt:i<l.length:=by simpa using hc
   have hm:=Qjk (List.getElem_mem hlt)
   have htk:=Qnh hlt
   have htl:=Qfy l (i+1)
   have hse:=(l[i]'hlt).size_eq
   refine Qi ?_
   simp only[go_sem]
   refine Qh (Qc (Qa9 ?_))
   simp only[go_sem,hlt,Qa6,Qdz _ _ hlt,St.cells_eq]
   refine ih (Qy l[i].body) (by omega) l[i].body (Nat.le_refl _) (by omega) fun a ha=>?_
   simp only[go_sem,Qyy,hlt,Qa6,Qdz _ _ hlt,St.cells_eq]
   refine⟨Qo (by omega) (by omega),?_⟩
   refine ih (Qy l[i].els) (by omega) l[i].els (Nat.le_refl _) (by omega) fun c hc=>?_
   simp only[go_sem,Qyx]
   refine⟨Qo (by omega) (by omega),?_⟩
   refine Qq ?_
   simp only[go_sem,X.next]
   refine⟨Qo (by omega) (by omega),l.length-(i+1),by omega,i+1,v+a+c,rfl,by omega,by omega,rfl⟩
  ·intro hc
   have hge:l.length≤i:=by simpa using hc
   refine Qt ?_
   simp only[go_sem,X.next]
   refine Qa ?_
   simp only[go_sem]
   refine Qk ?_
   simp only[go_sem,Q6,Qad,Qaj8,reduceIte,List.mem_singleton,forall_eq,RS.op]
   rw[List.take_of_length_le hge]at hv
   exact hK v (by omega)
def Qbd9 (n:Nat):Prop:=∀(x:St) (deep:Int) (H:Heap) (K:V→Heap→Prop),x.size≤n→x.size≤2^40→deep≤100→(∀b:Bool,K (.c (.bool b)) H)→Qw prog Q2y [.ag x.cells,.c (.int .i64 deep)] H K
def Qa21 (n:Nat):Prop:=∀(l:List St) (deep:Int) (fl:Bool) (H:Heap) (K:V→Heap→Prop),Qy l≤n→Qy l≤2^40→deep≤100→(∀b:Bool,K (.c (.bool b)) H)→Qw prog Qhh [.c (.sl fl 5 (Qaz l)),.c (.int .i64 deep)] H K
theorem Qba3 {n:Nat} (hS:Qbd9 n):Qa21 n:=by
 intro l deep fl H K hn hb hd hK
 refine Qb Qat Qa5a ?_
 have retf:∀(b:Bool) (e:Env),lk 4 e=.c (.bool b)→Q6 Q34 K .ret e H:=by
  intro b e h1
  simp only[go_sem,Q6,Qad,Q34,List.mem_singleton,forall_eq,RS.op,h1]
  exact hK _
 refine Qa ?_
 simp only[go_sem]
 refine Q3 ?_
 refine Qa ?_
 simp only[go_sem]
 refine Qh (Qc (Qu (fun n e1 H1=>∃(i:Nat),n=l.length-i∧i≤l.length∧H1=H∧e1=[(0,.c (.sl fl 5 (Qaz l))),(1,.c (.int .i64 deep)),(5,.c (.int .i64 i))]) l.length ?_ ?_))
 ·exact⟨0,by omega,by omega,rfl,rfl⟩
 ·rintro n e1 H1 ⟨i,hn1,hi,rfl,rfl⟩
  refine Q3 ?_
  refine Qa ?_
  simp only[go_sem,Qa6]
  intro hl
  simp only[LIM]at hl
  refine Qh (Qd rfl ?_ ?_)
  ·intro hc
   have hlt:i<l.length:=by simpa using hc
   have hm:=Qjk (List.getElem_mem hlt)
   refine Qi ?_
   simp only[go_sem]
   refine Qh (Qc ?_)
   refine Qa ?_
   simp only[go_sem,hlt,Qa6,Qdz _ _ hlt,St.take5,St.allOw,St.cells_len]
   refine hS _ deep _ _ (by omega) (by omega) hd fun b=>?_
   simp only[go_sem,Qy7]
   refine Qd rfl ?_ ?_
   ·intro hc2
    refine Qa ?_
    simp only[go_sem]
    refine Qk ?_
    simp only[go_sem,X.next]
    exact retf false _ (by simp[lk])
   ·intro hc2
    refine Qi ?_
    simp only[go_sem]
    refine Qq ?_
    simp only[go_sem,X.next]
    exact⟨Qo (by omega) (by omega),l.length-(i+1),by omega,i+1,rfl,by omega,rfl⟩
  ·intro hc
   refine Qt ?_
   simp only[go_sem,X.next]
   refine Qa ?_
   simp only[go_sem]
   refine Qk ?_
   exact retf true _ (by simp[lk])
theorem Qbdu {n:Nat} (hS:∀m,m<n→Qa21 m):Qbd9 n:=by
 intro x deep H K hn hb hd hK
 have hsz:=x.size_eq
 refine Qb Qat Qa9n ?_
 have retf:∀(b:Bool) (e:Env),lk 4 e=.c (.bool b)→Q6 Q19 K .ret e H:=by
  intro b e h1
  simp only[go_sem,Q6,Qad,Q19,List.mem_singleton,forall_eq,RS.op,h1]
  exact hK _
 refine Qa ?_
 simp only[go_sem,x.cells_eq]
 refine Q3 ?_
 refine Qal ?_
 simp only[go_sem]
 have rest:∀b:Bool,(b=false→1≤deep∧x.args.length=if x.op=4 then 2 else 1)→Qac prog (s_l3Stmt_2.seq Q6h) (Q6 Q19 K)
   [(1,.c (.int .i64 deep)),(2,.c (.pp [.int .i64 x.op,.str x.name,.sl false 4 (Qbo x.args),.sl false 5 (Qaz x.body),.sl false 5 (Qaz x.els)])),(23,.c (.bool b))] H:=by
  intro b hb
  refine Qh (Qd rfl ?_ ?_)
  ·intro hc
   refine Qa ?_
   simp only[go_sem]
   refine Qk ?_
   simp only[go_sem]
   exact retf false _ (by simp[lk])
  intro hc
  obtain⟨hdp,hal⟩:=hb hc
  have hap:0<x.args.length:=by rw[hal];split <;> omega
  refine Qi ?_
  simp only[go_sem]
  refine Qa ?_
  simp only[go_sem]
  refine Q3 ?_
  refine Qa ?_
  simp only[go_sem]
  refine Q11 fun b1=>?_
  simp only[go_sem,Q6i]
  refine Qh (Qd rfl ?_ ?_)
  ·intro hc
   refine Qa ?_
   simp only[go_sem]
   refine Qk ?_
   simp only[go_sem]
   exact retf false _ (by simp[lk])
  intro hc
  refine Qi ?_
  simp only[go_sem]
  refine Q3 ?_
  refine Qa ?_
  simp only[go_sem]
  refine Qh (Qc (Qu (fun n e1 H1=>∃(i:Nat),n=x.args.length-i∧i≤x.args.length∧H1=H∧e1=[(1,.c (.int .i64 deep)),(2,.c (.pp [.int .i64 x.op,.str x.name,.sl false 4 (Qbo x.args),.sl false 5 (Qaz x.body),.sl false 5 (Qaz x.els)])),(6,.c (.int .i64 i))]) x.args.length ?_ ?_))
  ·exact⟨0,by omega,by omega,rfl,rfl⟩
  ·rintro n e1 H1 ⟨i,hn1,hi,rfl,rfl⟩
   refine Q3 ?_
   refine Qa ?_
   simp only[go_sem,Qa2]
   intro hl
   simp only[LIM]at hl
   refine Qh (Qd rfl ?_ ?_)
   ·intro hc
    have hlt:i<x.args.length:=by simpa using hc
    have hm:=Qdn (List.getElem_mem hlt)
    refine Qi ?_
    simp only[go_sem]
    refine Qh (Qc ?_)
    refine Qa ?_
    simp only[go_sem,hlt,Qa2,Qdm _ _ hlt,Ex.take4,Ex.allOw,Ex.cells_len]
    refine Qaqn (by omega) fun b=>?_
    simp only[go_sem,Q6j]
    refine Qd rfl ?_ ?_
    ·intro hc2
     refine Qa ?_
     simp only[go_sem]
     refine Qk ?_
     simp only[go_sem,X.next]
     exact retf false _ (by simp[lk])
    ·intro hc2
     refine Qi ?_
     simp only[go_sem]
     refine Qq ?_
     simp only[go_sem,X.next]
     exact⟨Qo (by omega) (by omega),x.args.length-(i+1),by omega,i+1,rfl,by omega,rfl⟩
   ·intro hc
    refine Qt ?_
    simp only[go_sem,X.next]
    refine Q3 ?_
    refine Qa ?_
    simp only[go_sem,hap,Qa2,Qdm _ _ hap,Ex.cells_eq]
    refine⟨fun _=>Int.le_refl _,?_⟩
    refine Qh (Qd rfl ?_ ?_)
    ·intro hc
     refine Qa ?_
     simp only[go_sem]
     refine Qk ?_
     simp only[go_sem]
     exact retf false _ (by simp[lk])
    intro hc
    refine Qi ?_
    simp only[go_sem]
    refine Q3 ?_
    refine Qa ?_
    simp only[go_sem,Qa6]
    intros
    refine Qh (Qd rfl ?_ ?_)
    ·intro hc
     refine Qa ?_
     simp only[go_sem]
     refine Qk ?_
     simp only[go_sem]
     exact retf false _ (by simp[lk])
    intro hc
    refine Qi ?_
    simp only[go_sem]
    refine Qa ?_
    simp only[go_sem]
    refine⟨Qo (by omega) (by omega),?_⟩
    refine hS (Qy x.body) (by omega) _ _ _ _ _ (Nat.le_refl _) (by omega) (by omega) fun b1=>?_
    simp only[go_sem,Qy6]
    refine⟨fun _=>Qo (by omega) (by omega),?_⟩
    refine⟨fun hb1=>?_,fun hb1=>?_⟩
    ·refine hS (Qy x.els) (by omega) _ _ _ _ _ (Nat.le_refl _) (by omega) (by omega) fun b2=>?_
     simp only[go_sem,Qms]
     refine Qk ?_
     exact retf _ _ (by simp[lk];rfl)
    ·simp only[go_sem,Qms,hb1]
     refine Qk ?_
     exact retf false _ (by simp[lk])
 refine⟨fun hb1=>?_,fun hb1=>?_⟩
 ·replace hb1:=Qrw hb1
  have hdp:1≤deep:=by simp at hb1;omega
  refine Qcm ?_
  simp only[go_sem,Qq4,hb1,Qa2,cond_false]
  refine⟨fun hb2=>?_,fun hb2=>?_⟩
  ·refine Qa85 ?_
   simp only[go_sem,Qjf,Qa2]
   refine rest _ (fun h=>⟨hdp,?_⟩)
   have h1:(x.args.length:Int)=if x.op=4 then 2 else 1:=by
    cases h2:decide (1≤x.op∧x.op≤8) <;> rw[h2]at h <;> simp_all
   by_cases h4:x.op=4
   ·rw[if_pos h4]at h1⊢;omega
   ·rw[if_neg h4]at h1⊢;omega
  ·replace hb2:=Qeg hb2
   simp only[go_sem,Qjf,hb2,Qa2]
   exact rest _ (fun h=>by simp at h)
 ·replace hb1:=Qeg hb1
  simp only[go_sem,Qq4,Qjf,hb1,Qa2,cond_true]
  exact rest _ (fun h=>by simp at h)
theorem Qbdv (n:Nat):Qa21 n:=by
 induction n using Nat.strongRecOn with
 |ind n ih=>exact Qba3 (Qbdu ih)
theorem Qbeq {f:Fn} (hf:Qy f.body≤2^40) (hK:∀b:Bool,K (.c (.bool b)) H):Qw prog Qaq1 [.ag f.cells] H K:=by
 refine Qb Qat Qbev ?_
 have retf:∀(b:Bool) (e:Env),lk 2 e=.c (.bool b)→Q6 Qa5q K .ret e H:=by
  intro b e h1
  simp only[go_sem,Q6,Qad,Qa5q,List.mem_singleton,forall_eq,RS.op,h1]
  exact hK _
 refine Qa ?_
 simp only[go_sem,Fn.cells]
 refine Q3 ?_
 refine Qa ?_
 simp only[go_sem]
 refine Qh (Qc (Qu (fun n e1 H1=>∃(i:Nat),n=f.params.length-i∧i≤f.params.length∧H1=H∧e1=[(1,.c (.pp [.str f.name,.sl false 1 (Qbe f.params),.sl false 5 (Qaz f.body)])),(3,.c (.int .i64 i))]) f.params.length ?_ ?_))
 ·exact⟨0,by omega,by omega,rfl,rfl⟩
 ·rintro n e1 H1 ⟨i,hn1,hi,rfl,rfl⟩
  refine Q3 ?_
  refine Qa ?_
  simp only[go_sem,Qaq]
  intro hl
  simp only[LIM]at hl
  refine Qh (Qd rfl ?_ ?_)
  ·intro hc
   have hlt:i<f.params.length:=by simpa using hc
   refine Qi ?_
   simp only[go_sem]
   refine Qh (Qc ?_)
   refine Qa ?_
   simp only[go_sem,hlt,Qaq,Qfw _ _ hlt]
   refine Q11 fun b=>?_
   simp only[go_sem,Qaot]
   refine Qd rfl ?_ ?_
   ·intro hc2
    refine Qa ?_
    simp only[go_sem]
    refine Qk ?_
    simp only[go_sem,X.next]
    exact retf false _ (by simp[lk])
   ·intro hc2
    refine Qi ?_
    simp only[go_sem]
    refine Qq ?_
    simp only[go_sem,X.next]
    exact⟨Qo (by omega) (by omega),f.params.length-(i+1),by omega,i+1,rfl,by omega,rfl⟩
  ·intro hc
   refine Qt ?_
   simp only[go_sem,X.next]
   refine Qa ?_
   simp only[go_sem]
   refine Q11 fun b=>?_
   simp only[go_sem,Qaou,Qaq]
   intros
   refine⟨fun hb1=>?_,fun hb1=>?_⟩
   ·refine Qbdv _ _ _ _ _ _ (Nat.le_refl _) hf (by omega) fun b2=>?_
    simp only[go_sem,Q5d]
    refine Qk ?_
    exact retf _ _ (by simp[lk];rfl)
   ·simp only[go_sem,Q5d,hb1]
    refine Qk ?_
    exact retf false _ (by simp[lk])
def Qa3:List Fn→Nat
 |[]=>0
 |f::r=>Qy f.body+Qa3 r
theorem Qli {l:List Fn} {f:Fn} (h:f∈l):Qy f.body≤Qa3 l:=by
 induction l with
 |nil=>simp at h
 |cons g r ih=>
  simp only[Qa3]
  rcases List.mem_cons.1 h with rfl|h
  ·omega
  ·have:=ih h;omega
theorem Qga (a b:List Fn):Qa3 (a++b)=Qa3 a+Qa3 b:=by
 induction a with
 |nil=>simp[Qa3]
 |cons x r ih=>simp only[List.cons_append,Qa3,ih];omega
theorem Qafd {l:List Fn} {i:Nat} (h:i<l.length):Qa3 (l.take (i+1))=Qa3 (l.take i)+Qy (l[i]'h).body:=by
 rw[List.take_succ_eq_append_getElem h,Qga];simp[Qa3]
theorem Qz9 (l:List Fn) (i:Nat):Qa3 (l.take i)≤Qa3 l:=by
 conv=>rhs;rw[←List.take_append_drop i l,Qga]
 omega
theorem Qbc0 {l:List Fn} {fl:Bool} (hf:Qa3 l≤2^40) (hK:∀n:Int,K (.c (.int .i64 n)) H):Qw prog Qaei [.ag [.sl fl 3 (Qb2 l)]] H K:=by
 refine Qb Qat Qbdb ?_
 refine Qa ?_
 simp only[go_sem]
 refine Qa ?_
 simp only[go_sem]
 refine Q3 ?_
 refine Qa ?_
 simp only[go_sem]
 refine Qh (Qc (Qu (fun n e1 H1=>∃(i v:Nat),n=l.length-i∧i≤l.length∧v≤Qa3 (l.take i)∧H1=H∧e1=[(1,.c (.pp [.sl fl 3 (Qb2 l)])),(3,.c (.int .i64 v)),(4,.c (.int .i64 i))]) l.length ?_ ?_))
 ·exact⟨0,0,by omega,by omega,by omega,rfl,rfl⟩
 ·rintro n e1 H1 ⟨i,v,hn1,hi,hv,rfl,rfl⟩
  refine Q3 ?_
  refine Qa ?_
  simp only[go_sem,Qbc]
  intro hl
  simp only[LIM]at hl
  refine Qh (Qd rfl ?_ ?_)
  ·intro hc
   have hlt:i<l.length:=by simpa using hc
   have hm:=Qli (List.getElem_mem hlt)
   have htk:=Qafd hlt
   have htl:=Qz9 l (i+1)
   refine Qi ?_
   simp only[go_sem]
   refine Qh (Qc (Qq ?_))
   simp only[go_sem,hlt,Qbc,Qe1 _ _ hlt,Fn.cells]
   refine Qa4h _ _ (Nat.le_refl _) (by omega) fun c hc=>?_
   simp only[go_sem,Qadw]
   refine⟨Qo (by omega) (by omega),?_⟩
   refine Qq ?_
   simp only[go_sem,X.next]
   exact⟨Qo (by omega) (by omega),l.length-(i+1),by omega,i+1,v+c,rfl,by omega,by omega,rfl⟩
  ·intro hc
   refine Qt ?_
   simp only[go_sem,X.next]
   refine Qa ?_
   simp only[go_sem]
   refine Qk ?_
   simp only[go_sem,Q6,Qad,Qa5p,reduceIte,List.mem_singleton,forall_eq,RS.op]
   exact hK _
theorem Q9g {l:List Fn} {fl:Bool} (hf:Qa3 l≤2^40) (hK:∀b:Bool,K (.c (.bool b)) H):Qw prog Qdb [.ag [.sl fl 3 (Qb2 l)]] H K:=by
 refine Qb Qat Qu4 ?_
 have retf:∀(b:Bool) (e:Env),lk 2 e=.c (.bool b)→Q6 Qdt K .ret e H:=by
  intro b e h1
  simp only[go_sem,Q6,Qad,Qdt,List.mem_singleton,forall_eq,RS.op,h1]
  exact hK _
 refine Qa ?_
 simp only[go_sem]
 refine Q3 ?_
 refine Qa ?_
 simp only[go_sem,Qbc]
 intro hl
 simp only[LIM]at hl
 refine Qcm ?_
 simp only[go_sem,Qep]
 refine Qh (Qd rfl ?_ ?_)
 ·intro hc
  refine Qa ?_
  simp only[go_sem]
  refine Qk ?_
  simp only[go_sem]
  exact retf false _ (by simp[lk])
 intro hc
 refine Qi ?_
 simp only[go_sem]
 refine Q3 ?_
 refine Qa ?_
 simp only[go_sem]
 refine Qh (Qc (Qu (fun n e1 H1=>∃(i:Nat),n=l.length-i∧i≤l.length∧H1=H∧e1=[(1,.c (.pp [.sl fl 3 (Qb2 l)])),(3,.c (.int .i64 i))]) l.length ?_ ?_))
 ·exact⟨0,by omega,by omega,rfl,rfl⟩
 ·rintro n e1 H1 ⟨i,hn1,hi,rfl,rfl⟩
  refine Q3 ?_
  refine Qa ?_
  simp only[go_sem,Qbc]
  refine fun _=>?_
  refine Qh (Qd rfl ?_ ?_)
  ·intro hc
   have hlt:i<l.length:=by simpa using hc
   have hm:=Qli (List.getElem_mem hlt)
   refine Qi ?_
   simp only[go_sem]
   refine Qh (Qc ?_)
   refine Qa ?_
   simp only[go_sem,hlt,Qbc,Qe1 _ _ hlt,Fn.take3,Fn.allOw,Fn.cells_len]
   refine Qbeq (by omega) fun b=>?_
   simp only[go_sem,Qeq]
   refine Qd rfl ?_ ?_
   ·intro hc2
    refine Qa ?_
    simp only[go_sem]
    refine Qk ?_
    simp only[go_sem,X.next]
    exact retf false _ (by simp[lk])
   ·intro hc2
    refine Qi ?_
    simp only[go_sem]
    refine Qq ?_
    simp only[go_sem,X.next]
    exact⟨Qo (by omega) (by omega),l.length-(i+1),by omega,i+1,rfl,by omega,rfl⟩
  ·intro hc
   refine Qt ?_
   simp only[go_sem,X.next]
   refine Qa ?_
   simp only[go_sem]
   refine Qbc0 hf fun n=>?_
   simp only[go_sem,Qer]
   refine Qk ?_
   exact retf _ _ (by simp[lk];rfl)
end Go.AE.Y

