/- Part 3 of the proof: the engine, codes, walks and plain laws, each named where it stands. -/
import Derived.Test.YthnafimjdcihlaaGreatDoorZB
open Nat (reduceEqDiff reduceAdd reduceLeDiff reduceLT)
set_option linter.unusedVariables false
set_option linter.unusedSimpArgs false
set_option maxRecDepth 4000
set_option maxHeartbeats 8000000
namespace Go.AE.Y
open Go.Proofs.Tryz
def Qbez:SC:=sR [mJ 7 0,mJ 8 1,bJ 9 .geq 7 8,mJ 10 9,gTm 11 10 0,gTm 12 10 2,gT 13 10 (.bin 0 .leq (.t 11) (.t 12)),pF 14 10 13,mJ 6 14] [6] .ret
def Qbkc:SC:=sR [fB 6 false] [0,1,2] Qbez
theorem Qbj3:mFn prog Qt2 3 15 Qbkc Quj=true:=by kernel_rfl
def Qlp:List Item:=[oJ 8 7]
def Q2c:SC:=cT 8 (sR [fB 2 false] [2] .ret) .skip
def Qlq:List Item:=[oJ 22 21]
def Q2d:SC:=cT 22 (sR [fB 2 false] [2] .ret) .skip
def Q2e:SC:=.reg [mJ 14 3,cJ 15 .add 14 1,mJ 3 15] [1,3]
def Q2f:SC:=.seq (.block 1 (sR (fJ 16 0 1::lJ 17 16::mJ 18 3::iJ 19 3 17 18::tJ 20 3 19::aJ 21 Qaxp [.t 20]::Qlq) [1,3,22] Q2d)) Q2e
def Qyz:SC:=.seq (sR [mJ 9 3,fJ 10 0 1,lJ 11 10,nJ 12 11,bJ 13 .lss 9 12] [1,3,13] (cT 13 .skip (.exit 0))) Q2f
def Qlr:List Item:=[cJ 25 .leq 24 40,mJ 2 25]
def Q2g:SC:=sR (tJ 23 1 1::aJ 24 Qao6 [.t 23]::Qlr) [2] .ret
def Q2h:SC:=.seq (sR [zJ 3 0] [1,3] (bL 0 Qyz)) Q2g
def Qyy:SC:=.seq (sR (fJ 4 0 1::lJ 5 4::nJ 6 5::aJ 7 Qt2 [.t 6,kI 1,kI 4]::Qlp) [1,8] Q2c) Q2h
def Q8d:SC:=sR [vJ 1 0,fB 2 false] [1] Qyy
theorem Q52:mFn prog Qgp 1 26 Q8d Qic=true:=by kernel_rfl
def Qau8:List Item:=[oJ 17 16]
def Qbe4:SC:=cT 17 (sR [fB 2 false] [2] .ret) .skip
def Qbe5:SC:=.reg [mJ 9 3,cJ 10 .add 9 1,mJ 3 10] [1,3]
def Qbe6:SC:=.seq (.block 1 (sR (fJ 11 1 1::lJ 12 11::mJ 13 3::iJ 14 1 12 13::lJ 15 14::aJ 16 Qft [.t 15]::Qau8) [1,3,17] Qbe4)) Qbe5
def Qba9:SC:=.seq (sR [mJ 4 3,fJ 5 1 1,lJ 6 5,nJ 7 6,bJ 8 .lss 4 7] [1,3,8] (cT 8 .skip (.exit 0))) Qbe6
def Qag9:List Item:=[pF 31 27 30,mJ 2 31]
def Qau9:List Item:=mJ 21 20::gTf 22 21 1 1::gTl 23 21 22::gT 24 21 (.len (.t 23))::gT 25 21 (.bin 0 .leq (.t 24) (kI 3))::pF 26 21 25::mJ 27 26::gTf 28 27 2 1::gTl 29 27 28::.e (some 30) (some (27,true)) (.call Qom [.t 29,kI 4])::Qag9
def Qbe7:SC:=sR (fJ 18 0 1::lJ 19 18::aJ 20 Qft [.t 19]::Qau9) [2] .ret
def Qbe8:SC:=.seq (sR [zJ 3 0] [1,3] (bL 0 Qba9)) Qbe7
def Qbkd:SC:=sR [vJ 1 0,fB 2 false] [1] Qbe8
theorem Qbj4:mFn prog Qaxp 1 32 Qbkd Qic=true:=by kernel_rfl
def Qaoh:List Item:=[bJ 20 .add 12 19,mJ 3 20]
def Qba3:SC:=.reg [mJ 10 4,cJ 11 .add 10 1,mJ 4 11] [1,3,4]
def Qba4:SC:=.seq (.block 1 (.reg (mJ 12 3::fJ 13 0 1::lJ 14 13::mJ 15 4::iJ 16 3 14 15::fJ 17 2 16::lJ 18 17::aJ 19 Qol [.t 18]::Qaoh) [1,3,4])) Qba3
def Qa5w:SC:=.seq (sR [mJ 5 4,fJ 6 0 1,lJ 7 6,nJ 8 7,bJ 9 .lss 5 8] [1,3,4,9] (cT 9 .skip (.exit 0))) Qba4
def Qba5:SC:=sR [mJ 21 3,mJ 2 21] [2] .ret
def Qba6:SC:=.seq (sR [zJ 4 0] [1,3,4] (bL 0 Qa5w)) Qba5
def Qba7:SC:=sR [zJ 3 0] [1,3] Qba6
def Qbil:SC:=sR [vJ 1 0,zJ 2 0] [1] Qba7
theorem Qbib:mFn prog Qao6 1 22 Qbil Qic=true:=by kernel_rfl
def Qa0x:SC:=cT 3 (sR [zJ 2 1] [2] .ret) .skip
def Qa0y:SC:=sR [zJ 2 0] [2] .ret
def Qa0z:SC:=.seq (sR [mJ 3 0] [3] Qa0x) Qa0y
def Qbbl:SC:=sR [zJ 2 0] [0] Qa0z
theorem Qa9y:mFn prog Qh8 1 4 Qbbl Qic=true:=by kernel_rfl
def Qoi:List Item:=[gT 13 10 (.not (.t 12)),pF 14 10 13,mJ 2 14]
def Qzw:List Item:=mJ 5 4::gTm 6 5 0::gT 7 5 (.lens (.t 6))::gT 8 5 (.bin 0 .leq (.t 7) (kI 4))::pF 9 5 8::mJ 10 9::gTm 11 10 0::.e (some 12) (some (10,true)) (.call Qao5 [.t 11])::Qoi
def Qasf:SC:=sR (mJ 3 0::aJ 4 Qao4 [.t 3,kI 1]::Qzw) [2] .ret
def Qa2p:SC:=sR [fB 2 false] [0] Qasf
theorem Qayk:mFn prog Qft 1 15 Qa2p Qic=true:=by kernel_rfl
def Q9g:List Item:=[oJ 18 17]
def Qaz1:SC:=cT 18 (sR [fB 4 false] [4] .ret) .skip
def Qaz2:SC:=.reg [mJ 10 5,cJ 11 .add 10 1,mJ 5 11] [0,1,5]
def Qaz3:SC:=.seq (.block 1 (sR (mJ 12 0::mJ 13 5::iJ 14 5 12 13::tJ 15 5 14::mJ 16 1::aJ 17 Qaeu [.t 15,.t 16]::Q9g) [0,1,5,18] Qaz1)) Qaz2
def Qavb:SC:=.seq (sR [mJ 6 5,mJ 7 0,nJ 8 7,bJ 9 .lss 6 8] [0,1,5,9] (cT 9 .skip (.exit 0))) Qaz3
def Qaz4:SC:=sR [fB 4 true] [4] .ret
def Qaz5:SC:=.seq (sR [zJ 5 0] [0,1,5] (bL 0 Qavb)) Qaz4
def Qbba:SC:=sR [fB 4 false] [0,1] Qaz5
theorem Qa9v:mFn prog Qom 2 19 Qbba Qat4=true:=by kernel_rfl
def Q9d:List Item:=[bJ 27 .add 20 26,mJ 3 27]
def Q9e:List Item:=.chk 23 none (.iad 5 (.t 21) (.t 22))::hJ 25 24::bJ 20 .add 13 19::aJ 26 Qol [.t 25]::Q9d
def Qazn:SC:=.reg [mJ 11 4,cJ 12 .add 11 1,mJ 4 12] [0,3,4]
def Qazo:SC:=.seq (.block 1 (.dreg 16 [0,1,2,3,4,5,8,9,10,11,12,6,10,12,7,13,14,15] ( mJ 13 3::mJ 14 0::mJ 15 4::iJ 16 5 14 15::fJ 17 3 16::lJ 18 17::mJ 21 0::mJ 22 4::iJ 23 5 21 22::fJ 24 4 23::lJ 25 24::aJ 19 Qol [.t 18]::Q9e) [0,3,4])) Qazn
def Qau7:SC:=.seq (sR [mJ 7 4,mJ 8 0,nJ 9 8,bJ 10 .lss 7 9] [0,3,4,10] (cT 10 .skip (.exit 0))) Qazo
def Qazp:SC:=sR [mJ 28 3,mJ 2 28] [2] .ret
def Qazq:SC:=.seq (sR [zJ 4 0] [0,3,4] (bL 0 Qau7)) Qazp
def Qazr:SC:=sR [mJ 5 0,nJ 6 5,mJ 3 6] [0,3] Qazq
def Qba8:SC:=sR [zJ 2 0] [0] Qazr
theorem Qa9u:mFn prog Qol 1 29 Qba8 Qic=true:=by kernel_rfl
def Qaod:List Item:=[mJ 16 1,bJ 17 .neq 15 16]
def Qbap:SC:=cT 17 (sR [fB 4 false] [4] .ret) .skip
def Qbaq:SC:=.reg [mJ 10 5,cJ 11 .add 10 1,mJ 5 11] [0,1,5]
def Qbar:SC:=.seq (.block 1 (sR (mJ 12 0::mJ 13 5::fI 14 (.idx (.t 12) (.t 13))::aJ 15 Q5d [.t 14]::Qaod) [0,1,5,17] Qbap)) Qbaq
def Qa5h:SC:=.seq (sR [mJ 6 5,mJ 7 0,fI 8 (.lens (.t 7)),bJ 9 .lss 6 8] [0,1,5,9] (cT 9 .skip (.exit 0))) Qbar
def Qbas:SC:=sR [mJ 18 0,fI 19 (.lens (.t 18)),cJ 20 .gtr 19 0,mJ 4 20] [4] .ret
def Qbat:SC:=.seq (sR [zJ 5 0] [0,1,5] (bL 0 Qa5h)) Qbas
def Qbij:SC:=sR [fB 4 false] [0,1] Qbat
theorem Qbh9:mFn prog Qao4 2 21 Qbij Qat4=true:=by kernel_rfl
def Qaoe:List Item:=[mJ 3 5]
def Qbav:SC:=cT 17 (sR [fB 2 true] [2] .ret) .skip
def Qbaw:SC:=.reg [mJ 10 4,cJ 11 .add 10 1,mJ 4 11] [0,3,4]
def Qbax:SC:=.seq (.block 1 (sR [mJ 12 3,mJ 13 4,iJ 14 1 12 13,lJ 15 14,mJ 16 0,bJ 17 .eql 15 16] [0,3,4,17] Qbav)) Qbaw
def Qa5i:SC:=.seq (sR [mJ 6 4,mJ 7 3,nJ 8 7,bJ 9 .lss 6 8] [0,3,4,9] (cT 9 .skip (.exit 0))) Qbax
def Qbay:SC:=sR [fB 2 false] [2] .ret
def Qbaz:SC:=.seq (sR [zJ 4 0] [0,3,4] (bL 0 Qa5i)) Qbay
def Qba0:SC:=sR (aJ 5 Qn8 []::Qaoe) [0,3] Qbaz
def Qbik:SC:=sR [fB 2 false] [0] Qba0
theorem Qbia:mFn prog Qao5 1 18 Qbik Qic=true:=by kernel_rfl
def Qrm:List Item:=[.chk 17 (some (15,false)) (.ld 1 false (.t 16)),.chk 18 (some (15,false)) (.len (.t 17)),gF 22 15 (.bin 0 .neq (.t 18) (.t 21)),pT 23 15 22]
def Q06:List Item:=gF 13 9 (.not (.t 12))::pT 14 9 13::mJ 15 14::gFf 16 15 2 2::gFl 17 15 16::gF 18 15 (.len (.t 17))::gFf 19 15 0 2::gFl 20 15 19::.e (some 21) (some (15,false)) (.call Qaet [.t 20])::Qrm
def s_l3Stmt_2:SC:=cT 23 (sR [fB 4 false] [4] .ret) .skip
def Qahj:List Item:=[fI 36 (.bin 1 .neq (.t 32) (.t 35)),mJ 37 36,gFm 38 37 5,gF 39 37 (.not (.t 38)),gFm 40 37 39,gTf 41 40 1 2,gTl 42 40 41,gT 43 40 (.bin 0 .neq (.t 42) (.k (.c (.str [])))),gF 44 37 (.pick (.t 40) (.t 43) (.k (.c (.bool false)))),pT 45 37 44]
def Qa50:SC:=cT 45 (sR [fB 4 false] [4] .ret) .skip
def Qahk:List Item:=[oJ 59 58]
def Qa51:SC:=cT 59 (sR [fB 4 false] [4] .ret) .skip
def Qa52:SC:=.reg [mJ 51 6,cJ 52 .add 51 1,mJ 6 52] [1,2,6]
def Qa53:SC:=.seq (.block 1 (sR (fJ 53 2 2::lJ 54 53::mJ 55 6::iJ 56 4 54 55::tJ 57 4 56::aJ 58 Qmi [.t 57]::Qahk) [1,2,6,59] Qa51)) Qa52
def Qaz0:SC:=.seq (sR [mJ 46 6,fJ 47 2 2,lJ 48 47,nJ 49 48,bJ 50 .lss 46 49] [1,2,6,50] (cT 50 .skip (.exit 0))) Qa53
def Qazs:SC:=cT 70 (sR [fB 4 false] [4] .ret) .skip
def Qazt:SC:=cT 95 (sR [fB 4 false] [4] .ret) .skip
def Qvj:List Item:=[pF 107 101 106,mJ 4 107]
def Q9f:List Item:=mJ 101 100::gTf 102 101 4 2::gTl 103 101 102::gTm 104 101 1::gT 105 101 (.bin 0 .sub (.t 104) (kI 1))::.e (some 106) (some (101,true)) (.call Qom [.t 103,.t 105])::Qvj
def Qazu:SC:=sR (fJ 96 3 2::lJ 97 96::mJ 98 1::cJ 99 .sub 98 1::aJ 100 Qom [.t 97,.t 99]::Q9f) [4] .ret
def Qazv:SC:=.seq (sR [fJ 71 4 2,lJ 72 71,nJ 73 72,cJ 74 .gtr 73 0,mJ 75 74,gTf 76 75 0 2,gTl 77 75 76,gT 78 75 (.bin 0 .neq (.t 77) (kI 5)),pF 79 75 78,mJ 80 79,gFf 81 80 3 2,gFl 82 80 81,gF 83 80 (.len (.t 82)),gF 84 80 (.bin 0 .gtr (.t 83) (kI 0)),gFm 85 80 84,gTf 86 85 0 2,gTl 87 85 86,gT 88 85 (.bin 0 .neq (.t 87) (kI 5)),gF 89 80 (.pick (.t 85) (.t 88) (.k (.c (.bool false)))),gFm 90 80 89,gTf 91 90 0 2,gTl 92 90 91,gT 93 90 (.bin 0 .neq (.t 92) (kI 6)),gF 94 80 (.pick (.t 90) (.t 93) (.k (.c (.bool false)))),pT 95 80 94] [1,2,95] Qazt) Qazu
def Qazw:SC:=.seq (sR [fJ 60 0 2,lJ 61 60,cJ 62 .eql 61 8,mJ 63 62,gTf 64 63 2 2,gTl 65 63 64,gT 66 63 (.iad 4 (.t 65) (kI 0)),gTf 67 63 0 66,gTl 68 63 67,gT 69 63 (.bin 0 .neq (.t 68) (kI 13)),pF 70 63 69] [1,2,70] Qazs) Qazv
def Qazx:SC:=.seq (sR [zJ 6 0] [1,2,6] (bL 0 Qaz0)) Qazw
def Qazy:SC:=.seq (sR (mJ 32 5::fJ 33 1 2::lJ 34 33::aJ 35 Qft [.t 34]::Qahj) [1,2,45] Qa50) Qazx
def Qahi:SC:=sR [fJ 24 0 2,lJ 25 24,cJ 26 .eql 25 1,mJ 27 26,gFf 28 27 0 2,gFl 29 27 28,gF 30 27 (.bin 0 .eql (.t 29) (kI 2)),pT 31 27 30,mJ 5 31] [1,2,5] Qazy
def Qazz:SC:=.seq (.seq (.dreg 17 [0,1,2,3,4,5,6,7,8,9,10,11,12,13,14,10,11,15,16] ( mJ 7 1::cJ 8 .lss 7 1::mJ 9 8::gFf 10 9 0 2::gFl 11 9 10::.e (some 12) (some (9,false)) (.call Qt2 [.t 11,kI 1,kI 8])::Q06) [1,2,23]) s_l3Stmt_2) Qahi
def Qbe9:SC:=sR [vJ 2 0,fB 4 false] [1,2] Qazz
theorem Qben:mFn prog Qaeu 2 108 Qbe9 Qat4=true:=by kernel_rfl
def Qa2k:SC:=cT 20 (sR [mJ 21 5,mJ 4 21] [4] .ret) .skip
def Qa2l:SC:=.reg [mJ 11 5,cJ 12 .add 11 1,mJ 5 12] [1,2,5]
def Qa2m:SC:=.seq (.block 1 (sR [fJ 13 0 2,lJ 14 13,mJ 15 5,iJ 16 3 14 15,fJ 17 0 16,lJ 18 17,mJ 19 1,bJ 20 .eql 18 19] [1,2,5,20] Qa2k)) Qa2l
def Qaw1:SC:=.seq (sR [mJ 6 5,fJ 7 0 2,lJ 8 7,nJ 9 8,bJ 10 .lss 6 9] [1,2,5,10] (cT 10 .skip (.exit 0))) Qa2m
def Qa2n:SC:=sR [zJ 4 (-1)] [4] .ret
def Qa2o:SC:=.seq (sR [zJ 5 0] [1,2,5] (bL 0 Qaw1)) Qa2n
def Qbbz:SC:=sR [vJ 2 0,zJ 4 0] [1,2] Qa2o
theorem Qa93:mFn prog Qxi 2 22 Qbbz Qat4=true:=by kernel_rfl
def Q9b:List Item:=[cJ 20 .geq 19 0,mJ 17 20]
def Qay1:SC:=cT 21 (sR [zJ 2 4] [2] .ret) .skip
def Qay2:SC:=cT 17 (sR [zJ 2 3] [2] .ret) (sR [mJ 22 0,fI 23 (.bin 0 .eql (.t 22) (.k (.c (.int .u8 32)))),mJ 24 23,gFm 25 24 0,gF 26 24 (.bin 0 .eql (.t 25) (.k (.c (.int .u8 10)))),pT 27 24 26,mJ 21 27] [21] Qay1)
def Qay3:SC:=cT 10 (sR [zJ 2 2] [2] .ret) (sR (mJ 18 0::eI 19 (.call Q5e [.k (.c (.str [40,41,123,125,59,44,43,45,42,47,37,60,61,38,33,64])),.t 18])::Q9b) [0,17] Qay2)
def Qay4:SC:=cT 3 (sR [zJ 2 1] [2] .ret) (sR [mJ 11 0,fI 12 (.bin 0 .geq (.t 11) (.k (.c (.int .u8 48)))),mJ 13 12,gTm 14 13 0,gT 15 13 (.bin 0 .leq (.t 14) (.k (.c (.int .u8 57)))),pF 16 13 15,mJ 10 16] [0,10] Qay3)
def Qay5:SC:=sR [zJ 2 0] [2] .ret
def Qay6:SC:=.seq (.block 0 (sR [mJ 4 0,fI 5 (.bin 0 .geq (.t 4) (.k (.c (.int .u8 97)))),mJ 6 5,gTm 7 6 0,gT 8 6 (.bin 0 .leq (.t 7) (.k (.c (.int .u8 122)))),pF 9 6 8,mJ 3 9] [0,3] Qay4)) Qay5
def Qbau:SC:=sR [zJ 2 0] [0] Qay6
theorem Qa9r:mFn prog Q5d 1 28 Qbau Qic=true:=by kernel_rfl
def Qai8:SC:=sR [fI 1 (.bsl 1 [.k (.c (.str [102,110])),.k (.c (.str [108,101,116])),.k (.c (.str [115,97,121])),.k (.c (.str [112,117,116])),.k (.c (.str [105,102])),.k (.c (.str [101,108,115,101])),.k (.c (.str [108,111,111,112])),.k (.c (.str [98,97,99,107])),.k (.c (.str [100,111]))]),mJ 0 1] [0] .ret
def Qasg:SC:=sR [fI 0 (.mv (.k (.c (.sl true 1 []))))] [] Qai8
def Q3n:List RS:=[.tmp 0]
theorem Qapz:mFn prog Qn8 0 2 Qasg Q3n=true:=by kernel_rfl
def Qa5x:SC:=cT 4 (sR [zJ 2 2] [2] .ret) .skip
def Qa5y:SC:=sR [zJ 2 1] [2] .ret
def Qa5z:SC:=.seq (sR [mJ 3 0,cJ 4 .eql 3 4] [4] Qa5x) Qa5y
def Qbe3:SC:=sR [zJ 2 0] [0] Qa5z
theorem Qbem:mFn prog Qaet 1 5 Qbe3 Qic=true:=by kernel_rfl
def Qip:List Item:=[gT 8 5 (.bin 0 .leq (.t 7) (kI 30)),pF 9 5 8,mJ 2 9]
def Qp8:List Item:=mJ 5 4::gT 6 5 (.ld 4 true (.t 1))::.e (some 7) (some (5,true)) (.call Qxe [.t 6])::Qip
def Qad2:SC:=sR (tJ 3 4 1::aJ 4 Q21 [.t 3,kI 6]::Qp8) [2] .ret
def Qanh:SC:=sR [vJ 1 0,fB 2 false] [1] Qad2
theorem Qaj4:mFn prog Qmi 1 10 Qanh Qic=true:=by kernel_rfl
def Qazi:SC:=cT 16 (sR [mJ 17 5,mJ 4 17] [4] .ret) .skip
def Qazj:SC:=.reg [mJ 10 5,cJ 11 .add 10 1,mJ 5 11] [0,1,5]
def Qazk:SC:=.seq (.block 1 (sR [mJ 12 0,mJ 13 5,fI 14 (.idx (.t 12) (.t 13)),mJ 15 1,bJ 16 .eql 14 15] [0,1,5,16] Qazi)) Qazj
def Qau6:SC:=.seq (sR [mJ 6 5,mJ 7 0,fI 8 (.lens (.t 7)),bJ 9 .lss 6 8] [0,1,5,9] (cT 9 .skip (.exit 0))) Qazk
def Qazl:SC:=sR [zJ 4 (-1)] [4] .ret
def Qazm:SC:=.seq (sR [zJ 5 0] [0,1,5] (bL 0 Qau6)) Qazl
def Qba2:SC:=sR [zJ 4 0] [0,1] Qazm
theorem Qa9t:mFn prog Q5e 2 18 Qba2 Qat4=true:=by kernel_rfl
def Qag6:List Item:=[mJ 9 12,fI 13 (.ext (.t 9) 0),fI 14 (.ext (.t 9) 1),mJ 5 13,mJ 6 14]
def Qrl:List Item:=[gF 30 23 (.not (.t 29)),pT 31 23 30]
def Q04:List Item:=gF 21 17 (.not (.t 20))::pT 22 17 21::mJ 23 22::gFf 24 23 3 2::gFl 25 23 24::gF 26 23 (.len (.t 25))::gFm 27 23 5::gFm 28 23 6::.e (some 29) (some (23,false)) (.call Qt2 [.t 26,.t 27,.t 28])::Qrl
def s_l2Form_3:SC:=cT 31 (sR [fB 4 false] [4] .ret) .skip
def Q05:List Item:=[gF 58 54 (.not (.t 57)),pT 59 54 58,mJ 60 59,gFf 61 60 0 2,gFl 62 60 61,gF 63 60 (.bin 0 .neq (.t 62) (kI 1)),gFm 64 60 63,gTf 65 64 1 2,gTl 66 64 65,gT 67 64 (.bin 0 .neq (.t 66) (kI 0)),gF 68 60 (.pick (.t 64) (.t 67) (.k (.c (.bool false)))),pT 69 60 68]
def Qag7:List Item:=fI 44 (.bin 1 .neq (.t 40) (.t 43))::mJ 45 44::gFm 46 45 7::gF 47 45 (.not (.t 46))::gFm 48 45 47::gTf 49 48 2 2::gTl 50 48 49::gT 51 48 (.bin 0 .neq (.t 50) (.k (.c (.str []))))::gF 52 45 (.pick (.t 48) (.t 51) (.k (.c (.bool false))))::pT 53 45 52::mJ 54 53::gFf 55 54 1 2::gFl 56 54 55::.e (some 57) (some (54,false)) (.call Qt2 [.t 56,kI 0,kI 255])::Q05
def s_l2Form_6:SC:=cT 69 (sR [fB 4 false] [4] .ret) .skip
def Qag8:List Item:=[oJ 85 84]
def Qa5p:SC:=cT 85 (sR [fB 4 false] [4] .ret) .skip
def Qa5q:SC:=.reg [mJ 75 8,cJ 76 .add 75 1,mJ 8 76] [1,2,8]
def Qay8:SC:=.seq (.block 1 (sR (fJ 77 3 2::lJ 78 77::mJ 79 8::iJ 80 4 78 79::tJ 81 4 80::mJ 82 1::cJ 83 .sub 82 1::aJ 84 Q21 [.t 81,.t 83]::Qag8) [1,2,8,85] Qa5p)) Qa5q
def Qau4:SC:=.seq (sR [mJ 70 8,fJ 71 3 2,lJ 72 71,nJ 73 72,bJ 74 .lss 70 73] [1,2,8,74] (cT 74 .skip (.exit 0))) Qay8
def Qay9:SC:=sR [fB 4 true] [4] .ret
def Qag4:SC:=.seq (sR [zJ 8 0] [1,2,8] (bL 0 Qau4)) Qay9
def Qaza:SC:=.seq (sR (mJ 40 7::fJ 41 2 2::lJ 42 41::aJ 43 Qft [.t 42]::Qag7) [1,2,69] s_l2Form_6) Qag4
def Qag5:SC:=sR [fJ 32 0 2,lJ 33 32,cJ 34 .eql 33 2,mJ 35 34,gFf 36 35 0 2,gFl 37 35 36,gF 38 35 (.bin 0 .eql (.t 37) (kI 13)),pT 39 35 38,mJ 7 39] [1,2,7] Qaza
def Qazb:SC:=.seq (sR (mJ 15 1::cJ 16 .lss 15 1::mJ 17 16::gFf 18 17 0 2::gFl 19 17 18::.e (some 20) (some (17,false)) (.call Qt2 [.t 19,kI 1,kI 13])::Q04) [1,2,31] s_l2Form_3) Qag5
def Qazc:SC:=sR (fJ 10 0 2::lJ 11 10::aJ 12 Qaes [.t 11]::Qag6) [1,2,5,6] Qazb
def Qbe1:SC:=sR [vJ 2 0,fB 4 false] [1,2] Qazc
theorem Qbek:mFn prog Q21 2 86 Qbe1 Qat4=true:=by kernel_rfl
def Q9c:List Item:=[bJ 19 .add 12 18,mJ 3 19]
def Qazd:SC:=.reg [mJ 10 4,cJ 11 .add 10 1,mJ 4 11] [1,3,4]
def Qaze:SC:=.seq (.block 1 (.reg (mJ 12 3::fJ 13 3 1::lJ 14 13::mJ 15 4::iJ 16 4 14 15::tJ 17 4 16::aJ 18 Qxe [.t 17]::Q9c) [1,3,4])) Qazd
def Qau5:SC:=.seq (sR [mJ 5 4,fJ 6 3 1,lJ 7 6,nJ 8 7,bJ 9 .lss 5 8] [1,3,4,9] (cT 9 .skip (.exit 0))) Qaze
def Qazf:SC:=sR [mJ 20 3,mJ 2 20] [2] .ret
def Qazg:SC:=.seq (sR [zJ 4 0] [1,3,4] (bL 0 Qau5)) Qazf
def Qazh:SC:=sR [zJ 3 1] [1,3] Qazg
def Qba1:SC:=sR [vJ 1 0,zJ 2 0] [1] Qazh
theorem Qa9s:mFn prog Qxe 1 21 Qba1 Qic=true:=by kernel_rfl
def Qa5r:SC:=cT 5 .skip (.reg [cJ 7 .eql 4 2,mJ 5 7] [4,5])
def Qa5s:SC:=cT 8 .skip (.reg [cJ 10 .eql 4 12,mJ 8 10] [4,8])
def Qa5t:SC:=cT 11 (sR [zJ 2 0,zJ 3 3] [2,3] .ret) .skip
def Qaof:SC:=cT 8 (sR [zJ 2 1,zJ 3 1] [2,3] .ret) (sR [cJ 12 .eql 4 13,mJ 11 12] [11] Qa5t)
def Qaog:SC:=cT 5 (sR [zJ 2 0,zJ 3 0] [2,3] .ret) (.seq (sR [cJ 9 .eql 4 11,mJ 8 9] [4,8] Qa5s) Qaof)
def Qa5u:SC:=.block 0 (.seq (sR [cJ 6 .eql 4 1,mJ 5 6] [4,5] Qa5r) Qaog)
def Q6z:SC:=sR [zJ 2 2,zJ 3 2] [2,3] .ret
def Qa5v:SC:=.seq (sR [mJ 4 0] [4] Qa5u) Q6z
def Qbe2:SC:=sR [zJ 2 0,zJ 3 0] [0] Qa5v
def Q3l:List RS:=[.tmp 2,.tmp 3]
theorem Qbel:mFn prog Qaes 1 13 Qbe2 Q3l=true:=by kernel_rfl
end Go.AE.Y

namespace Go.AE.Y
open Go.Proofs.Tryz
def Qaqx:SC:=sR [mJ 7 1,mJ 8 0,bJ 9 .leq 7 8,mJ 10 9,gTm 11 10 0,gTm 12 10 2,gT 13 10 (.bin 0 .leq (.t 11) (.t 12)),pF 14 10 13,mJ 6 14] [6] .ret
def Qay0:SC:=sR [fB 6 false] [0,1,2] Qaqx
theorem Qayd:mFn prog Qfq 3 15 Qay0 Quj=true:=by kernel_rfl
end Go.AE.Y

namespace Go.AE.Y
open Go.Proofs.Tryz
def Qzg:List Item:=[mJ 2 4]
def Qaqo:SC:=sR (mJ 3 0::aJ 4 Qfq [.t 3,kI 0,kI 255]::Qzg) [2] .ret
def Qayy:SC:=sR [fB 2 false] [0] Qaqo
theorem Qayb:mFn prog Qt0 1 5 Qayy Qic=true:=by kernel_rfl
end Go.AE.Y

attribute [go_sem_proc] reduceIte reduceEqDiff reduceAdd reduceLeDiff reduceLT reduceCtorEq
namespace Go.AE.Y
open Go.Proofs.Tryz
theorem Qah:prog.follows .mixedOrders=true:=by kernel_rfl
end Go.AE.Y

namespace Go.AE.Y
def dgT:Nat→Nat→List UInt8→List UInt8
 |0,_,s=>s
 |f+1,k,s=>if k=0 then s else dgT f (k / 10) (UInt8.ofNat (48+k % 10)::s)
def mkT (k:Nat):List UInt8:=if k=0 then [109,48]else 109::dgT 64 k []
mutual
def Ex.cnt:Ex→Nat
 |.mk _ _ _ kids=>3+Qad kids
def Qad:List Ex→Nat
 |[]=>0
 |x::r=>x.cnt+Qad r
end
mutual
def Ex.mark:Ex→Nat→Ex
 |.mk _ _ _ kids,k=>.mk k (k+1) (mkT (k+2)) (Qbb kids (k+3))
def Qbb:List Ex→Nat→List Ex
 |[],_=>[]
 |x::r,k=>x.mark k::Qbb r (k+x.cnt)
end
mutual
def St.mcnt:St→Nat
 |.mk _ _ args body els=>2+Qad args+Q5 body+Q5 els
def Q5:List St→Nat
 |[]=>0
 |x::r=>x.mcnt+Q5 r
end
mutual
def St.mark:St→Nat→St
 |.mk _ _ args body els,k=>.mk k (mkT (k+1)) (Qbb args (k+2)) (Qa2 body (k+2+Qad args)) (Qa2 els (k+2+Qad args+Q5 body))
def Qa2:List St→Nat→List St
 |[],_=>[]
 |x::r,k=>x.mark k::Qa2 r (k+x.mcnt)
end
def Qav:List (List UInt8)→Nat→List (List UInt8)
 |[],_=>[]
 |_::r,k=>mkT k::Qav r (k+1)
def Fn.mcnt (f:Fn):Nat:=1+f.params.length+Q5 f.body
def Fn.mark (f:Fn)(k:Nat):Fn:=⟨mkT k,Qav f.params (k+1),Qa2 f.body (k+1+f.params.length)⟩
def Qaj:List Fn→Nat
 |[]=>0
 |f::r=>f.mcnt+Qaj r
def Qbk:List Fn→Nat→List Fn
 |[],_=>[]
 |f::r,k=>f.mark k::Qbk r (k+f.mcnt)
theorem Ex.cnt_eq (x:Ex):x.cnt=3+Qad x.kids:=by cases x;simp only[Ex.cnt,Ex.kids]
theorem Ex.mark_eq (x:Ex)(k:Nat):x.mark k=.mk k (k+1) (mkT (k+2)) (Qbb x.kids (k+3)):=by cases x;simp only[Ex.mark,Ex.kids]
theorem St.mcnt_eq (x:St):x.mcnt=2+Qad x.args+Q5 x.body+Q5 x.els:=by cases x;simp only[St.mcnt,St.args,St.body,St.els]
theorem St.mark_eq (x:St)(k:Nat):x.mark k=.mk k (mkT (k+1)) (Qbb x.args (k+2)) (Qa2 x.body (k+2+Qad x.args)) (Qa2 x.els (k+2+Qad x.args+Q5 x.body)):=by
 cases x;simp only[St.mark,St.args,St.body,St.els]
theorem Qw9 (a b:List Ex):Qad (a++b)=Qad a+Qad b:=by
 induction a with
 |nil=>simp[Qad]
 |cons x r ih=>simp only[List.cons_append,Qad,ih];omega
theorem Qaeo (a b:List Ex)(k:Nat):Qbb (a++b) k=Qbb a k++Qbb b (k+Qad a):=by
 induction a generalizing k with
 |nil=>simp[Qbb,Qad]
 |cons x r ih=>simp only[List.cons_append,Qbb,Qad,ih,Nat.add_assoc]
theorem Qr3 (a b:List St):Q5 (a++b)=Q5 a+Q5 b:=by
 induction a with
 |nil=>simp[Q5]
 |cons x r ih=>simp only[List.cons_append,Q5,ih];omega
theorem Qajj (a b:List St)(k:Nat):Qa2 (a++b) k=Qa2 a k++Qa2 b (k+Q5 a):=by
 induction a generalizing k with
 |nil=>simp[Qa2,Q5]
 |cons x r ih=>simp only[List.cons_append,Qa2,Q5,ih,Nat.add_assoc]
theorem Qqr (a b:List Fn):Qaj (a++b)=Qaj a+Qaj b:=by
 induction a with
 |nil=>simp[Qaj]
 |cons x r ih=>simp only[List.cons_append,Qaj,ih];omega
theorem Qaew (a b:List Fn)(k:Nat):Qbk (a++b) k=Qbk a k++Qbk b (k+Qaj a):=by
 induction a generalizing k with
 |nil=>simp[Qbk,Qaj]
 |cons x r ih=>simp only[List.cons_append,Qbk,Qaj,ih,Nat.add_assoc]
theorem Qaw7 (a b:List (List UInt8))(k:Nat):Qav (a++b) k=Qav a k++Qav b (k+a.length):=by
 induction a generalizing k with
 |nil=>simp[Qav]
 |cons x r ih=>simp only[List.cons_append,Qav,ih,List.length_cons];rw[show k+1+r.length=k+(r.length+1)by omega]
theorem Qqi (l:List Ex)(k:Nat):(Qbb l k).length=l.length:=by
 induction l generalizing k with
 |nil=>rfl
 |cons x r ih=>simp only[Qbb,List.length_cons,ih]
theorem Qr2 (l:List St)(k:Nat):(Qa2 l k).length=l.length:=by
 induction l generalizing k with
 |nil=>rfl
 |cons x r ih=>simp only[Qa2,List.length_cons,ih]
theorem Qw0 (l:List (List UInt8))(k:Nat):(Qav l k).length=l.length:=by
 induction l generalizing k with
 |nil=>rfl
 |cons x r ih=>simp only[Qav,List.length_cons,ih]
theorem Qqq (l:List Fn)(k:Nat):(Qbk l k).length=l.length:=by
 induction l generalizing k with
 |nil=>rfl
 |cons x r ih=>simp only[Qbk,List.length_cons,ih]
mutual
theorem Ex.cnt_le:∀x:Ex,x.cnt≤3 * x.size
 |.mk _ _ _ kids=>by have:=Qaen kids;simp only[Ex.cnt,Ex.size];omega
theorem Qaen:∀l:List Ex,Qad l≤3 * Qai l
 |[]=>by simp only[Qad];omega
 |x::r=>by have:=x.cnt_le;have:=Qaen r;simp only[Qad,Qai];omega
end
mutual
theorem St.mcnt_le:∀x:St,x.mcnt≤3 * x.size
 |.mk _ _ args body els=>by have:=Qaen args;have:=Qxq body;have:=Qxq els;simp only[St.mcnt,St.size];omega
theorem Qxq:∀l:List St,Q5 l≤3 * Qj l
 |[]=>by simp only[Q5];omega
 |x::r=>by have:=x.mcnt_le;have:=Qxq r;simp only[Q5,Qj];omega
end
def Qi3:List Fn→Nat
 |[]=>0
 |f::r=>1+f.params.length+Qj f.body+Qi3 r
theorem Q5g:∀l:List Fn,Qaj l≤3 * Qi3 l
 |[]=>by simp only[Qaj];omega
 |f::r=>by have:=Qxq f.body;have:=Q5g r;simp only[Qaj,Qi3,Fn.mcnt];omega
theorem Qa8f {l:List Ex}:∀r∈Qm l,r.length=4:=by
 intro r hr;rw[Qma]at hr;obtain⟨x,_,rfl⟩:=List.mem_map.1 hr;exact x.cells_len
theorem Qzy {l:List St}:∀r∈Qk l,r.length=5:=by
 intro r hr;rw[Qe8]at hr;obtain⟨x,_,rfl⟩:=List.mem_map.1 hr;exact x.cells_len
theorem Qa8m {l:List Fn}:∀r∈Qn l,r.length=3:=by
 intro r hr;obtain⟨x,_,rfl⟩:=List.mem_map.1 hr;exact x.cells_len
theorem Qasp {l:List (List UInt8)}:∀r∈Q1 l,r.length=1:=by
 intro r hr;obtain⟨x,_,rfl⟩:=List.mem_map.1 hr;rfl
theorem Qa8e (a b:List Ex):Qm (a++b)=Qm a++Qm b:=by simp[Qma]
theorem Qa8k (a b:List Fn):Qn (a++b)=Qn a++Qn b:=by simp[Qn]
theorem Qa7g (a b:List (List UInt8)):Q1 (a++b)=Q1 a++Q1 b:=by simp[Q1]
end Go.AE.Y

namespace Go.AE
theorem OwL.atoms:∀{cs:List C},(∀c∈cs,C.atom c=true)→OwL [] cs cs
 |[],_=>.nil
 |c::cs,h=>.atom (h c (by simp)) (OwL.atoms fun d hd=>h d (by simp[hd]))
end Go.AE
namespace Go.AE.Y
attribute [local go_sem] cond_true cond_false Bool.not_true Bool.not_false
open Go.Proofs.Tryz
variable {H H0 F:Heap}{K:V→Heap→Prop}{E B Lg:List (Nat×Obj)}{fns:List Fn}
theorem Qa7i (ss:List (List UInt8)):OwL [] (Q1 ss).flatten (Q1 ss).flatten:=OwL.atoms fun c hc=>by
 obtain⟨r,hr,hc⟩:=List.mem_flatten.1 hc
 obtain⟨x,_,rfl⟩:=List.mem_map.1 hr
 rw[List.mem_singleton.1 hc];rfl
theorem St.size_pos2 (x:St):1≤x.size:=by rw[x.size_eq];omega
abbrev sttO (x:St):Obj:=.st [.int .i64 x.op,.str x.name,.sl false 4 (Qm x.args),.sl false 5 (Qk x.body),.sl false 5 (Qk x.els)]
abbrev exxO (x:Ex):Obj:=.st [.int .i64 x.op,.int .i64 x.n,.str x.name,.sl false 4 (Qm x.kids)]
theorem Q3e {g:Ex→Ex}{f:Nat}{caps:List C}{l:List Ex}{fl:Bool}
  (hf:∀x∈l,∀(H1:Heap) (K':V→Heap→Prop),(∀m,H m≠.none→H1 m=H m)→(∀H2 L cs,Kn H1 H2 [] L→OwL L cs (g x).cells→K' (.ag cs) H2)→Ql prog f ([.ag x.cells]++caps.map .c) H1 K')
  (hK:∀H' L t,Kn H H' [] L→OwS L 4 (Qm (l.map g)) t→K (.c t) H'):Ql prog Qap [.c (.sl fl 4 (Qm l)),.c (.fn f caps)] H K:=by
 refine Qc Qah Qt7 ?_
 refine Qa ?_
 simp only[go_sem]
 refine Qa ?_
 simp only[go_sem]
 refine Qu ?_
 refine Qa ?_
 simp only[go_sem,Qh]
 intro hl
 simp only[LIM]at hl
 refine Qe (Qf (Qy (fun m e1 H1=>∃(i:Nat) (t:C) (Lg M:List (Nat×Obj)) (rows:List (List C)),m=l.length-i∧i≤l.length∧Gr Lg 4 rows t∧rows.length=i∧(∀r∈rows,r.length=4)∧OwL M rows.flatten (Qm ((l.take i).map g)).flatten∧Kn H H1 [] (M++Lg)∧
  e1=[(1,.c (.fn f caps)),(5,.c t),(8,.c (.sl fl 4 (Qm l))),(9,.c (.int .i64 l.length)),(10,.c (.int .i64 i))]) l.length ?_ ?_))
 ·exact⟨0,_,[],[],[],by omega,by omega,.nil 4,rfl,by simp,.nil,Kn.start0 H,rfl⟩
 ·rintro m e1 H1 ⟨i,t,Lg,M,rows,hm,hi,hgr,hrl,hr4,how,kn,rfl⟩
  have hto:=hgr.isOw
  refine Qa ?_
  simp only[go_sem,hto]
  refine Qe (Qb rfl ?_ ?_)
  ·intro hc
   have hlt:i<l.length:=by simpa using hc
   obtain⟨x,hx⟩:∃x,l[i]=x:=⟨_,rfl⟩
   have hxm:x∈l:=by rw[←hx];exact List.getElem_mem hlt
   have htk:Qm ((l.take (i+1)).map g)=Qm ((l.take i).map g)++[(g x).cells]:=by
    rw[Qei,List.take_succ_eq_append_getElem hlt,hx];simp
   refine Qd ?_
   try simp only[go_sem]
   refine Qe (Qf ?_)
   refine Qa ?_
   simp only[go_sem,hto,hlt,Qh,Q6 _ _ hlt,hx,x.cells_eq]
   intro x7 hx7 H3 h3
   have kn:Kn H H3 [] ([(x7,.st [.int .i64 0,.int .i64 0,.str [],.sl true 4 []])]++(M++Lg)):=(kn.al hx7 h3).perm List.perm_append_comm
   have g7:=kn.l 0 rfl
   simp only[go_sem,Qfz,g7,hto]
   intro H4 h4
   have kn:Kn H H4 [] ([(x7,exxO x)]++(M++Lg)):=kn.stL 0 rfl h4
   have g7:=kn.l 0 rfl
   refine Qp ?_
   simp only[go_sem,exxO,g7,hto]
   have hfx:=hf x hxm H4
   rw[x.cells_eq]at hfx
   refine hfx _ (fun m hm=>kn.chg m hm (by simp)) fun H5 L2 cs k2 ho=>?_
   have hcl:cs.length=4:=by rw[←ho.len,(g x).cells_len]
   have kn:=kn.comp0 k2
   have kn:Kn H H5 [] (([(x7,exxO x)]++(M++L2))++Lg):=kn.perm (by
    simp only[List.append_assoc]
    exact (List.Perm.append_left M List.perm_append_comm).append_left _)
   simp only[go_sem,Qf1,hto,hcl]
   refine kn.growR hgr (new:=[cs]) (.mk' _ true 4 _) (by simpa using ho.noOw) (by simp only[hrl,List.length_cons,List.length_nil,LIM];omega) fun t2 Lg2 H6 hgr2 hto2 kn=>?_
   simp only[go_sem,Qf0,hto2]
   refine Qp ?_
   simp only[go_sem,AE.X.next,hto2]
   refine⟨Qr (by omega) (by omega),l.length-(i+1),by omega,i+1,t2,Lg2,M++L2,rows++[cs],rfl,by omega,hgr2,by simp[hrl],?_,?_,kn.sub ?_,rfl⟩
   ·intro r hr
    rcases List.mem_append.1 hr with hr|hr
    ·exact hr4 r hr
    ·rw[List.mem_singleton.1 hr];exact hcl
   ·rw[htk]
    simp only[List.flatten_append,List.flatten_cons,List.flatten_nil,List.append_nil]
    exact how.app ho
   ·simp only[List.append_assoc];exact List.sublist_append_right _ _
  ·intro hc
   have hge:l.length≤i:=by simpa using hc
   rw[List.take_of_length_le hge]at how
   refine Qt ?_
   simp only[go_sem,AE.X.next]
   refine Qa ?_
   simp only[go_sem,hto]
   refine Qg ?_
   simp only[go_sem,Qq,Qz,Qat4,List.mem_singleton,forall_eq,RS.op,hto]
   exact hK _ _ _ (kn.perm List.perm_append_comm) (hgr.ows (by simp only[Qh,List.length_map];omega) hr4 Qa8f how)
theorem Qad8 {g:St→St}{f:Nat}{caps:List C}{l:List St}{fl:Bool}
  (hf:∀x∈l,∀(H1:Heap) (K':V→Heap→Prop),(∀m,H m≠.none→H1 m=H m)→(∀H2 L cs,Kn H1 H2 [] L→OwL L cs (g x).cells→K' (.ag cs) H2)→Ql prog f ([.ag x.cells]++caps.map .c) H1 K')
  (hK:∀H' L t,Kn H H' [] L→OwS L 5 (Qk (l.map g)) t→K (.c t) H'):Ql prog Qau [.c (.sl fl 5 (Qk l)),.c (.fn f caps)] H K:=by
 refine Qc Qah Qt8 ?_
 refine Qa ?_
 simp only[go_sem]
 refine Qa ?_
 simp only[go_sem]
 refine Qu ?_
 refine Qa ?_
 simp only[go_sem,Qo]
 intro hl
 simp only[LIM]at hl
 refine Qe (Qf (Qy (fun m e1 H1=>∃(i:Nat) (t:C) (Lg M:List (Nat×Obj)) (rows:List (List C)),m=l.length-i∧i≤l.length∧Gr Lg 5 rows t∧rows.length=i∧(∀r∈rows,r.length=5)∧OwL M rows.flatten (Qk ((l.take i).map g)).flatten∧Kn H H1 [] (M++Lg)∧
  e1=[(1,.c (.fn f caps)),(5,.c t),(8,.c (.sl fl 5 (Qk l))),(9,.c (.int .i64 l.length)),(10,.c (.int .i64 i))]) l.length ?_ ?_))
 ·exact⟨0,_,[],[],[],by omega,by omega,.nil 5,rfl,by simp,.nil,Kn.start0 H,rfl⟩
 ·rintro m e1 H1 ⟨i,t,Lg,M,rows,hm,hi,hgr,hrl,hr4,how,kn,rfl⟩
  have hto:=hgr.isOw
  refine Qa ?_
  simp only[go_sem,hto]
  refine Qe (Qb rfl ?_ ?_)
  ·intro hc
   have hlt:i<l.length:=by simpa using hc
   obtain⟨x,hx⟩:∃x,l[i]=x:=⟨_,rfl⟩
   have hxm:x∈l:=by rw[←hx];exact List.getElem_mem hlt
   have htk:Qk ((l.take (i+1)).map g)=Qk ((l.take i).map g)++[(g x).cells]:=by
    rw[Qdr,List.take_succ_eq_append_getElem hlt,hx];simp
   refine Qd ?_
   try simp only[go_sem]
   refine Qe (Qf ?_)
   refine Qa ?_
   simp only[go_sem,hto,hlt,Qo,Q4 _ _ hlt,hx,x.cells_eq]
   intro x7 hx7 H3 h3
   have kn:Kn H H3 [] ([(x7,.st [.int .i64 0,.str [],.sl true 4 [],.sl true 5 [],.sl true 5 []])]++(M++Lg)):=(kn.al hx7 h3).perm List.perm_append_comm
   have g7:=kn.l 0 rfl
   simp only[go_sem,Qf2,g7,hto]
   intro H4 h4
   have kn:Kn H H4 [] ([(x7,sttO x)]++(M++Lg)):=kn.stL 0 rfl h4
   have g7:=kn.l 0 rfl
   refine Qp ?_
   simp only[go_sem,sttO,g7,hto]
   have hfx:=hf x hxm H4
   rw[x.cells_eq]at hfx
   refine hfx _ (fun m hm=>kn.chg m hm (by simp)) fun H5 L2 cs k2 ho=>?_
   have hcl:cs.length=5:=by rw[←ho.len,(g x).cells_len]
   have kn:=kn.comp0 k2
   have kn:Kn H H5 [] (([(x7,sttO x)]++(M++L2))++Lg):=kn.perm (by
    simp only[List.append_assoc]
    exact (List.Perm.append_left M List.perm_append_comm).append_left _)
   simp only[go_sem,Qf4,hto,hcl]
   refine kn.growR hgr (new:=[cs]) (.mk' _ true 5 _) (by simpa using ho.noOw) (by simp only[hrl,List.length_cons,List.length_nil,LIM];omega) fun t2 Lg2 H6 hgr2 hto2 kn=>?_
   simp only[go_sem,Qf3,hto2]
   refine Qp ?_
   simp only[go_sem,AE.X.next,hto2]
   refine⟨Qr (by omega) (by omega),l.length-(i+1),by omega,i+1,t2,Lg2,M++L2,rows++[cs],rfl,by omega,hgr2,by simp[hrl],?_,?_,kn.sub ?_,rfl⟩
   ·intro r hr
    rcases List.mem_append.1 hr with hr|hr
    ·exact hr4 r hr
    ·rw[List.mem_singleton.1 hr];exact hcl
   ·rw[htk]
    simp only[List.flatten_append,List.flatten_cons,List.flatten_nil,List.append_nil]
    exact how.app ho
   ·simp only[List.append_assoc];exact List.sublist_append_right _ _
  ·intro hc
   have hge:l.length≤i:=by simpa using hc
   rw[List.take_of_length_le hge]at how
   refine Qt ?_
   simp only[go_sem,AE.X.next]
   refine Qa ?_
   simp only[go_sem,hto]
   refine Qg ?_
   simp only[go_sem,Qq,Qz,Qat4,List.mem_singleton,forall_eq,RS.op,hto]
   exact hK _ _ _ (kn.perm List.perm_append_comm) (hgr.ows (by simp only[Qo,List.length_map];omega) hr4 Qzy how)
theorem Q8k:∀(n:Nat) (x:Ex) {H:Heap} {K:V→Heap→Prop},x.size≤n→(∀H' L cs,Kn H H' [] L→OwL L cs x.cells→K (.ag cs) H')→Ql prog Qd2 [.ag x.cells] H K:=by
 intro n
 induction n with
 |zero=>intro x H K h;have:=x.size_pos;omega
 |succ n ih=>
 intro x H K hn hK
 have hsz:=x.size_kids
 refine Qc Qah Qaju ?_
 refine Qa ?_
 simp only[go_sem,x.cells_eq]
 intro x1 hx1 H1 h1
 have kn:=(Kn.start0 H).al hx1 h1
 simp only[go_sem,Qo4]
 intro x2 hx2 H2 h2
 have kn:=kn.al hx2 h2
 have g1:=kn.l 0 rfl
 refine Qa ?_
 simp only[go_sem,g1]
 refine Q3e (g:=id) (caps:=[]) (fun y hy H1 K' _ hK'=>ih y (by have:=Qac hy;omega) hK') fun H3 L t k2 ho=>?_
 rw[List.map_id]at ho
 have kn:=kn.comp0 k2
 have g1:=kn.l 0 rfl
 have hto:=ho.isOw
 simp only[go_sem,Qo5,g1,hto]
 intro H4 h4
 have kn:=kn.stL 0 rfl h4
 have g1:=kn.l 0 rfl
 have g2:=kn.l 1 rfl
 refine Qa ?_
 simp only[go_sem,g1,g2,hto]
 intro H5 h5
 have kn:=kn.stL 1 rfl h5
 have g2:=kn.l 1 rfl
 refine Qg ?_
 simp only[go_sem,Qq,Qz,Qy7,List.mem_singleton,forall_eq,RS.op,g2,hto]
 exact hK _ L _ (kn.sub (List.sublist_append_right [_,_] _)) (by rw[x.cells_eq];exact .atom rfl (.atom rfl (.atom rfl ho.one)))
theorem Qas0:∀(n:Nat) (x:St) {H:Heap} {K:V→Heap→Prop},x.size≤n→(∀H' L cs,Kn H H' [] L→OwL L cs x.cells→K (.ag cs) H')→Ql prog Qd3 [.ag x.cells] H K:=by
 intro n
 induction n with
 |zero=>intro x H K h;have:=x.size_pos2;omega
 |succ n ih=>
 intro x H K hn hK
 have hsz:=x.size_eq
 refine Qc Qah Qajv ?_
 refine Qa ?_
 simp only[go_sem,x.cells_eq]
 intro x1 hx1 H1 h1
 have kn:=(Kn.start0 H).al hx1 h1
 simp only[go_sem,Qo6]
 intro x2 hx2 H2 h2
 have kn:=kn.al hx2 h2
 have g1:=kn.l 0 rfl
 refine Qa ?_
 simp only[go_sem,g1]
 refine Q3e (g:=id) (caps:=[]) (fun y hy H1 K' _ hK'=>Q8k y.size y (Nat.le_refl _) hK') fun H3 La ta k2 ha=>?_
 rw[List.map_id]at ha
 have kn:=kn.comp0 k2
 have g1:=kn.l 0 rfl
 have hta:=ha.isOw
 simp only[go_sem,Qo7,g1,hta]
 intro H4 h4
 have kn:=kn.stL 0 rfl h4
 have g1:=kn.l 0 rfl
 refine Qa ?_
 simp only[go_sem,g1,hta]
 refine Qad8 (g:=id) (caps:=[]) (fun y hy H1 K' _ hK'=>ih y (by have:=Qak hy;omega) hK') fun H3 Lb tb k2 hb=>?_
 rw[List.map_id]at hb
 have kn:=kn.comp0 k2
 have g1:=kn.l 0 rfl
 have htb:=hb.isOw
 simp only[go_sem,Qo8,g1,hta,htb]
 intro H4 h4
 have kn:=kn.stL 0 rfl h4
 have g1:=kn.l 0 rfl
 refine Qa ?_
 simp only[go_sem,g1,hta,htb]
 refine Qad8 (g:=id) (caps:=[]) (fun y hy H1 K' _ hK'=>ih y (by have:=Qak hy;omega) hK') fun H3 Lc tc k2 hc=>?_
 rw[List.map_id]at hc
 have kn:=kn.comp0 k2
 have g1:=kn.l 0 rfl
 have htc:=hc.isOw
 simp only[go_sem,Qo9,g1,hta,htb,htc]
 intro H4 h4
 have kn:=kn.stL 0 rfl h4
 have g1:=kn.l 0 rfl
 have g2:=kn.l 1 rfl
 refine Qa ?_
 simp only[go_sem,g1,g2,hta,htb,htc]
 intro H5 h5
 have kn:=kn.stL 1 rfl h5
 have g2:=kn.l 1 rfl
 refine Qg ?_
 simp only[go_sem,Qq,Qz,Qy8,List.mem_singleton,forall_eq,RS.op,g2,hta,htb,htc]
 refine hK _ (La++(Lb++Lc)) _ (kn.sub ?_) (by rw[x.cells_eq];exact .atom rfl (.atom rfl (ha.cons (hb.cons hc.one))))
 show (La++(Lb++Lc)).Sublist ((_::_::La)++Lb++Lc)
 rw[List.append_assoc]
 exact List.sublist_append_right [_,_] _
theorem Qaed {fl:Bool}{ss:List (List UInt8)}(hl:ss.length≤2^38)(hK:∀H' L t,Kn H H' [] L→OwS L 1 (Q1 ss) t→K (.c t) H'):Ql prog Qdv [.c (.sl fl 1 (Q1 ss))] H K:=by
 refine Qc Qah Q5w ?_
 refine Qa ?_
 simp only[go_sem]
 refine Qu ?_
 refine Qa ?_
 simp only[go_sem]
 intro b hb
 refine Qe (Qb rfl ?_ ?_)
 ·intro hbt
  have hn:=hb hbt
  have hs:ss=[]:=by
   cases ss with
   |nil=>rfl
   |cons a r=>simp[Q1]at hn
  subst hs
  refine Qa ?_
  simp only[go_sem]
  refine Qg ?_
  simp only[go_sem,Qq,Qz,Qic,List.mem_singleton,forall_eq,RS.op]
  exact hK _ [] _ (Kn.start0 H) (.inl ⟨rfl,rfl,rfl⟩)
 ·intro hbf
  refine Qd ?_
  simp only[go_sem]
  refine Qa ?_
  simp only[go_sem,Qv]
  refine⟨.inl trivial,Qry _,by simp only[LIM];omega,fun z hz H1 h1=>?_⟩
  have kn:=(Kn.start0 H).al hz h1
  simp only[go_sem,Qlh]
  refine Qg ?_
  simp only[go_sem,Qq,Qz,Qic,List.mem_singleton,forall_eq,RS.op]
  exact hK _ _ _ kn ((Gr.mk z 1 _ (by rw[Qv];omega)).ows rfl Qasp Qasp (Qa7i ss))
theorem Qa4g {f:Fn}(hl:f.params.length≤2^38)(hK:∀H' L cs,Kn H H' [] L→OwL L cs f.cells→K (.ag cs) H'):Ql prog Qql [.ag f.cells] H K:=by
 refine Qc Qah Qatl ?_
 refine Qa ?_
 simp only[go_sem,Fn.cells]
 intro x1 hx1 H1 h1
 have kn:=(Kn.start0 H).al hx1 h1
 simp only[go_sem,Qu8]
 intro x2 hx2 H2 h2
 have kn:=kn.al hx2 h2
 have g1:=kn.l 0 rfl
 refine Qa ?_
 simp only[go_sem,g1]
 refine Qaed hl fun H3 La ta k2 ha=>?_
 have kn:=kn.comp0 k2
 have g1:=kn.l 0 rfl
 have hta:=ha.isOw
 simp only[go_sem,Qu9,g1,hta]
 intro H4 h4
 have kn:=kn.stL 0 rfl h4
 have g1:=kn.l 0 rfl
 refine Qa ?_
 simp only[go_sem,g1,hta]
 refine Qad8 (g:=id) (caps:=[]) (fun y hy H1 K' _ hK'=>Qas0 y.size y (Nat.le_refl _) hK') fun H3 Lb tb k2 hb=>?_
 rw[List.map_id]at hb
 have kn:=kn.comp0 k2
 have g1:=kn.l 0 rfl
 have htb:=hb.isOw
 simp only[go_sem,Qva,g1,hta,htb]
 intro H4 h4
 have kn:=kn.stL 0 rfl h4
 have g1:=kn.l 0 rfl
 have g2:=kn.l 1 rfl
 refine Qa ?_
 simp only[go_sem,g1,g2,hta,htb]
 intro H5 h5
 have kn:=kn.stL 1 rfl h5
 have g2:=kn.l 1 rfl
 refine Qg ?_
 simp only[go_sem,Qq,Qz,Q8x,List.mem_singleton,forall_eq,RS.op,g2,hta,htb]
 exact hK _ (La++Lb) _ (kn.sub (List.sublist_append_right [_,_] _)) (.atom rfl (ha.cons hb.one))
theorem OwL.fn {L:List (Nat×Obj)}{cs:List C}{f:Fn}(h:OwL L cs f.cells):∃La Lb ta tb,cs=[.str f.name,ta,tb]∧L=La++Lb∧OwS La 1 (Q1 f.params) ta∧OwS Lb 5 (Qk f.body) tb:=by
 obtain⟨c1,e1,h1⟩:=h.inv_atom rfl
 obtain⟨ta,c2,La,L2,e2,f2,ha,h2⟩:=h1.inv_sl
 obtain⟨tb,e3,hb⟩:=h2.inv_one
 exact⟨La,L2,ta,tb,by rw[e1,e2,e3],f2,ha,hb⟩
end Go.AE.Y

namespace Go.AE.Y
open Go.Proofs.Tryz
variable {H:Heap}{K:V→Heap→Prop}
theorem Qae0 {n lo hi:Int}(hK:K (.c (.bool (decide (lo≤n∧n≤hi)))) H):Ql prog Qt2 [.c (.int .i64 n),.c (.int .i64 lo),.c (.int .i64 hi)] H K:=by
 refine Qc Qah Qbj3 ?_
 refine Qa ?_
 simp only[go_sem]
 refine Qa ?_
 simp only[go_sem]
 refine Qg ?_
 simp only[go_sem,Qq,Qz,Quj,List.mem_singleton,forall_eq,RS.op]
 have:(bif decide (lo≤n)then decide (n≤hi)else false)=decide (lo≤n∧n≤hi):=by
  by_cases h:lo≤n <;> simp[h]
 rw[this];exact hK
theorem Q3a {b:Bool}(hK:K (.c (.int .i64 (if b then 1 else 0))) H):Ql prog Qh8 [.c (.bool b)] H K:=by
 refine Qc Qah Qa9y ?_
 refine Qa ?_
 simp only[go_sem]
 refine Qu ?_
 refine Qa ?_
 simp only[go_sem]
 refine Qe (Qb rfl ?_ ?_)
 ·intro hc;subst hc
  refine Qa ?_
  simp only[go_sem]
  refine Qg ?_
  simp only[go_sem,Qq,Qz,Qic,List.mem_singleton,forall_eq,RS.op]
  exact hK
 ·intro hc;subst hc
  refine Qd ?_
  simp only[go_sem]
  refine Qa ?_
  simp only[go_sem]
  refine Qg ?_
  simp only[go_sem,Qq,Qz,Qic,List.mem_singleton,forall_eq,RS.op]
  exact hK
theorem Qa9e {s:List UInt8}{b:UInt8}(hK:∀n:Int,K (.c (.int .i64 n)) H):Ql prog Q5e [.c (.str s),.c (.int .u8 b.toNat)] H K:=by
 refine Qc Qah Qa9t ?_
 refine Qa ?_
 simp only[go_sem]
 refine Qu ?_
 refine Qa ?_
 simp only[go_sem]
 refine Qe (Qf (Qy (fun n e1 H1=>∃i:Nat,n=s.length-i∧i≤s.length∧H1=H∧e1=[(0,.c (.str s)),(1,.c (.int .u8 b.toNat)),(5,.c (.int .i64 i))]) s.length ?_ ?_))
 ·exact⟨0,by omega,by omega,rfl,rfl⟩
 ·rintro n e1 H1 ⟨i,hn,hi,rfl,rfl⟩
  refine Qu ?_
  refine Qa ?_
  simp only[go_sem]
  intro hl
  simp only[LIM]at hl
  refine Qe (Qb rfl ?_ ?_)
  ·intro hc
   have hlt:i<s.length:=by simpa using hc
   refine Qd ?_
   simp only[go_sem]
   refine Qe (Qf ?_)
   refine Qa ?_
   simp only[go_sem,hlt]
   refine Qb rfl ?_ ?_
   ·intro hc2
    refine Qa ?_
    simp only[go_sem]
    refine Qg ?_
    simp only[go_sem,X.next,Qq,Qz,Qat4,List.mem_singleton,forall_eq,RS.op]
    exact hK _
   ·intro hc2
    refine Qd ?_
    simp only[go_sem]
    refine Qp ?_
    simp only[go_sem,X.next]
    exact⟨Qr (by omega) (by omega),s.length-(i+1),by omega,i+1,rfl,by omega,rfl⟩
  ·intro hc
   refine Qt ?_
   simp only[go_sem,X.next]
   refine Qa ?_
   simp only[go_sem]
   refine Qg ?_
   simp only[go_sem,Qq,Qz,Qat4,List.mem_singleton,forall_eq,RS.op]
   exact hK _
theorem Qbec {op:Int}(hK:K (.c (.int .i64 (if op=4 then 2 else 1))) H):Ql prog Qaet [.c (.int .i64 op)] H K:=by
 refine Qc Qah Qbem ?_
 refine Qa ?_
 simp only[go_sem]
 refine Qu ?_
 refine Qa ?_
 simp only[go_sem]
 refine Qe (Qb rfl ?_ ?_)
 ·intro hc
  refine Qa ?_
  simp only[go_sem]
  refine Qg ?_
  simp only[go_sem,Qq,Qz,Qic,List.mem_singleton,forall_eq,RS.op]
  rw[if_pos (by simpa using hc)]at hK;exact hK
 ·intro hc
  refine Qd ?_
  simp only[go_sem]
  refine Qa ?_
  simp only[go_sem]
  refine Qg ?_
  simp only[go_sem,Qq,Qz,Qic,List.mem_singleton,forall_eq,RS.op]
  rw[if_neg (by simpa using hc)]at hK;exact hK
end Go.AE.Y

namespace Go.AE.Y
def keysL:List (List UInt8):=[[102,110],[108,101,116],[115,97,121],[112,117,116],[105,102],[101,108,115,101],[108,111,111,112],[98,97,99,107],[100,111]]
def Qc3 (b:UInt8):Bool:=decide (97≤b.toNat∧b.toNat≤122)
def Qc6 (s:List UInt8):Bool:=decide (1≤s.length∧s.length≤4)&&s.all Qc3&&!keysL.contains s
def Qd9 (op:Int):Int:=if op=1∨op=2∨op=13 then 0 else if op=11∨op=12 then 1 else 2
def Qdw (op:Int):Int:=if op=1∨op=2 then 0 else if op=11∨op=12 then 1 else if op=13 then 3 else 2
def Q8l (op n:Int)(name:List UInt8)(k:Nat):Bool:=
 decide (1≤op∧op≤13)&&decide (Qd9 op≤(k:Int)∧(k:Int)≤Qdw op)&&(decide (op=2∨op=13) == Qc6 name)&&(decide (op=2∨op=13) || decide (name=[]))&&
  decide (0≤n∧n≤255)&&(decide (op=1) || decide (n=0))
mutual
def Ex.form:Ex→Int→Bool
 |.mk op n name kids,d=>decide (1≤d)&&Q8l op n name kids.length&&Qa6 kids (d-1)
def Qa6:List Ex→Int→Bool
 |[],_=>true
 |x::r,d=>x.form d&&Qa6 r d
end
theorem Ex.form_eq (x:Ex)(d:Int):x.form d=(decide (1≤d)&&Q8l x.op x.n x.name x.kids.length&&Qa6 x.kids (d-1)):=by
 cases x;simp only[Ex.form,Ex.op,Ex.n,Ex.name,Ex.kids]
theorem Qqh (l:List Ex)(d:Int):Qa6 l d=l.all fun x=>x.form d:=by
 induction l with
 |nil=>simp[Qa6]
 |cons x r ih=>simp[Qa6,ih]
def Ex.valid (x:Ex):Bool:=x.form 6&&decide (x.size≤30)
def argN (op:Int):Nat:=if op=4 then 2 else 1
def Qp9 (op:Int)(name:List UInt8)(args:List Ex)(nb ne:Nat):Bool:=
 decide (1≤op∧op≤8)&&decide (args.length=argN op)&&(decide (op=1∨op=2) == Qc6 name)&&(decide (op=1∨op=2) || decide (name=[]))&&args.all Ex.valid&&
  (!decide (op=8) || decide ((args.map Ex.op).getD 0 0=13))&&(decide (op=5) || decide (ne=0))&&(decide (op=5∨op=6) || decide (nb=0))
mutual
def St.form:St→Int→Bool
 |.mk op name args body els,d=>decide (1≤d)&&Qp9 op name args body.length els.length&&Q2 body (d-1)&&Q2 els (d-1)
def Q2:List St→Int→Bool
 |[],_=>true
 |x::r,d=>x.form d&&Q2 r d
end
theorem St.form_eq (x:St)(d:Int):x.form d=(decide (1≤d)&&Qp9 x.op x.name x.args x.body.length x.els.length&&Q2 x.body (d-1)&&Q2 x.els (d-1)):=by
 cases x;simp only[St.form,St.op,St.name,St.args,St.body,St.els]
theorem Qdb (l:List St)(d:Int):Q2 l d=l.all fun x=>x.form d:=by
 induction l with
 |nil=>simp[Q2]
 |cons x r ih=>simp[Q2,ih]
mutual
def St.cnt:St→Nat
 |.mk _ _ _ body els=>1+Qaw body+Qaw els
def Qaw:List St→Nat
 |[]=>0
 |x::r=>x.cnt+Qaw r
end
theorem St.cnt_eq (x:St):x.cnt=1+Qaw x.body+Qaw x.els:=by cases x;simp only[St.cnt,St.body,St.els]
def Fn.form (f:Fn):Bool:=f.params.all Qc6&&Qc6 f.name&&decide (f.params.length≤3)&&Q2 f.body 4
def Qfe:List Fn→Nat
 |[]=>0
 |f::r=>Qaw f.body+Qfe r
theorem Qa75 (a b:List Fn):Qfe (a++b)=Qfe a+Qfe b:=by
 induction a with
 |nil=>simp[Qfe]
 |cons x r ih=>simp only[List.cons_append,Qfe,ih];omega
theorem Qano {l:List Fn}{i:Nat}(h:i<l.length):Qfe (l.take (i+1))=Qfe (l.take i)+Qaw (l[i]'h).body:=by
 rw[List.take_succ_eq_append_getElem h,Qa75];simp[Qfe]
def Qmn (l:List Fn):Bool:=decide (1≤l.length∧l.length≤4)&&l.all Fn.form&&decide (Qfe l≤40)
mutual
def Ex.pre:Ex→List Ex
 |.mk op n name kids=>.mk op n name kids::Qaf kids
def Qaf:List Ex→List Ex
 |[]=>[]
 |x::r=>x.pre++Qaf r
end
theorem Ex.pre_eq (x:Ex):x.pre=x::Qaf x.kids:=by cases x;simp only[Ex.pre,Ex.kids]
theorem Qa4n (a b:List Ex):Qaf (a++b)=Qaf a++Qaf b:=by
 induction a with
 |nil=>simp[Qaf]
 |cons x r ih=>simp only[List.cons_append,Qaf,ih,List.append_assoc]
def Qkv (l:List Fn)(s:List UInt8):Option Nat:=l.findIdx? fun f=>decide (f.name=s)
abbrev Vars:=List (List (List UInt8×Nat))
def Vars.find (v:Vars)(s:List UInt8):Option Nat:=(v.flatten.find? fun p=>decide (p.1=s)).map Prod.snd
def Qen (v:Vars)(s:List UInt8):Bool:=(v.headD []).any fun p=>decide (p.1=s)
def Qe6 (v:Vars)(s:List UInt8)(n:Nat):Vars:=((s,n)::v.headD [])::v.tail
def Qcm (a b:Int):Int:=if a=0 then b else a
def Qe5 (fns:List Fn)(k:Nat)(v:Vars)(p:Ex):Int:=
 if p.op=2 then (if (v.find p.name).isSome then 0 else 3)
 else if p.op=13 then (match Qkv (fns.take k) p.name with
  |none=>4
  |some j=>if ((fns[j]?.map fun f=>f.params.length).getD 0)=p.kids.length then 0 else 5)
 else 0
def Qa1 (fns:List Fn)(k:Nat)(v:Vars)(l:List Ex)(c:Int):Int:=l.foldl (fun c p=>Qcm c (Qe5 fns k v p)) c
structure Ck where
 v:Vars
 c:Int
 n:Nat
def stC (fns:List Fn)(k:Nat)(op:Int)(name:List UInt8)(args:List Ex)(s:Ck):Ck:=
 let c:=Qa1 fns k s.v (Qaf args) s.c
 if op=1 then ⟨Qe6 s.v name s.n,Qcm c (if Qen s.v name then 2 else 0),s.n+1⟩
 else if op=2 then ⟨s.v,Qcm c (if (s.v.find name).isSome then 0 else 3),s.n⟩
 else ⟨s.v,c,s.n⟩
mutual
def St.ck (fns:List Fn)(k:Nat):St→Ck→Ck
 |.mk op name args body els,s=>
  let s1:=stC fns k op name args s
  let s2:=Qam fns k body ⟨[]::s1.v,s1.c,s1.n⟩
  let s3:=Qam fns k els ⟨[]::s1.v,s2.c,s2.n⟩
  ⟨s1.v,s3.c,s3.n⟩
def Qam (fns:List Fn)(k:Nat):List St→Ck→Ck
 |[],s=>s
 |x::r,s=>Qam fns k r (x.ck fns k s)
end
theorem St.ck_eq (fns:List Fn)(k:Nat)(x:St)(s:Ck):x.ck fns k s =
  ⟨(stC fns k x.op x.name x.args s).v,(Qam fns k x.els ⟨[]::(stC fns k x.op x.name x.args s).v,(Qam fns k x.body ⟨[]::(stC fns k x.op x.name x.args s).v,(stC fns k x.op x.name x.args s).c,(stC fns k x.op x.name x.args s).n⟩).c,
   (Qam fns k x.body ⟨[]::(stC fns k x.op x.name x.args s).v,(stC fns k x.op x.name x.args s).c,(stC fns k x.op x.name x.args s).n⟩).n⟩).c,
   (Qam fns k x.els ⟨[]::(stC fns k x.op x.name x.args s).v,(Qam fns k x.body ⟨[]::(stC fns k x.op x.name x.args s).v,(stC fns k x.op x.name x.args s).c,(stC fns k x.op x.name x.args s).n⟩).c,
   (Qam fns k x.body ⟨[]::(stC fns k x.op x.name x.args s).v,(stC fns k x.op x.name x.args s).c,(stC fns k x.op x.name x.args s).n⟩).n⟩).n⟩:=by
 cases x;simp only[St.ck,St.op,St.name,St.args,St.body,St.els]
theorem Qbb6 (fns:List Fn)(k:Nat)(a b:List St)(s:Ck):Qam fns k (a++b) s=Qam fns k b (Qam fns k a s):=by
 induction a generalizing s with
 |nil=>simp[Qam]
 |cons x r ih=>simp only[List.cons_append,Qam,ih]
def Qtz (ps:List (List UInt8))(s:Ck):Ck:=ps.foldl (fun s p=>⟨Qe6 s.v p s.n,Qcm s.c (if Qen s.v p then 2 else 0),s.n+1⟩) s
def fnCk (fns:List Fn)(k:Nat):Ck:=match fns[k]? with
 |some f=>Qam fns k f.body (Qtz f.params ⟨[[]],if Qkv fns f.name=some k then 0 else 2,0⟩)
 |none=>⟨[],0,0⟩
def ckK (fns:List Fn)(k:Nat):Int:=(List.range k).foldl (fun c i=>Qcm c (fnCk fns i).c) 0
def Qaai (fns:List Fn):Int:=if Qmn fns=true then ckK fns fns.length else 1
def Qz3 (fns:List Fn):Bool:=decide (Qaai fns=0)
end Go.AE.Y

namespace Go.AE.Y
open Go.Proofs.Tryz
variable {H:Heap}{K:V→Heap→Prop}
theorem Qa4z {b:UInt8}(hK:∀n:Int,decide (n=1)=Qc3 b→K (.c (.int .i64 n)) H):Ql prog Q5d [.c (.int .u8 b.toNat)] H K:=by
 refine Qc Qah Qa9r ?_
 have hs:(bif decide ((97:Int)≤(b.toNat:Int))then decide ((b.toNat:Int)≤122)else false)=Qc3 b:=by
  unfold Qc3
  by_cases h:97≤b.toNat
  ·have h':(97:Int)≤(b.toNat:Int):=by omega
   simp only[h',decide_true,cond_true,h,true_and,decide_eq_decide];omega
  ·have h':¬(97:Int)≤(b.toNat:Int):=by omega
   simp[h',h]
 have ret:∀(n:Int) (e:Env),decide (n=1)=Qc3 b→lk 2 e=.c (.int .i64 n)→Qq Qic K .ret e H:=by
  intro n e h1 h2
  simp only[go_sem,Qq,Qz,Qic,List.mem_singleton,forall_eq,RS.op,h2]
  exact hK n h1
 refine Qa ?_
 simp only[go_sem]
 refine Qe (Qf ?_)
 refine Qa ?_
 simp only[go_sem]
 refine Qb rfl ?_ ?_
 ·intro hc
  rw[hs]at hc
  refine Qa ?_
  simp only[go_sem]
  refine Qg ?_
  simp only[go_sem]
  exact ret 1 _ (by rw[hc];rfl) (by simp[lk])
 intro hc
 rw[hs]at hc
 refine Qa ?_
 simp only[go_sem]
 refine Qb rfl ?_ ?_
 ·intro _
  refine Qa ?_
  simp only[go_sem]
  refine Qg ?_
  simp only[go_sem]
  exact ret 2 _ (by rw[hc];rfl) (by simp[lk])
 intro _
 refine Qa ?_
 simp only[go_sem]
 refine Qa9e fun n=>?_
 simp only[go_sem,Q9b]
 refine Qb rfl ?_ ?_
 ·intro _
  refine Qa ?_
  simp only[go_sem]
  refine Qg ?_
  simp only[go_sem]
  exact ret 3 _ (by rw[hc];rfl) (by simp[lk])
 intro _
 refine Qa ?_
 simp only[go_sem]
 refine Qb rfl ?_ ?_
 ·intro _
  refine Qa ?_
  simp only[go_sem]
  refine Qg ?_
  simp only[go_sem]
  exact ret 4 _ (by rw[hc];rfl) (by simp[lk])
 intro _
 refine Qd ?_
 simp only[go_sem]
 refine Qa ?_
 simp only[go_sem]
 refine Qg ?_
 exact ret 0 _ (by rw[hc];rfl) (by simp[lk])
theorem Qiq {α:Type}{p:α→Bool}{l:List α}{i:Nat}(h:i<l.length):(l.take (i+1)).all p=((l.take i).all p&&p l[i]):=by
 rw[List.take_succ_eq_append_getElem h,List.all_append];simp
theorem Qn5 {α:Type}{p:α→Bool}{l:List α}{i:Nat}(h:i<l.length)(hp:p l[i]=false):l.all p=false:=by
 rw[List.all_eq_false];exact⟨l[i],List.getElem_mem h,by rw[hp];simp⟩
theorem Qbd8 {s:List UInt8}(hK:K (.c (.bool (s.all Qc3&&decide (0<s.length)))) H):Ql prog Qao4 [.c (.str s),.c (.int .i64 1)] H K:=by
 refine Qc Qah Qbh9 ?_
 have retf:∀(b:Bool) (e:Env),(s.all Qc3&&decide (0<s.length))=b→lk 4 e=.c (.bool b)→Qq Qat4 K .ret e H:=by
  intro b e h1 h3
  simp only[go_sem,Qq,Qz,Qat4,List.mem_singleton,forall_eq,RS.op,h3]
  rw[←h1];exact hK
 refine Qa ?_
 simp only[go_sem]
 refine Qu ?_
 refine Qa ?_
 simp only[go_sem]
 refine Qe (Qf (Qy (fun n e1 H1=>∃i:Nat,n=s.length-i∧i≤s.length∧H1=H∧(s.take i).all Qc3=true∧e1=[(0,.c (.str s)),(1,.c (.int .i64 1)),(5,.c (.int .i64 i))]) s.length ?_ ?_))
 ·exact⟨0,by omega,by omega,rfl,rfl,rfl⟩
 ·rintro n e1 H1 ⟨i,hn,hi,rfl,hall,rfl⟩
  refine Qu ?_
  refine Qa ?_
  simp only[go_sem]
  intro hl
  simp only[LIM]at hl
  refine Qe (Qb rfl ?_ ?_)
  ·intro hc
   have hlt:i<s.length:=by simpa using hc
   have hg:s.getD i 0=s[i]:=by simp[List.getD_eq_getElem?_getD,hlt]
   refine Qd ?_
   simp only[go_sem]
   refine Qe (Qf ?_)
   refine Qa ?_
   simp only[go_sem,hlt,hg]
   refine Qa4z fun cl hcl=>?_
   simp only[go_sem,Qaod]
   refine Qb rfl ?_ ?_
   ·intro hc2
    have hf:Qc3 s[i]=false:=by
     rw[←hcl]
     cases hd:decide (cl=1)with
     |false=>rfl
     |true=>rw[hd]at hc2;simp at hc2
    refine Qa ?_
    simp only[go_sem]
    refine Qg ?_
    simp only[go_sem,X.next]
    exact retf false _ (by rw[Qn5 hlt hf];rfl) (by simp[lk])
   ·intro hc2
    have hf:Qc3 s[i]=true:=by
     rw[←hcl]
     cases hd:decide (cl=1)with
     |true=>rfl
     |false=>rw[hd]at hc2;simp at hc2
    refine Qd ?_
    simp only[go_sem]
    refine Qp ?_
    simp only[go_sem,X.next]
    exact⟨Qr (by omega) (by omega),s.length-(i+1),by omega,i+1,rfl,by omega,by rw[Qiq hlt,hall,hf];rfl,rfl⟩
  ·intro hc
   have hge:s.length≤i:=by simpa using hc
   rw[List.take_of_length_le hge]at hall
   refine Qt ?_
   simp only[go_sem,X.next]
   refine Qa ?_
   simp only[go_sem]
   intro _
   refine Qg ?_
   exact retf (decide ((0:Int)<(s.length:Int))) _ (by rw[hall,Bool.true_and,decide_eq_decide];omega) (by simp[lk])
theorem Qaxg (hK:K (.c (.sl true 1 (Q1 keysL))) H):Ql prog Qn8 [] H K:=by
 refine Qc Qah Qapz ?_
 refine Qa ?_
 simp only[go_sem]
 refine Qa ?_
 simp only[go_sem]
 refine Qg ?_
 simp only[go_sem,Qq,Qz,Q3n,List.mem_singleton,forall_eq,RS.op]
 exact hK
theorem Qbcs {α:Type}{p:α→Bool}{l:List α}{i:Nat}(h:i<l.length):(l.take (i+1)).any p=((l.take i).any p || p l[i]):=by
 rw[List.take_succ_eq_append_getElem h,List.any_append];simp
theorem Qas1 {l:List (List UInt8)}{s:List UInt8}:l.contains s=l.any fun x=>decide (x=s):=by
 rw[Bool.eq_iff_iff,List.contains_iff_mem,List.any_eq_true]
 constructor
 ·intro h;exact⟨s,h,by simp⟩
 ·rintro⟨x,hx,h⟩
  have:x=s:=by simpa using h
  rw[←this];exact hx
theorem Qbd9 {s:List UInt8}(hK:K (.c (.bool (keysL.contains s))) H):Ql prog Qao5 [.c (.str s)] H K:=by
 refine Qc Qah Qbia ?_
 rw[Qas1]at hK
 generalize hks:keysL=ss at *
 have retf:∀(b:Bool) (e:Env),(ss.any fun x=>decide (x=s))=b→lk 2 e=.c (.bool b)→Qq Qic K .ret e H:=by
  intro b e h1 h3
  simp only[go_sem,Qq,Qz,Qic,List.mem_singleton,forall_eq,RS.op,h3]
  rw[←h1];exact hK
 refine Qa ?_
 simp only[go_sem]
 refine Qa ?_
 simp only[go_sem]
 refine Qaxg ?_
 rw[hks]
 simp only[go_sem,Qaoe]
 refine Qu ?_
 refine Qa ?_
 simp only[go_sem]
 refine Qe (Qf (Qy (fun n e1 H1=>∃i:Nat,n=ss.length-i∧i≤ss.length∧H1=H∧((ss.take i).any fun x=>decide (x=s))=false∧e1=[(0,.c (.str s)),(3,.c (.sl true 1 (Q1 ss))),(4,.c (.int .i64 i))]) ss.length ?_ ?_))
 ·exact⟨0,by omega,by omega,rfl,rfl,rfl⟩
 ·rintro n e1 H1 ⟨i,hn,hi,rfl,hall,rfl⟩
  refine Qu ?_
  refine Qa ?_
  simp only[go_sem,Qv]
  intro hl
  simp only[LIM]at hl
  refine Qe (Qb rfl ?_ ?_)
  ·intro hc
   have hlt:i<ss.length:=by simpa using hc
   have hg:ss.getD i []=ss[i]:=by simp[List.getD_eq_getElem?_getD,hlt]
   refine Qd ?_
   simp only[go_sem]
   refine Qe (Qf ?_)
   refine Qa ?_
   simp only[go_sem,hlt,Qv,Qbc _ _ hlt,hg]
   refine Qb rfl ?_ ?_
   ·intro hc2
    refine Qa ?_
    simp only[go_sem]
    refine Qg ?_
    simp only[go_sem,X.next]
    exact retf true _ (List.any_eq_true.2 ⟨ss[i],List.getElem_mem hlt,hc2⟩) (by simp[lk])
   ·intro hc2
    refine Qd ?_
    simp only[go_sem]
    refine Qp ?_
    simp only[go_sem,X.next]
    exact⟨Qr (by omega) (by omega),ss.length-(i+1),by omega,i+1,rfl,by omega,by rw[Qbcs hlt,hall,hc2];rfl,rfl⟩
  ·intro hc
   have hge:ss.length≤i:=by simpa using hc
   rw[List.take_of_length_le hge]at hall
   refine Qt ?_
   simp only[go_sem,X.next]
   refine Qa ?_
   simp only[go_sem]
   refine Qg ?_
   exact retf false _ hall (by simp[lk])
theorem Q2v {s:List UInt8}(hK:K (.c (.bool (Qc6 s))) H):Ql prog Qft [.c (.str s)] H K:=by
 refine Qc Qah Qayk ?_
 refine Qa ?_
 simp only[go_sem]
 refine Qa ?_
 simp only[go_sem]
 refine Qbd8 ?_
 simp only[go_sem,Qzw]
 intro hl
 have hle:decide ((s.length:Int)≤4)=decide (s.length≤4):=by rw[decide_eq_decide];omega
 have e0:Qc6 s=((s.all Qc3&&decide (0<s.length))&&decide (s.length≤4)&&!keysL.contains s):=by
  unfold Qc6
  have:decide (1≤s.length∧s.length≤4)=(decide (0<s.length)&&decide (s.length≤4)):=by
   rw[Bool.eq_iff_iff];simp only[decide_eq_true_eq,Bool.and_eq_true];omega
  rw[this]
  cases s.all Qc3 <;> cases decide (0<s.length) <;> cases decide (s.length≤4) <;> rfl
 have e1:(bif (s.all Qc3&&decide (0<s.length))then decide ((s.length:Int)≤4)else false)=((s.all Qc3&&decide (0<s.length))&&decide (s.length≤4)):=by
  rw[hle];cases (s.all Qc3&&decide (0<s.length)) <;> rfl
 refine⟨fun hb=>?_,fun hb=>?_⟩
 ·refine Qbd9 ?_
  simp only[go_sem,Qoi]
  refine Qg ?_
  simp only[go_sem,Qq,Qz,Qic,List.mem_singleton,forall_eq,RS.op]
  have:(bif (bif (s.all Qc3&&decide (0<s.length))then decide ((s.length:Int)≤4)else false)then !keysL.contains s else false)=Qc6 s:=by
   rw[e1,e0];cases ((s.all Qc3&&decide (0<s.length))&&decide (s.length≤4)) <;> rfl
  first|(rw[this];exact hK)|(rw[e0,←e1,hb];exact hK)
 ·simp only[go_sem,Qoi,hb]
  refine Qg ?_
  simp only[go_sem,Qq,Qz,Qic,List.mem_singleton,forall_eq,RS.op]
  have hf:Qc6 s=false:=by
   rw[e0,←e1]
   have hb':=hb
   first|(rw[hb'];rfl)|(simp at hb';simp[hb'])
  rw[hf]at hK
  exact hK
end Go.AE.Y

namespace Go.AE.Y
open Go.Proofs.Tryz
variable {H:Heap}{K:V→Heap→Prop}
theorem Q8m {l:List Ex}{i:Nat}(h:i<l.length):Qai (l.take (i+1))=Qai (l.take i)+(l[i]'h).size:=by
 rw[List.take_succ_eq_append_getElem h,Qz2];simp[Qai]
theorem Q99 {l:List St}{i:Nat}(h:i<l.length):Qj (l.take (i+1))=Qj (l.take i)+(l[i]'h).size:=by
 rw[List.take_succ_eq_append_getElem h,Q2u];simp[Qj]
theorem Qmc (l:List Ex)(i:Nat):Qai (l.take i)≤Qai l:=by
 conv=>rhs;rw[←List.take_append_drop i l,Qz2]
 omega
theorem Qg9 (l:List St)(i:Nat):Qj (l.take i)≤Qj l:=by
 conv=>rhs;rw[←List.take_append_drop i l,Q2u]
 omega
theorem St.size_pos (x:St):1≤x.size:=by rw[x.size_eq];omega
theorem Qeg (l:List St):l.length≤Qj l:=by
 induction l with
 |nil=>simp
 |cons x r ih=>simp only[List.length_cons,Qj];have:=x.size_pos;omega
theorem Qa9d:∀(n:Nat) (x:Ex) {H:Heap} {K:V→Heap→Prop},x.size≤n→x.size≤2^40→K (.c (.int .i64 x.size)) H→Ql prog Qxe [.ag x.cells] H K:=by
 intro n
 induction n with
 |zero=>intro x _ _ h;have:=x.size_pos;omega
 |succ n ih=>
 intro x H K hn hb hK
 have hsz:=x.size_kids
 refine Qc Qah Qa9s ?_
 refine Qa ?_
 simp only[go_sem,x.cells_eq]
 refine Qa ?_
 simp only[go_sem]
 refine Qu ?_
 refine Qa ?_
 simp only[go_sem]
 refine Qe (Qf (Qy (fun n e1 H1=>∃i:Nat,n=x.kids.length-i∧i≤x.kids.length∧H1=H∧e1=[(1,.c (.pp [.int .i64 x.op,.int .i64 x.n,.str x.name,.sl false 4 (Qm x.kids)])),(3,.c (.int .i64 ((1+Qai (x.kids.take i):Nat):Int))),(4,.c (.int .i64 i))]) x.kids.length ?_ ?_))
 ·exact⟨0,by omega,by omega,rfl,by simp[Qai]⟩
 ·rintro n e1 H1 ⟨i,hn,hi,rfl,rfl⟩
  refine Qu ?_
  refine Qa ?_
  simp only[go_sem,Qh]
  intro hl
  simp only[LIM]at hl
  refine Qe (Qb rfl ?_ ?_)
  ·intro hc
   have hlt:i<x.kids.length:=by simpa using hc
   have hm:=Qac (List.getElem_mem hlt)
   have htk:=Q8m hlt
   have htl:=Qmc x.kids (i+1)
   refine Qd ?_
   simp only[go_sem]
   refine Qe (Qf (Qp ?_))
   simp only[go_sem,hlt,Qh,Q6 _ _ hlt,Ex.take4,Ex.allOw,Ex.cells_len]
   refine ih _ (by omega) (by omega) ?_
   simp only[go_sem,Q9c]
   refine⟨Qr (by omega) (by omega),?_⟩
   refine Qp ?_
   simp only[go_sem,X.next]
   refine⟨Qr (by omega) (by omega),x.kids.length-(i+1),by omega,i+1,rfl,by omega,?_⟩
   rw[htk];simp;omega
  ·intro hc
   have hge:x.kids.length≤i:=by simpa using hc
   refine Qt ?_
   simp only[go_sem,X.next]
   refine Qa ?_
   simp only[go_sem]
   refine Qg ?_
   simp only[go_sem,Qq,Qz,Qic,List.mem_singleton,forall_eq,RS.op]
   rw[List.take_of_length_le hge,←hsz];exact hK
end Go.AE.Y

namespace Go.AE.Y
open Go.Proofs.Tryz
variable {H:Heap}{K:V→Heap→Prop}
theorem Qa9c {op:Int}(hK:K (.tup [.c (.int .i64 (Qd9 op)),.c (.int .i64 (Qdw op))]) H):Ql prog Qaes [.c (.int .i64 op)] H K:=by
 refine Qc Qah Qbel ?_
 refine Qa ?_
 simp only[go_sem]
 refine Qu ?_
 refine Qa ?_
 simp only[go_sem]
 have ret:∀(a b:Int) (e:Env),Qd9 op=a→Qdw op=b→lk 2 e=.c (.int .i64 a)→lk 3 e=.c (.int .i64 b)→Qq Q3l K .ret e H:=by
  intro a b e h1 h2 h3 h4
  simp only[go_sem,Qq,Qz,Q3l,List.forall_mem_cons,RS.op,h3,h4]
  rw[h1,h2]at hK
  exact hK
 refine Qe (Qf ?_)
 refine Qu ?_
 refine Qa ?_
 simp only[go_sem]
 have r5:∀(b:Bool),b=decide (op=1∨op=2)→Qae prog Qaog (X.inBlock 0 (X.sq prog Q6z (Qq Q3l K))) [(4,.c (.int .i64 op)),(5,.c (.bool b))] H:=by
  intro b hb
  refine Qb rfl ?_ ?_
  ·intro hc
   rw[hb,decide_eq_true_eq]at hc
   refine Qa ?_
   simp only[go_sem]
   refine Qg ?_
   simp only[go_sem]
   exact ret 0 0 _ (by rw[Qd9,if_pos (by omega)]) (by rw[Qdw,if_pos hc]) (by simp[lk]) (by simp[lk])
  intro hc
  rw[hb,decide_eq_false_iff_not]at hc
  refine Qu ?_
  refine Qa ?_
  simp only[go_sem]
  have r8:∀(b:Bool),b=decide (op=11∨op=12)→Qae prog Qaof (X.inBlock 0 (X.sq prog Q6z (Qq Q3l K))) [(4,.c (.int .i64 op)),(8,.c (.bool b))] H:=by
   intro b hb2
   refine Qb rfl ?_ ?_
   ·intro hc2
    rw[hb2,decide_eq_true_eq]at hc2
    refine Qa ?_
    simp only[go_sem]
    refine Qg ?_
    simp only[go_sem]
    exact ret 1 1 _ (by rw[Qd9,if_neg (by omega),if_pos hc2]) (by rw[Qdw,if_neg hc,if_pos hc2]) (by simp[lk]) (by simp[lk])
   intro hc2
   rw[hb2,decide_eq_false_iff_not]at hc2
   refine Qa ?_
   simp only[go_sem]
   refine Qb rfl ?_ ?_
   ·intro hc3
    have hc3:op=13:=by simpa using hc3
    refine Qa ?_
    simp only[go_sem]
    refine Qg ?_
    simp only[go_sem]
    exact ret 0 3 _ (by rw[Qd9,if_pos (by omega)]) (by rw[Qdw,if_neg hc,if_neg hc2,if_pos hc3]) (by simp[lk]) (by simp[lk])
   ·intro hc3
    have hc3:¬op=13:=by simpa using hc3
    refine Qd ?_
    simp only[go_sem]
    refine Qa ?_
    simp only[go_sem]
    refine Qg ?_
    exact ret 2 2 _ (by rw[Qd9,if_neg (by omega),if_neg hc2]) (by rw[Qdw,if_neg hc,if_neg hc2,if_neg hc3]) (by simp[lk]) (by simp[lk])
  refine Qe (Qb rfl ?_ ?_)
  ·intro hc2
   have h11:op=11:=by simpa using hc2
   refine Qd ?_
   simp only[go_sem]
   exact r8 _ (by rw[hc2];symm;rw[decide_eq_true_eq];exact .inl h11)
  ·intro hc2
   have h11:¬op=11:=by simpa using hc2
   refine Qp ?_
   simp only[go_sem]
   exact r8 _ (by rw[decide_eq_decide];omega)
 refine Qe (Qb rfl ?_ ?_)
 ·intro hc
  have h1:op=1:=by simpa using hc
  refine Qd ?_
  simp only[go_sem]
  exact r5 _ (by rw[hc];symm;rw[decide_eq_true_eq];exact .inl h1)
 ·intro hc
  have h1:¬op=1:=by simpa using hc
  refine Qp ?_
  simp only[go_sem]
  exact r5 _ (by rw[decide_eq_decide];omega)
def exA (op:Int)(k:Nat)(d:Int):Bool:=decide (1≤d)&&decide (1≤op∧op≤13)&&decide (Qd9 op≤(k:Int)∧(k:Int)≤Qdw op)
def exB (op n:Int)(name:List UInt8):Bool:=(decide (op=2∨op=13) == Qc6 name)&&(decide (op=2∨op=13) || decide (name=[]))&&decide (0≤n∧n≤255)&&(decide (op=1) || decide (n=0))
theorem Qbhr (x:Ex)(d:Int):x.form d=(exA x.op x.kids.length d&&(exB x.op x.n x.name&&x.kids.all fun y=>y.form (d-1))):=by
 rw[x.form_eq,Q8l,exA,exB,Qqh]
 simp only[Bool.and_assoc]
theorem Qku (a b:Bool):(bif a then true else b)=(a || b):=by cases a <;> rfl
theorem Qew (a b:Bool):(bif a then b else false)=(a&&b):=by cases a <;> rfl
theorem Qa4i {a b:Int}:decide (a<b) = !decide (b≤a):=by
 rw[Bool.eq_iff_iff];simp only[decide_eq_true_eq,Bool.not_eq_true',decide_eq_false_iff_not];omega
theorem Qa9b:∀(n:Nat) (x:Ex) {H:Heap} {K:V→Heap→Prop} (deep:Int),x.size≤n→deep≤100→K (.c (.bool (x.form deep))) H→Ql prog Q21 [.ag x.cells,.c (.int .i64 deep)] H K:=by
 intro n
 induction n with
 |zero=>intro x _ _ _ h;have:=x.size_pos;omega
 |succ n ih=>
 intro x H K deep hn hd hK
 rw[Qbhr]at hK
 have hsz:=x.size_kids
 refine Qc Qah Qbek ?_
 refine Qa ?_
 simp only[go_sem,x.cells_eq]
 refine Qa ?_
 simp only[go_sem]
 refine Qa9c ?_
 simp only[go_sem,Qag6,List.getD_cons_zero,List.getD_cons_succ]
 refine Qu ?_
 refine Qa ?_
 simp only[go_sem]
 have retf:∀(b:Bool) (e:Env),(exA x.op x.kids.length deep&&(exB x.op x.n x.name&&x.kids.all fun y=>y.form (deep-1)))=b→lk 4 e=.c (.bool b)→Qq Qat4 K .ret e H:=by
  intro b e h0 h1
  simp only[go_sem,Qq,Qz,Qat4,List.mem_singleton,forall_eq,RS.op,h1]
  rw[←h0];exact hK
 have rest:∀b:Bool,b = !exA x.op x.kids.length deep→Qae prog (s_l2Form_3.seq Qag5) (Qq Qat4 K)
   [(1,.c (.int .i64 deep)),(2,.c (.pp [.int .i64 x.op,.int .i64 x.n,.str x.name,.sl false 4 (Qm x.kids)])),(31,.c (.bool b))] H:=by
  intro b hb
  refine Qe (Qb rfl ?_ ?_)
  ·intro hc
   refine Qa ?_
   simp only[go_sem]
   refine Qg ?_
   simp only[go_sem]
   have hA:exA x.op x.kids.length deep=false:=by rw[hc]at hb;simpa using hb.symm
   exact retf false _ (by rw[hA];rfl) (by simp[lk])
  intro hc
  have hA:exA x.op x.kids.length deep=true:=by rw[hc]at hb;simpa using hb.symm
  have hdp:1≤deep:=by
   have:=hA
   simp only[exA,Bool.and_eq_true,decide_eq_true_eq]at this
   exact this.1.1
  rw[hA,Bool.true_and]at retf
  refine Qd ?_
  simp only[go_sem]
  refine Qa ?_
  simp only[go_sem]
  refine Qu ?_
  refine Qa ?_
  simp only[go_sem]
  refine Q2v ?_
  simp only[go_sem,Qag7]
  have rest2:∀b:Bool,b = !exB x.op x.n x.name→Qae prog (s_l2Form_6.seq Qag4) (Qq Qat4 K)
    [(1,.c (.int .i64 deep)),(2,.c (.pp [.int .i64 x.op,.int .i64 x.n,.str x.name,.sl false 4 (Qm x.kids)])),(69,.c (.bool b))] H:=by
   intro b hb
   refine Qe (Qb rfl ?_ ?_)
   ·intro hc
    have hB:exB x.op x.n x.name=false:=by rw[hc]at hb;simpa using hb.symm
    refine Qa ?_
    simp only[go_sem]
    refine Qg ?_
    simp only[go_sem]
    exact retf false _ (by rw[hB];rfl) (by simp[lk])
   intro hc
   have hB:exB x.op x.n x.name=true:=by rw[hc]at hb;simpa using hb.symm
   rw[hB,Bool.true_and]at retf
   refine Qd ?_
   simp only[go_sem]
   refine Qu ?_
   refine Qa ?_
   simp only[go_sem]
   refine Qe (Qf (Qy (fun n e1 H1=>∃i:Nat,n=x.kids.length-i∧i≤x.kids.length∧H1=H∧((x.kids.take i).all fun y=>y.form (deep-1))=true∧e1=[(1,.c (.int .i64 deep)),(2,.c (.pp [.int .i64 x.op,.int .i64 x.n,.str x.name,.sl false 4 (Qm x.kids)])),(8,.c (.int .i64 i))]) x.kids.length ?_ ?_))
   ·exact⟨0,by omega,by omega,rfl,rfl,rfl⟩
   ·rintro n e1 H1 ⟨i,hn,hi,rfl,hall,rfl⟩
    refine Qu ?_
    refine Qa ?_
    simp only[go_sem,Qh]
    intro hl
    simp only[LIM]at hl
    refine Qe (Qb rfl ?_ ?_)
    ·intro hc
     have hlt:i<x.kids.length:=by simpa using hc
     have hm:=Qac (List.getElem_mem hlt)
     refine Qd ?_
     simp only[go_sem]
     refine Qe (Qf ?_)
     refine Qa ?_
     simp only[go_sem,hlt,Qh,Q6 _ _ hlt,Ex.take4,Ex.allOw,Ex.cells_len]
     refine⟨Qr (by omega) (by omega),?_⟩
     refine ih _ (deep-1) (by omega) (by omega) ?_
     simp only[go_sem,Qag8]
     refine Qb rfl ?_ ?_
     ·intro hc2
      refine Qa ?_
      simp only[go_sem]
      refine Qg ?_
      simp only[go_sem,X.next]
      exact retf false _ (Qn5 hlt (Q3h hc2)) (by simp[lk])
     ·intro hc2
      refine Qd ?_
      simp only[go_sem]
      refine Qp ?_
      simp only[go_sem,X.next]
      exact⟨Qr (by omega) (by omega),x.kids.length-(i+1),by omega,i+1,rfl,by omega,by rw[Qiq hlt,hall,Qua hc2];rfl,rfl⟩
    ·intro hc
     have hge:x.kids.length≤i:=by simpa using hc
     rw[List.take_of_length_le hge]at hall
     refine Qt ?_
     simp only[go_sem,X.next]
     refine Qa ?_
     simp only[go_sem]
     refine Qg ?_
     exact retf true _ hall (by simp[lk])
  refine⟨fun hb1=>?_,fun hb1=>?_⟩
  ·refine Qae0 ?_
   simp only[go_sem,Q05]
   refine rest2 _ ?_
   simp only[Qku,Qew,exB]
   by_cases h1:x.op=1 <;> by_cases h2:x.op=2 <;> by_cases h3:x.op=13 <;> cases Qc6 x.name <;> by_cases h4:x.name=[] <;> by_cases h5:(0≤x.n∧x.n≤255) <;> by_cases h6:x.n=0 <;> simp[h1,h2,h3,h4,h5,h6]
  ·replace hb1:=Qua hb1
   simp only[go_sem,Q05,hb1]
   refine rest2 _ ?_
   simp only[Qku,Qew,exB]at hb1⊢
   revert hb1
   by_cases h1:x.op=1 <;> by_cases h2:x.op=2 <;> by_cases h3:x.op=13 <;> cases Qc6 x.name <;> by_cases h4:x.name=[] <;> by_cases h5:(0≤x.n∧x.n≤255) <;> by_cases h6:x.n=0 <;> simp[h1,h2,h3,h4,h5,h6]
 refine⟨fun hb1=>?_,fun hb1=>?_⟩
 ·replace hb1:=Q3h hb1
  have hdp:1≤deep:=by simp at hb1;omega
  refine Qae0 ?_
  simp only[go_sem,Q04,hb1,Qh,cond_false]
  intro hl
  refine⟨fun hb2=>?_,fun hb2=>?_⟩
  ·refine Qae0 ?_
   simp only[go_sem,Qrl]
   refine rest _ ?_
   simp only[Qku,exA]
   have hd1:decide (1≤deep)=true:=decide_eq_true hdp
   rw[hd1]
   cases decide (1≤x.op∧x.op≤13) <;> cases decide (Qd9 x.op≤(x.kids.length:Int)∧(x.kids.length:Int)≤Qdw x.op) <;> rfl
  ·replace hb2:=Qua hb2
   simp only[go_sem,Qrl,hb2]
   refine rest _ ?_
   have hop:decide (1≤x.op∧x.op≤13)=false:=by
    cases h:decide (1≤x.op∧x.op≤13)with
    |false=>rfl
    |true=>rw[h]at hb2;simp at hb2
   simp only[exA,hop,Bool.and_false,Bool.false_and,Bool.not_false]
 ·replace hb1:=Qua hb1
  simp only[go_sem,Q04,Qrl,hb1,Qh,cond_true]
  refine rest _ ?_
  have hdp:decide (1≤deep)=false:=by
   rw[decide_eq_false_iff_not];simp at hb1;omega
  simp only[exA,hdp,Bool.false_and,Bool.not_false]
theorem Qasw {x:Ex}(hx:x.size≤2^40)(hK:K (.c (.bool x.valid)) H):Ql prog Qmi [.ag x.cells] H K:=by
 refine Qc Qah Qaj4 ?_
 refine Qa ?_
 simp only[go_sem,Ex.ne_nil]
 refine Qa ?_
 simp only[go_sem,Ex.take4,Ex.allOw,Ex.cells_len]
 refine Qa9b x.size x 6 (Nat.le_refl _) (by omega) ?_
 simp only[go_sem,Qp8,Ex.take4,Ex.allOw,Ex.cells_len]
 have e:decide ((x.size:Int)≤30)=decide (x.size≤30):=by rw[decide_eq_decide];omega
 refine⟨fun hb=>?_,fun hb=>?_⟩
 ·refine Qa9d x.size x (Nat.le_refl _) hx ?_
  simp only[go_sem,Qip]
  refine Qg ?_
  simp only[go_sem,Qq,Qz,Qic,List.mem_singleton,forall_eq,RS.op]
  rw[Ex.valid,hb]at hK
  first|(rw[e];exact hK)|(rw[hb,e];exact hK)|(simp only[hb,e,cond_true];exact hK)
 ·simp only[go_sem,Qip,hb]
  refine Qg ?_
  simp only[go_sem,Qq,Qz,Qic,List.mem_singleton,forall_eq,RS.op]
  rw[Ex.valid,hb]at hK
  exact hK
end Go.AE.Y

namespace Go.AE.Y
open Go.Proofs.Tryz
variable {H:Heap}{K:V→Heap→Prop}
def St.raw (x:St):List C:=[.int .i64 x.op,.str x.name,.sl false 4 (Qm x.args),.sl false 5 (Qk x.body),.sl false 5 (Qk x.els)]
def Qs:List Fn→Nat
 |[]=>0
 |f::r=>Qj f.body+Qs r
theorem Qco {l:List Fn}{f:Fn}(h:f∈l):Qj f.body≤Qs l:=by
 induction l with
 |nil=>simp at h
 |cons g r ih=>
  simp only[Qs]
  rcases List.mem_cons.1 h with rfl|h
  ·omega
  ·have:=ih h;omega
theorem Q8s (a b:List Fn):Qs (a++b)=Qs a+Qs b:=by
 induction a with
 |nil=>simp[Qs]
 |cons x r ih=>simp only[List.cons_append,Qs,ih];omega
theorem Qap4 {l:List Fn}{i:Nat}(h:i<l.length):Qs (l.take (i+1))=Qs (l.take i)+Qj (l[i]'h).body:=by
 rw[List.take_succ_eq_append_getElem h,Q8s];simp[Qs]
theorem Qr9 (l:List Fn)(i:Nat):Qs (l.take i)≤Qs l:=by
 conv=>rhs;rw[←List.take_append_drop i l,Q8s]
 omega
end Go.AE.Y

namespace Go.AE.Y
open Go.Proofs.Tryz
variable {H:Heap}{K:V→Heap→Prop}
mutual
theorem St.cnt_le:∀(x:St),x.cnt≤x.size
 |.mk op name args body els=>by
  have h1:=Qw1 body
  have h2:=Qw1 els
  simp only[St.cnt,St.size];omega
theorem Qw1:∀(l:List St),Qaw l≤Qj l
 |[]=>by simp[Qaw]
 |x::r=>by
  have h1:=St.cnt_le x
  have h2:=Qw1 r
  simp only[Qaw,Qj];omega
end
theorem Qa7j (l:List St):Qaw l=l.length+(l.map fun x=>Qaw x.body+Qaw x.els).sum:=by
 induction l with
 |nil=>simp[Qaw]
 |cons x r ih=>simp only[Qaw,List.length_cons,List.map_cons,List.sum_cons,ih,x.cnt_eq];omega
def inC (l:List St):Nat:=(l.map fun x=>Qaw x.body+Qaw x.els).sum
theorem Qbdv {l:List St}{i:Nat}(h:i<l.length):inC (l.take (i+1))=inC (l.take i)+(Qaw (l[i]'h).body+Qaw (l[i]'h).els):=by
 rw[inC,inC,List.take_succ_eq_append_getElem h,List.map_append,List.sum_append];simp
theorem Qbjv (l:List St)(i:Nat):inC (l.take i)≤inC l:=by
 have:inC l=inC (l.take i)+inC (l.drop i):=by rw[inC,inC,inC,←List.sum_append,←List.map_append,List.take_append_drop]
 omega
theorem Qa40:∀(n:Nat) (l:List St) {fl:Bool} {H:Heap} {K:V→Heap→Prop},Qj l≤n→Qj l≤2^40→K (.c (.int .i64 (Qaw l))) H→Ql prog Qol [.c (.sl fl 5 (Qk l))] H K:=by
 intro n
 induction n using Nat.strongRecOn with
 |ind n ih=>
 intro l fl H K hn hb hK
 have hlen:=Qeg l
 have htot:=Qa7j l
 have hcl:=Qw1 l
 change Qaw l=l.length+inC l at htot
 refine Qc Qah Qa9u ?_
 refine Qa ?_
 simp only[go_sem]
 refine Qa ?_
 simp only[go_sem,Qo]
 intro hl
 refine Qu ?_
 refine Qa ?_
 simp only[go_sem]
 refine Qe (Qf (Qy (fun n e1 H1=>∃(i:Nat),n=l.length-i∧i≤l.length∧H1=H∧e1=[(0,.c (.sl fl 5 (Qk l))),(3,.c (.int .i64 ((l.length+inC (l.take i):Nat):Int))),(4,.c (.int .i64 i))]) l.length ?_ ?_))
 ·exact⟨0,by omega,by omega,rfl,rfl⟩
 ·rintro n e1 H1 ⟨i,hn1,hi,rfl,rfl⟩
  refine Qu ?_
  refine Qa ?_
  simp only[go_sem,Qo]
  simp only[LIM]at hl
  refine fun _=>?_
  refine Qe (Qb rfl ?_ ?_)
  ·intro hc
   have hlt:i<l.length:=by simpa using hc
   have hm:=Qak (List.getElem_mem hlt)
   have hse:=(l[i]'hlt).size_eq
   have hit:=Qbdv hlt
   have hil:=Qbjv l (i+1)
   refine Qd ?_
   simp only[go_sem]
   refine Qe (Qf (Qaeg ?_))
   simp only[go_sem,hlt,Qo,Q4 _ _ hlt,St.cells_eq]
   refine ih (Qj l[i].body) (by omega) l[i].body (Nat.le_refl _) (by omega) ?_
   simp only[go_sem,Q9e,hlt,Qo,Q4 _ _ hlt,St.cells_eq]
   refine⟨Qr (by omega) (by omega),?_⟩
   refine ih (Qj l[i].els) (by omega) l[i].els (Nat.le_refl _) (by omega) ?_
   simp only[go_sem,Q9d]
   refine⟨Qr (by omega) (by omega),?_⟩
   refine Qp ?_
   simp only[go_sem,X.next]
   refine⟨Qr (by omega) (by omega),l.length-(i+1),by omega,i+1,rfl,by omega,?_⟩
   rw[hit]
   simp;omega
  ·intro hc
   have hge:l.length≤i:=by simpa using hc
   refine Qt ?_
   simp only[go_sem,X.next]
   refine Qa ?_
   simp only[go_sem]
   refine Qg ?_
   simp only[go_sem,Qq,Qz,Qic,List.mem_singleton,forall_eq,RS.op]
   rw[List.take_of_length_le hge,←htot]
   exact hK
def stA (op:Int)(k:Nat)(d:Int):Bool:=decide (1≤d)&&decide (1≤op∧op≤8)&&decide (k=argN op)
def stB (op:Int)(name:List UInt8):Bool:=(decide (op=1∨op=2) == Qc6 name)&&(decide (op=1∨op=2) || decide (name=[]))
def stD (op:Int)(nb ne:Nat):Bool:=(decide (op=5) || decide (ne=0))&&(decide (op=5∨op=6) || decide (nb=0))
theorem Qbl7 (x:St)(d:Int):x.form d=(stA x.op x.args.length d&&(stB x.op x.name&&(x.args.all Ex.valid&&((!decide (x.op=8) || decide ((x.args.map Ex.op).getD 0 0=13))&&(stD x.op x.body.length x.els.length&&(Q2 x.body (d-1)&&Q2 x.els (d-1))))))):=by
 rw[x.form_eq,Qp9,stA,stB,stD]
 simp only[Bool.and_assoc]
def Qbja (n:Nat):Prop:=∀(x:St) (deep:Int) (H:Heap) (K:V→Heap→Prop),x.size≤n→x.size≤2^40→deep≤100→K (.c (.bool (x.form deep))) H→Ql prog Qaeu [.ag x.cells,.c (.int .i64 deep)] H K
def Qa7u (n:Nat):Prop:=∀(l:List St) (deep:Int) (fl:Bool) (H:Heap) (K:V→Heap→Prop),Qj l≤n→Qj l≤2^40→deep≤100→K (.c (.bool (Q2 l deep))) H→Ql prog Qom [.c (.sl fl 5 (Qk l)),.c (.int .i64 deep)] H K
theorem Qbb1 {n:Nat}(hS:Qbja n):Qa7u n:=by
 intro l deep fl H K hn hb hd hK
 rw[Qdb]at hK
 refine Qc Qah Qa9v ?_
 have retf:∀(b:Bool) (e:Env),(l.all fun x=>x.form deep)=b→lk 4 e=.c (.bool b)→Qq Qat4 K .ret e H:=by
  intro b e h0 h1
  simp only[go_sem,Qq,Qz,Qat4,List.mem_singleton,forall_eq,RS.op,h1]
  rw[←h0];exact hK
 refine Qa ?_
 simp only[go_sem]
 refine Qu ?_
 refine Qa ?_
 simp only[go_sem]
 refine Qe (Qf (Qy (fun n e1 H1=>∃(i:Nat),n=l.length-i∧i≤l.length∧H1=H∧((l.take i).all fun x=>x.form deep)=true∧e1=[(0,.c (.sl fl 5 (Qk l))),(1,.c (.int .i64 deep)),(5,.c (.int .i64 i))]) l.length ?_ ?_))
 ·exact⟨0,by omega,by omega,rfl,rfl,rfl⟩
 ·rintro n e1 H1 ⟨i,hn1,hi,rfl,hall,rfl⟩
  refine Qu ?_
  refine Qa ?_
  simp only[go_sem,Qo]
  intro hl
  simp only[LIM]at hl
  refine Qe (Qb rfl ?_ ?_)
  ·intro hc
   have hlt:i<l.length:=by simpa using hc
   have hm:=Qak (List.getElem_mem hlt)
   refine Qd ?_
   simp only[go_sem]
   refine Qe (Qf ?_)
   refine Qa ?_
   simp only[go_sem,hlt,Qo,Q4 _ _ hlt,St.take5,St.allOw,St.cells_len]
   refine hS _ deep _ _ (by omega) (by omega) hd ?_
   simp only[go_sem,Q9g]
   refine Qb rfl ?_ ?_
   ·intro hc2
    refine Qa ?_
    simp only[go_sem]
    refine Qg ?_
    simp only[go_sem,X.next]
    exact retf false _ (Qn5 hlt (Q3h hc2)) (by simp[lk])
   ·intro hc2
    refine Qd ?_
    simp only[go_sem]
    refine Qp ?_
    simp only[go_sem,X.next]
    exact⟨Qr (by omega) (by omega),l.length-(i+1),by omega,i+1,rfl,by omega,by rw[Qiq hlt,hall,Qua hc2];rfl,rfl⟩
  ·intro hc
   have hge:l.length≤i:=by simpa using hc
   rw[List.take_of_length_le hge]at hall
   refine Qt ?_
   simp only[go_sem,X.next]
   refine Qa ?_
   simp only[go_sem]
   refine Qg ?_
   exact retf true _ hall (by simp[lk])
theorem Qbfw {n:Nat}(hS:∀m,m<n→Qa7u m):Qbja n:=by
 intro x deep H K hn hb hd hK
 rw[Qbl7]at hK
 have hsz:=x.size_eq
 refine Qc Qah Qben ?_
 have retf:∀(b:Bool) (e:Env),(stA x.op x.args.length deep&&(stB x.op x.name&&(x.args.all Ex.valid&&((!decide (x.op=8) || decide ((x.args.map Ex.op).getD 0 0=13))&&(stD x.op x.body.length x.els.length&&(Q2 x.body (deep-1)&&Q2 x.els (deep-1)))))))=b→
   lk 4 e=.c (.bool b)→Qq Qat4 K .ret e H:=by
  intro b e h0 h1
  simp only[go_sem,Qq,Qz,Qat4,List.mem_singleton,forall_eq,RS.op,h1]
  rw[←h0];exact hK
 refine Qa ?_
 simp only[go_sem,x.cells_eq]
 refine Qu ?_
 refine Qbg ?_
 simp only[go_sem]
 have rest:∀b:Bool,b = !stA x.op x.args.length deep→Qae prog (s_l3Stmt_2.seq Qahi) (Qq Qat4 K)
   [(1,.c (.int .i64 deep)),(2,.c (.pp [.int .i64 x.op,.str x.name,.sl false 4 (Qm x.args),.sl false 5 (Qk x.body),.sl false 5 (Qk x.els)])),(23,.c (.bool b))] H:=by
  intro b hb
  refine Qe (Qb rfl ?_ ?_)
  ·intro hc
   have hA:stA x.op x.args.length deep=false:=by rw[hc]at hb;simpa using hb.symm
   refine Qa ?_
   simp only[go_sem]
   refine Qg ?_
   simp only[go_sem]
   exact retf false _ (by rw[hA];rfl) (by simp[lk])
  intro hc
  have hA:stA x.op x.args.length deep=true:=by rw[hc]at hb;simpa using hb.symm
  rw[hA,Bool.true_and]at retf
  simp only[stA,Bool.and_eq_true,decide_eq_true_eq]at hA
  obtain⟨⟨hdp,_⟩,hal⟩:=hA
  have hap:0<x.args.length:=by rw[hal,argN];split <;> omega
  refine Qd ?_
  simp only[go_sem]
  refine Qa ?_
  simp only[go_sem]
  refine Qu ?_
  refine Qa ?_
  simp only[go_sem]
  refine Q2v ?_
  simp only[go_sem,Qahj]
  refine Qe (Qb rfl ?_ ?_)
  ·intro hc
   have hB:stB x.op x.name=false:=by
    simp only[Qku,Qew]at hc
    simp only[stB]
    revert hc
    by_cases h1:x.op=1 <;> by_cases h2:x.op=2 <;> cases Qc6 x.name <;> by_cases h4:x.name=[] <;> simp[h1,h2,h4]
   refine Qa ?_
   simp only[go_sem]
   refine Qg ?_
   simp only[go_sem]
   exact retf false _ (by rw[hB];rfl) (by simp[lk])
  intro hc
  have hB:stB x.op x.name=true:=by
   simp only[Qku,Qew]at hc
   simp only[stB]
   revert hc
   by_cases h1:x.op=1 <;> by_cases h2:x.op=2 <;> cases Qc6 x.name <;> by_cases h4:x.name=[] <;> simp[h1,h2,h4]
  rw[hB,Bool.true_and]at retf
  refine Qd ?_
  simp only[go_sem]
  refine Qu ?_
  refine Qa ?_
  simp only[go_sem]
  refine Qe (Qf (Qy (fun n e1 H1=>∃(i:Nat),n=x.args.length-i∧i≤x.args.length∧H1=H∧(x.args.take i).all Ex.valid=true∧e1=[(1,.c (.int .i64 deep)),(2,.c (.pp [.int .i64 x.op,.str x.name,.sl false 4 (Qm x.args),.sl false 5 (Qk x.body),.sl false 5 (Qk x.els)])),(6,.c (.int .i64 i))]) x.args.length ?_ ?_))
  ·exact⟨0,by omega,by omega,rfl,rfl,rfl⟩
  ·rintro n e1 H1 ⟨i,hn1,hi,rfl,hall,rfl⟩
   refine Qu ?_
   refine Qa ?_
   simp only[go_sem,Qh]
   intro hl
   simp only[LIM]at hl
   refine Qe (Qb rfl ?_ ?_)
   ·intro hc
    have hlt:i<x.args.length:=by simpa using hc
    have hm:=Qac (List.getElem_mem hlt)
    refine Qd ?_
    simp only[go_sem]
    refine Qe (Qf ?_)
    refine Qa ?_
    simp only[go_sem,hlt,Qh,Q6 _ _ hlt,Ex.take4,Ex.allOw,Ex.cells_len]
    refine Qasw (by omega) ?_
    simp only[go_sem,Qahk]
    refine Qb rfl ?_ ?_
    ·intro hc2
     refine Qa ?_
     simp only[go_sem]
     refine Qg ?_
     simp only[go_sem,X.next]
     exact retf false _ (by rw[Qn5 hlt (Q3h hc2)];rfl) (by simp[lk])
    ·intro hc2
     refine Qd ?_
     simp only[go_sem]
     refine Qp ?_
     simp only[go_sem,X.next]
     exact⟨Qr (by omega) (by omega),x.args.length-(i+1),by omega,i+1,rfl,by omega,by rw[Qiq hlt,hall,Qua hc2];rfl,rfl⟩
   ·intro hc
    have hge:x.args.length≤i:=by simpa using hc
    rw[List.take_of_length_le hge]at hall
    rw[hall,Bool.true_and]at retf
    have hg0:(x.args.map Ex.op).getD 0 0=x.args[0].op:=by simp[List.getD_eq_getElem?_getD,hap]
    refine Qt ?_
    simp only[go_sem,X.next]
    refine Qu ?_
    refine Qa ?_
    simp only[go_sem,hap,Qh,Q6 _ _ hap,Ex.cells_eq]
    refine⟨fun _=>Int.le_refl _,?_⟩
    refine Qe (Qb rfl ?_ ?_)
    ·intro hc
     have hC:(!decide (x.op=8) || decide ((x.args.map Ex.op).getD 0 0=13))=false:=by
      rw[hg0]
      simp only[Qew]at hc
      revert hc
      by_cases h1:x.op=8 <;> by_cases h2:x.args[0].op=13 <;> simp[h1,h2]
     refine Qa ?_
     simp only[go_sem]
     refine Qg ?_
     simp only[go_sem]
     exact retf false _ (by rw[hC];rfl) (by simp[lk])
    intro hc
    have hC:(!decide (x.op=8) || decide ((x.args.map Ex.op).getD 0 0=13))=true:=by
     rw[hg0]
     simp only[Qew]at hc
     revert hc
     by_cases h1:x.op=8 <;> by_cases h2:x.args[0].op=13 <;> simp[h1,h2]
    rw[hC,Bool.true_and]at retf
    refine Qd ?_
    simp only[go_sem]
    refine Qu ?_
    refine Qa ?_
    simp only[go_sem,Qo]
    intros
    have eb:decide ((0:Int)<(x.body.length:Int)) = !decide (x.body.length=0):=by
     rw[Bool.eq_iff_iff];simp only[decide_eq_true_eq,Bool.not_eq_true',decide_eq_false_iff_not];omega
    have ee:decide ((0:Int)<(x.els.length:Int)) = !decide (x.els.length=0):=by
     rw[Bool.eq_iff_iff];simp only[decide_eq_true_eq,Bool.not_eq_true',decide_eq_false_iff_not];omega
    refine Qe (Qb rfl ?_ ?_)
    ·intro hc
     have hD:stD x.op x.body.length x.els.length=false:=by
      simp only[Qew,Qku,eb,ee]at hc
      simp only[stD]
      revert hc
      by_cases h1:x.op=5 <;> by_cases h2:x.op=6 <;> cases decide (x.body.length=0) <;> cases decide (x.els.length=0) <;> simp[h1,h2]
     refine Qa ?_
     simp only[go_sem]
     refine Qg ?_
     simp only[go_sem]
     exact retf false _ (by rw[hD];rfl) (by simp[lk])
    intro hc
    have hD:stD x.op x.body.length x.els.length=true:=by
     simp only[Qew,Qku,eb,ee]at hc
     simp only[stD]
     revert hc
     by_cases h1:x.op=5 <;> by_cases h2:x.op=6 <;> cases decide (x.body.length=0) <;> cases decide (x.els.length=0) <;> simp[h1,h2]
    rw[hD,Bool.true_and]at retf
    refine Qd ?_
    simp only[go_sem]
    refine Qa ?_
    simp only[go_sem]
    refine⟨Qr (by omega) (by omega),?_⟩
    refine hS (Qj x.body) (by omega) _ _ _ _ _ (Nat.le_refl _) (by omega) (by omega) ?_
    simp only[go_sem,Q9f]
    refine⟨fun _=>Qr (by omega) (by omega),?_⟩
    refine⟨fun hb1=>?_,fun hb1=>?_⟩
    ·refine hS (Qj x.els) (by omega) _ _ _ _ _ (Nat.le_refl _) (by omega) (by omega) ?_
     simp only[go_sem,Qvj,hb1]
     refine Qg ?_
     exact retf _ _ (by rw[hb1,Bool.true_and]) (by simp[lk])
    ·simp only[go_sem,Qvj,hb1]
     refine Qg ?_
     exact retf false _ (by rw[hb1];rfl) (by simp[lk])
 refine⟨fun hb1=>?_,fun hb1=>?_⟩
 ·replace hb1:=Q3h hb1
  have hdp:1≤deep:=by simp at hb1;omega
  have hd1:decide (1≤deep)=true:=decide_eq_true hdp
  refine Qae0 ?_
  simp only[go_sem,Q06,hb1,Qh,cond_false]
  refine⟨fun hb2=>?_,fun hb2=>?_⟩
  ·refine Qbec ?_
   simp only[go_sem,Qrm,Qh]
   refine rest _ ?_
   have hln:decide ((x.args.length:Int)=if x.op=4 then 2 else 1)=decide (x.args.length=argN x.op):=by
    rw[decide_eq_decide,argN];split <;> omega
   simp only[stA,hd1,hln,Qku]
   cases decide (1≤x.op∧x.op≤8) <;> cases decide (x.args.length=argN x.op) <;> rfl
  ·replace hb2:=Qua hb2
   simp only[go_sem,Qrm,hb2,Qh]
   refine rest _ ?_
   have hop:decide (1≤x.op∧x.op≤8)=false:=by
    cases h:decide (1≤x.op∧x.op≤8)with
    |false=>rfl
    |true=>rw[h]at hb2;simp at hb2
   simp only[stA,hop,Bool.and_false,Bool.false_and,Bool.not_false]
 ·replace hb1:=Qua hb1
  simp only[go_sem,Q06,Qrm,hb1,Qh,cond_true]
  refine rest _ ?_
  have hdp:decide (1≤deep)=false:=by
   rw[decide_eq_false_iff_not];simp at hb1;omega
  simp only[stA,hdp,Bool.false_and,Bool.not_false]
theorem Qbfx (n:Nat):Qa7u n:=by
 induction n using Nat.strongRecOn with
 |ind n ih=>exact Qbb1 (Qbfw ih)
theorem Qbh5 {f:Fn}(hf:Qj f.body≤2^40)(hK:K (.c (.bool f.form)) H):Ql prog Qaxp [.ag f.cells] H K:=by
 refine Qc Qah Qbj4 ?_
 have e0:f.form=(f.params.all Qc6&&(Qc6 f.name&&(decide (f.params.length≤3)&&Q2 f.body 4))):=by simp only[Fn.form,Bool.and_assoc]
 rw[e0]at hK
 have retf:∀(b:Bool) (e:Env),(f.params.all Qc6&&(Qc6 f.name&&(decide (f.params.length≤3)&&Q2 f.body 4)))=b→lk 2 e=.c (.bool b)→Qq Qic K .ret e H:=by
  intro b e h0 h1
  simp only[go_sem,Qq,Qz,Qic,List.mem_singleton,forall_eq,RS.op,h1]
  rw[←h0];exact hK
 refine Qa ?_
 simp only[go_sem,Fn.cells]
 refine Qu ?_
 refine Qa ?_
 simp only[go_sem]
 refine Qe (Qf (Qy (fun n e1 H1=>∃(i:Nat),n=f.params.length-i∧i≤f.params.length∧H1=H∧(f.params.take i).all Qc6=true∧e1=[(1,.c (.pp [.str f.name,.sl false 1 (Q1 f.params),.sl false 5 (Qk f.body)])),(3,.c (.int .i64 i))]) f.params.length ?_ ?_))
 ·exact⟨0,by omega,by omega,rfl,rfl,rfl⟩
 ·rintro n e1 H1 ⟨i,hn1,hi,rfl,hall,rfl⟩
  refine Qu ?_
  refine Qa ?_
  simp only[go_sem,Qv]
  intro hl
  simp only[LIM]at hl
  refine Qe (Qb rfl ?_ ?_)
  ·intro hc
   have hlt:i<f.params.length:=by simpa using hc
   have hg:f.params.getD i []=f.params[i]:=by simp[List.getD_eq_getElem?_getD,hlt]
   refine Qd ?_
   simp only[go_sem]
   refine Qe (Qf ?_)
   refine Qa ?_
   simp only[go_sem,hlt,Qv,Qbc _ _ hlt,hg]
   refine Q2v ?_
   simp only[go_sem,Qau8]
   refine Qb rfl ?_ ?_
   ·intro hc2
    refine Qa ?_
    simp only[go_sem]
    refine Qg ?_
    simp only[go_sem,X.next]
    exact retf false _ (by rw[Qn5 hlt (Q3h hc2)];rfl) (by simp[lk])
   ·intro hc2
    refine Qd ?_
    simp only[go_sem]
    refine Qp ?_
    simp only[go_sem,X.next]
    exact⟨Qr (by omega) (by omega),f.params.length-(i+1),by omega,i+1,rfl,by omega,by rw[Qiq hlt,hall,Qua hc2];rfl,rfl⟩
  ·intro hc
   have hge:f.params.length≤i:=by simpa using hc
   rw[List.take_of_length_le hge]at hall
   rw[hall,Bool.true_and]at retf
   refine Qt ?_
   simp only[go_sem,X.next]
   refine Qa ?_
   simp only[go_sem]
   refine Q2v ?_
   simp only[go_sem,Qau9,Qv]
   intros
   have e3:decide ((f.params.length:Int)≤3)=decide (f.params.length≤3):=by rw[decide_eq_decide];omega
   refine⟨fun hb1=>?_,fun hb1=>?_⟩
   ·refine Qbfx _ _ _ _ _ _ (Nat.le_refl _) hf (by omega) ?_
    simp only[go_sem,Qag9,hb1]
    rw[Qew,e3,Bool.and_eq_true]at hb1
    refine Qg ?_
    exact retf _ _ (by rw[hb1.1,hb1.2,Bool.true_and,Bool.true_and]) (by simp[lk])
   ·simp only[go_sem,Qag9,hb1]
    rw[Qew,e3]at hb1
    refine Qg ?_
    exact retf false _ (by rw[←Bool.and_assoc,hb1];rfl) (by simp[lk])
theorem Qa23 (l:List Fn):Qfe l≤Qs l:=by
 induction l with
 |nil=>simp[Qfe]
 |cons f r ih=>have:=Qw1 f.body;simp only[Qfe,Qs];omega
theorem Qbeb {l:List Fn}{fl:Bool}(hf:Qs l≤2^40)(hK:K (.c (.int .i64 (Qfe l))) H):Ql prog Qao6 [.ag [.sl fl 3 (Qn l)]] H K:=by
 refine Qc Qah Qbib ?_
 refine Qa ?_
 simp only[go_sem]
 refine Qa ?_
 simp only[go_sem]
 refine Qu ?_
 refine Qa ?_
 simp only[go_sem]
 refine Qe (Qf (Qy (fun n e1 H1=>∃(i:Nat),n=l.length-i∧i≤l.length∧H1=H∧e1=[(1,.c (.pp [.sl fl 3 (Qn l)])),(3,.c (.int .i64 (Qfe (l.take i):Nat))),(4,.c (.int .i64 i))]) l.length ?_ ?_))
 ·exact⟨0,by omega,by omega,rfl,rfl⟩
 ·rintro n e1 H1 ⟨i,hn1,hi,rfl,rfl⟩
  refine Qu ?_
  refine Qa ?_
  simp only[go_sem,Qw]
  intro hl
  simp only[LIM]at hl
  refine Qe (Qb rfl ?_ ?_)
  ·intro hc
   have hlt:i<l.length:=by simpa using hc
   have hm:=Qco (List.getElem_mem hlt)
   have htk:=Qano hlt
   have htl:=Qr9 l (i+1)
   have hct:=Qa23 (l.take (i+1))
   refine Qd ?_
   simp only[go_sem]
   refine Qe (Qf (Qp ?_))
   simp only[go_sem,hlt,Qw,Qal _ _ hlt,Fn.cells]
   refine Qa40 _ _ (Nat.le_refl _) (by omega) ?_
   simp only[go_sem,Qaoh]
   refine⟨Qr (by omega) (by omega),?_⟩
   refine Qp ?_
   simp only[go_sem,X.next]
   refine⟨Qr (by omega) (by omega),l.length-(i+1),by omega,i+1,rfl,by omega,?_⟩
   rw[htk];simp
  ·intro hc
   have hge:l.length≤i:=by simpa using hc
   refine Qt ?_
   simp only[go_sem,X.next]
   refine Qa ?_
   simp only[go_sem]
   refine Qg ?_
   simp only[go_sem,Qq,Qz,Qic,List.mem_singleton,forall_eq,RS.op]
   rw[List.take_of_length_le hge]
   exact hK
theorem Qaee {l:List Fn}{fl:Bool}(hf:Qs l≤2^40)(hK:K (.c (.bool (Qmn l))) H):Ql prog Qgp [.ag [.sl fl 3 (Qn l)]] H K:=by
 refine Qc Qah Q52 ?_
 have e0:Qmn l=(decide (1≤l.length∧l.length≤4)&&(l.all Fn.form&&decide (Qfe l≤40))):=by simp only[Qmn,Bool.and_assoc]
 rw[e0]at hK
 have retf:∀(b:Bool) (e:Env),(decide (1≤l.length∧l.length≤4)&&(l.all Fn.form&&decide (Qfe l≤40)))=b→lk 2 e=.c (.bool b)→Qq Qic K .ret e H:=by
  intro b e h0 h1
  simp only[go_sem,Qq,Qz,Qic,List.mem_singleton,forall_eq,RS.op,h1]
  rw[←h0];exact hK
 refine Qa ?_
 simp only[go_sem]
 refine Qu ?_
 refine Qa ?_
 simp only[go_sem,Qw]
 intro hl
 simp only[LIM]at hl
 refine Qae0 ?_
 simp only[go_sem,Qlp]
 have e1:decide ((1:Int)≤(l.length:Int)∧(l.length:Int)≤4)=decide (1≤l.length∧l.length≤4):=by rw[decide_eq_decide];omega
 refine Qe (Qb rfl ?_ ?_)
 ·intro hc
  have hA:=Q3h hc
  rw[e1]at hA
  refine Qa ?_
  simp only[go_sem]
  refine Qg ?_
  simp only[go_sem]
  exact retf false _ (by rw[hA];rfl) (by simp[lk])
 intro hc
 have hA:=Qua hc
 rw[e1]at hA
 rw[hA,Bool.true_and]at retf
 refine Qd ?_
 simp only[go_sem]
 refine Qu ?_
 refine Qa ?_
 simp only[go_sem]
 refine Qe (Qf (Qy (fun n e1 H1=>∃(i:Nat),n=l.length-i∧i≤l.length∧H1=H∧(l.take i).all Fn.form=true∧e1=[(1,.c (.pp [.sl fl 3 (Qn l)])),(3,.c (.int .i64 i))]) l.length ?_ ?_))
 ·exact⟨0,by omega,by omega,rfl,rfl,rfl⟩
 ·rintro n e1 H1 ⟨i,hn1,hi,rfl,hall,rfl⟩
  refine Qu ?_
  refine Qa ?_
  simp only[go_sem,Qw]
  refine fun _=>?_
  refine Qe (Qb rfl ?_ ?_)
  ·intro hc
   have hlt:i<l.length:=by simpa using hc
   have hm:=Qco (List.getElem_mem hlt)
   refine Qd ?_
   simp only[go_sem]
   refine Qe (Qf ?_)
   refine Qa ?_
   simp only[go_sem,hlt,Qw,Qal _ _ hlt,Fn.take3,Fn.allOw,Fn.cells_len]
   refine Qbh5 (by omega) ?_
   simp only[go_sem,Qlq]
   refine Qb rfl ?_ ?_
   ·intro hc2
    refine Qa ?_
    simp only[go_sem]
    refine Qg ?_
    simp only[go_sem,X.next]
    exact retf false _ (by rw[Qn5 hlt (Q3h hc2)];rfl) (by simp[lk])
   ·intro hc2
    refine Qd ?_
    simp only[go_sem]
    refine Qp ?_
    simp only[go_sem,X.next]
    exact⟨Qr (by omega) (by omega),l.length-(i+1),by omega,i+1,rfl,by omega,by rw[Qiq hlt,hall,Qua hc2];rfl,rfl⟩
  ·intro hc
   have hge:l.length≤i:=by simpa using hc
   rw[List.take_of_length_le hge]at hall
   rw[hall,Bool.true_and]at retf
   refine Qt ?_
   simp only[go_sem,X.next]
   refine Qa ?_
   simp only[go_sem]
   refine Qbeb hf ?_
   simp only[go_sem,Qlr]
   refine Qg ?_
   exact retf (decide ((Qfe l:Int)≤40)) _ (by rw[decide_eq_decide];omega) (by simp[lk])
end Go.AE.Y

namespace Go.AE.Y
attribute [local go_sem] cond_true cond_false Bool.not_true Bool.not_false
open Go.Proofs.Tryz
variable {H:Heap}{K:V→Heap→Prop}
def levN (op:Int):Int:=if op=10 then 1 else if op=8∨op=9 then 2 else if op=3∨op=4 then 3 else if op=5∨op=6∨op=7 then 4 else 0
structure GK (H:Heap):Prop where
 keys:H Qgr=.gl Qgr (keysL.map C.str)
 sign:∃ks rows,H Qa5=.gl Qa5 [.cm true ks rows]∧∀op:Int,Qoa 0 (.int .i64 op) ((ks.zip rows).map fun e=>(e.1,V.ag e.2))∧
  ∃sg,(Qf5 (.int .i64 op) ((ks.zip rows).map fun e=>(e.1,V.ag e.2))).getD (.ag [.str [],.int .i64 0])=.ag [.str sg,.int .i64 (levN op)]
theorem GK.upd {H':Heap}{U:List (Nat×Obj)}(g:GK H)(hu:Upd H H' U)(h1:Qgr∉U.map Prod.fst)(h2:Qa5∉U.map Prod.fst):GK H':=by
 obtain⟨ks,rows,h3,h4⟩:=g.sign
 exact⟨(hu.2 _ (by rw[g.keys];nofun) h1).trans g.keys,ks,rows,(hu.2 _ (by rw[h3];nofun) h2).trans h3,h4⟩
theorem GK.upd0 {H':Heap}(g:GK H)(hu:Upd H H' []):GK H':=g.upd hu (by simp) (by simp)
theorem GK.kn {H':Heap}{L:List (Nat×Obj)}(g:GK H)(kn:Kn H H' [] L):GK H':=by
 obtain⟨ks,rows,h3,h4⟩:=g.sign
 exact⟨(kn.chg _ (by rw[g.keys];nofun) (by simp)).trans g.keys,ks,rows,(kn.chg _ (by rw[h3];nofun) (by simp)).trans h3,h4⟩
theorem Qa7s {r:Int}(hK:K (.c (.bool (decide (r<97) || decide (122<r)))) H):Ql prog Qcf [.c (.int .i32 r)] H K:=by
 refine Qc Qah Qajt ?_
 refine Qa ?_
 simp only[go_sem]
 refine Qa ?_
 simp only[go_sem]
 refine Qg ?_
 simp only[go_sem,Qq,Qz,Qic,List.mem_singleton,forall_eq,RS.op]
 have:(bif decide (r<97)then true else decide (122<r))=(decide (r<97) || decide (122<r)):=by cases decide (r<97) <;> rfl
 first|exact hK|(rw[this];exact hK)|(simpa[this]using hK)
theorem Qatc {s:List UInt8}(hK:∀(r:Int) (H':Heap),Upd H H' []→decide (r<0)=s.all Qc3→K (.c (.int .i64 r)) H') :
  Ql prog Qe1 [.c (.str s),.c (.fn Qcf []),.c (.bool true)] H K:=by
 refine Qab ?_
 refine Qc Qah Q0e ?_
 have retf:∀(r:Int) (e:Env) (H':Heap) (L:List (Nat×Obj)),decide (r<0)=s.all Qc3→Kn H H' [] L→lk 6 e=.c (.int .i64 r)→Qq Quj (unK H K) .ret e H':=by
  intro r e H' L hr kn h3
  simp only[go_sem,Qq,Qz,Quj,List.mem_singleton,forall_eq,RS.op,h3]
  exact⟨_,.c _ _ (Qi rfl),hK _ _ kn.fin hr⟩
 refine Qa ?_
 simp only[go_sem]
 refine Qu ?_
 refine Qa ?_
 simp only[go_sem]
 intro i hi H1 h1
 have kn:=(Kn.start0 H).al hi h1
 refine Qe (Qf (Qy (fun m e1 H1=>∃(q:Nat),m=s.length-q∧Kn H H1 [] [(i,.sit s q)]∧(∀x∈s.take q,Qc3 x=true)∧
  lk 1 e1=.c (.fn Qcf [])∧lk 2 e1=.c (.bool true)∧lk 10 e1=.c (.itr i)) s.length ?_ ?_))
 ·exact⟨0,by omega,kn,by simp,rfl,rfl,rfl⟩
 ·clear kn
  rintro m e1 H2 ⟨q,hm,kn,hall,l1,l2,l10⟩
  have hit:=kn.l 0 rfl
  refine Qa ?_
  simp only[go_sem,l1,l2,l10,hit]
  refine⟨fun hle=>?_,fun c wd hlt hw h1 h2 H3 h3=>?_⟩
  ·simp only[go_sem,Qdt,l1,l2,l10,List.getD_cons_zero]
   refine Qe (Qb rfl (fun h=>by cases h) (fun _=>?_))
   refine Qt ?_
   simp only[go_sem,AE.X.next]
   refine Qa ?_
   simp only[go_sem]
   refine Qg ?_
   rw[List.take_of_length_le hle]at hall
   exact retf (-1) _ _ _ (by rw[List.all_eq_true.2 hall];rfl) kn (by simp[lk])
  ·have kn:=kn.stL 0 rfl h3
   have hbe:s.getD q 0=s[q]:=by simp[List.getD_eq_getElem?_getD,hlt]
   rw[hbe]at h1 h2
   simp only[go_sem,Qdt,l1,l2,l10,List.getD_cons_zero,List.getD_cons_succ]
   refine Qe (Qb rfl (fun _=>?_) (fun h=>by cases h))
   refine Qd ?_
   try simp only[go_sem]
   refine Qf ?_
   refine Qa ?_
   simp only[go_sem,List.getD_cons_zero,List.getD_cons_succ]
   refine Qa ?_
   simp only[go_sem]
   refine Qa7s ?_
   have hs:(decide (c<97) || decide (122<c)) = !Qc3 s[q]:=by
    rw[Bool.eq_iff_iff,Qc3]
    simp only[Bool.or_eq_true,decide_eq_true_eq,Bool.not_eq_true',decide_eq_false_iff_not]
    rcases Nat.lt_or_ge s[q].toNat 128 with h|h
    ·have:=(h1 h).1
     omega
    ·have:=h2 h
     omega
   rw[hs]
   simp only[go_sem,Qh5]
   refine Qb rfl ?_ ?_
   ·intro hc
    have hb:Qc3 s[q]=false:=by simpa using hc
    refine Qa ?_
    simp only[go_sem]
    refine Qg ?_
    simp only[go_sem,AE.X.next]
    refine retf (q:Int) _ _ _ ?_ kn (by simp[lk])
    rw[decide_eq_false (by omega)]
    symm
    rw[List.all_eq_false]
    exact⟨_,List.getElem_mem hlt,by rw[hb];simp⟩
   ·intro hc
    have hb:Qc3 s[q]=true:=by simpa using hc
    refine Qd ?_
    try simp only[go_sem]
    have hw1:wd=1:=by
     rcases Nat.lt_or_ge s[q].toNat 128 with h|h
     ·exact (h1 h).2
     ·exfalso
      rw[Qc3,decide_eq_true_eq]at hb
      omega
    subst hw1
    show ∃m,_
    refine⟨s.length-(q+1),by omega,q+1,rfl,kn,fun x hx=>?_,rfl,rfl,rfl⟩
    rw[List.take_succ_eq_append_getElem hlt]at hx
    rcases List.mem_append.1 hx with h|h
    ·exact hall x h
    ·rw[List.mem_singleton]at h;rw[h];exact hb
theorem Qasx {s:List UInt8}(hK:∀(r:Int) (H':Heap),Upd H H' []→decide (r<0)=s.all Qc3→K (.c (.int .i64 r)) H') :
  Ql prog Qe0 [.c (.str s),.c (.fn Qcf [])] H K:=by
 refine Qc Qah Q0d ?_
 refine Qa ?_
 simp only[go_sem]
 refine Qa ?_
 simp only[go_sem]
 refine Qatc fun r H' hu hr=>?_
 simp only[go_sem,Qh4]
 refine Qg ?_
 simp only[go_sem,Qq,Qz,Qat4,List.mem_singleton,forall_eq,RS.op]
 exact hK _ _ hu hr
theorem Qa4c {f:Bool}{ss:List (List UInt8)}{v:List UInt8}(hK:∀r:Int,decide (0≤r)=ss.contains v→K (.c (.int .i64 r)) H) :
  Ql prog Qgn [.c (.sl f 1 (Q1 ss)),.c (.str v)] H K:=by
 refine Qc Qah Q50 ?_
 refine Qa ?_
 simp only[go_sem]
 refine Qu ?_
 refine Qa ?_
 simp only[go_sem,Qv]
 intro hl
 simp only[LIM]at hl
 refine Qe (Qf (Qy (fun m e1 H1=>∃(i:Nat),m=ss.length-i∧i≤ss.length∧H1=H∧v∉ss.take i∧e1=[(0,.c (.sl f 1 (Q1 ss))),(1,.c (.str v)),(7,.c (.int .i64 ss.length)),(8,.c (.int .i64 i))]) ss.length ?_ ?_))
 ·exact⟨0,by omega,by omega,rfl,by simp,rfl⟩
 ·rintro m e1 H1 ⟨i,hm,hi,rfl,hno,rfl⟩
  refine Qa ?_
  simp only[go_sem]
  refine Qe (Qb rfl ?_ ?_)
  ·intro hc
   have hlt:i<ss.length:=by simpa using hc
   have hgd:ss.getD i []=ss[i]:=by simp[List.getD_eq_getElem?_getD,hlt]
   refine Qd ?_
   simp only[go_sem]
   refine Qe (Qf ?_)
   refine Qa ?_
   simp only[go_sem]
   refine Qa ?_
   simp only[go_sem,hlt,Qv,Qbc _ _ hlt]
   refine Qb rfl ?_ ?_
   ·intro hc2
    have hv:v=ss[i]:=by first|simpa using hc2|(rw[←hgd];simpa using hc2)
    refine Qa ?_
    simp only[go_sem]
    refine Qg ?_
    simp only[go_sem,AE.X.next,Qq,Qz,Qat4,List.mem_singleton,forall_eq,RS.op]
    refine hK _ ?_
    have:v∈ss:=by rw[hv];exact List.getElem_mem hlt
    rw[List.contains_iff_mem.2 this];simp
   ·intro hc2
    have hv:¬v=ss[i]:=by first|simpa using hc2|(rw[←hgd];simpa using hc2)
    refine Qd ?_
    simp only[go_sem]
    refine Qp ?_
    simp only[go_sem,AE.X.next]
    refine⟨Qr (by omega) (by omega),ss.length-(i+1),by omega,i+1,rfl,by omega,?_,rfl⟩
    rw[List.take_succ_eq_append_getElem hlt]
    simp only[List.mem_append,List.mem_singleton,not_or]
    exact⟨hno,hv⟩
  ·intro hc
   have hge:ss.length≤i:=by simpa using hc
   rw[List.take_of_length_le hge]at hno
   refine Qt ?_
   simp only[go_sem,AE.X.next]
   refine Qa ?_
   simp only[go_sem]
   refine Qg ?_
   simp only[go_sem,Qq,Qz,Qat4,List.mem_singleton,forall_eq,RS.op]
   refine hK _ ?_
   have:ss.contains v=false:=by
    cases hc:ss.contains v with
    |false=>rfl
    |true=>exact absurd (List.contains_iff_mem.1 hc) hno
   rw[this];rfl
theorem Qaox {f:Bool}{ss:List (List UInt8)}{v:List UInt8}(hK:K (.c (.bool (ss.contains v))) H) :
  Ql prog Qd8 [.c (.sl f 1 (Q1 ss)),.c (.str v)] H K:=by
 refine Qc Qah Qxu ?_
 refine Qa ?_
 simp only[go_sem]
 refine Qa ?_
 simp only[go_sem]
 refine Qa4c fun r hr=>?_
 simp only[go_sem,Qg6]
 refine Qg ?_
 simp only[go_sem,Qq,Qz,Qat4,List.mem_singleton,forall_eq,RS.op]
 rw[hr];exact hK
theorem Qxl {n lo hi:Int}(hK:K (.c (.bool (decide (lo≤n)&&decide (n≤hi)))) H):Ql prog Qfq [.c (.int .i64 n),.c (.int .i64 lo),.c (.int .i64 hi)] H K:=by
 refine Qc Qah Qayd ?_
 refine Qa ?_
 simp only[go_sem]
 refine Qa ?_
 simp only[go_sem]
 refine Qg ?_
 simp only[go_sem,Qq,Qz,Quj,List.mem_singleton,forall_eq,RS.op]
 have:(bif decide (lo≤n)then decide (n≤hi)else false)=(decide (lo≤n)&&decide (n≤hi)):=by cases decide (lo≤n) <;> rfl
 first|exact hK|(rw[this];exact hK)|(simpa[this]using hK)
theorem Qot {s:List UInt8}(g:GK H)(hK:∀H',Upd H H' []→K (.c (.bool (Qc6 s))) H'):Ql prog Qdz [.c (.str s)] H K:=by
 refine Qab ?_
 refine Qc Qah Qaya ?_
 have retf:∀(b:Bool) (e:Env) (H':Heap) (L:List (Nat×Obj)),b=Qc6 s→Kn H H' [] L→lk 2 e=.c (.bool b)→Qq Qic (unK H K) .ret e H':=by
  rintro b e H' L rfl kn h3
  simp only[go_sem,Qq,Qz,Qic,List.mem_singleton,forall_eq,RS.op,h3]
  exact⟨_,.c _ _ (Qi rfl),hK _ kn.fin⟩
 have kn:=Kn.start0 H
 refine Qa ?_
 simp only[go_sem]
 refine Qa ?_
 simp only[go_sem]
 try intro _
 refine Qxl ?_
 by_cases hl:1≤s.length∧s.length≤4
 ·have hd:(decide ((1:Int)≤(s.length:Int))&&decide ((s.length:Int)≤4))=true:=by simp;omega
  simp only[go_sem,Qog,hd]
  refine Qasx fun r H1 hu hr=>?_
  have kn:=kn.call0 hu
  have g1:=g.upd0 hu
  cases hsm:s.all Qc3 with
  |false=>
   rw[hsm]at hr
   simp only[go_sem,Qi0,Qiz,hr]
   refine Qg ?_
   exact retf false _ _ _ (by rw[Qc6,hsm];simp) kn (by simp[lk])
  |true=>
   rw[hsm]at hr
   have hk:=g1.keys
   simp only[go_sem,Qi0,hr,hk]
   refine⟨⟨by decide,by simp only[LIM];omega⟩,?_⟩
   have e:List.map (fun c=>[c]) (List.take 9 (List.map C.str keysL))=Q1 keysL:=rfl
   rw[e]
   refine Qaox ?_
   simp only[go_sem,Qiz]
   refine Qg ?_
   exact retf _ _ _ _ (by rw[Qc6,hsm,decide_eq_true hl];simp) kn rfl
 ·have hd:(decide ((1:Int)≤(s.length:Int))&&decide ((s.length:Int)≤4))=false:=by
   rw[Bool.and_eq_false_iff,decide_eq_false_iff_not,decide_eq_false_iff_not];omega
  simp only[go_sem,Qog,Qi0,Qiz,hd]
  refine Qg ?_
  exact retf false _ _ _ (by rw[Qc6,decide_eq_false hl];simp) kn (by simp[lk])
end Go.AE.Y

namespace Go.AE.Y
attribute [local go_sem] cond_true cond_false Bool.not_true Bool.not_false
open Go.Proofs.Tryz
variable {H:Heap}{K:V→Heap→Prop}
def levO (op:Int):Int:=if 0<levN op then levN op else if op=11∨op=12 then 5 else 6
theorem Qa9m {op:Int}(g:GK H)(hK:K (.c (.int .i64 (levO op))) H):Ql prog Qqm [.c (.int .i64 op)] H K:=by
 obtain⟨ks,rows,hs,hl⟩:=g.sign
 obtain⟨ho,sg,hf⟩:=hl op
 have ret:∀(n:Int) (e:Env),n=levO op→lk 2 e=.c (.int .i64 n)→Qq Qic K .ret e H:=by
  rintro n e rfl h3
  simp only[go_sem,Qq,Qz,Qic,List.mem_singleton,forall_eq,RS.op,h3]
  exact hK
 refine Qc Qah Qatm ?_
 refine Qa ?_
 simp only[go_sem]
 refine Qe (Qf ?_)
 refine Qa ?_
 simp only[go_sem,hs,Q7,Qxv,hf,eq_true ho,List.drop_succ_cons,List.drop_zero]
 refine Qb rfl ?_ ?_
 ·intro hc
  have h0:0<levN op:=of_decide_eq_true hc
  refine Qa ?_
  simp only[go_sem,hs,Q7,Qxv,hf,eq_true ho,List.drop_succ_cons,List.drop_zero]
  refine Qg ?_
  simp only[go_sem,AE.X.next]
  exact ret _ _ (by rw[levO,if_pos h0]) (by simp[lk])
 ·intro hc
  have h0:¬0<levN op:=of_decide_eq_false hc
  refine Qa ?_
  simp only[go_sem,Qku]
  refine Qb rfl ?_ ?_
  ·intro hc2
   have h1:op=11∨op=12:=by simpa using hc2
   refine Qa ?_
   simp only[go_sem]
   refine Qg ?_
   simp only[go_sem,AE.X.next]
   exact ret _ _ (by rw[levO,if_neg h0,if_pos h1]) (by simp[lk])
  ·intro hc2
   have h1:¬(op=11∨op=12):=by simpa using hc2
   refine Qd ?_
   simp only[go_sem,AE.X.next]
   refine Qa ?_
   simp only[go_sem]
   refine Qg ?_
   exact ret _ _ (by rw[levO,if_neg h0,if_neg h1]) (by simp[lk])
theorem Qbjz {op:Int}:levO op<6↔3≤op∧op≤12:=by
 by_cases h:3≤op∧op≤12
 ·simp only[h,and_self,iff_true]
  rw[levO,levN]
  obtain⟨h1,h2⟩:=h
  rcases (by omega:op=3∨op=4∨op=5∨op=6∨op=7∨op=8∨op=9∨op=10∨op=11∨op=12)with rfl|rfl|rfl|rfl|rfl|rfl|rfl|rfl|rfl|rfl <;> decide
 ·simp only[h,iff_false]
  have h0:levN op=0:=by rw[levN,if_neg (by omega),if_neg (by omega),if_neg (by omega),if_neg (by omega)]
  rw[levO,h0,if_neg (by omega),if_neg (by omega)]
  omega
theorem lev_pos {op:Int}:0<levN op↔3≤op∧op≤10:=by
 by_cases h:3≤op∧op≤10
 ·simp only[h,and_self,iff_true]
  obtain⟨h1,h2⟩:=h
  rcases (by omega:op=3∨op=4∨op=5∨op=6∨op=7∨op=8∨op=9∨op=10)with rfl|rfl|rfl|rfl|rfl|rfl|rfl|rfl <;> decide
 ·simp only[h,iff_false]
  rw[levN,if_neg (by omega),if_neg (by omega),if_neg (by omega),if_neg (by omega)]
  omega
def hd1 (op n:Int)(name:List UInt8):Bool:=decide (1≤op∧op≤13)&&(!decide (op=1) || (decide (0≤n∧n≤255)&&decide (name=[])))&&(!decide (op=2∨op=13) || (Qc6 name&&decide (n=0)))
theorem Qatx:Qc6 []=false:=by decide
theorem Qbhu (op n:Int)(name:List UInt8)(k:Nat):Q8l op n name k =
  (hd1 op n name&&(!decide (levO op<6) || (decide (n=0)&&decide (name=[])))&&(decide (Qd9 op≤(k:Int))&&decide ((k:Int)≤Qdw op))):=by
 have hl:decide (levO op<6)=decide (3≤op∧op≤12):=by rw[decide_eq_decide];exact Qbjz
 rw[Q8l,hd1,hl,Bool.eq_iff_iff]
 simp only[Bool.and_eq_true,Bool.or_eq_true,decide_eq_true_eq,beq_iff_eq,Bool.not_eq_true',decide_eq_false_iff_not]
 by_cases hn:name=[]
 ·subst hn
  simp only[Qatx,decide_eq_false_iff_not]
  constructor
  ·rintro⟨⟨⟨⟨⟨h1,h2⟩,h3⟩,h4⟩,h5⟩,h6⟩
   refine⟨⟨⟨⟨h1,?_⟩,?_⟩,?_⟩,h2⟩
   ·exact .inr ⟨h5,trivial⟩
   ·exact .inl h3
   ·rcases h6 with h6|h6
    ·exact .inl (by omega)
    ·exact .inr ⟨h6,trivial⟩
  ·rintro⟨⟨⟨⟨h1,h2⟩,h3⟩,h4⟩,h5⟩
   have h3:¬(op=2∨op=13):=by
    rcases h3 with h3|⟨h3,_⟩
    ·exact h3
    ·cases h3
   refine⟨⟨⟨⟨⟨h1,h5⟩,h3⟩,.inr trivial⟩,?_⟩,?_⟩
   ·rcases h2 with h2|⟨h2,_⟩
    ·rcases h4 with h4|⟨h4,_⟩ <;> omega
    ·exact h2
   ·rcases h4 with h4|⟨h4,_⟩
    ·exact .inl (by omega)
    ·exact .inr h4
 ·simp only[hn,and_false,or_false]
  constructor
  ·rintro⟨⟨⟨⟨⟨h1,h2⟩,h3⟩,h4⟩,h5⟩,h6⟩
   rw[decide_eq_true h4]at h3
   refine⟨⟨⟨⟨h1,by omega⟩,?_⟩,by omega⟩,h2⟩
   exact .inr ⟨h3.symm,by omega⟩
  ·rintro⟨⟨⟨⟨h1,h2⟩,h3⟩,h4⟩,h5⟩
   have h6:op=2∨op=13:=by omega
   rcases h3 with h3|⟨h3,h7⟩
   ·exact absurd h6 h3
   ·exact⟨⟨⟨⟨⟨h1,h5⟩,by rw[h3];simp[h6]⟩,h6⟩,by omega⟩,.inr h7⟩
end Go.AE.Y

namespace Go.AE.Y
attribute [local go_sem] cond_true cond_false Bool.not_true Bool.not_false
open Go.Proofs.Tryz
variable {H H0:Heap}{K:V→Heap→Prop}
theorem Qbdr {n:Int}(hK:K (.c (.bool (decide (0≤n)&&decide (n≤255)))) H):Ql prog Qt0 [.c (.int .i64 n)] H K:=by
 refine Qc Qah Qayb ?_
 refine Qa ?_
 simp only[go_sem]
 refine Qa ?_
 simp only[go_sem]
 refine Qxl ?_
 simp only[go_sem,Qzg]
 refine Qg ?_
 simp only[go_sem,Qq,Qz,Qic,List.mem_singleton,forall_eq,RS.op]
 exact hK
def SzOk (x:Ex)(most:Int)(n d:Int)(ok:Bool):Prop:=ok=(x.form most&&decide (x.size≤30))∧(ok=true→n=x.size∧0≤d∧d≤1000+most)
def Qbi8 (n:Nat):Prop:=∀(x:Ex) {H:Heap} {K:V→Heap→Prop} (most:Int),x.size≤n→x.size≤2^40→most≤100→GK H→
 (∀(n d:Int) (ok:Bool) H',Upd H H' []→SzOk x most n d ok→K (.tup [.c (.int .i64 n),.c (.int .i64 d),.c (.bool ok)]) H')→Ql prog Qiv [.ag x.cells,.c (.int .i64 most)] H K
theorem Qbf3 {x:Ex}{most:Int}{Q:X→Env→Heap→Prop}(kn:Kn H0 H [] [])(g:GK H)
  (hf:∀e' H',hd1 x.op x.n x.name=false→Kn H0 H' [] []→lk 4 e'=.c (.int .i64 0)→lk 5 e'=.c (.int .i64 0)→lk 6 e'=.c (.bool false)→Q .ret e' H')
  (hn:∀e' H',hd1 x.op x.n x.name=true→Kn H0 H' [] []→lk 1 e'=.c (.int .i64 most)→lk 2 e'=.c (.pp [.int .i64 x.op,.int .i64 x.n,.str x.name,.sl false 4 (Qm x.kids)])→lk 7 e'=.c (.int .i64 (Qd9 x.op))→lk 8 e'=.c (.int .i64 (Qdw x.op))→Q .nrm e' H') :
  Qae prog Qsh Q [(1,.c (.int .i64 most)),(2,.c (.pp [.int .i64 x.op,.int .i64 x.n,.str x.name,.sl false 4 (Qm x.kids)])),(7,.c (.int .i64 0)),(8,.c (.int .i64 0)),(16,.c (.bool (decide (x.op=1))))] H:=by
 have ret:∀(e:Env) (H':Heap),hd1 x.op x.n x.name=false→Kn H0 H' [] []→Qae prog (.seq (.reg (
   .f (some 4) none (.mv (.k (.c (.int .i64 0))))::
   .f (some 5) none (.mv (.k (.c (.int .i64 0))))::
   .f (some 6) none (.mv (.k (.c (.bool false))))::
   []) [4,5,6]) .ret) Q e H':=by
  intro e H' h kn
  refine Qa ?_
  simp only[go_sem]
  refine Qg ?_
  exact hf _ _ h kn (by simp[lk]) (by simp[lk]) (by simp[lk])
 obtain⟨ks,rows,hs,hl⟩:=g.sign
 obtain⟨ho,sg,hfd⟩:=hl x.op
 refine Qb rfl ?_ ?_
 ·intro hc
  have h1:x.op=1:=by simpa using hc
  refine Qa ?_
  simp only[go_sem]
  refine Qbdr ?_
  simp only[go_sem,Qsj,Qku]
  refine Qb rfl ?_ ?_
  ·intro hc2
   refine ret _ _ ?_ kn
   rw[hd1,h1]
   revert hc2
   by_cases ha:0≤x.n <;> by_cases hb:x.n≤255 <;> by_cases hn:x.name=[] <;> simp[ha,hb,hn]
  ·intro hc2
   refine Qd ?_
   have hk1:Qd9 x.op=0:=by rw[h1];rfl
   have hk2:Qdw x.op=0:=by rw[h1];rfl
   refine hn _ H ?_ kn (by simp[lk]) (by simp[lk]) (by rw[hk1];simp[lk]) (by rw[hk2];simp[lk])
   rw[hd1,h1]
   revert hc2
   by_cases ha:0≤x.n <;> by_cases hb:x.n≤255 <;> by_cases hn:x.name=[] <;> simp[ha,hb,hn]
 intro hc
 have h1:¬x.op=1:=by simpa using hc
 refine Qa ?_
 simp only[go_sem]
 refine Qb rfl ?_ ?_
 ·intro hc2
  have h2:x.op=2:=by simpa using hc2
  refine Qa ?_
  simp only[go_sem]
  refine Qot g fun H1 hu=>?_
  have kn:=kn.call0 hu
  simp only[go_sem,Qsk,Qku]
  refine Qb rfl ?_ ?_
  ·intro hc3
   refine ret _ _ ?_ kn
   rw[hd1,h2]
   revert hc3
   cases Qc6 x.name <;> by_cases hb:x.n=0 <;> simp[hb]
  ·intro hc3
   refine Qd ?_
   have hk1:Qd9 x.op=0:=by rw[h2];rfl
   have hk2:Qdw x.op=0:=by rw[h2];rfl
   refine hn _ H1 ?_ kn (by simp[lk]) (by simp[lk]) (by rw[hk1];simp[lk]) (by rw[hk2];simp[lk])
   rw[hd1,h2]
   revert hc3
   cases Qc6 x.name <;> by_cases hb:x.n=0 <;> simp[hb]
 intro hc2
 have h2:¬x.op=2:=by simpa using hc2
 refine Qa ?_
 simp only[go_sem]
 refine Qb rfl ?_ ?_
 ·intro hc3
  have h3:x.op=13:=by simpa using hc3
  refine Qa ?_
  simp only[go_sem]
  refine Qa ?_
  simp only[go_sem]
  refine Qot g fun H1 hu=>?_
  have kn:=kn.call0 hu
  simp only[go_sem,Qsl,Qku]
  refine Qb rfl ?_ ?_
  ·intro hc4
   refine ret _ _ ?_ kn
   rw[hd1,h3]
   revert hc4
   cases Qc6 x.name <;> by_cases hb:x.n=0 <;> simp[hb]
  ·intro hc4
   refine Qd ?_
   have hk1:Qd9 x.op=0:=by rw[h3];rfl
   have hk2:Qdw x.op=3:=by rw[h3];rfl
   refine hn _ H1 ?_ kn (by simp[lk]) (by simp[lk]) (by rw[hk1];simp[lk]) (by rw[hk2];simp[lk])
   rw[hd1,h3]
   revert hc4
   cases Qc6 x.name <;> by_cases hb:x.n=0 <;> simp[hb]
 intro hc3
 have h3:¬x.op=13:=by simpa using hc3
 refine Qa ?_
 simp only[go_sem,hs,Q7,Qxv,hfd,eq_true ho,List.drop_succ_cons,List.drop_zero]
 have hh:∀(h:3≤x.op∧x.op≤12),hd1 x.op x.n x.name=true:=fun h=>by
  rw[hd1,decide_eq_true (by omega:1≤x.op∧x.op≤13),decide_eq_false (by omega:¬x.op=1),decide_eq_false (by omega:¬(x.op=2∨x.op=13))];rfl
 refine Qb rfl ?_ ?_
 ·intro hc4
  have h4:=lev_pos.1 (of_decide_eq_true hc4)
  refine Qp ?_
  simp only[go_sem]
  have hk1:Qd9 x.op=2:=by rw[Qd9,if_neg (by omega),if_neg (by omega)]
  have hk2:Qdw x.op=2:=by rw[Qdw,if_neg (by omega),if_neg (by omega),if_neg (by omega)]
  exact hn _ H (hh (by omega)) kn (by simp[lk]) (by simp[lk]) (by rw[hk1];simp[lk]) (by rw[hk2];simp[lk])
 intro hc4
 have h4:¬(3≤x.op∧x.op≤10):=fun h=>absurd (lev_pos.2 h) (of_decide_eq_false hc4)
 refine Qa ?_
 simp only[go_sem,Qku]
 refine Qb rfl ?_ ?_
 ·intro hc5
  have h5:x.op=11∨x.op=12:=by simpa using hc5
  refine Qp ?_
  simp only[go_sem]
  have hk1:Qd9 x.op=1:=by rw[Qd9,if_neg (by omega),if_pos h5]
  have hk2:Qdw x.op=1:=by rw[Qdw,if_neg (by omega),if_pos h5]
  exact hn _ H (hh (by omega)) kn (by simp[lk]) (by simp[lk]) (by rw[hk1];simp[lk]) (by rw[hk2];simp[lk])
 ·intro hc5
  have h5:¬(x.op=11∨x.op=12):=by simpa using hc5
  refine ret _ _ ?_ kn
  rw[hd1,decide_eq_false (by omega:¬(1≤x.op∧x.op≤13))];rfl
theorem Qbiv {S:Nat→Bool}(n d:Int)(b:Bool):FrzV H S (.tup [.c (.int .i64 n),.c (.int .i64 d),.c (.bool b)]) (.tup [.c (.int .i64 n),.c (.int .i64 d),.c (.bool b)]):=by
 refine .tup _ _ rfl fun j x x' h1 h2=>?_
 match j with
 |0=>simp at h1 h2;subst h1;subst h2;exact .c _ _ (Qi rfl)
 |1=>simp at h1 h2;subst h1;subst h2;exact .c _ _ (Qi rfl)
 |2=>simp at h1 h2;subst h1;subst h2;exact .c _ _ (Qi rfl)
theorem Qa4m:∀n,Qbi8 n:=by
 intro n
 induction n with
 |zero=>intro x _ _ _ h;have:=x.size_pos;omega
 |succ n ih=>
 intro x H K most hn hs40 hmost g hK
 have g0:=g
 have hsz:=x.size_kids
 refine Qab ?_
 refine Qc Qah Qaps ?_
 have ret:∀(n d:Int) (ok:Bool) (e:Env) (H':Heap) (L:List (Nat×Obj)),SzOk x most n d ok→Kn H H' [] L→lk 4 e=.c (.int .i64 n)→lk 5 e=.c (.int .i64 d)→lk 6 e=.c (.bool ok)→Qq Qgw (unK H K) .ret e H':=by
  intro n d ok e H' L hf kn h4 h5 h6
  simp only[go_sem,Qq,Qz,Qgw,List.forall_mem_cons,List.not_mem_nil,RS.op,h4,h5,h6]
  exact⟨fun _=>trivial,_,Qbiv n d ok,hK n d ok _ kn.fin hf⟩
 have retf:∀(e:Env) (H':Heap) (L:List (Nat×Obj)),(x.form most&&decide (x.size≤30))=false→Kn H H' [] L→lk 4 e=.c (.int .i64 0)→lk 5 e=.c (.int .i64 0)→lk 6 e=.c (.bool false)→Qq Qgw (unK H K) .ret e H':=by
  intro e H' L hf kn h4 h5 h6
  exact ret 0 0 false e H' L ⟨hf.symm,nofun⟩ kn h4 h5 h6
 have hfe:=x.form_eq most
 rw[Qbhu,Qqh]at hfe
 refine Qa ?_
 simp only[go_sem,x.cells_eq]
 refine Qa ?_
 simp only[go_sem]
 refine Qe (Qf ?_)
 refine Qa ?_
 simp only[go_sem]
 refine Qbf3 (Kn.start0 H) g (fun e' H' hh kn h4 h5 h6=>?_) (fun e' H' hh kn l1 l2 l7 l8=>?_)
 ·simp only[go_sem,AE.X.next]
  exact retf _ _ _ (by rw[hfe,hh];simp) kn h4 h5 h6
 simp only[go_sem,AE.X.next]
 rw[hh]at hfe
 have g:=g.kn kn
 refine Qu ?_
 refine Qa ?_
 simp only[go_sem,l1,l2,l7,l8]
 obtain⟨P,hP⟩:∃P,(decide (1≤most)&&((!decide (levO x.op<6) || (decide (x.n=0)&&decide (x.name=[])))&&(decide (Qd9 x.op≤(x.kids.length:Int))&&decide ((x.kids.length:Int)≤Qdw x.op))))=P:=⟨_,rfl⟩
 have hfe2:x.form most=(P&&x.kids.all fun y=>y.form (most-1)):=by rw[hfe,←hP];simp only[Bool.true_and,Bool.and_assoc]
 have rest:∀b:Bool,b = !P→Qae prog (s_im_exprSize_14.seq Qsi) (Qq Qgw (unK H K))
   [(1,.c (.int .i64 most)),(2,.c (.pp [.int .i64 x.op,.int .i64 x.n,.str x.name,.sl false 4 (Qm x.kids)])),(97,.c (.bool b))] H':=by
  intro b hb
  refine Qe (Qb rfl ?_ ?_)
  ·intro hc
   have hA:P=false:=by rw[hc]at hb;simpa using hb.symm
   refine Qa ?_
   simp only[go_sem]
   refine Qg ?_
   simp only[go_sem,AE.X.next]
   exact retf _ _ _ (by rw[hfe2,hA];rfl) kn (by simp[lk]) (by simp[lk]) (by simp[lk])
  intro hc
  have hA:P=true:=by rw[hc]at hb;simpa using hb.symm
  have hm1:1≤most:=by
   rw[hA,Bool.and_eq_true,decide_eq_true_eq]at hP;exact hP.1
  rw[hA,Bool.true_and]at hfe2
  refine Qd ?_
  try simp only[go_sem]
  refine Qa ?_
  simp only[go_sem]
  refine Qu ?_
  refine Qa ?_
  simp only[go_sem,Qh]
  intro hl
  simp only[LIM]at hl
  refine Qe (Qf (Qy (fun m e1 H1=>∃(i:Nat) (d:Int),m=x.kids.length-i∧i≤x.kids.length∧Kn H H1 [] []∧((x.kids.take i).all fun y=>y.form (most-1))=true∧1≤d∧d≤1000+most∧
   e1=[(1,.c (.int .i64 most)),(9,.c (.int .i64 (1+Qai (x.kids.take i):Nat))),(10,.c (.int .i64 d)),(99,.c (.sl false 4 (Qm x.kids))),(100,.c (.int .i64 x.kids.length)),(101,.c (.int .i64 i))]) x.kids.length ?_ ?_))
  ·exact⟨0,1,by omega,by omega,kn,rfl,by omega,by omega,by simp[Qai]⟩
  ·clear kn g
   rintro m e1 H2 ⟨i,d,hm,hi,kn,hall,hd0,hd1',rfl⟩
   have g:=(‹GK H› : GK H).kn kn
   refine Qa ?_
   simp only[go_sem]
   refine Qe (Qb rfl ?_ ?_)
   ·intro hc
    have hlt:i<x.kids.length:=by simpa using hc
    have hm:=Qac (List.getElem_mem hlt)
    refine Qd ?_
    try simp only[go_sem]
    refine Qe (Qf ?_)
    refine Qa ?_
    simp only[go_sem,hlt,Qh,Q6 _ _ hlt,x.kids[i].cells_eq]
    intro x12 hx12 H3 h3
    have kn:=kn.al hx12 h3
    have g12:=kn.l 0 rfl
    simp only[go_sem,Qpb,g12]
    intro H4 h4
    have kn:Kn H H4 [] [(x12,.st [.int .i64 x.kids[i].op,.int .i64 x.kids[i].n,.str x.kids[i].name,.sl false 4 (Qm x.kids[i].kids)])]:=kn.stL 0 rfl h4
    have g:=g0.kn kn
    clear g12
    have g12:=kn.l 0 rfl
    refine Qa ?_
    simp only[go_sem,g12]
    refine⟨Qr (by omega) (by omega),?_⟩
    have hih:=@ih x.kids[i]
    rw[x.kids[i].cells_eq]at hih
    refine hih (most-1) (by omega) (by omega) (by omega) g fun n' d' ok H5 hu hso=>?_
    have kn:=Kn.drop (A:=[]) (kn.call0 hu)
    obtain⟨hso1,hso2⟩:=hso
    simp only[go_sem,Qpc,List.getD_cons_zero,List.getD_cons_succ]
    refine Qu ?_
    refine Qa ?_
    simp only[go_sem]
    have hel:=Q8m hlt
    have hle:=Qmc x.kids (i+1)
    refine Qe (Qb rfl ?_ ?_)
    ·intro hc2
     have hok:ok=false:=by simpa using hc2
     refine Qa ?_
     simp only[go_sem]
     refine Qg ?_
     simp only[go_sem,AE.X.next]
     refine retf _ _ _ ?_ kn (by simp[lk]) (by simp[lk]) (by simp[lk])
     rw[hok]at hso1
     rcases Bool.and_eq_false_iff.1 hso1.symm with h|h
     ·rw[hfe2,Qn5 hlt h];rfl
     ·rw[decide_eq_false_iff_not]at h
      rw[decide_eq_false (by omega),Bool.and_false]
    ·intro hc2
     have hok:ok=true:=by simpa using hc2
     obtain⟨hn',hd2,hd3⟩:=hso2 hok
     rw[hok]at hso1
     have hso1:=hso1.symm
     rw[Bool.and_eq_true,decide_eq_true_eq]at hso1
     obtain⟨hs1,hs2⟩:=hso1
     have hin:Qai (x.kids.take i)≤Qai x.kids:=Qmc x.kids i
     refine Qd ?_
     try simp only[go_sem]
     refine Qa ?_
     simp only[go_sem]
     refine⟨Qr (by omega) (by omega),?_⟩
     refine Qp ?_
     simp only[go_sem,AE.X.next]
     refine⟨Qr (by omega) (by omega),?_⟩
     refine Qp ?_
     simp only[go_sem,AE.X.next]
     refine⟨Qr (by omega) (by omega),x.kids.length-(i+1),by omega,i+1,(if d'+1 > d then d'+1 else d),rfl,by omega,kn,by rw[Qiq hlt,hall,hs1];rfl,by split <;> omega,by split <;> omega,?_⟩
     rw[show (((1+Qai (x.kids.take i):Nat):Int)+n')=((1+Qai (x.kids.take (i+1)):Nat):Int)by omega]
     rfl
   ·intro hc
    have hge:x.kids.length≤i:=by simpa using hc
    rw[List.take_of_length_le hge]at hall
    rw[List.take_of_length_le hge]
    refine Qt ?_
    simp only[go_sem,AE.X.next]
    refine Qa ?_
    simp only[go_sem]
    refine Qg ?_
    refine ret _ d _ _ _ _ ⟨?_,fun _=>⟨by rw[hsz],by omega,hd1'⟩⟩ kn (by simp[lk]) (by simp[lk]) rfl
    rw[hfe2,hall,hsz,Bool.true_and,decide_eq_decide]
    omega
 refine Qa9m g ?_
 simp only[go_sem,Qpa,l1,l2,l7,l8,Qku]
 intro hl
 refine⟨fun hb=>?_,fun hb=>?_⟩
 ·have hb:=Q3h hb
  refine Qxl ?_
  simp only[go_sem,Qik,hb,l1,l2,l7,l8,Qku,Qh]
  try intro _
  refine rest _ ?_
  rw[←hP,Qa4i (a:=most)]
  revert hb
  simp only[Qew]
  cases decide (levO x.op<6) <;> cases decide (x.n=0) <;> cases decide (x.name=[]) <;> cases decide (Qd9 x.op≤(x.kids.length:Int)) <;> cases decide ((x.kids.length:Int)≤Qdw x.op) <;> cases decide ((1:Int)≤most) <;> simp
 ·have hb:=Qua hb
  simp only[go_sem,Qik,hb,l1,l2,l7,l8,Qku]
  try intro _
  refine rest _ ?_
  rw[←hP]
  revert hb
  simp only[Qew]
  cases decide (levO x.op<6) <;> cases decide (x.n=0) <;> cases decide (x.name=[]) <;> simp
theorem Qqu {x:Ex}(hx:x.size≤2^40)(g:GK H)(hK:∀H',Upd H H' []→K (.c (.bool x.valid)) H'):Ql prog Qf7 [.ag x.cells] H K:=by
 refine Qc Qah Qajs ?_
 refine Qa ?_
 simp only[go_sem,x.cells_eq]
 refine Qa ?_
 simp only[go_sem]
 have h:=@Qa4m x.size x
 rw[x.cells_eq]at h
 refine h 6 (Nat.le_refl _) hx (by omega) g fun n d ok H' hu hso=>?_
 simp only[go_sem,Qo3,List.getD_cons_zero,List.getD_cons_succ]
 refine Qa ?_
 simp only[go_sem]
 refine Qg ?_
 simp only[go_sem,Qq,Qz,Qic,List.mem_singleton,forall_eq,RS.op]
 rw[hso.1]
 exact hK _ hu
end Go.AE.Y

namespace Go.AE.Y
attribute [local go_sem] cond_true cond_false Bool.not_true Bool.not_false
open Go.Proofs.Tryz
variable {H H0:Heap}{K:V→Heap→Prop}
def acN (op:Int):Int:=if 1≤op∧op≤8 then (argN op:Int)else -1
theorem Qa4e {op:Int}(hK:K (.tup [.c (.int .i64 (acN op)),.c (.bool (decide (op=1∨op=2))),.c (.bool (decide (op=5∨op=6))),.c (.bool (decide (op=5)))]) H):Ql prog Qn6 [.c (.int .i64 op)] H K:=by
 refine Qc Qah Qapp ?_
 have ret:∀(n:Int) (a b c:Bool) (e:Env),n=acN op→a=decide (op=1∨op=2)→b=decide (op=5∨op=6)→c=decide (op=5)→lk 2 e=.c (.int .i64 n)→lk 3 e=.c (.bool a)→lk 4 e=.c (.bool b)→lk 5 e=.c (.bool c)→Qq Qgu K .ret e H:=by
  intro n a b c e h1 h2 h3 h4 l2 l3 l4 l5
  subst h1;subst h2;subst h3;subst h4
  simp only[go_sem,Qq,Qz,Qgu,List.forall_mem_cons,List.not_mem_nil,RS.op,l2,l3,l4,l5]
  exact⟨fun _=>trivial,hK⟩
 have fin:∀(n:Int) (a b c:Bool) (e:Env) (Q:X→Env→Heap→Prop),(∀e,lk 2 e=.c (.int .i64 n)→lk 3 e=.c (.bool a)→lk 4 e=.c (.bool b)→lk 5 e=.c (.bool c)→Q .ret e H)→Qae prog (.seq (.reg (
  .f (some 2) none (.mv (.k (.c (.int .i64 n))))::
  .f (some 3) none (.mv (.k (.c (.bool a))))::
  .f (some 4) none (.mv (.k (.c (.bool b))))::
  .f (some 5) none (.mv (.k (.c (.bool c))))::
  []) [2,3,4,5]) .ret) Q e H:=by
  intro n a b c e Q hq
  refine Qa ?_
  simp only[go_sem]
  refine Qg ?_
  exact hq _ (by simp[lk]) (by simp[lk]) (by simp[lk]) (by simp[lk])
 refine Qa ?_
 simp only[go_sem]
 refine Qu ?_
 refine Qa ?_
 simp only[go_sem]
 refine Qe (Qf ?_)
 refine Qu ?_
 refine Qa ?_
 simp only[go_sem]
 have one:∀(e:Env),(op=1∨op=2)→Qae prog Quw (X.inBlock 0 (X.sq prog Qmx (Qq Qgu K))) ((6,.c (.int .i64 op))::(7,.c (.bool true))::e) H:=by
  intro e h
  refine Qb rfl (fun _=>?_) (fun h=>by cases h)
  refine fin 1 true false false _ _ fun e l2 l3 l4 l5=>?_
  simp only[go_sem,AE.X.next]
  exact ret _ _ _ _ e (by rw[acN,if_pos (by omega),argN,if_neg (by omega)];rfl) (by rw[decide_eq_true h]) (by symm;rw[decide_eq_false_iff_not];omega) (by symm;rw[decide_eq_false_iff_not];omega) l2 l3 l4 l5
 refine Qe (Qb rfl ?_ ?_)
 ·intro hc
  refine Qd ?_
  simp only[go_sem]
  have h1:op=1:=by simpa using hc
  rw[hc]
  exact one [] (.inl h1)
 intro hc
 have h1:¬op=1:=by simpa using hc
 refine Qp ?_
 simp only[go_sem]
 by_cases h2:op=2
 ·rw[decide_eq_true h2]
  exact one [] (.inr h2)
 rw[decide_eq_false h2]
 refine Qb rfl (fun h=>by cases h) (fun _=>?_)
 refine Qu ?_
 refine Qa ?_
 simp only[go_sem]
 have two:∀(b:Bool),b=decide (op=3∨op=7∨op=8)→Qae prog Quv (X.inBlock 0 (X.sq prog Qmx (Qq Qgu K))) [(6,.c (.int .i64 op)),(10,.c (.bool b))] H:=by
  intro b hb
  refine Qb rfl (fun hc=>?_) (fun hc=>?_)
  ·rw[hb,decide_eq_true_eq]at hc
   refine fin 1 false false false _ _ fun e l2 l3 l4 l5=>?_
   simp only[go_sem,AE.X.next]
   exact ret _ _ _ _ e (by rw[acN,if_pos (by omega),argN,if_neg (by omega)];rfl) (by symm;rw[decide_eq_false_iff_not];omega) (by symm;rw[decide_eq_false_iff_not];omega) (by symm;rw[decide_eq_false_iff_not];omega) l2 l3 l4 l5
  rw[hb,decide_eq_false_iff_not]at hc
  refine Qa ?_
  simp only[go_sem]
  refine Qb rfl (fun hc4=>?_) (fun hc4=>?_)
  ·have h4:op=4:=by simpa using hc4
   refine fin 2 false false false _ _ fun e l2 l3 l4 l5=>?_
   simp only[go_sem,AE.X.next]
   exact ret _ _ _ _ e (by rw[h4];rfl) (by rw[h4];rfl) (by rw[h4];rfl) (by rw[h4];rfl) l2 l3 l4 l5
  have h4:¬op=4:=by simpa using hc4
  refine Qa ?_
  simp only[go_sem]
  refine Qb rfl (fun hc5=>?_) (fun hc5=>?_)
  ·have h5:op=5:=by simpa using hc5
   refine fin 1 false true true _ _ fun e l2 l3 l4 l5=>?_
   simp only[go_sem,AE.X.next]
   exact ret _ _ _ _ e (by rw[h5];rfl) (by rw[h5];rfl) (by rw[h5];rfl) (by rw[h5];rfl) l2 l3 l4 l5
  have h5:¬op=5:=by simpa using hc5
  refine Qa ?_
  simp only[go_sem]
  refine Qb rfl (fun hc6=>?_) (fun hc6=>?_)
  ·have h6:op=6:=by simpa using hc6
   refine fin 1 false true false _ _ fun e l2 l3 l4 l5=>?_
   simp only[go_sem,AE.X.next]
   exact ret _ _ _ _ e (by rw[h6];rfl) (by rw[h6];rfl) (by rw[h6];rfl) (by rw[h6];rfl) l2 l3 l4 l5
  have h6:¬op=6:=by simpa using hc6
  refine Qd ?_
  simp only[go_sem,AE.X.next]
  refine fin (-1) false false false _ _ fun e l2 l3 l4 l5=>?_
  exact ret _ _ _ _ e (by rw[acN,if_neg (by omega)]) (by symm;rw[decide_eq_false_iff_not];omega) (by symm;rw[decide_eq_false_iff_not];omega) (by symm;rw[decide_eq_false_iff_not];omega) l2 l3 l4 l5
 refine Qe (Qb rfl ?_ ?_)
 ·intro hc3
  have h3:op=3:=by simpa using hc3
  refine Qd ?_
  simp only[go_sem]
  exact two _ (by rw[decide_eq_decide];omega)
 intro hc3
 have h3:¬op=3:=by simpa using hc3
 refine Qa ?_
 simp only[go_sem]
 refine Qb rfl ?_ ?_
 ·intro hc7
  have h7:op=7:=by simpa using hc7
  refine Qd ?_
  simp only[go_sem]
  exact two _ (by rw[decide_eq_decide];omega)
 intro hc7
 have h7:¬op=7:=by simpa using hc7
 refine Qp ?_
 simp only[go_sem]
 exact two _ (by rw[decide_eq_decide];omega)
def badS (op:Int)(name:List UInt8)(args:List Ex)(nb ne:Nat)(nest:Int):Bool:=
 decide (4<nest) || (!decide ((args.length:Int)=acN op) || ((decide (op=1∨op=2)&&!Qc6 name) || ((!decide (op=1∨op=2)&&!decide (name=[])) || ((!decide (op=5∨op=6)&&decide (0<nb)) || ((!decide (op=5)&&decide (0<ne)) ||
  (decide (op=8)&&!decide ((args.map Ex.op).getD 0 0=13)))))))
theorem acN_eq {op:Int}{k:Nat}:(k:Int)=acN op↔(1≤op∧op≤8)∧k=argN op:=by
 rw[acN]
 split <;> omega
theorem Qbgw (op:Int)(name:List UInt8)(args:List Ex)(nb ne:Nat)(nest:Int):(decide (1≤5-nest)&&Qp9 op name args nb ne)=(!badS op name args nb ne nest&&args.all Ex.valid):=by
 have e1:decide (1≤5-nest) = !decide (4<nest):=by rw[Bool.eq_iff_iff];simp;omega
 have e2:decide ((args.length:Int)=acN op)=(decide (1≤op∧op≤8)&&decide (args.length=argN op)):=by rw[Bool.eq_iff_iff];simp only[Bool.and_eq_true,decide_eq_true_eq];exact acN_eq
 have e3:decide (ne=0) = !decide (0<ne):=by rw[Bool.eq_iff_iff];simp
 have e4:decide (nb=0) = !decide (0<nb):=by rw[Bool.eq_iff_iff];simp
 have e5:(decide (op=1∨op=2) == Qc6 name)=true→decide (op=1∨op=2)=false→name=[]→True:=fun _ _ _=>trivial
 rw[Qp9,badS,e1,e2,e3,e4]
 by_cases hn:name=[]
 ·subst hn
  rw[Qatx]
  cases decide (4<nest) <;> cases decide (1≤op∧op≤8) <;> cases decide (args.length=argN op) <;> cases decide (op=1∨op=2) <;> cases decide (0<ne) <;> cases decide (0<nb) <;> cases decide (op=5) <;> cases decide (op=5∨op=6) <;> cases decide (op=8) <;> cases decide ((args.map Ex.op).getD 0 0=13) <;> cases args.all Ex.valid <;> rfl
 ·rw[decide_eq_false hn]
  cases decide (4<nest) <;> cases decide (1≤op∧op≤8) <;> cases decide (args.length=argN op) <;> cases decide (op=1∨op=2) <;> cases Qc6 name <;> cases decide (0<ne) <;> cases decide (0<nb) <;> cases decide (op=5) <;> cases decide (op=5∨op=6) <;> cases decide (op=8) <;> cases decide ((args.map Ex.op).getD 0 0=13) <;> cases args.all Ex.valid <;> rfl
end Go.AE.Y

namespace Go.AE.Y
attribute [local go_sem] cond_true cond_false Bool.not_true Bool.not_false
open Go.Proofs.Tryz
variable {H H0:Heap}{K:V→Heap→Prop}
theorem dpos (n:Nat):decide ((0:Int)<(n:Int))=decide (0<n):=by rw[decide_eq_decide];omega
theorem Qbir {x:St}{nest:Int}{Q:X→Env→Heap→Prop}(kn:Kn H0 H [] [])(g:GK H)
  (hn:∀e' H' b,b=badS x.op x.name x.args x.body.length x.els.length nest→Kn H0 H' [] []→lk 1 e'=.c (.int .i64 nest)→lk 2 e'=.c (.pp [.int .i64 x.op,.str x.name,.sl false 4 (Qm x.args),.sl false 5 (Qk x.body),.sl false 5 (Qk x.els)])→lk 19 e'=.c (.bool b)→Q .nrm e' H') :
  Qae prog Q32 Q [(1,.c (.int .i64 nest)),(2,.c (.pp [.int .i64 x.op,.str x.name,.sl false 4 (Qm x.args),.sl false 5 (Qk x.body),.sl false 5 (Qk x.els)])),(5,.c (.int .i64 (acN x.op))),(6,.c (.bool (decide (x.op=1∨x.op=2)))),(7,.c (.bool (decide (x.op=5∨x.op=6)))),(8,.c (.bool (decide (x.op=5)))),(19,.c (.bool (decide (4<nest))))] H:=by
 refine Qb rfl (fun hc=>?_) (fun hc=>?_)
 ·rw[hc]
  refine Qd ?_
  exact hn _ _ true (by simp only[badS,hc,Bool.true_or]) kn (by simp[lk]) (by simp[lk]) (by simp[lk])
 refine Qa ?_
 simp only[go_sem,Qh]
 intro _
 refine Qb rfl (fun hc1=>?_) (fun hc1=>?_)
 ·rw[hc1]
  refine Qd ?_
  exact hn _ _ true (by simp only[badS,hc,hc1,Bool.true_or,Bool.false_or]) kn (by simp[lk]) (by simp[lk]) (by simp[lk])
 have hl:=acN_eq.1 (show (x.args.length:Int)=acN x.op by simpa using hc1)
 have rest:∀(b:Bool) (H1:Heap),b=(decide (x.op=1∨x.op=2)&&!Qc6 x.name)→Kn H0 H1 [] []→Qae prog Q31 Q [(1,.c (.int .i64 nest)),(2,.c (.pp [.int .i64 x.op,.str x.name,.sl false 4 (Qm x.args),.sl false 5 (Qk x.body),.sl false 5 (Qk x.els)])),(6,.c (.bool (decide (x.op=1∨x.op=2)))),(7,.c (.bool (decide (x.op=5∨x.op=6)))),(8,.c (.bool (decide (x.op=5)))),(19,.c (.bool b))] H1:=by
  intro b H1 hb kn
  refine Qb rfl (fun hc2=>?_) (fun hc2=>?_)
  ·rw[hc2]at hb
   rw[hc2]
   refine Qd ?_
   exact hn _ _ true (by simp only[badS,hc,hc1,←hb,Bool.true_or,Bool.false_or]) kn (by simp[lk]) (by simp[lk]) (by simp[lk])
  rw[hc2]at hb
  refine Qa ?_
  simp only[go_sem,Qew]
  refine Qb rfl (fun hc3=>?_) (fun hc3=>?_)
  ·rw[hc3]
   refine Qd ?_
   exact hn _ _ true (by simp only[badS,hc,hc1,←hb,hc3,Bool.true_or,Bool.false_or]) kn (by simp[lk]) (by simp[lk]) (by simp[lk])
  refine Qa ?_
  simp only[go_sem,Qew,Qo]
  try intro _
  refine Qb rfl (fun hc4=>?_) (fun hc4=>?_)
  ·rw[hc4]
   rw[dpos]at hc4
   refine Qd ?_
   exact hn _ _ true (by simp only[badS,hc,hc1,←hb,hc3,hc4,Bool.true_or,Bool.false_or]) kn (by simp[lk]) (by simp[lk]) (by simp[lk])
  rw[dpos]at hc4
  refine Qa ?_
  simp only[go_sem,Qew,Qo]
  try intro _
  refine Qb rfl (fun hc5=>?_) (fun hc5=>?_)
  ·rw[hc5]
   rw[dpos]at hc5
   refine Qd ?_
   exact hn _ _ true (by simp only[badS,hc,hc1,←hb,hc3,hc4,hc5,Bool.true_or,Bool.false_or]) kn (by simp[lk]) (by simp[lk]) (by simp[lk])
  rw[dpos]at hc5
  refine Qp ?_
  have h1:0<x.args.length:=by rw[hl.2,argN];split <;> omega
  have hg0:=Q6 x.args 0 h1
  obtain⟨a,ea⟩:∃a,x.args[0]=a:=⟨_,rfl⟩
  rw[ea]at hg0
  have eo:(x.args.map Ex.op).getD 0 0=a.op:=by rw[←ea];simp[List.getD_eq_getElem?_getD,h1]
  simp only[go_sem,Qew,Qh,h1,hg0,a.cells_eq]
  first
   |refine⟨fun _=>by omega,?_⟩
   |skip
  refine hn _ _ (decide (x.op=8)&&!decide (a.op=13)) ?_ kn (by simp[lk]) (by simp[lk]) (by simp[lk])
  simp only[badS,hc,hc1,←hb,hc3,hc4,hc5,eo,Bool.true_or,Bool.false_or,Bool.true_and]
 by_cases hnm:x.op=1∨x.op=2
 ·have hd:decide (x.op=1∨x.op=2)=true:=decide_eq_true hnm
  rw[hd]at rest
  refine Qa ?_
  simp only[go_sem,hd]
  refine Qot g fun H1 hu=>?_
  simp only[go_sem,Qoh]
  exact rest _ _ rfl (kn.call0 hu)
 ·have hd:decide (x.op=1∨x.op=2)=false:=decide_eq_false hnm
  rw[hd]at rest
  refine Qa ?_
  simp only[go_sem,hd,Qoh]
  exact rest _ _ rfl kn
theorem Qaoz {fl:Bool}{l:List St}{f:Nat}{caps:List C}{p:St→Bool}
  (hf:∀(x:St) (H1:Heap) (K':V→Heap→Prop),x∈l→Kn H H1 [] []→(∀H2,Upd H1 H2 []→K' (.c (.bool (p x))) H2)→Ql prog f ([.ag x.cells]++caps.map .c) H1 K')
  (hK:∀(r:Int) (H':Heap),Upd H H' []→decide (0≤r)=l.any p→K (.c (.int .i64 r)) H') :
  Ql prog Qey [.c (.sl fl 5 (Qk l)),.c (.fn f caps)] H K:=by
 refine Qab ?_
 refine Qc Qah Q0b ?_
 refine Qa ?_
 simp only[go_sem]
 refine Qu ?_
 refine Qa ?_
 simp only[go_sem,Qo]
 intro hl
 simp only[LIM]at hl
 refine Qe (Qf (Qy (fun m e1 H1=>∃(i:Nat),m=l.length-i∧i≤l.length∧Kn H H1 [] []∧(∀x∈l.take i,p x=false)∧e1=[(0,.c (.sl fl 5 (Qk l))),(1,.c (.fn f caps)),(7,.c (.int .i64 l.length)),(8,.c (.int .i64 i))]) l.length ?_ ?_))
 ·exact⟨0,by omega,by omega,Kn.start0 H,by simp,rfl⟩
 ·rintro m e1 H1 ⟨i,hm,hi,kn,hall,rfl⟩
  refine Qa ?_
  simp only[go_sem]
  refine Qe (Qb rfl ?_ ?_)
  ·intro hc
   have hlt:i<l.length:=by simpa using hc
   refine Qd ?_
   simp only[go_sem]
   refine Qe (Qf ?_)
   refine Qa ?_
   simp only[go_sem]
   refine Qa ?_
   simp only[go_sem,hlt,Qo,Q4 _ _ hlt,St.take5,St.allOw,St.cells_len]
   refine hf _ _ _ (List.getElem_mem hlt) kn fun H2 hu=>?_
   have kn:=kn.call0 hu
   refine Qb rfl ?_ ?_
   ·intro hc2
    refine Qa ?_
    simp only[go_sem]
    refine Qg ?_
    simp only[go_sem,X.next,Qq,Qz,Qat4,List.mem_singleton,forall_eq,RS.op]
    refine⟨_,.c _ _ (Qi rfl),hK _ _ kn.fin ?_⟩
    have:l.any p=true:=List.any_eq_true.2 ⟨_,List.getElem_mem hlt,hc2⟩
    rw[this];simp
   ·intro hc2
    refine Qd ?_
    simp only[go_sem]
    refine Qp ?_
    simp only[go_sem,X.next]
    refine⟨Qr (by omega) (by omega),l.length-(i+1),by omega,i+1,rfl,by omega,kn,?_,rfl⟩
    rw[List.take_succ_eq_append_getElem hlt]
    intro x hx
    rcases List.mem_append.1 hx with hx|hx
    ·exact hall x hx
    ·simp only[List.mem_singleton]at hx;subst hx;exact hc2
  ·intro hc
   have hge:l.length≤i:=by simpa using hc
   rw[List.take_of_length_le hge]at hall
   refine Qt ?_
   simp only[go_sem,X.next]
   refine Qa ?_
   simp only[go_sem]
   refine Qg ?_
   simp only[go_sem,Qq,Qz,Qat4,List.mem_singleton,forall_eq,RS.op]
   refine⟨_,.c _ _ (Qi rfl),hK _ _ kn.fin ?_⟩
   have:l.any p=false:=by
    cases hc:l.any p with
    |false=>rfl
    |true=>obtain⟨x,hx,hp⟩:=List.any_eq_true.1 hc;rw[hall x hx]at hp;exact absurd hp (by simp)
   rw[this];rfl
theorem Qaab {fl:Bool}{l:List St}{f:Nat}{caps:List C}{p:St→Bool}
  (hf:∀(x:St) (H1:Heap) (K':V→Heap→Prop),x∈l→Kn H H1 [] []→(∀H2,Upd H1 H2 []→K' (.c (.bool (p x))) H2)→Ql prog f ([.ag x.cells]++caps.map .c) H1 K')
  (hK:∀(H':Heap),Upd H H' []→K (.c (.bool (l.any p))) H') :
  Ql prog Qc5 [.c (.sl fl 5 (Qk l)),.c (.fn f caps)] H K:=by
 refine Qc Qah Qsw ?_
 refine Qa ?_
 simp only[go_sem]
 refine Qa ?_
 simp only[go_sem]
 refine Qaoz hf fun r H' hu hr=>?_
 simp only[go_sem,Qe7]
 refine Qg ?_
 simp only[go_sem,Qq,Qz,Qat4,List.mem_singleton,forall_eq,RS.op]
 rw[hr];exact hK _ hu
def StOk (n:Nat):Prop:=∀(x:St) (nest:Int) (H:Heap) (K:V→Heap→Prop),x.size≤n→x.size≤2^40→0≤nest→nest≤100→GK H→(∀H',Upd H H' []→K (.c (.bool (x.form (5-nest)))) H')→Ql prog Qt1 [.ag x.cells,.c (.int .i64 nest)] H K
def BlOk (n:Nat):Prop:=∀(l:List St) (nest:Int) (fl:Bool) (H:Heap) (K:V→Heap→Prop),Qj l≤n→Qj l≤2^40→0≤nest→nest≤100→GK H→(∀H',Upd H H' []→K (.c (.bool (Q2 l (5-nest)))) H')→
 Ql prog Qgb [.c (.sl fl 5 (Qk l)),.c (.int .i64 nest)] H K
theorem Qa7y {n:Nat}(hS:StOk n):BlOk n:=by
 intro l nest fl H K hn hb h0 hm g hK
 refine Qab ?_
 refine Qc Qah Qatj ?_
 refine Qa ?_
 simp only[go_sem]
 refine Qa ?_
 simp only[go_sem]
 have kn:=Kn.start0 H
 refine Qaab (p:=fun s=>!s.form (5-nest)) (fun x H1 K' hx kn hK'=>?_) fun H1 hu=>?_
 ·have hm2:=Qak hx
  refine Qc Qah Qae6 ?_
  refine Qa ?_
  simp only[go_sem,x.cells_eq]
  refine Qa ?_
  simp only[go_sem]
  have h:=hS x nest
  rw[x.cells_eq]at h
  refine h _ _ (by omega) (by omega) h0 hm (g.kn kn) fun H2 hu=>?_
  simp only[go_sem,Qnq]
  refine Qg ?_
  simp only[go_sem,Qq,Qz,Q8u,List.mem_singleton,forall_eq,RS.op]
  exact hK' _ hu
 have kn:=kn.call0 hu
 simp only[go_sem,Qux]
 refine Qg ?_
 simp only[go_sem,Qq,Qz,Qat4,List.mem_singleton,forall_eq,RS.op]
 refine⟨_,.c _ _ (Qi rfl),?_⟩
 have e:(!l.any fun s=>!s.form (5-nest))=Q2 l (5-nest):=by rw[Qdb,List.all_eq_not_any_not]
 rw[e]
 exact hK _ kn.fin
theorem Qbks:∀n,StOk n:=by
 intro n
 induction n with
 |zero=>intro x nest H K hx;have:=x.size_eq;omega
 |succ n ih=>
 have hB:=Qa7y ih
 intro x nest H K hn hb h0 hm g hK
 have hse:=x.size_eq
 have g0:=g
 refine Qab ?_
 refine Qc Qah Qayc ?_
 have hfe:x.form (5-nest)=(!badS x.op x.name x.args x.body.length x.els.length nest&&x.args.all Ex.valid&&(Q2 x.body (5-(nest+1))&&Q2 x.els (5-(nest+1)))):=by
  rw[x.form_eq,Qbgw,show 5-nest-1=5-(nest+1)by omega,Bool.and_assoc]
 have retf:∀(b:Bool) (e:Env) (H':Heap) (L:List (Nat×Obj)),x.form (5-nest)=b→Kn H H' [] L→lk 4 e=.c (.bool b)→Qq Qat4 (unK H K) .ret e H':=by
  intro b e H' L hf kn h4
  simp only[go_sem,Qq,Qz,Qat4,List.mem_singleton,forall_eq,RS.op,h4]
  refine⟨_,.c _ _ (Qi rfl),?_⟩
  rw[←hf];exact hK _ kn.fin
 have kn:=Kn.start0 H
 refine Qa ?_
 simp only[go_sem,x.cells_eq]
 refine Qa ?_
 simp only[go_sem]
 refine Qa4e ?_
 simp only[go_sem,Qzh,List.getD_cons_zero,List.getD_cons_succ]
 refine Qe (Qf ?_)
 refine Qu ?_
 refine Qa ?_
 simp only[go_sem]
 refine Qe (Qbir kn g fun e' H1 b hbad kn l1 l2 l19=>?_)
 clear g
 have g:=g0.kn kn
 simp only[go_sem]
 rw[←hbad]at hfe
 refine Qb (by simp only[go_sem,l19];rfl) (fun hc=>?_) (fun hc=>?_)
 ·refine Qa ?_
  simp only[go_sem]
  refine Qg ?_
  simp only[go_sem,AE.X.next]
  exact retf false _ _ _ (by rw[hfe,hc];rfl) kn (by simp[lk])
 have hn4:nest≤4:=by
  rw[hc,badS]at hbad
  have:=(Bool.or_eq_false_iff.1 hbad.symm).1
  simpa using this
 rw[hc,Bool.not_false,Bool.true_and]at hfe
 refine Qd ?_
 simp only[go_sem,AE.X.next]
 refine Qu ?_
 refine Qa ?_
 simp only[go_sem,l1,l2,Qh]
 intro hl
 simp only[LIM]at hl
 refine Qe (Qf (Qy (fun m e1 H1=>∃(i:Nat),m=x.args.length-i∧i≤x.args.length∧Kn H H1 [] []∧((x.args.take i).all Ex.valid)=true∧
  e1=[(1,.c (.int .i64 nest)),(2,.c (.pp [.int .i64 x.op,.str x.name,.sl false 4 (Qm x.args),.sl false 5 (Qk x.body),.sl false 5 (Qk x.els)])),(69,.c (.sl false 4 (Qm x.args))),(70,.c (.int .i64 x.args.length)),(71,.c (.int .i64 i))]) x.args.length ?_ ?_))
 ·exact⟨0,by omega,by omega,kn,rfl,rfl⟩
 ·clear kn g
  rintro m e1 H2 ⟨i,hm,hi,kn,hall,rfl⟩
  have g:=g0.kn kn
  refine Qa ?_
  simp only[go_sem]
  refine Qe (Qb rfl ?_ ?_)
  ·intro hc
   have hlt:i<x.args.length:=by simpa using hc
   have hm:=Qac (List.getElem_mem hlt)
   refine Qd ?_
   try simp only[go_sem]
   refine Qe (Qf ?_)
   refine Qa ?_
   simp only[go_sem,hlt,Qh,Q6 _ _ hlt,x.args[i].cells_eq]
   intro x10 hx10 H3 h3
   have kn:=kn.al hx10 h3
   have g12:=kn.l 0 rfl
   simp only[go_sem,Qzi,g12]
   intro H4 h4
   have kn:Kn H H4 [] [(x10,.st [.int .i64 x.args[i].op,.int .i64 x.args[i].n,.str x.args[i].name,.sl false 4 (Qm x.args[i].kids)])]:=kn.stL 0 rfl h4
   clear g12
   have g:=g0.kn kn
   have g12:=kn.l 0 rfl
   refine Qa ?_
   simp only[go_sem,g12]
   have hev:=@Qqu H4
   have hev2:=fun K=>@Qqu H4 K x.args[i]
   simp only[x.args[i].cells_eq]at hev2
   refine hev2 _ (by omega) g fun H5 hu=>?_
   have kn:=Kn.drop (A:=[]) (kn.call0 hu)
   simp only[go_sem,Qvh]
   refine Qb rfl ?_ ?_
   ·intro hc2
    refine Qa ?_
    simp only[go_sem]
    refine Qg ?_
    simp only[go_sem,AE.X.next]
    exact retf false _ _ _ (by rw[hfe,Qn5 hlt (Q3h hc2)];rfl) kn (by simp[lk])
   ·intro hc2
    refine Qd ?_
    try simp only[go_sem]
    refine Qp ?_
    simp only[go_sem,AE.X.next]
    exact⟨Qr (by omega) (by omega),x.args.length-(i+1),by omega,i+1,rfl,by omega,kn,by rw[Qiq hlt,hall,Qua hc2];rfl,rfl⟩
  ·intro hc
   have hge:x.args.length≤i:=by simpa using hc
   rw[List.take_of_length_le hge]at hall
   rw[hall,Bool.true_and]at hfe
   refine Qt ?_
   simp only[go_sem,AE.X.next]
   refine Qa ?_
   simp only[go_sem]
   refine⟨Qr (by omega) (by omega),?_⟩
   refine hB x.body (nest+1) _ _ _ (by omega) (by omega) (by omega) (by omega) g fun H3 hu=>?_
   have kn:=kn.call0 hu
   have g:=g0.kn kn
   cases hb1:Q2 x.body (5-(nest+1))with
   |false=>
    simp only[go_sem,Qmz,Qmy]
    refine Qg ?_
    exact retf false _ _ _ (by rw[hfe,hb1];rfl) kn (by simp[lk])
   |true=>
    simp only[go_sem,Qmz]
    refine⟨Qr (by omega) (by omega),?_⟩
    refine hB x.els (nest+1) _ _ _ (by omega) (by omega) (by omega) (by omega) g fun H4 hu=>?_
    have kn:=kn.call0 hu
    simp only[go_sem,Qmy]
    refine Qg ?_
    exact retf _ _ _ _ (by rw[hfe,hb1];rfl) kn rfl
theorem Qbjc (n:Nat):BlOk n:=Qa7y (Qbks n)
end Go.AE.Y

namespace Go.AE.Y
attribute [local go_sem] cond_true cond_false Bool.not_true Bool.not_false
open Go.Proofs.Tryz
variable {H H0:Heap}{K:V→Heap→Prop}{E E' L:List (Nat×Obj)}
end Go.AE.Y
namespace Go.AE
open Go.AE.Y
open Go.Proofs.Tryz
variable {H H0:Heap}{K:V→Heap→Prop}{E E' L:List (Nat×Obj)}
theorem Kn.callAll {H':Heap}(kn:Kn H0 H E L)(hu:Upd H H' E')(hn:E'.map Prod.fst=E.map Prod.fst)(hne:∀p∈E',p.2≠.none):Kn H0 H' E' L:=by
 refine kn.callg hu hn rfl (fun p hp=>?_) (fun m hm=>?_)
 ·rcases List.mem_append.1 hp with h|h
  ·exact⟨hne p h,.inl h⟩
  ·refine⟨(kn.get p (List.mem_append_right _ h)).2,.inr ⟨List.mem_append_right _ h,fun hm=>?_⟩⟩
   rw[hn]at hm
   obtain⟨q,hq,hqp⟩:=List.mem_map.1 hm
   exact kn.ext q hq (by rw[hqp];exact kn.loc p h)
 ·exact .inl (by rw[←hn];exact List.mem_map.2 ⟨m,hm,rfl⟩)
end Go.AE
namespace Go.AE.Y
open Go.Proofs.Tryz
variable {H H0:Heap}{K:V→Heap→Prop}{E E' L:List (Nat×Obj)}
mutual
def St.vis {α:Type}(step:α→St→Int→α):St→Int→α→α
 |.mk op name args body els,n,a=>Qbx step els (n+1) (Qbx step body (n+1) (step a (.mk op name args body els) n))
def Qbx {α:Type}(step:α→St→Int→α):List St→Int→α→α
 |[],_,a=>a
 |x::r,n,a=>Qbx step r n (x.vis step n a)
end
theorem St.vis_eq {α:Type}(step:α→St→Int→α)(x:St)(n:Int)(a:α):x.vis step n a=Qbx step x.els (n+1) (Qbx step x.body (n+1) (step a x n)):=by
 cases x;simp only[St.vis,St.body,St.els]
theorem Qa7l {α:Type}(step:α→St→Int→α)(l r:List St)(n:Int)(a:α):Qbx step (l++r) n a=Qbx step r n (Qbx step l n a):=by
 induction l generalizing a with
 |nil=>simp[Qbx]
 |cons x l ih=>simp only[List.cons_append,Qbx,ih]
theorem Qa2t {α:Type}(step:α→St→Int→α){l:List St}{i:Nat}(h:i<l.length)(n:Int)(a:α):Qbx step (l.take (i+1)) n a=(l[i]).vis step n (Qbx step (l.take i) n a):=by
 rw[List.take_succ_eq_append_getElem h,Qa7l];simp[Qbx]
structure VisOk {α:Type}(ob:α→List (Nat×Obj))(step:α→St→Int→α)(ok:α→Prop)(mu:α→Nat)(f:Nat)(caps:List C):Prop where
 nm:∀a b,(ob a).map Prod.fst=(ob b).map Prod.fst
 nd:∀a,((ob a).map Prod.fst).Nodup
 ne:∀a,∀p∈ob a,p.2≠.none
 st:∀a s n,ok a→ok (step a s n)
 ms:∀a s n,mu (step a s n)≤mu a+s.size-(Qj s.body+Qj s.els)
 c:∀(a:α) (s:St) (n:Int) (H:Heap) (K:V→Heap→Prop),ok a→mu a≤2^41→0≤n→(n≤2^41)→s.size≤2^40→(∀p∈ob a,H p.1=p.2)→(∀H',Upd H H' (ob (step a s n))→K (.tup []) H')→Ql prog f ([.ag s.cells,.c (.int .i64 n)]++caps.map .c) H K
mutual
theorem St.vis_ok {α:Type}{step:α→St→Int→α}{ok:α→Prop}(hs:∀a s n,ok a→ok (step a s n)):∀(x:St) (n:Int) (a:α),ok a→ok (x.vis step n a)
 |.mk op name args body els,n,a,h=>by
  simp only[St.vis]
  exact Qw4 hs els _ _ (Qw4 hs body _ _ (hs _ _ _ h))
theorem Qw4 {α:Type}{step:α→St→Int→α}{ok:α→Prop}(hs:∀a s n,ok a→ok (step a s n)):∀(l:List St) (n:Int) (a:α),ok a→ok (Qbx step l n a)
 |[],_,a,h=>by simpa[Qbx]using h
 |x::r,n,a,h=>by
  simp only[Qbx]
  exact Qw4 hs r _ _ (St.vis_ok hs x _ _ h)
end
mutual
theorem St.vis_mu {α:Type}{step:α→St→Int→α}{mu:α→Nat}(hs:∀a s n,mu (step a s n)≤mu a+s.size-(Qj s.body+Qj s.els)):∀(x:St) (n:Int) (a:α),mu (x.vis step n a)≤mu a+x.size
 |.mk op name args body els,n,a=>by
  simp only[St.vis]
  have h1:=hs a (.mk op name args body els) n
  have h2:=Qw3 hs body (n+1) (step a (.mk op name args body els) n)
  have h3:=Qw3 hs els (n+1) (Qbx step body (n+1) (step a (.mk op name args body els) n))
  have h4:=St.size_eq (.mk op name args body els)
  simp only[St.body,St.els,St.args]at h1 h4
  omega
theorem Qw3 {α:Type}{step:α→St→Int→α}{mu:α→Nat}(hs:∀a s n,mu (step a s n)≤mu a+s.size-(Qj s.body+Qj s.els)):∀(l:List St) (n:Int) (a:α),mu (Qbx step l n a)≤mu a+Qj l
 |[],_,a=>by simp[Qbx,Qj]
 |x::r,n,a=>by
  simp only[Qbx,Qj]
  have h1:=St.vis_mu hs x n a
  have h2:=Qw3 hs r n (x.vis step n a)
  omega
end
theorem Qa83 {α:Type}{ob:α→List (Nat×Obj)}{step:α→St→Int→α}{ok:α→Prop}{mu:α→Nat}{f:Nat}{caps:List C}(hv:VisOk ob step ok mu f caps) :
  ∀(n:Nat) (l:List St) (nest:Int) (fl:Bool) (a:α) (H:Heap) (K:V→Heap→Prop),Qj l≤n→Qj l≤2^40→0≤nest→nest+n≤2^41→ok a→mu a+n≤2^41→(∀p∈ob a,H p.1=p.2)→(∀H',Upd H H' (ob (Qbx step l nest a))→K (.tup []) H')→
   Ql prog Qmd [.c (.sl fl 5 (Qk l)),.c (.int .i64 nest),.c (.fn f caps)] H K:=by
 intro n
 induction n using Nat.strongRecOn with
 |_ n ih=>
 intro l nest fl a H K hn hb h0 hm ha hmu hh hK
 refine Qab ?_
 refine Qc Qah Qa43 ?_
 refine Qa ?_
 simp only[go_sem,Qo]
 intro hl
 simp only[LIM]at hl
 have hne:=hv.ne a
 have kn:Kn H H (ob a) []:=.startE (fun p hp=>⟨hh p hp,hne p hp⟩) (hv.nd a)
 refine Qf (Qy (fun m e1 H1=>∃(i:Nat),m=l.length-i∧i≤l.length∧Kn H H1 (ob (Qbx step (l.take i) nest a)) []∧
  e1=[(1,.c (.int .i64 nest)),(2,.c (.fn f caps)),(8,.c (.sl fl 5 (Qk l))),(9,.c (.int .i64 l.length)),(10,.c (.int .i64 i))]) l.length ?_ ?_)
 ·exact⟨0,by omega,by omega,by simpa[Qbx]using kn,rfl⟩
 ·clear kn
  rintro m e1 H1 ⟨i,hm1,hi,kn,rfl⟩
  obtain⟨a1,ha1⟩:∃a1,Qbx step (l.take i) nest a=a1:=⟨_,rfl⟩
  have hok1:ok a1:=by rw[←ha1];exact Qw4 hv.st _ _ _ ha
  have hmu1:=Qw3 hv.ms (l.take i) nest a
  have hsl:=Qg9 l i
  rw[ha1]at kn hmu1
  refine Qa ?_
  simp only[go_sem]
  refine Qe (Qb rfl ?_ ?_)
  ·intro hc
   have hlt:i<l.length:=by simpa using hc
   have hms:=Qak (List.getElem_mem hlt)
   have hst:=Q99 hlt
   have hsl2:=Qg9 l (i+1)
   obtain⟨x,hx⟩:∃x,l[i]=x:=⟨_,rfl⟩
   rw[hx]at hms hst
   have hse:=x.size_eq
   have htk:=Qa2t step hlt nest a
   rw[ha1,hx]at htk
   refine Qd ?_
   try simp only[go_sem]
   refine Qe (Qf ?_)
   refine Qa ?_
   simp only[go_sem,hlt,Qo,Q4 _ _ hlt,hx,x.cells_eq]
   intro x7 hx7 H3 h3
   have kn:=kn.al hx7 h3
   have g7:=kn.l 0 rfl
   simp only[go_sem,Q33,g7]
   intro H4 h4
   have kn:Kn H H4 (ob a1) [(x7,.st [.int .i64 x.op,.str x.name,.sl false 4 (Qm x.args),.sl false 5 (Qk x.body),.sl false 5 (Qk x.els)])]:=kn.stL 0 rfl h4
   clear g7
   have g7:=kn.l 0 rfl
   refine Qa ?_
   simp only[go_sem,g7]
   have hvc:=hv.c a1 x nest
   rw[x.cells_eq]at hvc
   refine hvc _ _ hok1 (by omega) h0 (by omega) (by omega) (fun p hp=>(kn.get p (List.mem_append_left _ hp)).1) fun H5 hu=>?_
   have kn:=kn.callAll hu (hv.nm _ _) (hv.ne _)
   have g7:=kn.l 0 rfl
   have hok2:=hv.st a1 x nest hok1
   have hmu2:=hv.ms a1 x nest
   have hmu3:=Qw3 hv.ms x.body (nest+1) (step a1 x nest)
   simp only[go_sem]
   refine Qa ?_
   simp only[go_sem,g7]
   refine⟨Qr (by omega) (by omega),?_⟩
   refine ih (Qj x.body) (by omega) x.body (nest+1) _ _ _ _ (Nat.le_refl _) (by omega) (by omega) (by omega) hok2 (by omega) (fun p hp=>(kn.get p (List.mem_append_left _ hp)).1) fun H6 hu=>?_
   have kn:=kn.callAll hu (hv.nm _ _) (hv.ne _)
   have g7:=kn.l 0 rfl
   have hok3:=Qw4 hv.st x.body (nest+1) _ hok2
   simp only[go_sem]
   refine Qp ?_
   simp only[go_sem,g7]
   refine⟨Qr (by omega) (by omega),?_⟩
   refine ih (Qj x.els) (by omega) x.els (nest+1) _ _ _ _ (Nat.le_refl _) (by omega) (by omega) (by omega) hok3 (by omega) (fun p hp=>(kn.get p (List.mem_append_left _ hp)).1) fun H7 hu=>?_
   have kn:=Kn.drop (A:=[]) (kn.callAll hu (hv.nm _ _) (hv.ne _))
   simp only[go_sem]
   refine Qp ?_
   simp only[go_sem,X.next]
   refine⟨Qr (by omega) (by omega),l.length-(i+1),by omega,i+1,rfl,by omega,?_,rfl⟩
   rw[htk,x.vis_eq]
   exact kn
  ·intro hc
   have hge:l.length≤i:=by simpa using hc
   rw[List.take_of_length_le hge]at ha1
   refine Qt ?_
   simp only[go_sem,X.next,Qq,Qz,Qgv]
   refine⟨.tup [],.tup _ _ rfl fun j x x' h=>by simp at h,hK _ ?_⟩
   rw[ha1]
   exact kn.fin
end Go.AE.Y

namespace Go.AE.Y
attribute [local go_sem] cond_true cond_false Bool.not_true Bool.not_false
open Go.Proofs.Tryz
variable {H H0:Heap}{K:V→Heap→Prop}{E E' L:List (Nat×Obj)}
def Qafc (p:Int×Int)(s:St)(n:Int):Int×Int:=(p.1+1,if n > p.2 then n else p.2)
mutual
theorem St.ms_fst:∀(x:St) (n:Int) (p:Int×Int),(x.vis Qafc n p).1=p.1+x.cnt
 |.mk op name args body els,n,p=>by
  simp only[St.vis,St.cnt]
  rw[Q4y els,Q4y body,Qafc]
  simp only[]
  omega
theorem Q4y:∀(l:List St) (n:Int) (p:Int×Int),(Qbx Qafc l n p).1=p.1+Qaw l
 |[],_,p=>by simp[Qbx,Qaw]
 |x::r,n,p=>by
  simp only[Qbx,Qaw]
  rw[Q4y r,St.ms_fst x]
  omega
end
def msOb (x2 x3:Nat)(p:Int×Int):List (Nat×Obj):=[(x2,.st [.int .i64 p.1]),(x3,.st [.int .i64 p.2])]
theorem Qbj7 {x2 x3:Nat}(hne:x2≠x3):VisOk (msOb x2 x3) Qafc (fun p=>0≤p.1) (fun p=>p.1.toNat) Qjn [.ptr x2 0,.ptr x3 0]:=by
 refine⟨fun _ _=>rfl,fun _=>by simp[msOb,hne],fun a p hp=>?_,fun a s n h=>?_,fun a s n=>?_,fun a s n H K ha hmu h0 hn hs hh hK=>?_⟩
 ·simp only[msOb,List.mem_cons,List.not_mem_nil,or_false]at hp
  rcases hp with rfl|rfl <;> nofun
 ·show 0≤a.1+1
  omega
 ·show (a.1+1).toNat≤_
  have:=s.size_eq
  omega
 ·have h2:H x2=.st [.int .i64 a.1]:=hh (x2,_) (by simp[msOb])
  have h3:H x3=.st [.int .i64 a.2]:=hh (x3,_) (by simp[msOb])
  refine Qc Qah Qae9 ?_
  have kn:=Kn.start2 h2 (by nofun) h3 (by nofun) hne
  refine Qa ?_
  simp only[go_sem,s.cells_eq]
  refine Qa ?_
  simp only[go_sem,h2]
  refine⟨Qr (by omega) (by omega),fun H1 h1=>?_⟩
  have kn:=kn.stE 0 rfl h1
  have g3:=kn.e 1 rfl
  refine Qp ?_
  simp only[go_sem,g3]
  intro H2 hh2
  have kn:=kn.stE 1 rfl hh2
  simp only[Qq,Qz,Qgv,go_sem]
  exact hK _ ⟨fun p hp=>(kn.get p (List.mem_append_left _ hp)).1,fun m h1 h2=>kn.chg m h1 h2⟩
end Go.AE.Y
namespace Go.AE
open Go.AE.Y
open Go.Proofs.Tryz
variable {H H0:Heap}{K:V→Heap→Prop}{E E' L:List (Nat×Obj)}
theorem Kn.callLs {H':Heap}{L' M:List (Nat×Obj)}(kn:Kn H0 H E (L++M))(hu:Upd H H' L')(hn:L'.map Prod.fst=L.map Prod.fst)(hne:∀p∈L',p.2≠.none):Kn H0 H' E (L'++M):=by
 have hloc:∀m,m∈L'.map Prod.fst→H0 m=.none:=fun m h=>by
  rw[hn]at h
  obtain⟨q,hq,rfl⟩:=List.mem_map.1 h
  exact kn.loc q (List.mem_append_left _ hq)
 refine kn.callg hu rfl (by rw[List.map_append,List.map_append,hn]) (fun p hp=>?_) (fun m hm=>.inr (by rw[List.map_append,←hn];exact List.mem_append_left _ (List.mem_map.2 ⟨m,hm,rfl⟩)))
 rcases List.mem_append.1 hp with h|h
 ·exact⟨(kn.get p (List.mem_append_left _ h)).2,.inr ⟨List.mem_append_left _ h,fun hm=>kn.ext p h (hloc _ hm)⟩⟩
 rcases List.mem_append.1 h with h|h
 ·exact⟨hne p h,.inl h⟩
 ·refine⟨(kn.get p (List.mem_append_right _ (List.mem_append_right _ h))).2,.inr ⟨List.mem_append_right _ (List.mem_append_right _ h),fun hm=>?_⟩⟩
  rw[hn]at hm
  have hd:=kn.dL
  rw[List.map_append,List.nodup_append]at hd
  exact hd.2.2 _ hm _ (List.mem_map.2 ⟨p,h,rfl⟩) rfl
end Go.AE
namespace Go.AE.Y
open Go.Proofs.Tryz
variable {H H0:Heap}{K:V→Heap→Prop}{E E' L:List (Nat×Obj)}
theorem Qbf6 {S:Nat→Bool}(n d:Int):FrzV H S (.tup [.c (.int .i64 n),.c (.int .i64 d)]) (.tup [.c (.int .i64 n),.c (.int .i64 d)]):=by
 refine .tup _ _ rfl fun j x x' h1 h2=>?_
 match j with
 |0=>simp at h1 h2;subst h1;subst h2;exact .c _ _ (Qi rfl)
 |1=>simp at h1 h2;subst h1;subst h2;exact .c _ _ (Qi rfl)
end Go.AE.Y
namespace Go.AE
open Go.AE.Y
open Go.Proofs.Tryz
variable {H H0:Heap}{K:V→Heap→Prop}{E E' L:List (Nat×Obj)}
theorem Kn.lm2 {x:Nat×Obj}(kn:Kn H0 H E L)(h:x∈L):H x.1=x.2:=(kn.get x (List.mem_append_right _ h)).1
end Go.AE
namespace Go.AE.Y
open Go.Proofs.Tryz
variable {H H0:Heap}{K:V→Heap→Prop}{E E' L:List (Nat×Obj)}
theorem Qa95 {l:List Fn}{fl:Bool}(hf:Qs l≤2^40)(hK:∀(d:Int) H',Upd H H' []→K (.tup [.c (.int .i64 (Qfe l)),.c (.int .i64 d)]) H'):Ql prog Qqn [.ag [.sl fl 3 (Qn l)]] H K:=by
 refine Qab ?_
 refine Qc Qah Qatn ?_
 refine Qa ?_
 simp only[go_sem]
 intro x2 hx2 H1 h1
 have kn:=(Kn.start0 H).al hx2 h1
 simp only[go_sem,Qve]
 intro x3 hx3 H2 h2
 have kn:=kn.al hx3 h2
 have hne:x2≠x3:=kn.neL 0 1 rfl rfl (by omega)
 have kn:Kn H H2 [] (msOb x2 x3 (0,0)):=kn
 refine Qu ?_
 refine Qa ?_
 simp only[go_sem,Qw]
 intro hl
 simp only[LIM]at hl
 refine Qe (Qf (Qy (fun m e1 H1=>∃(i:Nat) (d:Int),m=l.length-i∧i≤l.length∧Kn H H1 [] (msOb x2 x3 ((Qfe (l.take i):Int),d))∧
  e1=[(2,.c (.ptr x2 0)),(3,.c (.ptr x3 0)),(7,.c (.sl fl 3 (Qn l))),(8,.c (.int .i64 l.length)),(9,.c (.int .i64 i))]) l.length ?_ ?_))
 ·exact⟨0,0,by omega,by omega,kn,rfl⟩
 ·clear kn
  rintro m e1 H3 ⟨i,d,hm,hi,kn,rfl⟩
  refine Qa ?_
  simp only[go_sem]
  refine Qe (Qb rfl ?_ ?_)
  ·intro hc
   have hlt:i<l.length:=by simpa using hc
   have hm:=Qco (List.getElem_mem hlt)
   have htk:=Qano hlt
   have hpt:=Qap4 hlt
   have htl:=Qr9 l (i+1)
   have hct:=Qa23 (l.take i)
   refine Qd ?_
   try simp only[go_sem]
   refine Qe (Qf ?_)
   refine Qa ?_
   simp only[go_sem,hlt,Qw,Qal _ _ hlt,Fn.cells]
   intro x5 hx5 H4 h4
   have kn:=kn.al hx5 h4
   have g5:=kn.l 2 rfl
   simp only[go_sem,Qvf,g5]
   intro H5 h5
   have kn:Kn H H5 [] (msOb x2 x3 ((Qfe (l.take i):Int),d)++[(x5,_)]):=kn.stL 2 rfl h5
   have g5:=kn.l 2 rfl
   refine Qp ?_
   simp only[go_sem,g5]
   refine Qa83 (Qbj7 hne) (Qj l[i].body) l[i].body 1 _ ((Qfe (l.take i):Int),d) _ _ (Nat.le_refl _) (by omega) (by omega) (by omega) (by show (0:Int)≤_;omega) (by show (Qfe (l.take i):Int).toNat+_≤_;omega) (fun p hp=>kn.lm2 (List.mem_append_left _ hp)) fun H6 hu=>?_
   have kn:=Kn.drop (A:=msOb x2 x3 (Qbx Qafc l[i].body 1 ((Qfe (l.take i):Int),d))) (kn.callLs hu rfl ((Qbj7 hne).ne _))
   have hfs:=Q4y l[i].body 1 ((Qfe (l.take i):Int),d)
   simp only[go_sem]
   refine Qp ?_
   simp only[go_sem,AE.X.next]
   refine⟨Qr (by omega) (by omega),l.length-(i+1),by omega,i+1,(Qbx Qafc l[i].body 1 ((Qfe (l.take i):Int),d)).2,rfl,by omega,?_,rfl⟩
   have e:((Qfe (l.take (i+1)):Int))=(Qbx Qafc l[i].body 1 ((Qfe (l.take i):Int),d)).1:=by rw[hfs,htk];simp
   rw[e]
   exact kn
  ·intro hc
   have hge:l.length≤i:=by simpa using hc
   rw[List.take_of_length_le hge]at kn
   have g2:=kn.l 0 rfl
   have g3:=kn.l 1 rfl
   refine Qt ?_
   simp only[go_sem,AE.X.next]
   refine Qbg ?_
   simp only[go_sem,g2,g3]
   intro H4 h4
   have kn:=kn.stL 0 rfl h4
   have g3:=kn.l 1 rfl
   simp only[go_sem,Qvg,g3]
   intro H5 h5
   have kn:=kn.stL 1 rfl h5
   have g2:=kn.l 0 rfl
   have g3:=kn.l 1 rfl
   refine Qg ?_
   simp only[go_sem,Qq,Qz,Q8y,List.forall_mem_cons,List.not_mem_nil,RS.op,g2,g3]
   exact⟨fun _=>trivial,_,Qbf6 _ _,hK d _ kn.fin⟩
end Go.AE.Y

namespace Go.AE.Y
attribute [local go_sem] cond_true cond_false Bool.not_true Bool.not_false
open Go.Proofs.Tryz
variable {H H0:Heap}{K:V→Heap→Prop}{E E' L:List (Nat×Obj)}
theorem Qajp {fl:Bool}{l:List (List UInt8)}{f:Nat}{caps:List C}{p:List UInt8→Bool}
  (hf:∀(x:List UInt8) (H1:Heap) (K':V→Heap→Prop),x∈l→Kn H H1 [] []→(∀H2,Upd H1 H2 []→K' (.c (.bool (p x))) H2)→Ql prog f ([.c (.str x)]++caps.map .c) H1 K')
  (hK:∀(r:Int) (H':Heap),Upd H H' []→decide (0≤r)=l.any p→K (.c (.int .i64 r)) H') :
  Ql prog Qds [.c (.sl fl 1 (Q1 l)),.c (.fn f caps)] H K:=by
 refine Qab ?_
 refine Qc Qah Qt9 ?_
 refine Qa ?_
 simp only[go_sem]
 refine Qu ?_
 refine Qa ?_
 simp only[go_sem,Qv]
 intro hl
 simp only[LIM]at hl
 refine Qe (Qf (Qy (fun m e1 H1=>∃(i:Nat),m=l.length-i∧i≤l.length∧Kn H H1 [] []∧(∀x∈l.take i,p x=false)∧e1=[(0,.c (.sl fl 1 (Q1 l))),(1,.c (.fn f caps)),(7,.c (.int .i64 l.length)),(8,.c (.int .i64 i))]) l.length ?_ ?_))
 ·exact⟨0,by omega,by omega,Kn.start0 H,by simp,rfl⟩
 ·rintro m e1 H1 ⟨i,hm,hi,kn,hall,rfl⟩
  refine Qa ?_
  simp only[go_sem]
  refine Qe (Qb rfl ?_ ?_)
  ·intro hc
   have hlt:i<l.length:=by simpa using hc
   have hgd:l.getD i []=l[i]:=by simp[List.getD_eq_getElem?_getD,hlt]
   refine Qd ?_
   simp only[go_sem]
   refine Qe (Qf ?_)
   refine Qa ?_
   simp only[go_sem]
   refine Qa ?_
   simp only[go_sem,hlt,Qv,Qbc _ _ hlt,hgd]
   refine hf _ _ _ (List.getElem_mem hlt) kn fun H2 hu=>?_
   have kn:=kn.call0 hu
   refine Qb rfl ?_ ?_
   ·intro hc2
    refine Qa ?_
    simp only[go_sem]
    refine Qg ?_
    simp only[go_sem,X.next,Qq,Qz,Qat4,List.mem_singleton,forall_eq,RS.op]
    refine⟨_,.c _ _ (Qi rfl),hK _ _ kn.fin ?_⟩
    have:l.any p=true:=List.any_eq_true.2 ⟨_,List.getElem_mem hlt,hc2⟩
    rw[this];simp
   ·intro hc2
    refine Qd ?_
    simp only[go_sem]
    refine Qp ?_
    simp only[go_sem,X.next]
    refine⟨Qr (by omega) (by omega),l.length-(i+1),by omega,i+1,rfl,by omega,kn,?_,rfl⟩
    rw[List.take_succ_eq_append_getElem hlt]
    intro x hx
    rcases List.mem_append.1 hx with hx|hx
    ·exact hall x hx
    ·simp only[List.mem_singleton]at hx;subst hx;exact hc2
  ·intro hc
   have hge:l.length≤i:=by simpa using hc
   rw[List.take_of_length_le hge]at hall
   refine Qt ?_
   simp only[go_sem,X.next]
   refine Qa ?_
   simp only[go_sem]
   refine Qg ?_
   simp only[go_sem,Qq,Qz,Qat4,List.mem_singleton,forall_eq,RS.op]
   refine⟨_,.c _ _ (Qi rfl),hK _ _ kn.fin ?_⟩
   have:l.any p=false:=by
    cases hc:l.any p with
    |false=>rfl
    |true=>obtain⟨x,hx,hp⟩:=List.any_eq_true.1 hc;rw[hall x hx]at hp;exact absurd hp (by simp)
   rw[this];rfl
theorem Q45 {fl:Bool}{l:List (List UInt8)}{f:Nat}{caps:List C}{p:List UInt8→Bool}
  (hf:∀(x:List UInt8) (H1:Heap) (K':V→Heap→Prop),x∈l→Kn H H1 [] []→(∀H2,Upd H1 H2 []→K' (.c (.bool (p x))) H2)→Ql prog f ([.c (.str x)]++caps.map .c) H1 K')
  (hK:∀(H':Heap),Upd H H' []→K (.c (.bool (l.any p))) H') :
  Ql prog Qb8 [.c (.sl fl 1 (Q1 l)),.c (.fn f caps)] H K:=by
 refine Qc Qah Qou ?_
 refine Qa ?_
 simp only[go_sem]
 refine Qa ?_
 simp only[go_sem]
 refine Qajp hf fun r H' hu hr=>?_
 simp only[go_sem,Qee]
 refine Qg ?_
 simp only[go_sem,Qq,Qz,Qat4,List.mem_singleton,forall_eq,RS.op]
 rw[hr];exact hK _ hu
theorem Qbk3 {s:List UInt8}(g:GK H)(hK:∀H',Upd H H' []→K (.c (.bool (!Qc6 s))) H'):Ql prog Qd0 [.c (.str s)] H K:=by
 refine Qc Qah Qxr ?_
 refine Qa ?_
 simp only[go_sem]
 refine Qa ?_
 simp only[go_sem]
 refine Qot g fun H1 hu=>?_
 simp only[go_sem,Qgz]
 refine Qg ?_
 simp only[go_sem,Qq,Qz,Qic,List.mem_singleton,forall_eq,RS.op]
 exact hK _ hu
theorem Qaac {l:List Fn}{fl:Bool}(hf:Qs l≤2^40)(g:GK H)(hK:∀H',Upd H H' []→K (.c (.bool (Qmn l))) H'):Ql prog Qf9 [.ag [.sl fl 3 (Qn l)]] H K:=by
 refine Qab ?_
 have g0:=g
 refine Qc Qah Q5p ?_
 have retf:∀(b:Bool) (e:Env) (H':Heap) (L:List (Nat×Obj)),Qmn l=b→Kn H H' [] L→lk 2 e=.c (.bool b)→Qq Qic (unK H K) .ret e H':=by
  intro b e H' L hf kn h4
  simp only[go_sem,Qq,Qz,Qic,List.mem_singleton,forall_eq,RS.op,h4]
  refine⟨_,.c _ _ (Qi rfl),?_⟩
  rw[←hf];exact hK _ kn.fin
 have kn:=Kn.start0 H
 refine Qa ?_
 simp only[go_sem]
 refine Qu ?_
 refine Qa ?_
 simp only[go_sem,Qw]
 intro hl
 simp only[LIM]at hl
 refine Qxl ?_
 simp only[go_sem,Qk9]
 have hw:(decide ((1:Int)≤(l.length:Int))&&decide ((l.length:Int)≤4))=decide (1≤l.length∧l.length≤4):=by rw[Bool.eq_iff_iff];simp;omega
 rw[hw]
 refine Qe (Qb rfl ?_ ?_)
 ·intro hc
  have hc:=Q3h hc
  refine Qa ?_
  simp only[go_sem]
  refine Qg ?_
  simp only[go_sem,AE.X.next]
  exact retf false _ _ _ (by rw[Qmn,hc];rfl) kn (by simp[lk])
 intro hc
 have hlen:=Qua hc
 refine Qd ?_
 try simp only[go_sem]
 refine Qu ?_
 refine Qa ?_
 simp only[go_sem,Qw]
 intro _
 refine Qe (Qf (Qy (fun m e1 H1=>∃(i:Nat),m=l.length-i∧i≤l.length∧Kn H H1 [] []∧((l.take i).all Fn.form)=true∧
  e1=[(1,.c (.pp [.sl fl 3 (Qn l)])),(13,.c (.sl fl 3 (Qn l))),(14,.c (.int .i64 l.length)),(15,.c (.int .i64 i))]) l.length ?_ ?_))
 ·exact⟨0,by omega,by omega,kn,rfl,rfl⟩
 ·clear kn g
  rintro m e1 H2 ⟨i,hm,hi,kn,hall,rfl⟩
  have g:=g0.kn kn
  refine Qa ?_
  simp only[go_sem]
  refine Qe (Qb rfl ?_ ?_)
  ·intro hc
   have hlt:i<l.length:=by simpa using hc
   have hms:=Qco (List.getElem_mem hlt)
   obtain⟨f,hfe⟩:∃f,l[i]=f:=⟨_,rfl⟩
   rw[hfe]at hms
   refine Qd ?_
   try simp only[go_sem]
   refine Qe (Qf ?_)
   refine Qa ?_
   simp only[go_sem,hlt,Qw,Qal _ _ hlt,hfe,Fn.cells]
   intro x4 hx4 H4 h4
   have kn:=kn.al hx4 h4
   have g4:=kn.l 0 rfl
   simp only[go_sem,Qla,g4]
   intro H5 h5
   have kn:=kn.stL 0 rfl h5
   have g:=g0.kn kn
   have g4:=kn.l 0 rfl
   have nx:∀(b:Bool) (H6:Heap) (L:List (Nat×Obj)),b = !f.form→Kn H H6 [] L→Qae prog Qmv (X.inBlock 1 (X.sq prog Qmw (X.next (fun e2 H2=>∃m_1,m_1<m∧∃i,m_1=l.length-i∧i≤l.length∧Kn H H2 [] []∧((l.take i).all Fn.form)=true∧
     e2=[(1,.c (.pp [.sl fl 3 (Qn l)])),(13,.c (.sl fl 3 (Qn l))),(14,.c (.int .i64 l.length)),(15,.c (.int .i64 i))]) (X.inBlock 0 (X.sq prog Qk8 (Qq Qic (unK H K)))))))
     [(1,.c (.pp [.sl fl 3 (Qn l)])),(13,.c (.sl fl 3 (Qn l))),(14,.c (.int .i64 l.length)),(15,.c (.int .i64 i)),(39,.c (.bool b))] H6:=by
    intro b H6 L hb kn
    refine Qb rfl (fun hc2=>?_) (fun hc2=>?_)
    ·rw[hc2]at hb
     refine Qa ?_
     simp only[go_sem]
     refine Qg ?_
     simp only[go_sem,AE.X.next]
     refine retf false _ _ _ ?_ kn (by simp[lk])
     rw[Qmn,Qn5 hlt (by rw[hfe];exact Q3h hb.symm)];simp
    ·rw[hc2]at hb
     refine Qd ?_
     try simp only[go_sem]
     refine Qp ?_
     simp only[go_sem,AE.X.next]
     exact⟨Qr (by omega) (by omega),l.length-(i+1),by omega,i+1,rfl,by omega,Kn.drop (A:=[]) kn,by rw[Qiq hlt,hall,hfe,Qua hb.symm];rfl,rfl⟩
   refine Qa ?_
   simp only[go_sem,g4]
   refine Qot g fun H6 hu=>?_
   have kn:=kn.call0 hu
   have g:=g0.kn kn
   have g4:=kn.l 0 rfl
   cases h1:Qc6 f.name with
   |false=>
    simp only[go_sem,Qcc,Qbi,Qbh,g4,Qv]
    exact nx true _ _ (by rw[Fn.form,h1];simp) kn
   |true=>
    by_cases h2:3<f.params.length
    ·have hd2:decide ((3:Int)<(f.params.length:Int))=true:=decide_eq_true (by omega)
     simp only[go_sem,Qcc,Qbi,Qbh,g4,hd2,Qv]
     try intro _
     exact nx true _ _ (by rw[Fn.form,decide_eq_false (by omega:¬f.params.length≤3)];simp) kn
    ·have hd2:decide ((3:Int)<(f.params.length:Int))=false:=decide_eq_false (by omega)
     simp only[go_sem,Qcc,g4,hd2,Qv]
     try intro _
     refine Q45 (p:=fun s=>!Qc6 s) (fun s H7 K' hs kn2 hK'=>Qbk3 (g.kn kn2) hK') fun H7 hu=>?_
     have kn:=kn.call0 hu
     have g:=g0.kn kn
     have g4:=kn.l 0 rfl
     have ea:(f.params.any fun s=>!Qc6 s) = !f.params.all Qc6:=by rw[List.all_eq_not_any_not];simp
     rw[ea]
     cases h3:f.params.all Qc6 with
     |false=>
      simp only[go_sem,Qbi,Qbh,g4]
      exact nx true _ _ (by rw[Fn.form,h3];rfl) kn
     |true=>
      simp only[go_sem,Qbi,g4]
      refine Qbjc (Qj f.body) f.body 1 _ _ _ (Nat.le_refl _) (by omega) (by omega) (by omega) g fun H8 hu=>?_
      have kn:=kn.call0 hu
      simp only[go_sem,Qbh]
      refine nx _ _ _ ?_ kn
      rw[Fn.form,h1,h3,decide_eq_true (by omega:f.params.length≤3)];rfl
  ·intro hc
   have hge:l.length≤i:=by simpa using hc
   rw[List.take_of_length_le hge]at hall
   refine Qt ?_
   simp only[go_sem,AE.X.next]
   refine Qa ?_
   simp only[go_sem]
   refine Qa95 hf fun d H3 hu=>?_
   have kn:=kn.call0 hu
   simp only[go_sem,Qja,List.getD_cons_zero,List.getD_cons_succ]
   refine Qa ?_
   simp only[go_sem]
   refine Qg ?_
   refine retf _ _ _ _ ?_ kn rfl
   rw[Qmn,hlen,hall,Bool.true_and,Bool.true_and,decide_eq_decide];omega
end Go.AE.Y

namespace Go.AE.Y
attribute [local go_sem] cond_true cond_false Bool.not_true Bool.not_false
open Go.Proofs.Tryz
variable {H H0:Heap}{K:V→Heap→Prop}{E E' L:List (Nat×Obj)}
structure ExVis {α:Type}(ob:α→List (Nat×Obj))(step:α→Ex→α)(ok:α→Prop)(f:Nat)(caps:List C):Prop where
 nm:∀a b,(ob a).map Prod.fst=(ob b).map Prod.fst
 nd:∀a,((ob a).map Prod.fst).Nodup
 ne:∀a,∀p∈ob a,p.2≠.none
 st:∀a s,ok a→ok (step a s)
 c:∀(a:α) (s:Ex) (H:Heap) (K:V→Heap→Prop),ok a→s.size≤2^40→(∀p∈ob a,H p.1=p.2)→(∀H',Upd H H' (ob (step a s))→K (.tup []) H')→Ql prog f ([.ag s.cells]++caps.map .c) H K
theorem Qao9 {α:Type}{step:α→Ex→α}{ok:α→Prop}(hs:∀a s,ok a→ok (step a s)):∀(l:List Ex) (a:α),ok a→ok (l.foldl step a)
 |[],_,h=>h
 |x::r,a,h=>Qao9 hs r _ (hs _ _ h)
theorem Qmb {l:List Ex}{i:Nat}(h:i<l.length):Qaf (l.take (i+1))=Qaf (l.take i)++(l[i]).pre:=by
 rw[List.take_succ_eq_append_getElem h,Qa4n];simp[Qaf]
theorem Qa82 {α:Type}{ob:α→List (Nat×Obj)}{step:α→Ex→α}{ok:α→Prop}{f:Nat}{caps:List C}(hv:ExVis ob step ok f caps) :
  ∀(n:Nat) (x:Ex) (a:α) (H:Heap) (K:V→Heap→Prop),x.size≤n→x.size≤2^40→ok a→(∀p∈ob a,H p.1=p.2)→(∀H',Upd H H' (ob (x.pre.foldl step a))→K (.tup []) H')→
   Ql prog Qh7 [.ag x.cells,.c (.fn f caps)] H K:=by
 intro n
 induction n with
 |zero=>intro x a H K h;have:=x.size_pos;omega
 |succ n ih=>
 intro x a H K hn hb ha hh hK
 have hsz:=x.size_kids
 refine Qab ?_
 refine Qc Qah Qan3 ?_
 refine Qa ?_
 simp only[go_sem,x.cells_eq]
 refine Qa ?_
 simp only[go_sem]
 have kn:Kn H H (ob a) []:=.startE (fun p hp=>⟨hh p hp,hv.ne a p hp⟩) (hv.nd a)
 have hvc:=hv.c a x
 rw[x.cells_eq]at hvc
 refine hvc _ _ ha hb hh fun H1 hu=>?_
 have kn:=kn.callAll hu (hv.nm _ _) (hv.ne _)
 have hok1:=hv.st a x ha
 simp only[go_sem]
 refine Qa ?_
 simp only[go_sem,Qh]
 intro hl
 simp only[LIM]at hl
 refine Qf (Qy (fun m e1 H1=>∃(i:Nat),m=x.kids.length-i∧i≤x.kids.length∧Kn H H1 (ob ((Qaf (x.kids.take i)).foldl step (step a x))) []∧
  e1=[(1,.c (.fn f caps)),(10,.c (.sl false 4 (Qm x.kids))),(11,.c (.int .i64 x.kids.length)),(12,.c (.int .i64 i))]) x.kids.length ?_ ?_)
 ·exact⟨0,by omega,by omega,by simpa[Qaf]using kn,rfl⟩
 ·clear kn
  rintro m e1 H2 ⟨i,hm1,hi,kn,rfl⟩
  obtain⟨a1,ha1⟩:∃a1,(Qaf (x.kids.take i)).foldl step (step a x)=a1:=⟨_,rfl⟩
  have hok2:ok a1:=by rw[←ha1];exact Qao9 hv.st _ _ hok1
  rw[ha1]at kn
  refine Qa ?_
  simp only[go_sem]
  refine Qe (Qb rfl ?_ ?_)
  ·intro hc
   have hlt:i<x.kids.length:=by simpa using hc
   have hms:=Qac (List.getElem_mem hlt)
   obtain⟨y,hy⟩:∃y,x.kids[i]=y:=⟨_,rfl⟩
   have htk:=Qmb hlt
   rw[hy]at hms htk
   refine Qd ?_
   try simp only[go_sem]
   refine Qe (Qf ?_)
   refine Qa ?_
   simp only[go_sem,hlt,Qh,Q6 _ _ hlt,hy,y.cells_eq]
   intro x5 hx5 H3 h3
   have kn:=kn.al hx5 h3
   have g5:=kn.l 0 rfl
   simp only[go_sem,Qrk,g5]
   intro H4 h4
   have kn:=kn.stL 0 rfl h4
   have g5:=kn.l 0 rfl
   refine Qp ?_
   simp only[go_sem,g5]
   have hih:=fun K=>ih y a1 H4 K
   rw[y.cells_eq]at hih
   refine hih _ (by omega) (by omega) hok2 (fun p hp=>(kn.get p (List.mem_append_left _ hp)).1) fun H5 hu=>?_
   have kn:=Kn.drop (A:=[]) (kn.callAll hu (hv.nm _ _) (hv.ne _))
   simp only[go_sem]
   refine Qp ?_
   simp only[go_sem,AE.X.next]
   refine⟨Qr (by omega) (by omega),x.kids.length-(i+1),by omega,i+1,rfl,by omega,?_,rfl⟩
   rw[htk,List.foldl_append,ha1]
   exact kn
  ·intro hc
   have hge:x.kids.length≤i:=by simpa using hc
   rw[List.take_of_length_le hge]at ha1
   refine Qt ?_
   simp only[go_sem,AE.X.next,Qq,Qz,Qgv]
   refine⟨.tup [],.tup _ _ rfl fun j x x' h=>by simp at h,hK _ ?_⟩
   rw[x.pre_eq,List.foldl_cons,ha1]
   exact kn.fin
end Go.AE.Y

namespace Go.AE.Y
theorem Qbft (fns:List Fn)(k:Nat)(op:Int)(name:List UInt8)(args:List Ex)(s:Ck){b:List (List UInt8×Nat)}{r:Vars}(h:s.v=b::r):∃b',(stC fns k op name args s).v=b'::r:=by
 simp only[stC]
 split
 ·exact⟨(name,s.n)::b,by simp[Qe6,h]⟩
 ·split
  ·exact⟨b,h⟩
  ·exact⟨b,h⟩
theorem Qaos {l:List St}{i:Nat}(fns:List Fn)(k:Nat)(h:i<l.length)(s:Ck):Qam fns k (l.take (i+1)) s=(l[i]).ck fns k (Qam fns k (l.take i) s):=by
 rw[List.take_succ_eq_append_getElem h,Qbb6];simp[Qam]
end Go.AE.Y

namespace Go.AE.Y
variable {g:Nat→List Nat}{xs:List Nat}{S S' S1:List Bool}{o o' o1:List Nat}
def cnt (S:List Bool):Nat:=S.count true
end Go.AE.Y

namespace Go.AE.Y
attribute [local instance] Classical.propDecidable
variable {g:Nat→List Nat}{A B:Nat→Prop}{x y z:Nat}
variable {xs:List Nat}{S S' S1:List Bool}{o o' o1:List Nat}
variable {n h:Nat}
end Go.AE.Y

namespace Go.AE.Y
attribute [local instance] Classical.propDecidable
structure Flo where
 n:Nat
 nx:Nat→List Nat
 on:Nat→List Nat
 ins:Nat→List (Option Nat×List Nat)
 ph:Nat→List Nat
 ea:Nat→Nat→List Nat
abbrev RS':=Nat→Prop
variable {F:Flo}
def Flo.fits (F:Flo):Prop:=∀b,b<F.n→∀m∈F.nx b,m<F.n
variable {I J:Nat→RS'}
end Go.AE.Y

namespace Go.AE.Y
attribute [local instance] Classical.propDecidable
mutual
def St.pre:St→List Ex
 |.mk _ _ args body els=>Qaf args++Q4z body++Q4z els
def Q4z:List St→List Ex
 |[]=>[]
 |x::r=>x.pre++Q4z r
end
theorem St.pre_eq (x:St):x.pre=Qaf x.args++Q4z x.body++Q4z x.els:=by cases x;simp only[St.pre,St.args,St.body,St.els]
theorem fst0_zero {a b:Int}:Qcm a b=0↔a=0∧b=0:=by
 unfold Qcm;split <;> omega
theorem Qa3c (a b c:Int):Qcm (Qcm a b) c=Qcm a (Qcm b c):=by
 unfold Qcm
 by_cases h:a=0 <;> simp[h]
theorem Qan0 (a:Int):Qcm a 0=a:=by unfold Qcm;split <;> omega
theorem partsC_zero {fns:List Fn}{k:Nat}{v:Vars}{l:List Ex}{c:Int}:Qa1 fns k v l c=0↔c=0∧∀e∈l,Qe5 fns k v e=0:=by
 induction l generalizing c with
 |nil=>simp[Qa1]
 |cons x r ih=>
  have:Qa1 fns k v (x::r) c=Qa1 fns k v r (Qcm c (Qe5 fns k v x)):=rfl
  rw[this,ih,fst0_zero]
  simp only[List.mem_cons,forall_eq_or_imp,and_assoc]
def calC (fns:List Fn)(k:Nat)(p:Ex):Int:=match Qkv (fns.take k) p.name with
 |none=>4
 |some j=>if ((fns[j]?.map fun f=>f.params.length).getD 0)=p.kids.length then 0 else 5
theorem Qa47 {fns:List Fn}{k:Nat}{v:Vars}{p:Ex}(h:p.op=13):Qe5 fns k v p=calC fns k p:=by
 rw[Qe5,if_neg (by omega),if_pos h];rfl
theorem Qbfu {fns:List Fn}{k:Nat}{op:Int}{name:List UInt8}{args:List Ex}{s:Ck}(h:(stC fns k op name args s).c=0):s.c=0∧∀e∈Qaf args,e.op=13→calC fns k e=0:=by
 have h2:Qa1 fns k s.v (Qaf args) s.c=0:=by
  unfold stC at h
  simp only at h
  split at h
  ·exact (fst0_zero.1 h).1
  ·split at h
   ·exact (fst0_zero.1 h).1
   ·exact h
 obtain⟨h3,h4⟩:=partsC_zero.1 h2
 exact⟨h3,fun e he ho=>by rw[←Qa47 (v:=s.v) ho];exact h4 e he⟩
mutual
theorem St.ck_zero {fns:List Fn}{k:Nat}:∀(x:St) {s:Ck},(x.ck fns k s).c=0→s.c=0∧∀e∈x.pre,e.op=13→calC fns k e=0
 |.mk op name args body els,s,h=>by
  simp only[St.ck]at h
  obtain⟨h1,h2⟩:=Qbr els h
  obtain⟨h3,h4⟩:=Qbr body h1
  obtain⟨h5,h6⟩:=Qbfu h3
  refine⟨h5,fun e he ho=>?_⟩
  simp only[St.pre,List.mem_append]at he
  rcases he with (he|he)|he
  ·exact h6 e he ho
  ·exact h4 e he ho
  ·exact h2 e he ho
theorem Qbr {fns:List Fn}{k:Nat}:∀(l:List St) {s:Ck},(Qam fns k l s).c=0→s.c=0∧∀e∈Q4z l,e.op=13→calC fns k e=0
 |[],s,h=>⟨h,by simp[Q4z]⟩
 |x::r,s,h=>by
  simp only[Qam]at h
  obtain⟨h1,h2⟩:=Qbr r h
  obtain⟨h3,h4⟩:=St.ck_zero x h1
  refine⟨h3,fun e he ho=>?_⟩
  simp only[Q4z,List.mem_append]at he
  rcases he with he|he
  ·exact h4 e he ho
  ·exact h2 e he ho
end
theorem Qat1 {ps:List (List UInt8)}{s:Ck}(h:(Qtz ps s).c=0):s.c=0:=by
 induction ps generalizing s with
 |nil=>exact h
 |cons p r ih=>
  have:Qtz (p::r) s=Qtz r ⟨Qe6 s.v p s.n,Qcm s.c (if Qen s.v p then 2 else 0),s.n+1⟩:=rfl
  rw[this]at h
  exact (fst0_zero.1 (ih h)).1
theorem Qanw {fns:List Fn}:∀(l:List Nat) (c:Int),l.foldl (fun c i=>Qcm c (fnCk fns i).c) c=0↔c=0∧∀i∈l,(fnCk fns i).c=0
 |[],c=>by simp
 |x::r,c=>by
  rw[List.foldl_cons,Qanw r,fst0_zero]
  simp only[List.mem_cons,forall_eq_or_imp,and_assoc]
theorem Qa22 {fns:List Fn}{k:Nat}:ckK fns k=0↔∀i,i<k→(fnCk fns i).c=0:=by
 rw[ckK,Qanw];simp
structure FineP (fns:List Fn):Prop where
 v:Qmn fns=true
 c:∀k (h:k<fns.length),(Qam fns k fns[k].body (Qtz fns[k].params ⟨[[]],0,0⟩)).c=0
 ix:∀k (h:k<fns.length),Qkv fns fns[k].name=some k
theorem fine_iff {fns:List Fn}:Qz3 fns=true↔FineP fns:=by
 rw[Qz3,decide_eq_true_eq,Qaai]
 constructor
 ·intro h
  split at h
  ·rename_i hv
   rw[Qa22]at h
   have h1:∀k (hk:k<fns.length),(if Qkv fns fns[k].name=some k then (0:Int)else 2)=0∧(Qam fns k fns[k].body (Qtz fns[k].params ⟨[[]],if Qkv fns fns[k].name=some k then 0 else 2,0⟩)).c=0:=fun k hk=>by
    have:=h k hk
    rw[fnCk,List.getElem?_eq_getElem hk]at this
    exact⟨Qat1 (Qbr _ this).1,this⟩
   have h2:∀k (hk:k<fns.length),Qkv fns fns[k].name=some k:=fun k hk=>by
    have:=(h1 k hk).1
    split at this
    ·assumption
    ·simp at this
   refine⟨hv,fun k hk=>?_,h2⟩
   have:=(h1 k hk).2
   rw[if_pos (h2 k hk)]at this
   exact this
  ·simp at h
 ·intro h
  rw[if_pos h.v,Qa22]
  intro k hk
  rw[fnCk,List.getElem?_eq_getElem hk]
  simp only[]
  rw[if_pos (h.ix k hk)]
  exact h.c k hk
theorem FineP.len {fns:List Fn}(h:FineP fns):0<fns.length∧fns.length≤4:=by
 have:=h.v
 simp only[Qmn,Bool.and_eq_true,decide_eq_true_eq]at this
 omega
theorem Q2z {l:List Fn}{s:List UInt8}{j:Nat}(h:Qkv l s=some j):∃hj:j<l.length,l[j].name=s∧∀i (hi:i<j),l[i].name≠s:=by
 rw[Qkv,List.findIdx?_eq_some_iff_getElem]at h
 obtain⟨hj,h1,h2⟩:=h
 exact⟨hj,by simpa using h1,fun i hi=>by simpa using h2 i hi⟩
theorem Qbho {l:List Fn}{s:List UInt8}{j:Nat}(hj:j<l.length)(h1:l[j].name=s)(h2:∀i (hi:i<j),l[i].name≠s):Qkv l s=some j:=by
 rw[Qkv,List.findIdx?_eq_some_iff_getElem]
 exact⟨hj,by simpa using h1,fun i hi=>by simpa using h2 i hi⟩
theorem FineP.inj {fns:List Fn}(h:FineP fns){i j:Nat}(hi:i<fns.length)(hj:j<fns.length)(he:fns[i].name=fns[j].name):i=j:=by
 have h1:=h.ix i hi
 rw[he,h.ix j hj]at h1
 exact (Option.some.inj h1).symm
theorem FineP.call {fns:List Fn}(h:FineP fns){k:Nat}(hk:k<fns.length){e:Ex}(he:e∈Q4z fns[k].body)(ho:e.op=13) :
  ∃j,∃hj:j<k,∃hl:j<fns.length,fns[j].name=e.name∧fns[j].params.length=e.kids.length:=by
 have:=(Qbr _ (h.c k hk)).2 e he ho
 unfold calC at this
 cases hx:Qkv (fns.take k) e.name with
 |none=>rw[hx]at this;simp at this
 |some j=>
  rw[hx]at this
  obtain⟨hj,h1,_⟩:=Q2z hx
  rw[List.length_take]at hj
  have hl:j<fns.length:=by omega
  refine⟨j,by omega,hl,by simpa using h1,?_⟩
  simp only[List.getElem?_eq_getElem hl,Option.map_some,Option.getD_some]at this
  split at this
  ·assumption
  ·simp at this
end Go.AE.Y

namespace Go.AE.Y
theorem Qat2 (fns:List Fn)(k:Nat)(v:Vars)(a:Int):∀(l:List Ex) (c:Int),Qa1 fns k v l (Qcm a c)=Qcm a (Qa1 fns k v l c)
 |[],c=>rfl
 |x::r,c=>by
  show Qa1 fns k v r (Qcm (Qcm a c) (Qe5 fns k v x))=Qcm a (Qa1 fns k v r (Qcm c (Qe5 fns k v x)))
  rw[Qa3c,Qat2 fns k v a r]
theorem Qbkq (fns:List Fn)(k:Nat)(op:Int)(name:List UInt8)(args:List Ex)(a:Int)(s:Ck) :
  stC fns k op name args ⟨s.v,Qcm a s.c,s.n⟩=⟨(stC fns k op name args s).v,Qcm a (stC fns k op name args s).c,(stC fns k op name args s).n⟩:=by
 simp only[stC,Qat2]
 split
 ·simp only[Qa3c]
 ·split
  ·simp only[Qa3c]
  ·rfl
mutual
theorem St.ck_sh (fns:List Fn)(k:Nat)(a:Int):∀(x:St) (s:Ck),x.ck fns k ⟨s.v,Qcm a s.c,s.n⟩=⟨(x.ck fns k s).v,Qcm a (x.ck fns k s).c,(x.ck fns k s).n⟩
 |.mk op name args body els,s=>by
  simp only[St.ck,Qbkq]
  have h1:=Qaeb fns k a body ⟨[]::(stC fns k op name args s).v,(stC fns k op name args s).c,(stC fns k op name args s).n⟩
  simp only at h1
  rw[h1]
  have h2:=Qaeb fns k a els ⟨[]::(stC fns k op name args s).v,(Qam fns k body ⟨[]::(stC fns k op name args s).v,(stC fns k op name args s).c,(stC fns k op name args s).n⟩).c,(Qam fns k body ⟨[]::(stC fns k op name args s).v,(stC fns k op name args s).c,(stC fns k op name args s).n⟩).n⟩
  simp only at h2
  rw[h2]
theorem Qaeb (fns:List Fn)(k:Nat)(a:Int):∀(l:List St) (s:Ck),Qam fns k l ⟨s.v,Qcm a s.c,s.n⟩=⟨(Qam fns k l s).v,Qcm a (Qam fns k l s).c,(Qam fns k l s).n⟩
 |[],s=>by simp only[Qam]
 |x::r,s=>by
  simp only[Qam]
  rw[St.ck_sh fns k a x s]
  exact Qaeb fns k a r (x.ck fns k s)
end
theorem Qbaa (a:Int):∀(ps:List (List UInt8)) (s:Ck),Qtz ps ⟨s.v,Qcm a s.c,s.n⟩=⟨(Qtz ps s).v,Qcm a (Qtz ps s).c,(Qtz ps s).n⟩
 |[],s=>rfl
 |p::r,s=>by
  show Qtz r ⟨Qe6 s.v p s.n,Qcm (Qcm a s.c) (if Qen s.v p then 2 else 0),s.n+1⟩=_
  rw[Qa3c]
  exact Qbaa a r ⟨Qe6 s.v p s.n,Qcm s.c (if Qen s.v p then 2 else 0),s.n+1⟩
theorem Qat0 {ps:List (List UInt8)}{j:Nat}(h:j<ps.length)(s:Ck):Qtz (ps.take (j+1)) s =
  ⟨Qe6 (Qtz (ps.take j) s).v ps[j] (Qtz (ps.take j) s).n,Qcm (Qtz (ps.take j) s).c (if Qen (Qtz (ps.take j) s).v ps[j]then 2 else 0),(Qtz (ps.take j) s).n+1⟩:=by
 rw[List.take_succ_eq_append_getElem h]
 simp only[Qtz,List.foldl_append,List.foldl_cons,List.foldl_nil]
 rfl
def ixC (fns:List Fn)(k:Nat)(name:List UInt8):Int:=if Qkv fns name=some k then 0 else 2
theorem Qbhm {fns:List Fn}{k:Nat}(h:k<fns.length)(a:Int) :
  (Qam fns k fns[k].body (Qtz fns[k].params ⟨[[]],Qcm a (ixC fns k fns[k].name),0⟩)).c=Qcm a (fnCk fns k).c:=by
 have h1:=Qbaa a fns[k].params ⟨[[]],ixC fns k fns[k].name,0⟩
 simp only at h1
 rw[h1]
 have h2:=Qaeb fns k a fns[k].body (Qtz fns[k].params ⟨[[]],ixC fns k fns[k].name,0⟩)
 rw[h2,fnCk,List.getElem?_eq_getElem h]
 rfl
theorem Qao1 (fns:List Fn)(k:Nat):ckK fns (k+1)=Qcm (ckK fns k) (fnCk fns k).c:=by
 rw[ckK,ckK,List.range_succ,List.foldl_append];rfl
theorem Qbhn {l:List Fn}{i:Nat}(h:i<l.length):∃j,Qkv l l[i].name=some j∧j≤i:=by
 cases hx:Qkv l l[i].name with
 |none=>
  rw[Qkv,List.findIdx?_eq_none_iff]at hx
  have:=hx l[i] (List.getElem_mem h)
  simp at this
 |some j=>
  refine⟨j,rfl,?_⟩
  obtain⟨hj,h1,h2⟩:=Q2z hx
  rcases Nat.lt_or_ge i j with hlt|hge
  ·exact absurd rfl (h2 i hlt)
  ·exact hge
end Go.AE.Y

namespace Go.AE.Y
def vT:Vars→List (List UInt8×Nat×Nat)
 |[]=>[]
 |b::r=>b.map (fun p=>(p.1,p.2,r.length))++vT r
def row3 (x:List UInt8×Nat×Nat):List C:=[.str x.1,.int .i64 x.2.1,.int .i64 x.2.2]
def Qbd (v:Vars):List (List C):=((vT v).map row3).reverse
theorem Qw7 (v:Vars):(Qbd v).length=(vT v).length:=by simp[Qbd]
theorem Qqa (v:Vars):Qbd ([]::v)=Qbd v:=by simp[Qbd,vT]
theorem Qajo (s:List UInt8)(n:Nat)(b:List (List UInt8×Nat))(r:Vars):Qbd (((s,n)::b)::r)=Qbd (b::r)++[row3 (s,n,r.length)]:=by simp[Qbd,vT]
theorem Qa7o (b:List (List UInt8×Nat))(r:Vars):(Qbd (b::r)).take (Qbd r).length=Qbd r:=by
 simp[Qbd,vT]
theorem Qbge (b:List (List UInt8×Nat))(r:Vars):(Qbd r).length≤(Qbd (b::r)).length:=by simp[Qbd,vT]
theorem Qaow (v:Vars){i:Nat}(h:i<(vT v).length):(Qbd v).getD i []=row3 ((vT v)[(vT v).length-1-i]'(by omega)):=by
 have hi:i<(Qbd v).length:=by rw[Qw7];exact h
 rw[List.getD_eq_getElem?_getD,List.getElem?_eq_getElem hi,Option.getD_some]
 simp[Qbd]
theorem Qbk1:∀(v:Vars),∀x∈vT v,x.2.2<v.length
 |[],x,h=>by simp[vT]at h
 |b::r,x,h=>by
  simp only[vT,List.mem_append,List.mem_map]at h
  rcases h with ⟨p,_,rfl⟩|h
  ·simp
  ·have:=Qbk1 r x h;simp only[List.length_cons];omega
theorem Qbi4 (v:Vars)(s:List UInt8):v.find s=((vT v).find? fun x=>decide (x.1=s)).map fun x=>x.2.1:=by
 induction v with
 |nil=>rfl
 |cons b r ih=>
  have h1:Vars.find (b::r) s=((b.find? fun p=>decide (p.1=s)).map Prod.snd).or (Vars.find r s):=by
   rw[Vars.find,Vars.find,List.flatten_cons,List.find?_append]
   cases b.find? fun p=>decide (p.1=s) <;> rfl
  rw[h1,ih,vT,List.find?_append,List.find?_map]
  have h2:((fun x:List UInt8×Nat×Nat=>decide (x.1=s)) ∘ fun p:List UInt8×Nat=>(p.1,p.2,r.length))=fun p=>decide (p.1=s):=rfl
  rw[h2]
  cases b.find? fun p=>decide (p.1=s) <;> rfl
theorem Qbk2 (b:List (List UInt8×Nat))(r:Vars)(s:List UInt8):Qen (b::r) s=(((vT (b::r)).find? fun x=>decide (x.1=s)).map fun x=>decide (x.2.2=r.length)).getD false:=by
 rw[vT,List.find?_append,List.find?_map]
 have h2:((fun x:List UInt8×Nat×Nat=>decide (x.1=s)) ∘ fun p:List UInt8×Nat=>(p.1,p.2,r.length))=fun p=>decide (p.1=s):=rfl
 rw[h2,Qen,List.headD_cons]
 cases hb:b.find? fun p=>decide (p.1=s)with
 |some p=>
  have h1:=List.find?_some hb
  have h3:=List.mem_of_find?_eq_some hb
  have:(b.any fun p=>decide (p.1=s))=true:=List.any_eq_true.2 ⟨p,h3,h1⟩
  rw[this];simp
 |none=>
  have:(b.any fun p=>decide (p.1=s))=false:=by
   rw[List.find?_eq_none]at hb
   rw[List.any_eq_false]
   exact hb
  rw[this]
  cases hr:(vT r).find? fun x=>decide (x.1=s)with
  |none=>rfl
  |some x=>
   have:=Qbk1 r x (List.mem_of_find?_eq_some hr)
   have hne:¬x.2.2=r.length:=by omega
   simp[hne]
theorem Qbhj {α:Type}{l:List α}{p:α→Bool}{k:Nat}(hk:k<l.length)(h:p l[k]=true)(hn:∀x∈l.take k,¬p x=true):l.find? p=some l[k]:=by
 rw[List.find?_eq_some_iff_getElem]
 refine⟨h,k,hk,rfl,fun j hj=>?_⟩
 have:=hn l[j] (by rw[List.mem_take_iff_getElem];exact⟨j,by omega,rfl⟩)
 simpa using this
end Go.AE.Y
namespace Go.AE.Y
theorem Qa8j (l:List Fn)(k:Nat)(s:List UInt8):Qkv (l.take k) s=match Qkv l s with
  |some j=>if j<k then some j else none
  |none=>none:=by
 cases h:Qkv l s with
 |none=>
  rw[Qkv,List.findIdx?_eq_none_iff]at h⊢
  exact fun f hf=>h f (List.mem_of_mem_take hf)
 |some j=>
  obtain⟨hj,h1,h2⟩:=Q2z h
  by_cases hk:j<k
  ·simp only[hk,if_true]
   exact Qbho (by rw[List.length_take];omega) (by rw[List.getElem_take];exact h1) fun i hi=>by rw[List.getElem_take];exact h2 i hi
  ·simp only[hk,if_false]
   rw[Qkv,List.findIdx?_eq_none_iff]
   intro f hf
   obtain⟨i,hi,rfl⟩:=List.mem_take_iff_getElem.1 hf
   have:=h2 i (by omega)
   simpa using this
theorem Qa3q (fns:List Fn)(k:Nat)(v:Vars)(p:Ex):Qe5 fns k v p =
  if p.op=2 then (if (v.find p.name).isSome then 0 else 3)
  else if p.op=13 then (match Qkv fns p.name with
   |none=>4
   |some j=>if k≤j then 4 else if ((fns[j]?.map fun f=>f.params.length).getD 0)=p.kids.length then 0 else 5)
  else 0:=by
 rw[Qe5]
 split
 ·rfl
 ·split
  ·rw[Qa8j]
   cases h:Qkv fns p.name with
   |none=>rfl
   |some j=>
    simp only[]
    by_cases hk:j<k
    ·have:¬k≤j:=by omega
     simp only[hk,if_true,this,if_false]
    ·have:k≤j:=by omega
     simp only[hk,if_false,this,if_true]
  ·rfl
end Go.AE.Y
namespace Go.AE.Y
theorem Qbkp (fns:List Fn)(k:Nat)(op:Int)(name:List UInt8)(args:List Ex)(s:Ck):s.n≤(stC fns k op name args s).n∧(stC fns k op name args s).n≤s.n+1:=by
 simp only[stC]
 split
 ·exact⟨by simp,by simp⟩
 ·split <;> exact⟨by simp,by simp⟩
mutual
theorem St.ck_n (fns:List Fn)(k:Nat):∀(x:St) (s:Ck),s.n≤(x.ck fns k s).n∧(x.ck fns k s).n≤s.n+x.size
 |.mk op name args body els,s=>by
  simp only[St.ck,St.size]
  have h1:=Qbkp fns k op name args s
  have h2:=Q2t fns k body ⟨[]::(stC fns k op name args s).v,(stC fns k op name args s).c,(stC fns k op name args s).n⟩
  have h3:=Q2t fns k els ⟨[]::(stC fns k op name args s).v,(Qam fns k body ⟨[]::(stC fns k op name args s).v,(stC fns k op name args s).c,(stC fns k op name args s).n⟩).c,(Qam fns k body ⟨[]::(stC fns k op name args s).v,(stC fns k op name args s).c,(stC fns k op name args s).n⟩).n⟩
  simp only at h2 h3
  omega
theorem Q2t (fns:List Fn)(k:Nat):∀(l:List St) (s:Ck),s.n≤(Qam fns k l s).n∧(Qam fns k l s).n≤s.n+Qj l
 |[],s=>by simp[Qam]
 |x::r,s=>by
  simp only[Qam,Qj]
  have h1:=St.ck_n fns k x s
  have h2:=Q2t fns k r (x.ck fns k s)
  omega
end
theorem Qbfs (fns:List Fn)(k:Nat)(op:Int)(name:List UInt8)(args:List Ex)(s:Ck){b:List (List UInt8×Nat)}{r:Vars}(hv:s.v=b::r)(h:(Qbd (b::r)).length≤s.n):(Qbd (stC fns k op name args s).v).length≤(stC fns k op name args s).n:=by
 simp only[stC]
 split
 ·simp only[Qe6,hv,List.headD_cons,List.tail_cons,Qajo,List.length_append,List.length_singleton];omega
 ·split
  ·simp only[hv];exact h
  ·simp only[hv];exact h
end Go.AE.Y
namespace Go.AE.Y
theorem Qbc0 (fns:List Fn){i:Nat}{c:Int}(h:ckK fns i=c)(hc:c≠0):∀n,i≤n→ckK fns n=c:=by
 intro n hn
 induction n with
 |zero=>have:i=0:=by omega
        subst this;exact h
 |succ n ih=>
  rcases Nat.lt_or_ge i (n+1)with hlt|hge
  ·rw[Qao1,ih (by omega),Qcm,if_neg hc]
  ·have:i=n+1:=by omega
   subst this;exact h
end Go.AE.Y

namespace Go.AE.Y
attribute [local instance] Classical.propDecidable
variable {g:Nat→List Nat}{a:Int}{n:Nat}{S:List Bool}{T:List Nat}{b:Nat}
end Go.AE.Y

namespace Go.AE.Y
variable {ns:List Int}{n:Int}{at':Nat}
end Go.AE.Y

namespace Go.AE.Y
variable {ns R:List Int}{k j:Nat}
end Go.AE.Y

namespace Go.AE.Y
attribute [local instance] Classical.propDecidable
def ixI:Option Nat→Int
 |none=>-1
 |some j=>j
end Go.AE.Y

namespace Go.AE.Y
attribute [local go_sem] cond_true cond_false Bool.not_true Bool.not_false
open Go.Proofs.Tryz
variable {H H0:Heap}{K:V→Heap→Prop}{E E' L:List (Nat×Obj)}
theorem Qa8i {l:List Fn}{s:List UInt8}(h:∀f∈l,¬f.name=s):Qkv l s=none:=by
 rw[Qkv,List.findIdx?_eq_none_iff]
 exact fun f hf=>by simpa using h f hf
theorem Qa8h {l:List Fn}{s:List UInt8}{i:Nat}(hi:i<l.length)(h:l[i].name=s)(hn:∀f∈l.take i,¬f.name=s):Qkv l s=some i:=by
 rw[Qkv,List.findIdx?_eq_some_iff_getElem]
 refine⟨hi,by simpa using h,fun j hj=>?_⟩
 have:=hn l[j] (by rw[List.mem_take_iff_getElem];exact⟨j,by omega,rfl⟩)
 simpa using this
theorem Qbgp {f:Fn}{s:List UInt8}(hK:K (.c (.bool (decide (f.name=s)))) H):Ql prog Qf8 [.ag f.cells,.c (.pp [.str s])] H K:=by
 refine Qc Qah Qati ?_
 refine Qa ?_
 simp only[go_sem,Fn.cells]
 refine Qa ?_
 simp only[go_sem]
 refine Qg ?_
 simp only[go_sem,Qq,Qz,Q8u,List.mem_singleton,forall_eq,RS.op]
 exact hK
theorem Qaoy {fl:Bool}{l:List Fn}{s:List UInt8}(hK:K (.c (.int .i64 (ixI (Qkv l s)))) H) :
  Ql prog Qgm [.c (.sl fl 3 (Qn l)),.c (.fn Qf8 [.pp [.str s]])] H K:=by
 refine Qc Qah Q5z ?_
 refine Qa ?_
 simp only[go_sem]
 refine Qu ?_
 refine Qa ?_
 simp only[go_sem,Qw]
 intro hl
 simp only[LIM]at hl
 refine Qe (Qf (Qy (fun m e1 H1=>∃(i:Nat),m=l.length-i∧i≤l.length∧H1=H∧(∀f∈l.take i,¬f.name=s)∧e1=[(0,.c (.sl fl 3 (Qn l))),(1,.c (.fn Qf8 [.pp [.str s]])),(7,.c (.int .i64 l.length)),(8,.c (.int .i64 i))]) l.length ?_ ?_))
 ·exact⟨0,by omega,by omega,rfl,by simp,rfl⟩
 ·rintro m e1 H1 ⟨i,hm,hi,rfl,hall,rfl⟩
  refine Qa ?_
  simp only[go_sem]
  refine Qe (Qb rfl ?_ ?_)
  ·intro hc
   have hlt:i<l.length:=by simpa using hc
   refine Qd ?_
   simp only[go_sem]
   refine Qe (Qf ?_)
   refine Qa ?_
   simp only[go_sem]
   refine Qa ?_
   simp only[go_sem,hlt,Qw,Qal _ _ hlt,Fn.take3,Fn.allOw,Fn.cells_len]
   refine Qbgp ?_
   refine Qb rfl ?_ ?_
   ·intro hc2
    have hn:l[i].name=s:=by simpa using hc2
    refine Qa ?_
    simp only[go_sem]
    refine Qg ?_
    simp only[go_sem,X.next,Qq,Qz,Qat4,List.mem_singleton,forall_eq,RS.op]
    rw[Qa8h hlt hn hall]at hK
    exact hK
   ·intro hc2
    have hn:¬l[i].name=s:=by simpa using hc2
    refine Qd ?_
    simp only[go_sem]
    refine Qp ?_
    simp only[go_sem,X.next]
    refine⟨Qr (by omega) (by omega),l.length-(i+1),by omega,i+1,rfl,by omega,?_,rfl⟩
    rw[List.take_succ_eq_append_getElem hlt]
    intro x hx
    rcases List.mem_append.1 hx with hx|hx
    ·exact hall x hx
    ·simp only[List.mem_singleton]at hx;subst hx;exact hn
  ·intro hc
   have hge:l.length≤i:=by simpa using hc
   rw[List.take_of_length_le hge]at hall
   refine Qt ?_
   simp only[go_sem,X.next]
   refine Qa ?_
   simp only[go_sem]
   refine Qg ?_
   simp only[go_sem,Qq,Qz,Qat4,List.mem_singleton,forall_eq,RS.op]
   rw[Qa8i hall]at hK
   exact hK
theorem Qa3d {fl:Bool}{l:List Fn}{s:List UInt8}(hK:K (.c (.int .i64 (ixI (Qkv l s)))) H):Ql prog Qxd [.ag [.sl fl 3 (Qn l)],.c (.str s)] H K:=by
 refine Qc Qah Qa9o ?_
 refine Qa ?_
 simp only[go_sem]
 refine Qa ?_
 simp only[go_sem]
 refine Qaoy ?_
 simp only[go_sem,Q86]
 refine Qg ?_
 simp only[go_sem,Qq,Qz,Qat4,List.mem_singleton,forall_eq,RS.op]
 exact hK
def scC:List Nat→C
 |[]=>.pnil
 |l::r=>.pp [.mp l,scC r]
structure MapOk (val:Nat→Int)(es:List (C×V))(b:List (List UInt8×Nat)):Prop where
 ky:∀e∈es,∃s,e.1=.str s
 fd:∀s,Qf5 (.str s) es=(b.find? fun p=>decide (p.1=s)).map fun p=>V.c (.int .i64 (val p.2))
def ScOk (val:Nat→Int)(H:Heap):List Nat→Vars→Prop
 |[],[]=>True
 |l::ls,b::v=>(∃n es,H l=.map n es∧MapOk val es b)∧ScOk val H ls v
 |_,_=>False
theorem Qa7p (b:List (List UInt8×Nat))(v:Vars)(s:List UInt8):Vars.find (b::v) s=((b.find? fun p=>decide (p.1=s)).map Prod.snd).or (Vars.find v s):=by
 rw[Vars.find,Vars.find,List.flatten_cons,List.find?_append]
 cases b.find? fun p=>decide (p.1=s) <;> rfl
def valO (val:Nat→Int):Option Nat→Int
 |none=>0
 |some n=>val n
theorem Qa3z {val:Nat→Int}{ls:List Nat}{v:Vars}{s:List UInt8}(h:ScOk val H ls v)(hK:K (.tup [.c (.int .i64 (valO val (v.find s))),.c (.bool (v.find s).isSome)]) H) :
  Ql prog Qfa [.c (scC ls),.c (.str s)] H K:=by
 refine Qc Qah Qafa ?_
 have ret:∀(n:Int) (b:Bool) (e:Env),n=valO val (v.find s)→b=(v.find s).isSome→lk 4 e=.c (.int .i64 n)→lk 5 e=.c (.bool b)→Qq Qmo K .ret e H:=by
  rintro n b e rfl rfl h4 h5
  simp only[go_sem,Qq,Qz,Qmo,List.forall_mem_cons,List.not_mem_nil,RS.op,h4,h5]
  exact⟨fun _=>trivial,hK⟩
 refine Qa ?_
 simp only[go_sem]
 refine Qe (Qf (Qy (fun m e1 H1=>∃(ls':List Nat) (v':Vars),m=ls'.length∧H1=H∧ScOk val H ls' v'∧v.find s=v'.find s∧e1=[(0,.c (scC ls')),(1,.c (.str s))]) ls.length ?_ ?_))
 ·exact⟨ls,v,rfl,rfl,h,rfl,rfl⟩
 ·rintro m e1 H1 ⟨ls',v',hm,rfl,hs,hf,rfl⟩
  refine Qu ?_
  refine Qa ?_
  cases ls' with
  |nil=>
   cases v' with
   |cons b v'=>exact hs.elim
   |nil=>
    simp only[go_sem,scC,C.isPtr,or_true,true_or,true_and]
    refine Qe (Qb rfl (fun h=>by cases h) (fun _=>?_))
    refine Qt ?_
    simp only[go_sem,X.next]
    refine Qa ?_
    simp only[go_sem]
    refine Qg ?_
    exact ret 0 false _ (by rw[hf];rfl) (by rw[hf];rfl) (by simp[lk]) (by simp[lk])
  |cons l r=>
   cases v' with
   |nil=>exact hs.elim
   |cons b v'=>
    obtain⟨⟨n,es,hl,hm2⟩,hs⟩:=hs
    have hfd:=hm2.fd s
    have hky:=eq_true hm2.ky
    rw[Qa7p]at hf
    simp only[go_sem,scC,C.isPtr,or_true,true_or,true_and]
    refine Qe (Qb rfl (fun _=>?_) (fun h=>by cases h))
    refine Qd ?_
    simp only[go_sem]
    refine Qe (Qf ?_)
    refine Qa ?_
    simp only[go_sem,C.isPtr,Qxv,Qoa,Q7,hl,hfd,hky,List.getD_cons_zero,List.getD_cons_succ]
    cases hb:b.find? fun p=>decide (p.1=s)with
    |none=>
     rw[hb]at hf
     simp only[Option.map_none,Option.getD_none,Option.isSome_none,go_sem]
     refine Qa ?_
     simp only[go_sem]
     refine Qb rfl (fun h=>by cases h) (fun _=>?_)
     refine Qd ?_
     try simp only[go_sem]
     refine Qp ?_
     simp only[go_sem,X.next]
     have how:(scC r).isOw=false:=by cases r <;> rfl
     refine⟨by rw[how];rfl,r.length,by rw[List.length_cons]at hm;omega,r,v',rfl,hs,?_,rfl⟩
     rw[hf];rfl
    |some x=>
     rw[hb]at hf
     simp only[Option.map_some,Option.getD_some,Option.isSome_some,go_sem]
     refine Qa ?_
     simp only[go_sem]
     refine Qb rfl (fun _=>?_) (fun h=>by cases h)
     refine Qa ?_
     simp only[go_sem]
     refine Qg ?_
     simp only[go_sem,X.next]
     exact ret (val x.2) true _ (by rw[hf];rfl) (by rw[hf];rfl) (by simp[lk]) (by simp[lk])
theorem Qaeq {c:Nat}{l at':C}{code n:Int}(hH:H c=.st [l,at',.int .i64 code])(hK:∀H',Upd H H' [(c,.st [l,at',.int .i64 (Qcm code n)])]→K (.tup []) H') :
  Ql prog Qaq [.c (.ptr c 0),.c (.int .i64 n)] H K:=by
 refine Qc Qah Q5t ?_
 have kn:=Kn.start1 hH (by nofun)
 refine Qa ?_
 simp only[go_sem,hH]
 refine Qb rfl (fun hc=>?_) (fun hc=>?_)
 ·have h0:code=0:=by simpa using hc
  refine Qp ?_
  simp only[go_sem,hH]
  intro H1 h1
  have kn:=kn.stE 0 rfl h1
  simp only[Qq,Qz,Qgv,go_sem]
  refine hK _ ⟨fun p hp=>?_,fun m h1 h2=>kn.chg m h1 h2⟩
  rw[Qcm,if_pos h0]at hp
  exact (kn.get p (List.mem_append_left _ hp)).1
 ·have h0:¬code=0:=by simpa using hc
  refine Qd ?_
  simp only[Qq,Qz,Qgv,go_sem]
  refine hK _ ⟨fun p hp=>?_,fun m h1 h2=>rfl⟩
  rw[Qcm,if_neg h0]at hp
  simp only[List.mem_singleton]at hp
  rw[hp];exact hH
end Go.AE.Y

namespace Go.AE.Y
attribute [local go_sem] cond_true cond_false Bool.not_true Bool.not_false
open Go.Proofs.Tryz
variable {H H0:Heap}{K:V→Heap→Prop}{E E' L:List (Nat×Obj)}
abbrev ScD:=List (Nat×Nat×List (C×V))
def ScD.ob (sc:ScD):List (Nat×Obj):=sc.map fun x=>(x.1,.map x.2.1 x.2.2)
def ScD.ls (sc:ScD):List Nat:=sc.map Prod.fst
def ScD.ok (val:Nat→Int):ScD→Vars→Prop
 |[],[]=>True
 |x::r,b::v=>MapOk val x.2.2 b∧ScD.ok val r v
 |_,_=>False
theorem ScD.scOk {val:Nat→Int}:∀{sc:ScD} {v:Vars},ScD.ok val sc v→(∀p∈sc.ob,H p.1=p.2)→ScOk val H sc.ls v
 |[],[],_,_=>trivial
 |[],_::_,h,_=>h.elim
 |_::_,[],h,_=>h.elim
 |x::r,b::v,h,hh=>⟨⟨x.2.1,x.2.2,hh (x.1,.map x.2.1 x.2.2) (by simp[ScD.ob]),h.1⟩,ScD.scOk h.2 fun p hp=>hh p (by simp only[ScD.ob,List.map_cons,List.mem_cons]at hp⊢;exact .inr hp)⟩
def Qr6 (c:Nat)(fl:Bool)(l:List Fn)(k:Nat)(sc:ScD)(code:Int):List (Nat×Obj):=(c,.st [.sl fl 3 (Qn l),.int .i64 k,.int .i64 code])::sc.ob
theorem Qbdd {c:Nat}{fl:Bool}{l:List Fn}{k:Nat}{sc:ScD}{v:Vars}{val:Nat→Int}{code:Int}{p:Ex}(hk:k≤l.length)(hn:((c::sc.ls)).Nodup)(hs:ScD.ok val sc v)
  (hh:∀q∈Qr6 c fl l k sc code,H q.1=q.2) (hK:∀H',Upd H H' (Qr6 c fl l k sc (Qcm code (Qe5 l k v p)))→K (.tup []) H') :
  Ql prog Qb3 [.ag p.cells,.c (.pp [scC sc.ls]),.c (.pp [.ptr c 0])] H K:=by
 have hsc:=ScD.scOk hs fun q hq=>hh q (List.mem_cons_of_mem _ hq)
 have hc:H c=.st [.sl fl 3 (Qn l),.int .i64 k,.int .i64 code]:=hh (c,_) (by simp[Qr6])
 have how:(scC sc.ls).isOw=false:=by cases sc.ls <;> rfl
 have keep:∀H',Upd H H' [(c,.st [.sl fl 3 (Qn l),.int .i64 k,.int .i64 (Qcm code (Qe5 l k v p))])]→K (.tup []) H':=by
  intro H' hu
  refine hK _ ⟨fun q hq=>?_,fun m h1 h2=>?_⟩
  ·rcases List.mem_cons.1 hq with rfl|hq
   ·exact hu.1 _ (by simp)
   ·have h1:=hh q (List.mem_cons_of_mem _ hq)
    rw[hu.2 q.1 (by rw[h1];obtain⟨x,_,rfl⟩:=List.mem_map.1 hq;nofun) ?_,h1]
    simp only[List.map_cons,List.map_nil,List.mem_singleton]
    intro e
    have hm:q.1∈sc.ls:=by
     obtain⟨x,hx,rfl⟩:=List.mem_map.1 hq
     exact List.mem_map.2 ⟨x,hx,rfl⟩
    rw[e]at hm
    exact (List.nodup_cons.1 hn).1 hm
  ·refine hu.2 m h1 ?_
   simp only[List.map_cons,List.map_nil,List.mem_singleton]
   intro e
   exact h2 (by rw[e];simp[Qr6])
 have same:Qe5 l k v p=0→K (.tup []) H:=by
  intro h0
  refine keep H ⟨fun q hq=>?_,fun m h1 h2=>rfl⟩
  simp only[List.mem_singleton]at hq
  rw[hq,h0,hc,Qcm]
  by_cases hz:code=0
  ·rw[if_pos hz,hz]
  ·rw[if_neg hz]
 refine Qc Qah Qxt ?_
 refine Qa ?_
 simp only[go_sem,p.cells_eq]
 refine Qa ?_
 simp only[go_sem,how]
 refine Qf ?_
 refine Qa ?_
 simp only[go_sem,how]
 have done:∀(H':Heap) (e:Env),K (.tup []) H'→Qq Qgv K .nrm e H':=by
  intro H' e h
  simp only[Qq,Qz,Qgv,go_sem]
  exact h
 refine Qb rfl ?_ ?_
 ·intro hc2
  have h2:p.op=2:=by simpa using hc2
  have hpc:Qe5 l k v p=if (v.find p.name).isSome then 0 else 3:=by rw[Qe5,if_pos h2]
  refine Qa ?_
  simp only[go_sem,how]
  refine Qa3z hsc ?_
  simp only[go_sem,Qg4,List.getD_cons_zero,List.getD_cons_succ]
  refine Qa ?_
  simp only[go_sem]
  refine Qb rfl ?_ ?_
  ·intro hc3
   have hf:(v.find p.name).isSome=false:=by simpa using hc3
   rw[hf]at hpc
   refine Qp ?_
   simp only[go_sem]
   refine Qaeq hc fun H' hu=>?_
   simp only[go_sem,X.next]
   rw[hpc]at keep
   exact done _ _ (keep _ hu)
  ·intro hc3
   have hf:(v.find p.name).isSome=true:=by simpa using hc3
   rw[hf]at hpc
   refine Qd ?_
   simp only[go_sem,X.next]
   exact done _ _ (same (by rw[hpc];rfl))
 intro hc2
 have h2:¬p.op=2:=by simpa using hc2
 refine Qa ?_
 simp only[go_sem,how]
 refine Qb rfl ?_ ?_
 ·intro hc3
  have h3:p.op=13:=by simpa using hc3
  refine Qbg ?_
  simp only[go_sem,hc,Qw]
  refine⟨⟨by omega,by omega⟩,?_⟩
  have etk:List.take k (Qn l)=Qn (l.take k):=by simp only[Qn,List.map_take]
  rw[etk]
  refine Qa3d ?_
  simp only[go_sem,Qg5]
  refine Qa ?_
  simp only[go_sem]
  cases hx:Qkv (l.take k) p.name with
  |none=>
   have hpc:Qe5 l k v p=4:=by rw[Qe5,if_neg h2,if_pos h3,hx]
   rw[hpc]at keep
   refine Qb rfl (fun _=>?_) (fun h=>by simp[ixI]at h)
   refine Qp ?_
   simp only[go_sem]
   refine Qaeq hc fun H' hu=>?_
   simp only[go_sem,X.next]
   exact done _ _ (keep _ hu)
  |some j=>
   have hj:j<l.length:=by
    rw[Qkv,List.findIdx?_eq_some_iff_getElem]at hx
    obtain⟨h,_⟩:=hx
    rw[List.length_take]at h;omega
   have hpc:Qe5 l k v p=if (l[j]).params.length=p.kids.length then 0 else 5:=by rw[Qe5,if_neg h2,if_pos h3,hx];simp[hj]
   refine Qb rfl (fun h=>by have:=of_decide_eq_true h;simp only[ixI]at this;omega) (fun _=>?_)
   refine Qbg ?_
   simp only[go_sem,hc,ixI,hj,Qw,Qal _ _ hj,Fn.cells,Qv,Qh]
   refine Qb rfl ?_ ?_
   ·intro hc4
    have hne:¬l[j].params.length=p.kids.length:=by
     have h:=Q3h hc4
     rw[decide_eq_false_iff_not]at h;omega
    rw[if_neg hne]at hpc
    rw[hpc]at keep
    refine Qp ?_
    simp only[go_sem]
    refine Qaeq hc fun H' hu=>?_
    simp only[go_sem,X.next]
    exact done _ _ (keep _ hu)
   ·intro hc4
    have he:l[j].params.length=p.kids.length:=by
     have h:=Qua hc4
     rw[decide_eq_true_eq]at h;omega
    rw[if_pos he]at hpc
    refine Qd ?_
    simp only[go_sem,X.next]
    exact done _ _ (same hpc)
 ·intro hc3
  have h3:¬p.op=13:=by simpa using hc3
  refine Qd ?_
  simp only[go_sem,X.next]
  exact done _ _ (same (by rw[Qe5,if_neg h2,if_neg h3]))
end Go.AE.Y

namespace Go.AE.Y
attribute [local go_sem] cond_true cond_false Bool.not_true Bool.not_false
open Go.Proofs.Tryz
variable {H H0:Heap}{K:V→Heap→Prop}{E E' L:List (Nat×Obj)}
theorem Qbk5 {c:Nat}{fl:Bool}{l:List Fn}{k:Nat}{sc:ScD}{v:Vars}{val:Nat→Int}(hk:k≤l.length)(hn:((c::sc.ls)).Nodup)(hs:ScD.ok val sc v) :
  ExVis (Qr6 c fl l k sc) (fun code p=>Qcm code (Qe5 l k v p)) (fun _=>True) Qb3 [.pp [scC sc.ls],.pp [.ptr c 0]]:=by
 refine⟨fun _ _=>rfl,fun a=>?_,fun a p hp=>?_,fun _ _ h=>h,fun a s H K _ _ hh hK=>Qbdd hk hn hs hh hK⟩
 ·have e:(Qr6 c fl l k sc a).map Prod.fst=c::sc.ls:=by simp only[Qr6,ScD.ob,ScD.ls,List.map_cons,List.map_map];rfl
  rw[e];exact hn
 ·rcases List.mem_cons.1 hp with rfl|hp
  ·nofun
  ·obtain⟨x,_,rfl⟩:=List.mem_map.1 hp;nofun
theorem Qbcz {c:Nat}{fl:Bool}{l:List Fn}{k:Nat}{sc:ScD}{v:Vars}{val:Nat→Int}{code:Int}{x:Ex}(hk:k≤l.length)(hn:((c::sc.ls)).Nodup)(hs:ScD.ok val sc v)(hx:x.size≤2^40)
  (hh:∀q∈Qr6 c fl l k sc code,H q.1=q.2) (hK:∀H',Upd H H' (Qr6 c fl l k sc (Qa1 l k v x.pre code))→K (.tup []) H') :
  Ql prog Qgc [.c (.ptr c 0),.ag x.cells,.c (scC sc.ls)] H K:=by
 have how:(scC sc.ls).isOw=false:=by cases sc.ls <;> rfl
 refine Qc Qah Q5s ?_
 refine Qa ?_
 simp only[go_sem,x.cells_eq,how]
 refine Qp ?_
 simp only[go_sem,how]
 have h:=fun K=>Qa82 (Qbk5 (fl:=fl) hk hn hs) x.size x code H K
 rw[x.cells_eq]at h
 refine h _ (Nat.le_refl _) hx trivial hh fun H' hu=>?_
 simp only[Qq,Qz,Qgv,go_sem]
 exact hK _ hu
end Go.AE.Y

namespace Go.AE.Y
theorem Qas6 (s t:List UInt8)(v:V):∀(es:List (C×V)),(∀e∈es,∃s,e.1=.str s)→Qf5 (.str t) (updE (.str s) v es)=if s=t then some v else Qf5 (.str t) es
 |[],_=>by
  simp only[updE,Qf5,Qgs]
  by_cases h:s=t
  ·subst h;simp
  ·have h':¬t=s:=fun e=>h e.symm
   simp[h,h']
 |e::es,hk=>by
  obtain⟨k,hk1⟩:=hk e (by simp)
  obtain⟨e1,e2⟩:=e
  simp only at hk1
  subst hk1
  have ih:=Qas6 s t v es fun x hx=>hk x (List.mem_cons_of_mem _ hx)
  simp only[updE,Qgs]
  by_cases h:s=k
  ·subst h
   simp only[decide_true,if_true,Qf5,Qgs]
   by_cases h2:s=t
   ·subst h2;simp
   ·have h':¬t=s:=fun e=>h2 e.symm
    simp[h2,h']
  ·simp only[h,decide_false,Bool.false_eq_true,if_false,Qf5,Qgs]
   rw[ih]
   by_cases h2:t=k
   ·subst h2
    simp[h]
   ·simp[h2]
theorem Qaxc (s:List UInt8)(v:V):∀(es:List (C×V)),(∀e∈es,∃s,e.1=.str s)→∀e∈updE (.str s) v es,∃s,e.1=.str s
 |[],_,e,he=>by simp only[updE,List.mem_singleton]at he;subst he;exact⟨s,rfl⟩
 |x::es,hk,e,he=>by
  simp only[updE]at he
  split at he
  ·rcases List.mem_cons.1 he with rfl|he
   ·exact⟨s,rfl⟩
   ·exact hk e (List.mem_cons_of_mem _ he)
  ·rcases List.mem_cons.1 he with rfl|he
   ·exact hk _ (by simp)
   ·exact Qaxc s v es (fun y hy=>hk y (List.mem_cons_of_mem _ hy)) e he
theorem MapOk.put {val:Nat→Int}{es:List (C×V)}{b:List (List UInt8×Nat)}(h:MapOk val es b)(s:List UInt8)(n:Nat):MapOk val (updE (.str s) (.c (.int .i64 (val n))) es) ((s,n)::b):=by
 refine⟨Qaxc s _ es h.ky,fun t=>?_⟩
 rw[Qas6 s t _ es h.ky,List.find?_cons]
 by_cases e:s=t
 ·subst e;simp
 ·simp[e,h.fd t]
theorem MapOk.nil (val:Nat→Int):MapOk val [] []:=⟨by simp,fun s=>rfl⟩
end Go.AE.Y

namespace Go.AE.Y
attribute [local go_sem] cond_true cond_false Bool.not_true Bool.not_false
open Go.Proofs.Tryz
variable {H H0:Heap}{K:V→Heap→Prop}{E E' L:List (Nat×Obj)}
theorem Qasi {sc:C}(how:sc.isOw=false)(hK:∀lm n H',H lm=.none→H'=H.set lm (.map n [])→K (.c (.pp [.mp lm,sc])) H'):Ql prog Qdc [.c sc] H K:=by
 refine Qc Qah Qafb ?_
 refine Qa ?_
 simp only[go_sem]
 refine Qa ?_
 simp only[go_sem]
 intro lm hlm H1 h1
 simp only[go_sem,Qnw,how]
 refine Qg ?_
 simp only[go_sem,Qq,Qz,Qic,List.mem_singleton,forall_eq,RS.op,how]
 exact hK lm _ H1 hlm h1
end Go.AE.Y

namespace Go.AE.Y
attribute [local go_sem] cond_true cond_false Bool.not_true Bool.not_false
open Go.Proofs.Tryz
variable {H H0:Heap}{K:V→Heap→Prop}{E E' L:List (Nat×Obj)}
theorem Q55 (fns:List Fn)(k:Nat)(v:Vars)(a b:List Ex)(c:Int):Qa1 fns k v (a++b) c=Qa1 fns k v b (Qa1 fns k v a c):=by rw[Qa1,List.foldl_append];rfl
theorem Qa73 (c:Nat)(fl:Bool)(l:List Fn)(k:Nat)(sc:ScD)(x y:Int):(Qr6 c fl l k sc x).map Prod.fst=(Qr6 c fl l k sc y).map Prod.fst:=rfl
theorem Qaxj (c:Nat)(fl:Bool)(l:List Fn)(k:Nat)(sc:ScD)(x:Int):∀p∈Qr6 c fl l k sc x,p.2≠.none:=by
 intro p hp
 rcases List.mem_cons.1 hp with rfl|hp
 ·nofun
 ·obtain⟨x,_,rfl⟩:=List.mem_map.1 hp;nofun
theorem Qbcy {c x7 N i:Nat}{fl f5:Bool}{l:List Fn}{k:Nat}{sc:ScD}{v:Vars}{val:Nat→Int}{code:Int}{x:St}{sts:List St}{L:List (Nat×Obj)}{Q:X→Env→Heap→Prop}
  (hk:k≤l.length) (hn:((c::sc.ls)).Nodup) (hs:ScD.ok val sc v) (hx:x.size≤2^40)
  (kn:Kn H0 H (Qr6 c fl l k sc code) [(x7,.st [.int .i64 x.op,.str x.name,.sl false 4 (Qm x.args),.sl false 5 (Qk x.body),.sl false 5 (Qk x.els)])])
  (hQ:∀H',Kn H0 H' (Qr6 c fl l k sc (Qa1 l k v (Qaf x.args) code)) [(x7,.st [.int .i64 x.op,.str x.name,.sl false 4 (Qm x.args),.sl false 5 (Qk x.body),.sl false 5 (Qk x.els)])]→
   ∀e',lk 0 e'=.c (.ptr c 0)→lk 2 e'=.c (scC sc.ls)→lk 7 e'=.c (.ptr x7 0)→lk 14 e'=.c (.sl f5 5 (Qk sts))→lk 15 e'=.c (.int .i64 N)→lk 16 e'=.c (.int .i64 i)→Qae prog Qec Q e' H') :
  Qae prog Qjf Q [(0,.c (.ptr c 0)),(2,.c (scC sc.ls)),(7,.c (.ptr x7 0)),(14,.c (.sl f5 5 (Qk sts))),(15,.c (.int .i64 N)),(16,.c (.int .i64 i))] H:=by
 have how:(scC sc.ls).isOw=false:=by cases sc.ls <;> rfl
 have hse:=x.size_eq
 have g7:=kn.l 0 rfl
 refine Qu ?_
 refine Qa ?_
 simp only[go_sem,g7,how,Qh]
 intro hl
 simp only[LIM]at hl
 refine Qe (Qf (Qy (fun m e1 H1=>∃(j:Nat),m=x.args.length-j∧j≤x.args.length∧Kn H0 H1 (Qr6 c fl l k sc (Qa1 l k v (Qaf (x.args.take j)) code)) [(x7,.st [.int .i64 x.op,.str x.name,.sl false 4 (Qm x.args),.sl false 5 (Qk x.body),.sl false 5 (Qk x.els)])]∧
  e1=[(0,.c (.ptr c 0)),(2,.c (scC sc.ls)),(7,.c (.ptr x7 0)),(14,.c (.sl f5 5 (Qk sts))),(15,.c (.int .i64 N)),(16,.c (.int .i64 i)),(21,.c (.sl false 4 (Qm x.args))),(22,.c (.int .i64 x.args.length)),(23,.c (.int .i64 j))]) x.args.length ?_ ?_))
 ·exact⟨0,by omega,by omega,by simpa[Qaf,Qa1]using kn,rfl⟩
 ·clear kn
  rintro m e1 H1 ⟨j,hm,hj,kn,rfl⟩
  refine Qa ?_
  simp only[go_sem,how]
  refine Qe (Qb rfl ?_ ?_)
  ·intro hc
   have hlt:j<x.args.length:=by simpa using hc
   have hms:=Qac (List.getElem_mem hlt)
   obtain⟨y,hy⟩:∃y,x.args[j]=y:=⟨_,rfl⟩
   have htk:=Qmb hlt
   rw[hy]at hms htk
   refine Qd ?_
   try simp only[go_sem]
   refine Qe (Qf ?_)
   refine Qa ?_
   simp only[go_sem,how,hlt,Qh,Q6 _ _ hlt,hy,y.cells_eq]
   intro x9 hx9 H3 h3
   have kn:=kn.al hx9 h3
   have g9:=kn.l 1 rfl
   simp only[go_sem,Qji,g9,how]
   intro H4 h4
   have kn:=kn.stL 1 rfl h4
   have g9:=kn.l 1 rfl
   refine Qp ?_
   simp only[go_sem,g9,how]
   have h:=fun K=>Qbcz (H:=H4) (K:=K) (fl:=fl) (x:=y) (code:=Qa1 l k v (Qaf (x.args.take j)) code) hk hn hs (by omega) (fun p hp=>(kn.get p (List.mem_append_left _ hp)).1)
   rw[y.cells_eq]at h
   refine h _ fun H5 hu=>?_
   have kn:=Kn.drop (A:=[(x7,_)]) (kn.callAll hu (Qa73 _ _ _ _ _ _ _) (Qaxj _ _ _ _ _ _))
   simp only[go_sem,how]
   refine Qp ?_
   simp only[go_sem,AE.X.next,how]
   refine⟨Qr (by omega) (by omega),x.args.length-(j+1),by omega,j+1,rfl,by omega,?_,rfl⟩
   rw[htk,Q55]
   exact kn
  ·intro hc
   have hge:x.args.length≤j:=by simpa using hc
   rw[List.take_of_length_le hge]at kn
   refine Qt ?_
   simp only[go_sem,AE.X.next]
   exact hQ _ kn _ rfl rfl rfl rfl rfl rfl
end Go.AE.Y

namespace Go.AE.Y
attribute [local go_sem] cond_true cond_false Bool.not_true Bool.not_false
open Go.Proofs.Tryz
variable {H H0:Heap}{K:V→Heap→Prop}{E E' L:List (Nat×Obj)}
def Qajm (op:Int)(name:List UInt8)(x:Nat×Nat×List (C×V)):Nat×Nat×List (C×V):=if op=1 then (x.1,x.2.1+1,updE (.str name) (.c (.int .i64 0)) x.2.2)else x
def opC (v:Vars)(op:Int)(name:List UInt8)(c:Int):Int:=if op=1 then Qcm c (if Qen v name then 2 else 0)else if op=2 then Qcm c (if (v.find name).isSome then 0 else 3)else c
theorem Qapc (c:Int):Qcm c 0=c:=by rw[Qcm];split <;> simp_all
theorem Qa3e {val:Nat→Int}{es:List (C×V)}{b:List (List UInt8×Nat)}(h:MapOk val es b)(r:Vars)(s:List UInt8):(Qf5 (.str s) es).isSome=Qen (b::r) s:=by
 rw[h.fd s,Qen,Option.isSome_map,List.headD_cons,Bool.eq_iff_iff,List.find?_isSome,List.any_eq_true]
theorem Qao2 (c:Nat)(fl:Bool)(l:List Fn)(k:Nat)(sc:ScD)(x:Int):(Qr6 c fl l k sc x).map Prod.fst=c::sc.ls:=by simp only[Qr6,ScD.ob,ScD.ls,List.map_cons,List.map_map];rfl
theorem Qbgn (l:List Fn)(k:Nat)(op:Int)(name:List UInt8)(args:List Ex)(s:Ck):(stC l k op name args s).c=opC s.v op name (Qa1 l k s.v (Qaf args) s.c):=by
 simp only[stC,opC]
 split
 ·rfl
 ·split <;> rfl
theorem Qbf9 {es:List (C×V)}{b:List (List UInt8×Nat)}{r:Vars}(h:MapOk (fun _=>0) es b)(l:List Fn)(k:Nat)(op:Int)(name:List UInt8)(args:List Ex)(s:Ck)(hv:s.v=b::r)(l0 n0:Nat) :
  ∃b',(stC l k op name args s).v=b'::r∧MapOk (fun _=>0) (Qajm op name (l0,n0,es)).2.2 b':=by
 simp only[stC,Qajm]
 split
 ·exact⟨(name,s.n)::b,by simp[Qe6,hv],h.put name s.n⟩
 ·split
  ·exact⟨b,hv,h⟩
  ·exact⟨b,hv,h⟩
theorem Qbcd (op:Int)(name:List UInt8)(l0 n0:Nat)(es:List (C×V)):(Qajm op name (l0,n0,es)).2.2.length≤es.length+1:=by
 have hu:∀(es:List (C×V)),(updE (.str name) (.c (.int .i64 0)) es).length≤es.length+1:=by
  intro es
  induction es with
  |nil=>simp[updE]
  |cons e es ih=>
   simp only[updE]
   split
   ·simp
   ·simp only[List.length_cons];omega
 simp only[Qajm]
 split
 ·exact hu es
 ·exact Nat.le_succ _
abbrev stO (x:St):Obj:=.st [.int .i64 x.op,.str x.name,.sl false 4 (Qm x.args),.sl false 5 (Qk x.body),.sl false 5 (Qk x.els)]
theorem Qbgz {c x7 N i l0 n0:Nat}{fl f5:Bool}{l:List Fn}{k:Nat}{es0:List (C×V)}{rest:ScD}{b:List (List UInt8×Nat)}{r:Vars}{code:Int}{x:St}{sts:List St}{Q:X→Env→Heap→Prop}{e:Env}
  (hn:(c::l0::rest.ls).Nodup) (hs:ScD.ok (fun _=>0) ((l0,n0,es0)::rest) (b::r)) (hlen:es0.length+1≤LIM)
  (kn:Kn H0 H (Qr6 c fl l k ((l0,n0,es0)::rest) code) [(x7,stO x)])
  (f0:lk 0 e=.c (.ptr c 0)) (f2:lk 2 e=.c (scC (l0::rest.ls))) (f7:lk 7 e=.c (.ptr x7 0)) (f14:lk 14 e=.c (.sl f5 5 (Qk sts))) (f15:lk 15 e=.c (.int .i64 N)) (f16:lk 16 e=.c (.int .i64 i))
  (hQ:∀H',Kn H0 H' (Qr6 c fl l k (Qajm x.op x.name (l0,n0,es0)::rest) (opC (b::r) x.op x.name code)) [(x7,stO x)]→
   ∀e',lk 0 e'=.c (.ptr c 0)→lk 2 e'=.c (scC (l0::rest.ls))→lk 7 e'=.c (.ptr x7 0)→lk 14 e'=.c (.sl f5 5 (Qk sts))→lk 15 e'=.c (.int .i64 N)→lk 16 e'=.c (.int .i64 i)→Qae prog Qeb Q e' H') :
  Qae prog Qec Q e H:=by
 have how:(scC (l0::rest.ls)).isOw=false:=rfl
 have how2:(scC rest.ls).isOw=false:=by cases rest.ls <;> rfl
 have hm:=hs.1
 have hky:=eq_true hm.ky
 have hv:(Qf5 (.str x.name) es0).getD (.c (.int .i64 0))=.c (.int .i64 0):=by
  rw[hm.fd]
  cases b.find? fun p=>decide (p.1=x.name) <;> rfl
 have hin:=Qa3e hm r x.name
 have g7:=kn.l 0 rfl
 have gc:=kn.e 0 rfl
 have g1:=kn.e 1 rfl
 refine Qu ?_
 refine Qa ?_
 simp only[go_sem,f0,f2,f7,f14,f15,f16,g7,how]
 refine Qe (Qf ?_)
 refine Qa ?_
 simp only[go_sem,how]
 refine Qb rfl ?_ ?_
 ·intro hc
  have h1:x.op=1:=by simpa using hc
  have eT:Qajm x.op x.name (l0,n0,es0)=(l0,n0+1,updE (.str x.name) (.c (.int .i64 0)) es0):=by simp only[Qajm,if_pos h1]
  have eC:opC (b::r) x.op x.name code=Qcm code (if Qen (b::r) x.name then 2 else 0):=by simp only[opC,if_pos h1]
  rw[eT,eC]at hQ
  have tail:∀(H1:Heap) (e1:Env),Kn H0 H1 (Qr6 c fl l k ((l0,n0,es0)::rest) (Qcm code (if Qen (b::r) x.name then 2 else 0))) [(x7,stO x)]→
    lk 0 e1=.c (.ptr c 0)→lk 2 e1=.c (.pp [.mp l0,scC rest.ls])→lk 7 e1=.c (.ptr x7 0)→lk 14 e1=.c (.sl f5 5 (Qk sts))→lk 15 e1=.c (.int .i64 N)→lk 16 e1=.c (.int .i64 i)→
    Qae prog Qlc (X.inBlock 4 (X.sq prog Qeb Q)) e1 H1:=by
   intro H1 e1 kn a0 a2 a7 a14 a15 a16
   have g7:=kn.l 0 rfl
   have g1:=kn.e 1 rfl
   refine Qaeg ?_
   simp only[go_sem,a0,a2,a7,a14,a15,a16,g7,g1,Qoa,hky,how2]
   refine⟨by omega,?_⟩
   intro H2 h2
   have kn:Kn H0 H2 (Qr6 c fl l k ((l0,n0+1,updE (.str x.name) (.c (.int .i64 0)) es0)::rest) (Qcm code (if Qen (b::r) x.name then 2 else 0))) [(x7,stO x)]:=kn.stE 1 rfl h2
   try simp only[go_sem,X.next,how2]
   exact hQ _ kn _ rfl rfl rfl rfl rfl rfl
  refine Qu ?_
  refine Qbg ?_
  simp only[go_sem,scC,g7,g1,Qxv,Qoa,Q7,hky,hv,hin,how2,List.getD_cons_zero,List.getD_cons_succ]
  refine Qe ?_
  refine Qa ?_
  simp only[go_sem,how2]
  refine Qb rfl ?_ ?_
  ·intro hc2
   have hi:Qen (b::r) x.name=true:=by simpa using hc2
   rw[hi]at tail
   refine Qp ?_
   simp only[go_sem,how2]
   refine Qaeq gc fun H2 hu=>?_
   have kn:=kn.callE 0 rfl hu (by nofun)
   simp only[go_sem,X.next,how2]
   exact tail _ _ kn rfl rfl rfl rfl rfl rfl
  ·intro hc2
   have hi:Qen (b::r) x.name=false:=by simpa using hc2
   rw[hi]at tail
   refine Qd ?_
   simp only[go_sem,X.next,how2]
   refine tail _ _ ?_ rfl rfl rfl rfl rfl rfl
   have:Qcm code (if false=true then 2 else 0)=code:=Qapc code
   rw[this];exact kn
 intro hc
 have h1:¬x.op=1:=by simpa using hc
 have eT:Qajm x.op x.name (l0,n0,es0)=(l0,n0,es0):=by simp only[Qajm,if_neg h1]
 rw[eT]at hQ
 refine Qa ?_
 simp only[go_sem,how]
 refine Qb rfl ?_ ?_
 ·intro hc2
  have h2:x.op=2:=by simpa using hc2
  have eC:opC (b::r) x.op x.name code=Qcm code (if (Vars.find (b::r) x.name).isSome then 0 else 3):=by simp only[opC,if_neg h1,if_pos h2]
  rw[eC]at hQ
  refine Qa ?_
  simp only[go_sem,g7,how]
  refine Qa3z (ScD.scOk hs fun q hq=>(kn.get q (List.mem_append_left _ (List.mem_cons_of_mem _ hq))).1) ?_
  simp only[go_sem,Qjj,List.getD_cons_zero,List.getD_cons_succ,how]
  refine Qa ?_
  simp only[go_sem,how]
  refine Qb rfl ?_ ?_
  ·intro hc3
   have hf:(Vars.find (b::r) x.name).isSome=false:=by simpa using hc3
   rw[hf]at hQ
   refine Qp ?_
   simp only[go_sem,how]
   refine Qaeq gc fun H2 hu=>?_
   have kn:=kn.callE 0 rfl hu (by nofun)
   simp only[go_sem,X.next,how]
   exact hQ _ kn _ rfl rfl rfl rfl rfl rfl
  ·intro hc3
   have hf:(Vars.find (b::r) x.name).isSome=true:=by simpa using hc3
   rw[hf]at hQ
   refine Qd ?_
   simp only[go_sem,X.next,how]
   refine hQ _ ?_ _ rfl rfl rfl rfl rfl rfl
   have:Qcm code (if true=true then 0 else 3)=code:=Qapc code
   rw[this];exact kn
 ·intro hc2
  have h2:¬x.op=2:=by simpa using hc2
  have eC:opC (b::r) x.op x.name code=code:=by simp only[opC,if_neg h1,if_neg h2]
  rw[eC]at hQ
  refine Qd ?_
  simp only[go_sem,X.next,how]
  exact hQ _ kn _ rfl rfl rfl rfl rfl rfl
end Go.AE.Y

namespace Go.AE.Y
attribute [local go_sem] cond_true cond_false Bool.not_true Bool.not_false
open Go.Proofs.Tryz
variable {H H0:Heap}{K:V→Heap→Prop}{E E' L:List (Nat×Obj)}
theorem Qbgj {c lm n1 n2:Nat}{es1 es2:List (C×V)}{fl:Bool}{l:List Fn}{k:Nat}{sc:ScD}{x y:Int}{p:Nat×Obj}{H':Heap}
  (kn:Kn H0 H (Qr6 c fl l k sc x) [p,(lm,.map n1 es1)]) (hu:Upd H H' (Qr6 c fl l k ((lm,n2,es2)::sc) y)):Kn H0 H' (Qr6 c fl l k sc y) [p]:=by
 refine Kn.drop (A:=[p]) (B:=[(lm,.map n2 es2)]) ?_
 have hlm:lm∉(Qr6 c fl l k sc x).map Prod.fst:=fun h=>by
  obtain⟨q,hq,e⟩:=List.mem_map.1 h
  exact kn.ext q hq (by rw[e];exact kn.free 1 rfl)
 have hp:p.1≠lm:=kn.neL 0 1 (l:=p.1) (o:=p.2) rfl rfl (by omega)
 have hpE:p.1∉(Qr6 c fl l k sc x).map Prod.fst:=fun h=>by
  obtain⟨q,hq,e⟩:=List.mem_map.1 h
  exact kn.ext q hq (by rw[e];exact kn.loc p (by simp))
 refine kn.callg (E2:=Qr6 c fl l k sc y) (L2:=[p,(lm,.map n2 es2)]) hu (Qa73 _ _ _ _ _ _ _) rfl (fun q hq=>?_) (fun u hu=>?_)
 ·rcases List.mem_append.1 hq with hq|hq
  ·refine⟨Qaxj _ _ _ _ _ _ q hq,.inl ?_⟩
   rcases List.mem_cons.1 hq with rfl|hq
   ·exact List.mem_cons_self
   ·exact List.mem_cons_of_mem _ (List.mem_cons_of_mem _ hq)
  ·rcases List.mem_cons.1 hq with rfl|hq
   ·refine⟨(kn.get q (by simp)).2,.inr ⟨by simp,?_⟩⟩
    rw[Qao2]at hpE⊢
    simp only[ScD.ls,List.map_cons,List.mem_cons,not_or]at hpE⊢
    exact⟨hpE.1,hp,hpE.2⟩
   ·simp only[List.mem_singleton]at hq
    subst hq
    exact⟨by nofun,.inl (List.mem_cons_of_mem _ List.mem_cons_self)⟩
 ·rcases List.mem_cons.1 hu with rfl|hu
  ·exact .inl List.mem_cons_self
  ·rcases List.mem_cons.1 hu with rfl|hu
   ·exact .inr (by simp)
   ·exact .inl (List.mem_cons_of_mem _ (List.mem_map_of_mem (f:=Prod.fst) hu))
theorem Qbgh {c lm n1:Nat}{fl:Bool}{l:List Fn}{k:Nat}{sc:ScD}{x:Int}{p:Nat×Obj}
  (kn:Kn H0 H (Qr6 c fl l k sc x) [p,(lm,.map n1 [])]):∀q∈Qr6 c fl l k ((lm,n1,[])::sc) x,H q.1=q.2:=by
 intro q hq
 rcases List.mem_cons.1 hq with rfl|hq
 ·exact kn.e 0 rfl
 ·rcases List.mem_cons.1 hq with rfl|hq
  ·exact kn.l 1 rfl
  ·exact (kn.get q (List.mem_append_left _ (List.mem_cons_of_mem _ hq))).1
theorem Qbgi {c lm n1:Nat}{fl:Bool}{l:List Fn}{k:Nat}{sc:ScD}{x:Int}{p:Nat×Obj}
  (kn:Kn H0 H (Qr6 c fl l k sc x) [p,(lm,.map n1 [])]):(c::lm::sc.ls).Nodup:=by
 have hlm:lm∉(Qr6 c fl l k sc x).map Prod.fst:=fun h=>by
  obtain⟨q,hq,e⟩:=List.mem_map.1 h
  exact kn.ext q hq (by rw[e];exact kn.free 1 rfl)
 have hd:=kn.dE
 rw[Qao2]at hd hlm
 simp only[List.nodup_cons,List.mem_cons,not_or]at hd hlm⊢
 exact⟨⟨fun e=>hlm.1 e.symm,hd.1⟩,hlm.2,hd.2⟩
theorem Qbfv {x:St}{d:Int}(h:x.form d=true):Q2 x.body (d-1)=true∧Q2 x.els (d-1)=true∧(¬(x.op=5∨x.op=6)→x.body=[]∧x.els=[]):=by
 rw[x.form_eq,Qp9]at h
 simp only[Bool.and_eq_true,Bool.or_eq_true,decide_eq_true_eq]at h
 obtain⟨⟨⟨_,⟨⟨_,h5⟩,h6⟩⟩,hb⟩,he⟩:=h
 refine⟨hb,he,fun hn=>⟨List.eq_nil_of_length_eq_zero ?_,List.eq_nil_of_length_eq_zero ?_⟩⟩
 ·rcases h6 with h6|h6
  ·exact (hn h6).elim
  ·exact h6
 ·rcases h5 with h5|h5
  ·exact (hn (.inl h5)).elim
  ·exact h5
theorem Qa72 {c:Nat}{fl:Bool}{l:List Fn}{k:Nat}(hk:k≤l.length):∀(n:Nat) (sts:List St) (d:Int) (f5:Bool) (l0 n0:Nat) (es0:List (C×V)) (rest:ScD) (b:List (List UInt8×Nat)) (r:Vars) (s:Ck) (H:Heap) (K:V→Heap→Prop),
  Qj sts≤n→Qj sts≤2^38→Q2 sts d=true→(c::l0::rest.ls).Nodup→s.v=b::r→ScD.ok (fun _=>0) ((l0,n0,es0)::rest) (b::r)→es0.length+sts.length≤LIM→
  (∀q∈Qr6 c fl l k ((l0,n0,es0)::rest) s.c,H q.1=q.2)→
  (∀H' n' es' b',(Qam l k sts s).v=b'::r→MapOk (fun _=>0) es' b'→Upd H H' (Qr6 c fl l k ((l0,n',es')::rest) (Qam l k sts s).c)→K (.tup []) H')→
  Ql prog Qbt [.c (.ptr c 0),.c (.sl f5 5 (Qk sts)),.c (scC (l0::rest.ls))] H K:=by
 intro n
 induction n using Nat.strongRecOn with
 |_ n ih=>
 intro sts d f5 l0 n0 es0 rest b r s H K hn hb hf hnd hsv hsc hle hh hK
 have how:(scC (l0::rest.ls)).isOw=false:=rfl
 rw[Qdb,List.all_eq_true]at hf
 refine Qab ?_
 refine Qc Qah Q3d ?_
 refine Qa ?_
 simp only[go_sem,how,Qo]
 intro hl
 simp only[LIM]at hl hle
 have kn:Kn H H (Qr6 c fl l k ((l0,n0,es0)::rest) s.c) []:=.startE (fun p hp=>⟨hh p hp,Qaxj _ _ _ _ _ _ p hp⟩) (by rw[Qao2];exact hnd)
 refine Qf (Qy (fun m e1 H1=>∃(i n':Nat) (es':List (C×V)) (bi:List (List UInt8×Nat)),m=sts.length-i∧i≤sts.length∧(Qam l k (sts.take i) s).v=bi::r∧MapOk (fun _=>0) es' bi∧es'.length≤es0.length+i∧
  Kn H H1 (Qr6 c fl l k ((l0,n',es')::rest) (Qam l k (sts.take i) s).c) []∧
  e1=[(0,.c (.ptr c 0)),(2,.c (scC (l0::rest.ls))),(14,.c (.sl f5 5 (Qk sts))),(15,.c (.int .i64 sts.length)),(16,.c (.int .i64 i))]) sts.length ?_ ?_)
 ·exact⟨0,n0,es0,b,by omega,by omega,by simpa[Qam]using hsv,hsc.1,by omega,by simpa[Qam]using kn,rfl⟩
 ·clear kn
  rintro m e1 H1 ⟨i,n',es',bi,hm,hi,hvi,hmi,hei,kn,rfl⟩
  obtain⟨si,hsi⟩:∃si,Qam l k (sts.take i) s=si:=⟨_,rfl⟩
  rw[hsi]at hvi kn
  refine Qa ?_
  simp only[go_sem,how]
  refine Qe (Qb rfl ?_ ?_)
  ·intro hc
   have hlt:i<sts.length:=by simpa using hc
   have hms:=Qak (List.getElem_mem hlt)
   obtain⟨x,hx⟩:∃x,sts[i]=x:=⟨_,rfl⟩
   have htk:=Qaos l k hlt s
   have hfx:=hf sts[i] (List.getElem_mem hlt)
   rw[hx]at hms hfx
   rw[hsi,hx]at htk
   have hse:=x.size_eq
   have hbl:=Qeg x.body
   have hel:=Qeg x.els
   obtain⟨fb,fe,fn⟩:=Qbfv hfx
   have hsci:ScD.ok (fun _=>0) ((l0,n',es')::rest) (bi::r):=⟨hmi,hsc.2⟩
   refine Qd ?_
   try simp only[go_sem]
   refine Qe (Qf ?_)
   refine Qa ?_
   simp only[go_sem,how,hlt,Qo,Q4 _ _ hlt,hx,x.cells_eq]
   intro x7 hx7 H3 h3
   have kn:=kn.al hx7 h3
   have g7:=kn.l 0 rfl
   simp only[go_sem,Qjh,g7,how]
   intro H4 h4
   have kn:Kn H H4 (Qr6 c fl l k ((l0,n',es')::rest) si.c) [(x7,stO x)]:=kn.stL 0 rfl h4
   clear g7
   refine Qbcy (L:=[]) (sc:=(l0,n',es')::rest) (v:=bi::r) hk hnd hsci (by omega) kn (fun H5 kn e5 f0 f2 f7 f14 f15 f16=>?_)
   clear h4 h3
   refine Qbgz hnd hsci (by simp only[LIM];omega) kn f0 f2 f7 f14 f15 f16 (fun H6 kn e6 f0 f2 f7 f14 f15 f16=>?_)
   obtain⟨b1,hv1,hm1⟩:=Qbf9 hmi l k x.op x.name x.args si hvi l0 n'
   have hl1:=Qbcd x.op x.name l0 n' es'
   have hc1:=Qbgn l k x.op x.name x.args si
   rw[hvi]at hc1
   rw[←hc1]at kn
   obtain⟨es1,n1,ht⟩:∃es1 n1,Qajm x.op x.name (l0,n',es')=(l0,n1,es1):=by
    simp only[Qajm];split <;> exact⟨_,_,rfl⟩
   rw[ht]at kn hm1 hl1
   simp only at hl1
   have hck:=x.ck_eq l k si
   obtain⟨s1,hs1⟩:∃s1,stC l k x.op x.name x.args si=s1:=⟨_,rfl⟩
   rw[hs1]at kn hv1 hck
   rw[hv1]at hck
   have hsc1:ScD.ok (fun _=>0) ((l0,n1,es1)::rest) (b1::r):=⟨hm1,hsc.2⟩
   have g7:=kn.l 0 rfl
   have fin:∀(H':Heap) (e':Env),Kn H H' (Qr6 c fl l k ((l0,n1,es1)::rest) (x.ck l k si).c) []→lk 0 e'=.c (.ptr c 0)→lk 2 e'=.c (scC (l0::rest.ls))→lk 14 e'=.c (.sl f5 5 (Qk sts))→lk 15 e'=.c (.int .i64 sts.length)→lk 16 e'=.c (.int .i64 i)→
     Qae prog Qjg (X.next (fun e2 H2=>∃m',m'<m∧∃(i n':Nat) (es':List (C×V)) (bi:List (List UInt8×Nat)),m'=sts.length-i∧i≤sts.length∧(Qam l k (sts.take i) s).v=bi::r∧MapOk (fun _=>0) es' bi∧es'.length≤es0.length+i∧
      Kn H H2 (Qr6 c fl l k ((l0,n',es')::rest) (Qam l k (sts.take i) s).c) []∧
      e2=[(0,.c (.ptr c 0)),(2,.c (scC (l0::rest.ls))),(14,.c (.sl f5 5 (Qk sts))),(15,.c (.int .i64 sts.length)),(16,.c (.int .i64 i))]) (X.inBlock 0 (Qq Qgv (unK H K)))) e' H':=by
    intro H' e' kn f0 f2 f14 f15 f16
    refine Qp ?_
    simp only[go_sem,f0,f2,f14,f15,f16,how,AE.X.next]
    refine⟨Qr (by omega) (by omega),sts.length-(i+1),by omega,i+1,n1,es1,b1,rfl,by omega,?_,hm1,by omega,?_,rfl⟩
    ·rw[htk,hck]
    ·rw[htk];exact kn
   refine Qa ?_
   simp only[go_sem,f0,f2,f7,f14,f15,f16,g7,how]
   refine Qb rfl ?_ ?_
   ·intro hc2
    refine Qbg ?_
    simp only[go_sem,f0,f2,f7,f14,f15,f16,g7,how]
    refine Qasi how (fun lm nn H7 hlm h7=>?_)
    have kn:=kn.al hlm h7
    have g7:=kn.l 0 rfl
    simp only[go_sem,Qhn,g7,how]
    have hih:=ih (Qj x.body) (by omega) x.body (d-1) false lm nn [] ((l0,n1,es1)::rest) [] (b1::r) ⟨[]::b1::r,s1.c,s1.n⟩ H7
    refine hih _ (Nat.le_refl _) (by omega) fb (Qbgi kn) rfl ⟨.nil _,hsc1⟩ (by simp only[List.length_nil,LIM];omega) (Qbgh kn) (fun H8 n8 es8 b8 _ _ hu=>?_)
    have kn:=Qbgj kn hu
    have g7:=kn.l 0 rfl
    simp only[go_sem,how]
    refine Qaeg ?_
    simp only[go_sem,g7,how]
    refine Qasi how (fun lm nn H9 hlm h9=>?_)
    have kn:=kn.al hlm h9
    have g7:=kn.l 0 rfl
    simp only[go_sem,Qho,g7,how]
    obtain⟨s2,hs2⟩:∃s2,Qam l k x.body ⟨[]::b1::r,s1.c,s1.n⟩=s2:=⟨_,rfl⟩
    rw[hs2]at kn hck
    have hih:=ih (Qj x.els) (by omega) x.els (d-1) false lm nn [] ((l0,n1,es1)::rest) [] (b1::r) ⟨[]::b1::r,s2.c,s2.n⟩ H9
    refine hih _ (Nat.le_refl _) (by omega) fe (Qbgi kn) rfl ⟨.nil _,hsc1⟩ (by simp only[List.length_nil,LIM];omega) (Qbgh kn) (fun H10 n10 es10 b10 _ _ hu=>?_)
    have kn:=Kn.drop (A:=[]) (Qbgj kn hu)
    simp only[go_sem,AE.X.next,how]
    refine fin _ _ ?_ rfl rfl rfl rfl rfl
    rw[hck];exact kn
   ·intro hc2
    have hno:¬(x.op=5∨x.op=6):=by
     intro h
     rcases h with h|h <;> simp[h]at hc2
    obtain⟨eb,ee⟩:=fn hno
    rw[eb,ee]at hck
    simp only[Qam]at hck
    refine Qd ?_
    simp only[go_sem,AE.X.next,how]
    refine fin _ _ ?_ rfl rfl rfl rfl rfl
    rw[hck]
    exact Kn.drop (A:=[]) kn
  ·intro hc
   have hge:sts.length≤i:=by simpa using hc
   rw[List.take_of_length_le hge]at hsi
   refine Qt ?_
   simp only[go_sem,AE.X.next,Qq,Qz,Qgv]
   refine⟨.tup [],.tup _ _ rfl fun j x x' h=>by simp at h,hK _ n' es' bi (by rw[hsi];exact hvi) hmi ?_⟩
   rw[hsi]
   exact kn.fin
end Go.AE.Y

namespace Go.AE.Y
attribute [local go_sem] cond_true cond_false Bool.not_true Bool.not_false
open Go.Proofs.Tryz
variable {H H0:Heap}{K:V→Heap→Prop}{E E' L:List (Nat×Obj)}
abbrev fnO (f:Fn):Obj:=.st [.str f.name,.sl false 1 (Q1 f.params),.sl false 5 (Qk f.body)]
abbrev ckO (fl:Bool)(l:List Fn)(k:Int)(code:Int):Obj:=.st [.sl fl 3 (Qn l),.int .i64 k,.int .i64 code]
theorem Qa39 (s:List UInt8)(v:V):∀(es:List (C×V)),(updE (.str s) v es).length≤es.length+1
 |[]=>by simp[updE]
 |e::es=>by
  have:=Qa39 s v es
  simp only[updE]
  split
  ·simp
  ·simp only[List.length_cons];omega
theorem Qbjf {c x5 N i:Nat}{fl:Bool}{l:List Fn}{a:Int}{e:Env}{Q:X→Env→Heap→Prop}(hi:i<l.length)(hf:l[i].form=true)(hs:Qj l[i].body≤2^38)
  (kn:Kn H0 H [] [(c,ckO fl l i a),(x5,fnO l[i])])
  (f1:lk 1 e=.c (.pp [.sl fl 3 (Qn l)])) (f3:lk 3 e=.c (.ptr c 0)) (f4:lk 4 e=.c (.int .i64 i)) (f5:lk 5 e=.c (.ptr x5 0)) (f18:lk 18 e=.c (.sl fl 3 (Qn l))) (f19:lk 19 e=.c (.int .i64 N)) (f20:lk 20 e=.c (.int .i64 i))
  (hQ:∀H',Kn H0 H' [] [(c,ckO fl l i (Qcm a (fnCk l i).c))]→∀e',lk 1 e'=.c (.pp [.sl fl 3 (Qn l)])→lk 3 e'=.c (.ptr c 0)→lk 18 e'=.c (.sl fl 3 (Qn l))→lk 19 e'=.c (.int .i64 N)→lk 20 e'=.c (.int .i64 i)→Q .nrm e' H') :
  Qae prog Qk2 Q e H:=by
 rw[←Qbhm hi a]at hQ
 obtain⟨f,hfe⟩:∃f,l[i]=f:=⟨_,rfl⟩
 obtain⟨j0,hj0,hji⟩:=Qbhn hi
 rw[hfe]at hf hs hQ kn hj0
 have g5:=kn.l 1 rfl
 have hfp:f.params.length≤3∧Q2 f.body 4=true:=by
  rw[Fn.form]at hf
  simp only[Bool.and_eq_true,decide_eq_true_eq]at hf
  exact⟨hf.1.2,hf.2⟩
 have two:∀(H1:Heap) (e1:Env),Kn H0 H1 [] [(c,ckO fl l i (Qcm a (ixC l i f.name))),(x5,fnO f)]→lk 1 e1=.c (.pp [.sl fl 3 (Qn l)])→lk 3 e1=.c (.ptr c 0)→lk 5 e1=.c (.ptr x5 0)→lk 18 e1=.c (.sl fl 3 (Qn l))→lk 19 e1=.c (.int .i64 N)→lk 20 e1=.c (.int .i64 i)→
   Qae prog Qk1 Q e1 H1:=by
  intro H1 e1 kn f1 f3 f5 f18 f19 f20
  refine Qa ?_
  simp only[go_sem,f1,f3,f5,f18,f19,f20]
  refine Qasi (sc:=.pnil) rfl (fun lm nn H2 hlm h2=>?_)
  have kn:=kn.al hlm h2
  have g5:=kn.l 1 rfl
  simp only[go_sem,Qk7,f1,f3,f5,f18,f19,f20]
  refine Qu ?_
  refine Qa ?_
  simp only[go_sem,g5,Qv]
  intro hl
  simp only[LIM]at hl
  obtain⟨s0,hs0⟩:∃s0:Ck,(⟨[[]],Qcm a (ixC l i f.name),0⟩:Ck)=s0:=⟨_,rfl⟩
  have hs0v:s0.v=[[]]:=by rw[←hs0]
  have hs0c:Qcm a (ixC l i f.name)=s0.c:=by rw[←hs0]
  rw[hs0]at hQ
  rw[hs0c]at kn
  refine Qe (Qf (Qy (fun m e2 H3=>∃(j n':Nat) (es':List (C×V)) (bj:List (List UInt8×Nat)),m=f.params.length-j∧j≤f.params.length∧(Qtz (f.params.take j) s0).v=[bj]∧MapOk (fun _=>0) es' bj∧es'.length≤j∧
   Kn H0 H3 [] [(c,ckO fl l i (Qtz (f.params.take j) s0).c),(x5,fnO f),(lm,.map n' es')]∧
   e2=[(1,.c (.pp [.sl fl 3 (Qn l)])),(3,.c (.ptr c 0)),(5,.c (.ptr x5 0)),(6,.c (.pp [.mp lm,.pnil])),(18,.c (.sl fl 3 (Qn l))),(19,.c (.int .i64 N)),(20,.c (.int .i64 i)),(39,.c (.sl false 1 (Q1 f.params))),(40,.c (.int .i64 f.params.length)),(41,.c (.int .i64 j))]) f.params.length ?_ ?_))
  ·exact⟨0,nn,[],[],by omega,by omega,hs0v,.nil _,by simp,kn,rfl⟩
  ·clear kn
   rintro m e2 H3 ⟨j,n',es',bj,hm,hj,hvj,hmj,hej,kn,rfl⟩
   obtain⟨sj,hsj⟩:∃sj,Qtz (f.params.take j) s0=sj:=⟨_,rfl⟩
   rw[hsj]at hvj kn
   refine Qa ?_
   simp only[go_sem]
   refine Qe (Qb rfl ?_ ?_)
   ·intro hc
    have hlt:j<f.params.length:=by simpa using hc
    obtain⟨p,hp⟩:∃p,f.params[j]=p:=⟨_,rfl⟩
    have hpd:f.params.getD j []=p:=by simp[List.getD_eq_getElem?_getD,hlt,hp]
    have htk:=Qat0 hlt s0
    rw[hsj,hp]at htk
    have hky:=eq_true hmj.ky
    have hv:(Qf5 (.str p) es').getD (.c (.int .i64 0))=.c (.int .i64 0):=by
     rw[hmj.fd]
     cases bj.find? fun q=>decide (q.1=p) <;> rfl
    have hin:=Qa3e hmj [] p
    have gl:=kn.l 2 rfl
    have gc:=kn.l 0 rfl
    refine Qd ?_
    try simp only[go_sem]
    refine Qe (Qf ?_)
    refine Qa ?_
    simp only[go_sem,hlt,Qv,Qbc _ _ hlt,hpd]
    have tail:∀(H4:Heap) (e3:Env),Kn H0 H4 [] [(c,ckO fl l i (Qcm sj.c (if Qen [bj] p then 2 else 0))),(x5,fnO f),(lm,.map n' es')]→
      lk 1 e3=.c (.pp [.sl fl 3 (Qn l)])→lk 3 e3=.c (.ptr c 0)→lk 5 e3=.c (.ptr x5 0)→lk 6 e3=.c (.pp [.mp lm,.pnil])→lk 8 e3=.c (.str p)→lk 18 e3=.c (.sl fl 3 (Qn l))→lk 19 e3=.c (.int .i64 N)→lk 20 e3=.c (.int .i64 i)→
      lk 39 e3=.c (.sl false 1 (Q1 f.params))→lk 40 e3=.c (.int .i64 f.params.length)→lk 41 e3=.c (.int .i64 j)→
      Qae prog Qmr (X.inBlock 3 (X.sq prog Qkz (X.next (fun e2 H3=>∃m',m'<m∧∃(j n':Nat) (es':List (C×V)) (bj:List (List UInt8×Nat)),m'=f.params.length-j∧j≤f.params.length∧(Qtz (f.params.take j) s0).v=[bj]∧MapOk (fun _=>0) es' bj∧es'.length≤j∧
       Kn H0 H3 [] [(c,ckO fl l i (Qtz (f.params.take j) s0).c),(x5,fnO f),(lm,.map n' es')]∧
       e2=[(1,.c (.pp [.sl fl 3 (Qn l)])),(3,.c (.ptr c 0)),(5,.c (.ptr x5 0)),(6,.c (.pp [.mp lm,.pnil])),(18,.c (.sl fl 3 (Qn l))),(19,.c (.int .i64 N)),(20,.c (.int .i64 i)),(39,.c (.sl false 1 (Q1 f.params))),(40,.c (.int .i64 f.params.length)),(41,.c (.int .i64 j))]) (X.inBlock 2 (X.sq prog Qk0 Q))))) e3 H4:=by
     intro H4 e3 kn f1 f3 f5 f6 f8 f18 f19 f20 f39 f40 f41
     have gl:=kn.l 2 rfl
     refine Qp ?_
     simp only[go_sem,f1,f3,f5,f6,f8,f18,f19,f20,f39,f40,f41,gl,Qoa,hky]
     refine⟨by simp only[LIM];omega,?_⟩
     intro H5 h5
     have kn:=kn.stL 2 rfl h5
     try simp only[go_sem,AE.X.next]
     refine Qp ?_
     simp only[go_sem,AE.X.next]
     have hl2:=Qa39 p (.c (.int .i64 0)) es'
     refine⟨Qr (by omega) (by omega),f.params.length-(j+1),by omega,j+1,n'+1,updE (.str p) (.c (.int .i64 0)) es',(p,sj.n)::bj,rfl,by omega,?_,hmj.put p sj.n,by omega,?_,rfl⟩
     ·rw[htk];simp[Qe6,hvj]
     ·rw[htk,hvj];exact kn
    refine Qu ?_
    refine Qa ?_
    simp only[go_sem,gl,Qxv,Qoa,Q7,hky,hv,hin,List.getD_cons_zero,List.getD_cons_succ]
    refine Qe ?_
    refine Qa ?_
    simp only[go_sem]
    refine Qb rfl ?_ ?_
    ·intro hc2
     have hi2:Qen [bj] p=true:=by simpa using hc2
     rw[hi2]at tail
     refine Qp ?_
     simp only[go_sem]
     refine Qaeq gc fun H6 hu=>?_
     have kn:=kn.callL 0 rfl hu (by nofun)
     simp only[go_sem,AE.X.next]
     exact tail _ _ kn rfl rfl rfl rfl rfl rfl rfl rfl rfl rfl rfl
    ·intro hc2
     have hi2:Qen [bj] p=false:=by simpa using hc2
     rw[hi2]at tail
     refine Qd ?_
     simp only[go_sem,AE.X.next]
     refine tail _ _ ?_ rfl rfl rfl rfl rfl rfl rfl rfl rfl rfl rfl
     have:Qcm sj.c (if false=true then 2 else 0)=sj.c:=Qapc sj.c
     rw[this];exact kn
   ·intro hc
    have hge:f.params.length≤j:=by simpa using hc
    rw[List.take_of_length_le hge]at hsj
    rw[hsj]at hQ
    have g5:=kn.l 1 rfl
    refine Qt ?_
    simp only[go_sem,AE.X.next]
    refine Qp ?_
    simp only[go_sem,g5]
    have knp:Kn H0 H3 [] [(c,ckO fl l i sj.c),(lm,.map n' es'),(x5,fnO f)]:=kn.perm (.cons _ (.swap _ _ _))
    have hb:=Qa72 (c:=c) (fl:=fl) (l:=l) (k:=i) (by omega) (Qj f.body) f.body 4 false lm n' es' [] bj [] sj H3
    refine hb _ (Nat.le_refl _) hs hfp.2 ?_ hvj ⟨hmj,trivial⟩ ?_ ?_ (fun H6 n6 es6 b6 hv6 hm6 hu=>?_)
    ·have:=knp.dL
     simp only[List.map_cons,List.map_nil,List.nodup_cons,List.mem_cons,List.not_mem_nil,or_false,not_or]at this⊢
     exact⟨⟨this.1.1,by simp[ScD.ls]⟩,by simp[ScD.ls],by simp[ScD.ls]⟩
    ·have:=Qeg f.body
     simp only[LIM];omega
    ·intro q hq
     rcases List.mem_cons.1 hq with rfl|hq
     ·exact knp.l 0 rfl
     ·rcases List.mem_cons.1 hq with rfl|hq
      ·exact knp.l 1 rfl
      ·exact absurd hq (by simp[ScD.ob])
    ·have kn:=Kn.drop (A:=[(c,ckO fl l i (Qam l i f.body sj).c)]) (Kn.callLs (L:=[(c,ckO fl l i sj.c),(lm,.map n' es')]) (L':=[(c,ckO fl l i (Qam l i f.body sj).c),(lm,.map n6 es6)]) (M:=[(x5,fnO f)]) knp hu rfl (by
      intro p hp
      simp only[List.mem_cons,List.not_mem_nil,or_false]at hp
      rcases hp with rfl|rfl <;> nofun))
     simp only[go_sem]
     exact hQ _ kn _ rfl rfl rfl rfl rfl
 have hlt:decide (ixI (Qkv l f.name)<(i:Int)) = !decide (Qkv l f.name=some i):=by
  rw[hj0]
  simp only[ixI,Option.some.injEq]
  by_cases h:j0=i
  ·simp[h]
  ·have:(j0:Int)<i:=by omega
   simp[h,this]
 refine Qu ?_
 refine Qa ?_
 simp only[go_sem,f1,f3,f4,f5,f18,f19,f20,g5]
 refine Qa3d ?_
 simp only[go_sem,Qk6,f1,f3,f4,f5,f18,f19,f20,hlt]
 refine Qe (Qb rfl ?_ ?_)
 ·intro hc
  have hne:¬Qkv l f.name=some i:=by simpa using hc
  rw[ixC,if_neg hne]at two
  refine Qp ?_
  simp only[go_sem]
  refine Qaeq (kn.l 0 rfl) fun H6 hu=>?_
  have kn:=kn.callL 0 rfl hu (by nofun)
  simp only[go_sem,AE.X.next]
  exact two _ _ kn rfl rfl rfl rfl rfl rfl
 ·intro hc
  have heq:Qkv l f.name=some i:=by simpa using hc
  rw[ixC,if_pos heq,Qapc]at two
  refine Qd ?_
  simp only[go_sem,AE.X.next]
  exact two _ _ kn rfl rfl rfl rfl rfl rfl
theorem Qa8z {l:List Fn}{fl:Bool}(hf:Qs l≤2^38)(g:GK H)(hK:∀H',Upd H H' []→K (.c (.int .i64 (Qaai l))) H'):Ql prog Qf6 [.ag [.sl fl 3 (Qn l)]] H K:=by
 refine Qab ?_
 refine Qc Qah Q5o ?_
 have retf:∀(b:Int) (e:Env) (H':Heap) (L:List (Nat×Obj)),Qaai l=b→Kn H H' [] L→lk 2 e=.c (.int .i64 b)→Qq Qic (unK H K) .ret e H':=by
  intro b e H' L hf kn h4
  simp only[go_sem,Qq,Qz,Qic,List.mem_singleton,forall_eq,RS.op,h4]
  refine⟨_,.c _ _ (Qi rfl),?_⟩
  rw[←hf];exact hK _ kn.fin
 have kn:=Kn.start0 H
 refine Qa ?_
 simp only[go_sem]
 refine Qu ?_
 refine Qa ?_
 simp only[go_sem]
 refine Qaac (by omega) g fun H1 hu=>?_
 have kn:=kn.call0 hu
 simp only[go_sem,Qk3]
 refine Qe (Qb rfl ?_ ?_)
 ·intro hc
  have hb:Qmn l=false:=by simpa using hc
  refine Qa ?_
  simp only[go_sem]
  refine Qg ?_
  simp only[go_sem,AE.X.next]
  exact retf 1 _ _ _ (by rw[Qaai,hb];rfl) kn rfl
 intro hc
 have hb:Qmn l=true:=by simpa using hc
 have hpc:Qaai l=ckK l l.length:=by rw[Qaai,if_pos hb]
 have hv:=hb
 simp only[Qmn,Bool.and_eq_true,decide_eq_true_eq,List.all_eq_true]at hv
 refine Qd ?_
 try simp only[go_sem]
 refine Qa ?_
 simp only[go_sem]
 intro c hc0 H2 h2
 have kn:=kn.al hc0 h2
 simp only[go_sem,Qk4]
 refine Qu ?_
 refine Qa ?_
 simp only[go_sem,Qw]
 intro hl
 simp only[LIM]at hl
 refine Qe (Qf (Qy (fun m e1 H1=>∃(i:Nat) (at_:Int),m=l.length-i∧i≤l.length∧Kn H H1 [] [(c,ckO fl l at_ (ckK l i))]∧
  e1=[(1,.c (.pp [.sl fl 3 (Qn l)])),(3,.c (.ptr c 0)),(18,.c (.sl fl 3 (Qn l))),(19,.c (.int .i64 l.length)),(20,.c (.int .i64 i))]) l.length ?_ ?_))
 ·exact⟨0,0,by omega,by omega,kn,rfl⟩
 ·clear kn
  rintro m e1 H3 ⟨i,at_,hm,hi,kn,rfl⟩
  refine Qa ?_
  simp only[go_sem]
  refine Qe (Qb rfl ?_ ?_)
  ·intro hc
   have hlt:i<l.length:=by simpa using hc
   have hms:=Qco (List.getElem_mem hlt)
   have hfm:=hv.1.2 _ (List.getElem_mem hlt)
   have hsu:=Qao1 l i
   refine Qd ?_
   try simp only[go_sem]
   refine Qe (Qf ?_)
   refine Qa ?_
   simp only[go_sem,hlt,Qw,Qal _ _ hlt,Fn.cells]
   intro x5 hx5 H4 h4
   have kn:=kn.al hx5 h4
   have g5:=kn.l 1 rfl
   simp only[go_sem,Qk5,g5]
   intro H5 h5
   have kn:=kn.stL 1 rfl h5
   have gc:=kn.l 0 rfl
   refine Qa ?_
   simp only[go_sem,gc]
   intro H6 h6
   have kn:Kn H H6 [] [(c,ckO fl l i (ckK l i)),(x5,fnO l[i])]:=kn.stL 0 rfl h6
   refine Qbjf hlt hfm (by omega) kn rfl rfl rfl rfl rfl rfl rfl (fun H7 kn e7 f1 f3 f18 f19 f20=>?_)
   simp only[go_sem,AE.X.next]
   refine Qp ?_
   simp only[go_sem,AE.X.next,f1,f3,f18,f19,f20]
   refine⟨Qr (by omega) (by omega),l.length-(i+1),by omega,i+1,i,rfl,by omega,?_,rfl⟩
   rw[hsu];exact kn
  ·intro hc
   have hge:l.length≤i:=by simpa using hc
   have hil:i=l.length:=by omega
   subst hil
   have gc:=kn.l 0 rfl
   refine Qt ?_
   simp only[go_sem,AE.X.next]
   refine Qa ?_
   simp only[go_sem,gc]
   refine Qg ?_
   exact retf _ _ _ _ hpc kn rfl
theorem Qapf {l:List Fn}{fl:Bool}(hf:Qs l≤2^38)(g:GK H)(hK:∀H',Upd H H' []→K (.c (.bool (Qz3 l))) H'):Ql prog Qoj [.ag [.sl fl 3 (Qn l)]] H K:=by
 refine Qc Qah Qa9p ?_
 refine Qa ?_
 simp only[go_sem]
 refine Qa ?_
 simp only[go_sem]
 refine Qa8z hf g fun H1 hu=>?_
 simp only[go_sem,Q87]
 refine Qg ?_
 simp only[go_sem,Qq,Qz,Qic,List.mem_singleton,forall_eq,RS.op]
 exact hK _ hu
end Go.AE.Y

namespace Go.AE
variable {H0 H H' F:Heap}{E L B A M:List (Nat×Obj)}{sz:Nat}{rows:List (List C)}{c:C}{Lg:List (Nat×Obj)}
def Gp (Lg:List (Nat×Obj))(sz:Nat)(rows:List (List C))(c:C):Prop:=
 (c=.sl true sz []∧rows=[]∧Lg=[])∨∃y R,c=.vsl y sz 0 rows.length∧Lg=[(y,.vec sz R)]∧R.take rows.length=rows
theorem Gp.nil (sz:Nat):Gp [] sz [] (.sl true sz []):=.inl ⟨rfl,rfl,rfl⟩
theorem Gp.isOw (h:Gp Lg sz rows c):c.isOw=false:=by rcases h with ⟨rfl,_⟩|⟨y,R,rfl,_⟩ <;> rfl
theorem Gp.slc (h:Gp Lg sz rows c)(hg:∀p∈Lg,H p.1=p.2):Slc H sz rows c:=by
 rcases h with ⟨rfl,rfl,rfl⟩|⟨y,R,rfl,rfl,hR⟩
 ·exact .mk' H true sz []
 ·have hy:H y=.vec sz R:=hg (y,.vec sz R) (by simp)
  have hle:rows.length≤R.length:=by
   have:=congrArg List.length hR
   rw[List.length_take]at this;omega
  exact⟨by simp[Qy4,hy,hle],rfl,by simp[Q9,hy,hR],rfl⟩
theorem Gp.ne (h:Gp Lg sz rows c):∀p∈Lg,p.2≠.none:=by
 rcases h with ⟨_,_,rfl⟩|⟨y,R,_,rfl,_⟩
 ·simp
 ·intro p hp;simp only[List.mem_singleton]at hp;subst hp;nofun
theorem Kn.growP {K:V→Heap→Prop}{new:List (List C)}{b:C}(kn:Kn H0 H E (B++Lg))(hc:Gp Lg sz rows c)(hb:Slc H sz new b)
  (h1:∀r∈new,noOw r=true) (h2:rows.length+new.length≤LIM)
  (h:∀t Lg' H',Gp Lg' sz (rows++new) t→Kn H0 H' E (B++Lg')→K (.c t) H'):appQ H sz c b K:=by
 refine⟨hb.ok,hb.sz,?_⟩
 rcases hc with ⟨rfl,rfl,rfl⟩|⟨y,R,rfl,rfl,hR⟩
 ·simp only[hb.rows,hb.len,List.nil_append,List.length_nil,Nat.zero_add]
  refine⟨trivial,.inl trivial,h1,by simpa using h2,fun l hl H' hH'=>?_⟩
  rw[List.append_nil]at kn
  exact h _ _ H' (.inr ⟨l,new,by simp,rfl,List.take_length⟩) (kn.al hl hH')
 ·have hle:rows.length≤R.length:=by
   have:=congrArg List.length hR
   rw[List.length_take]at this;omega
  have hy:H y=.vec sz R:=(kn.get (y,.vec sz R) (by simp)).1
  simp only[hy,hb.rows,hb.len,List.drop_zero,hR]
  refine⟨trivial,trivial,by omega,h1,h2,fun l' hl' H' hH'=>?_⟩
  refine h _ [(l',.vec sz (rows++new))] H' (.inr ⟨l',rows++new,by simp,rfl,List.take_length⟩) ?_
  have:=kn.ap B.length (y:=y) (o:=.vec sz R) (by simp) hl' hH'
  simpa using this
theorem Gp.cut (h:Gp Lg sz rows c){k:Nat}(hk:k≤rows.length):Gp Lg sz (rows.take k) (sliC none (some (k:Int)) c):=by
 rcases h with ⟨rfl,rfl,rfl⟩|⟨y,R,rfl,rfl,hR⟩
 ·refine .inl ⟨?_,by simp,rfl⟩
  simp[sliC]
 ·refine .inr ⟨y,R,?_,rfl,?_⟩
  ·simp only[sliC,Option.getD_none,Option.getD_some,List.length_take,Int.toNat_natCast,Int.toNat_zero,Nat.zero_add,Nat.sub_zero]
   rw[Nat.min_eq_left hk]
  ·rw[List.length_take,Nat.min_eq_left hk,←hR,List.take_take,Nat.min_eq_left hk]
theorem Kn.side (kn:Kn F H [] (A++M)):∃F',Kn F' H [] A∧∀(A':List (Nat×Obj)) (H':Heap),Kn F' H' [] A'→Kn F H' [] (A'++M):=by
 have hnd:=kn.dL
 rw[List.map_append]at hnd
 obtain⟨d1,d2,d3⟩:=List.nodup_append.1 hnd
 obtain⟨F',hF'⟩:∃F':Heap,F'=fun m=>if m∈M.map Prod.fst then H m else F m:=⟨_,rfl⟩
 have hin:∀m,m∈M.map Prod.fst→F' m=H m:=fun m hm=>by rw[hF'];exact if_pos hm
 have hout:∀m,m∉M.map Prod.fst→F' m=F m:=fun m hm=>by rw[hF'];exact if_neg hm
 have hM:∀p∈M,F' p.1=p.2∧p.2≠.none:=fun p hp=>by
  have:=kn.get p (by simp[hp])
  rw[hin p.1 (Qci hp)];exact this
 refine⟨F',⟨fun p hp=>kn.get p (by simp only[List.nil_append]at hp⊢;exact List.mem_append_left _ hp),by simp,fun p hp=>?_,by simp,d1,fun m hm _=>?_⟩,fun A' H' k=>?_⟩
 ·rw[hout p.1 fun h=>d3 _ (Qci hp) _ h rfl]
  exact kn.loc p (List.mem_append_left _ hp)
 ·by_cases h:m∈M.map Prod.fst
  ·rw[hin m h]
  ·rw[hout m h]at hm⊢
   exact kn.chg m hm (by simp)
 ·have hA:∀p∈A',p.1∉M.map Prod.fst:=fun p hp h=>by
   obtain⟨q,hq,e⟩:=List.mem_map.1 h
   have h1:=k.loc p hp
   rw[←e,(hM q hq).1]at h1
   exact (hM q hq).2 h1
  refine⟨fun p hp=>?_,by simp,fun p hp=>?_,by simp,?_,fun m hm _=>?_⟩
  ·simp only[List.nil_append]at hp
   rcases List.mem_append.1 hp with hp|hp
   ·exact k.get p (by simpa using hp)
   ·obtain⟨h1,h2⟩:=hM p hp
    refine⟨?_,h2⟩
    rw[k.chg p.1 (by rw[h1];exact h2) (by simp),h1]
  ·rcases List.mem_append.1 hp with hp|hp
   ·rw[←hout p.1 (hA p hp)];exact k.loc p hp
   ·exact kn.loc p (List.mem_append_right _ hp)
  ·rw[List.map_append]
   refine List.nodup_append.2 ⟨k.dL,d2,fun a ha b hb hab=>?_⟩
   obtain⟨p,hp,rfl⟩:=List.mem_map.1 ha
   exact hA p hp (hab▸hb)
  ·have hmM:m∉M.map Prod.fst:=fun h=>by
    obtain⟨q,hq,rfl⟩:=List.mem_map.1 h
    exact hm (kn.loc q (List.mem_append_right _ hq))
   have:=k.chg m (by rw[hout m hmM];exact hm) (by simp)
   rw[this,hout m hmM]
end Go.AE
namespace Go.AE.Y
attribute [local go_sem] cond_true cond_false Bool.not_true Bool.not_false
open Go.Proofs.Tryz
variable {H H0:Heap}{K:V→Heap→Prop}{E E' L:List (Nat×Obj)}
abbrev wO (fl:Bool)(fns:List Fn)(k:Nat)(vc:C)(cnt:Nat)(code:Int):Obj:=.st [.sl fl 3 (Qn fns),.int .i64 k,vc,.int .i64 cnt,.int .i64 code]
theorem Qa3g {n:Nat}(hK:∀s,K (.c (.str s)) H):Ql prog Q23 [.c (.int .i64 n)] H K:=by
 refine Qc Qah Qbeq ?_
 have e1:((n:Int).tmod 26)=((n % 26:Nat):Int):=rfl
 have h1:n % 26<26:=Nat.mod_lt _ (by omega)
 refine Qa ?_
 simp only[go_sem]
 refine Qa ?_
 simp only[go_sem,e1]
 generalize n % 26=q at *
 refine⟨by decide,?_⟩
 refine Qa ?_
 simp only[go_sem]
 refine⟨Qr (by omega) (by omega),⟨by omega,by omega⟩,?_,?_⟩
 ·simp only[LIM,List.length_drop,List.length_take,List.length_cons,List.length_nil];omega
 refine Qg ?_
 simp only[go_sem,Qq,Qz,Qic,List.mem_singleton,forall_eq,RS.op]
 exact hK _
theorem Q44 {w k cnt:Nat}{fl:Bool}{fns:List Fn}{vc:C}{code n:Int}(how:vc.isOw=false)(hH:H w=wO fl fns k vc cnt code)(hK:∀H',Upd H H' [(w,wO fl fns k vc cnt (Qcm code n))]→K (.tup []) H') :
  Ql prog Qb7 [.c (.ptr w 0),.c (.int .i64 n)] H K:=by
 refine Qc Qah Qapv ?_
 have kn:=Kn.start1 hH (by nofun)
 refine Qa ?_
 simp only[go_sem,hH,how]
 refine Qb rfl (fun hc=>?_) (fun hc=>?_)
 ·have h0:code=0:=by simpa using hc
  refine Qp ?_
  simp only[go_sem,hH,how]
  intro H1 h1
  have kn:=kn.stE 0 rfl h1
  simp only[Qq,Qz,Qgv,go_sem]
  refine hK _ ⟨fun p hp=>?_,fun m h1 h2=>kn.chg m h1 h2⟩
  rw[Qcm,if_pos h0]at hp
  exact (kn.get p (List.mem_append_left _ hp)).1
 ·have h0:¬code=0:=by simpa using hc
  refine Qd ?_
  simp only[Qq,Qz,Qgv,go_sem]
  refine hK _ ⟨fun p hp=>?_,fun m h1 h2=>rfl⟩
  rw[Qcm,if_neg h0]at hp
  simp only[List.mem_singleton]at hp
  rw[hp];exact hH
def Qbi9 (v:Vars)(s:List UInt8)(r:Int):Prop:=
 (r=-1∧((vT v).find? fun x=>decide (x.1=s))=none)∨∃(i:Nat) (x:List UInt8×Nat×Nat),r=i∧i<(vT v).length∧(Qbd v).getD i []=row3 x∧((vT v).find? fun x=>decide (x.1=s))=some x
theorem Qa4a {w k cnt:Nat}{fl:Bool}{fns:List Fn}{vc:C}{code:Int}{v:Vars}{s:List UInt8}(how:vc.isOw=false)(hH:H w=wO fl fns k vc cnt code)(hg:Slc H 3 (Qbd v) vc)
  (hK:∀r,Qbi9 v s r→K (.c (.int .i64 r)) H):Ql prog Qix [.c (.ptr w 0),.c (.str s)] H K:=by
 have hok:=eq_true hg.ok
 have hrw:=hg.rows
 have hln:=hg.len
 have hsz:=hg.sz
 rw[Qw7]at hln
 refine Qc Qah Qapw ?_
 have retf:∀(n:Int) (e:Env),Qbi9 v s n→lk 4 e=.c (.int .i64 n)→Qq Qat4 K .ret e H:=by
  intro b e hf h1
  simp only[go_sem,Qq,Qz,Qat4,List.mem_singleton,forall_eq,RS.op,h1]
  exact hK _ hf
 refine Qa ?_
 simp only[go_sem]
 refine Qu ?_
 refine Qa ?_
 simp only[go_sem,hH,how,hok,hln]
 intro hl
 simp only[LIM]at hl
 refine⟨Qr (by omega) (by omega),?_⟩
 refine Qe (Qf (Qy (fun n e1 H1=>∃(j:Nat),n=j∧j≤(vT v).length∧H1=H∧(∀x∈(vT v).take ((vT v).length-j),¬decide (x.1=s)=true)∧e1=[(0,.c (.ptr w 0)),(1,.c (.str s)),(5,.c (.int .i64 ((j:Int)-1)))]) (vT v).length ?_ ?_))
 ·exact⟨(vT v).length,rfl,by omega,rfl,by simp,rfl⟩
 ·rintro n e1 H1 ⟨j,hnj,hj,rfl,hall,rfl⟩
  refine Qu ?_
  refine Qa ?_
  simp only[go_sem]
  refine Qe (Qb rfl ?_ ?_)
  ·intro hc
   have hj1:1≤j:=by simp at hc;omega
   obtain⟨i,rfl⟩:∃i,j=i+1:=⟨j-1,by omega⟩
   have e1:(((i+1:Nat):Int)-1)=(i:Int):=by omega
   have hlt:i<(vT v).length:=by omega
   have hk:(vT v).length-1-i<(vT v).length:=by omega
   have hr:=Qaow v hlt
   have ek:(vT v).length-(i+1)=(vT v).length-1-i:=by omega
   obtain⟨x,hx⟩:∃x,(vT v)[(vT v).length-1-i]=x:=⟨_,rfl⟩
   rw[hx]at hr
   have hr2:=hr
   rw[row3]at hr2
   rw[e1]at hc⊢
   refine Qd ?_
   simp only[go_sem]
   refine Qe (Qf ?_)
   refine Qa ?_
   simp only[go_sem,hH,how,hok,hln,hrw,hsz,hlt,hr2]
   refine Qb rfl ?_ ?_
   ·intro hc2
    refine Qa ?_
    simp only[go_sem]
    refine Qg ?_
    simp only[go_sem,AE.X.next]
    refine retf _ _ (.inr ⟨i,x,rfl,hlt,hr,?_⟩) rfl
    have:=Qbhj (p:=fun x:List UInt8×Nat×Nat=>decide (x.1=s)) hk (by rw[hx];exact hc2) (by rw[←ek];exact hall)
    rw[this,hx]
   ·intro hc2
    refine Qd ?_
    simp only[go_sem]
    refine Qp ?_
    simp only[go_sem,AE.X.next]
    refine⟨Qr (by omega) (by omega),i,by omega,i,rfl,by omega,?_,rfl⟩
    have e2:(vT v).length-i=(vT v).length-1-i+1:=by omega
    rw[e2,List.take_succ_eq_append_getElem hk]
    intro y hy
    rcases List.mem_append.1 hy with hy|hy
    ·rw[←ek]at hy;exact hall y hy
    ·simp only[List.mem_singleton]at hy
     rw[hy,hx]
     intro h;rw[h]at hc2;cases hc2
  ·intro hc
   have hj0:j=0:=by simp at hc;omega
   subst hj0
   refine Qt ?_
   simp only[go_sem,AE.X.next]
   refine Qa ?_
   simp only[go_sem]
   refine Qg ?_
   refine retf (-1) _ (.inl ⟨rfl,?_⟩) rfl
   rw[List.find?_eq_none]
   simpa using hall
theorem Qbcn {w k cnt:Nat}{fl:Bool}{fns:List Fn}{vc:C}{code:Int}{v:Vars}{s:List UInt8}(how:vc.isOw=false)(hH:H w=wO fl fns k vc cnt code)(hg:Slc H 3 (Qbd v) vc)
  (hK:∀t H',Upd H H' [(w,wO fl fns k vc cnt (Qcm code (if (v.find s).isSome then 0 else 3)))]→K (.c (.str t)) H'):Ql prog Qlu [.c (.ptr w 0),.c (.str s)] H K:=by
 have hok:=eq_true hg.ok
 have hrw:=hg.rows
 have hln:=hg.len
 have hsz:=hg.sz
 rw[Qw7]at hln
 refine Qc Qah Qatr ?_
 have retf:∀(t:List UInt8) (e:Env) (H':Heap),Upd H H' [(w,wO fl fns k vc cnt (Qcm code (if (v.find s).isSome then 0 else 3)))]→lk 4 e=.c (.str t)→Qq Qat4 K .ret e H':=by
  intro b e H' hu h1
  simp only[go_sem,Qq,Qz,Qat4,List.mem_singleton,forall_eq,RS.op,h1]
  exact hK _ _ hu
 refine Qa ?_
 simp only[go_sem]
 refine Qa ?_
 simp only[go_sem]
 refine Qa4a how hH hg fun r hr=>?_
 simp only[go_sem,Qvo]
 refine Qu ?_
 refine Qa ?_
 simp only[go_sem]
 have hvf:=Qbi4 v s
 rcases hr with ⟨rfl,hf⟩|⟨i,x,rfl,hlt,hrow,hf⟩
 ·rw[hf]at hvf
  rw[hvf]at retf
  refine Qe (Qb rfl (fun _=>?_) (fun h=>by cases h))
  refine Qa ?_
  simp only[go_sem]
  refine Q44 how hH fun H1 hu=>?_
  simp only[go_sem]
  refine Qa ?_
  simp only[go_sem]
  refine Qg ?_
  simp only[go_sem,AE.X.next]
  exact retf _ _ _ hu rfl
 ·rw[hf]at hvf
  rw[hvf]at retf
  have hr2:=hrow
  rw[row3]at hr2
  refine Qe (Qb rfl (fun h=>by have:=of_decide_eq_true h;omega) (fun _=>?_))
  refine Qd ?_
  try simp only[go_sem]
  refine Qa ?_
  simp only[go_sem,hH,how,hok,hln,hrw,hsz,hlt,hr2]
  refine Qa3g fun t=>?_
  simp only[go_sem,Qvp]
  refine Qg ?_
  refine retf t _ _ ⟨fun q hq=>?_,fun m h1 h2=>rfl⟩ rfl
  simp only[List.mem_singleton]at hq
  rw[hq]
  have e0:Qcm code (if (Option.map (fun x:List UInt8×Nat×Nat=>x.2.1) (some x)).isSome=true then 0 else 3)=code:=Qan0 code
  rw[e0];exact hH
theorem Qbcl {F:Heap}{w k cnt:Nat}{fl:Bool}{fns:List Fn}{vc:C}{code:Int}{b:List (List UInt8×Nat)}{r:Vars}{s:List UInt8}{Lg:List (Nat×Obj)}(hg:Gp Lg 3 (Qbd (b::r)) vc)
  (kn:Kn F H [] ((w,wO fl fns k vc cnt code)::Lg)) (hc:cnt≤2^40) (hl:(Qbd (b::r)).length+1≤LIM)
  (hK:∀t H' vc' Lg',Gp Lg' 3 (Qbd (((s,cnt)::b)::r)) vc'→Kn F H' [] ((w,wO fl fns k vc' (cnt+1) (Qcm code (if Qen (b::r) s then 2 else 0)))::Lg')→K (.c (.str t)) H') :
  Ql prog Qlt [.c (.ptr w 0),.c (.str s),.c (.int .i64 r.length)] H K:=by
 have how:=hg.isOw
 have hH:=kn.l 0 rfl
 have hs:=hg.slc fun p hp=>(kn.get p (by simp[hp])).1
 have hok:=eq_true hs.ok
 have hrw:=hs.rows
 have hln:=hs.len
 have hsz:=hs.sz
 rw[Qw7]at hln
 refine Qc Qah Qatq ?_
 have tail:∀(code':Int) (H1:Heap) (e1:Env),code'=Qcm code (if Qen (b::r) s then 2 else 0)→Kn F H1 [] ((w,wO fl fns k vc cnt code')::Lg)→lk 0 e1=.c (.ptr w 0)→lk 1 e1=.c (.str s)→lk 2 e1=.c (.int .i64 r.length)→
   Qae prog Qzj (Qq Quj K) e1 H1:=by
  intro code' H1 e1 hcode kn f0 f1 f2
  subst hcode
  have hH:=kn.l 0 rfl
  refine Qbg ?_
  simp only[go_sem,f0,f1,f2,hH,how]
  refine Kn.growP (B:=[(w,wO fl fns k vc cnt (Qcm code (if Qen (b::r) s then 2 else 0)))]) kn hg (.mk' _ true 3 _) (by simp[noOw,C.isOw]) (by simpa using hl) fun t Lg' H2 hg' kn=>?_
  have how':=hg'.isOw
  have hH:=kn.l 0 rfl
  simp only[go_sem,Qvm,hH,how',f0,f1,f2]
  intro H3 h3
  have kn:=kn.stL 0 rfl h3
  have hH:=kn.l 0 rfl
  refine Qa ?_
  simp only[go_sem,hH,how',f0,f1,f2]
  refine⟨Qr (by omega) (by omega),?_⟩
  intro H4 h4
  have kn:=kn.stL 0 rfl h4
  have hH:=kn.l 0 rfl
  refine Qa ?_
  simp only[go_sem,hH,how',f0,f1,f2]
  refine⟨Qr (by omega) (by omega),?_⟩
  have en:((cnt:Int)+1-1)=((cnt:Nat):Int):=by omega
  try rw[en]
  refine Qa3g fun t'=>?_
  simp only[go_sem,Qvn]
  refine Qg ?_
  simp only[go_sem,Qq,Qz,Quj,List.mem_singleton,forall_eq,RS.op]
  exact hK t' _ t Lg' (by rw[Qajo];exact hg') kn
 refine Qa ?_
 simp only[go_sem]
 refine Qa ?_
 simp only[go_sem]
 refine Qa4a how hH hs fun n hn=>?_
 simp only[go_sem,Qvl]
 refine Qu ?_
 have htop:=Qbk2 b r s
 rcases hn with ⟨rfl,hf⟩|⟨i,x,rfl,hlt,hrow,hf⟩
 ·rw[hf]at htop
  have hm1:decide ((0:Int)≤-1)=false:=by decide
  have tn:Int.toNat (-1)=0:=rfl
  have ht0:Qen (b::r) s=false:=by rw[htop];rfl
  rw[ht0]at tail
  obtain⟨ro,hro,hcase⟩:∃ro,(Qbd (b::r)).getD 0 []=ro∧(ro=[]∨∃a m n,ro=[.str a,.int .i64 m,.int .i64 n]):=by
   refine⟨_,rfl,?_⟩
   rcases Nat.eq_zero_or_pos (vT (b::r)).length with h0|h0
   ·refine .inl ?_
    have:Qbd (b::r)=[]:=List.eq_nil_of_length_eq_zero (by rw[Qw7];exact h0)
    rw[this];rfl
   ·exact .inr ⟨_,_,_,Qaow _ h0⟩
  refine Qa ?_
  rcases hcase with rfl|⟨a,m,n,rfl⟩
  ·simp only[go_sem,hm1,hH,how,hok,hln,hrw,hsz,hro,tn,List.headD_nil]
   refine Qe (Qb rfl (fun h=>by cases h) (fun _=>?_))
   refine Qd ?_
   simp only[go_sem]
   exact tail code _ _ (Qan0 code).symm kn rfl rfl rfl
  ·simp only[go_sem,hm1,hH,how,hok,hln,hrw,hsz,hro,tn]
   refine Qe (Qb rfl (fun h=>by cases h) (fun _=>?_))
   refine Qd ?_
   simp only[go_sem]
   exact tail code _ _ (Qan0 code).symm kn rfl rfl rfl
 ·rw[hf]at htop
  have hr2:=hrow
  rw[row3]at hr2
  have hge:decide ((0:Int)≤(i:Int))=true:=decide_eq_true (by omega)
  refine Qa ?_
  simp only[go_sem,hge,hH,how,hok,hln,hrw,hsz,hlt,hr2]
  have he:decide (((x.2.2:Nat):Int)=((r.length:Nat):Int))=decide (x.2.2=r.length):=by rw[decide_eq_decide];omega
  simp only[Option.map_some,Option.getD_some]at htop
  rw[←htop]at he
  rw[he]
  refine Qe (Qb rfl (fun hc2=>?_) (fun hc2=>?_))
  ·refine Qp ?_
   simp only[go_sem]
   refine Q44 how hH fun H1 hu=>?_
   have kn:=kn.callL 0 rfl hu (by nofun)
   simp only[go_sem,AE.X.next]
   refine tail _ _ _ ?_ kn rfl rfl rfl
   have:Qen (b::r) s=true:=by simpa using hc2
   rw[this];rfl
  ·refine Qd ?_
   simp only[go_sem,AE.X.next]
   refine tail code _ _ ?_ kn rfl rfl rfl
   have:Qen (b::r) s=false:=by simpa using hc2
   rw[this];exact (Qan0 code).symm
end Go.AE.Y

namespace Go.AE.Y
attribute [local go_sem] cond_true cond_false Bool.not_true Bool.not_false
open Go.Proofs.Tryz
variable {H H0:Heap}{K:V→Heap→Prop}{E E' L:List (Nat×Obj)}
theorem Qa31 {l:List Fn}{fl:Bool}{name:List UInt8}(hK:K (.c (.int .i64 (ixI (Qkv l name)))) H):Ql prog Qxi [.ag [.sl fl 3 (Qn l)],.c (.str name)] H K:=by
 refine Qc Qah Qa93 ?_
 have retf:∀(n:Int) (e:Env),n=ixI (Qkv l name)→lk 4 e=.c (.int .i64 n)→Qq Qat4 K .ret e H:=by
  intro b e hn h1
  simp only[go_sem,Qq,Qz,Qat4,List.mem_singleton,forall_eq,RS.op,h1]
  rw[hn];exact hK
 refine Qa ?_
 simp only[go_sem]
 refine Qu ?_
 refine Qa ?_
 simp only[go_sem]
 refine Qe (Qf (Qy (fun n e1 H1=>∃(i:Nat),n=l.length-i∧i≤l.length∧H1=H∧(∀f∈l.take i,¬f.name=name)∧e1=[(1,.c (.str name)),(2,.c (.pp [.sl fl 3 (Qn l)])),(5,.c (.int .i64 i))]) l.length ?_ ?_))
 ·exact⟨0,by omega,by omega,rfl,by simp,rfl⟩
 ·rintro n e1 H1 ⟨i,hn1,hi,rfl,hall,rfl⟩
  refine Qu ?_
  refine Qa ?_
  simp only[go_sem,Qw]
  intro hl
  simp only[LIM]at hl
  refine Qe (Qb rfl ?_ ?_)
  ·intro hc
   have hlt:i<l.length:=by simpa using hc
   refine Qd ?_
   simp only[go_sem]
   refine Qe (Qf ?_)
   refine Qa ?_
   simp only[go_sem,hlt,Qw,Qal _ _ hlt,Fn.cells]
   refine Qb rfl ?_ ?_
   ·intro hc2
    have hnm:l[i].name=name:=by simpa using hc2
    refine Qa ?_
    simp only[go_sem]
    refine Qg ?_
    simp only[go_sem,AE.X.next]
    exact retf i _ (by rw[Qa8h hlt hnm hall];rfl) rfl
   ·intro hc2
    have hnm:¬l[i].name=name:=by simpa using hc2
    refine Qd ?_
    simp only[go_sem]
    refine Qp ?_
    simp only[go_sem,AE.X.next]
    refine⟨Qr (by omega) (by omega),l.length-(i+1),by omega,i+1,rfl,by omega,?_,rfl⟩
    rw[List.take_succ_eq_append_getElem hlt]
    intro x hx
    rcases List.mem_append.1 hx with hx|hx
    ·exact hall x hx
    ·simp only[List.mem_singleton]at hx;subst hx;exact hnm
  ·intro hc
   have hge:l.length≤i:=by simpa using hc
   rw[List.take_of_length_le hge]at hall
   refine Qt ?_
   simp only[go_sem,AE.X.next]
   refine Qa ?_
   simp only[go_sem]
   refine Qg ?_
   exact retf (-1) _ (by rw[Qa8i hall];rfl) rfl
abbrev exO (op n:Int)(nm:List UInt8)(kc:C):Obj:=.st [.int .i64 op,.int .i64 n,.str nm,kc]
theorem Qbgf {w k cnt:Nat}{fl:Bool}{fns:List Fn}{vc:C}{Lg:List (Nat×Obj)}{v:Vars}(hg:Gp Lg 3 (Qbd v) vc):∀(n:Nat) (x:Ex) (code:Int) (H:Heap) (K:V→Heap→Prop),
  x.size≤n→x.size≤2^38→((w::Lg.map Prod.fst).Nodup)→(∀p∈(w,wO fl fns k vc cnt code)::Lg,H p.1=p.2)→
  (∀(y:Ex) H',Upd H H' ((w,wO fl fns k vc cnt (Qa1 fns k v x.pre code))::Lg)→K (.ag y.cells) H')→Ql prog Qiw [.c (.ptr w 0),.ag x.cells] H K:=by
 have how:=hg.isOw
 intro n
 induction n with
 |zero=>intro x code H K h;have:=x.size_pos;omega
 |succ n ih=>
 intro x code H K hn hb hnd hh hK
 have hsz:=x.size_kids
 have hne:∀c,∀p∈(w,wO fl fns k vc cnt c)::Lg,p.2≠.none:=by
  intro c p hp
  rcases List.mem_cons.1 hp with rfl|hp
  ·nofun
  ·exact hg.ne p hp
 have kn:Kn H H ((w,wO fl fns k vc cnt code)::Lg) []:=.startE (fun p hp=>⟨hh p hp,hne _ p hp⟩) hnd
 refine Qab ?_
 refine Qc Qah Qapu ?_
 refine Qa ?_
 simp only[go_sem,x.cells_eq]
 intro x3 hx3 H1 h1
 have kn:=kn.al hx3 h1
 simp only[go_sem,Qso]
 intro x4 hx4 H2 h2
 have kn:Kn H H2 ((w,wO fl fns k vc cnt code)::Lg) [(x3,exO x.op x.n x.name (.sl false 4 (Qm x.kids))),(x4,exO 0 0 [] (.sl true 4 []))]:=kn.al hx4 h2
 try simp only[go_sem]
 have three:∀(H1:Heap) (e1:Env) (nm:List UInt8),Kn H H1 ((w,wO fl fns k vc cnt (Qcm code (Qe5 fns k v x)))::Lg) [(x3,exO x.op x.n nm (.sl false 4 (Qm x.kids))),(x4,exO 0 0 [] (.sl true 4 []))]→
   lk 0 e1=.c (.ptr w 0)→lk 3 e1=.c (.ptr x3 0)→lk 4 e1=.c (.ptr x4 0)→Qae prog Qjw (Qq Qgx (unK H K)) e1 H1:=by
  intro H1 e1 nm kn f0 f3 f4
  refine Qa ?_
  simp only[go_sem,f0,f3,f4]
  refine Qu ?_
  refine Qa ?_
  simp only[go_sem]
  refine Qe (Qf (Qy (fun m e2 H2=>∃(j:Nat) (ks:List Ex) (Lk:List (Nat×Obj)) (t:C),m=x.kids.length-j∧j≤x.kids.length∧Gr Lk 4 (Qm ks) t∧ks.length=j∧
   Kn H H2 ((w,wO fl fns k vc cnt (Qa1 fns k v (Qaf (x.kids.take j)) (Qcm code (Qe5 fns k v x))))::Lg) ([(x3,exO x.op x.n nm (.sl false 4 (Qm x.kids))),(x4,exO 0 0 [] (.sl true 4 []))]++Lk)∧
   e2=[(0,.c (.ptr w 0)),(3,.c (.ptr x3 0)),(4,.c (.ptr x4 0)),(6,.c t),(7,.c (.int .i64 j))]) x.kids.length ?_ ?_))
  ·exact⟨0,[],[],.sl true 4 [],by omega,by omega,.nil 4,rfl,by simpa[Qaf,Qa1]using kn,rfl⟩
  ·clear kn f0 f3 f4
   rintro m e2 H2 ⟨j,ks,Lk,t,hm,hj,hgk,hks,kn,rfl⟩
   have hto:=hgk.isOw
   have g3:=kn.l 0 rfl
   refine Qu ?_
   refine Qa ?_
   simp only[go_sem,g3,hto,Qh]
   intro hl
   simp only[LIM]at hl
   refine Qe (Qb rfl ?_ ?_)
   ·intro hc
    have hlt:j<x.kids.length:=by simpa using hc
    have hms:=Qac (List.getElem_mem hlt)
    obtain⟨y,hy⟩:∃y,x.kids[j]=y:=⟨_,rfl⟩
    have htk:=Qmb hlt
    rw[hy]at hms htk
    refine Qd ?_
    try simp only[go_sem]
    refine Qe (Qf ?_)
    refine Qp ?_
    simp only[go_sem,g3,hto,hlt,Qh,Q6 _ _ hlt,hy,y.cells_eq]
    have hih:=fun K=>ih y (Qa1 fns k v (Qaf (x.kids.take j)) (Qcm code (Qe5 fns k v x))) H2 K
    rw[y.cells_eq]at hih
    refine hih _ (by omega) (by omega) hnd (fun p hp=>(kn.get p (List.mem_append_left _ hp)).1) fun z H5 hu=>?_
    have kn:=kn.callAll hu rfl (hne _)
    simp only[go_sem,Qss,hto,z.cells_len]
    refine kn.growR hgk (.mk' _ true 4 _) (by simpa using z.noOw) (by simp only[Qh,List.length_cons,List.length_nil,LIM];omega) fun t' Lk' H6 hg' hto' kn=>?_
    rw[Qei]at hg'
    simp only[go_sem,Qsr,hto']
    refine Qp ?_
    simp only[go_sem,AE.X.next,hto']
    refine⟨Qr (by omega) (by omega),x.kids.length-(j+1),by omega,j+1,ks++[z],Lk',t',rfl,by omega,hg',by simp[hks],?_,rfl⟩
    rw[htk,Q55]
    exact kn
   ·intro hc
    have hge:x.kids.length≤j:=by simpa using hc
    rw[List.take_of_length_le hge]at kn
    refine Qt ?_
    simp only[go_sem,AE.X.next]
    refine Qa ?_
    simp only[go_sem,g3,hto]
    intro H3 h3
    have kn:=kn.stL 0 rfl h3
    have g3:=kn.l 0 rfl
    have g4:=kn.l 1 rfl
    refine Qa ?_
    simp only[go_sem,g3,g4,hto]
    intro H4 h4
    have kn:=kn.stL 1 rfl h4
    have g4:=kn.l 1 rfl
    refine Qg ?_
    simp only[go_sem,Qq,Qz,Qgx,List.mem_singleton,forall_eq,RS.op,g4,hto]
    refine⟨.ag (Ex.mk x.op x.n nm ks).cells,?_,hK (Ex.mk x.op x.n nm ks) _ ?_⟩
    ·rw[Ex.cells_eq]
     exact (FrzL.cons (Qi rfl) (.cons (Qi rfl) (.cons (Qi rfl) (.cons (hgk.frz (B:=[_,_]) kn (Qbp _)) .nil)))).ag
    ·rw[x.pre_eq]
     exact kn.fin
 have two:∀(H1:Heap) (e1:Env) (nm:List UInt8) (code1:Int),(x.op=2→code1=Qcm code (Qe5 fns k v x))→(¬x.op=2→code1=code∧nm=x.name)→Kn H H1 ((w,wO fl fns k vc cnt code1)::Lg) [(x3,exO x.op x.n nm (.sl false 4 (Qm x.kids))),(x4,exO 0 0 [] (.sl true 4 []))]→
   lk 0 e1=.c (.ptr w 0)→lk 3 e1=.c (.ptr x3 0)→lk 4 e1=.c (.ptr x4 0)→Qae prog Qsn (Qq Qgx (unK H K)) e1 H1:=by
  intro H1 e1 nm code1 hc1 hc2 kn f0 f3 f4
  have g3:=kn.l 0 rfl
  have gw:=kn.e 0 rfl
  refine Qu ?_
  refine Qa ?_
  simp only[go_sem,f0,f3,f4,g3]
  refine Qe (Qb rfl ?_ ?_)
  ·intro hc
   have h13:x.op=13:=by simpa using hc
   have h2:¬x.op=2:=by omega
   obtain⟨ec,en⟩:=hc2 h2
   rw[ec,en]at kn
   rw[ec]at gw
   rw[en]at g3
   have hpc:=Qa3q fns k v x
   rw[if_neg h2,if_pos h13]at hpc
   refine Qbg ?_
   simp only[go_sem,g3,gw,how]
   refine Qa31 ?_
   simp only[go_sem,Qsq]
   have bad:∀(e2:Env),Qe5 fns k v x=4→lk 0 e2=.c (.ptr w 0)→lk 3 e2=.c (.ptr x3 0)→lk 4 e2=.c (.ptr x4 0)→lk 35 e2=.c (.bool true)→Qae prog Qvk (X.sq prog Qjw (Qq Qgx (unK H K))) e2 H1:=by
    intro e2 hp f0 f3 f4 f35
    refine Qb (c:=true) f35 (fun _=>?_) (fun h=>by cases h)
    refine Qp ?_
    simp only[go_sem,f0,f3,f4]
    refine Q44 how gw fun H3 hu=>?_
    have kn:=kn.callE 0 rfl hu (by nofun)
    rw[←hp]at kn
    simp only[go_sem,AE.X.next]
    exact three _ _ _ kn rfl rfl rfl
   cases hx:Qkv fns x.name with
   |none=>
    rw[hx]at hpc
    refine Qa ?_
    simp only[go_sem,ixI,gw,how]
    exact bad _ hpc rfl rfl rfl rfl
   |some j=>
    rw[hx]at hpc
    obtain⟨hj,_,_⟩:=Q2z hx
    simp only[hj,List.getElem?_eq_getElem,Option.map_some,Option.getD_some]at hpc
    have hd0:decide ((j:Int)<0)=false:=decide_eq_false (by omega)
    refine Qa ?_
    simp only[go_sem,ixI,gw,how,hd0]
    by_cases hkj:k≤j
    ·have hd:decide ((k:Int)≤(j:Int))=true:=decide_eq_true (by omega)
     rw[if_pos hkj]at hpc
     refine bad _ hpc rfl rfl rfl ?_
     simp[lk,hkj]
    ·have hd:decide ((k:Int)≤(j:Int))=false:=decide_eq_false (by omega)
     rw[if_neg hkj]at hpc
     refine Qb (c:=false) (by simp[Opd.raw,lk];omega) (fun h=>by cases h) (fun _=>?_)
     refine Qbg ?_
     simp only[go_sem,g3,gw,how,hj,Qw,Qal _ _ hj,Fn.cells,Qv,Qh]
     refine Qb rfl ?_ ?_
     ·intro hc4
      have hne:¬fns[j].params.length=x.kids.length:=by
       have h:=Q3h hc4
       rw[decide_eq_false_iff_not]at h;omega
      rw[if_neg hne]at hpc
      refine Qp ?_
      simp only[go_sem]
      refine Q44 how gw fun H3 hu=>?_
      have kn:=kn.callE 0 rfl hu (by nofun)
      rw[←hpc]at kn
      simp only[go_sem,AE.X.next]
      exact three _ _ _ kn rfl rfl rfl
     ·intro hc4
      have he:fns[j].params.length=x.kids.length:=by
       have h:=Qua hc4
       rw[decide_eq_true_eq]at h;omega
      rw[if_pos he]at hpc
      refine Qd ?_
      simp only[go_sem,AE.X.next]
      refine three _ _ x.name ?_ rfl rfl rfl
      rw[hpc,Qan0];exact kn
  ·intro hc
   have h13:¬x.op=13:=by simpa using hc
   refine Qd ?_
   simp only[go_sem,AE.X.next]
   refine three _ _ nm ?_ rfl rfl rfl
   by_cases h2:x.op=2
   ·rw[←hc1 h2];exact kn
   ·obtain⟨ec,_⟩:=hc2 h2
    rw[ec]at kn
    have hpc:=Qa3q fns k v x
    rw[if_neg h2,if_neg h13]at hpc
    rw[hpc,Qan0];exact kn
 have g3:=kn.l 0 rfl
 have gw:=kn.e 0 rfl
 refine Qu ?_
 refine Qa ?_
 simp only[go_sem,g3]
 refine Qe (Qb rfl ?_ ?_)
 ·intro hc
  have h2:x.op=2:=by simpa using hc
  have hpc:Qe5 fns k v x=if (v.find x.name).isSome then 0 else 3:=by rw[Qe5,if_pos h2]
  refine Qp ?_
  simp only[go_sem,g3]
  refine Qbcn how gw (hg.slc fun p hp=>(kn.get p (by simp[hp])).1) fun t H3 hu=>?_
  have kn:=kn.callE 0 rfl hu (by nofun)
  have g3:=kn.l 0 rfl
  simp only[go_sem,Qsp,g3]
  intro H4 h4
  have kn:=kn.stL 0 rfl h4
  try simp only[go_sem,AE.X.next]
  exact two _ _ t _ (fun _=>by rw[hpc]) (fun h=>absurd h2 h) kn rfl rfl rfl
 ·intro hc
  have h2:¬x.op=2:=by simpa using hc
  refine Qd ?_
  simp only[go_sem,AE.X.next]
  exact two _ _ x.name code (fun h=>absurd h h2) (fun _=>⟨rfl,rfl⟩) kn rfl rfl rfl
end Go.AE.Y

namespace Go.AE.Y
structure Blk where
 ic:C
 irows:List (List C)
 lg:List (Nat×Obj)
 jump:Int
 on:Int
 nfl:Bool
 next:List Int
def Blk.row (b:Blk):List C:=[.sl true 2 [],b.ic,.int .i64 b.jump,.int .i64 b.on,.sl b.nfl 1 (Qha b.next)]
structure LS where
 fns:List Fn
 pfl:Bool
 params:Int
 regs:Int
 bc:C
 lb:List (Nat×Obj)
 blocks:List Blk
 at_:Nat
 vc:C
 lv:List (Nat×Obj)
 vars:List (List C)
 next:Int
def LS.o (s:LS):Obj:=.st [.sl s.pfl 3 (Qn s.fns),.int .i64 s.params,.int .i64 s.regs,s.bc,.int .i64 s.at_,s.vc,.int .i64 s.next,.sl true 1 []]
structure LS.ok (s:LS)(N:Nat):Prop where
 r0:0≤s.regs
 r1:s.regs≤N
 n0:0≤s.next
 n1:s.next≤N
 b1:s.blocks.length≤N
 i1:∀b∈s.blocks,b.irows.length≤N
 v1:s.vars.length≤N
theorem LS.ok.mono {s:LS}{N M:Nat}(h:s.ok N)(hm:N≤M):s.ok M:=
 ⟨h.r0,by have:=h.r1;omega,h.n0,by have:=h.n1;omega,by have:=h.b1;omega,fun b hb=>by have:=h.i1 b hb;omega,by have:=h.v1;omega⟩
variable {F H H':Heap}{w:Nat}{s:LS}
end Go.AE.Y

namespace Go.AE
variable {H0 H H' F:Heap}{E L B A:List (Nat×Obj)}
theorem Kn.frz1 {z:Nat}{o:Obj}(kn:Kn H0 H E (B++[(z,o)])):Kn H0 (H.frz fun m=>m == z) E B:=by
 have hzf:H0 z=.none:=kn.loc (z,o) (by simp)
 have hnd:=kn.dL
 rw[List.map_append]at hnd
 have hne:∀p∈B,p.1≠z:=fun p hp hh=>(List.nodup_append.1 hnd).2.2 _ (Qci hp) z (by simp) hh
 have hneE:∀p∈E,p.1≠z:=fun p hp hh=>kn.ext p hp (hh▸hzf)
 refine⟨fun p hp=>?_,kn.ext,fun p hp=>kn.loc p (List.mem_append_left _ hp),kn.dE,(List.nodup_append.1 hnd).1,fun m hm hx=>?_⟩
 ·have:p.1≠z:=by
   rcases List.mem_append.1 hp with h|h
   ·exact hneE p h
   ·exact hne p h
  have h2:(H.frz fun m=>m == z) p.1=H p.1:=by simp[Heap.frz,this]
  rw[h2]
  refine kn.get p ?_
  rcases List.mem_append.1 hp with h|h
  ·exact List.mem_append_left _ h
  ·exact List.mem_append_right _ (List.mem_append_left _ h)
 ·have:m≠z:=fun h=>hm (h▸hzf)
  have h2:(H.frz fun m=>m == z) m=H m:=by simp[Heap.frz,this]
  rw[h2];exact kn.chg m hm hx
theorem Gr.freeze {Lg:List (Nat×Obj)}{sz:Nat}{rows:List (List C)}{c:C}(h:Gr Lg sz rows c)(kn:Kn H0 H E (B++Lg))(hr:∀r∈rows,noOw r=true) :
  ∃S H2,FrzC H S c (.sl false sz rows)∧FrzH H S H2∧Kn H0 H2 E B:=by
 rcases h with ⟨rfl,rfl,rfl⟩|⟨y,rfl,rfl⟩
 ·refine⟨fun _=>false,H,Y.FrzR.nil.sl,fun m=>.inr ⟨rfl,.same _⟩,by simpa using kn⟩
 ·exact⟨fun m=>m == y,_,(Y.FrzR.same hr).vsl (by simp) (kn.get (y,.vec sz rows) (by simp)).1 rfl,Qapb _ _,kn.frz1⟩
end Go.AE
namespace Go.AE.Y
variable {F H H':Heap}{w:Nat}{s:LS}{Lg:List (Nat×Obj)}{sz:Nat}{rows:List (List C)}{c:C}
end Go.AE.Y

namespace Go.AE
variable {H0 H H' F:Heap}{E L B A M:List (Nat×Obj)}{S:Nat→Bool}
theorem Kn.stM {x:Nat}{o o':Obj}(kn:Kn H0 H E (A++(x,o)::B))(h1:H'=H.set x o')(ho:o'≠.none:=by nofun):Kn H0 H' E (A++(x,o')::B):=by
 have:=kn.stL A.length (x:=x) (o:=o) (by simp) h1 ho
 simpa using this
theorem Kn.getM {x:Nat}{o:Obj}(kn:Kn H0 H E (A++(x,o)::B)):H x=o:=(kn.get (x,o) (by simp)).1
theorem Qbjs {e e':Env}(h:∀p∈e',FrzV H S (lk p.1 e) p.2):∀t,FrzV H S (lk t e) (lk t e'):=fun t=>by
 induction e' with
 |nil=>exact .unk _
 |cons p e' ih=>
  obtain⟨s,v⟩:=p
  by_cases ht:t=s
  ·subst ht
   have:=h (t,v) List.mem_cons_self
   simpa[lk]using this
  ·have:=ih fun p hp=>h p (List.mem_cons_of_mem _ hp)
   simpa[lk,ht]using this
end Go.AE
namespace Go.AE.Y
attribute [local go_sem] cond_true cond_false Bool.not_true Bool.not_false
open Go.Proofs.Tryz
variable {H H0 F:Heap}{K:V→Heap→Prop}{E E' L:List (Nat×Obj)}
def StsW (w k:Nat)(fl:Bool)(fns:List Fn)(n:Nat):Prop:=∀(sts:List St) (f5:Bool) (b:List (List UInt8×Nat)) (r:Vars) (s:Ck) (vc:C) (Lg:List (Nat×Obj)) (F H:Heap) (K:V→Heap→Prop),
 Qj sts≤n→s.v=b::r→(r≠[]→b=[])→Gp Lg 3 (Qbd (b::r)) vc→Kn F H [] ((w,wO fl fns k vc s.n s.c)::Lg)→(Qbd (b::r)).length≤s.n→s.n+Qj sts≤2^38→r.length+Qj sts≤2^38→
 (∀out H' vc' Lg',(r=[]→Gp Lg' 3 (Qbd (Qam fns k sts s).v) vc')→(r≠[]→Gp Lg' 3 (Qbd r) vc')→Kn F H' [] ((w,wO fl fns k vc' (Qam fns k sts s).n (Qam fns k sts s).c)::Lg')→K (.c (.sl false 5 (Qk out))) H')→
 Ql prog Qd4 [.c (.ptr w 0),.c (.sl f5 5 (Qk sts)),.c (.int .i64 r.length)] H K
abbrev stX (op:Int)(nm:List UInt8)(a b c:C):Obj:=.st [.int .i64 op,.str nm,a,b,c]
theorem Qbck {w k x10 i many:Nat}{fl f5:Bool}{fns:List Fn}{x:St}{sts:List St}{outs:List St}{ars:List Ex}{nm:List UInt8}{t vc:C}{Lz Lg:List (Nat×Obj)}{e:Env}{Q:X→Env→Heap→Prop}{s1:Ck}{b1:List (List UInt8×Nat)}{r:Vars}
  (hN:∀n,n<x.size→StsW w k fl fns n) (hv:s1.v=b1::r) (hg:Gp Lg 3 (Qbd (b1::r)) vc) (hz:Gr Lz 5 (Qk outs) t) (ho:outs.length<2^38)
  (kn:Kn F H [] (((w,wO fl fns k vc s1.n s1.c)::Lg)++((x10,stX x.op nm (.sl false 4 (Qm ars)) (.sl false 5 (Qk x.body)) (.sl false 5 (Qk x.els)))::Lz)))
  (hrow:(Qbd (b1::r)).length≤s1.n) (hn:s1.n+Qj x.body+Qj x.els≤2^38) (hr:r.length+x.size≤2^38)
  (f0:lk 0 e=.c (.ptr w 0)) (f1:lk 1 e=.c (.sl f5 5 (Qk sts))) (f2:lk 2 e=.c (.int .i64 r.length)) (f7:lk 7 e=.c t) (f8:lk 8 e=.c (.int .i64 many)) (f9:lk 9 e=.c (.int .i64 i)) (f10:lk 10 e=.c (.ptr x10 0))
  (hQ:∀(s2 s3:Ck) H' out vc' Lg' Lz' t',Qam fns k x.body ⟨[]::s1.v,s1.c,s1.n⟩=s2→Qam fns k x.els ⟨[]::s1.v,s2.c,s2.n⟩=s3→Gp Lg' 3 (Qbd (b1::r)) vc'→Gr Lz' 5 (Qk (outs++[out])) t'→
   Kn F H' [] (((w,wO fl fns k vc' s3.n s3.c)::Lg')++Lz')→Q .nrm [(0,.c (.ptr w 0)),(1,.c (.sl f5 5 (Qk sts))),(2,.c (.int .i64 r.length)),(7,.c t'),(8,.c (.int .i64 many)),(9,.c (.int .i64 i))] H') :
  Qae prog Qin Q e H:=by
 have hto:=hz.isOw
 have hse:=x.size_eq
 have g10:=kn.getM
 have elen:((r.length:Int)+1)=(((b1::r).length:Nat):Int):=by simp
 obtain⟨s2,hs2⟩:∃s2,Qam fns k x.body ⟨[]::s1.v,s1.c,s1.n⟩=s2:=⟨_,rfl⟩
 obtain⟨s3,hs3⟩:∃s3,Qam fns k x.els ⟨[]::s1.v,s2.c,s2.n⟩=s3:=⟨_,rfl⟩
 have hn2:=Q2t fns k x.body ⟨[]::s1.v,s1.c,s1.n⟩
 rw[hs2]at hn2
 simp only at hn2
 refine Qa ?_
 simp only[go_sem,f0,f1,f2,f7,f8,f9,f10,g10,hto]
 refine⟨Qr (by omega) (by omega),?_⟩
 rw[elen]
 obtain⟨F',kn',back⟩:=kn.side
 refine hN (Qj x.body) (by omega) x.body false [] (b1::r) ⟨[]::s1.v,s1.c,s1.n⟩ vc Lg F' H _ (Nat.le_refl _) (by rw[hv]) (fun _=>rfl) (by rw[Qqa];exact hg) kn' (by rw[Qqa];exact hrow) (by show s1.n+_≤_;omega) (by simp only[List.length_cons];omega) fun out1 H1 vc1 Lg1 _ hg1 kn=>?_
 have hg1:=hg1 (by simp)
 rw[hs2]at kn
 have kn:=back _ _ kn
 clear back kn'
 have g10:=kn.getM
 simp only[go_sem,Qnx,f0,f1,f2,f7,f8,f9,f10,g10,hto]
 intro H2 h2
 have kn:=kn.stM h2
 have g10:=kn.getM
 refine Qa ?_
 simp only[go_sem,g10,hto]
 refine⟨Qr (by omega) (by omega),?_⟩
 rw[elen]
 obtain⟨F',kn',back⟩:=kn.side
 refine hN (Qj x.els) (by omega) x.els false [] (b1::r) ⟨[]::s1.v,s2.c,s2.n⟩ vc1 Lg1 F' H2 _ (Nat.le_refl _) (by rw[hv]) (fun _=>rfl) (by rw[Qqa];exact hg1) kn' (by rw[Qqa];show _≤s2.n;omega) (by show s2.n+_≤_;omega) (by simp only[List.length_cons];omega) fun out2 H3 vc2 Lg2 _ hg2 kn=>?_
 have hg2:=hg2 (by simp)
 rw[hs3]at kn
 have kn:=back _ _ kn
 clear back kn'
 have g10:=kn.getM
 simp only[go_sem,Qny,g10,hto]
 intro H4 h4
 have kn:=kn.stM h4
 have g10:=kn.getM
 refine Qp ?_
 simp only[go_sem,g10,hto]
 have kn:Kn F H4 [] ((((w,wO fl fns k vc2 s3.n s3.c)::Lg2)++[(x10,stX x.op nm (.sl false 4 (Qm ars)) (.sl false 5 (Qk out1)) (.sl false 5 (Qk out2)))])++Lz):=by
  rw[List.append_assoc];exact kn
 refine kn.growR hz (new:=[(St.mk x.op nm ars out1 out2).cells]) (.mk' _ true 5 _) (by simpa using (St.mk x.op nm ars out1 out2).noOw) (by simp only[Qo,List.length_cons,List.length_nil,LIM];omega) fun t' Lz' H5 hz' hto' kn=>?_
 rw[Qdr]at hz'
 simp only[go_sem,Qnz,hto']
 refine hQ s2 s3 H5 (St.mk x.op nm ars out1 out2) vc2 Lg2 Lz' t' hs2 hs3 hg2 hz' ?_
 refine kn.sub ?_
 rw[List.append_assoc]
 exact List.Sublist.append (List.Sublist.refl _) (List.sublist_append_right _ _)
theorem Qbi6 {w k x10 i many:Nat}{fl f5:Bool}{fns:List Fn}{x:St}{sts:List St}{outs:List St}{ars:List Ex}{t vc:C}{Lz Lg:List (Nat×Obj)}{e:Env}{Q:X→Env→Heap→Prop}{s:Ck}{b:List (List UInt8×Nat)}{r:Vars}
  (hN:∀n,n<x.size→StsW w k fl fns n) (hv:s.v=b::r) (hg:Gp Lg 3 (Qbd (b::r)) vc) (hz:Gr Lz 5 (Qk outs) t) (ho:outs.length<2^38)
  (kn:Kn F H [] (((w,wO fl fns k vc s.n (Qa1 fns k (b::r) (Qaf x.args) s.c))::Lg)++((x10,stX x.op x.name (.sl false 4 (Qm ars)) (.sl false 5 (Qk x.body)) (.sl false 5 (Qk x.els)))::Lz)))
  (hrow:(Qbd (b::r)).length≤s.n) (hn:s.n+x.size≤2^38) (hr:r.length+x.size≤2^38)
  (f0:lk 0 e=.c (.ptr w 0)) (f1:lk 1 e=.c (.sl f5 5 (Qk sts))) (f2:lk 2 e=.c (.int .i64 r.length)) (f7:lk 7 e=.c t) (f8:lk 8 e=.c (.int .i64 many)) (f9:lk 9 e=.c (.int .i64 i)) (f10:lk 10 e=.c (.ptr x10 0))
  (hQ:∀H' out vc' Lg' Lz' t' b1,(x.ck fns k s).v=b1::r→Gp Lg' 3 (Qbd (b1::r)) vc'→(Qbd (b1::r)).length≤(x.ck fns k s).n→Gr Lz' 5 (Qk (outs++[out])) t'→
   Kn F H' [] (((w,wO fl fns k vc' (x.ck fns k s).n (x.ck fns k s).c)::Lg')++Lz')→Q .nrm [(0,.c (.ptr w 0)),(1,.c (.sl f5 5 (Qk sts))),(2,.c (.int .i64 r.length)),(7,.c t'),(8,.c (.int .i64 many)),(9,.c (.int .i64 i))] H') :
  Qae prog Qpi Q e H:=by
 have hto:=hz.isOw
 have hse:=x.size_eq
 have how:=hg.isOw
 have g10:=kn.getM
 obtain⟨s1,hs1⟩:∃s1,stC fns k x.op x.name x.args s=s1:=⟨_,rfl⟩
 have hn1:=Qbkp fns k x.op x.name x.args s
 have hr1:=Qbfs fns k x.op x.name x.args s hv hrow
 obtain⟨b1,hv1⟩:=Qbft fns k x.op x.name x.args s hv
 have hc1:=Qbgn fns k x.op x.name x.args s
 rw[hs1]at hn1 hr1 hv1 hc1
 rw[hv1]at hr1
 rw[hv]at hc1
 have hck:=x.ck_eq fns k s
 rw[hs1]at hck
 have tail:∀(H1:Heap) (e1:Env) (nm:List UInt8) (vc1:C) (Lg1:List (Nat×Obj)),Gp Lg1 3 (Qbd (b1::r)) vc1→
   Kn F H1 [] (((w,wO fl fns k vc1 s1.n s1.c)::Lg1)++((x10,stX x.op nm (.sl false 4 (Qm ars)) (.sl false 5 (Qk x.body)) (.sl false 5 (Qk x.els)))::Lz))→
   lk 0 e1=.c (.ptr w 0)→lk 1 e1=.c (.sl f5 5 (Qk sts))→lk 2 e1=.c (.int .i64 r.length)→lk 7 e1=.c t→lk 8 e1=.c (.int .i64 many)→lk 9 e1=.c (.int .i64 i)→lk 10 e1=.c (.ptr x10 0)→
   Qae prog Qin Q e1 H1:=by
  intro H1 e1 nm vc1 Lg1 hg1 kn f0 f1 f2 f7 f8 f9 f10
  refine Qbck hN hv1 hg1 hz ho kn hr1 (by omega) hr f0 f1 f2 f7 f8 f9 f10 fun s2 s3 H' out vc' Lg' Lz' t' e2 e3 hg' hz' kn=>?_
  rw[e2,e3]at hck
  refine hQ H' out vc' Lg' Lz' t' b1 (by rw[hck];exact hv1) hg' ?_ hz' (by rw[hck];exact kn)
  have:=(St.ck_n fns k x s).1
  rw[hck]at this⊢
  have h2:=Q2t fns k x.body ⟨[]::s1.v,s1.c,s1.n⟩
  have h3:=Q2t fns k x.els ⟨[]::s1.v,s2.c,s2.n⟩
  rw[e2]at h2
  rw[e3]at h3
  simp only at h2 h3⊢
  omega
 refine Qu ?_
 refine Qa ?_
 simp only[go_sem,f0,f1,f2,f7,f8,f9,f10,g10,hto]
 refine Qe (Qb rfl ?_ ?_)
 ·intro hc
  have h1:x.op=1:=by simpa using hc
  have es1:s1=⟨((x.name,s.n)::b)::r,Qcm (Qa1 fns k (b::r) (Qaf x.args) s.c) (if Qen (b::r) x.name then 2 else 0),s.n+1⟩:=by
   rw[←hs1,stC,if_pos h1,hv];rfl
  rw[es1]at tail hv1
  simp only[List.cons.injEq]at hv1
  obtain⟨hb1,_⟩:=hv1
  subst hb1
  refine Qp ?_
  simp only[go_sem,g10,hto]
  obtain⟨F',kn',back⟩:=kn.side
  refine Qbcl hg kn' (by omega) (by simp only[LIM];omega) fun t2 H1 vc1 Lg1 hg1 kn=>?_
  have kn:=back _ _ kn
  have g10:=kn.getM
  simp only[go_sem,Qpn,g10,hto]
  intro H2 h2
  have kn:=kn.stM h2
  have g10:=kn.getM
  try simp only[go_sem,AE.X.next,hto]
  refine Qu ?_
  refine Qa ?_
  simp only[go_sem,g10,hto]
  refine Qe (Qb rfl (fun h=>?_) (fun _=>?_))
  ·have:=of_decide_eq_true h;omega
  ·refine Qd ?_
   try simp only[go_sem,AE.X.next,hto]
   exact tail _ _ t2 vc1 Lg1 hg1 kn rfl rfl rfl rfl rfl rfl rfl
 ·intro hc
  have h1:¬x.op=1:=by simpa using hc
  refine Qd ?_
  try simp only[go_sem,AE.X.next,hto]
  refine Qu ?_
  refine Qa ?_
  simp only[go_sem,g10,hto]
  refine Qe (Qb rfl ?_ ?_)
  ·intro hc2
   have h2:x.op=2:=by simpa using hc2
   have es1:s1=⟨b::r,Qcm (Qa1 fns k (b::r) (Qaf x.args) s.c) (if (Vars.find (b::r) x.name).isSome then 0 else 3),s.n⟩:=by
    rw[←hs1,stC,if_neg h1,if_pos h2,hv]
   rw[es1]at tail hv1
   simp only[List.cons.injEq]at hv1
   obtain⟨hb1,_⟩:=hv1
   subst hb1
   refine Qp ?_
   simp only[go_sem,g10,hto]
   refine Qbcn how (kn.l 0 rfl) (hg.slc fun p hp=>(kn.get p (by simp[hp])).1) fun t2 H1 hu=>?_
   have kn:Kn F H1 [] (((w,wO fl fns k vc s.n (Qcm (Qa1 fns k (b::r) (Qaf x.args) s.c) (if (Vars.find (b::r) x.name).isSome then 0 else 3)))::Lg)++((x10,stX x.op x.name (.sl false 4 (Qm ars)) (.sl false 5 (Qk x.body)) (.sl false 5 (Qk x.els)))::Lz)):=kn.callL 0 rfl hu (by nofun)
   have g10:=kn.getM
   simp only[go_sem,Qpo,g10,hto]
   intro H2 h2
   have kn:=kn.stM h2
   try simp only[go_sem,AE.X.next,hto]
   exact tail _ _ t2 vc Lg hg kn rfl rfl rfl rfl rfl rfl rfl
  ·intro hc2
   have h2:¬x.op=2:=by simpa using hc2
   have es1:s1=⟨b::r,Qa1 fns k (b::r) (Qaf x.args) s.c,s.n⟩:=by
    rw[←hs1,stC,if_neg h1,if_neg h2,hv]
   rw[es1]at tail hv1
   simp only[List.cons.injEq]at hv1
   obtain⟨hb1,_⟩:=hv1
   subst hb1
   refine Qd ?_
   try simp only[go_sem,AE.X.next,hto]
   exact tail _ _ x.name vc Lg hg kn rfl rfl rfl rfl rfl rfl rfl
theorem Qbcm (w k:Nat)(fl:Bool)(fns:List Fn):∀n,StsW w k fl fns n:=by
 intro n
 induction n using Nat.strongRecOn with
 |_ n ih=>
 intro sts f5 b r s vc Lg F H K hn hsv hbr hg kn hrow hsn hrl hK
 have how:=hg.isOw
 have hslen:=Qeg sts
 refine Qa7v ?_
 refine Qc Qah Qajw ?_
 refine Qa ?_
 simp only[go_sem]
 refine Qa ?_
 simp only[go_sem]
 have gw:=kn.l 0 rfl
 have hs0:=hg.slc fun p hp=>(kn.get p (by simp[hp])).1
 have hok0:=eq_true hs0.ok
 have hln0:=hs0.len
 refine Qa ?_
 simp only[go_sem,gw,how,hok0,hln0]
 intro hl0
 simp only[LIM]at hl0
 refine Qu ?_
 refine Qa ?_
 simp only[go_sem]
 refine Qe (Qf (Qy (fun m e1 H1=>∃(i:Nat) (outs:List St) (Lz Lgi:List (Nat×Obj)) (t vci:C) (bi:List (List UInt8×Nat)),m=sts.length-i∧i≤sts.length∧(Qam fns k (sts.take i) s).v=bi::r∧Gr Lz 5 (Qk outs) t∧outs.length=i∧
   Gp Lgi 3 (Qbd (bi::r)) vci∧(Qbd (bi::r)).length≤(Qam fns k (sts.take i) s).n∧Kn F H1 [] (((w,wO fl fns k vci (Qam fns k (sts.take i) s).n (Qam fns k (sts.take i) s).c)::Lgi)++Lz)∧
   e1=[(0,.c (.ptr w 0)),(1,.c (.sl f5 5 (Qk sts))),(2,.c (.int .i64 r.length)),(7,.c t),(8,.c (.int .i64 (Qbd (b::r)).length)),(9,.c (.int .i64 i))]) sts.length ?_ ?_))
 ·exact⟨0,[],[],Lg,.sl true 5 [],vc,b,by omega,by omega,by simpa[Qam]using hsv,.nil 5,rfl,hg,by simpa[Qam]using hrow,by simpa[Qam]using kn,rfl⟩
 ·clear kn gw hs0 hok0 hln0
  rintro m e1 H1 ⟨i,outs,Lz,Lgi,t,vci,bi,hm,hi,hvi,hz,hol,hgi,hri,kn,rfl⟩
  have hni:=Q2t fns k (sts.take i) s
  have hsl:=Qg9 sts i
  obtain⟨si,hsi⟩:∃si,Qam fns k (sts.take i) s=si:=⟨_,rfl⟩
  rw[hsi]at hvi kn hri hni
  have hto:=hz.isOw
  have howi:=hgi.isOw
  refine Qu ?_
  refine Qa ?_
  simp only[go_sem,hto,Qo]
  intro hl
  simp only[LIM]at hl
  refine Qe (Qb rfl ?_ ?_)
  ·intro hc
   have hlt:i<sts.length:=by simpa using hc
   have hms:=Qak (List.getElem_mem hlt)
   obtain⟨x,hx⟩:∃x,sts[i]=x:=⟨_,rfl⟩
   have htk:=Qaos fns k hlt s
   have hst:=Q99 hlt
   have hsl2:=Qg9 sts (i+1)
   rw[hx]at hms hst
   rw[hsi,hx]at htk
   have hse:=x.size_eq
   refine Qd ?_
   try simp only[go_sem]
   refine Qe (Qf ?_)
   refine Qa ?_
   simp only[go_sem,hto,hlt,Qo,Q4 _ _ hlt,hx,x.cells_eq]
   intro x10 hx10 H3 h3
   have kn:Kn F H3 [] (((w,wO fl fns k vci si.n si.c)::Lgi)++((x10,stX 0 [] (.sl true 4 []) (.sl true 5 []) (.sl true 5 []))::Lz)):=(kn.al hx10 h3).perm (by
    rw[List.append_assoc]
    exact List.Perm.append_left _ (List.perm_append_comm (l₁:=Lz) (l₂:=[(x10,_)])))
   have g10:=kn.getM
   simp only[go_sem,Qpk,g10,hto]
   intro H4 h4
   have kn:Kn F H4 [] (((w,wO fl fns k vci si.n si.c)::Lgi)++((x10,stO x)::Lz)):=kn.stM h4
   have g10:=kn.getM
   refine Qa ?_
   simp only[go_sem,hto]
   refine Qu ?_
   refine Qa ?_
   simp only[go_sem,hto]
   refine Qe (Qf (Qy (fun m e2 H5=>∃(j:Nat) (ars:List Ex) (La:List (Nat×Obj)) (ta:C),m=x.args.length-j∧j≤x.args.length∧Gr La 4 (Qm ars) ta∧ars.length=j∧
    Kn F H5 [] ((((w,wO fl fns k vci si.n (Qa1 fns k (bi::r) (Qaf (x.args.take j)) si.c))::Lgi)++((x10,stO x)::Lz))++La)∧
    e2=[(0,.c (.ptr w 0)),(1,.c (.sl f5 5 (Qk sts))),(2,.c (.int .i64 r.length)),(7,.c t),(8,.c (.int .i64 (Qbd (b::r)).length)),(9,.c (.int .i64 i)),(10,.c (.ptr x10 0)),(11,.c ta),(12,.c (.int .i64 j))]) x.args.length ?_ ?_))
   ·exact⟨0,[],[],.sl true 4 [],by omega,by omega,.nil 4,rfl,by simpa[Qaf,Qa1]using kn,rfl⟩
   ·clear kn g10 h4 h3
    rintro m2 e2 H5 ⟨j,ars,La,ta,hm2,hj,hga,hars,kn,rfl⟩
    have hao:=hga.isOw
    have kn2:Kn F H5 [] (((w,wO fl fns k vci si.n (Qa1 fns k (bi::r) (Qaf (x.args.take j)) si.c))::Lgi)++((x10,stO x)::(Lz++La))):=by
     rw[List.append_assoc]at kn;exact kn
    have g10:=kn2.getM
    refine Qu ?_
    refine Qa ?_
    simp only[go_sem,hto,hao,g10,Qh]
    intro hl2
    simp only[LIM]at hl2
    refine Qe (Qb rfl ?_ ?_)
    ·intro hc2
     have hlt2:j<x.args.length:=by simpa using hc2
     have hms2:=Qac (List.getElem_mem hlt2)
     obtain⟨y,hy⟩:∃y,x.args[j]=y:=⟨_,rfl⟩
     have htk2:=Qmb hlt2
     rw[hy]at hms2 htk2
     refine Qd ?_
     try simp only[go_sem]
     refine Qe (Qf ?_)
     refine Qp ?_
     simp only[go_sem,hto,hao,g10,hlt2,Qh,Q6 _ _ hlt2,hy,y.cells_eq]
     have hE:=fun K=>Qbgf (k:=k) (w:=w) (cnt:=si.n) (fl:=fl) (fns:=fns) hgi y.size y (Qa1 fns k (bi::r) (Qaf (x.args.take j)) si.c) H5 K
     rw[y.cells_eq]at hE
     have hnd:(w::Lgi.map Prod.fst).Nodup:=by
      have:=kn2.dL
      rw[List.map_append]at this
      exact (List.nodup_append.1 this).1
     refine hE _ (Nat.le_refl _) (by omega) hnd (fun p hp=>(kn2.get p (by simp only[List.nil_append];exact List.mem_append_left _ hp)).1) fun z H6 hu=>?_
     have kn:=Kn.callLs (L:=(w,wO fl fns k vci si.n (Qa1 fns k (bi::r) (Qaf (x.args.take j)) si.c))::Lgi) (M:=(x10,stO x)::(Lz++La)) kn2 hu rfl (by
      intro p hp
      rcases List.mem_cons.1 hp with rfl|hp
      ·nofun
      ·exact hgi.ne p hp)
     simp only[go_sem,Qpm,hto,hao,z.cells_len]
     have kn:Kn F H6 [] ((((w,wO fl fns k vci si.n (Qa1 fns k (bi::r) y.pre (Qa1 fns k (bi::r) (Qaf (x.args.take j)) si.c)))::Lgi)++((x10,stO x)::Lz))++La):=by
      rw[List.append_assoc];exact kn
     refine kn.growR hga (.mk' _ true 4 _) (by simpa using z.noOw) (by simp only[Qh,List.length_cons,List.length_nil,LIM];omega) fun ta' La' H7 hga' hao' kn=>?_
     rw[Qei]at hga'
     simp only[go_sem,Qpl,hto,hao']
     refine Qp ?_
     simp only[go_sem,AE.X.next,hto,hao']
     refine⟨Qr (by omega) (by omega),x.args.length-(j+1),by omega,j+1,ars++[z],La',ta',rfl,by omega,hga',by simp[hars],?_,rfl⟩
     rw[htk2,Q55]
     exact kn
    ·intro hc2
     have hge2:x.args.length≤j:=by simpa using hc2
     rw[List.take_of_length_le hge2]at kn
     refine Qt ?_
     simp only[go_sem,AE.X.next]
     obtain⟨S,H6,f1,f2,kn⟩:=hga.freeze kn (Qbp _)
     refine Qu ?_
     refine c_gh (Qa4u S (Qbjs ?_) f2) (e':=[(0,.c (.ptr w 0)),(1,.c (.sl f5 5 (Qk sts))),(2,.c (.int .i64 r.length)),(7,.c t),(8,.c (.int .i64 (Qbd (b::r)).length)),(9,.c (.int .i64 i)),(10,.c (.ptr x10 0)),(11,.c (.sl false 4 (Qm ars)))]) ?_
     ·intro p hp
      simp only[List.mem_cons,List.not_mem_nil,or_false]at hp
      rcases hp with rfl|rfl|rfl|rfl|rfl|rfl|rfl|rfl
      ·exact .c _ _ (.same _ rfl)
      ·exact .c _ _ (.same _ rfl)
      ·exact .c _ _ (.same _ rfl)
      ·exact .c _ _ (.same _ hto)
      ·exact .c _ _ (.same _ rfl)
      ·exact .c _ _ (.same _ rfl)
      ·exact .c _ _ (.same _ rfl)
      ·exact .c _ _ f1
     have g10:=kn.getM
     refine Qa ?_
     simp only[go_sem,hto,g10]
     intro H7 h7
     have kn:=kn.stM h7
     refine Qbi6 (fun n' hn'=>ih n' (by omega)) hvi hgi hz (by omega) kn hri (by omega) (by omega) rfl rfl rfl rfl rfl rfl rfl fun H8 out vc8 Lg8 Lz8 t8 b8 hv8 hg8 hr8 hz8 kn=>?_
     have hto8:=hz8.isOw
     simp only[go_sem,AE.X.next,hto8]
     refine Qp ?_
     simp only[go_sem,AE.X.next,hto8]
     refine⟨Qr (by omega) (by omega),sts.length-(i+1),by omega,i+1,outs++[out],Lz8,Lg8,t8,vc8,b8,rfl,by omega,?_,hz8,by simp[hol],hg8,?_,?_,rfl⟩
     ·rw[htk];exact hv8
     ·rw[htk];exact hr8
     ·rw[htk];exact kn
  ·intro hc
   have hge:sts.length≤i:=by simpa using hc
   rw[List.take_of_length_le hge]at hsi
   have gw:=kn.l 0 rfl
   have hsi2:=hgi.slc fun p hp=>(kn.get p (by simp[hp])).1
   have hoki:=eq_true hsi2.ok
   have hlni:=hsi2.len
   have hszi:=hsi2.sz
   refine Qt ?_
   simp only[go_sem,AE.X.next]
   have fin:∀(H':Heap) (e':Env) (vc':C),(r=[]→Gp Lgi 3 (Qbd si.v) vc')→(r≠[]→Gp Lgi 3 (Qbd r) vc')→Kn F H' [] (((w,wO fl fns k vc' si.n si.c)::Lgi)++Lz)→lk 7 e'=.c t→Qae prog Qpj (Qq Quj (finK K)) e' H':=by
    intro H' e' vc' h1 h2 kn f7
    refine Qa ?_
    simp only[go_sem,f7,hto]
    refine Qg ?_
    simp only[go_sem,Qq,Qz,Quj,List.mem_singleton,forall_eq,RS.op,hto]
    obtain⟨S,H6,f1,f2,kn⟩:=hz.freeze kn (Qa8 _)
    refine⟨S,_,H6,.c _ _ f1,f2,?_⟩
    rw[hsi]at hK
    exact hK outs H6 vc' Lgi h1 h2 kn
   refine Qu ?_
   refine Qa ?_
   simp only[go_sem,hto]
   refine Qe (Qb rfl ?_ ?_)
   ·intro hc2
    have hr0:r≠[]:=by
     intro h;rw[h]at hc2;simp at hc2
    have hb0:=hbr hr0
    rw[hb0,Qqa]
    have hle:=Qbge bi r
    have hcut:=hgi.cut hle
    rw[Qa7o]at hcut
    refine Qp ?_
    simp only[go_sem,gw,howi,hto,hoki,hlni,hszi,bnds,Option.map_none,Option.map_some,Option.getD_none,Option.getD_some]
    refine⟨⟨by omega,by omega⟩,?_⟩
    intro H7 h7
    have hco:=hcut.isOw
    have kn:=kn.stL 0 rfl h7
    try simp only[go_sem,AE.X.next,hto]
    exact fin _ _ _ (fun h=>absurd h hr0) (fun _=>hcut) kn rfl
   ·intro hc2
    have hr0:r=[]:=by
     cases hr:r with
     |nil=>rfl
     |cons a q=>rw[hr]at hc2;simp only[List.length_cons,decide_eq_false_iff_not]at hc2;omega
    refine Qd ?_
    try simp only[go_sem,AE.X.next,hto]
    exact fin _ _ vci (fun _=>by rw[hvi];exact hgi) (fun h=>absurd hr0 h) kn rfl
end Go.AE.Y

